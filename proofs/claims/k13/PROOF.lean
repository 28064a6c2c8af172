import PyProof.Rows.All
import HandS.ForMost
import HandS.ForExc
import HandS.IsInst
import HandS.Zip
import HandS.Walk
import HandS.Wide
import HandS.TupAny
import HandS.TupMul
import HandS.SortInts
import HandS.SortRule
import HandS.Lambda
import HandS.ExcCtx
import HandS.Style
import KE.GoesEnum
import PyProof.Rows.SeqMore
import KE.KDictSum
import HandS.WordsDict
import HandS.HotCalls
import HandS.TryMany
import KE.GoesZip
import HandS.ExcIs
import HandS.ExcField
import HandS.ExcInit
import HandS.EndTab
import HandS.ClsMeth
import HandS.EndOwn
import HandS.SetFor
import HandS.Strs
import PySem.Challenge.RW_rollcap_k13_whole_useless_kinds
set_option Elab.async false
set_option linter.all false
set_option maxRecDepth 100000
set_option autoImplicit false
set_option maxHeartbeats 4000000
namespace R
open PySem PySem.Spec L2
open PyProof.Rows hiding St

abbrev D := PyData
/-- the tables of code objects at which lambdas are made, with their names -/
class Tb where
  tabs : List (Addr × Str)
  nd : (tabs.map (·.1)).Nodup
  /-- dicts of exceptions that are being handled -/
  xds : List (Addr × List (Str × V)) := []
abbrev tA [T : Tb] : List Addr := T.tabs.map (·.1)
abbrev Tabl [T : Tb] (H : Hp) : Prop := LamX.Tabs T.tabs H ∧ ∀ p ∈ T.xds, H p.1 = some (.xd p.2)
/-! ### heaps with hidden places -/
open Classical in
noncomputable def hide (H : Hp) (S : Addr → Prop) : Hp := fun a => if S a then none else H a
theorem hide_eq {H : Hp} {S : Addr → Prop} {a : Addr} {o : HO} : hide H S a = some o ↔ ¬ S a ∧ H a = some o := by
  unfold hide
  by_cases h : S a
  · rw [if_pos h]; simp [h]
  · rw [if_neg h]; simp [h]
theorem hide_mono {H H' : Hp} {S S' : Addr → Prop} (h : ∀ a o, ¬ S a → H a = some o → ¬ S' a ∧ H' a = some o) : Same (hide H S) (hide H' S') := fun a o e => by
  obtain ⟨n, e⟩ := hide_eq.mp e
  exact hide_eq.mpr (h a o n e)
theorem hide_sub {H : Hp} {S : Addr → Prop} : Same (hide H S) H := fun a o e => (hide_eq.mp e).2
theorem sameT {K : PySem.W.Frag} {H H' : Hp} {a : Addr} {xs : List V} (e : Same H H') (h : SqT K H a xs) : SqT K H' a xs := by
  rcases h with (h | ⟨o, h⟩) | h
  · exact .inl (.inl (e _ _ h))
  · exact .inl (.inr ⟨o, e _ _ h⟩)
  · exact .inr h
theorem rd_mono {H H' : Hp} {a : Addr} {u : HO} (e : Same H H') (h : Rd H a u) : Rd H' a u := by
  rcases h with h | ⟨o, h⟩
  · exact .inl (e _ _ h)
  · exact .inr ⟨o, e _ _ h⟩
/-! data on the heap: tracked, or locked (the script) -/
mutual
inductive Dq (H : Hp) : V → D → Prop
  | non : Dq H .non .none
  | bl (b : Bool) : Dq H (.bl b) (.bool b)
  | int (i : Int) : Dq H (.int i) (.int i)
  | str (x : Str) : Dq H (.str x) (.str x)
  | lst {a : Addr} {xs : List V} {ds : List D} : Rd H a (.lst xs) → DqA H xs ds → Dq H (.ref a) (.list ds)
  | tup {a : Addr} {xs : List V} {ds : List D} : H a = some (.tup xs) → DqA H xs ds → Dq H (.ref a) (.tuple ds)
inductive DqA (H : Hp) : List V → List D → Prop
  | nil : DqA H [] []
  | cons {v : V} {vs : List V} {d : D} {ds : List D} : Dq H v d → DqA H vs ds → DqA H (v :: vs) (d :: ds)
end
mutual
theorem dp_mono {H H' : Hp} (e : Same H H') : ∀ {v : V} {d : D}, Dq H v d → Dq H' v d
  | _, _, .non => .non
  | _, _, .bl b => .bl b
  | _, _, .int i => .int i
  | _, _, .str x => .str x
  | _, _, .lst hs ha => .lst (rd_mono e hs) (dpa_mono e ha)
  | _, _, .tup hs ha => .tup (e _ _ hs) (dpa_mono e ha)
theorem dpa_mono {H H' : Hp} (e : Same H H') : ∀ {vs : List V} {ds : List D}, DqA H vs ds → DqA H' vs ds
  | _, _, .nil => .nil
  | _, _, .cons h t => .cons (dp_mono e h) (dpa_mono e t)
end
mutual
theorem Dq.dp {K : PySem.W.Frag} {H : Hp} : ∀ {v : V} {d : D}, Dq H v d → Dp K H v d
  | _, _, .non => .non
  | _, _, .bl b => .bl b
  | _, _, .int i => .int i
  | _, _, .str x => .str x
  | _, _, .lst hs ha => .lst (.inl hs) (DqA.dp ha)
  | _, _, .tup hs ha => .tup (.inl (.inl hs)) (DqA.dp ha)
theorem DqA.dp {K : PySem.W.Frag} {H : Hp} : ∀ {vs : List V} {ds : List D}, DqA H vs ds → DpAll K H vs ds
  | _, _, .nil => .nil
  | _, _, .cons h t => .cons (Dq.dp h) (DqA.dp t)
end
theorem dpa_len {H : Hp} : ∀ {vs : List V} {ds : List D}, DqA H vs ds → vs.length = ds.length
  | _, _, .nil => rfl
  | _, _, .cons _ t => by simp [dpa_len t]
theorem dpa_get {H : Hp} : ∀ {vs : List V} {ds : List D} {i : Nat} {d : D}, DqA H vs ds → ds[i]? = some d → ∃ v, vs[i]? = some v ∧ Dq H v d
  | _, _, i, _, .nil, h => by simp at h
  | _, _, 0, _, .cons h _, e => by simp at e; subst e; exact ⟨_, rfl, h⟩
  | _, _, i + 1, _, .cons _ t, e => by
    obtain ⟨v, h1, h2⟩ := dpa_get (i := i) t (by simpa using e)
    exact ⟨v, by simpa using h1, h2⟩
theorem dpa_get' {H : Hp} : ∀ {vs : List V} {ds : List D} {i : Nat} {v : V}, DqA H vs ds → vs[i]? = some v → ∃ d, ds[i]? = some d ∧ Dq H v d
  | _, _, i, _, .nil, h => by simp at h
  | _, _, 0, _, .cons h _, e => by simp at e; subst e; exact ⟨_, rfl, h⟩
  | _, _, i + 1, _, .cons _ t, e => by
    obtain ⟨v, h1, h2⟩ := dpa_get' (i := i) t (by simpa using e)
    exact ⟨v, by simpa using h1, h2⟩
theorem dpa_app {H : Hp} : ∀ {vs ws : List V} {ds es : List D}, DqA H vs ds → DqA H ws es → DqA H (vs ++ ws) (ds ++ es)
  | _, _, _, _, .nil, h => h
  | _, _, _, _, .cons h t, k => .cons h (dpa_app t k)
theorem dpa_take {H : Hp} : ∀ {vs : List V} {ds : List D} (n : Nat), DqA H vs ds → DqA H (vs.take n) (ds.take n)
  | _, _, 0, _ => by simpa using .nil
  | _, _, _ + 1, .nil => .nil
  | _, _, n + 1, .cons h t => .cons h (dpa_take n t)
theorem dpa_drop {H : Hp} : ∀ {vs : List V} {ds : List D} (n : Nat), DqA H vs ds → DqA H (vs.drop n) (ds.drop n)
  | _, _, 0, h => by simpa using h
  | _, _, _ + 1, .nil => .nil
  | _, _, n + 1, .cons _ t => by simpa using dpa_drop n t
theorem dpa_set {H : Hp} {v : V} {d : D} (hv : Dq H v d) : ∀ {vs : List V} {ds : List D} (n : Nat), DqA H vs ds → DqA H (vs.set n v) (ds.set n d)
  | _, _, _, .nil => .nil
  | _, _, 0, .cons _ t => .cons hv t
  | _, _, n + 1, .cons h t => .cons h (dpa_set hv n t)
theorem dpa_ints {H : Hp} : ∀ {vs : List V} {ns : List Int}, DqA H vs (ns.map .int) → vs = ns.map V.int
  | _, [], .nil => rfl
  | _, _ :: _, .cons (.int i) t => by simp [dpa_ints t]
theorem ints_dpa {H : Hp} : ∀ ns : List Int, DqA H (ns.map V.int) (ns.map .int)
  | [] => .nil
  | i :: r => .cons (.int i) (ints_dpa r)
theorem dpa_bls {H : Hp} : ∀ {vs : List V} {ns : List Bool}, DqA H vs (ns.map .bool) → vs = ns.map V.bl
  | _, [], .nil => rfl
  | _, _ :: _, .cons (.bl i) t => by simp [dpa_bls t]

/-! ### slots -/
/-- what a slot holds: nothing known; data (never changed any more); a list of one's own; a caller's list; a dict of one's own; the law's script -/
inductive Sl where
  | un | dat (d : D) | ls (l : List D) | rf (k : Nat) (l : List D) | dk (kvs : List (Key × D)) | scr (ns : List Int) | fn (x : Str) | pv (P : V → Prop)
abbrev Rho := List Sl
def Sl.own : Sl → Bool
  | .ls _ => true
  | .dk _ => true
  | _ => false
def Sl.pin : Sl → Bool
  | .rf _ _ => true
  | _ => false
def OwnAt (ρ : Rho) (σ : St) (i : Nat) (p : Addr) : Prop := ∃ sl, ρ[i]? = some sl ∧ sl.own = true ∧ σ[i]? = some (some (.ref p))
def Own (ρ : Rho) (σ : St) (p : Addr) : Prop := ∃ i, OwnAt ρ σ i p
def Hid (fx : List Addr) (ρ : Rho) (σ : St) (p : Addr) : Prop := p ∈ fx ∨ Own ρ σ p
def Bad (fx : List Addr) (B : Addr → Prop) (ρ : Rho) (σ : St) (p : Addr) : Prop := p ∈ fx ∨ B p ∨ Own ρ σ p
def DpKV (H : Hp) (kv : List (Key × V)) (kd : List (Key × D)) : Prop := kv.map (·.1) = kd.map (·.1) ∧ DqA H (kv.map (·.2)) (kd.map (·.2))
def SlotOk (K : PySem.W.Frag) (H : Hp) (fx : List Addr) (S : Addr → Prop) (ov : Option V) : Sl → Prop
  | .un => True
  | .dat d => ∃ v, ov = some v ∧ Dq (hide H S) v d
  | .ls l => ∃ p vs, ov = some (.ref p) ∧ H p = some (.lst vs) ∧ DqA (hide H S) vs l
  | .rf k l => ∃ p vs, ov = some (.ref p) ∧ fx[k]? = some p ∧ H p = some (.lst vs) ∧ DqA (hide H S) vs l
  | .dk kd => ∃ p kv, ov = some (.ref p) ∧ H p = some (.dK kv) ∧ DpKV (hide H S) kv kd
  | .scr ns => ∃ p, ov = some (.ref p) ∧ SqL K (hide H S) p (ns.map V.int)
  | .fn x => ∃ p, ov = some (.ref p) ∧ PySem.W.nsIn K mainGlobals x = some (some (.ref p))
  | .pv P => ∃ v, ov = some v ∧ P v
structure Abs [Tb] (K : PySem.W.Frag) (Hb : Hp) (fx : List Addr) (B : Addr → Prop) (ρ : Rho) (σ : St) (H : Hp) : Prop where
  len : ρ.length = σ.length
  same : Same Hb (hide H (Hid fx ρ σ))
  slot : ∀ (i : Nat) (sl : Sl), ρ[i]? = some sl → SlotOk K H fx (Bad fx B ρ σ) (σ.getD i none) sl
  inj : ∀ i j p, OwnAt ρ σ i p → OwnAt ρ σ j p → i = j
  fxn : ∀ p, Own ρ σ p → p ∉ fx
  fxd : fx.Nodup
  fxp : ∀ p ∈ fx, H p ≠ none
  rfi : ∀ (i j k : Nat) (l m : List D), ρ[i]? = some (Sl.rf k l) → ρ[j]? = some (Sl.rf k m) → i = j
  bpr : ∀ p, B p → H p ≠ none ∧ ¬ Hid fx ρ σ p
  tfx : ∀ p ∈ tA, p ∈ fx
  tab : Tabl H

section
variable [Tb] {K : PySem.W.Frag} {Hb Hb' H H' : Hp} {fx : List Addr} {B B' : Addr → Prop} {ρ ρ' : Rho} {σ σ' : St} {p : Addr} {o : HO}
omit [Tb] in
theorem SlotOk.mono {S S' : Addr → Prop} {ov : Option V} {sl : Sl} (h : ∀ a o, ¬ S a → H a = some o → ¬ S' a ∧ H' a = some o)
    (hl : ∀ p, sl.own = true → ov = some (.ref p) → H' p = H p) (hf : ∀ p, sl.pin = true → ov = some (.ref p) → p ∈ fx → H' p = H p) (x : SlotOk K H fx S ov sl) : SlotOk K H' fx S' ov sl := by
  have m := hide_mono h
  cases sl with
  | un => trivial
  | dat d => obtain ⟨v, e, q⟩ := x; exact ⟨v, e, dp_mono m q⟩
  | ls l => obtain ⟨p, vs, e, e2, q⟩ := x; exact ⟨p, vs, e, (hl p rfl e).trans e2, dpa_mono m q⟩
  | rf k l => obtain ⟨p, vs, e, ef, e2, q⟩ := x; exact ⟨p, vs, e, ef, (hf p rfl e (List.mem_of_getElem? ef)).trans e2, dpa_mono m q⟩
  | dk kd => obtain ⟨p, kv, e, e2, q1, q2⟩ := x; exact ⟨p, kv, e, (hl p rfl e).trans e2, q1, dpa_mono m q2⟩
  | scr ns => obtain ⟨p, e, q⟩ := x; exact ⟨p, e, m.seq q⟩
  | fn y => exact x
  | pv y => exact x
omit [Tb] in
theorem SlotOk.there {S : Addr → Prop} {ov : Option V} {sl : Sl} (x : SlotOk K H fx S ov sl) (h : sl.own = true) : ∃ p o, ov = some (.ref p) ∧ H p = some o := by
  cases sl with
  | ls l => obtain ⟨p, vs, e, e2, q⟩ := x; exact ⟨p, _, e, e2⟩
  | dk kd => obtain ⟨p, kv, e, e2, q1, q2⟩ := x; exact ⟨p, _, e, e2⟩
  | un => cases h
  | dat d => cases h
  | rf k l => cases h
  | scr ns => cases h
  | fn y => cases h
  | pv y => cases h
omit [Tb] in
theorem getD_of {σ : St} {i : Nat} {v : V} (h : σ[i]? = some (some v)) : σ.getD i none = some v := by
  rw [List.getD_eq_getElem?_getD, h]; rfl
omit [Tb] in
theorem of_getD {σ : St} {i : Nat} {v : V} (h : σ.getD i none = some v) : σ[i]? = some (some v) := by
  rw [List.getD_eq_getElem?_getD] at h
  cases q : σ[i]? with
  | none => rw [q] at h; cases h
  | some x => rw [q] at h; simp at h; rw [h]
theorem Abs.own_there (A : Abs K Hb fx B ρ σ H) (h : Own ρ σ p) : ∃ o, H p = some o := by
  obtain ⟨i, sl, e1, e2, e3⟩ := h
  obtain ⟨q, o, e4, e5⟩ := (A.slot i sl e1).there e2
  rw [getD_of e3] at e4
  cases e4
  exact ⟨o, e5⟩
theorem Abs.bad_there (A : Abs K Hb fx B ρ σ H) (h : Bad fx B ρ σ p) : H p ≠ none := by
  rcases h with h | h | h
  · exact A.fxp p h
  · exact (A.bpr p h).1
  · obtain ⟨o, e⟩ := A.own_there h
    rw [e]; simp
theorem Abs.hid_base (A : Abs K Hb fx B ρ σ H) (h : Hid fx ρ σ p) : Hb p = none := by
  cases q : Hb p with
  | none => rfl
  | some o => exact absurd h (hide_eq.mp (A.same p o q)).1
theorem Abs.base_keep (A : Abs K Hb fx B ρ σ H) {o : HO} (h : Hb p = some o) : H p = some o := (hide_eq.mp (A.same p o h)).2
omit [Tb] in
theorem Bad.hid (h : Hid fx ρ σ p) : Bad fx B ρ σ p := by
  rcases h with h | h
  · exact .inl h
  · exact .inr (.inr h)
theorem tab_at (t : Tabl H) (h : p ∈ tA) : ∃ ps, H p = some (.tbl ps) := by
  obtain ⟨x, hx, rfl⟩ := List.mem_map.mp h
  obtain ⟨ps, e, _⟩ := t.1 x hx
  exact ⟨ps, e⟩
omit [Tb] in
theorem SlotOk.pinned {S : Addr → Prop} {ov : Option V} {sl : Sl} (x : SlotOk K H fx S ov sl) (h : sl.pin = true) (e : ov = some (.ref p)) : ∃ vs, H p = some (.lst vs) := by
  cases sl with
  | rf k l => obtain ⟨q, vs, e1, _, e2, _⟩ := x; rw [e] at e1; cases e1; exact ⟨vs, e2⟩
  | _ => cases h
/-- objects not hidden may come, none go; the tables may grow -/
theorem Abs.growT (A : Abs K Hb fx B ρ σ H) (h : ∀ a o, a ∉ tA → H a = some o → H' a = some o) (t : Tabl H') : Abs K Hb fx B ρ σ H' := by
  have there : ∀ q, H q ≠ none → H' q ≠ none := fun q n z => by
    by_cases m : q ∈ tA
    · obtain ⟨ps, e⟩ := tab_at t m
      rw [e] at z; cases z
    · cases e : H q with
      | none => exact n e
      | some o => rw [h q o m e] at z; cases z
  have nt : ∀ {a : Addr}, ¬ a ∈ fx → a ∉ tA := fun n m => n (A.tfx _ m)
  refine ⟨A.len, A.same.trans (hide_mono fun a o n e => ⟨n, h a o (nt fun m => n (.inl m)) e⟩), fun i sl e => ?_, A.inj, A.fxn, A.fxd, fun q m => there q (A.fxp q m), A.rfi, fun q m => ⟨there q (A.bpr q m).1, (A.bpr q m).2⟩, A.tfx, t⟩
  refine (A.slot i sl e).mono (fun a o n e => ⟨n, h a o (nt fun m => n (.inl m)) e⟩) (fun p q r => ?_) (fun p q r m => ?_)
  · obtain ⟨p', o, e4, e5⟩ := (A.slot i sl e).there q
    have hn := A.fxn p ⟨i, sl, e, q, of_getD r⟩
    rw [r] at e4; cases e4
    rw [e5]; exact h _ _ (nt hn) e5
  · obtain ⟨vs, e5⟩ := (A.slot i sl e).pinned q r
    rw [e5]
    refine h _ _ (fun m2 => ?_) e5
    obtain ⟨ps, e6⟩ := tab_at A.tab m2
    rw [e5] at e6; cases e6
theorem tab_ext (t : Tabl H) (h : ∀ a o, H a = some o → H' a = some o) : Tabl H' := ⟨LamX.Tabs.ext t.1 h, fun p m => h _ _ (t.2 p m)⟩
/-- objects not hidden may come, none go -/
theorem Abs.grow (A : Abs K Hb fx B ρ σ H) (h : ∀ a o, H a = some o → H' a = some o) : Abs K Hb fx B ρ σ H' := A.growT (fun a o _ e => h a o e) (tab_ext A.tab h)
/-- a thing that is changed by the program -/
def Movb : HO → Bool
  | .lst _ => true
  | .dK _ => true
  | _ => false
theorem tab_upd {u : HO} (t : Tabl H) (h : H p = some u) (m : Movb u = true) : Tabl (upd H p o) := by
  refine ⟨fun x hx => ?_, fun x hx => ?_⟩
  · obtain ⟨ps, e1, e2, e3⟩ := t.1 x hx
    have ne : x.1 ≠ p := fun z => by rw [z, h] at e1; cases e1; cases m
    refine ⟨ps, by rw [upd_ne ne]; exact e1, e2, fun pos cv hc => ?_⟩
    obtain ⟨c, e4, e5⟩ := e3 pos cv hc
    exact ⟨c, e4, by rw [upd_ne (fun z => by rw [z, h] at e5; cases e5; cases m)]; exact e5⟩
  · have e1 := t.2 x hx
    rw [upd_ne (fun z => by rw [z, h] at e1; cases e1; cases m)]
    exact e1
omit [Tb] in
theorem grow_upd (n : H p = none) : ∀ a u, H a = some u → upd H p o a = some u := fun a u e => by
  rw [upd_ne (ne_of_none e n)]; exact e
theorem Abs.alloc (A : Abs K Hb fx B ρ σ H) (n : H p = none) : Abs K Hb fx B ρ σ (upd H p o) := A.grow (grow_upd n)
theorem Abs.rebase (A : Abs K Hb' fx B ρ σ H) (h : Same Hb Hb') : Abs K Hb fx B ρ σ H := ⟨A.len, h.trans A.same, A.slot, A.inj, A.fxn, A.fxd, A.fxp, A.rfi, A.bpr, A.tfx, A.tab⟩
theorem Abs.here (A : Abs K Hb fx B ρ σ H) : Abs K (hide H (Hid fx ρ σ)) fx B ρ σ H := ⟨A.len, Same.refl _, A.slot, A.inj, A.fxn, A.fxd, A.fxp, A.rfi, A.bpr, A.tfx, A.tab⟩
/-- what was to be seen is to be seen -/
theorem Abs.carry {ρ2 : Rho} {σ2 : St} {H2 : Hp} (A : Abs K (hide H (Hid fx ρ σ)) fx B ρ2 σ2 H2) : Same (hide H (Bad fx B ρ σ)) (hide H2 (Bad fx B ρ2 σ2)) := by
  refine hide_mono fun a o n e => ?_
  have h1 : hide H (Hid fx ρ σ) a = some o := hide_eq.mpr ⟨fun z => n (Bad.hid z), e⟩
  obtain ⟨n2, e2⟩ := hide_eq.mp (A.same a o h1)
  exact ⟨fun z => by
    rcases z with z | z | z
    · exact n2 (.inl z)
    · exact n (.inr (.inl z))
    · exact n2 (.inr z), e2⟩
theorem Abs.lessB (A : Abs K Hb fx B ρ σ H) (h : ∀ p, B' p → B p) : Abs K Hb fx B' ρ σ H := by
  refine ⟨A.len, A.same, fun i sl e => ?_, A.inj, A.fxn, A.fxd, A.fxp, A.rfi, fun p m => A.bpr p (h p m), A.tfx, A.tab⟩
  refine (A.slot i sl e).mono (fun a o n e => ⟨fun z => n ?_, e⟩) (fun _ _ _ => rfl) (fun _ _ _ _ => rfl)
  rcases z with z | z | z
  · exact .inl z
  · exact .inr (.inl (h _ z))
  · exact .inr (.inr z)
end
end R
namespace R
open PySem PySem.Spec L2
open PyProof.Rows hiding St
section
variable [Tb] {K : PySem.W.Frag} {Hb Hb' H H' : Hp} {fx : List Addr} {B B' : Addr → Prop} {ρ ρ' : Rho} {σ σ' : St} {p : Addr} {o : HO}
omit [Tb] in
theorem ownAt_set {i j : Nat} {sl : Sl} {ov : Option V} {q : Addr} (h : OwnAt (ρ.set i sl) (σ.set i ov) j q) : (j = i ∧ sl.own = true ∧ ov = some (.ref q)) ∨ (j ≠ i ∧ OwnAt ρ σ j q) := by
  obtain ⟨s, e1, e2, e3⟩ := h
  by_cases hj : j = i
  · subst hj
    refine .inl ⟨rfl, ?_⟩
    by_cases hl : j < ρ.length
    · rw [List.getElem?_set_self hl] at e1
      cases e1
      by_cases hs : j < σ.length
      · rw [List.getElem?_set_self hs] at e3
        cases e3
        exact ⟨e2, rfl⟩
      · rw [List.getElem?_eq_none (by simpa using hs)] at e3; cases e3
    · rw [List.getElem?_eq_none (by simpa using hl)] at e1; cases e1
  · rw [List.getElem?_set_ne (Ne.symm hj)] at e1 e3
    exact .inr ⟨hj, s, e1, e2, e3⟩
omit [Tb] in
theorem getD_set_ne {i j : Nat} {ov : Option V} (h : j ≠ i) : (σ.set i ov).getD j none = σ.getD j none := by
  rw [List.getD_eq_getElem?_getD, List.getD_eq_getElem?_getD, List.getElem?_set_ne (Ne.symm h)]
omit [Tb] in
theorem getD_set_self {i : Nat} {ov : Option V} (h : i < σ.length) : (σ.set i ov).getD i none = ov := by
  rw [List.getD_eq_getElem?_getD, List.getElem?_set_self h]; rfl
/-- slot i anew: nothing owned by it but (perhaps) a new place -/
theorem Abs.put {i : Nat} {sl : Sl} {ov : Option V} (A : Abs K Hb fx B ρ σ H) (hp : sl.pin = false)
    (hs : SlotOk K H fx (Bad fx B (ρ.set i sl) (σ.set i ov)) ov sl)
    (hn : ∀ q, sl.own = true → ov = some (.ref q) → Hb q = none ∧ ¬ Bad fx B ρ σ q)
    (hv : ∀ q, sl.own = true → ov = some (.ref q) → ∀ (j : Nat) (s : Sl), ρ[j]? = some s → SlotOk K H fx (fun a => Bad fx B ρ σ a ∨ a = q) (σ.getD j none) s) :
    Abs K Hb fx B (ρ.set i sl) (σ.set i ov) H := by
  have own' : ∀ q, Own (ρ.set i sl) (σ.set i ov) q → (sl.own = true ∧ ov = some (.ref q)) ∨ Own ρ σ q := fun q ⟨j, h⟩ => by
    rcases ownAt_set h with ⟨_, h⟩ | ⟨_, h⟩
    · exact .inl h
    · exact .inr ⟨j, h⟩
  refine ⟨by simp [A.len], fun a o e => ?_, fun j s e => ?_, fun j k q h1 h2 => ?_, fun q h => ?_, A.fxd, A.fxp, fun j k n l m h1 h2 => ?_, fun q h => ⟨(A.bpr q h).1, fun z => ?_⟩, A.tfx, A.tab⟩
  · obtain ⟨n, e2⟩ := hide_eq.mp (A.same a o e)
    refine hide_eq.mpr ⟨fun z => ?_, e2⟩
    rcases z with z | z
    · exact n (.inl z)
    · rcases own' a z with ⟨h1, h2⟩ | z
      · rw [(hn a h1 h2).1] at e; cases e
      · exact n (.inr z)
  · by_cases hj : j = i
    · subst hj
      by_cases hl : j < ρ.length
      · rw [List.getElem?_set_self hl] at e
        cases e
        rw [getD_set_self (by rw [← A.len]; exact hl)]
        exact hs
      · rw [List.getElem?_eq_none (by simpa using hl)] at e; cases e
    · rw [List.getElem?_set_ne (Ne.symm hj)] at e
      rw [getD_set_ne hj]
      by_cases ho : sl.own = true ∧ ∃ q, ov = some (.ref q)
      · obtain ⟨h1, q, h2⟩ := ho
        refine (hv q h1 h2 j s e).mono (fun a o n e => ⟨fun z => n ?_, e⟩) (fun _ _ _ => rfl) (fun _ _ _ _ => rfl)
        rcases z with z | z | z
        · exact .inl (.inl z)
        · exact .inl (.inr (.inl z))
        · rcases own' a z with ⟨_, z⟩ | z
          · rw [h2] at z; cases z; exact .inr rfl
          · exact .inl (.inr (.inr z))
      · refine (A.slot j s e).mono (fun a o n e => ⟨fun z => n ?_, e⟩) (fun _ _ _ => rfl) (fun _ _ _ _ => rfl)
        rcases z with z | z | z
        · exact .inl z
        · exact .inr (.inl z)
        · rcases own' a z with ⟨h1, z⟩ | z
          · exact (ho ⟨h1, a, z⟩).elim
          · exact .inr (.inr z)
  · rcases ownAt_set h1 with ⟨a1, b1, c1⟩ | ⟨a1, b1⟩
    · rcases ownAt_set h2 with ⟨a2, b2, c2⟩ | ⟨a2, b2⟩
      · rw [a1, a2]
      · exact ((hn q b1 c1).2 (.inr (.inr ⟨k, b2⟩))).elim
    · rcases ownAt_set h2 with ⟨a2, b2, c2⟩ | ⟨a2, b2⟩
      · exact ((hn q b2 c2).2 (.inr (.inr ⟨j, b1⟩))).elim
      · exact A.inj j k q b1 b2
  · rcases own' q h with ⟨h1, h2⟩ | h
    · exact fun z => (hn q h1 h2).2 (.inl z)
    · exact A.fxn q h
  · have old : ∀ j l, (ρ.set i sl)[j]? = some (Sl.rf n l) → ρ[j]? = some (Sl.rf n l) := fun j l h => by
      by_cases hj : j = i
      · subst hj
        by_cases hl : j < ρ.length
        · rw [List.getElem?_set_self hl] at h
          cases h; cases hp
        · rw [List.getElem?_eq_none (by simpa using hl)] at h; cases h
      · rw [List.getElem?_set_ne (Ne.symm hj)] at h; exact h
    exact A.rfi j k n l m (old j l h1) (old k m h2)
  · rcases z with z | z
    · exact (A.bpr q h).2 (.inl z)
    · rcases own' q z with ⟨h1, h2⟩ | z
      · exact (hn q h1 h2).2 (.inr (.inl h))
      · exact (A.bpr q h).2 (.inr z)
theorem Abs.putDat {i : Nat} {d : D} {v : V} (A : Abs K Hb fx B ρ σ H) (h : Dq (hide H (Bad fx B ρ σ)) v d) : Abs K Hb fx B (ρ.set i (.dat d)) (σ.set i (some v)) H := by
  refine A.put rfl ⟨v, rfl, dp_mono (hide_mono fun a o n e => ⟨fun z => n ?_, e⟩) h⟩ (fun _ z => nomatch z) (fun _ z => nomatch z)
  rcases z with z | z | ⟨j, z⟩
  · exact .inl z
  · exact .inr (.inl z)
  · rcases ownAt_set z with ⟨_, z, _⟩ | ⟨_, z⟩
    · cases z
    · exact .inr (.inr ⟨j, z⟩)
theorem Abs.putUn {i : Nat} {ov : Option V} (A : Abs K Hb fx B ρ σ H) : Abs K Hb fx B (ρ.set i .un) (σ.set i ov) H := A.put rfl trivial (fun _ z => nomatch z) (fun _ z => nomatch z)
/-- slots forgotten -/
theorem Abs.forget {i : Nat} (A : Abs K Hb fx B ρ σ H) : Abs K Hb fx B (ρ.set i .un) σ H := by
  by_cases hi : i < σ.length
  · have h := A.putUn (i := i) (ov := σ[i])
    rw [List.set_getElem_self] at h
    exact h
  · rw [List.set_eq_of_length_le (by rw [A.len]; omega)]
    exact A
theorem Abs.putNew {i : Nat} {sl : Sl} (A : Abs K Hb fx (fun a => B a ∨ a = p) ρ σ H) (A0 : Abs K Hb fx B ρ σ H) (hp : sl.pin = false) (hnb : ¬ Bad fx B ρ σ p) (hn : Hb p = none)
    (hs : SlotOk K H fx (fun a => Bad fx B ρ σ a ∨ a = p) (some (.ref p)) sl) : Abs K Hb fx B (ρ.set i sl) (σ.set i (some (.ref p))) H := by
  refine A0.put hp (hs.mono (fun a o n e => ⟨fun z => n ?_, e⟩) (fun _ _ _ => rfl) (fun _ _ _ _ => rfl)) (fun q _ e => by cases e; exact ⟨hn, hnb⟩) (fun q _ e j s hj => ?_)
  · rcases z with z | z | ⟨j, z⟩
    · exact .inl (.inl z)
    · exact .inl (.inr (.inl z))
    · rcases ownAt_set z with ⟨_, _, z⟩ | ⟨_, z⟩
      · cases z; exact .inr rfl
      · exact .inl (.inr (.inr ⟨j, z⟩))
  · cases e
    refine (A.slot j s hj).mono (fun a o n e => ⟨fun z => n ?_, e⟩) (fun _ _ _ => rfl) (fun _ _ _ _ => rfl)
    rcases z with (z | z | z) | z
    · exact .inl z
    · exact .inr (.inl (.inl z))
    · exact .inr (.inr z)
    · exact .inr (.inl (.inr z))
/-- the place of a list or dict of one's own, or a caller's list: the j-th slot holds it -/
def Holds (ρ : Rho) (σ : St) (i : Nat) (p : Addr) : Prop := ∃ sl, ρ[i]? = some sl ∧ (sl.own = true ∨ sl.pin = true) ∧ σ[i]? = some (some (.ref p))
theorem Abs.holds_bad (A : Abs K Hb fx B ρ σ H) {i : Nat} (h : Holds ρ σ i p) : Hid fx ρ σ p := by
  obtain ⟨sl, e1, e2, e3⟩ := h
  rcases e2 with e2 | e2
  · exact .inr ⟨i, sl, e1, e2, e3⟩
  · cases sl with
    | rf k l =>
      obtain ⟨q, vs, e4, e5, _⟩ := A.slot i _ e1
      rw [getD_of e3] at e4; cases e4
      exact .inl (List.mem_of_getElem? e5)
    | un => cases e2
    | dat d => cases e2
    | ls l => cases e2
    | dk k => cases e2
    | scr k => cases e2
    | fn k => cases e2
    | pv k => cases e2
theorem Abs.holds_inj (A : Abs K Hb fx B ρ σ H) {i j : Nat} (h : Holds ρ σ i p) (h' : Holds ρ σ j p) : i = j := by
  have both : ∀ {i j : Nat} {s t : Sl}, ρ[i]? = some s → s.own = true → σ[i]? = some (some (.ref p)) → ρ[j]? = some t → t.pin = true → σ[j]? = some (some (.ref p)) → False := fun {i j s t} a b c a' b' c' => by
    cases t with
    | rf k l =>
      obtain ⟨q, vs, e4, e5, _⟩ := A.slot j _ a'
      rw [getD_of c'] at e4; cases e4
      exact A.fxn p ⟨i, s, a, b, c⟩ (List.mem_of_getElem? e5)
    | un => cases b'
    | dat d => cases b'
    | ls l => cases b'
    | dk k => cases b'
    | scr k => cases b'
    | fn k => cases b'
    | pv k => cases b'
  obtain ⟨s, a, b, c⟩ := h
  obtain ⟨t, a', b', c'⟩ := h'
  rcases b with b | b
  · rcases b' with b' | b'
    · exact A.inj i j p ⟨s, a, b, c⟩ ⟨t, a', b', c'⟩
    · exact (both a b c a' b' c').elim
  · rcases b' with b' | b'
    · exact (both a' b' c' a b c).elim
    · cases s with
      | rf k l =>
        cases t with
        | rf k' l' =>
          obtain ⟨q, vs, e4, e5, _⟩ := A.slot i _ a
          obtain ⟨q', vs', e4', e5', _⟩ := A.slot j _ a'
          rw [getD_of c] at e4; cases e4
          rw [getD_of c'] at e4'; cases e4'
          have hk : k = k' := nodup_ix' A.fxd e5 e5'
          subst hk
          exact A.rfi i j k l l' a a'
        | un => cases b'
        | dat d => cases b'
        | ls l => cases b'
        | dk k => cases b'
        | scr k => cases b'
        | fn k => cases b'
        | pv k => cases b'
      | un => cases b
      | dat d => cases b
      | ls l => cases b
      | dk k => cases b
      | scr k => cases b
      | fn k => cases b
      | pv k => cases b
where
  nodup_ix' {α : Type} {N : List α} (hN : N.Nodup) {i j : Nat} {x : α} (a : N[i]? = some x) (b : N[j]? = some x) : i = j := by
    obtain ⟨h1, e1⟩ := List.getElem?_eq_some_iff.mp a
    obtain ⟨h2, e2⟩ := List.getElem?_eq_some_iff.mp b
    exact (List.getElem_inj hN).mp (e1.trans e2.symm)
/-- the same kind of slot -/
def Sl.like : Sl → Sl → Bool
  | .ls _, .ls _ => true
  | .rf k _, .rf j _ => k == j
  | .dk _, .dk _ => true
  | _, _ => false
/-- what a slot holds changes -/
theorem Abs.write {i : Nat} {sl sl' : Sl} (A : Abs K Hb fx B ρ σ H) (h : ρ[i]? = some sl) (hq : σ[i]? = some (some (.ref p))) (hk : sl.like sl' = true)
    (hs : SlotOk K (upd H p o) fx (Bad fx B ρ σ) (some (.ref p)) sl') : Abs K Hb fx B (ρ.set i sl') σ (upd H p o) := by
  have hown : sl.own = sl'.own := by cases sl <;> cases sl' <;> first | rfl | cases hk
  have hpin : sl.pin = sl'.pin := by cases sl <;> cases sl' <;> first | rfl | cases hk
  have hh : sl.own = true ∨ sl.pin = true := by cases sl <;> cases sl' <;> first | exact .inl rfl | exact .inr rfl | cases hk
  have hold : Holds ρ σ i p := ⟨sl, h, hh, hq⟩
  have hbad : Hid fx ρ σ p := A.holds_bad hold
  have hi : i < ρ.length := (List.getElem?_eq_some_iff.mp h).1
  have own' : ∀ j q, OwnAt (ρ.set i sl') σ j q ↔ OwnAt ρ σ j q := fun j q => by
    by_cases hj : j = i
    · subst hj
      refine ⟨fun ⟨s, e1, e2, e3⟩ => ?_, fun ⟨s, e1, e2, e3⟩ => ?_⟩
      · rw [List.getElem?_set_self hi] at e1; cases e1
        exact ⟨sl, h, hown.trans e2, e3⟩
      · rw [h] at e1; cases e1
        exact ⟨sl', List.getElem?_set_self hi, hown.symm.trans e2, e3⟩
    · unfold OwnAt
      rw [List.getElem?_set_ne (Ne.symm hj)]
  have ownE : Own (ρ.set i sl') σ = Own ρ σ := by
    funext q; exact propext ⟨fun ⟨j, z⟩ => ⟨j, (own' j q).mp z⟩, fun ⟨j, z⟩ => ⟨j, (own' j q).mpr z⟩⟩
  have hidE : Hid fx (ρ.set i sl') σ = Hid fx ρ σ := by unfold Hid; rw [ownE]
  have badE : Bad fx B (ρ.set i sl') σ = Bad fx B ρ σ := by unfold Bad; rw [ownE]
  refine ⟨by simp [A.len], ?_, fun j s e => ?_, fun j k q h1 h2 => A.inj j k q ((own' j q).mp h1) ((own' k q).mp h2), by rw [ownE]; exact A.fxn, A.fxd, fun q m => ?_, fun j k n l m h1 h2 => ?_, fun q m => ?_, A.tfx, ?_⟩
  · rw [hidE]
    refine A.same.trans (hide_mono fun a u n e => ⟨n, ?_⟩)
    rw [upd_ne (fun z => n (by rw [z]; exact hbad))]; exact e
  · rw [badE]
    by_cases hj : j = i
    · subst hj
      rw [List.getElem?_set_self hi] at e; cases e
      rw [getD_of hq]; exact hs
    · rw [List.getElem?_set_ne (Ne.symm hj)] at e
      have ne : ∀ q, (s.own = true ∨ s.pin = true) → σ.getD j none = some (.ref q) → q ≠ p := fun q hq2 e2 z => by
        subst z
        exact hj (A.holds_inj ⟨s, e, hq2, of_getD e2⟩ hold)
      refine (A.slot j s e).mono (fun a u n e => ⟨n, ?_⟩) (fun q z e2 => upd_ne (ne q (.inl z) e2)) (fun q z e2 _ => upd_ne (ne q (.inr z) e2))
      rw [upd_ne (fun z => n (by rw [z]; exact Bad.hid hbad))]; exact e
  · by_cases hqp : q = p
    · rw [hqp, upd_same]; simp
    · rw [upd_ne hqp]; exact A.fxp q m
  · have old : ∀ j l, (ρ.set i sl')[j]? = some (Sl.rf n l) → ∃ l', ρ[j]? = some (Sl.rf n l') := fun j l e => by
      by_cases hj : j = i
      · subst hj
        rw [List.getElem?_set_self hi] at e; cases e
        cases sl <;> first | (cases hk; done) | skip
        rename_i k' l'
        have : k' = n := by simpa [Sl.like] using hk
        subst this
        exact ⟨l', h⟩
      · rw [List.getElem?_set_ne (Ne.symm hj)] at e; exact ⟨l, e⟩
    obtain ⟨l', e1⟩ := old j l h1
    obtain ⟨m', e2⟩ := old k m h2
    exact A.rfi j k n l' m' e1 e2
  · obtain ⟨h1, h2⟩ := A.bpr q m
    refine ⟨?_, by rw [hidE]; exact h2⟩
    rw [upd_ne (fun z => h2 (by rw [z]; exact hbad))]; exact h1
  · have s := A.slot i sl h
    rw [getD_of hq] at s
    cases sl with
    | ls l => obtain ⟨q, vs, e1, e2, _⟩ := s; cases e1; exact tab_upd A.tab e2 rfl
    | rf k l => obtain ⟨q, vs, e1, _, e2, _⟩ := s; cases e1; exact tab_upd A.tab e2 rfl
    | dk l => obtain ⟨q, vs, e1, e2, _⟩ := s; cases e1; exact tab_upd A.tab e2 rfl
    | _ => cases hk

/-! ### what an expression gives -/
inductive Rv where
  | dat (d : D) | new (l : List D) | bor (i : Nat) | newk (kvs : List (Key × D))
def RvOk (K : PySem.W.Frag) (Hb : Hp) (fx : List Addr) (B : Addr → Prop) (ρ : Rho) (σ : St) (H : Hp) (v : V) : Rv → Prop
  | .dat d => Dq (hide H (Bad fx B ρ σ)) v d
  | .new l => ∃ p vs, v = .ref p ∧ H p = some (.lst vs) ∧ ¬ Bad fx B ρ σ p ∧ DqA (hide H (fun a => Bad fx B ρ σ a ∨ a = p)) vs l ∧ Hb p = none ∧ Abs K Hb fx (fun a => B a ∨ a = p) ρ σ H
  | .bor i => σ[i]? = some (some v)
  | .newk kd => ∃ p kv, v = .ref p ∧ H p = some (.dK kv) ∧ ¬ Bad fx B ρ σ p ∧ DpKV (hide H (fun a => Bad fx B ρ σ a ∨ a = p)) kv kd ∧ Hb p = none ∧ Abs K Hb fx (fun a => B a ∨ a = p) ρ σ H
def Rv.weak : Rv → Rv
  | .new l => .dat (.list l)
  | r => r
theorem RvOk.weak {v : V} {r : Rv} (h : RvOk K Hb fx B ρ σ H v r) : RvOk K Hb fx B ρ σ H v r.weak := by
  cases r with
  | new l =>
    obtain ⟨p, vs, rfl, e, n, q, _⟩ := h
    exact .lst (Rd.of (hide_eq.mpr ⟨n, e⟩)) (dpa_mono (hide_mono fun a o n e => ⟨fun z => n (.inl z), e⟩) q)
  | dat d => exact h
  | bor i => exact h
  | newk k => exact h
def rdS : Option Sl → Option D
  | some (.ls l) => some (.list l)
  | some (.rf _ l) => some (.list l)
  | _ => none
/-- as data, where it is data now -/
def rd (ρ : Rho) : Rv → Option D
  | .dat d => some d
  | .new l => some (.list l)
  | .bor i => rdS ρ[i]?
  | .newk _ => none
/-- the list itself may be hidden, its items are not -/
def Lo (H : Hp) (S : Addr → Prop) (v : V) (d : D) : Prop :=
  Dq (hide H S) v d ∨ ∃ p vs l, v = .ref p ∧ d = .list l ∧ H p = some (.lst vs) ∧ DqA (hide H S) vs l
omit [Tb] in
theorem Lo.dp {S : Addr → Prop} {v : V} {d : D} (h : Lo H S v d) : Dq H v d := by
  rcases h with h | ⟨p, vs, l, rfl, rfl, e, q⟩
  · exact dp_mono hide_sub h
  · exact .lst (Rd.of e) (dpa_mono hide_sub q)
omit [Tb] in
theorem Lo.list {S : Addr → Prop} {v : V} {l : List D} (h : Lo H S v (.list l)) : ∃ p vs, v = .ref p ∧ Rd H p (.lst vs) ∧ DqA (hide H S) vs l := by
  rcases h with h | ⟨p, vs, l', rfl, e1, e, q⟩
  · cases h with
    | lst hs ha => exact ⟨_, _, rfl, rd_mono hide_sub hs, ha⟩
  · cases e1
    exact ⟨p, vs, rfl, Rd.of e, q⟩
omit [Tb] in
theorem Lo.tuple {S : Addr → Prop} {v : V} {l : List D} (h : Lo H S v (.tuple l)) : ∃ p vs, v = .ref p ∧ hide H S p = some (.tup vs) ∧ DqA (hide H S) vs l := by
  rcases h with h | ⟨p, vs, l', rfl, e1, e, q⟩
  · cases h with
    | tup hs ha => exact ⟨_, _, rfl, hs, ha⟩
  · cases e1
omit [Tb] in
theorem Lo.strict {S : Addr → Prop} {v : V} {d : D} (h : Lo H S v d) (hd : ∀ l, d ≠ .list l) : Dq (hide H S) v d := by
  rcases h with h | ⟨p, vs, l, _, e, _⟩
  · exact h
  · exact (hd l e).elim
theorem RvOk.lo {v : V} {r : Rv} {d : D} (A : Abs K Hb fx B ρ σ H) (h : RvOk K Hb fx B ρ σ H v r) (e : rd ρ r = some d) : Lo H (Bad fx B ρ σ) v d := by
  cases r with
  | dat d' => cases e; exact .inl h
  | new l =>
    cases e
    exact .inl h.weak
  | bor i =>
    have h' : σ[i]? = some (some v) := h
    have e' : rdS ρ[i]? = some d := e
    cases q : ρ[i]? with
    | none => rw [q] at e'; cases e'
    | some sl =>
      rw [q] at e'
      cases sl with
      | ls l =>
        cases e'
        obtain ⟨p, vs, e4, e5, q⟩ := A.slot i _ q
        rw [getD_of h'] at e4; cases e4
        exact .inr ⟨p, vs, l, rfl, rfl, e5, q⟩
      | rf k l =>
        cases e'
        obtain ⟨p, vs, e4, _, e5, q⟩ := A.slot i _ q
        rw [getD_of h'] at e4; cases e4
        exact .inr ⟨p, vs, l, rfl, rfl, e5, q⟩
      | un => cases e'
      | dat d => cases e'
      | dk k => cases e'
      | scr k => cases e'
      | fn k => cases e'
      | pv k => cases e'
  | newk k => cases e
/-- behind further work, a result as it was (kept weak) -/
theorem RvOk.keep {v : V} {r : Rv} {ρ2 : Rho} {H2 : Hp} (h : RvOk K Hb fx B ρ σ H v r) (hr : r.weak = r) (hk : ∀ k, r ≠ .newk k) (A2 : Abs K (hide H (Hid fx ρ σ)) fx B ρ2 σ H2) : RvOk K Hb' fx B ρ2 σ H2 v r := by
  cases r with
  | dat d => exact dp_mono A2.carry h
  | new l => cases hr
  | bor i => exact h
  | newk k => exact (hk k rfl).elim
end
end R
namespace R
open PySem PySem.Spec L2
open PyProof.Rows hiding St
/-! ### weakest readings -/
def LenOk (K : PySem.W.Frag) (H : Hp) : Prop := (∀ a xs, SqL K H a xs → xs.length ≤ sizeLine) ∧ ∀ a xs, SqT K H a xs → xs.length ≤ sizeLine
def notStar : Expr → Bool
  | .Starred _ _ => false
  | _ => true
theorem ste {e : Expr} {rest : List Expr} {env : Env} (h : notStar e = true) : starEach (e :: rest) env = (false, eval e env) :: starEach rest env := by
  cases e <;> first | rfl | cases h
section
variable {X : Cx}
theorem lenOk {pins : List (Addr × Obj)} {σ : St} {H : Hp} {s : Shared} (I : Inv X pins σ H s) : LenOk X.K H :=
  ⟨fun a xs h => let ⟨_, _, _, z⟩ := I.list h; z, fun a xs h => let ⟨_, _, _, z⟩ := I.tuple h; z⟩
def wpE (X : Cx) (e : Expr) : TE := fun σ H Q => ∀ (pins : List (Addr × Obj)) (s : Shared), Inv X pins σ H s → wpAny (model X.prog X.w) X.A (eval e X.env) (EP X pins σ Q) X.xe s
def wpT (X : Cx) (e : Expr) : TT := fun σ H Q => ∀ (pins : List (Addr × Obj)) (s : Shared), Inv X pins σ H s → wpAny (model X.prog X.w) X.A (isTrue e X.env (eval e X.env)) (TP X pins σ Q) X.xe s
def wpW (X : Cx) (e : Expr) : TT := fun σ H Q => ∀ (whole : Sem Value) (pins : List (Addr × Obj)) (s : Shared), Inv X pins σ H s → wpAny (model X.prog X.w) X.A (isTrue e X.env whole) (TP X pins σ Q) X.xe s
def wpA (X : Cx) (es : List Expr) : TA := fun σ H Q => ∀ (pos : Pos) (pins : List (Addr × Obj)) (s : Shared), Inv X pins σ H s → wpAny (model X.prog X.w) X.A (spliced (backTo pos (starEach es X.env))) (AP X pins σ Q) X.xe s
def wpS (X : Cx) (st : Stmt) : TS := fun D σ H => ∀ (pins : List (Addr × Obj)) (s : Shared), Inv X pins σ H s → wpAny (model X.prog X.w) X.A (exec st X.env) (SP X pins D) X.xe s
def wpSs (X : Cx) (st : List Stmt) : TS := fun D σ H => ∀ (pins : List (Addr × Obj)) (s : Shared), Inv X pins σ H s → wpAny (model X.prog X.w) X.A (execs st X.env) (SP X pins D) X.xe s
def wpG (X : Cx) (tg : Expr) : TG := fun v σ H Q => ∀ (pins : List (Addr × Obj)) (s : Shared) (u : Value), Inv X pins σ H s → RelV v u → wpAny (model X.prog X.w) X.A (assign tg X.env u) (fun _ s' => ∃ σ' H', Inv X pins σ' H' s' ∧ Q σ' H') X.xe s
def wpGs (X : Cx) (ts : List Expr) : TGs := fun vs σ H Q => ∀ (pins : List (Addr × Obj)) (s : Shared) (us : List Value), Inv X pins σ H s → Vals vs us → wpAny (model X.prog X.w) X.A (assignInOrder ((assignEach ts X.env).map (·.2)) us) (fun _ s' => ∃ σ' H', Inv X pins σ' H' s' ∧ Q σ' H') X.xe s
def wpI (X : Cx) (tg iter : Expr) : TI := fun σ H R => ∀ (pins : List (Addr × Obj)) (s : Shared), Inv X pins σ H s → wpAny (model X.prog X.w) X.A (eval iter X.env) (fun v s1 => wpAny (model X.prog X.w) X.A (pyIter v) (PIE X pins σ tg R) X.xe s1) X.xe s
theorem pe_wp {e : Expr} : PE X e (wpE X e) := ⟨fun pins s σ H Q I h => h pins s I⟩
theorem pt_wp {e : Expr} : PT X e (wpT X e) := ⟨fun pins s σ H Q I h => h pins s I⟩
theorem pw_wp {e : Expr} : PW X e (wpW X e) := ⟨fun wh pins s σ H Q I h => h wh pins s I⟩
theorem pa_wp {es : List Expr} : PA X es (wpA X es) := ⟨fun pos pins s σ H Q I h => h pos pins s I⟩
theorem ps_wp {st : Stmt} : PS X st (wpS X st) := ⟨fun pins s σ H D I h => h pins s I⟩
theorem pss_wp {st : List Stmt} : PSs X st (wpSs X st) := ⟨fun pins s σ H D I h => h pins s I⟩
theorem pg_wp {tg : Expr} : PG X tg (wpG X tg) := ⟨fun pins s σ H v u Q I r h => h pins s u I r⟩
theorem pgs_wp {ts : List Expr} : PGs X ts (wpGs X ts) := ⟨fun pins s σ H vs us Q I r h => h pins s us I r⟩
theorem pi_wp {tg iter : Expr} : PI X tg iter (wpI X tg iter) := ⟨fun pins s σ H R I h => h pins s I⟩
theorem wp_pe {e : Expr} {t : TE} (h : PE X e t) {σ : St} {H : Hp} {Q : VK} (q : t σ H Q) : wpE X e σ H Q := fun pins s I => h.run pins s σ H Q I q
theorem wp_pt {e : Expr} {t : TT} (h : PT X e t) {σ : St} {H : Hp} {Q : Bool → Hp → Prop} (q : t σ H Q) : wpT X e σ H Q := fun pins s I => h.run pins s σ H Q I q
theorem wp_pw {e : Expr} {t : TT} (h : PW X e t) {σ : St} {H : Hp} {Q : Bool → Hp → Prop} (q : t σ H Q) : wpW X e σ H Q := fun wh pins s I => h.run wh pins s σ H Q I q
theorem wp_pa {e : List Expr} {t : TA} (h : PA X e t) {σ : St} {H : Hp} {Q : List V → Hp → Prop} (q : t σ H Q) : wpA X e σ H Q := fun pos pins s I => h.run pos pins s σ H Q I q
theorem wp_ps {e : Stmt} {t : TS} (h : PS X e t) {σ : St} {H : Hp} {D : Ends} (q : t D σ H) : wpS X e D σ H := fun pins s I => h.run pins s σ H D I q
theorem wp_pss {e : List Stmt} {t : TS} (h : PSs X e t) {σ : St} {H : Hp} {D : Ends} (q : t D σ H) : wpSs X e D σ H := fun pins s I => h.run pins s σ H D I q
theorem wp_pg {e : Expr} {t : TG} (h : PG X e t) {v : V} {σ : St} {H : Hp} {Q : St → Hp → Prop} (q : t v σ H Q) : wpG X e v σ H Q := fun pins s u I r => h.run pins s σ H v u Q I r q
theorem wp_pgs {e : List Expr} {t : TGs} (h : PGs X e t) {v : List V} {σ : St} {H : Hp} {Q : St → Hp → Prop} (q : t v σ H Q) : wpGs X e v σ H Q := fun pins s u I r => h.run pins s σ H v u Q I r q
theorem wp_pi {tg e : Expr} {t : TI} (h : PI X tg e t) {σ : St} {H : Hp} {R : It → Hp → Prop} (q : t σ H R) : wpI X tg e σ H R := fun pins s I => h.run pins s σ H R I q
theorem wpE_len {e : Expr} {σ : St} {H : Hp} {Q : VK} (h : wpE X e σ H fun v H' => LenOk X.K H' → Q v H') : wpE X e σ H Q := fun pins s I => thn (h pins s I) fun u s1 ⟨v, H', I', r, q⟩ => ⟨v, H', I', r, q (lenOk I')⟩
theorem wpE_mono {e : Expr} {σ : St} {H : Hp} {Q Q' : VK} (h : wpE X e σ H Q) (m : ∀ v H', Q v H' → Q' v H') : wpE X e σ H Q' := fun pins s I => thn (h pins s I) fun u s1 ⟨v, H', I', r, q⟩ => ⟨v, H', I', r, m _ _ q⟩
theorem wpT_len {e : Expr} {σ : St} {H : Hp} {Q : Bool → Hp → Prop} (h : wpT X e σ H fun v H' => LenOk X.K H' → Q v H') : wpT X e σ H Q := fun pins s I => thn (h pins s I) fun u s1 ⟨H', I', q⟩ => ⟨H', I', q (lenOk I')⟩
theorem wpA_len {e : List Expr} {σ : St} {H : Hp} {Q : List V → Hp → Prop} (h : wpA X e σ H fun v H' => LenOk X.K H' → Q v H') : wpA X e σ H Q := fun pos pins s I => thn (h pos pins s I) fun u s1 ⟨v, H', I', r, q⟩ => ⟨v, H', I', r, q (lenOk I')⟩
theorem wpE_at {e : Expr} {σ : St} {H : Hp} {Q : VK} (h : LenOk X.K H → wpE X e σ H Q) : wpE X e σ H Q := fun pins s I => h (lenOk I) pins s I
theorem wpS_at {e : Stmt} {σ : St} {H : Hp} {D : Ends} (h : LenOk X.K H → wpS X e D σ H) : wpS X e D σ H := fun pins s I => h (lenOk I) pins s I
def lenD (K : PySem.W.Frag) (D : Ends) : Ends := { nx := fun σ H => LenOk K H → D.nx σ H, rt := fun v H => LenOk K H → D.rt v H, bk := fun σ H => LenOk K H → D.bk σ H, ct := fun σ H => LenOk K H → D.ct σ H }
theorem SP_len {pins : List (Addr × Obj)} {D : Ends} {f : Flow} {s : Shared} (h : SP X pins (lenD X.K D) f s) : SP X pins D f s := by
  cases f with
  | next => obtain ⟨σ', H', I, q⟩ := h; exact ⟨σ', H', I, q (lenOk I)⟩
  | brk => obtain ⟨σ', H', I, q⟩ := h; exact ⟨σ', H', I, q (lenOk I)⟩
  | cont => obtain ⟨σ', H', I, q⟩ := h; exact ⟨σ', H', I, q (lenOk I)⟩
  | ret u => obtain ⟨v, σ', H', I, r, q⟩ := h; exact ⟨v, σ', H', I, r, q (lenOk I)⟩
theorem wpS_len {e : Stmt} {σ : St} {H : Hp} {D : Ends} (h : wpS X e (lenD X.K D) σ H) : wpS X e D σ H := fun pins s I => thn (h pins s I) fun _ _ q => SP_len q
theorem wpSs_len {e : List Stmt} {σ : St} {H : Hp} {D : Ends} (h : wpSs X e (lenD X.K D) σ H) : wpSs X e D σ H := fun pins s I => thn (h pins s I) fun _ _ q => SP_len q
end

/-! ### what a piece of code does to data -/
structure Exn where
  nm : Str
  pl : Option Int
inductive Res (α : Type) where
  | ok (a : α) (ρ : Rho) | err (x : Exn) (ρ : Rho) | stuck
def Res.bind {α β : Type} (x : Res α) (f : α → Rho → Res β) : Res β := match x with
  | .ok a ρ => f a ρ
  | .err x ρ => .err x ρ
  | .stuck => .stuck
def Post {α : Type} (okP : α → Rho → Prop) (erP : Exn → Rho → Prop) : Res α → Prop
  | .ok a ρ => okP a ρ
  | .err x ρ => erP x ρ
  | .stuck => False
theorem Post.mono {α : Type} {okP okP' : α → Rho → Prop} {erP erP' : Exn → Rho → Prop} {x : Res α} (h : Post okP erP x) (m : ∀ a ρ, okP a ρ → okP' a ρ) (n : ∀ x ρ, erP x ρ → erP' x ρ) : Post okP' erP' x := by
  cases x with
  | ok a ρ => exact m a ρ h
  | err x ρ => exact n x ρ h
  | stuck => exact h
theorem Post.of_bind {α β : Type} {okP : β → Rho → Prop} {erP : Exn → Rho → Prop} {x : Res α} {f : α → Rho → Res β} (h : Post okP erP (x.bind f)) : Post (fun a ρ => Post okP erP (f a ρ)) erP x := by
  cases x with
  | ok a ρ => exact h
  | err x ρ => exact h
  | stuck => exact h
def ofOpt {α : Type} (o : Option α) (ρ : Rho) : Res α := match o with
  | some a => .ok a ρ
  | none => .stuck
theorem Post.of_opt {α : Type} {okP : α → Rho → Prop} {erP : Exn → Rho → Prop} {o : Option α} {ρ : Rho} (h : Post okP erP (ofOpt o ρ)) : ∃ a, o = some a ∧ okP a ρ := by
  cases o with
  | none => exact h.elim
  | some a => exact ⟨a, rfl, h⟩
def ExcAt (mg : Str → Option Value) (H : Hp) (x : Exn) (C : Addr) (dd : Option Addr) : Prop :=
  mg x.nm = some (.ref C) ∧ match x.pl, dd with
    | none, none => True
    | some n, some d => H d = some (.xd [("limit", .int n)])
    | _, _ => False
def ErrE [Tb] (X : Cx) (W : WX) (Hb : Hp) (fx : List Addr) (B : Addr → Prop) (σ : St) (x : Exn) (ρ : Rho) : Prop :=
  ∀ H' C dd, LenOk X.K H' → Abs X.K Hb fx B ρ σ H' → ExcAt X.mg H' x C dd → W (.ref C) dd σ H'
structure SE [Tb] (X : Cx) (W : WX) (e : Expr) (f : Rho → Res Rv) : Prop where
  run : ∀ (Hb : Hp) (fx : List Addr) (B : Addr → Prop) (ρ : Rho) (σ : St) (H : Hp) (Q : VK), Abs X.K Hb fx B ρ σ H →
    Post (fun r ρ' => ∀ v H', LenOk X.K H' → Abs X.K Hb fx B ρ' σ H' → RvOk X.K Hb fx B ρ' σ H' v r → Q v H') (ErrE X W Hb fx B σ) (f ρ) → wpE X e σ H Q
instance [Tb] {X : Cx} {W : WX} {e : Expr} {f : Rho → Res Rv} : CoeFun (SE X W e f) (fun _ => ∀ (Hb : Hp) (fx : List Addr) (B : Addr → Prop) (ρ : Rho) (σ : St) (H : Hp) (Q : VK), Abs X.K Hb fx B ρ σ H →
    Post (fun r ρ' => ∀ v H', LenOk X.K H' → Abs X.K Hb fx B ρ' σ H' → RvOk X.K Hb fx B ρ' σ H' v r → Q v H') (ErrE X W Hb fx B σ) (f ρ) → wpE X e σ H Q) := ⟨SE.run⟩
structure ST [Tb] (X : Cx) (W : WX) (e : Expr) (f : Rho → Res Bool) : Prop where
  run : ∀ (Hb : Hp) (fx : List Addr) (B : Addr → Prop) (ρ : Rho) (σ : St) (H : Hp) (Q : Bool → Hp → Prop), Abs X.K Hb fx B ρ σ H →
    Post (fun r ρ' => ∀ H', LenOk X.K H' → Abs X.K Hb fx B ρ' σ H' → Q r H') (ErrE X W Hb fx B σ) (f ρ) → wpT X e σ H Q
instance [Tb] {X : Cx} {W : WX} {e : Expr} {f : Rho → Res Bool} : CoeFun (ST X W e f) (fun _ => ∀ (Hb : Hp) (fx : List Addr) (B : Addr → Prop) (ρ : Rho) (σ : St) (H : Hp) (Q : Bool → Hp → Prop), Abs X.K Hb fx B ρ σ H →
    Post (fun r ρ' => ∀ H', LenOk X.K H' → Abs X.K Hb fx B ρ' σ H' → Q r H') (ErrE X W Hb fx B σ) (f ρ) → wpT X e σ H Q) := ⟨ST.run⟩
structure SW [Tb] (X : Cx) (W : WX) (e : Expr) (f : Rho → Res Bool) : Prop where
  run : ∀ (Hb : Hp) (fx : List Addr) (B : Addr → Prop) (ρ : Rho) (σ : St) (H : Hp) (Q : Bool → Hp → Prop), Abs X.K Hb fx B ρ σ H →
    Post (fun r ρ' => ∀ H', LenOk X.K H' → Abs X.K Hb fx B ρ' σ H' → Q r H') (ErrE X W Hb fx B σ) (f ρ) → wpW X e σ H Q
instance [Tb] {X : Cx} {W : WX} {e : Expr} {f : Rho → Res Bool} : CoeFun (SW X W e f) (fun _ => ∀ (Hb : Hp) (fx : List Addr) (B : Addr → Prop) (ρ : Rho) (σ : St) (H : Hp) (Q : Bool → Hp → Prop), Abs X.K Hb fx B ρ σ H →
    Post (fun r ρ' => ∀ H', LenOk X.K H' → Abs X.K Hb fx B ρ' σ H' → Q r H') (ErrE X W Hb fx B σ) (f ρ) → wpW X e σ H Q) := ⟨SW.run⟩
def RvAll [Tb] (K : PySem.W.Frag) (Hb : Hp) (fx : List Addr) (B : Addr → Prop) (ρ : Rho) (σ : St) (H : Hp) (vs : List V) (rs : List Rv) : Prop := Paired (fun v r => RvOk K Hb fx B ρ σ H v r ∧ r.weak = r ∧ ∀ k, r ≠ .newk k) vs rs
structure SA [Tb] (X : Cx) (W : WX) (es : List Expr) (f : Rho → Res (List Rv)) : Prop where
  run : ∀ (Hb : Hp) (fx : List Addr) (B : Addr → Prop) (ρ : Rho) (σ : St) (H : Hp) (Q : List V → Hp → Prop), Abs X.K Hb fx B ρ σ H →
    Post (fun rs ρ' => ∀ vs H', LenOk X.K H' → Abs X.K Hb fx B ρ' σ H' → RvAll X.K Hb fx B ρ' σ H' vs rs → Q vs H') (ErrE X W Hb fx B σ) (f ρ) → wpA X es σ H Q
instance [Tb] {X : Cx} {W : WX} {es : List Expr} {f : Rho → Res (List Rv)} : CoeFun (SA X W es f) (fun _ => ∀ (Hb : Hp) (fx : List Addr) (B : Addr → Prop) (ρ : Rho) (σ : St) (H : Hp) (Q : List V → Hp → Prop), Abs X.K Hb fx B ρ σ H →
    Post (fun rs ρ' => ∀ vs H', LenOk X.K H' → Abs X.K Hb fx B ρ' σ H' → RvAll X.K Hb fx B ρ' σ H' vs rs → Q vs H') (ErrE X W Hb fx B σ) (f ρ) → wpA X es σ H Q) := ⟨SA.run⟩
section
variable [Tb] {K : PySem.W.Frag} {Hb Hb' H H' : Hp} {fx : List Addr} {B B' : Addr → Prop} {ρ ρ' : Rho} {σ σ' : St} {p : Addr} {o : HO} {X : Cx} {W : WX}
theorem RvOk.rebase {v : V} {r : Rv} (h : RvOk K Hb' fx B ρ σ H v r) (e : Same Hb Hb') : RvOk K Hb fx B ρ σ H v r := by
  cases r with
  | dat d => exact h
  | bor i => exact h
  | new l =>
    obtain ⟨p, vs, h1, h2, h3, h4, h5, h6⟩ := h
    exact ⟨p, vs, h1, h2, h3, h4, e.free h5, h6.rebase e⟩
  | newk l =>
    obtain ⟨p, vs, h1, h2, h3, h4, h5, h6⟩ := h
    exact ⟨p, vs, h1, h2, h3, h4, e.free h5, h6.rebase e⟩
theorem ErrE.rebase {x : Exn} (h : ErrE X W Hb fx B σ x ρ) (e : Same Hb Hb') : ErrE X W Hb' fx B σ x ρ := fun H' C dd l A z => h H' C dd l (A.rebase e) z
omit [Tb] in
theorem rd_weak {r : Rv} {d : D} (h : rd ρ r = some d) : rd ρ r.weak = some d := by cases r <;> first | exact h | cases h
omit [Tb] in
theorem rd_nk {r : Rv} {d : D} (h : rd ρ r = some d) : ∀ k, r ≠ .newk k := fun k e => by rw [e] at h; cases h
omit [Tb] in
theorem weak_weak (r : Rv) : r.weak.weak = r.weak := by cases r <;> rfl
omit [Tb] in
theorem weak_nk {r : Rv} (h : ∀ k, r ≠ .newk k) : ∀ k, r.weak ≠ .newk k := fun k e => by
  cases r with
  | newk l => exact h l rfl
  | dat d => cases e
  | new l => cases e
  | bor i => cases e
/-- one after another: the first's result kept weak -/
theorem se_seq {a b : Expr} {fa fb : Rho → Res Rv} (ha : SE X W a fa) (hb : SE X W b fb) (A : Abs X.K Hb fx B ρ σ H) {R : V → V → Hp → Prop}
    (h : Post (fun r1 ρ1 => Post (fun r2 ρ2 => ∀ v1 v2 H2, LenOk X.K H2 → Abs X.K Hb fx B ρ2 σ H2 → ((∀ k, r1 ≠ .newk k) → RvOk X.K Hb fx B ρ2 σ H2 v1 r1.weak) → RvOk X.K Hb fx B ρ2 σ H2 v2 r2 → R v1 v2 H2) (ErrE X W Hb fx B σ) (fb ρ1)) (ErrE X W Hb fx B σ) (fa ρ)) :
    wpE X a σ H fun v1 H1 => wpE X b σ H1 fun v2 H2 => R v1 v2 H2 := by
  refine ha Hb fx B ρ σ H _ A (h.mono (fun r1 ρ1 h1 v1 H1 l1 A1 q1 => ?_) fun _ _ z => z)
  refine hb _ fx B ρ1 σ H1 _ A1.here (h1.mono (fun r2 ρ2 h2 v2 H2 l2 A2 q2 => ?_) fun _ _ z => z.rebase A1.same)
  exact h2 v1 v2 H2 l2 (A2.rebase A1.same) (fun n => q1.weak.keep (weak_weak r1) (weak_nk n) A2) (q2.rebase A1.same)

/-! ### names and constants -/
def dVar (i : Nat) (ρ : Rho) : Res Rv := match ρ[i]? with
  | some (.dat d) => .ok (.dat d) ρ
  | some (.ls _) => .ok (.bor i) ρ
  | some (.rf _ _) => .ok (.bor i) ρ
  | some (.dk _) => .ok (.bor i) ρ
  | _ => .stuck
def dC (d : D) (ρ : Rho) : Res Rv := .ok (.dat d) ρ
theorem se_pv {e : Expr} {i : Nat} (h : PE X e (tVar i)) : SE X W e (dVar i) := by
  refine ⟨fun Hb fx B ρ σ H Q A h1 => ?_⟩
  refine wpE_len (wp_pe h ?_)
  unfold dVar at h1
  cases q : ρ[i]? with
  | none => rw [q] at h1; exact h1.elim
  | some sl =>
    have s := A.slot i sl q
    rw [q] at h1
    cases sl with
    | un => exact h1.elim
    | dat d => obtain ⟨v, e, z⟩ := s; exact ⟨v, of_getD e, fun l => h1 v H l A z⟩
    | ls d => obtain ⟨p, vs, e, z⟩ := s; exact ⟨_, of_getD e, fun l => h1 _ H l A (of_getD e)⟩
    | rf k d => obtain ⟨p, vs, e, z⟩ := s; exact ⟨_, of_getD e, fun l => h1 _ H l A (of_getD e)⟩
    | dk d => obtain ⟨p, vs, e, z⟩ := s; exact ⟨_, of_getD e, fun l => h1 _ H l A (of_getD e)⟩
    | scr d => exact h1.elim
    | fn d => exact h1.elim
    | pv d => exact h1.elim
theorem se_c {e : Expr} {v : V} {d : D} (h : PE X e (tC v)) (hd : ∀ H, Dq H v d) : SE X W e (dC d) := .mk fun Hb fx B ρ σ H Q A h1 =>
  wpE_len (wp_pe h fun l => h1 v H l A (hd _))
theorem se_int {i j pos} : SE X W (.Constant (.int i) j pos) (dC (.int i)) := se_c pe_int fun _ => .int i
theorem se_bl {i j pos} : SE X W (.Constant (.bool i) j pos) (dC (.bool i)) := se_c pe_bl fun _ => .bl i
theorem se_non {j pos} : SE X W (.Constant .none j pos) (dC .none) := se_c pe_non fun _ => .non
theorem se_str {i j pos} : SE X W (.Constant (.str i) j pos) (dC (.str i)) := se_c pe_str fun _ => .str i
/-- a module's constant -/
theorem se_glob {x : Str} {i : Int} {t : Tok} {pos : Pos} (hg : Gl X x) (hm : X.mg x = some (.int i t)) (hd : (x == ("__debug__" : Str)) = false := by decide) : SE X W (.Name x pos) (dC (.int i)) :=
  se_c (v := .int i) (pe_glob hg hm ⟨t, rfl⟩ hd) fun _ => .int i

/-! ### operators by values -/
inductive Outc (H : Hp) (S : Addr → Prop) : Rv → V → Hp → Prop
  | dat {v : V} {d : D} (h : Dq (hide H S) v d) : Outc H S (.dat d) v H
  | new {p : Addr} {vs : List V} {l : List D} (n : H p = none) (h : DqA (hide H S) vs l) : Outc H S (.new l) (.ref p) (upd H p (.lst vs))
  | tup {p : Addr} {vs : List V} {l : List D} (n : H p = none) (h : DqA (hide H S) vs l) : Outc H S (.dat (.tuple l)) (.ref p) (upd H p (.tup vs))
theorem Abs.allocB (A : Abs K Hb fx B ρ σ H) (n : H p = none) : Abs K Hb fx (fun a => B a ∨ a = p) ρ σ (upd H p o) := by
  have A' := A.alloc (o := o) n
  refine ⟨A'.len, A'.same, fun i sl e => ?_, A'.inj, A'.fxn, A'.fxd, A'.fxp, A'.rfi, fun q h => ?_, A'.tfx, A'.tab⟩
  · refine (A.slot i sl e).mono (fun a u z e => ⟨fun w => z ?_, by rw [upd_ne (ne_of_none e n)]; exact e⟩) (fun q z e2 => ?_) (fun q z e2 m => ?_)
    · rcases w with w | (w | w) | w
      · exact .inl w
      · exact .inr (.inl w)
      · rw [w, n] at e; cases e
      · exact .inr (.inr w)
    · obtain ⟨p', o', e4, e5⟩ := (A.slot i sl e).there z
      rw [e2] at e4; cases e4
      exact upd_ne (ne_of_none e5 n)
    · exact upd_ne fun z => A.fxp q m (by rw [z]; exact n)
  · rcases h with h | h
    · exact A'.bpr q h
    · subst h
      exact ⟨by rw [upd_same]; simp, fun z => A.bad_there (B := B) (Bad.hid z) n⟩
theorem Outc.ok (A : Abs K Hb fx B ρ σ H) {r : Rv} {v : V} (o : Outc H (Bad fx B ρ σ) r v H') : Abs K Hb fx B ρ σ H' ∧ RvOk K Hb fx B ρ σ H' v r := by
  cases o with
  | dat h => exact ⟨A, h⟩
  | @new p vs l n h =>
    refine ⟨A.alloc n, p, vs, rfl, upd_same, fun z => A.bad_there z n, dpa_mono (hide_mono fun a o m e => ⟨fun z => m ?_, grow_upd n a o e⟩) h, ?_, A.allocB n⟩
    · rcases z with z | z
      · exact z
      · rw [z, n] at e; cases e
    · cases q : Hb p with
      | none => rfl
      | some o => rw [A.base_keep q] at n; cases n
  | @tup p vs l n h =>
    refine ⟨A.alloc n, ?_⟩
    have m : Same (hide H (Bad fx B ρ σ)) (hide (upd H p (.tup vs)) (Bad fx B ρ σ)) := hide_mono fun a o m e => ⟨m, grow_upd n a o e⟩
    exact .tup (hide_eq.mpr ⟨fun z => A.bad_there z n, upd_same⟩) (dpa_mono m h)
/-- a two-place rule by values does what g says of data -/
def OpD (K : PySem.W.Frag) (r : R2) (g : D → D → Option Rv) : Prop := ∀ (H : Hp) (S : Addr → Prop) (v1 v2 : V) (d1 d2 : D) (rv : Rv), LenOk K H → Lo H S v1 d1 → Lo H S v2 d2 → g d1 d2 = some rv →
  ∀ Q : VK, (∀ v H', Outc H S rv v H' → Q v H') → r v1 v2 H Q
def dOp2 (g : D → D → Option Rv) (fa fb : Rho → Res Rv) (ρ : Rho) : Res Rv := (fa ρ).bind fun r1 ρ1 => (fb ρ1).bind fun r2 ρ2 => match rd ρ2 r1, rd ρ2 r2 with
  | some d1, some d2 => ofOpt (g d1 d2) ρ2
  | _, _ => .stuck
theorem op2_seq {a b : Expr} {fa fb : Rho → Res Rv} {r : R2} {g : D → D → Option Rv} (hr : OpD X.K r g) (ha : SE X W a fa) (hb : SE X W b fb) (A : Abs X.K Hb fx B ρ σ H) {Q : VK}
    (h : Post (fun r ρ' => ∀ v H', Abs X.K Hb fx B ρ' σ H' → RvOk X.K Hb fx B ρ' σ H' v r → Q v H') (ErrE X W Hb fx B σ) (dOp2 g fa fb ρ)) : tOp r (wpE X a) (wpE X b) σ H Q := by
  refine se_seq ha hb A (h.of_bind.mono (fun r1 ρ1 h1 => h1.of_bind.mono (fun r2 ρ2 h2 v1 v2 H2 l2 A2 q1 q2 => ?_) fun _ _ z => z) fun _ _ z => z)
  cases e1 : rd ρ2 r1 with
  | none => simp only [e1] at h2; exact h2.elim
  | some d1 =>
    cases e2 : rd ρ2 r2 with
    | none => simp only [e1, e2] at h2; exact h2.elim
    | some d2 =>
      simp only [e1, e2] at h2
      obtain ⟨rv, e3, h3⟩ := h2.of_opt
      exact hr H2 _ v1 v2 d1 d2 rv l2 ((q1 (rd_nk e1)).lo A2 (rd_weak e1)) (q2.lo A2 e2) e3 Q fun v H' o => h3 v H' (o.ok A2).1 (o.ok A2).2
theorem Post.len {Q : VK} {x : Res Rv} (h : Post (fun r ρ' => ∀ v H', LenOk X.K H' → Abs X.K Hb fx B ρ' σ H' → RvOk X.K Hb fx B ρ' σ H' v r → Q v H') (ErrE X W Hb fx B σ) x) :
    Post (fun r ρ' => ∀ v H', Abs X.K Hb fx B ρ' σ H' → RvOk X.K Hb fx B ρ' σ H' v r → LenOk X.K H' → Q v H') (ErrE X W Hb fx B σ) x := h.mono (fun _ _ z v H' a b c => z v H' c a b) fun _ _ z => z
theorem se_op {a b : Expr} {fa fb : Rho → Res Rv} {op : Operator} {r : R2} {g : D → D → Option Rv} {pos : Pos} (ho : OpR X (binaryOp op) r) (hr : OpD X.K r g) (ha : SE X W a fa) (hb : SE X W b fb) :
    SE X W (.BinOp a op b pos) (dOp2 g fa fb) := .mk fun Hb fx B ρ σ H Q A h =>
  wpE_len (wp_pe (pe_op ho pe_wp pe_wp) (op2_seq hr ha hb A h.len))
theorem se_cmp {a b : Expr} {fa fb : Rho → Res Rv} {op : CmpOp} {r : R2} {g : D → D → Option Rv} {pos : Pos} (ho : OpR X (compareOp op) r) (hr : OpD X.K r g) (ha : SE X W a fa) (hb : SE X W b fb) (hm : behindInMarks op b = false) :
    SE X W (.Compare a [op] [b] pos) (dOp2 g fa fb) := .mk fun Hb fx B ρ σ H Q A h =>
  wpE_len (wp_pe (pe_cmpR ho pe_wp pe_wp hm) (op2_seq hr ha hb A h.len))
omit [Tb] in
theorem OpD.or {r r' : R2} {g g' : D → D → Option Rv} (h : OpD K r g) (h' : OpD K r' g') : OpD K (fun x y H Q => r x y H Q ∨ r' x y H Q) (fun d e => (g d e).or (g' d e)) := by
  intro H S v1 v2 d1 d2 rv l h1 h2 e Q q
  have e : (g d1 d2).or (g' d1 d2) = some rv := e
  cases z : g d1 d2 with
  | some r0 =>
    rw [z] at e
    simp only [Option.some_or] at e
    cases e
    exact .inl (h H S v1 v2 d1 d2 _ l h1 h2 z Q q)
  | none =>
    rw [z] at e
    simp only [Option.none_or] at e
    exact .inr (h' H S v1 v2 d1 d2 _ l h1 h2 e Q q)
end
end R
namespace R
open PySem PySem.Spec L2
open PyProof.Rows hiding St
section
variable {K : PySem.W.Frag} {H H' : Hp} {S : Addr → Prop} {v : V}
theorem Lo.int {i : Int} (h : Lo H S v (.int i)) : v = .int i := by
  have := h.strict (fun l e => nomatch e)
  cases this; rfl
theorem Lo.bl {i : Bool} (h : Lo H S v (.bool i)) : v = .bl i := by
  have := h.strict (fun l e => nomatch e)
  cases this; rfl
theorem Lo.str {i : Str} (h : Lo H S v (.str i)) : v = .str i := by
  have := h.strict (fun l e => nomatch e)
  cases this; rfl
theorem Lo.non (h : Lo H S v .none) : v = .non := by
  have := h.strict (fun l e => nomatch e)
  cases this; rfl
/-- ints -/
def gI (C : Int → Int → Bool) (f : Int → Int → D) : D → D → Option Rv
  | .int i, .int j => if C i j then some (.dat (f i j)) else none
  | _, _ => none
def gI0 (f : Int → Int → D) : D → D → Option Rv
  | .int i, .int j => some (.dat (f i j))
  | _, _ => none
theorem opd_I {C : Int → Int → Prop} {c : Int → Int → Bool} {g : Int → Int → V} {f : Int → Int → D} (hc : ∀ i j, c i j = true → C i j) (hg : ∀ H i j, Dq H (g i j) (f i j)) : OpD K (rI C g) (gI c f) := by
  intro H S v1 v2 d1 d2 rv l h1 h2 e Q q
  unfold gI at e
  split at e
  · rename_i i j
    split at e
    · rename_i z
      cases e
      exact ⟨i, j, h1.int, h2.int, hc i j z, q _ _ (.dat (hg _ i j))⟩
    · cases e
  · cases e
theorem opd_I0 {g : Int → Int → V} {f : Int → Int → D} (hg : ∀ H i j, Dq H (g i j) (f i j)) : OpD K (rI0 g) (gI0 f) := by
  intro H S v1 v2 d1 d2 rv l h1 h2 e Q q
  unfold gI0 at e
  split at e
  · rename_i i j
    cases e
    exact ⟨i, j, h1.int, h2.int, q _ _ (.dat (hg _ i j))⟩
  · cases e
def gSub : D → D → Option Rv := gI0 fun i j => .int (i - j)
def gMod : D → D → Option Rv := gI (fun i j => decide (0 < j)) fun i j => .int (i % j)
def gFdiv : D → D → Option Rv := gI (fun i j => decide (0 < j ∧ j < 2 ^ 64)) fun i j => .int (i / j)
def gPow : D → D → Option Rv := gI (fun i j => decide (0 ≤ j ∧ j ≤ 1000 ∧ -(2 ^ 63) < i ∧ i < 2 ^ 63)) fun i j => .int (i ^ j.toNat)
def gLe : D → D → Option Rv := gI0 fun i j => .bool (decide (i ≤ j))
def gGt : D → D → Option Rv := gI0 fun i j => .bool (decide (j < i))
def gGe : D → D → Option Rv := gI0 fun i j => .bool (decide (j ≤ i))
variable {X : Cx}
theorem ok_sub : OpD K (rI0 fun i j => .int (i - j)) gSub := opd_I0 fun _ _ _ => .int _
theorem ok_mod : OpD K (rI (fun _ j => 0 < j) fun i j => .int (i % j)) gMod := opd_I (fun _ _ h => of_decide_eq_true h) fun _ _ _ => .int _
theorem ok_fdiv : OpD K (rI CDivW fun i j => .int (i / j)) gFdiv := opd_I (fun i j h => by
  have h := of_decide_eq_true h
  exact wide_div (b := 64) h.1 (by omega) (by decide) (by decide)) fun _ _ _ => .int _
theorem ok_pow : OpD K (rI CPow fun i j => .int (i ^ j.toNat)) gPow := opd_I (fun i j h => by
  have h := of_decide_eq_true h
  exact ⟨h.1, by omega, by omega⟩) fun _ _ _ => .int _
theorem ok_le : OpD K (rI0 fun i j => .bl (decide (i ≤ j))) gLe := opd_I0 fun _ _ _ => .bl _
theorem ok_gt : OpD K (rI0 fun i j => .bl (decide (j < i))) gGt := opd_I0 fun _ _ _ => .bl _
theorem ok_ge : OpD K (rI0 fun i j => .bl (decide (j ≤ i))) gGe := opd_I0 fun _ _ _ => .bl _
/-! + -/
def rCatR : R2 := fun x y H Q => ∃ l b xs zs, x = .ref l ∧ y = .ref b ∧ Rd H l (.lst xs) ∧ Rd H b (.lst zs) ∧ xs.length + zs.length ≤ sizeLine ∧ ∀ p, H p = none → Q (.ref p) (upd H p (.lst (xs ++ zs)))
theorem op_catR : OpR X (binaryOp .Add) rCatR := by
  intro pins s σ H x y v u Q I rx ry h
  obtain ⟨l, b, xs, zs, rfl, rfl, hH, hB, hz, q⟩ := h
  cases rx
  cases ry
  obtain ⟨z, its, n, r, e⟩ := hH.ok I.hok
  obtain ⟨z2, its2, n2, r2, e2⟩ := hB.ok I.hok
  have hl := r.length
  have hl2 := r2.length
  refine PySem.P.add_list e e2 ?_ (by rw [List.size_toArray, List.size_toArray]; omega)
  have ea : its.toArray ++ its2.toArray = (its ++ its2).toArray := by simp
  rw [ea]
  exact ⟨.ref _, _, I.lnew (t' := s.toks) (r.append r2) (by rw [List.length_append]; omega), rfl, q _ I.fresh⟩
def gAdd : D → D → Option Rv
  | .int i, .int j => some (.dat (.int (i + j)))
  | .tuple a, .tuple b => if a.length + b.length ≤ 16777216 then some (.dat (.tuple (a ++ b))) else none
  | .list a, .list b => if a.length + b.length ≤ 16777216 then some (.new (a ++ b)) else none
  | .str a, .str b => if a.length + b.length ≤ 16777216 then some (.dat (.str (a ++ b))) else none
  | _, _ => none
def rStrCat : R2 := fun x y H Q => ∃ i j, x = .str i ∧ y = .str j ∧ i.length + j.length ≤ sizeLine ∧ Q (.str (i ++ j)) H
def rAddA (K : PySem.W.Frag) : R2 := fun x y H Q => rI0 (fun i j => .int (i + j)) x y H Q ∨ (fun x y H Q => rCatA K x y H Q ∨ (fun x y H Q => rCatR x y H Q ∨ rStrCat x y H Q) x y H Q) x y H Q
theorem op_addA : OpR X (binaryOp .Add) (rAddA X.K) := op_add.or (op_catA.or (op_catR.or op_add_str))
theorem ok_add : OpD K (rAddA K) gAdd := by
  intro H S v1 v2 d1 d2 rv l h1 h2 e Q q
  unfold gAdd at e
  split at e
  · cases e
    exact .inl ⟨_, _, h1.int, h2.int, q _ _ (.dat (.int _))⟩
  · split at e
    · rename_i a b z
      cases e
      obtain ⟨p1, x1, rfl, r1, a1⟩ := h1.tuple
      obtain ⟨p2, x2, rfl, r2, a2⟩ := h2.tuple
      refine .inr (.inl ⟨p1, p2, x1, x2, rfl, rfl, .inl (.inl (hide_sub _ _ r1)), .inl (.inl (hide_sub _ _ r2)), by rw [dpa_len a1, dpa_len a2, sizeLine_eq]; exact z, fun e1 => ?_, fun e1 e2 => ?_, fun e1 e2 p n => ?_⟩)
      · subst e1
        cases a1
        exact q _ _ (.dat (.tup r2 a2))
      · subst e2
        cases a2
        rw [List.append_nil] at q
        exact q _ _ (.dat (.tup r1 a1))
      · exact q _ _ (.tup n (dpa_app a1 a2))
    · cases e
  · split at e
    · rename_i a b z
      cases e
      obtain ⟨p1, x1, rfl, r1, a1⟩ := h1.list
      obtain ⟨p2, x2, rfl, r2, a2⟩ := h2.list
      exact .inr (.inr (.inl ⟨p1, p2, x1, x2, rfl, rfl, r1, r2, by rw [dpa_len a1, dpa_len a2, sizeLine_eq]; exact z, fun p n => q _ _ (.new n (dpa_app a1 a2))⟩))
    · cases e
  · split at e
    · rename_i a b z
      cases e
      exact .inr (.inr (.inr ⟨a, b, h1.str, h2.str, by rw [sizeLine_eq]; exact z, q _ _ (.dat (.str _))⟩))
    · cases e
  · cases e
/-! * -/
theorem dpa_rep {vs : List V} {l : List D} (h : DqA H vs l) : ∀ k : Nat, DqA H (List.replicate k vs).flatten (List.replicate k l).flatten
  | 0 => .nil
  | k + 1 => by
    rw [List.replicate_succ, List.replicate_succ, List.flatten_cons, List.flatten_cons]
    exact dpa_app h (dpa_rep h k)
def rRepR : R2 := fun x y H Q => ∃ l k xs, x = .ref l ∧ y = .int k ∧ Rd H l (.lst xs) ∧ -(2 ^ 63) ≤ k ∧ k < 2 ^ 63 ∧ xs.length * k.toNat ≤ sizeLine ∧
  ∀ p, H p = none → Q (.ref p) (upd H p (.lst (List.replicate k.toNat xs).flatten))
theorem op_repR : OpR X (binaryOp .Mult) rRepR := by
  intro pins s σ H x y v u Q I rx ry h
  obtain ⟨l, k, xs, rfl, rfl, hH, h1, h2, hz, q⟩ := h
  cases rx
  obtain ⟨t, rfl⟩ := ry
  obtain ⟨z, its, n, r, e⟩ := hH.ok I.hok
  have hl := r.length
  have hlen : its.toArray.size * k.toNat ≤ sizeLine := by rw [List.size_toArray, ← hl]; exact hz
  have hcap : ¬ its.toArray.size * k.toNat > (2 ^ 63 - 1) / 8 := by
    have : (sizeLine : Nat) ≤ (2 ^ 63 - 1) / 8 := by decide
    omega
  have hfit : ¬ (!Builtin.List.listFitsIndex k) = true := by
    rw [fitsIndex_both h1 h2]
    exact Bool.false_ne_true
  have hlong : ¬ Builtin.List.listTooLong (its.toArray.size * k.toNat) = true := by
    rw [notLongL hlen]
    exact Bool.false_ne_true
  have hnew : List.foldl (fun x1 x2 => x1 ++ x2) #[] (List.replicate (if its.toArray.isEmpty = true then 0 else k.toNat) its.toArray) = (List.replicate k.toNat its).flatten.toArray := by
    have f0 : ∀ m : Nat, List.foldl (fun x1 x2 => x1 ++ x2) #[] (List.replicate m its.toArray) = (List.replicate m its).flatten.toArray := fun m => by
      have := foldl_rep its m []
      rw [List.nil_append] at this
      exact this
    rw [f0]
    cases its with
    | nil => simp
    | cons a r' => rw [if_neg (by simp)]
  refine wpAny_binaryOp_repeat_ref (T := "list") (U := "int") (by decide) ⟨_, e, rfl⟩ (fun s' => typeIs_int s' k t) noFill_list_mul F.fills_int_mul F.slot_int_rmul repeat_list F.slot_int_index.lookup
    (call_meets F.slot_int_rmul (typeIs_int s k t) F.entry_int_rmul (F.args_int_rmul_2 _ _) (int___rmul___int_list k t l its.toArray n)
      ⟨e, rfl, ⟨_, e, rfl⟩, call_meets F.slot_list_mul ⟨_, e, rfl⟩ F.entry_list_mul (F.args_list_mul_2 _ _) (AutoListH.list___mul___list_int_3 l its.toArray n k t hfit hcap hlong) ⟨e, ?_⟩⟩)
  rw [hnew]
  exact ⟨.ref _, _, I.lnew (t' := s.toks) (r.rep k.toNat) (by rw [PyProof.Rows.lm_len_rep_flat, Nat.mul_comm]; exact hz), rfl, q _ I.fresh⟩
def gMul : D → D → Option Rv
  | .int i, .int j => if (-(2 ^ 64) < i ∧ i < 2 ^ 64) ∨ (-(2 ^ 64) < j ∧ j < 2 ^ 64) then some (.dat (.int (i * j))) else none
  | .list a, .int k => if k ≤ 100000 ∧ a.length * k.toNat ≤ 16777216 ∧ -100000 ≤ k then some (.new (List.replicate k.toNat a).flatten) else none
  | .tuple a, .int k => if 2 ≤ k ∧ k ≤ 1000 ∧ a.length ≤ 1000 ∧ 0 < a.length then some (.dat (.tuple (List.replicate k.toNat a).flatten)) else none
  | _, _ => none
def rMulA (K : PySem.W.Frag) : R2 := fun x y H Q => rI CMul (fun i j => .int (i * j)) x y H Q ∨ (fun x y H Q => rRepR x y H Q ∨ rRepT K x y H Q) x y H Q
theorem op_mulA : OpR X (binaryOp .Mult) (rMulA X.K) := op_mul.or (op_repR.or op_repT)
theorem ok_mul : OpD K (rMulA K) gMul := by
  intro H S v1 v2 d1 d2 rv l h1 h2 e Q q
  unfold gMul at e
  split at e
  · split at e
    · rename_i i j z
      cases e
      exact .inl ⟨i, j, h1.int, h2.int, z, q _ _ (.dat (.int _))⟩
    · cases e
  · split at e
    · rename_i a k z
      cases e
      obtain ⟨p1, x1, rfl, r1, a1⟩ := h1.list
      exact .inr (.inl ⟨p1, k, x1, rfl, h2.int, r1, by omega, by omega, by rw [dpa_len a1, sizeLine_eq]; exact z.2.1, fun p n => q _ _ (.new n (dpa_rep a1 _))⟩)
    · cases e
  · split at e
    · rename_i a k z
      cases e
      obtain ⟨p1, x1, rfl, r1, a1⟩ := h1.tuple
      refine .inr (.inr ⟨p1, k, x1, rfl, h2.int, .inl (.inl (hide_sub _ _ r1)), fun y => ?_, z.1, z.2.1, by rw [dpa_len a1]; exact z.2.2.1, fun p n => q _ _ (.tup n (dpa_rep a1 _))⟩)
      have := dpa_len a1
      rw [y] at this
      simp at this
      omega
    · cases e
  · cases e
/-! comparisons -/
def intsOf : List D → Option (List Int)
  | [] => some []
  | .int i :: r => (intsOf r).map (i :: ·)
  | _ => none
theorem intsOf_eq : ∀ {l : List D} {ns : List Int}, intsOf l = some ns → l = ns.map .int
  | [], ns, h => by cases h; rfl
  | .int i :: r, ns, h => by
    unfold intsOf at h
    cases e : intsOf r with
    | none => rw [e] at h; cases h
    | some ms =>
      rw [e] at h
      cases h
      rw [intsOf_eq e]; rfl
  | .none :: r, ns, h => by cases h
  | .bool _ :: r, ns, h => by cases h
  | .str _ :: r, ns, h => by cases h
  | .list _ :: r, ns, h => by cases h
  | .tuple _ :: r, ns, h => by cases h
  | .dict _ :: r, ns, h => by cases h
theorem intsOf_map : ∀ ns : List Int, intsOf (ns.map .int) = some ns
  | [] => rfl
  | i :: r => by show (intsOf (r.map .int)).map (i :: ·) = _; rw [intsOf_map r]; rfl
def gLt : D → D → Option Rv
  | .int i, .int j => some (.dat (.bool (decide (i < j))))
  | .tuple a, .tuple b => match intsOf a, intsOf b with
    | some ns, some ms => some (.dat (.bool (HT.lexLt ns ms)))
    | _, _ => none
  | _, _ => none
def rLtA (K : PySem.W.Frag) : R2 := fun x y H Q => rI0 (fun i j => .bl (decide (i < j))) x y H Q ∨ rLtT K x y H Q
theorem op_ltA (hu : X.A.units < cLine) : OpR X (compareOp .Lt) (rLtA X.K) := op_lt.or (op_ltT hu)
theorem ok_lt : OpD K (rLtA K) gLt := by
  intro H S v1 v2 d1 d2 rv l h1 h2 e Q q
  unfold gLt at e
  split at e
  · cases e
    exact .inl ⟨_, _, h1.int, h2.int, q _ _ (.dat (.bl _))⟩
  · split at e
    · rename_i a b ns ms e1 e2
      cases e
      obtain ⟨p1, x1, rfl, r1, a1⟩ := h1.tuple
      obtain ⟨p2, x2, rfl, r2, a2⟩ := h2.tuple
      rw [intsOf_eq e1] at a1
      rw [intsOf_eq e2] at a2
      have b1 := dpa_ints a1
      have b2 := dpa_ints a2
      subst b1 b2
      exact .inr ⟨p1, p2, ns, ms, rfl, rfl, .inl (.inl (hide_sub _ _ r1)), .inl (.inl (hide_sub _ _ r2)), q _ _ (.dat (.bl _))⟩
    · cases e
  · cases e
def gEq (d e : D) : Option Rv := if SeqAt.shaped d && SeqAt.shaped e then some (.dat (.bool (PyData.eqv d e))) else none
def gNe (d e : D) : Option Rv := if SeqAt.shaped d && SeqAt.shaped e then some (.dat (.bool (!PyData.eqv d e))) else none
theorem ok_eq : OpD K (rEqD K) gEq := by
  intro H S v1 v2 d1 d2 rv l h1 h2 e Q q
  unfold gEq at e
  split at e
  · rename_i z
    rw [Bool.and_eq_true] at z
    cases e
    exact ⟨d1, d2, h1.dp.dp, h2.dp.dp, z.1, z.2, q _ _ (.dat (.bl _))⟩
  · cases e
theorem ok_ne : OpD K (rNeD K) gNe := by
  intro H S v1 v2 d1 d2 rv l h1 h2 e Q q
  unfold gNe at e
  split at e
  · rename_i z
    rw [Bool.and_eq_true] at z
    cases e
    exact ⟨d1, d2, h1.dp.dp, h2.dp.dp, z.1, z.2, q _ _ (.dat (.bl _))⟩
  · cases e
def isNone : D → Bool
  | .none => true
  | _ => false
def rIsA : R2 := fun x y H Q => (y = .non ∧ Q (.bl (decide (x = .non))) H) ∨ rIsB x y H Q
def rIsNA : R2 := fun x y H Q => (y = .non ∧ Q (.bl (!decide (x = .non))) H) ∨ rNotB x y H Q
theorem op_isA : OpR X (compareOp .Is) rIsA := op_isN.or op_isBl
theorem op_isNA : OpR X (compareOp .IsNot) rIsNA := op_notN.or op_notBl
def gIs : D → D → Option Rv
  | d, .none => some (.dat (.bool (isNone d)))
  | .bool a, .bool b => some (.dat (.bool (decide (a = b))))
  | _, _ => none
def gIsNot : D → D → Option Rv
  | d, .none => some (.dat (.bool (!isNone d)))
  | .bool a, .bool b => some (.dat (.bool (!decide (a = b))))
  | _, _ => none
theorem lo_none {d : D} (h : Lo H S v d) : decide (v = .non) = isNone d := by
  have h := h.dp
  cases h <;> rfl
theorem ok_is : OpD K rIsA gIs := by
  intro H S v1 v2 d1 d2 rv l h1 h2 e Q q
  unfold gIs at e
  split at e
  · cases e
    exact .inl ⟨h2.non, by rw [lo_none h1]; exact q _ _ (.dat (.bl _))⟩
  · cases e
    exact .inr ⟨_, _, h1.bl, h2.bl, q _ _ (.dat (.bl _))⟩
  · cases e
theorem ok_isNot : OpD K rIsNA gIsNot := by
  intro H S v1 v2 d1 d2 rv l h1 h2 e Q q
  unfold gIsNot at e
  split at e
  · cases e
    exact .inl ⟨h2.non, by rw [lo_none h1]; exact q _ _ (.dat (.bl _))⟩
  · cases e
    exact .inr ⟨_, _, h1.bl, h2.bl, q _ _ (.dat (.bl _))⟩
  · cases e
/-! in: flat things -/
def flatD : D → Bool
  | .none => true
  | .bool _ => true
  | .int _ => true
  | .str _ => true
  | _ => false
def inD (d : D) (ds : List D) : Bool := ds.any fun y => PyData.eqv y d
theorem flat_of {d : D} (f : flatD d = true) (h : Dq H v d) : flatV v = true := by
  cases h <;> first | rfl | cases f
theorem eqV_of {d e : D} {v w : V} (f : flatD d = true) (g : flatD e = true) (h : Dq H v d) (k : Dq H w e) : eqV v w = PyData.eqv d e := by
  cases h <;> first | (cases f; done) | (cases k <;> first | (cases g; done) | simp [eqV, PyData.eqv])
theorem flat_all : ∀ {vs : List V} {ds : List D}, ds.all flatD = true → DqA H vs ds → vs.all flatV = true
  | _, _, _, .nil => rfl
  | _, _, f, .cons h t => by
    simp only [List.all_cons, Bool.and_eq_true] at f ⊢
    exact ⟨flat_of f.1 h, flat_all f.2 t⟩
theorem in_of {d : D} {v : V} (f : flatD d = true) (h : Dq H v d) : ∀ {vs : List V} {ds : List D}, ds.all flatD = true → DqA H vs ds → inV v vs = inD d ds
  | _, _, _, .nil => rfl
  | _, _, g, .cons h1 t => by
    simp only [List.all_cons, Bool.and_eq_true] at g
    show (eqV _ v || inV v _) = (PyData.eqv _ d || inD d _)
    rw [eqV_of g.1 f h1 h, in_of f h g.2 t]
def seqD : D → Option (List D)
  | .list l => some l
  | .tuple l => some l
  | _ => none
def gIn (neg : Bool) (d e : D) : Option Rv := match seqD e with
  | some l => if flatD d && l.all flatD then some (.dat (.bool (if neg then !inD d l else inD d l))) else none
  | none => none
theorem Lo.seq {e : D} {l : List D} (h : Lo H S v e) (s : seqD e = some l) : ∃ p vs, v = .ref p ∧ (Rd H p (.lst vs) ∨ H p = some (.tup vs)) ∧ DqA (hide H S) vs l := by
  cases e with
  | list l' => cases s; obtain ⟨p, vs, e1, r, a⟩ := h.list; exact ⟨p, vs, e1, .inl r, a⟩
  | tuple l' => cases s; obtain ⟨p, vs, e1, r, a⟩ := h.tuple; exact ⟨p, vs, e1, .inr (hide_sub _ _ r), a⟩
  | none => cases s
  | bool _ => cases s
  | int _ => cases s
  | str _ => cases s
  | dict _ => cases s
theorem sq_of {a : Addr} {vs : List V} (h : Rd H a (.lst vs) ∨ H a = some (.tup vs)) : SqL K H a vs ∨ SqT K H a vs := by
  rcases h with h | h
  · exact .inl (.inl h)
  · exact .inr (SqT.of h)
theorem ok_in {neg : Bool} : OpD K (rIn K neg) (gIn neg) := by
  intro H S v1 v2 d1 d2 rv l h1 h2 e Q q
  unfold gIn at e
  split at e
  · rename_i l' s
    split at e
    · rename_i z
      rw [Bool.and_eq_true] at z
      cases e
      obtain ⟨p, vs, rfl, r, a⟩ := h2.seq s
      have hd : Dq (hide H S) v1 d1 := h1.strict fun l e => by rw [e] at z; cases z.1
      refine ⟨p, vs, rfl, sq_of r, flat_of z.1 hd, flat_all z.2 a, ?_⟩
      rw [in_of z.1 hd z.2 a]
      exact q _ _ (.dat (.bl _))
    · cases e
  · cases e
end
end R
namespace R
open PySem PySem.Spec L2
open PyProof.Rows hiding St
section
variable [Tb] {K : PySem.W.Frag} {Hb Hb' H H' : Hp} {fx : List Addr} {B B' : Addr → Prop} {ρ ρ' : Rho} {σ σ' : St} {p : Addr} {o : HO} {X : Cx} {W : WX} {S : Addr → Prop}
/-! ### tests -/
def asB (f : Rho → Res Rv) (ρ : Rho) : Res Bool := (f ρ).bind fun r ρ1 => match rd ρ1 r with
  | some (.bool b) => .ok b ρ1
  | _ => .stuck
omit [Tb] in
theorem asB_post {f : Rho → Res Rv} {okP : Bool → Rho → Prop} {erP : Exn → Rho → Prop} (h : Post okP erP (asB f ρ)) : Post (fun r ρ1 => ∃ b, rd ρ1 r = some (.bool b) ∧ okP b ρ1) erP (f ρ) :=
  h.of_bind.mono (fun r ρ1 q => by
    split at q
    · rename_i b e; exact ⟨b, e, q⟩
    · exact q.elim) fun _ _ z => z
theorem test_of {e : Expr} {f : Rho → Res Rv} (h : SE X W e f) (A : Abs X.K Hb fx B ρ σ H) {Q : Bool → Hp → Prop}
    (q : Post (fun r ρ' => ∀ H', LenOk X.K H' → Abs X.K Hb fx B ρ' σ H' → Q r H') (ErrE X W Hb fx B σ) (asB f ρ)) : wpE X e σ H fun x H1 => ∃ c, x = .bl c ∧ Q c H1 :=
  h Hb fx B ρ σ H _ A ((asB_post q).mono (fun r ρ1 ⟨b, e, k⟩ v H1 l1 A1 q1 => ⟨b, (q1.lo A1 e).bl, k H1 l1 A1⟩) fun _ _ z => z)
theorem st_val {e : Expr} {f : Rho → Res Rv} (h : SE X W e f) (he : ∀ whole, isTrue e X.env whole = (do let v ← whole; standAt e.pos; holding [v] (truthy v)) := by intro _; rfl) : ST X W e (asB f) :=
  .mk fun Hb fx B ρ σ H Q A q => wp_pt (pt_val pe_wp he) (test_of h A q)
theorem post2 {P : Exn → Rho → Prop} {f : Rho → Res Bool} {Q : Bool → Hp → Prop} (q : Post (fun r ρ' => ∀ H', LenOk X.K H' → Abs X.K Hb fx B ρ' σ H' → Q r H') P (f ρ)) :
    Post (fun r ρ' => ∀ H', LenOk X.K H' → Abs X.K Hb fx B ρ' σ H' → LenOk X.K H' → Q r H') P (f ρ) := q.mono (fun _ _ z H' l A _ => z H' l A) fun _ _ z => z
theorem st_cmp {a b : Expr} {fa fb : Rho → Res Rv} {op : CmpOp} {r : R2} {g : D → D → Option Rv} {pos : Pos} (ho : OpR X (compareOp op) r) (hr : OpD X.K r g) (ha : SE X W a fa) (hb : SE X W b fb) (hm : behindInMarks op b = false) :
    ST X W (.Compare a [op] [b] pos) (asB (dOp2 g fa fb)) := .mk fun Hb fx B ρ σ H Q A h =>
  wpT_len (wp_pt (pt_cmpR ho pe_wp pe_wp hm) (op2_seq hr ha hb A ((asB_post h).mono (fun r ρ1 ⟨b, e, k⟩ v H1 A1 q1 => ⟨b, (q1.lo A1 e).bl, fun l1 => k H1 l1 A1⟩) fun _ _ z => z)))
theorem st_not {a : Expr} {pos : Pos} {f : Rho → Res Bool} (h : ST X W a f) : ST X W (.UnaryOp .Not a pos) (fun ρ => (f ρ).bind fun b ρ1 => .ok (!b) ρ1) := .mk fun Hb fx B ρ σ H Q A q =>
  wp_pt (pt_not pt_wp) (show wpT X a σ H fun c H1 => Q (!c) H1 from h Hb fx B ρ σ H _ A (q.of_bind.mono (fun _ _ z => z) fun _ _ z => z))
def dNot (f : Rho → Res Bool) (ρ : Rho) : Res Bool := (f ρ).bind fun b ρ1 => .ok (!b) ρ1
def dAnd (f g : Rho → Res Bool) (ρ : Rho) : Res Bool := (f ρ).bind fun b ρ1 => if b then g ρ1 else .ok false ρ1
def dOr (f g : Rho → Res Bool) (ρ : Rho) : Res Bool := (f ρ).bind fun b ρ1 => if b then .ok true ρ1 else g ρ1
theorem st_notD {a : Expr} {pos : Pos} {f : Rho → Res Bool} (h : ST X W a f) : ST X W (.UnaryOp .Not a pos) (dNot f) := st_not h
theorem sw_and1 {a : Expr} {pos : Pos} {f : Rho → Res Bool} (h : ST X W a f) : SW X W (.BoolOp .And [a] pos) f := .mk fun Hb fx B ρ σ H Q A q => wp_pw (pw_and1 pt_wp) (h Hb fx B ρ σ H Q A q)
theorem sw_or1 {a : Expr} {pos : Pos} {f : Rho → Res Bool} (h : ST X W a f) : SW X W (.BoolOp .Or [a] pos) f := .mk fun Hb fx B ρ σ H Q A q => wp_pw (pw_or1 pt_wp) (h Hb fx B ρ σ H Q A q)
theorem sw_and {a b : Expr} {rest : List Expr} {pos : Pos} {f g : Rho → Res Bool} (h : ST X W a f) (k : SW X W (.BoolOp .And (b :: rest) pos) g) : SW X W (.BoolOp .And (a :: b :: rest) pos) (dAnd f g) := .mk fun Hb fx B ρ σ H Q A q => by
  refine wp_pw (pw_and pt_wp pw_wp) (h Hb fx B ρ σ H _ A (q.of_bind.mono (fun c ρ1 z H1 l1 A1 => ?_) fun _ _ z => z))
  cases c with
  | true => exact k Hb fx B ρ1 σ H1 Q A1 z
  | false => exact z H1 l1 A1
theorem sw_or {a b : Expr} {rest : List Expr} {pos : Pos} {f g : Rho → Res Bool} (h : ST X W a f) (k : SW X W (.BoolOp .Or (b :: rest) pos) g) : SW X W (.BoolOp .Or (a :: b :: rest) pos) (dOr f g) := .mk fun Hb fx B ρ σ H Q A q => by
  refine wp_pw (pw_or pt_wp pw_wp) (h Hb fx B ρ σ H _ A (q.of_bind.mono (fun c ρ1 z H1 l1 A1 => ?_) fun _ _ z => z))
  cases c with
  | true => exact z H1 l1 A1
  | false => exact k Hb fx B ρ1 σ H1 Q A1 z
theorem st_w {e : Expr} {f : Rho → Res Bool} (h : SW X W e f) : ST X W e f := .mk fun Hb fx B ρ σ H Q A q => fun pins s I => h Hb fx B ρ σ H Q A q _ pins s I
/-- chains: a < b < c -/
def dChain (g g' : D → D → Option Rv) (fa fb fc : Rho → Res Rv) (ρ : Rho) : Res Bool := (fa ρ).bind fun r1 ρ1 => (fb ρ1).bind fun r2 ρ2 => match rd ρ2 r1, rd ρ2 r2 with
  | some d1, some d2 => match g d1 d2 with
    | some (.dat (.bool true)) => (fc ρ2).bind fun r3 ρ3 => match rd ρ3 r2, rd ρ3 r3 with
      | some d2', some d3 => match g' d2' d3 with
        | some (.dat (.bool b)) => .ok b ρ3
        | _ => .stuck
      | _, _ => .stuck
    | some (.dat (.bool false)) => .ok false ρ2
    | _ => .stuck
  | _, _ => .stuck
theorem chain_seq {a b c : Expr} {fa fb fc : Rho → Res Rv} {r r' : R2} {g g' : D → D → Option Rv} (hr : OpD X.K r g) (hr' : OpD X.K r' g') (ha : SE X W a fa) (hb : SE X W b fb) (hc : SE X W c fc) (A : Abs X.K Hb fx B ρ σ H) {Q : VK}
    (h : Post (fun k ρ' => ∀ H', Abs X.K Hb fx B ρ' σ H' → Q (.bl k) H') (ErrE X W Hb fx B σ) (dChain g g' fa fb fc ρ)) :
    tChain r r' (wpE X a) (wpE X b) (wpE X c) σ H Q := by
  refine se_seq ha hb A (h.of_bind.mono (fun r1 ρ1 h1 => h1.of_bind.mono (fun r2 ρ2 h2 v1 v2 H2 l2 A2 q1 q2 => ?_) fun _ _ z => z) fun _ _ z => z)
  cases e1 : rd ρ2 r1 with
  | none => simp only [e1] at h2; exact h2.elim
  | some d1 =>
    cases e2 : rd ρ2 r2 with
    | none => simp only [e1, e2] at h2; exact h2.elim
    | some d2 =>
      simp only [e1, e2] at h2
      split at h2
      · rename_i e3
        refine hr H2 _ v1 v2 d1 d2 _ l2 ((q1 (rd_nk e1)).lo A2 (rd_weak e1)) (q2.lo A2 e2) e3 _ fun v H' o => ?_
        obtain ⟨A3, q3⟩ := o.ok A2
        cases o
        cases q3
        refine ⟨true, rfl, ?_⟩
        rw [if_pos rfl]
        refine hc _ fx B ρ2 σ H2 _ A3.here (h2.of_bind.mono (fun r3 ρ3 h3 w H4 l4 A4 q4 => ?_) fun _ _ z => z.rebase A3.same)
        have q2' := q2.weak.keep (weak_weak r2) (weak_nk (rd_nk e2)) (Hb' := hide H2 (Hid fx ρ2 σ)) A4
        cases e4 : rd ρ3 r2 with
        | none => simp only [e4] at h3; exact h3.elim
        | some d4 =>
          cases e5 : rd ρ3 r3 with
          | none => simp only [e4, e5] at h3; exact h3.elim
          | some d5 =>
            simp only [e4, e5] at h3
            split at h3
            · rename_i b' e6
              refine hr' H4 _ v2 w d4 d5 _ l4 (q2'.lo A4 (rd_weak e4)) (q4.lo A4 e5) e6 _ fun v H' o => ?_
              obtain ⟨A5, q5⟩ := o.ok A4
              cases o
              cases q5
              exact h3 H4 (A5.rebase A3.same)
            · exact h3.elim
      · rename_i e3
        refine hr H2 _ v1 v2 d1 d2 _ l2 ((q1 (rd_nk e1)).lo A2 (rd_weak e1)) (q2.lo A2 e2) e3 _ fun v H' o => ?_
        obtain ⟨A3, q3⟩ := o.ok A2
        cases o
        cases q3
        refine ⟨false, rfl, ?_⟩
        rw [if_neg Bool.false_ne_true]
        exact h2 H2 A3
      · exact h2.elim
def asV (f : Rho → Res Bool) (ρ : Rho) : Res Rv := (f ρ).bind fun b ρ1 => .ok (.dat (.bool b)) ρ1
theorem st_chain {a b c : Expr} {fa fb fc : Rho → Res Rv} {op op' : CmpOp} {r r' : R2} {g g' : D → D → Option Rv} {pos : Pos} (ho : OpR X (compareOp op) r) (ho' : OpR X (compareOp op') r') (hr : OpD X.K r g) (hr' : OpD X.K r' g') (ha : SE X W a fa) (hb : SE X W b fb) (hc : SE X W c fc)
    (hm : lastMarks [op, op'] [b, c] = false := by with_unfolding_all rfl) : ST X W (.Compare a [op, op'] [b, c] pos) (dChain g g' fa fb fc) := .mk fun Hb fx B ρ σ H Q A h =>
  wpT_len (wp_pt (pt_chain ho ho' pe_wp pe_wp pe_wp hm) (chain_seq hr hr' ha hb hc A (h.mono (fun k ρ' z H' A' => ⟨k, rfl, fun l => z H' l A'⟩) fun _ _ z => z)))
theorem se_chain {a b c : Expr} {fa fb fc : Rho → Res Rv} {op op' : CmpOp} {r r' : R2} {g g' : D → D → Option Rv} {pos : Pos} (ho : OpR X (compareOp op) r) (ho' : OpR X (compareOp op') r') (hr : OpD X.K r g) (hr' : OpD X.K r' g') (ha : SE X W a fa) (hb : SE X W b fb) (hc : SE X W c fc)
    (hm : lastMarks [op, op'] [b, c] = false := by with_unfolding_all rfl) : SE X W (.Compare a [op, op'] [b, c] pos) (asV (dChain g g' fa fb fc)) := .mk fun Hb fx B ρ σ H Q A h =>
  wpE_len (wp_pe (pe_chain ho ho' pe_wp pe_wp pe_wp hm) (chain_seq hr hr' ha hb hc A (h.of_bind.mono (fun k ρ' z H' A' l => z _ H' l A' (.bl k)) fun _ _ z => z)))
/-- and, or, not as values: all are bools -/
abbrev SV (X : Cx) (W : WX) (e : Expr) (f : Rho → Res Bool) : Prop := SE X W e (asV f)
theorem sv_of {e : Expr} {f : Rho → Res Rv} (h : SE X W e f) : SV X W e (asB f) := .mk fun Hb fx B ρ σ H Q A q =>
  h Hb fx B ρ σ H Q A ((asB_post q.of_bind).mono (fun r ρ1 ⟨b, e, k⟩ v H1 l1 A1 q1 => k v H1 l1 A1 (by rw [(q1.lo A1 e).bl]; exact .bl b)) fun _ _ z => z)
theorem sv_use {e : Expr} {f : Rho → Res Bool} (h : SV X W e f) (A : Abs X.K Hb fx B ρ σ H) {Q : VK} (q : Post (fun b ρ' => ∀ H', LenOk X.K H' → Abs X.K Hb fx B ρ' σ H' → Q (.bl b) H') (ErrE X W Hb fx B σ) (f ρ)) : wpE X e σ H Q := by
  refine h Hb fx B ρ σ H Q A ?_
  show Post _ _ ((f ρ).bind _)
  cases e : f ρ with
  | ok b ρ1 =>
    rw [e] at q
    intro v H' l A' r
    have r : Dq _ v (.bool b) := r
    cases r
    exact q H' l A'
  | err x ρ1 => rw [e] at q; exact q
  | stuck => rw [e] at q; exact q
theorem sv_one {op : BoolOp} {a : Expr} {pos : Pos} {f : Rho → Res Bool} (h : SV X W a f) : SV X W (.BoolOp op [a] pos) f := .mk fun Hb fx B ρ σ H Q A q => wp_pe (pe_one pe_wp) (h Hb fx B ρ σ H Q A q)
theorem sv_fin {f : Rho → Res Bool} {Q : VK} (h : Post (fun r ρ' => ∀ v H', LenOk X.K H' → Abs X.K Hb fx B ρ' σ H' → RvOk X.K Hb fx B ρ' σ H' v r → Q v H') (ErrE X W Hb fx B σ) (asV f ρ)) :
    Post (fun b ρ' => ∀ H', LenOk X.K H' → Abs X.K Hb fx B ρ' σ H' → Q (.bl b) H') (ErrE X W Hb fx B σ) (f ρ) := h.of_bind.mono (fun b ρ1 z H' l A' => z _ H' l A' (.bl b)) fun _ _ z => z
theorem sv_and {a b : Expr} {rest : List Expr} {pos : Pos} {f g : Rho → Res Bool} (h : SV X W a f) (k : SV X W (.BoolOp .And (b :: rest) pos) g) : SV X W (.BoolOp .And (a :: b :: rest) pos) (dAnd f g) := .mk fun Hb fx B ρ σ H Q A q => by
  refine wp_pe (pe_and pe_wp pe_wp) (sv_use h A ((sv_fin q).of_bind.mono (fun c ρ1 z H1 l1 A1 => ⟨c, rfl, ?_⟩) fun _ _ z => z))
  cases c with
  | true => exact sv_use k A1 z
  | false => exact z H1 l1 A1
theorem sv_or {a b : Expr} {rest : List Expr} {pos : Pos} {f g : Rho → Res Bool} (h : SV X W a f) (k : SV X W (.BoolOp .Or (b :: rest) pos) g) : SV X W (.BoolOp .Or (a :: b :: rest) pos) (dOr f g) := .mk fun Hb fx B ρ σ H Q A q => by
  refine wp_pe (pe_or pe_wp pe_wp) (sv_use h A ((sv_fin q).of_bind.mono (fun c ρ1 z H1 l1 A1 => ⟨c, rfl, ?_⟩) fun _ _ z => z))
  cases c with
  | true => exact z H1 l1 A1
  | false => exact sv_use k A1 z
theorem sv_not {a : Expr} {pos : Pos} {f : Rho → Res Bool} (h : SV X W a f) : SV X W (.UnaryOp .Not a pos) (dNot f) := .mk fun Hb fx B ρ σ H Q A q =>
  wp_pe (pe_not pe_wp) (sv_use h A ((sv_fin q).of_bind.mono (fun c ρ1 z H1 l1 A1 => ⟨c, rfl, z H1 l1 A1⟩) fun _ _ z => z))
theorem se_v {e : Expr} {f : Rho → Res Bool} (h : SV X W e f) : SE X W e (asV f) := h
/-- a if t else b -/
def dIf (t : Rho → Res Bool) (fa fb : Rho → Res Rv) (ρ : Rho) : Res Rv := (t ρ).bind fun b ρ1 => if b then fa ρ1 else fb ρ1
theorem se_if {t a b : Expr} {pos : Pos} {ft : Rho → Res Bool} {fa fb : Rho → Res Rv} (h : ST X W t ft) (ha : SE X W a fa) (hb : SE X W b fb) : SE X W (.IfExp t a b pos) (dIf ft fa fb) := .mk fun Hb fx B ρ σ H Q A q => by
  refine wp_pe (pe_ifExp pt_wp pe_wp pe_wp) (h Hb fx B ρ σ H _ A (q.of_bind.mono (fun c ρ1 z H1 l1 A1 => ?_) fun _ _ z => z))
  cases c with
  | true => exact ha Hb fx B ρ1 σ H1 Q A1 z
  | false => exact hb Hb fx B ρ1 σ H1 Q A1 z

/-! ### lists of arguments -/
def dCons (fa : Rho → Res Rv) (fs : Rho → Res (List Rv)) (ρ : Rho) : Res (List Rv) := (fa ρ).bind fun r ρ1 => match r with
  | .newk _ => .stuck
  | r => (fs ρ1).bind fun rs ρ2 => .ok (r.weak :: rs) ρ2
def dNil (ρ : Rho) : Res (List Rv) := .ok [] ρ
theorem sa_nil : SA X W [] dNil := .mk fun Hb fx B ρ σ H Q A q => wpA_len (wp_pa pa_nil fun l => q [] H l A .nil)
theorem RvAll.rebase {vs : List V} {rs : List Rv} (h : RvAll K Hb' fx B ρ σ H vs rs) (e : Same Hb Hb') : RvAll K Hb fx B ρ σ H vs rs := Paired.mapP h fun _ _ z => ⟨z.1.rebase e, z.2⟩
theorem sa_cons {a : Expr} {es : List Expr} {fa : Rho → Res Rv} {fs : Rho → Res (List Rv)} (ha : SE X W a fa) (hs : SA X W es fs) (hst : starEach (a :: es) X.env = (false, eval a X.env) :: starEach es X.env := by exact ste rfl) : SA X W (a :: es) (dCons fa fs) := .mk fun Hb fx B ρ σ H Q A q => by
  refine wp_pa (pa_cons pe_wp pa_wp hst) (ha Hb fx B ρ σ H _ A (q.of_bind.mono (fun r ρ1 h1 v1 H1 l1 A1 q1 => ?_) fun _ _ z => z))
  have nk : ∀ k, r ≠ .newk k := fun k e => by subst e; exact h1
  have h1 : Post (fun rs ρ' => ∀ vs H', LenOk X.K H' → Abs X.K Hb fx B ρ' σ H' → RvAll X.K Hb fx B ρ' σ H' vs rs → Q vs H') (ErrE X W Hb fx B σ) ((fs ρ1).bind fun rs ρ2 => .ok (r.weak :: rs) ρ2) := by
    cases r with
    | newk k => exact (nk k rfl).elim
    | dat d => exact h1
    | new d => exact h1
    | bor d => exact h1
  refine hs _ fx B ρ1 σ H1 _ A1.here (h1.of_bind.mono (fun rs ρ2 h2 vs H2 l2 A2 q2 => ?_) fun _ _ z => z.rebase A1.same)
  exact h2 (v1 :: vs) H2 l2 (A2.rebase A1.same) (.cons ⟨q1.weak.keep (weak_weak r) (weak_nk nk) A2, weak_weak r, weak_nk nk⟩ (q2.rebase A1.same))
/-- a list of one's own that goes into other data is not changed any more -/
def frz : Rv → Rho → Option (D × Rho)
  | .dat d, ρ => some (d, ρ)
  | .new l, ρ => some (.list l, ρ)
  | .bor i, ρ => match ρ[i]? with
    | some (.ls l) => some (.list l, ρ.set i (.dat (.list l)))
    | _ => none
  | .newk _, _ => none
theorem Abs.freeze {i : Nat} {l : List D} {v : V} (A : Abs K Hb fx B ρ σ H) (h : ρ[i]? = some (.ls l)) (hv : σ[i]? = some (some v)) :
    Abs K Hb fx B (ρ.set i (.dat (.list l))) σ H ∧ Dq (hide H (Bad fx B (ρ.set i (.dat (.list l))) σ)) v (.list l) := by
  obtain ⟨p, vs, e4, e5, q⟩ := A.slot i _ h
  rw [getD_of hv] at e4; cases e4
  have hs : σ = σ.set i (some (.ref p)) := by
    have hi := (List.getElem?_eq_some_iff.mp hv)
    obtain ⟨h1, h2⟩ := hi
    rw [← h2, List.set_getElem_self]
  have nb : ¬ Bad fx B (ρ.set i (.dat (.list l))) σ p := fun z => by
    rcases z with z | z | ⟨j, z⟩
    · exact A.fxn p ⟨i, _, h, rfl, hv⟩ z
    · exact (A.bpr p z).2 (.inr ⟨i, _, h, rfl, hv⟩)
    · rw [hs] at z
      rcases ownAt_set z with ⟨_, z, _⟩ | ⟨z1, z2⟩
      · cases z
      · exact z1 (A.inj j i p z2 ⟨_, h, rfl, hv⟩)
  have sub : ∀ a, Bad fx B (ρ.set i (.dat (.list l))) σ a → Bad fx B ρ σ a := fun a z => by
    rcases z with z | z | ⟨j, z⟩
    · exact .inl z
    · exact .inr (.inl z)
    · rw [hs] at z
      rcases ownAt_set z with ⟨_, z, _⟩ | ⟨z1, z2⟩
      · cases z
      · exact .inr (.inr ⟨j, z2⟩)
  have dq : Dq (hide H (Bad fx B (ρ.set i (.dat (.list l))) σ)) (.ref p) (.list l) :=
    .lst (Rd.of (hide_eq.mpr ⟨nb, e5⟩)) (dpa_mono (hide_mono fun a o n e => ⟨fun z => n (sub a z), e⟩) q)
  refine ⟨?_, dq⟩
  have e : ρ.set i (.dat (.list l)) = ρ.set i (.dat (.list l)) := rfl
  have := A.put (i := i) (sl := .dat (.list l)) (ov := some (.ref p)) rfl ⟨_, rfl, by rw [← hs]; exact dq⟩ (fun _ z => nomatch z) (fun _ z => nomatch z)
  rw [← hs] at this
  exact this
theorem frz_ok {r : Rv} {v : V} {d : D} (A : Abs K Hb fx B ρ σ H) (h : RvOk K Hb fx B ρ σ H v r) (e : frz r ρ = some (d, ρ')) :
    Abs K Hb fx B ρ' σ H ∧ Dq (hide H (Bad fx B ρ' σ)) v d ∧ ∀ a, Bad fx B ρ' σ a → Bad fx B ρ σ a := by
  cases r with
  | dat d' => cases e; exact ⟨A, h, fun _ z => z⟩
  | new l => cases e; exact ⟨A, h.weak, fun _ z => z⟩
  | newk k => cases e
  | bor i =>
    have h' : σ[i]? = some (some v) := h
    unfold frz at e
    cases q : ρ[i]? with
    | none => simp only [q] at e; cases e
    | some sl =>
      cases sl with
      | ls l =>
        simp only [q] at e
        cases e
        obtain ⟨a, b⟩ := A.freeze q h'
        refine ⟨a, b, fun a z => ?_⟩
        rcases z with z | z | ⟨j, s, e1, e2, e3⟩
        · exact .inl z
        · exact .inr (.inl z)
        · by_cases hj : j = i
          · subst hj
            rw [List.getElem?_set_self (List.getElem?_eq_some_iff.mp q).1] at e1
            cases e1; cases e2
          · rw [List.getElem?_set_ne (Ne.symm hj)] at e1
            exact .inr (.inr ⟨j, s, e1, e2, e3⟩)
      | un => simp only [q] at e; cases e
      | dat d => simp only [q] at e; cases e
      | rf k l => simp only [q] at e; cases e
      | dk k => simp only [q] at e; cases e
      | scr k => simp only [q] at e; cases e
      | fn k => simp only [q] at e; cases e
      | pv k => simp only [q] at e; cases e
def frzAll : List Rv → Rho → Option (List D × Rho)
  | [], ρ => some ([], ρ)
  | r :: rs, ρ => match frz r ρ with
    | some (d, ρ1) => match frzAll rs ρ1 with
      | some (ds, ρ2) => some (d :: ds, ρ2)
      | none => none
    | none => none
theorem RvOk.less {r : Rv} {v : V} (h : RvOk K Hb fx B ρ σ H v r) (hr : r.weak = r) (hk : ∀ k, r ≠ .newk k) (s : ∀ a, Bad fx B ρ' σ a → Bad fx B ρ σ a) : RvOk K Hb fx B ρ' σ H v r := by
  cases r with
  | dat d => exact dp_mono (hide_mono fun a o n e => ⟨fun z => n (s a z), e⟩) h
  | new l => cases hr
  | bor i => exact h
  | newk k => exact (hk k rfl).elim
theorem frzAll_ok : ∀ {rs : List Rv} {vs : List V} {ds : List D} {ρ ρ' : Rho}, Abs K Hb fx B ρ σ H → RvAll K Hb fx B ρ σ H vs rs → frzAll rs ρ = some (ds, ρ') →
    Abs K Hb fx B ρ' σ H ∧ DqA (hide H (Bad fx B ρ' σ)) vs ds ∧ ∀ a, Bad fx B ρ' σ a → Bad fx B ρ σ a
  | _, _, ds, ρ, ρ', A, .nil, e => by cases e; exact ⟨A, .nil, fun _ z => z⟩
  | r :: rs, v :: vs, ds, ρ, ρ', A, .cons h t, e => by
    unfold frzAll at e
    cases e1 : frz r ρ with
    | none => rw [e1] at e; cases e
    | some p =>
      obtain ⟨d, ρ1⟩ := p
      rw [e1] at e
      simp only at e
      cases e2 : frzAll rs ρ1 with
      | none => rw [e2] at e; cases e
      | some q =>
        obtain ⟨ds', ρ2⟩ := q
        rw [e2] at e
        cases e
        obtain ⟨A1, q1, s1⟩ := frz_ok A h.1 e1
        have t' : RvAll K Hb fx B ρ1 σ H vs rs := Paired.mapP t fun v r z => ⟨z.1.less z.2.1 z.2.2 s1, z.2⟩
        obtain ⟨A2, q2, s2⟩ := frzAll_ok A1 t' e2
        exact ⟨A2, .cons (dp_mono (hide_mono fun a o n e => ⟨fun z => n (s2 a z), e⟩) q1) q2, fun a z => s1 a (s2 a z)⟩
end
end R
namespace R
open PySem PySem.Spec L2
open PyProof.Rows hiding St
section
variable [Tb] {K : PySem.W.Frag} {Hb Hb' H H' : Hp} {fx : List Addr} {B B' : Addr → Prop} {ρ ρ' : Rho} {σ σ' : St} {p : Addr} {o : HO} {X : Cx} {W : WX} {S : Addr → Prop} {pos : Pos}
/-! ### displays -/
def dDisp (mk : List D → Rv) (fs : Rho → Res (List Rv)) (ρ : Rho) : Res Rv := (fs ρ).bind fun rs ρ1 => match frzAll rs ρ1 with
  | some (ds, ρ2) => if ds.length ≤ 16777216 then .ok (mk ds) ρ2 else .stuck
  | none => .stuck
def mkTup (ds : List D) : Rv := .dat (.tuple ds)
def mkLst (ds : List D) : Rv := .new ds
theorem disp_seq {es : List Expr} {fs : Rho → Res (List Rv)} {mk : List D → Rv} {mo : List V → HO} (hs : SA X W es fs) (A : Abs X.K Hb fx B ρ σ H) {Q : VK}
    (hm : ∀ H S vs ds p, H p = none → DqA (hide H S) vs ds → Outc H S (mk ds) (.ref p) (upd H p (mo vs)))
    (h : Post (fun r ρ' => ∀ v H', Abs X.K Hb fx B ρ' σ H' → RvOk X.K Hb fx B ρ' σ H' v r → Q v H') (ErrE X W Hb fx B σ) (dDisp mk fs ρ)) :
    wpA X es σ H fun xs H1 => xs.length ≤ sizeLine ∧ ∀ p, H1 p = none → Q (.ref p) (upd H1 p (mo xs)) := by
  refine hs Hb fx B ρ σ H _ A (h.of_bind.mono (fun rs ρ1 h1 vs H1 l1 A1 q1 => ?_) fun _ _ z => z)
  cases e : frzAll rs ρ1 with
  | none => simp only [e] at h1; exact h1.elim
  | some x =>
    obtain ⟨ds, ρ2⟩ := x
    simp only [e] at h1
    obtain ⟨A2, q2, _⟩ := frzAll_ok A1 q1 e
    split at h1
    · rename_i z
      refine ⟨by rw [dpa_len q2, sizeLine_eq]; exact z, fun p n => ?_⟩
      obtain ⟨A3, q3⟩ := (hm H1 _ vs ds p n q2).ok A2
      exact h1 _ _ A3 q3
    · exact h1.elim
theorem se_tup {es : List Expr} {fs : Rho → Res (List Rv)} {x1} (hs : SA X W es fs) : SE X W (.Tuple es x1 pos) (dDisp mkTup fs) := .mk fun Hb fx B ρ σ H Q A h =>
  wpE_len (wp_pe (pe_tup pa_wp) (disp_seq (mo := .tup) hs A (fun H S vs ds p n q => .tup n q) h.len))
theorem se_lst {es : List Expr} {fs : Rho → Res (List Rv)} (hs : SA X W es fs) : SE X W (.List es pos) (dDisp mkLst fs) := .mk fun Hb fx B ρ σ H Q A h =>
  wpE_len (wp_pe (pe_lst pa_wp) (disp_seq (mo := .lst) hs A (fun H S vs ds p n q => .new n q) h.len))
/-! ### items, slices -/
omit [Tb] in
theorem atI_map {vs : List V} {ds : List D} (h : DqA H vs ds) {i : Int} {d : D} (e : atI ds i = some d) : ∃ v, atI vs i = some v ∧ Dq H v d := by
  unfold atI at e ⊢
  rw [dpa_len h]
  cases q : ixN ds.length i with
  | none => rw [q] at e; cases e
  | some j =>
    rw [q] at e
    exact dpa_get h e
def gIx : D → D → Option Rv
  | .list l, .int i => (atI l i).map .dat
  | .tuple l, .int i => (atI l i).map .dat
  | .str z, .int i => if z.length ≤ 16777216 then (atI z.cps.toList i).map fun c => .dat (.str ⟨#[c]⟩) else none
  | _, _ => none
omit [Tb] in
theorem ok_ix : OpD K (rIx K) gIx := by
  intro H S v1 v2 d1 d2 rv l h1 h2 e Q q
  unfold gIx at e
  split at e
  · rename_i l i
    cases z : atI l i with
    | none => rw [z] at e; cases e
    | some d =>
      rw [z] at e
      cases e
      obtain ⟨p, vs, rfl, r, a⟩ := h1.list
      obtain ⟨v, e1, e2⟩ := atI_map a z
      exact .inl ⟨p, vs, i, v, rfl, h2.int, .inl r, e1, q _ _ (.dat e2)⟩
  · rename_i l i
    cases z : atI l i with
    | none => rw [z] at e; cases e
    | some d =>
      rw [z] at e
      cases e
      obtain ⟨p, vs, rfl, r, a⟩ := h1.tuple
      obtain ⟨v, e1, e2⟩ := atI_map a z
      exact .inr (.inl ⟨p, vs, i, v, rfl, h2.int, SqT.of (hide_sub _ _ r), e1, q _ _ (.dat e2)⟩)
  · rename_i x i
    split at e
    · rename_i zl
      cases z : atI x.cps.toList i with
      | none => rw [z] at e; cases e
      | some c =>
        rw [z] at e
        cases e
        exact .inr (.inr ⟨x, i, c, h1.str, h2.int, by rw [sizeLine_eq]; exact zl, z, q _ _ (.dat (.str _))⟩)
    · cases e
  · cases e
theorem se_ix {a b : Expr} {fa fb : Rho → Res Rv} (ha : SE X W a fa) (hb : SE X W b fb) (hs : PlainIx b) : SE X W (.Subscript a b pos) (dOp2 gIx fa fb) := .mk fun Hb fx B ρ σ H Q A h =>
  wpE_len (wp_pe (pe_ix ix_seq pe_wp pe_wp hs) (op2_seq ok_ix ha hb A h.len))
def cut {α : Type} (xs : List α) (lo hi : Option Int) : List α := (xs.drop (HT.sIx xs.length 0 lo)).take (HT.sIx xs.length xs.length hi - HT.sIx xs.length 0 lo)
omit [Tb] in
theorem dpa_cut {vs : List V} {ds : List D} (h : DqA H vs ds) (lo hi : Option Int) : DqA H (cutV vs lo hi) (cut ds lo hi) := by
  unfold cutV cut
  rw [dpa_len h]
  exact dpa_take _ (dpa_drop _ h)
def gSl : D → Option Int → Option Int → Option Rv
  | .list l, lo, hi => some (.new (cut l lo hi))
  | .tuple l, lo, hi => some (.dat (.tuple (cut l lo hi)))
  | _, _, _ => none
def wpO (X : Cx) (e : Option Expr) : TO := fun σ H Q => ∀ (pins : List (Addr × Obj)) (s : Shared), Inv X pins σ H s → wpAny (model X.prog X.w) X.A (evalPart e X.env) (fun u s' => ∃ o H', Inv X pins σ H' s' ∧ IsPart u o ∧ Q o H') X.xe s
omit [Tb] in
theorem po_wp {e : Option Expr} : PO X e (wpO X e) := ⟨fun pins s σ H Q I h => h pins s I⟩
omit [Tb] in
theorem wp_po {e : Option Expr} {t : TO} (h : PO X e t) {Q : Option Int → Hp → Prop} (q : t σ H Q) : wpO X e σ H Q := fun pins s I => h.run pins s σ H Q I q
omit [Tb] in
theorem wpO_len {e : Option Expr} {Q : Option Int → Hp → Prop} (h : wpO X e σ H fun v H' => LenOk X.K H' → Q v H') : wpO X e σ H Q := fun pins s I => thn (h pins s I) fun u s1 ⟨v, H', I', r, q⟩ => ⟨v, H', I', r, q (lenOk I')⟩
/-- a part of a slice -/
structure SO [Tb] (X : Cx) (W : WX) (e : Option Expr) (f : Rho → Res (Option Int)) : Prop where
  run : ∀ (Hb : Hp) (fx : List Addr) (B : Addr → Prop) (ρ : Rho) (σ : St) (H : Hp) (Q : Option Int → Hp → Prop), Abs X.K Hb fx B ρ σ H →
    Post (fun r ρ' => ∀ H', LenOk X.K H' → Abs X.K Hb fx B ρ' σ H' → Q r H') (ErrE X W Hb fx B σ) (f ρ) → wpO X e σ H Q
instance [Tb] {X : Cx} {W : WX} {e : Option Expr} {f : Rho → Res (Option Int)} : CoeFun (SO X W e f) (fun _ => ∀ (Hb : Hp) (fx : List Addr) (B : Addr → Prop) (ρ : Rho) (σ : St) (H : Hp) (Q : Option Int → Hp → Prop), Abs X.K Hb fx B ρ σ H →
    Post (fun r ρ' => ∀ H', LenOk X.K H' → Abs X.K Hb fx B ρ' σ H' → Q r H') (ErrE X W Hb fx B σ) (f ρ) → wpO X e σ H Q) := ⟨SO.run⟩
def dPn (ρ : Rho) : Res (Option Int) := .ok none ρ
def dPs (f : Rho → Res Rv) (ρ : Rho) : Res (Option Int) := (f ρ).bind fun r ρ1 => match rd ρ1 r with
  | some (.int i) => .ok (some i) ρ1
  | _ => .stuck
theorem so_none : SO X W none dPn := .mk fun Hb fx B ρ σ H Q A h => wpO_len (wp_po po_none fun l => h H l A)
theorem so_some {e : Expr} {f : Rho → Res Rv} (he : SE X W e f) : SO X W (some e) (dPs f) := .mk fun Hb fx B ρ σ H Q A h => by
  refine wp_po (po_some pe_wp) (he Hb fx B ρ σ H _ A (h.of_bind.mono (fun r ρ1 h1 v H1 l1 A1 q1 => ?_) fun _ _ z => z))
  split at h1
  · rename_i i e
    exact ⟨i, (q1.lo A1 e).int, h1 H1 l1 A1⟩
  · exact h1.elim
def dSl (fa : Rho → Res Rv) (fl fh : Rho → Res (Option Int)) (ρ : Rho) : Res Rv := (fa ρ).bind fun r1 ρ1 => (fl ρ1).bind fun lo ρ2 => (fh ρ2).bind fun hi ρ3 => match rd ρ3 r1 with
  | some d => ofOpt (gSl d lo hi) ρ3
  | none => .stuck
omit [Tb] in
theorem cut_whole {α : Type} {xs : List α} {lo hi : Option Int} (h : HT.sIx xs.length 0 lo = 0 ∧ HT.sIx xs.length xs.length hi = xs.length) : cut xs lo hi = xs := by
  unfold cut
  rw [h.1, h.2]
  simp
theorem se_sl {a : Expr} {lo hi : Option Expr} {fa : Rho → Res Rv} {fl fh : Rho → Res (Option Int)} {p2 : Pos} (ha : SE X W a fa) (hl : SO X W lo fl) (hh : SO X W hi fh) : SE X W (.Subscript a (.Slice lo hi none p2) pos) (dSl fa fl fh) := .mk fun Hb fx B ρ σ H Q A h => by
  refine wpE_len (wp_pe (pe_slice (sl_list.or sl_tupA) pe_wp po_wp po_wp) ?_)
  have h := h.len
  refine ha Hb fx B ρ σ H _ A (h.of_bind.mono (fun r1 ρ1 h1 v1 H1 l1 A1 q1 => ?_) fun _ _ z => z)
  refine hl _ fx B ρ1 σ H1 _ A1.here (h1.of_bind.mono (fun lo ρ2 h2 H2 l2 A2 => ?_) fun _ _ z => z.rebase A1.same)
  refine hh _ fx B ρ2 σ H2 _ A2.here (h2.of_bind.mono (fun hi ρ3 h3 H3 l3 A3 => ?_) fun _ _ z => (z.rebase A1.same).rebase A2.same)
  cases e : rd ρ3 r1 with
  | none => simp only [e] at h3; exact h3.elim
  | some d =>
    simp only [e] at h3
    obtain ⟨rv, e2, h4⟩ := h3.of_opt
    have q3 := (q1.weak.keep (weak_weak r1) (weak_nk (rd_nk e)) (Hb' := Hb) A2).keep (weak_weak r1) (weak_nk (rd_nk e)) (Hb' := hide H2 (Hid fx ρ2 σ)) A3
    have A3' := (A3.rebase A2.same).rebase A1.same
    have lo3 := q3.lo A3 (rd_weak e)
    have fin : ∀ v H', Outc H3 (Bad fx B ρ3 σ) rv v H' → LenOk X.K H' → Q v H' := fun v H' o => h4 v H' (o.ok A3').1 (o.ok A3').2
    unfold gSl at e2
    split at e2
    · cases e2
      obtain ⟨p, vs, rfl, r, a⟩ := lo3.list
      exact .inl ⟨p, vs, rfl, .inl r, fun p n => fin _ _ (.new n (dpa_cut a _ _))⟩
    · cases e2
      obtain ⟨p, vs, rfl, r, a⟩ := lo3.tuple
      refine .inr ⟨p, vs, rfl, SqT.of (hide_sub _ _ r), fun z => ?_, fun _ p n => fin _ _ (.tup n (dpa_cut a _ _))⟩
      rw [dpa_len a] at z
      rw [cut_whole z] at fin
      exact fin _ _ (.dat (.tup r a))
    · cases e2
/-! ### calls of built-ins -/
def LoA (H : Hp) (S : Addr → Prop) : List V → List D → Prop := Paired fun v d => Lo H S v d
def CallD (K : PySem.W.Frag) (r : List V → Hp → VK → Prop) (g : List D → Option Rv) : Prop := ∀ (H : Hp) (S : Addr → Prop) (vs : List V) (ds : List D) (rv : Rv), LenOk K H → LoA H S vs ds → g ds = some rv →
  ∀ Q : VK, (∀ v H', Outc H S rv v H' → Q v H') → r vs H Q
def rdAll (ρ : Rho) : List Rv → Option (List D)
  | [] => some []
  | r :: rs => match rd ρ r, rdAll ρ rs with
    | some d, some ds => some (d :: ds)
    | _, _ => none
theorem rdAll_ok {vs : List V} : ∀ {rs : List Rv} {vs : List V} {ds : List D}, Abs K Hb fx B ρ σ H → RvAll K Hb fx B ρ σ H vs rs → rdAll ρ rs = some ds → LoA H (Bad fx B ρ σ) vs ds
  | _, _, ds, A, .nil, e => by cases e; exact .nil
  | r :: rs, v :: vs, ds, A, .cons h t, e => by
    unfold rdAll at e
    cases e1 : rd ρ r with
    | none => simp only [e1] at e; cases e
    | some d =>
      cases e2 : rdAll ρ rs with
      | none => simp only [e1, e2] at e; cases e
      | some ds' =>
        simp only [e1, e2] at e
        cases e
        exact .cons (h.1.lo A e1) (rdAll_ok (vs := vs) A t e2)
def dBlt (g : List D → Option Rv) (fs : Rho → Res (List Rv)) (ρ : Rho) : Res Rv := (fs ρ).bind fun rs ρ1 => match rdAll ρ1 rs with
  | some ds => ofOpt (g ds) ρ1
  | none => .stuck
theorem blt_seq {es : List Expr} {fs : Rho → Res (List Rv)} {r : List V → Hp → VK → Prop} {g : List D → Option Rv} (hr : CallD X.K r g) (hs : SA X W es fs) (A : Abs X.K Hb fx B ρ σ H) {Q : VK}
    (h : Post (fun r ρ' => ∀ v H', Abs X.K Hb fx B ρ' σ H' → RvOk X.K Hb fx B ρ' σ H' v r → Q v H') (ErrE X W Hb fx B σ) (dBlt g fs ρ)) : tCB r (wpA X es) σ H Q := by
  refine hs Hb fx B ρ σ H _ A (h.of_bind.mono (fun rs ρ1 h1 vs H1 l1 A1 q1 => ?_) fun _ _ z => z)
  cases e : rdAll ρ1 rs with
  | none => simp only [e] at h1; exact h1.elim
  | some ds =>
    simp only [e] at h1
    obtain ⟨rv, e2, h2⟩ := h1.of_opt
    exact hr H1 _ vs ds rv l1 (rdAll_ok (vs := vs) A1 q1 e) e2 Q fun v H' o => h2 v H' (o.ok A1).1 (o.ok A1).2
theorem se_blt {x : Str} {id : String} {e : Expr} {es : List Expr} {p : Pos} {fs : Rho → Res (List Rv)} {r : List V → Hp → VK → Prop} {g : List D → Option Rv} (hc : CallR X (.builtin id) r) (hr : CallD X.K r g) (hg : Gl X x) (hm : X.mg x = none) (hv : bootBuiltins x = some (.builtin id)) (hs : SA X W (e :: es) fs)
    (hn : x ≠ "__name__" := by decide) (hdb : (x == ("__debug__" : Str)) = false := by decide)
    (he : starEach (e :: es) X.env = (false, eval e X.env) :: starEach es X.env := by exact ste rfl) (hpl : (backTo pos (starEach es X.env)).any (·.1) = false := by rfl) : SE X W (.Call (.Name x p) (e :: es) [] pos) (dBlt g fs) := .mk fun Hb fx B ρ σ H Q A h =>
  wpE_len (wp_pe (pe_callB hc hg hm hv pa_wp hn hdb he hpl) (blt_seq hr hs A h.len))
theorem se_bty {x : Str} {T : String} {e : Expr} {es : List Expr} {p : Pos} {fs : Rho → Res (List Rv)} {r : List V → Hp → VK → Prop} {g : List D → Option Rv} (hc : CallR X (.type T) r) (hr : CallD X.K r g) (hg : Gl X x) (hm : X.mg x = none) (hv : bootBuiltins x = some (.type T)) (hs : SA X W (e :: es) fs)
    (hn : x ≠ "__name__" := by decide) (hdb : (x == ("__debug__" : Str)) = false := by decide)
    (he : starEach (e :: es) X.env = (false, eval e X.env) :: starEach es X.env := by exact ste rfl) (hpl : (backTo pos (starEach es X.env)).any (·.1) = false := by rfl) : SE X W (.Call (.Name x p) (e :: es) [] pos) (dBlt g fs) := .mk fun Hb fx B ρ σ H Q A h =>
  wpE_len (wp_pe (pe_callTy hc hg hm hv pa_wp hn hdb he hpl) (blt_seq hr hs A h.len))
omit [Tb] in
theorem LoA.one {vs : List V} {d : D} (h : LoA H S vs [d]) : ∃ v, vs = [v] ∧ Lo H S v d := by
  cases h with
  | cons h t => cases t; exact ⟨_, rfl, h⟩
omit [Tb] in
theorem LoA.two {vs : List V} {d e : D} (h : LoA H S vs [d, e]) : ∃ v w, vs = [v, w] ∧ Lo H S v d ∧ Lo H S w e := by
  cases h with
  | cons h t =>
    cases t with
    | cons h2 t => cases t; exact ⟨_, _, rfl, h, h2⟩
def gLen : List D → Option Rv
  | [d] => (seqD d).map fun l => .dat (.int (l.length : Int))
  | _ => none
omit [Tb] in
theorem ok_len : CallD K (fun xs H Q => ∃ p ys, xs = [.ref p] ∧ (SqL K H p ys ∨ SqT K H p ys) ∧ Q (.int ys.length) H) gLen := by
  intro H S vs ds rv l h e Q q
  unfold gLen at e
  split at e
  · rename_i d
    cases z : seqD d with
    | none => rw [z] at e; cases e
    | some l' =>
      rw [z] at e
      cases e
      obtain ⟨v, rfl, g⟩ := h.one
      obtain ⟨p, ws, rfl, r, a⟩ := g.seq z
      refine ⟨p, ws, rfl, sq_of r, ?_⟩
      rw [dpa_len a]
      exact q _ _ (.dat (.int _))
  · cases e
def gSum : List D → Option Rv
  | [.list l] => (intsOf l).map fun ns => .dat (.int ns.sum)
  | _ => none
omit [Tb] in
theorem ok_sum : CallD K (rSum K) gSum := by
  intro H S vs ds rv l h e Q q
  unfold gSum at e
  split at e
  · rename_i d
    cases z : intsOf d with
    | none => rw [z] at e; cases e
    | some ns =>
      rw [z] at e
      cases e
      obtain ⟨v, rfl, g⟩ := h.one
      obtain ⟨p, ws, rfl, r, a⟩ := g.list
      rw [intsOf_eq z] at a
      have := dpa_ints a
      subst this
      exact ⟨p, ns, rfl, .inl r, q _ _ (.dat (.int _))⟩
  · cases e
def mnL (n : Int) (ns : List Int) : Int := ns.foldl min n
def mxL (n : Int) (ns : List Int) : Int := ns.foldl max n
omit [Tb] in
theorem mnL_le : ∀ (ns : List Int) (n : Int), mnL n ns ≤ n ∧ ∀ y ∈ ns, mnL n ns ≤ y
  | [], n => ⟨Int.le_refl _, fun y h => nomatch h⟩
  | a :: r, n => by
    obtain ⟨h1, h2⟩ := mnL_le r (min n a)
    show mnL (min n a) r ≤ n ∧ _
    refine ⟨by omega, fun y hy => ?_⟩
    show mnL (min n a) r ≤ y
    rcases List.mem_cons.mp hy with rfl | hy
    · omega
    · exact h2 y hy
omit [Tb] in
theorem mnL_mem : ∀ (ns : List Int) (n : Int), mnL n ns ∈ n :: ns
  | [], n => by simp [mnL]
  | a :: r, n => by
    have h := mnL_mem r (min n a)
    show mnL (min n a) r ∈ _
    rcases List.mem_cons.mp h with e | h
    · rw [e]
      rcases Int.le_total n a with z | z
      · rw [Int.min_eq_left z]; simp
      · rw [Int.min_eq_right z]; simp
    · exact List.mem_cons_of_mem _ (List.mem_cons_of_mem _ h)
omit [Tb] in
theorem mxL_le : ∀ (ns : List Int) (n : Int), n ≤ mxL n ns ∧ ∀ y ∈ ns, y ≤ mxL n ns
  | [], n => ⟨Int.le_refl _, fun y h => nomatch h⟩
  | a :: r, n => by
    obtain ⟨h1, h2⟩ := mxL_le r (max n a)
    show n ≤ mxL (max n a) r ∧ _
    refine ⟨by omega, fun y hy => ?_⟩
    show y ≤ mxL (max n a) r
    rcases List.mem_cons.mp hy with rfl | hy
    · omega
    · exact h2 y hy
omit [Tb] in
theorem mxL_mem : ∀ (ns : List Int) (n : Int), mxL n ns ∈ n :: ns
  | [], n => by simp [mxL]
  | a :: r, n => by
    have h := mxL_mem r (max n a)
    show mxL (max n a) r ∈ _
    rcases List.mem_cons.mp h with e | h
    · rw [e]
      rcases Int.le_total n a with z | z
      · rw [Int.max_eq_right z]; simp
      · rw [Int.max_eq_left z]; simp
    · exact List.mem_cons_of_mem _ (List.mem_cons_of_mem _ h)
def gMin : List D → Option Rv
  | [.list l] => match intsOf l with
    | some (n :: ns) => some (.dat (.int (mnL n ns)))
    | _ => none
  | [.int i, .int j] => some (.dat (.int (min i j)))
  | _ => none
def gMax : List D → Option Rv
  | [.list l] => match intsOf l with
    | some (n :: ns) => some (.dat (.int (mxL n ns)))
    | _ => none
  | [.int i, .int j] => some (.dat (.int (max i j)))
  | _ => none
omit [Tb] in
theorem ok_min : CallD K (fun xs H Q => rMin K xs H Q ∨ ∃ i j, xs = [.int i, .int j] ∧ Q (.int (if j < i then j else i)) H) gMin := by
  intro H S vs ds rv l h e Q q
  unfold gMin at e
  split at e
  · split at e
    · rename_i d n ns z
      cases e
      obtain ⟨v, rfl, g⟩ := h.one
      obtain ⟨p, ws, rfl, r, a⟩ := g.list
      rw [intsOf_eq z] at a
      have := dpa_ints a
      subst this
      refine .inl ⟨p, n :: ns, rfl, .inl r, Nat.succ_pos _, fun m hm hle => ?_⟩
      have e1 := hle _ (mnL_mem ns n)
      have e2 : mnL n ns ≤ m := by
        rcases List.mem_cons.mp hm with rfl | hm
        · exact (mnL_le ns m).1
        · exact (mnL_le ns n).2 m hm
      have e3 : m = mnL n ns := by omega
      rw [e3]
      exact q _ _ (.dat (.int _))
    · cases e
  · rename_i i j
    cases e
    obtain ⟨v, w, rfl, h1, h2⟩ := h.two
    refine .inr ⟨i, j, by rw [h1.int, h2.int], ?_⟩
    have : (if j < i then j else i) = min i j := by
      split <;> omega
    rw [this]
    exact q _ _ (.dat (.int _))
  · cases e
omit [Tb] in
theorem ok_max : CallD K (fun xs H Q => rMax K xs H Q ∨ ∃ i j, xs = [.int i, .int j] ∧ Q (.int (if j > i then j else i)) H) gMax := by
  intro H S vs ds rv l h e Q q
  unfold gMax at e
  split at e
  · split at e
    · rename_i d n ns z
      cases e
      obtain ⟨v, rfl, g⟩ := h.one
      obtain ⟨p, ws, rfl, r, a⟩ := g.list
      rw [intsOf_eq z] at a
      have := dpa_ints a
      subst this
      refine .inl ⟨p, n :: ns, rfl, .inl r, Nat.succ_pos _, fun m hm hle => ?_⟩
      have e1 := hle _ (mxL_mem ns n)
      have e2 : m ≤ mxL n ns := by
        rcases List.mem_cons.mp hm with rfl | hm
        · exact (mxL_le ns m).1
        · exact (mxL_le ns n).2 m hm
      have e3 : m = mxL n ns := by omega
      rw [e3]
      exact q _ _ (.dat (.int _))
    · cases e
  · rename_i i j
    cases e
    obtain ⟨v, w, rfl, h1, h2⟩ := h.two
    refine .inr ⟨i, j, by rw [h1.int, h2.int], ?_⟩
    have : (if j > i then j else i) = max i j := by
      split <;> omega
    rw [this]
    exact q _ _ (.dat (.int _))
  · cases e
def blsOf : List D → Option (List Bool)
  | [] => some []
  | .bool i :: r => (blsOf r).map (i :: ·)
  | _ => none
omit [Tb] in
theorem blsOf_eq : ∀ {l : List D} {ns : List Bool}, blsOf l = some ns → l = ns.map .bool
  | [], ns, h => by cases h; rfl
  | .bool i :: r, ns, h => by
    unfold blsOf at h
    cases e : blsOf r with
    | none => rw [e] at h; cases h
    | some ms =>
      rw [e] at h
      cases h
      rw [blsOf_eq e]; rfl
  | .none :: r, ns, h => by cases h
  | .int _ :: r, ns, h => by cases h
  | .str _ :: r, ns, h => by cases h
  | .list _ :: r, ns, h => by cases h
  | .tuple _ :: r, ns, h => by cases h
  | .dict _ :: r, ns, h => by cases h
omit [Tb] in
theorem blsOf_map : ∀ ns : List Bool, blsOf (ns.map .bool) = some ns
  | [] => rfl
  | i :: r => by show (blsOf (r.map .bool)).map (i :: ·) = _; rw [blsOf_map r]; rfl
def gAll : List D → Option Rv
  | [.list l] => (blsOf l).map fun bs => .dat (.bool (bs.all id))
  | _ => none
omit [Tb] in
theorem ok_all : CallD K (rAll K) gAll := by
  intro H S vs ds rv l h e Q q
  unfold gAll at e
  split at e
  · rename_i d
    cases z : blsOf d with
    | none => rw [z] at e; cases e
    | some ns =>
      rw [z] at e
      cases e
      obtain ⟨v, rfl, g⟩ := h.one
      obtain ⟨p, ws, rfl, r, a⟩ := g.list
      rw [blsOf_eq z] at a
      have := dpa_bls a
      subst this
      exact ⟨p, ns, rfl, .inl r, q _ _ (.dat (.bl _))⟩
  · cases e
def gTuple : List D → Option Rv
  | [d] => (seqD d).map fun l => .dat (.tuple l)
  | _ => none
omit [Tb] in
theorem ok_tuple : CallD K (fun xs H Q => ∃ p ys, xs = [.ref p] ∧ ((SqL K H p ys ∧ ∀ l, H l = none → Q (.ref l) (upd H l (.tup ys))) ∨ (SqT K H p ys ∧ Q (.ref p) H))) gTuple := by
  intro H S vs ds rv l h e Q q
  unfold gTuple at e
  split at e
  · rename_i d
    obtain ⟨v, rfl, g⟩ := h.one
    cases d with
    | list l' =>
      cases e
      obtain ⟨p, ws, rfl, r, a⟩ := g.list
      exact ⟨p, ws, rfl, .inl ⟨.inl r, fun p n => q _ _ (.tup n a)⟩⟩
    | tuple l' =>
      cases e
      obtain ⟨p, ws, rfl, r, a⟩ := g.tuple
      exact ⟨p, ws, rfl, .inr ⟨SqT.of (hide_sub _ _ r), q _ _ (.dat (.tup r a))⟩⟩
    | none => cases e
    | bool _ => cases e
    | int _ => cases e
    | str _ => cases e
    | dict _ => cases e
  · cases e
def gList : List D → Option Rv
  | [d] => (seqD d).map fun l => .new l
  | _ => none
omit [Tb] in
theorem ok_list : CallD K (fun xs H Q => ∃ p ys, xs = [.ref p] ∧ (SqL K H p ys ∨ SqT K H p ys) ∧ ∀ l, H l = none → Q (.ref l) (upd H l (.lst ys))) gList := by
  intro H S vs ds rv l h e Q q
  unfold gList at e
  split at e
  · rename_i d
    cases z : seqD d with
    | none => rw [z] at e; cases e
    | some l' =>
      rw [z] at e
      cases e
      obtain ⟨v, rfl, g⟩ := h.one
      obtain ⟨p, ws, rfl, r, a⟩ := g.seq z
      exact ⟨p, ws, rfl, sq_of r, fun p n => q _ _ (.new n a)⟩
  · cases e
def gInt : List D → Option Rv
  | [.int i] => some (.dat (.int i))
  | [.bool b] => some (.dat (.int (if b then 1 else 0)))
  | _ => none
omit [Tb] in
theorem ok_int : CallD K (fun xs H Q => (∃ i, xs = [.int i] ∧ Q (.int i) H) ∨ ∃ k, xs = [.bl k] ∧ Q (.int (if k then 1 else 0)) H) gInt := by
  intro H S vs ds rv l h e Q q
  unfold gInt at e
  split at e
  · cases e
    obtain ⟨v, rfl, g⟩ := h.one
    exact .inl ⟨_, by rw [g.int], q _ _ (.dat (.int _))⟩
  · cases e
    obtain ⟨v, rfl, g⟩ := h.one
    exact .inr ⟨_, by rw [g.bl], q _ _ (.dat (.int _))⟩
  · cases e
def gAbs : List D → Option Rv
  | [.int i] => some (.dat (.int (if i < 0 then -i else i)))
  | _ => none
omit [Tb] in
theorem ok_abs : CallD K (fun xs H Q => ∃ i, xs = [.int i] ∧ Q (.int (if i < 0 then -i else i)) H) gAbs := by
  intro H S vs ds rv l h e Q q
  unfold gAbs at e
  split at e
  · cases e
    obtain ⟨v, rfl, g⟩ := h.one
    exact ⟨_, by rw [g.int], q _ _ (.dat (.int _))⟩
  · cases e
/-! ### isinstance with a built-in class -/
def tyD : D → Option String
  | .none => some "NoneType"
  | .bool _ => some "bool"
  | .int _ => some "int"
  | .str _ => some "str"
  | .list _ => some "list"
  | .tuple _ => some "tuple"
  | .dict _ => none
omit [Tb] in
theorem ty_of {v : V} {d : D} {T : String} (h : Dq H v d) (e : tyD d = some T) : TyX K H v (.type T) := by
  cases h with
  | non => cases e; exact .base .non
  | bl b => cases e; exact .base (.bl b)
  | int i => cases e; exact .base (.int i)
  | str x => cases e; exact .base (.str x)
  | lst h _ =>
    cases e
    rcases h with h | ⟨o, h⟩
    · exact .base (.lst h)
    · exact .base (.frz h)
  | tup h _ => cases e; exact .base (.tup h)
def gIsi (tb : String → Option Bool) (d : D) : Option Rv := (tyD d).bind fun t => (tb t).map fun b => .dat (.bool b)
def dIsi (tb : String → Option Bool) (fa : Rho → Res Rv) (ρ : Rho) : Res Rv := (fa ρ).bind fun r ρ1 => match rd ρ1 r with
  | some d => ofOpt (gIsi tb d) ρ1
  | none => .stuck
theorem se_isi {a : Expr} {y : Str} {T : String} {tb : String → Option Bool} {fa : Rho → Res Rv} {p p2 : Pos} (hg : Gl X "isinstance") (hm : X.mg "isinstance" = none) (hv : bootBuiltins "isinstance" = some (.builtin "isinstance")) (hgy : Gl X y) (hmy : X.mg y = none) (hvy : bootBuiltins y = some (.type T)) (ht : ∀ t b, tb t = some b → kitB t T = some b) (ha : SE X W a fa)
    (hny : y ≠ "__name__" := by decide) (hdy : (y == ("__debug__" : Str)) = false := by decide)
    (hs1 : starEach [a, .Name y p2] X.env = (false, eval a X.env) :: starEach [.Name y p2] X.env := by exact ste rfl) (hs2 : starEach [.Name y p2] X.env = (false, eval (.Name y p2) X.env) :: starEach [] X.env := by exact ste rfl) (hpl : (backTo pos (starEach [.Name y p2] X.env)).any (·.1) = false := by rfl) :
    SE X W (.Call (.Name "isinstance" p) [a, .Name y p2] [] pos) (dIsi tb fa) := .mk fun Hb fx B ρ σ H Q A h => by
  refine wpE_len (wp_pe (pe_callB call_isi hg hm hv (pa_cons pe_wp (pa_cons (pe_bltn (v := .ty T) hgy hmy hvy rfl hny hdy) pa_nil hs2) hs1) (by decide) (by decide) hs1 hpl) ?_)
  refine ha Hb fx B ρ σ H _ A (h.len.of_bind.mono (fun r ρ1 h1 v H1 l1 A1 q1 => ?_) fun _ _ z => z)
  cases e : rd ρ1 r with
  | none => simp only [e] at h1; exact h1.elim
  | some d =>
    simp only [e] at h1
    obtain ⟨rv, e2, h2⟩ := h1.of_opt
    unfold gIsi at e2
    cases e3 : tyD d with
    | none => rw [e3] at e2; cases e2
    | some t =>
      rw [e3] at e2
      simp only [Option.bind_some] at e2
      cases e4 : tb t with
      | none => rw [e4] at e2; cases e2
      | some b =>
        rw [e4] at e2
        cases e2
        exact ⟨v, .ty T, .type t, .type T, b, rfl, .ty T, ty_of (q1.lo A1 e).dp e3, kit_ty (ht t b e4), h2 _ H1 A1 (.bl b)⟩
def tbOf (T : String) (t : String) : Option Bool := if t = T then some true else if t = "bool" ∧ T = "int" then some true else
  if (T = "int" ∨ T = "bool" ∨ T = "tuple" ∨ T = "list" ∨ T = "str") ∧ (t = "NoneType" ∨ t = "bool" ∨ t = "int" ∨ t = "str" ∨ t = "list" ∨ t = "tuple") then some false else none
end
end R
namespace R
open PySem PySem.Spec L2
open PyProof.Rows hiding St
/-! ### statements -/
inductive Ou where
  | next (ρ : Rho) | ret (r : Rv) (ρ : Rho) | brk (ρ : Rho) | cont (ρ : Rho) | err (x : Exn) (ρ : Rho) | stuck
def PostS [Tb] (X : Cx) (W : WX) (Hb : Hp) (fx : List Addr) (B : Addr → Prop) (D : Ends) : Ou → Prop
  | .next ρ => ∀ σ H, LenOk X.K H → Abs X.K Hb fx B ρ σ H → D.nx σ H
  | .brk ρ => ∀ σ H, LenOk X.K H → Abs X.K Hb fx B ρ σ H → D.bk σ H
  | .cont ρ => ∀ σ H, LenOk X.K H → Abs X.K Hb fx B ρ σ H → D.ct σ H
  | .ret r ρ => ∀ v σ H, LenOk X.K H → Abs X.K Hb fx B ρ σ H → RvOk X.K Hb fx B ρ σ H v r → D.rt v H
  | .err x ρ => ∀ σ, ErrE X W Hb fx B σ x ρ
  | .stuck => False
structure SS [Tb] (X : Cx) (W : WX) (st : Stmt) (f : Rho → Ou) : Prop where
  run : ∀ (Hb : Hp) (fx : List Addr) (B : Addr → Prop) (ρ : Rho) (σ : St) (H : Hp) (D : Ends), Abs X.K Hb fx B ρ σ H → PostS X W Hb fx B D (f ρ) → wpS X st D σ H
instance [Tb] {X : Cx} {W : WX} {st : Stmt} {f : Rho → Ou} : CoeFun (SS X W st f) (fun _ => ∀ (Hb : Hp) (fx : List Addr) (B : Addr → Prop) (ρ : Rho) (σ : St) (H : Hp) (D : Ends), Abs X.K Hb fx B ρ σ H → PostS X W Hb fx B D (f ρ) → wpS X st D σ H) := ⟨SS.run⟩
structure SSs [Tb] (X : Cx) (W : WX) (st : List Stmt) (f : Rho → Ou) : Prop where
  run : ∀ (Hb : Hp) (fx : List Addr) (B : Addr → Prop) (ρ : Rho) (σ : St) (H : Hp) (D : Ends), Abs X.K Hb fx B ρ σ H → PostS X W Hb fx B D (f ρ) → wpSs X st D σ H
instance [Tb] {X : Cx} {W : WX} {st : List Stmt} {f : Rho → Ou} : CoeFun (SSs X W st f) (fun _ => ∀ (Hb : Hp) (fx : List Addr) (B : Addr → Prop) (ρ : Rho) (σ : St) (H : Hp) (D : Ends), Abs X.K Hb fx B ρ σ H → PostS X W Hb fx B D (f ρ) → wpSs X st D σ H) := ⟨SSs.run⟩
def Res.ou {α : Type} (x : Res α) (f : α → Rho → Ou) : Ou := match x with
  | .ok a ρ => f a ρ
  | .err x ρ => .err x ρ
  | .stuck => .stuck
def dSeq (f g : Rho → Ou) (ρ : Rho) : Ou := match f ρ with
  | .next ρ' => g ρ'
  | o => o
section
variable [Tb] {K : PySem.W.Frag} {Hb Hb' H H' : Hp} {fx : List Addr} {B B' : Addr → Prop} {ρ ρ' : Rho} {σ σ' : St} {p : Addr} {o : HO} {X : Cx} {W : WX} {S : Addr → Prop} {pos : Pos} {D : Ends}
/-- an expression's outcome as a statement's -/
theorem PostS.of_ou {α : Type} {x : Res α} {f : α → Rho → Ou} (h : PostS X W Hb fx B D (x.ou f)) : Post (fun a ρ => PostS X W Hb fx B D (f a ρ)) (ErrE X W Hb fx B σ) x := by
  cases x with
  | ok a ρ => exact h
  | err x ρ => exact h σ
  | stuck => exact h
theorem ss_nil : SSs X W [] Ou.next := .mk fun Hb fx B ρ σ H D A h => wpSs_len (wp_pss pss_nil fun l => h σ H l A)
theorem sss_cons {st : Stmt} {rest : List Stmt} {f g : Rho → Ou} (h : SS X W st f) (k : SSs X W rest g) : SSs X W (st :: rest) (dSeq f g) := .mk fun Hb fx B ρ σ H D A q => by
  refine wp_pss (pss_cons ps_wp pss_wp) (h Hb fx B ρ σ H { D with nx := fun σ H => wpSs X rest D σ H } A ?_)
  unfold dSeq at q
  cases e : f ρ with
  | next ρ1 => rw [e] at q; exact fun σ1 H1 l1 A1 => k Hb fx B ρ1 σ1 H1 D A1 q
  | ret r ρ1 => rw [e] at q; exact q
  | brk ρ1 => rw [e] at q; exact q
  | cont ρ1 => rw [e] at q; exact q
  | err x ρ1 => rw [e] at q; exact q
  | stuck => rw [e] at q; exact q
theorem sss_one {st : Stmt} {f : Rho → Ou} (h : SS X W st f) : SSs X W [st] f := .mk fun Hb fx B ρ σ H D A q => wp_pss (pss_one ps_wp) (h Hb fx B ρ σ H D A q)
theorem ss_pass : SS X W (.Pass pos) Ou.next := .mk fun Hb fx B ρ σ H D A h => wpS_len (wp_ps ps_pass fun l => h σ H l A)
theorem ss_break : SS X W (.Break pos) Ou.brk := .mk fun Hb fx B ρ σ H D A h => wpS_len (wp_ps ps_break fun l => h σ H l A)
theorem ss_continue : SS X W (.Continue pos) Ou.cont := .mk fun Hb fx B ρ σ H D A h => wpS_len (wp_ps ps_continue fun l => h σ H l A)
def dDrop (f : Rho → Res Rv) (ρ : Rho) : Ou := (f ρ).ou fun _ ρ1 => .next ρ1
theorem ss_drop {e : Expr} {f : Rho → Res Rv} (h : SE X W e f) (hs : swapsWith e none pos.line X.env = pure false := by rfl) : SS X W (.Expr e pos) (dDrop f) := .mk fun Hb fx B ρ σ H D A q =>
  wp_ps (ps_expr pe_wp hs) (h Hb fx B ρ σ H _ A (q.of_ou.mono (fun r ρ1 z v H1 l1 A1 _ => z σ H1 l1 A1) fun _ _ z => z))
def dRet (f : Rho → Res Rv) (ρ : Rho) : Ou := (f ρ).ou fun r ρ1 => .ret r ρ1
theorem ss_ret {e : Expr} {f : Rho → Res Rv} (h : SE X W e f) : SS X W (.Return (some e) pos) (dRet f) := .mk fun Hb fx B ρ σ H D A q =>
  wp_ps (ps_ret pe_wp) (h Hb fx B ρ σ H _ A (q.of_ou.mono (fun r ρ1 z v H1 l1 A1 q1 => z v σ H1 l1 A1 q1) fun _ _ z => z))
def dRetN (ρ : Rho) : Ou := .ret (.dat .none) ρ
theorem ss_retN : SS X W (.Return none pos) dRetN := .mk fun Hb fx B ρ σ H D A q => wpS_len (wp_ps ps_retN fun l => q .non σ H l A .non)
def dIfS (t : Rho → Res Bool) (f g : Rho → Ou) (ρ : Rho) : Ou := (t ρ).ou fun b ρ1 => if b then f ρ1 else g ρ1
theorem ss_if {c : Expr} {a b : List Stmt} {t : Rho → Res Bool} {f g : Rho → Ou} (ht : ST X W c t) (ha : SSs X W a f) (hb : SSs X W b g) : SS X W (.If c a b pos) (dIfS t f g) := .mk fun Hb fx B ρ σ H D A q => by
  refine wp_ps (ps_if pt_wp pss_wp pss_wp) (ht Hb fx B ρ σ H _ A (q.of_ou.mono (fun c ρ1 z H1 l1 A1 => ?_) fun _ _ z => z))
  cases c with
  | true => exact ha Hb fx B ρ1 σ H1 D A1 z
  | false => exact hb Hb fx B ρ1 σ H1 D A1 z
/-! ### stores -/
/-- slot i gets r: as data, or (m) as a thing of one's own -/
def setR (m : Bool) (i : Nat) (r : Rv) (ρ : Rho) : Option Rho :=
  if m then match r with
    | .new l => some (ρ.set i (.ls l))
    | .newk k => some (ρ.set i (.dk k))
    | .bor j => match ρ[j]? with
      | some (.ls l) => some ((ρ.set j .un).set i (.ls l))
      | _ => none
    | .dat _ => none
  else match frz r ρ with
    | some (d, ρ1) => some (ρ1.set i (.dat d))
    | none => none
theorem Abs.unB {j : Nat} {sl : Sl} (A : Abs K Hb fx B ρ σ H) (h : ρ[j]? = some sl) (ho : sl.own = true) (hv : σ[j]? = some (some (.ref p))) (hp : H p ≠ none) :
    Abs K Hb fx (fun a => B a ∨ a = p) (ρ.set j .un) σ H ∧ ¬ Bad fx B (ρ.set j .un) σ p := by
  have A1 := A.forget (i := j)
  have own : Own ρ σ p := ⟨j, sl, h, ho, hv⟩
  have hs : σ = σ.set j (some (.ref p)) := by
    obtain ⟨h1, h2⟩ := List.getElem?_eq_some_iff.mp hv
    rw [← h2, List.set_getElem_self]
  have sub : ∀ i q, OwnAt (ρ.set j .un) σ i q → i ≠ j ∧ OwnAt ρ σ i q := fun i q z => by
    rw [hs] at z
    rcases ownAt_set z with ⟨_, z, _⟩ | ⟨z1, z2⟩
    · cases z
    · exact ⟨z1, z2⟩
  have nh : ¬ Hid fx (ρ.set j .un) σ p := fun z => by
    rcases z with z | ⟨i, z⟩
    · exact A.fxn p own z
    · exact (sub i p z).1 (A.inj i j p (sub i p z).2 ⟨sl, h, ho, hv⟩)
  refine ⟨⟨A1.len, A1.same, fun i s e => ?_, A1.inj, A1.fxn, A1.fxd, A1.fxp, A1.rfi, fun q z => ?_, A1.tfx, A1.tab⟩, fun z => ?_⟩
  · by_cases hi : i = j
    · subst hi
      rw [List.getElem?_set_self (List.getElem?_eq_some_iff.mp h).1] at e
      cases e
      trivial
    · rw [List.getElem?_set_ne (Ne.symm hi)] at e
      refine (A.slot i s e).mono (fun a o n e => ⟨fun w => n ?_, e⟩) (fun _ _ _ => rfl) (fun _ _ _ _ => rfl)
      rcases w with w | (w | w) | ⟨k, w⟩
      · exact .inl w
      · exact .inr (.inl w)
      · rw [w]; exact .inr (.inr own)
      · exact .inr (.inr ⟨k, (sub k _ w).2⟩)
  · rcases z with z | z
    · exact A1.bpr q z
    · subst z; exact ⟨hp, nh⟩
  · rcases z with z | z | z
    · exact nh (.inl z)
    · exact (A.bpr p z).2 (.inr own)
    · exact nh (.inr z)
theorem setR_ok {m : Bool} {i : Nat} {r : Rv} {v : V} (A : Abs K Hb fx B ρ σ H) (h : RvOk K Hb fx B ρ σ H v r) (e : setR m i r ρ = some ρ') : Abs K Hb fx B ρ' (σ.set i (some v)) H := by
  unfold setR at e
  cases m with
  | false =>
    rw [if_neg Bool.false_ne_true] at e
    cases e1 : frz r ρ with
    | none => rw [e1] at e; cases e
    | some x =>
      obtain ⟨d, ρ1⟩ := x
      rw [e1] at e
      cases e
      obtain ⟨A1, q1, _⟩ := frz_ok A h e1
      exact A1.putDat q1
  | true =>
    rw [if_pos rfl] at e
    cases r with
    | dat d => cases e
    | new l =>
      cases e
      obtain ⟨p, vs, rfl, h1, h2, h3, h4, h5⟩ := h
      exact h5.putNew A rfl h2 h4 ⟨p, vs, rfl, h1, h3⟩
    | newk k =>
      cases e
      obtain ⟨p, kv, rfl, h1, h2, h3, h4, h5⟩ := h
      exact h5.putNew A rfl h2 h4 ⟨p, kv, rfl, h1, h3⟩
    | bor j =>
      have h' : σ[j]? = some (some v) := h
      cases q : ρ[j]? with
      | none => simp only [q] at e; cases e
      | some sl =>
        cases sl with
        | ls l =>
          simp only [q] at e
          cases e
          obtain ⟨p, vs, e4, e5, a⟩ := A.slot j _ q
          rw [getD_of h'] at e4; cases e4
          obtain ⟨A2, nb⟩ := A.unB q rfl h' (by rw [e5]; simp)
          refine A2.putNew A.forget rfl nb (A.hid_base (.inr ⟨j, _, q, rfl, h'⟩)) ⟨p, vs, rfl, e5, dpa_mono (hide_mono fun a o n e => ⟨fun z => n ?_, e⟩) a⟩
          have own : Own ρ σ p := ⟨j, _, q, rfl, h'⟩
          have hs : σ = σ.set j (some (.ref p)) := by
            obtain ⟨h1, h2⟩ := List.getElem?_eq_some_iff.mp h'
            rw [← h2, List.set_getElem_self]
          rcases z with (z | z | ⟨k, z⟩) | z
          · exact .inl z
          · exact .inr (.inl z)
          · rw [hs] at z
            rcases ownAt_set z with ⟨_, z, _⟩ | ⟨z1, z2⟩
            · cases z
            · exact .inr (.inr ⟨k, z2⟩)
          · rw [z]; exact .inr (.inr own)
        | un => simp only [q] at e; cases e
        | dat d => simp only [q] at e; cases e
        | rf k l => simp only [q] at e; cases e
        | dk k => simp only [q] at e; cases e
        | scr k => simp only [q] at e; cases e
        | fn k => simp only [q] at e; cases e
        | pv k => simp only [q] at e; cases e
def dSet (m : Bool) (i : Nat) (f : Rho → Res Rv) (ρ : Rho) : Ou := (f ρ).ou fun r ρ1 => match setR m i r ρ1 with
  | some ρ2 => .next ρ2
  | none => .stuck
theorem set_seq {m : Bool} {i : Nat} {e : Expr} {f : Rho → Res Rv} (h : SE X W e f) (A : Abs X.K Hb fx B ρ σ H) (q : PostS X W Hb fx B D (dSet m i f ρ)) : wpE X e σ H fun x H1 => LenOk X.K H1 → D.nx (σ.set i (some x)) H1 := by
  refine h Hb fx B ρ σ H _ A (q.of_ou.mono (fun r ρ1 z v H1 l1 A1 q1 l2 => ?_) fun _ _ z => z)
  split at z
  · rename_i ρ2 e2
    exact z _ H1 l1 (setR_ok A1 q1 e2)
  · exact z.elim
theorem ss_set {m : Bool} {i : Nat} {x : Str} {e : Expr} {f : Rho → Res Rv} {pos' : Pos} (hN : X.N.Nodup) (hi : X.N[i]? = some x) (hx : Loc X.env.scope x) (h : SE X W e f) (hs : swapsWith e (some (.Name x pos')) pos.line X.env = pure false := by rfl) (hf : X.fn x = true ∨ X.env.scope.names.lookup x = some .local := by first | exact .inl rfl | exact .inr rfl | assumption) :
    SS X W (.Assign [.Name x pos'] e pos) (dSet m i f) := .mk fun Hb fx B ρ σ H D A q => wpS_len (wp_ps (ps_set hN hi hx pe_wp hs hf) (set_seq h A q))
/-! targets -/
/-- wiped at ws they are the same -/
def Wpd (ix : List Nat) (σ σ' : St) : Prop := ∀ ws : List Nat, (∀ i ∈ ix, i ∈ ws) → wipe σ' ws = wipe σ ws
structure SG [Tb] (X : Cx) (W : WX) (tg : Expr) (f : PyData → Rho → Option Rho) (ix : List Nat) : Prop where
  run : ∀ (Hb : Hp) (fx : List Addr) (B : Addr → Prop) (ρ ρ' : Rho) (σ : St) (H : Hp) (v : V) (d : PyData) (Q : St → Hp → Prop), Abs X.K Hb fx B ρ σ H → Dq (hide H (Bad fx B ρ σ)) v d → f d ρ = some ρ' →
    (∀ σ', Abs X.K Hb fx B ρ' σ' H → (∀ a, Bad fx B ρ' σ' a → Bad fx B ρ σ a) → Wpd ix σ σ' → Q σ' H) → wpG X tg v σ H Q
instance [Tb] {X : Cx} {W : WX} {tg : Expr} {f : PyData → Rho → Option Rho} {ix : List Nat} : CoeFun (SG X W tg f ix) (fun _ => ∀ (Hb : Hp) (fx : List Addr) (B : Addr → Prop) (ρ ρ' : Rho) (σ : St) (H : Hp) (v : V) (d : PyData) (Q : St → Hp → Prop), Abs X.K Hb fx B ρ σ H → Dq (hide H (Bad fx B ρ σ)) v d → f d ρ = some ρ' →
    (∀ σ', Abs X.K Hb fx B ρ' σ' H → (∀ a, Bad fx B ρ' σ' a → Bad fx B ρ σ a) → Wpd ix σ σ' → Q σ' H) → wpG X tg v σ H Q) := ⟨SG.run⟩
structure SGs [Tb] (X : Cx) (W : WX) (tg : List Expr) (f : List PyData → Rho → Option Rho) (ix : List Nat) : Prop where
  run : ∀ (Hb : Hp) (fx : List Addr) (B : Addr → Prop) (ρ ρ' : Rho) (σ : St) (H : Hp) (vs : List V) (ds : List PyData) (Q : St → Hp → Prop), Abs X.K Hb fx B ρ σ H → DqA (hide H (Bad fx B ρ σ)) vs ds → f ds ρ = some ρ' →
    (∀ σ', Abs X.K Hb fx B ρ' σ' H → (∀ a, Bad fx B ρ' σ' a → Bad fx B ρ σ a) → Wpd ix σ σ' → Q σ' H) → wpGs X tg vs σ H Q
instance [Tb] {X : Cx} {W : WX} {tg : List Expr} {f : List PyData → Rho → Option Rho} {ix : List Nat} : CoeFun (SGs X W tg f ix) (fun _ => ∀ (Hb : Hp) (fx : List Addr) (B : Addr → Prop) (ρ ρ' : Rho) (σ : St) (H : Hp) (vs : List V) (ds : List PyData) (Q : St → Hp → Prop), Abs X.K Hb fx B ρ σ H → DqA (hide H (Bad fx B ρ σ)) vs ds → f ds ρ = some ρ' →
    (∀ σ', Abs X.K Hb fx B ρ' σ' H → (∀ a, Bad fx B ρ' σ' a → Bad fx B ρ σ a) → Wpd ix σ σ' → Q σ' H) → wpGs X tg vs σ H Q) := ⟨SGs.run⟩
omit [Tb] in
theorem set_set_comm {σ : St} {i j : Nat} {a b : Option V} (h : i ≠ j) : (σ.set i a).set j b = (σ.set j b).set i a := List.set_comm a b h
omit [Tb] in
theorem wipe_set {σ : St} {i : Nat} {x : Option V} : ∀ {ws : List Nat}, i ∈ ws → wipe (σ.set i x) ws = wipe σ ws
  | w :: ws, h => by
    show (wipe (σ.set i x) ws).set w none = (wipe σ ws).set w none
    by_cases hm : i ∈ ws
    · rw [wipe_set hm]
    · have e : i = w := by
        rcases List.mem_cons.mp h with h | h
        · exact h
        · exact (hm h).elim
      subst e
      have out : ∀ vs : List Nat, i ∉ vs → wipe (σ.set i x) vs = (wipe σ vs).set i x := fun vs => by
        induction vs with
        | nil => intro _; rfl
        | cons v vs ih =>
          intro hv
          simp only [List.mem_cons, not_or] at hv
          show (wipe (σ.set i x) vs).set v none = ((wipe σ vs).set v none).set i x
          rw [ih hv.2, List.set_comm _ _ hv.1]
      rw [out ws hm, List.set_set]
omit [Tb] in
theorem bad_set {i : Nat} {d : PyData} {ov : Option V} {a : Addr} (z : Bad fx B (ρ.set i (.dat d)) (σ.set i ov) a) : Bad fx B ρ σ a := by
  rcases z with z | z | ⟨k, z⟩
  · exact .inl z
  · exact .inr (.inl z)
  · rcases ownAt_set z with ⟨_, z, _⟩ | ⟨z1, z2⟩
    · cases z
    · exact .inr (.inr ⟨k, z2⟩)
def tgN (i : Nat) (d : PyData) (ρ : Rho) : Option Rho := some (ρ.set i (.dat d))
theorem sg_name {i : Nat} {x : Str} (hN : X.N.Nodup) (hi : X.N[i]? = some x) (hx : Loc X.env.scope x) (hf : X.fn x = true ∨ X.env.scope.names.lookup x = some .local := by first | exact .inl rfl | exact .inr rfl | assumption) : SG X W (.Name x pos) (tgN i) [i] := .mk fun Hb fx B ρ ρ' σ H v d Q A h e q => by
  cases e
  exact wp_pg (pg_name hN hi hx hf) (q _ (A.putDat h) (fun a z => bad_set z) fun ws h => wipe_set (h i (by simp)))
def tgNil (ds : List PyData) (ρ : Rho) : Option Rho := match ds with
  | [] => some ρ
  | _ => none
def tgCons (f : PyData → Rho → Option Rho) (g : List PyData → Rho → Option Rho) (ds : List PyData) (ρ : Rho) : Option Rho := match ds with
  | d :: r => (f d ρ).bind fun ρ1 => g r ρ1
  | [] => none
theorem sgs_nil : SGs X W [] tgNil [] := .mk fun Hb fx B ρ ρ' σ H vs ds Q A h e q => by
  cases ds with
  | nil =>
    cases e; cases h
    exact wp_pgs pgs_nil ⟨rfl, q σ A (fun _ z => z) fun _ _ => rfl⟩
  | cons d r => cases e
theorem sgs_cons {e : Expr} {es : List Expr} {f : PyData → Rho → Option Rho} {g : List PyData → Rho → Option Rho} {ix jx : List Nat} (h : SG X W e f ix) (k : SGs X W es g jx)
    (hs : (assignEach (e :: es) X.env).map (·.2) = assign e X.env :: (assignEach es X.env).map (·.2) := by rfl) : SGs X W (e :: es) (tgCons f g) (ix ++ jx) := .mk fun Hb fx B ρ ρ' σ H vs ds Q A a e q => by
  cases a with
  | nil => cases e
  | @cons v vr d dr a1 a2 =>
    have e : (f d ρ).bind (fun ρ1 => g dr ρ1) = some ρ' := e
    cases e1 : f d ρ with
    | none => rw [e1] at e; cases e
    | some ρ1 =>
      rw [e1] at e
      refine wp_pgs (pgs_cons pg_wp pgs_wp hs) ⟨v, vr, rfl, h Hb fx B ρ ρ1 σ H v d _ A a1 e1 fun σ1 A1 s1 w1 => ?_⟩
      exact k Hb fx B ρ1 ρ' σ1 H vr dr Q A1 (dpa_mono (hide_mono fun a o n e => ⟨fun z => n (s1 a z), e⟩) a2) e fun σ2 A2 s2 w2 => q σ2 A2 (fun a z => s1 a (s2 a z)) fun ws h => (w2 ws fun i m => h i (List.mem_append_right _ m)).trans (w1 ws fun i m => h i (List.mem_append_left _ m))
def tgTup (n : Nat) (g : List PyData → Rho → Option Rho) (d : PyData) (ρ : Rho) : Option Rho := match d with
  | .tuple l => if l.length = n then g l ρ else none
  | _ => none
theorem sg_tup {es : List Expr} {k n : Nat} {g : List PyData → Rho → Option Rho} {ix : List Nat} (hc : X.calm = true) (h : SGs X W es g ix) (hn : (assignEach es X.env).length = n := by rfl) (hst : (assignEach es X.env).findIdx? (·.1) = none := by rfl) : SG X W (.Tuple es k pos) (tgTup n g) ix := .mk fun Hb fx B ρ ρ' σ H v d Q A a e q => by
  cases a with
  | @tup p vs ds a1 a2 =>
    have e : (if ds.length = n then g ds ρ else none) = some ρ' := e
    by_cases z : ds.length = n
    · rw [if_pos z] at e
      exact wp_pg (pg_tup hc pgs_wp hn hst) ⟨p, vs, rfl, SqT.of (hide_sub _ _ a1), by rw [dpa_len a2]; exact z, h Hb fx B ρ ρ' σ H vs _ Q A a2 e q⟩
    · rw [if_neg z] at e; cases e
  | non => cases e
  | bl b => cases e
  | int i => cases e
  | str x => cases e
  | lst _ _ => cases e
def dAsg (g : PyData → Rho → Option Rho) (f : Rho → Res Rv) (ρ : Rho) : Ou := (f ρ).ou fun r ρ1 => match frz r ρ1 with
  | some (d, ρ2) => match g d ρ2 with
    | some ρ3 => .next ρ3
    | none => .stuck
  | none => .stuck
theorem ss_asg {tg e : Expr} {g : PyData → Rho → Option Rho} {f : Rho → Res Rv} {ix : List Nat} (h : SE X W e f) (k : SG X W tg g ix) (hs : swapsWithSole [tg] e pos.line X.env = pure false := by rfl) (hw : swappedStores [tg] e X.env = pure none := by rfl)
    (h1 : (assignEach [tg] X.env).map (·.2) = [assign tg X.env] := by rfl) : SS X W (.Assign [tg] e pos) (dAsg g f) := .mk fun Hb fx B ρ σ H D A q => by
  refine wpS_len (wp_ps (ps_asg pe_wp pg_wp hs hw h1) (h Hb fx B ρ σ H _ A (q.of_ou.mono (fun r ρ1 z v H1 l1 A1 q1 => ?_) fun _ _ z => z)))
  cases e1 : frz r ρ1 with
  | none => simp only [e1] at z; exact z.elim
  | some x =>
    obtain ⟨d, ρ2⟩ := x
    simp only [e1] at z
    cases e2 : g d ρ2 with
    | none => simp only [e2] at z; exact z.elim
    | some ρ3 =>
      simp only [e2] at z
      obtain ⟨A2, q2, _⟩ := frz_ok A1 q1 e1
      exact k Hb fx B ρ2 ρ3 σ H1 v d _ A2 q2 e2 fun σ' A3 _ _ l => z σ' H1 l A3
end
end R
namespace R
open PySem PySem.Spec L2
open PyProof.Rows hiding St
/-! ### what is walked -/
def YOk (Hv H : Hp) (x : V) (d : PyData) (H' : Hp) : Prop := (H' = H ∧ Dq Hv x d) ∨ ∃ T xs es, x = .ref T ∧ d = .tuple es ∧ H T = none ∧ H' = upd H T (.tup xs) ∧ DqA Hv xs es
def Yields (Hv : Hp) (J : It) (ds : List PyData) : Prop := Walk J ds.length (fun H => Same Hv H) (fun i H x H' => ∃ d, ds[i]? = some d ∧ YOk Hv H x d H')
structure SI [Tb] (X : Cx) (W : WX) (tg iter : Expr) (f : Rho → Res (List PyData)) : Prop where
  run : ∀ (Hb : Hp) (fx : List Addr) (B : Addr → Prop) (ρ : Rho) (σ : St) (H : Hp) (R : It → Hp → Prop), Abs X.K Hb fx B ρ σ H →
    Post (fun ds ρ' => ∀ J H', LenOk X.K H' → Abs X.K Hb fx B ρ' σ H' → Yields (hide H' (Bad fx B ρ' σ)) J ds → ds.length ≤ sizeLine → R J H') (ErrE X W Hb fx B σ) (f ρ) → wpI X tg iter σ H R
instance [Tb] {X : Cx} {W : WX} {tg iter : Expr} {f : Rho → Res (List PyData)} : CoeFun (SI X W tg iter f) (fun _ => ∀ (Hb : Hp) (fx : List Addr) (B : Addr → Prop) (ρ : Rho) (σ : St) (H : Hp) (R : It → Hp → Prop), Abs X.K Hb fx B ρ σ H →
    Post (fun ds ρ' => ∀ J H', LenOk X.K H' → Abs X.K Hb fx B ρ' σ H' → Yields (hide H' (Bad fx B ρ' σ)) J ds → ds.length ≤ sizeLine → R J H') (ErrE X W Hb fx B σ) (f ρ) → wpI X tg iter σ H R) := ⟨SI.run⟩
section
variable [Tb] {K : PySem.W.Frag} {Hb Hb' H H' : Hp} {fx : List Addr} {B B' : Addr → Prop} {ρ ρ' : Rho} {σ σ' : St} {p : Addr} {o : HO} {X : Cx} {W : WX} {S : Addr → Prop} {pos : Pos} {D : Ends} {tg : Expr}
/-- a list or a tuple -/
def iSeq (K : PySem.W.Frag) (tl : TE) : TI := fun σ H R => tl σ H fun x H1 => ∃ a, x = .ref a ∧ ((∃ xs, SqL K H1 a xs ∧ R (Itl K a) H1) ∨ ∃ xs, SqT K H1 a xs ∧ R (Itt K a) H1)
omit [Tb] in
theorem pi_seq {l : Expr} {tl : TE} (hl : PE X l tl) : PI X tg l (iSeq X.K tl) := by
  refine ⟨fun pins s σ H R I h => ?_⟩
  refine thn (hl.run pins s σ H _ I h) fun v s1 ⟨x, H1, I1, r1, q1⟩ => ?_
  obtain ⟨a, e, q⟩ := q1
  subst e
  cases r1
  rcases q with ⟨xs, hq, q⟩ | ⟨xs, hq, q⟩
  · obtain ⟨its, rv, p, hz⟩ := I1.list hq
    refine wpAny_pyIter_list p.isList ?_
    refine ⟨s1.heap.objs.size, [s1.heap.objs.size], _, _, H1, rfl, I1.kept (t' := s1.toks) fun b o e => Heap.get?_push_of_some _ e, turn_list a _, ⟨_, Heap.get?_push_size _ rfl, rfl, rfl⟩, fun b hb => ?_, q⟩
    have e : b = s1.heap.objs.size := by simpa using hb
    subst e
    exact I1.fpOk (Nat.le_refl _) (I1.hok.fresh (Nat.le_refl _))
  · obtain ⟨its, rv, p, hz⟩ := I1.tuple hq
    refine wpAny_pyIter_tuple (show s1.heap.IsTuple a its.toArray from p) ?_
    refine ⟨s1.heap.objs.size, [s1.heap.objs.size], _, _, H1, rfl, I1.kept (t' := s1.toks) fun b o e => Heap.get?_push_of_some _ e, turn_tuple a _, ⟨_, Heap.get?_push_size _ rfl, rfl, rfl⟩, fun b hb => ?_, q⟩
    have e : b = s1.heap.objs.size := by simpa using hb
    subst e
    exact I1.fpOk (Nat.le_refl _) (I1.hok.fresh (Nat.le_refl _))
omit [Tb] in
theorem wpI_len {iter : Expr} {R : It → Hp → Prop} (h : wpI X tg iter σ H fun J H' => LenOk X.K H' → R J H') : wpI X tg iter σ H R := fun pins s I =>
  thn (h pins s I) fun v s1 h1 => thn h1 fun itv s2 ⟨it, fp, tn, J, H', e, I', T, t0, f, q⟩ => ⟨it, fp, tn, J, H', e, I', T, t0, f, q (lenOk I')⟩
def dSeqI (f : Rho → Res Rv) (ρ : Rho) : Res (List PyData) := (f ρ).bind fun r ρ1 => match frz r ρ1 with
  | some (d, ρ2) => ofOpt (seqD d) ρ2
  | none => .stuck
theorem si_seq {l : Expr} {f : Rho → Res Rv} (h : SE X W l f) : SI X W tg l (dSeqI f) := .mk fun Hb fx B ρ σ H R A q => by
  refine wpI_len (wp_pi (pi_seq pe_wp) (h Hb fx B ρ σ H _ A (q.of_bind.mono (fun r ρ1 z v H1 l1 A1 q1 => ?_) fun _ _ z => z)))
  cases e : frz r ρ1 with
  | none => simp only [e] at z; exact z.elim
  | some x =>
    obtain ⟨d, ρ2⟩ := x
    simp only [e] at z
    obtain ⟨ds, e2, z⟩ := z.of_opt
    obtain ⟨A2, q2, _⟩ := frz_ok A1 q1 e
    cases d with
    | list l =>
      cases e2
      cases q2 with
      | @lst a vs _ r1 a1 =>
        refine ⟨a, rfl, .inl ⟨vs, .inl (rd_mono hide_sub r1), fun l2 => z _ H1 l1 A2 ?_ ?_⟩⟩
        · have w := walk_list (K := X.K) (a := a) (xs := vs)
          rw [dpa_len a1] at w
          exact w.mono (fun H' s => .inl (rd_mono s r1)) fun i H' x H'' hi s ⟨e1, e2⟩ => by
            obtain ⟨d, e3, e4⟩ := dpa_get' a1 e2
            exact ⟨d, e3, .inl ⟨e1, e4⟩⟩
        · rw [← dpa_len a1]; exact l1.1 a vs (.inl (rd_mono hide_sub r1))
    | tuple l =>
      cases e2
      cases q2 with
      | @tup a vs _ r1 a1 =>
        refine ⟨a, rfl, .inr ⟨vs, SqT.of (hide_sub _ _ r1), fun l2 => z _ H1 l1 A2 ?_ ?_⟩⟩
        · have w := walk_tup (K := X.K) (a := a) (xs := vs)
          rw [dpa_len a1] at w
          exact w.mono (fun H' s => SqT.of (s _ _ r1)) fun i H' x H'' hi s ⟨e1, e2⟩ => by
            obtain ⟨d, e3, e4⟩ := dpa_get' a1 e2
            exact ⟨d, e3, .inl ⟨e1, e4⟩⟩
        · rw [← dpa_len a1]; exact l1.2 a vs (SqT.of (hide_sub _ _ r1))
    | none => cases e2
    | bool _ => cases e2
    | int _ => cases e2
    | str _ => cases e2
    | dict _ => cases e2
/-! ranges -/
def upTo (lo : Int) (n : Nat) : List PyData := (List.range n).map fun (i : Nat) => .int (lo + (i : Int))
omit [Tb] in
theorem upTo_len (lo : Int) (n : Nat) : (upTo lo n).length = n := by unfold upTo; simp
omit [Tb] in
theorem yields_range (lo : Int) (n : Nat) : Yields H (Itr lo n) (upTo lo n) := by
  have w := walk_range (lo := lo) (n := n)
  unfold Yields
  rw [upTo_len]
  refine w.mono (fun _ _ => trivial) fun i H' x H'' hi _ ⟨e1, e2⟩ => ⟨.int (lo + i), ?_, .inl ⟨e1, by rw [e2]; exact .int _⟩⟩
  unfold upTo
  rw [List.getElem?_map, List.getElem?_range hi]; rfl
def gRng1 : List PyData → Option (List PyData)
  | [.int j] => if j ≤ 16777216 ∧ -16777216 ≤ j then some (upTo 0 j.toNat) else none
  | _ => none
def gRng2 : List PyData → Option (List PyData)
  | [.int i, .int j] => if -(2 ^ 60) < i ∧ i < 2 ^ 60 ∧ -(2 ^ 60) < j ∧ j < 2 ^ 60 ∧ j - i ≤ 16777216 then some (upTo i (j - i).toNat) else none
  | _ => none
/-- lo, lo - 1, .. (n of them) -/
def downTo (lo : Int) (n : Nat) : List PyData := (List.range n).map fun (i : Nat) => .int (lo - (i : Int))
def gRng3 : List PyData → Option (List PyData)
  | [.int i, .int j, .int c] => if c = -1 ∧ -(2 ^ 60) < i ∧ i < 2 ^ 60 ∧ -(2 ^ 60) < j ∧ j < 2 ^ 60 ∧ i - j ≤ 16777216 then some (downTo i (i - j).toNat) else none
  | _ => none
def dRng (g : List PyData → Option (List PyData)) (fs : Rho → Res (List Rv)) (ρ : Rho) : Res (List PyData) := (fs ρ).bind fun rs ρ1 => match rdAll ρ1 rs with
  | some ds => ofOpt (g ds) ρ1
  | none => .stuck
theorem rng_seq {es : List Expr} {fs : Rho → Res (List Rv)} {g : List PyData → Option (List PyData)} {R : List V → Hp → Prop} (h : SA X W es fs) (A : Abs X.K Hb fx B ρ σ H) {R' : It → Hp → Prop}
    (q : Post (fun ds ρ' => ∀ J H', LenOk X.K H' → Abs X.K Hb fx B ρ' σ H' → Yields (hide H' (Bad fx B ρ' σ)) J ds → ds.length ≤ sizeLine → R' J H') (ErrE X W Hb fx B σ) (dRng g fs ρ))
    (fin : ∀ vs ds l H' S, LoA H' S vs ds → g ds = some l → (∀ J, (∀ S, Yields (hide H' S) J l) → l.length ≤ sizeLine → R' J H') → R vs H') : wpA X es σ H R := by
  refine h Hb fx B ρ σ H _ A (q.of_bind.mono (fun rs ρ1 z vs H1 l1 A1 q1 => ?_) fun _ _ z => z)
  cases e : rdAll ρ1 rs with
  | none => simp only [e] at z; exact z.elim
  | some ds =>
    simp only [e] at z
    obtain ⟨l, e2, z⟩ := z.of_opt
    exact fin vs ds l H1 _ (rdAll_ok (vs := vs) A1 q1 e) e2 fun J y n => z J H1 l1 A1 (y _) n
theorem si_range1 {a : Expr} {fs : Rho → Res (List Rv)} {p : Pos} (hg : Gl X "range") (hm : X.mg "range" = none) (h : SA X W [a] fs) (hs : starEach [a] X.env = [(false, eval a X.env)] := by exact ste rfl) : SI X W tg (.Call (.Name "range" p) [a] [] pos) (dRng gRng1 fs) := .mk fun Hb fx B ρ σ H R A q =>
  wp_pi (pi_range1 hg hm pa_wp hs) (rng_seq h A q fun vs ds l H' S lo e z => by
    unfold gRng1 at e
    split at e
    · split at e
      · rename_i j c
        cases e
        obtain ⟨v, rfl, g⟩ := lo.one
        exact ⟨j, by rw [g.int], by omega, by omega, z _ (fun S => yields_range 0 j.toNat) (by rw [upTo_len, sizeLine_eq]; omega)⟩
      · cases e
    · cases e)
theorem si_range2 {a b : Expr} {fs : Rho → Res (List Rv)} {p : Pos} (hg : Gl X "range") (hm : X.mg "range" = none) (h : SA X W [a, b] fs) (hs : starEach [a, b] X.env = [(false, eval a X.env), (false, eval b X.env)] := by exact ste rfl) (hs2 : starEach [b] X.env = [(false, eval b X.env)] := by exact ste rfl) : SI X W tg (.Call (.Name "range" p) [a, b] [] pos) (dRng gRng2 fs) := .mk fun Hb fx B ρ σ H R A q =>
  wp_pi (pi_range2 hg hm pa_wp hs hs2) (rng_seq h A q fun vs ds l H' S lo e z => by
    unfold gRng2 at e
    split at e
    · split at e
      · rename_i i j c
        cases e
        obtain ⟨v, w, rfl, g1, g2⟩ := lo.two
        exact ⟨i, j, by rw [g1.int, g2.int], by omega, z _ (fun S => yields_range i (j - i).toNat) (by rw [upTo_len, sizeLine_eq]; omega)⟩
      · cases e
    · cases e)
omit [Tb] in
theorem LoA.three {vs : List V} {d e f : PyData} (h : LoA H S vs [d, e, f]) : ∃ v w u, vs = [v, w, u] ∧ Lo H S v d ∧ Lo H S w e ∧ Lo H S u f := by
  cases h with
  | cons h t =>
    cases t with
    | cons h2 t =>
      cases t with
      | cons h3 t => cases t; exact ⟨_, _, _, rfl, h, h2, h3⟩
omit [Tb] in
theorem downTo_len (lo : Int) (n : Nat) : (downTo lo n).length = n := by unfold downTo; simp
omit [Tb] in
theorem yields_rangeC (lo : Int) (n : Nat) : Yields H (Itc lo (-1) n) (downTo lo n) := by
  have w := walk_rangeC (lo := lo) (c := -1) (n := n)
  unfold Yields
  rw [downTo_len]
  refine w.mono (fun _ _ => trivial) fun i H' x H'' hi _ ⟨e1, e2⟩ => ⟨.int (lo - i), ?_, .inl ⟨e1, by have e3 : x = .int (lo + (i : Int) * -1) := e2; rw [e3, show lo + (i : Int) * -1 = lo - (i : Int) by omega]; exact .int _⟩⟩
  unfold downTo
  rw [List.getElem?_map, List.getElem?_range hi]; rfl
theorem si_range3 {a b c : Expr} {fs : Rho → Res (List Rv)} {p : Pos} (hg : Gl X "range") (hm : X.mg "range" = none) (h : SA X W [a, b, c] fs)
    (pi : ∀ {ta : TA}, PA X [a, b, c] ta → PI X tg (.Call (.Name "range" p) [a, b, c] [] pos) (iRng3 ta)) : SI X W tg (.Call (.Name "range" p) [a, b, c] [] pos) (dRng gRng3 fs) := .mk fun Hb fx B ρ σ H R A q =>
  wp_pi (pi pa_wp) (rng_seq h A q fun vs ds l H' S lo e z => by
    unfold gRng3 at e
    split at e
    · split at e
      · rename_i i j c z2
        obtain ⟨rfl, z2⟩ := z2
        cases e
        obtain ⟨v, w, u, rfl, g1, g2, g3⟩ := lo.three
        refine ⟨i, j, -1, (i - j).toNat, by rw [g1.int, g2.int, g3.int], RgC.neg (by omega) (by omega) (by omega) (by omega), z _ (fun S => yields_rangeC i (i - j).toNat) (by rw [downTo_len, sizeLine_eq]; omega)⟩
      · cases e
    · cases e)
end
end R
namespace R
open PySem PySem.Spec L2
open PyProof.Rows hiding St
section
variable [Tb] {K : PySem.W.Frag} {Hb Hb' H H' : Hp} {fx : List Addr} {B B' : Addr → Prop} {ρ ρ' : Rho} {σ σ' : St} {p : Addr} {o : HO} {X : Cx} {W : WX} {S : Addr → Prop} {pos : Pos} {D : Ends} {tg : Expr}
theorem PostS.rebase {o : Ou} (h : PostS X W Hb fx B D o) (e : Same Hb Hb') : PostS X W Hb' fx B D o := by
  cases o with
  | next ρ => exact fun σ H l A => h σ H l (A.rebase e)
  | brk ρ => exact fun σ H l A => h σ H l (A.rebase e)
  | cont ρ => exact fun σ H l A => h σ H l (A.rebase e)
  | ret r ρ => exact fun v σ H l A q => h v σ H l (A.rebase e) (q.rebase e)
  | err x ρ => exact fun σ => (h σ).rebase e
  | stuck => exact h
/-! ### for -/
def dLoop (g : PyData → Rho → Option Rho) (body : Rho → Ou) : List PyData → Rho → Ou
  | [], ρ => .next ρ
  | d :: ds, ρ => match g d ρ with
    | none => .stuck
    | some ρ1 => match body ρ1 with
      | .next ρ2 => dLoop g body ds ρ2
      | .cont ρ2 => dLoop g body ds ρ2
      | .brk ρ2 => .next ρ2
      | o => o
def dFor (fi : Rho → Res (List PyData)) (g : PyData → Rho → Option Rho) (body : Rho → Ou) (ρ : Rho) : Ou := (fi ρ).ou fun ds ρ1 => dLoop g body ds ρ1
theorem YOk.use {Hv : Hp} {x : V} {d : PyData} (y : YOk Hv H x d H') {H1 : Hp} {ρ1 : Rho} {σ1 : St} (hv : Hv = hide H1 (Bad fx B ρ1 σ1)) (A : Abs K (hide H1 (Hid fx ρ1 σ1)) fx B ρ σ H) :
    Abs K (hide H1 (Hid fx ρ1 σ1)) fx B ρ σ H' ∧ Dq (hide H' (Bad fx B ρ σ)) x d := by
  subst hv
  rcases y with ⟨rfl, q⟩ | ⟨T, xs, es, rfl, rfl, n, rfl, q⟩
  · exact ⟨A, dp_mono A.carry q⟩
  · have o : Outc H (Bad fx B ρ σ) (.dat (.tuple es)) (.ref T) (upd H T (.tup xs)) := .tup n (dpa_mono A.carry q)
    exact o.ok A
omit [Tb] in
theorem drop_cons {α : Type} {l : List α} {i : Nat} {d : α} (h : l[i]? = some d) : l.drop i = d :: l.drop (i + 1) := by
  obtain ⟨h1, h2⟩ := List.getElem?_eq_some_iff.mp h
  rw [List.drop_eq_getElem_cons h1, h2]
theorem ss_for {iter : Expr} {body : List Stmt} {fi : Rho → Res (List PyData)} {g : PyData → Rho → Option Rho} {ix : List Nat} {fb : Rho → Ou} (hp : PassesOwn (model X.prog X.w) X.A X.env X.xe) (hc : X.calm = true) (hi : SI X W tg iter fi) (hg : SG X W tg g ix) (hb : SSs X W body fb)
    (hs : ∀ x, foldedSetIterable iter X.env x = pure x := by intro _; rfl) : SS X W (.For tg iter body [] pos) (dFor fi g fb) := .mk fun Hb fx B ρ σ H D A q => by
  refine wpS_len (wp_ps (ps_for hp hc pi_wp pg_wp pss_wp hs) (hi Hb fx B ρ σ H _ A (q.of_ou.mono (fun ds ρ1 z J H1 l1 A1 y _ => ?_) fun _ _ z => z)))
  have z1 : PostS X W (hide H1 (Hid fx ρ1 σ)) fx B D (dLoop g fb ds ρ1) := z.rebase A1.same
  refine for_it y (fun i σ2 H2 => ∃ ρ2, Abs X.K (hide H1 (Hid fx ρ1 σ)) fx B ρ2 σ2 H2 ∧ PostS X W (hide H1 (Hid fx ρ1 σ)) fx B D (dLoop g fb (ds.drop i) ρ2)) ⟨ρ1, A1.here, by simpa using z1⟩ (fun i σ2 H2 _ ⟨ρ2, A2, _⟩ => ?_) (fun i x σ2 H2 H3 hi ⟨ρ2, A2, z2⟩ ⟨d, e, yo⟩ => ?_) (fun σ2 H2 ⟨ρ2, A2, z2⟩ => ?_)
  · exact (hide_mono fun a o n e => ⟨fun z => n (Bad.hid z), e⟩).trans (A2.same.trans hide_sub)
  · rw [drop_cons e] at z2
    unfold dLoop at z2
    obtain ⟨A3, q3⟩ := yo.use rfl A2
    cases e1 : g d ρ2 with
    | none => rw [e1] at z2; exact z2.elim
    | some ρ3 =>
      rw [e1] at z2
      dsimp only at z2
      refine hg _ fx B ρ2 ρ3 σ2 H3 x d _ A3 q3 e1 fun σ4 A4 _ _ => ?_
      refine wpSs_len (hb _ fx B ρ3 σ4 H3 _ A4 ?_)
      cases e2 : fb ρ3 with
      | next ρ4 => rw [e2] at z2; exact fun σ5 H5 l5 A5 _ => ⟨ρ4, A5, z2⟩
      | cont ρ4 => rw [e2] at z2; exact fun σ5 H5 l5 A5 _ => ⟨ρ4, A5, z2⟩
      | brk ρ4 => rw [e2] at z2; exact fun σ5 H5 l5 A5 _ _ => z2 σ5 H5 l5 A5
      | ret r ρ4 => rw [e2] at z2; exact fun v σ5 H5 l5 A5 r5 _ _ => z2 v σ5 H5 l5 A5 r5
      | err x ρ4 => rw [e2] at z2; exact z2
      | stuck => rw [e2] at z2; exact z2
  · rw [List.drop_length] at z2
    exact fun l => z2 σ2 H2 l A2
/-! ### while -/
def dWhile (c : Rho → Res Bool) (body : Rho → Ou) : Nat → Rho → Ou
  | 0, _ => .stuck
  | n + 1, ρ => match c ρ with
    | .ok true ρ1 => match body ρ1 with
      | .next ρ2 => dWhile c body n ρ2
      | .cont ρ2 => dWhile c body n ρ2
      | .brk ρ2 => .next ρ2
      | o => o
    | .ok false ρ1 => .next ρ1
    | .err x ρ1 => .err x ρ1
    | .stuck => .stuck
theorem ss_while {c : Expr} {body : List Stmt} {fc : Rho → Res Bool} {fb : Rho → Ou} {n : Nat} (hp : PassesOwn (model X.prog X.w) X.A X.env X.xe) (hc : ST X W c fc) (hb : SSs X W body fb) : SS X W (.While c body [] pos) (dWhile fc fb n) := .mk fun Hb fx B ρ σ H D A q => by
  refine wp_ps (ps_while hp pt_wp pss_wp) ⟨fun m σ2 H2 => ∃ ρ2, Abs X.K Hb fx B ρ2 σ2 H2 ∧ PostS X W Hb fx B D (dWhile fc fb m ρ2), ⟨n, ρ, A, q⟩, fun m σ2 H2 ⟨ρ2, A2, z⟩ => ?_⟩
  cases m with
  | zero => exact z.elim
  | succ m =>
    unfold dWhile at z
    refine hc Hb fx B ρ2 σ2 H2 _ A2 ?_
    cases e : fc ρ2 with
    | stuck => rw [e] at z; exact z.elim
    | err x ρ3 => rw [e] at z; exact z _
    | ok b ρ3 =>
      rw [e] at z
      cases b with
      | false => exact fun H3 l3 A3 => z σ2 H3 l3 A3
      | true =>
        intro H3 l3 A3
        refine ⟨fun σ4 H4 => ∃ ρ4, Abs X.K Hb fx B ρ4 σ4 H4 ∧ PostS X W Hb fx B D (dWhile fc fb m ρ4), fun σ4 H4 ⟨ρ4, A4, z4⟩ => ⟨m, Nat.lt_succ_self m, ρ4, A4, z4⟩, hb Hb fx B ρ3 σ2 H3 _ A3 ?_⟩
        dsimp only at z
        cases e2 : fb ρ3 with
        | next ρ4 => rw [e2] at z; exact fun σ5 H5 l5 A5 => ⟨ρ4, A5, z⟩
        | cont ρ4 => rw [e2] at z; exact fun σ5 H5 l5 A5 => ⟨ρ4, A5, z⟩
        | brk ρ4 => rw [e2] at z; exact z
        | ret r ρ4 => rw [e2] at z; exact z
        | err x ρ4 => rw [e2] at z; exact z
        | stuck => rw [e2] at z; exact z
/-! ### comprehensions -/
def wipeR (ρ : Rho) : List Nat → Rho
  | [] => ρ
  | v :: vs => (wipeR ρ vs).set v .un
theorem Abs.wipe (A : Abs K Hb fx B ρ σ H) : ∀ vs : List Nat, Abs K Hb fx B (wipeR ρ vs) (wipe σ vs) H
  | [] => A
  | v :: vs => (A.wipe vs).putUn
/-- the slots vs as they were, where they held data -/
def restore (ρ0 ρ : Rho) : List Nat → Rho
  | [] => ρ
  | v :: vs => match ρ0[v]? with
    | some (.dat d) => (restore ρ0 ρ vs).set v (.dat d)
    | _ => (restore ρ0 ρ vs).set v .un
omit [Tb] in
theorem wipe_get {σ : St} {i : Nat} : ∀ {vs : List Nat}, i ∉ vs → (L2.wipe σ vs).getD i none = σ.getD i none
  | [], _ => rfl
  | v :: vs, h => by
    simp only [List.mem_cons, not_or] at h
    show ((L2.wipe σ vs).set v none).getD i none = _
    rw [getD_set_ne h.1, wipe_get h.2]
/-- only what the known slots hold matters -/
theorem Abs.cong (A : Abs K Hb fx B ρ σ H) (hl : σ'.length = σ.length) (h : ∀ (i : Nat) (sl : Sl), ρ[i]? = some sl → sl = .un ∨ σ'.getD i none = σ.getD i none) : Abs K Hb fx B ρ σ' H := by
  have go : ∀ i p, OwnAt ρ σ' i p ↔ OwnAt ρ σ i p := fun i p => by
    refine ⟨fun ⟨sl, e1, e2, e3⟩ => ⟨sl, e1, e2, ?_⟩, fun ⟨sl, e1, e2, e3⟩ => ⟨sl, e1, e2, ?_⟩⟩
    · rcases h i sl e1 with z | z
      · subst z; cases e2
      · exact of_getD (by rw [← z]; exact getD_of e3)
    · rcases h i sl e1 with z | z
      · subst z; cases e2
      · exact of_getD (by rw [z]; exact getD_of e3)
  have ownE : Own ρ σ' = Own ρ σ := by
    funext q; exact propext ⟨fun ⟨j, z⟩ => ⟨j, (go j q).mp z⟩, fun ⟨j, z⟩ => ⟨j, (go j q).mpr z⟩⟩
  have hidE : Hid fx ρ σ' = Hid fx ρ σ := by unfold Hid; rw [ownE]
  have badE : Bad fx B ρ σ' = Bad fx B ρ σ := by unfold Bad; rw [ownE]
  refine ⟨A.len.trans hl.symm, by rw [hidE]; exact A.same, fun i sl e => ?_, fun i j q a b => A.inj i j q ((go i q).mp a) ((go j q).mp b), by rw [ownE]; exact A.fxn, A.fxd, A.fxp, A.rfi, by rw [hidE]; exact A.bpr, A.tfx, A.tab⟩
  rw [badE]
  rcases h i sl e with z | z
  · subst z; trivial
  · rw [z]; exact A.slot i sl e
omit [Tb] in
theorem wipeR_get {ρ : Rho} {i : Nat} {sl : Sl} : ∀ {vs : List Nat}, i ∈ vs → (wipeR ρ vs)[i]? = some sl → sl = .un
  | v :: vs, h, e => by
    have e : ((wipeR ρ vs).set v .un)[i]? = some sl := e
    by_cases hv : i = v
    · subst hv
      by_cases hl : i < (wipeR ρ vs).length
      · rw [List.getElem?_set_self hl] at e; cases e; rfl
      · rw [List.getElem?_eq_none (by simpa using hl)] at e; cases e
    · rw [List.getElem?_set_ne (Ne.symm hv)] at e
      rcases List.mem_cons.mp h with h | h
      · exact (hv h).elim
      · exact wipeR_get h e
omit [Tb] in
theorem wipeR_out {ρ : Rho} {i : Nat} : ∀ {vs : List Nat}, i ∉ vs → (wipeR ρ vs)[i]? = ρ[i]?
  | [], _ => rfl
  | v :: vs, h => by
    simp only [List.mem_cons, not_or] at h
    show ((wipeR ρ vs).set v .un)[i]? = _
    rw [List.getElem?_set_ne (Ne.symm h.1), wipeR_out h.2]
/-- what was to be seen is to be seen, some more new places being blocked -/
theorem Abs.carry2 {H1 H2 : Hp} {ρ1 ρ2 : Rho} {σ1 σ2 : St} (A : Abs K (hide H1 (Hid fx ρ1 σ1)) fx B' ρ2 σ2 H2) (hB : ∀ a, B' a → B a ∨ H1 a = none) : Same (hide H1 (Bad fx B ρ1 σ1)) (hide H2 (Bad fx B' ρ2 σ2)) := by
  refine hide_mono fun a o n e => ?_
  have h1 : hide H1 (Hid fx ρ1 σ1) a = some o := hide_eq.mpr ⟨fun z => n (Bad.hid z), e⟩
  obtain ⟨n2, e2⟩ := hide_eq.mp (A.same a o h1)
  refine ⟨fun z => ?_, e2⟩
  rcases z with z | z | z
  · exact n2 (.inl z)
  · rcases hB a z with z | z
    · exact n (.inr (.inl z))
    · rw [z] at e; cases e
  · exact n2 (.inr z)
/-- the block's own slots are forgotten at its end, those that held data ahead of it hold it again -/
theorem Abs.unwipe {Hb1 H1 : Hp} {ρ1 : Rho} (A1 : Abs K Hb1 fx B ρ1 σ H1) (hB : ∀ a, B' a → B a ∨ H1 a = none) (A : Abs K (hide H1 (Hid fx ρ1 σ)) fx B' ρ σ H) : ∀ vs : List Nat, Abs K (hide H1 (Hid fx ρ1 σ)) fx B' (restore ρ1 ρ vs) σ H
  | [] => A
  | v :: vs => by
    have A2 := A1.unwipe hB A vs
    unfold restore
    split
    · rename_i d e
      obtain ⟨x, ex, q⟩ := A1.slot v _ e
      have q2 := dp_mono (A2.carry2 hB) q
      have hs : σ = σ.set v (some x) := by
        have := of_getD ex
        obtain ⟨h1, h2⟩ := List.getElem?_eq_some_iff.mp this
        rw [← h2, List.set_getElem_self]
      have := A2.putDat (i := v) q2
      rw [← hs] at this
      exact this
    · exact A2.forget
omit [Tb] in
theorem own_restore {ρ1 : Rho} : ∀ {vs : List Nat} {p : Addr}, Own (restore ρ1 ρ vs) σ p → Own ρ σ p
  | [], _, h => h
  | v :: vs, p, ⟨j, sl, e1, e2, e3⟩ => by
    refine own_restore (ρ1 := ρ1) (vs := vs) ⟨j, sl, ?_, e2, e3⟩
    unfold restore at e1
    by_cases hj : j = v
    · subst hj
      split at e1
      · by_cases hl : j < (restore ρ1 ρ vs).length
        · rw [List.getElem?_set_self hl] at e1; cases e1; cases e2
        · rw [List.getElem?_eq_none (by simpa using hl)] at e1; cases e1
      · by_cases hl : j < (restore ρ1 ρ vs).length
        · rw [List.getElem?_set_self hl] at e1; cases e1; cases e2
        · rw [List.getElem?_eq_none (by simpa using hl)] at e1; cases e1
    · split at e1
      · rw [List.getElem?_set_ne (Ne.symm hj)] at e1; exact e1
      · rw [List.getElem?_set_ne (Ne.symm hj)] at e1; exact e1
omit [Tb] in
theorem own_wipe {vs : List Nat} {p : Addr} (h : Own (wipeR ρ vs) (L2.wipe σ vs) p) : Own ρ σ p := by
  obtain ⟨j, sl, e1, e2, e3⟩ := h
  by_cases hj : j ∈ vs
  · have := wipeR_get hj e1
    subst this; cases e2
  · rw [wipeR_out hj] at e1
    exact ⟨j, sl, e1, e2, (wipe_some e3).1⟩
theorem Abs.writeB {u : HO} (A : Abs K Hb fx B ρ σ H) (hB : B p) (hn : Hb p = none) (hu : H p = some u) (hm : Movb u = true) : Abs K Hb fx B ρ σ (upd H p o) := by
  obtain ⟨h1, h2⟩ := A.bpr p hB
  refine ⟨A.len, fun a u e => ?_, fun i sl e => ?_, A.inj, A.fxn, A.fxd, fun q m => ?_, A.rfi, fun q m => ?_, A.tfx, tab_upd A.tab hu hm⟩
  · obtain ⟨n, e2⟩ := hide_eq.mp (A.same a u e)
    refine hide_eq.mpr ⟨n, ?_⟩
    rw [upd_ne (fun z => by rw [z, hn] at e; cases e)]; exact e2
  · have ne : ∀ q, (sl.own = true ∨ sl.pin = true) → σ.getD i none = some (.ref q) → q ≠ p := fun q hq e2 z => by
      subst z
      exact h2 (A.holds_bad ⟨sl, e, hq, of_getD e2⟩)
    refine (A.slot i sl e).mono (fun a u n e => ⟨n, ?_⟩) (fun q z e2 => upd_ne (ne q (.inl z) e2)) (fun q z e2 _ => upd_ne (ne q (.inr z) e2))
    rw [upd_ne (fun z => n (by rw [z]; exact .inr (.inl hB)))]; exact e
  · by_cases hqp : q = p
    · rw [hqp, upd_same]; simp
    · rw [upd_ne hqp]; exact A.fxp q m
  · obtain ⟨h3, h4⟩ := A.bpr q m
    refine ⟨?_, h4⟩
    by_cases hqp : q = p
    · rw [hqp, upd_same]; simp
    · rw [upd_ne hqp]; exact h3
def dComp (vs : List Nat) (g : PyData → Rho → Option Rho) (t : Rho → Res Bool) (e : Rho → Res Rv) : List PyData → Rho → Res (List PyData)
  | [], ρ => .ok [] ρ
  | d :: ds, ρ => match g d ρ with
    | none => .stuck
    | some ρ1 => match t ρ1 with
      | .ok true ρ2 => match e ρ2 with
        | .ok r ρ3 => match frz r ρ3 with
          | some (x, ρ4) => (dComp vs g t e ds (wipeR ρ4 vs)).bind fun xs ρ5 => .ok (x :: xs) ρ5
          | none => .stuck
        | _ => .stuck
      | .ok false ρ2 => dComp vs g t e ds (wipeR ρ2 vs)
      | _ => .stuck
def dLc (vs : List Nat) (fi : Rho → Res (List PyData)) (g : PyData → Rho → Option Rho) (t : Rho → Res Bool) (e : Rho → Res Rv) (ρ : Rho) : Res Rv := (fi ρ).bind fun ds ρ1 =>
  (dComp vs g t e ds (wipeR ρ1 vs)).bind fun l ρ2 => .ok (.new l) (restore ρ1 ρ2 vs)
abbrev W0 : WX := fun _ _ _ _ => False
/-- several tests (none, or one) -/
def wpTs (X : Cx) (ifs : List Expr) : TT := fun σ H Q => ∀ (pins : List (Addr × Obj)) (s : Shared), Inv X pins σ H s →
    wpAny (model X.prog X.w) X.A (forIn ifs true fun c r => if r = true then do let ok ← isTrue c X.env (eval c X.env); pure (ForInStep.yield ok) else pure (ForInStep.yield r)) (TP X pins σ Q) X.xe s
omit [Tb] in
theorem pts_wp {ifs : List Expr} : PTs X ifs (wpTs X ifs) := ⟨fun pins s σ H Q I h => h pins s I⟩
omit [Tb] in
theorem wp_pts {ifs : List Expr} {t : TT} (h : PTs X ifs t) {Q : Bool → Hp → Prop} (q : t σ H Q) : wpTs X ifs σ H Q := fun pins s I => h.run pins s σ H Q I q
omit [Tb] in
theorem wpTs_len {ifs : List Expr} {Q : Bool → Hp → Prop} (h : wpTs X ifs σ H fun b H' => LenOk X.K H' → Q b H') : wpTs X ifs σ H Q := fun pins s I => thn (h pins s I) fun u s1 ⟨H', I', q⟩ => ⟨H', I', q (lenOk I')⟩
structure STs [Tb] (X : Cx) (W : WX) (ifs : List Expr) (f : Rho → Res Bool) : Prop where
  run : ∀ (Hb : Hp) (fx : List Addr) (B : Addr → Prop) (ρ : Rho) (σ : St) (H : Hp) (Q : Bool → Hp → Prop), Abs X.K Hb fx B ρ σ H →
    Post (fun r ρ' => ∀ H', LenOk X.K H' → Abs X.K Hb fx B ρ' σ H' → Q r H') (ErrE X W Hb fx B σ) (f ρ) → wpTs X ifs σ H Q
instance [Tb] {X : Cx} {W : WX} {ifs : List Expr} {f : Rho → Res Bool} : CoeFun (STs X W ifs f) (fun _ => ∀ (Hb : Hp) (fx : List Addr) (B : Addr → Prop) (ρ : Rho) (σ : St) (H : Hp) (Q : Bool → Hp → Prop), Abs X.K Hb fx B ρ σ H →
    Post (fun r ρ' => ∀ H', LenOk X.K H' → Abs X.K Hb fx B ρ' σ H' → Q r H') (ErrE X W Hb fx B σ) (f ρ) → wpTs X ifs σ H Q) := ⟨STs.run⟩
def dYes (ρ : Rho) : Res Bool := .ok true ρ
theorem sts_nil : STs X W [] dYes := .mk fun Hb fx B ρ σ H Q A q => wpTs_len (wp_pts pts_nil fun l => q H l A)
theorem sts_one {c : Expr} {f : Rho → Res Bool} (h : ST X W c f) : STs X W [c] f := .mk fun Hb fx B ρ σ H Q A q => wp_pts (pts_one pt_wp) (h Hb fx B ρ σ H Q A q)
def gBc (Cnd : Cx → Prop) (X : Cx) (scope : Scope) (tg : Expr) : TG := fun v σ H Q => ∀ (s : Shared) (H0 : Hp) (C : Addr) (cl : List (Str × Addr)) (fp : List Addr), Cnd (X.blk s H0 scope (compEnvC scope cl C X.env) fp) → wpG (X.blk s H0 scope (compEnvC scope cl C X.env) fp) tg v σ H Q
abbrev gB : Cx → Scope → Expr → TG := gBc fun _ => True
def tB1 (X : Cx) (scope : Scope) (ifs : List Expr) : TT := fun σ H Q => ∀ (s : Shared) (H0 : Hp) (C : Addr) (cl : List (Str × Addr)) (fp : List Addr), wpTs (X.blk s H0 scope (compEnvC scope cl C X.env) fp) ifs σ H Q
def eB (X : Cx) (scope : Scope) (elt : Expr) : TE := fun σ H Q => ∀ (s : Shared) (H0 : Hp) (C : Addr) (cl : List (Str × Addr)) (fp : List Addr), wpE (X.blk s H0 scope (compEnvC scope cl C X.env) fp) elt σ H Q
/-- what is walked, read as wi -/
def SIw [Tb] (X : Cx) (W : WX) (wi : TI) (f : Rho → Res (List PyData)) : Prop := ∀ (Hb : Hp) (fx : List Addr) (B : Addr → Prop) (ρ : Rho) (σ : St) (H : Hp) (R : It → Hp → Prop), Abs X.K Hb fx B ρ σ H →
    Post (fun ds ρ' => ∀ J H', LenOk X.K H' → Abs X.K Hb fx B ρ' σ H' → Yields (hide H' (Bad fx B ρ' σ)) J ds → ds.length ≤ sizeLine → R J H') (ErrE X W Hb fx B σ) (f ρ) → wi σ H R
theorem lc_seqC {Cnd : Cx → Prop} {elt : Expr} {wi : TI} {ifs : List Expr} {scope : Scope} {vs ix : List Nat} {fi : Rho → Res (List PyData)} {g : PyData → Rho → Option Rho} {ft : Rho → Res Bool} {fe : Rho → Res Rv} (hi : SIw X W wi fi) (hix : ∀ i ∈ ix, i ∈ vs)
    (hg : ∀ (s : Shared) (H : Hp) (C : Addr) (cl : List (Str × Addr)) (fp : List Addr), Cnd (X.blk s H scope (compEnvC scope cl C X.env) fp) → SG (X.blk s H scope (compEnvC scope cl C X.env) fp) W0 tg g ix)
    (ht : ∀ (s : Shared) (H : Hp) (C : Addr) (cl : List (Str × Addr)) (fp : List Addr), STs (X.blk s H scope (compEnvC scope cl C X.env) fp) W0 ifs ft)
    (he : ∀ (s : Shared) (H : Hp) (C : Addr) (cl : List (Str × Addr)) (fp : List Addr), SE (X.blk s H scope (compEnvC scope cl C X.env) fp) W0 elt fe)
    (A : Abs X.K Hb fx B ρ σ H) {Q : VK} (q : Post (fun r ρ' => ∀ v H', Abs X.K Hb fx B ρ' σ H' → RvOk X.K Hb fx B ρ' σ H' v r → Q v H') (ErrE X W Hb fx B σ) (dLc vs fi g ft fe ρ)) :
    tLc wi (gBc Cnd X scope tg) (tB1 X scope ifs) (eB X scope elt) vs σ H Q := by
  refine hi Hb fx B ρ σ H _ A (q.of_bind.mono (fun ds ρ1 z J H1 l1 A1 y hlen D nD => ?_) fun _ _ z => z)
  have hB : ∀ a, (B a ∨ a = D) → B a ∨ H1 a = none := fun a h => h.imp id fun e => by rw [e]; exact nD
  have bD : (hide H1 (Hid fx ρ1 σ)) D = none := by
    cases e : hide H1 (Hid fx ρ1 σ) D with
    | none => rfl
    | some o => have := (hide_eq.mp e).2; rw [nD] at this; cases this
  refine lc_it y (fun i H2 => ∃ ρ2 vs2 acc, Abs X.K (hide H1 (Hid fx ρ1 σ)) fx (fun a => B a ∨ a = D) ρ2 (L2.wipe σ vs) H2 ∧ (∀ j ∈ vs, ∀ sl, ρ2[j]? = some sl → sl = .un) ∧ H2 D = some (.lst vs2) ∧
      DqA (hide H2 (Bad fx (fun a => B a ∨ a = D) ρ2 (L2.wipe σ vs))) vs2 acc ∧ acc.length ≤ i ∧
      Post (fun l ρ' => ∀ v H', Abs X.K Hb fx B (restore ρ1 ρ' vs) σ H' → RvOk X.K Hb fx B (restore ρ1 ρ' vs) σ H' v (.new (acc ++ l)) → Q v H') (ErrE X W Hb fx B σ) (dComp vs g ft fe (ds.drop i) ρ2))
    ⟨wipeR ρ1 vs, [], [], (A1.here.wipe vs).allocB nD, fun j hj sl e => wipeR_get hj e, upd_same, .nil, Nat.le_refl _, ?_⟩ (fun i H2 _ ⟨ρ2, vs2, acc, A2, _⟩ => ?_) (fun i x H2 H3 hi ⟨ρ2, vs2, acc, A2, un2, hD, qa, hl, z2⟩ ⟨d, e, yo⟩ => ?_) (fun H2 ⟨ρ2, vs2, acc, A2, un2, hD, qa, hl, z2⟩ => ?_)
  · rw [List.drop_zero]
    exact z.of_bind.mono (fun l ρ' h v H' a b => h v H' a b) fun _ _ z => z
  · exact (hide_mono fun a o n e => ⟨fun z => n (Bad.hid z), e⟩).trans (A2.same.trans hide_sub)
  · rw [drop_cons e] at z2
    unfold dComp at z2
    -- the item
    have A3q : Abs X.K (hide H1 (Hid fx ρ1 σ)) fx (fun a => B a ∨ a = D) ρ2 (L2.wipe σ vs) H3 ∧ Dq (hide H3 (Bad fx (fun a => B a ∨ a = D) ρ2 (L2.wipe σ vs))) x d ∧ (∀ a o, H2 a = some o → H3 a = some o) := by
      rcases yo with ⟨rfl, q⟩ | ⟨T, xs, es, rfl, rfl, n, rfl, q⟩
      · exact ⟨A2, dp_mono (A2.carry2 hB) q, fun _ _ e => e⟩
      · have o : Outc H2 (Bad fx (fun a => B a ∨ a = D) ρ2 (L2.wipe σ vs)) (.dat (.tuple es)) (.ref T) (upd H2 T (.tup xs)) := .tup n (dpa_mono (A2.carry2 hB) q)
        exact ⟨(o.ok A2).1, (o.ok A2).2, grow_upd n⟩
    obtain ⟨A3, q3, g3⟩ := A3q
    have hD3 : H3 D = some (.lst vs2) := g3 _ _ hD
    have nhD : ¬ Hid fx ρ2 (L2.wipe σ vs) D := (A3.bpr D (.inr rfl)).2
    have qa3 : DqA (hide H3 (Bad fx (fun a => B a ∨ a = D) ρ2 (L2.wipe σ vs))) vs2 acc := dpa_mono (hide_mono fun a o n e => ⟨n, g3 a o e⟩) qa
    cases e1 : g d ρ2 with
    | none => rw [e1] at z2; exact z2.elim
    | some ρ3 =>
      rw [e1] at z2
      dsimp only at z2
      intro s0 H0 C0 cl0 fp0 c0
      refine hg s0 H0 C0 cl0 fp0 c0 _ fx _ ρ2 ρ3 (L2.wipe σ vs) H3 x d _ A3.here q3 e1 fun σ4 A4 s4 w4 => ?_
      have w4' : L2.wipe σ4 vs = L2.wipe σ vs := by
        rw [w4 vs hix]
        have : ∀ ws : List Nat, (∀ i ∈ ws, i ∈ vs) → L2.wipe (L2.wipe σ vs) ws = L2.wipe σ vs := fun ws => by
          induction ws with
          | nil => intro _; rfl
          | cons w ws ih =>
            intro h
            show (L2.wipe (L2.wipe σ vs) ws).set w none = _
            rw [ih fun i m => h i (List.mem_cons_of_mem _ m)]
            have hw : w ∈ vs := h w List.mem_cons_self
            have hn : ∀ {us : List Nat}, w ∈ us → (L2.wipe σ us).set w none = L2.wipe σ us := fun {us} => by
              induction us with
              | nil => intro h; cases h
              | cons u us ih2 =>
                intro h
                show ((L2.wipe σ us).set u none).set w none = (L2.wipe σ us).set u none
                rcases List.mem_cons.mp h with h | h
                · subst h; rw [List.set_set]
                · by_cases hu : u = w
                  · subst hu; rw [List.set_set]
                  · rw [List.set_comm _ _ hu, ih2 h]
            exact hn hw
        exact this vs fun _ h => h
      refine ⟨w4', ?_⟩
      intro s1 H01 C1 cl1 fp1
      refine ht s1 H01 C1 cl1 fp1 _ fx _ ρ3 σ4 H3 _ A4 ?_
      -- what holds behind the tests and the element, over the item's heap
      have back : ∀ {ρ5 : Rho} {H5 : Hp}, Abs X.K (hide H3 (Hid fx ρ2 (L2.wipe σ vs))) fx (fun a => B a ∨ a = D) ρ5 σ4 H5 → H5 D = some (.lst vs2) ∧ DqA (hide H5 (Bad fx (fun a => B a ∨ a = D) ρ5 σ4)) vs2 acc := fun {ρ5 H5} A5 =>
        ⟨A5.base_keep (hide_eq.mpr ⟨nhD, hD3⟩), dpa_mono A5.carry qa3⟩
      have wsub : ∀ {ρ6 : Rho} {a : Addr}, Bad fx (fun a => B a ∨ a = D) (wipeR ρ6 vs) (L2.wipe σ vs) a → Bad fx (fun a => B a ∨ a = D) ρ6 σ4 a := fun {ρ6 a} h => by
        rw [← w4'] at h
        rcases h with h | h | h
        · exact .inl h
        · exact .inr (.inl h)
        · exact .inr (.inr (own_wipe h))
      cases e2 : ft ρ3 with
      | stuck => rw [e2] at z2; exact z2.elim
      | err x5 ρ5 => rw [e2] at z2; exact z2.elim
      | ok b ρ4 =>
        rw [e2] at z2
        intro H5 l5 A5
        cases b with
        | false =>
          show ∃ ρ2 vs2 acc, _
          obtain ⟨b1, b2⟩ := back A5
          have A6 := A5.wipe vs
          rw [w4'] at A6
          refine ⟨wipeR ρ4 vs, vs2, acc, A6.rebase A3.same, fun j hj sl e => wipeR_get hj e, b1, dpa_mono (hide_mono fun a o n e => ⟨fun z => n (wsub z), e⟩) b2, Nat.le_succ_of_le hl, z2⟩
        | true =>
          dsimp only at z2
          intro s2 H02 C2 cl2 fp2
          refine he s2 H02 C2 cl2 fp2 _ fx _ ρ4 σ4 H5 _ A5 ?_
          cases e3 : fe ρ4 with
          | stuck => rw [e3] at z2; exact z2.elim
          | err x5 ρ5 => rw [e3] at z2; exact z2.elim
          | ok r ρ5 =>
            rw [e3] at z2
            dsimp only at z2
            intro v H6 l6 A6 q6
            cases e4 : frz r ρ5 with
            | none => rw [e4] at z2; exact z2.elim
            | some xx =>
              obtain ⟨xd, ρ6⟩ := xx
              rw [e4] at z2
              dsimp only at z2
              obtain ⟨A7, q7, s7⟩ := frz_ok A6 q6 e4
              obtain ⟨b1, b2⟩ := back A7
              refine ⟨vs2, b1, ?_, ?_⟩
              · rw [dpa_len qa]; omega
              · have A8 := A7.wipe vs
                rw [w4'] at A8
                have A9 := (A8.rebase A3.same).writeB (o := .lst (vs2 ++ [v])) (.inr rfl) bD b1 rfl
                refine ⟨wipeR ρ6 vs, vs2 ++ [v], acc ++ [xd], A9, fun j hj sl e => wipeR_get hj e, upd_same, ?_, ?_, ?_⟩
                · have m : Same (hide H6 (Bad fx (fun a => B a ∨ a = D) ρ6 σ4)) (hide (upd H6 D (.lst (vs2 ++ [v]))) (Bad fx (fun a => B a ∨ a = D) (wipeR ρ6 vs) (L2.wipe σ vs))) := hide_mono fun a o n e => by
                    refine ⟨fun z => n (wsub z), ?_⟩
                    rw [upd_ne (fun z => n (by rw [z]; exact .inr (.inl (.inr rfl))))]; exact e
                  exact dpa_app (dpa_mono m b2) (.cons (dp_mono m q7) .nil)
                · rw [List.length_append, List.length_singleton]; omega
                · refine z2.of_bind.mono (fun l ρ' h v H' a b => h v H' a ?_) fun _ _ z => z
                  rw [List.append_assoc] at b
                  exact b
  · rw [List.drop_length] at z2
    have z2 : ∀ v H', Abs X.K Hb fx B (restore ρ1 ρ2 vs) σ H' → RvOk X.K Hb fx B (restore ρ1 ρ2 vs) σ H' v (.new (acc ++ [])) → Q v H' := z2
    rw [List.append_nil] at z2
    have A3 : Abs X.K (hide H1 (Hid fx ρ1 σ)) fx (fun a => B a ∨ a = D) ρ2 σ H2 := A2.cong (wipe_length σ vs).symm fun i sl e => by
      by_cases hm : i ∈ vs
      · exact .inl (un2 i hm sl e)
      · exact .inr (wipe_get hm).symm
    have A4 := A1.unwipe hB A3 vs
    have A5 := A4.lessB (B' := B) fun p h => .inl h
    obtain ⟨h1, h2⟩ := A4.bpr D (.inr rfl)
    refine z2 (.ref D) H2 (A5.rebase A1.same) ⟨D, vs2, rfl, hD, fun z => ?_, dpa_mono (hide_mono fun a o n e => ⟨fun z => n ?_, e⟩) qa, ?_, A4.rebase A1.same⟩
    · rcases z with z | z | z
      · exact h2 (.inl z)
      · exact (A1.bpr D z).1 nD
      · exact h2 (.inr z)
    · rcases z with (z | z | z) | z
      · exact .inl z
      · exact .inr (.inl (.inl z))
      · obtain ⟨j, sl, e1, e2, e3⟩ := own_restore z
        refine .inr (.inr ⟨j, sl, e1, e2, ?_⟩)
        have hj : j ∉ vs := fun m => by have := un2 j m sl e1; subst this; cases e2
        exact of_getD ((wipe_get hj).trans (getD_of e3))
      · exact .inr (.inl (.inr z))
    · cases e : Hb D with
      | none => rfl
      | some o => have := A1.base_keep e; rw [nD] at this; cases this
end
end R
namespace R
open PySem PySem.Spec L2
open PyProof.Rows hiding St
def Sl.lst : Sl → Option (List D)
  | .ls l => some l
  | .rf _ l => some l
  | _ => none
def Sl.put (l : List D) : Sl → Sl
  | .ls _ => .ls l
  | .rf k _ => .rf k l
  | s => s
def lstAt (ρ : Rho) (i : Nat) : Option (List D) := (ρ[i]?).bind Sl.lst
def putAt (ρ : Rho) (i : Nat) (l : List D) : Rho := match ρ[i]? with
  | some s => ρ.set i (s.put l)
  | none => ρ
section
variable [Tb] {K : PySem.W.Frag} {Hb Hb' H H' : Hp} {fx : List Addr} {B B' : Addr → Prop} {ρ ρ' : Rho} {σ σ' : St} {p : Addr} {o : HO} {X : Cx} {W : WX} {S : Addr → Prop} {pos : Pos} {D : Ends} {tg : Expr}
theorem se_lc {elt iter : Expr} {ifs : List Expr} {scope : Scope} {own : List (Str × Nat)} {ix : List Nat} {fi : Rho → Res (List PyData)} {g : PyData → Rho → Option Rho} {ft : Rho → Res Bool} {fe : Rho → Res Rv} (hc : X.calm = true) (hN : X.N.Nodup) (hi : SI X W tg iter fi) (ok : BlkOk X.N X.env.scope scope own) (hix : ∀ i ∈ ix, i ∈ own.map (·.2))
    (hg : ∀ (s : Shared) (H : Hp) (C : Addr) (cl : List (Str × Addr)) (fp : List Addr), SG (X.blk s H scope (compEnvC scope cl C X.env) fp) W0 tg g ix)
    (ht : ∀ (s : Shared) (H : Hp) (C : Addr) (cl : List (Str × Addr)) (fp : List Addr), STs (X.blk s H scope (compEnvC scope cl C X.env) fp) W0 ifs ft)
    (he : ∀ (s : Shared) (H : Hp) (C : Addr) (cl : List (Str × Addr)) (fp : List Addr), SE (X.blk s H scope (compEnvC scope cl C X.env) fp) W0 elt fe) (hs : ∀ x, foldedSetIterable iter X.env x = pure x := by intro _; rfl) :
    SE X W (.ListComp elt [⟨tg, iter, ifs, 0⟩] scope pos) (dLc (own.map (·.2)) fi g ft fe) := .mk fun Hb fx B ρ σ H Q A q =>
  wpE_len (wp_pe (pe_lc hc hN pi_wp ok (g := gB X scope tg) (tt := tB1 X scope ifs) (te := eB X scope elt) (fun s H C cl fp => ⟨fun pins s' σ H' v u Q I r h => h s H C cl fp trivial pins s' u I r⟩) (fun s H C cl fp => ⟨fun pins s' σ H' Q I h => h s H C cl fp pins s' I⟩) (fun s H C cl fp => ⟨fun pins s' σ H' Q I h => h s H C cl fp pins s' I⟩) hs)
    (lc_seqC hi.run hix (fun s H C cl fp _ => hg s H C cl fp) ht he A q.len))
theorem ss_setLc {m : Bool} {i : Nat} {y : Str} {py spos : Pos} {elt iter : Expr} {ifs : List Expr} {scope : Scope} {own : List (Str × Nat)} {ix : List Nat} {fi : Rho → Res (List PyData)} {g : PyData → Rho → Option Rho} {ft : Rho → Res Bool} {fe : Rho → Res Rv} (hc : X.calm = true) (hN : X.N.Nodup) (hy : X.N[i]? = some y) (hyl : X.env.scope.names.lookup y = some .local)
    (hsw : swapsWith (.ListComp elt [⟨tg, iter, ifs, 0⟩] scope pos) (some (.Name y py)) spos.line X.env = pure true) (hi : SI X W tg iter fi) (ok : BlkOk X.N X.env.scope scope own) (hix : ∀ i ∈ ix, i ∈ own.map (·.2))
    (hg : ∀ (s : Shared) (H : Hp) (C : Addr) (cl : List (Str × Addr)) (fp : List Addr), SG (X.blk s H scope (compEnvC scope cl C X.env) fp) W0 tg g ix)
    (ht : ∀ (s : Shared) (H : Hp) (C : Addr) (cl : List (Str × Addr)) (fp : List Addr), STs (X.blk s H scope (compEnvC scope cl C X.env) fp) W0 ifs ft)
    (he : ∀ (s : Shared) (H : Hp) (C : Addr) (cl : List (Str × Addr)) (fp : List Addr), SE (X.blk s H scope (compEnvC scope cl C X.env) fp) W0 elt fe) (hs : ∀ x, foldedSetIterable iter X.env x = pure x := by intro _; rfl) :
    SS X W (.Assign [.Name y py] (.ListComp elt [⟨tg, iter, ifs, 0⟩] scope pos) spos) (dSet m i (dLc (own.map (·.2)) fi g ft fe)) := .mk fun Hb fx B ρ σ H D A q => by
  refine wpS_len (wp_ps (ps_setLc hc hN hy hyl hsw pi_wp ok (g := gB X scope tg) (tt := tB1 X scope ifs) (te := eB X scope elt) (fun s H C cl fp => ⟨fun pins s' σ H' v u Q I r h => h s H C cl fp trivial pins s' u I r⟩) (fun s H C cl fp => ⟨fun pins s' σ H' Q I h => h s H C cl fp pins s' I⟩) (fun s H C cl fp => ⟨fun pins s' σ H' Q I h => h s H C cl fp pins s' I⟩) hs)
    (lc_seqC (Q := fun x H1 => LenOk X.K H1 → D.nx (σ.set i (some x)) H1) hi.run hix (fun s H C cl fp _ => hg s H C cl fp) ht he A (q.of_ou.mono (fun r ρ1 z v H1 A1 q1 l1 => ?_) fun _ _ z => z)))
  split at z
  · rename_i ρ2 e2
    exact z _ H1 l1 (setR_ok A1 q1 e2)
  · exact z.elim
/-! ### changes of lists -/
theorem Abs.lstAt {i : Nat} {l : List PyData} {v : V} (A : Abs K Hb fx B ρ σ H) (h : R.lstAt ρ i = some l) (hv : σ[i]? = some (some v)) : ∃ p vs, v = .ref p ∧ H p = some (.lst vs) ∧ DqA (hide H (Bad fx B ρ σ)) vs l := by
  unfold R.lstAt at h
  cases e : ρ[i]? with
  | none => rw [e] at h; cases h
  | some s =>
    rw [e] at h
    cases s with
    | ls l' =>
      cases h
      obtain ⟨p, vs, e4, e5, a⟩ := A.slot i _ e
      rw [getD_of hv] at e4; cases e4
      exact ⟨p, vs, rfl, e5, a⟩
    | rf k l' =>
      cases h
      obtain ⟨p, vs, e4, _, e5, a⟩ := A.slot i _ e
      rw [getD_of hv] at e4; cases e4
      exact ⟨p, vs, rfl, e5, a⟩
    | un => cases h
    | dat d => cases h
    | dk k => cases h
    | scr k => cases h
    | fn k => cases h
    | pv k => cases h
theorem Abs.at_some {i : Nat} {l : List PyData} (A : Abs K Hb fx B ρ σ H) (h : R.lstAt ρ i = some l) : ∃ p, σ[i]? = some (some (.ref p)) := by
  unfold R.lstAt at h
  cases e : ρ[i]? with
  | none => rw [e] at h; cases h
  | some s =>
    rw [e] at h
    cases s with
    | ls l' => obtain ⟨p, vs, e4, _⟩ := A.slot i _ e; exact ⟨p, of_getD e4⟩
    | rf k l' => obtain ⟨p, vs, e4, _⟩ := A.slot i _ e; exact ⟨p, of_getD e4⟩
    | un => cases h
    | dat d => cases h
    | dk k => cases h
    | scr k => cases h
    | fn k => cases h
    | pv k => cases h
theorem Abs.putAt {i : Nat} {l l' : List PyData} {vs' : List V} (A : Abs K Hb fx B ρ σ H) (h : R.lstAt ρ i = some l) (hv : σ[i]? = some (some (.ref p))) (q : DqA (hide H (Bad fx B ρ σ)) vs' l') :
    Abs K Hb fx B (R.putAt ρ i l') σ (upd H p (.lst vs')) := by
  unfold R.lstAt at h
  unfold R.putAt
  cases e : ρ[i]? with
  | none => rw [e] at h; cases h
  | some s =>
    rw [e] at h
    dsimp only
    have hold : Holds ρ σ i p := ⟨s, e, (by cases s <;> first | exact .inl rfl | exact .inr rfl | (cases h; done)), hv⟩
    have hb : Hid fx ρ σ p := A.holds_bad hold
    have q2 : DqA (hide (upd H p (.lst vs')) (Bad fx B ρ σ)) vs' l' := dpa_mono (hide_mono fun a o n e => ⟨n, by rw [upd_ne (fun z => n (by rw [z]; exact Bad.hid hb))]; exact e⟩) q
    cases s with
    | ls l0 => exact A.write e hv rfl ⟨p, vs', rfl, upd_same, q2⟩
    | rf k l0 =>
      obtain ⟨p', vs, e4, e5, _⟩ := A.slot i _ e
      rw [getD_of hv] at e4; cases e4
      exact A.write e hv (by simp [Sl.like, Sl.put]) ⟨p, vs', rfl, e5, upd_same, q2⟩
    | un => cases h
    | dat d => cases h
    | dk k => cases h
    | scr k => cases h
    | fn k => cases h
    | pv k => cases h
/-- xs.append(e) -/
def dApp (i : Nat) (f : Rho → Res Rv) (ρ : Rho) : Ou := match lstAt ρ i with
  | none => .stuck
  | some _ => (f ρ).ou fun r ρ1 => match frz r ρ1 with
    | some (d, ρ2) => match lstAt ρ2 i with
      | some l => if l.length < 16777216 then .next (putAt ρ2 i (l ++ [d])) else .stuck
      | none => .stuck
    | none => .stuck
theorem ss_app {i : Nat} {o e : Expr} {f : Rho → Res Rv} {apos cpos : Pos} (ho : PE X o (tVar i)) (h : SE X W e f) (pe : ∀ {to : TE} {ta : TA}, PE X o to → PA X [e] ta → PE X (.Call (.Attribute o "append" apos) [e] [] cpos) (tBM X.K "list" rAppend to ta))
    (hst : starEach [e] X.env = (false, eval e X.env) :: starEach [] X.env := by exact ste rfl) (hs : swapsWith (.Call (.Attribute o "append" apos) [e] [] cpos) none pos.line X.env = pure false := by rfl) :
    SS X W (.Expr (.Call (.Attribute o "append" apos) [e] [] cpos) pos) (dApp i f) := .mk fun Hb fx B ρ σ H D A q => by
  unfold dApp at q
  cases e1 : lstAt ρ i with
  | none => rw [e1] at q; exact q.elim
  | some l0 =>
    rw [e1] at q
    dsimp only at q
    obtain ⟨p, hv⟩ := A.at_some e1
    obtain ⟨p', vs, e2, hp, _⟩ := A.lstAt e1 hv
    cases e2
    refine wpS_len (wp_ps (ps_expr (pe ho (pa_cons pe_wp pa_nil hst)) hs) ⟨.ref p, hv, .inl ⟨rfl, vs, SqL.of hp⟩, ?_⟩)
    refine h Hb fx B ρ σ H _ A (q.of_ou.mono (fun r ρ1 z v H1 l1 A1 q1 => ?_) fun _ _ z => z)
    cases e3 : frz r ρ1 with
    | none => simp only [e3] at z; exact z.elim
    | some x =>
      obtain ⟨d, ρ2⟩ := x
      simp only [e3] at z
      obtain ⟨A2, q2, _⟩ := frz_ok A1 q1 e3
      cases e4 : lstAt ρ2 i with
      | none => simp only [e4] at z; exact z.elim
      | some l =>
        simp only [e4] at z
        split at z
        · rename_i hl
          obtain ⟨p', ws, e5, hp2, a2⟩ := A2.lstAt e4 hv
          cases e5
          exact ⟨p, ws, v, rfl, rfl, hp2, by rw [dpa_len a2, sizeLine_eq]; exact hl, fun l2 => z σ _ l2 (A2.putAt e4 hv (dpa_app a2 (.cons q2 .nil)))⟩
        · exact z.elim
/-- xs[i] = e -/
def dSetIx (i : Nat) (fi f : Rho → Res Rv) (ρ : Rho) : Ou := (f ρ).ou fun r ρ1 => match frz r ρ1 with
  | some (d, ρ2) => match lstAt ρ2 i with
    | none => .stuck
    | some _ => (fi ρ2).ou fun ri ρ3 => match rd ρ3 ri, lstAt ρ3 i with
      | some (.int k), some l => match ixN l.length k with
        | some j => .next (putAt ρ3 i (l.set j d))
        | none => .stuck
      | _, _ => .stuck
  | none => .stuck
theorem ss_setIx {i : Nat} {o ei e : Expr} {fi f : Rho → Res Rv} {p2 : Pos} (ho : PE X o (tVar i)) (hi : SE X W ei fi) (h : SE X W e f)
    (ha : ∀ v, assign (.Subscript o ei p2) X.env v = (do
      let ov ← holding [v] (eval o X.env)
      let iv ← holding [v, ov] (eval ei X.env)
      standAt p2
      holding [v, ov, iv] (setItem ov iv v)
      release [v, ov, iv] []) := by intro _; rfl) (hs : swapsWithSole [.Subscript o ei p2] e pos.line X.env = pure false := by rfl) (hw : swappedStores [.Subscript o ei p2] e X.env = pure none := by rfl)
    (h1 : (assignEach [.Subscript o ei p2] X.env).map (·.2) = [assign (.Subscript o ei p2) X.env] := by rfl) : SS X W (.Assign [.Subscript o ei p2] e pos) (dSetIx i fi f) := .mk fun Hb fx B ρ σ H D A q => by
  refine wpS_len (wp_ps (ps_asg pe_wp (pg_sub ho pe_wp set_list ha) hs hw h1) (h Hb fx B ρ σ H _ A (q.of_ou.mono (fun r ρ1 z v H1 l1 A1 q1 => ?_) fun _ _ z => z)))
  cases e3 : frz r ρ1 with
  | none => simp only [e3] at z; exact z.elim
  | some x =>
    obtain ⟨d, ρ2⟩ := x
    simp only [e3] at z
    obtain ⟨A2, q2, _⟩ := frz_ok A1 q1 e3
    cases e5 : lstAt ρ2 i with
    | none => simp only [e5] at z; exact z.elim
    | some l0 =>
      simp only [e5] at z
      obtain ⟨p, hv⟩ := A2.at_some e5
      refine ⟨.ref p, hv, hi _ fx B ρ2 σ H1 _ A2.here (z.of_ou.mono (fun ri ρ3 z3 iv H3 l3 A3 q3 => ?_) fun _ _ z => z.rebase A2.same)⟩
      have q4 := dp_mono A3.carry q2
      have A3' := A3.rebase A2.same
      cases e6 : rd ρ3 ri with
      | none => simp only [e6] at z3; exact z3.elim
      | some di =>
        cases e7 : lstAt ρ3 i with
        | none => simp only [e6, e7] at z3; exact z3.elim
        | some l =>
          cases di with
          | int k =>
            simp only [e6, e7] at z3
            cases e8 : ixN l.length k with
            | none => simp only [e8] at z3; exact z3.elim
            | some j =>
              simp only [e8] at z3
              obtain ⟨p', ws, e9, hp2, a2⟩ := A3.lstAt e7 hv
              cases e9
              exact ⟨p, ws, k, j, rfl, (q3.lo A3 e6).int, hp2, by rw [dpa_len a2]; exact e8, fun l2 => z3 σ _ l2 (A3'.putAt e7 hv (dpa_set q4 j a2))⟩
          | none => simp only [e6, e7] at z3; exact z3.elim
          | bool _ => simp only [e6, e7] at z3; exact z3.elim
          | str _ => simp only [e6, e7] at z3; exact z3.elim
          | list _ => simp only [e6, e7] at z3; exact z3.elim
          | tuple _ => simp only [e6, e7] at z3; exact z3.elim
          | dict _ => simp only [e6, e7] at z3; exact z3.elim
end
end R
namespace R
open PySem PySem.Spec L2
open PyProof.Rows hiding St
/-! ### defs -/
inductive FRes where
  | ok (r : Rv) (l : List D) | err (x : Exn) (l : List D) | stuck
def argK : Sl → Bool
  | .dat _ => true
  | .rf _ _ => true
  | .scr _ => true
  | .pv _ => true
  | _ => false
def rfOf : Sl → Option (List D)
  | .rf _ l => some l
  | _ => none
def outOf (ρ : Rho) : Option (List D) := ρ.findSome? rfOf
def RvF (H H' : Hp) (S : Addr → Prop) (v : V) : Rv → Prop
  | .dat d => Dq (hide H' S) v d
  | .new l => ∃ p vs, v = .ref p ∧ H p = none ∧ H' p = some (.lst vs) ∧ DqA (hide H' fun a => S a ∨ a = p) vs l
  | .newk kd => ∃ p kv, v = .ref p ∧ H p = none ∧ H' p = some (.dK kv) ∧ DpKV (hide H' fun a => S a ∨ a = p) kv kd
  | .bor _ => False
def FxOk (H' : Hp) (fx : List Addr) (S : Addr → Prop) (l : List D) : Prop := ∀ p ∈ fx, ∃ ws, H' p = some (.lst ws) ∧ DqA (hide H' S) ws l
def PostF [Tb] (K : PySem.W.Frag) (mg : Str → Option Value) (H : Hp) (fl : List Addr) (B : Addr → Prop) (Q : VK) (E : XK) : FRes → Prop
  | .ok r l => ∀ v H', LenOk K H' → Same (hide H (· ∈ fl ++ tA)) (hide H' (· ∈ fl ++ tA)) → Tabl H' → FxOk H' fl (fun a => a ∈ fl ++ tA ∨ B a) l → RvF H H' (fun a => a ∈ fl ++ tA ∨ B a) v r → Q v H'
  | .err x l => ∀ H' C dd, LenOk K H' → Same (hide H (· ∈ fl ++ tA)) (hide H' (· ∈ fl ++ tA)) → Tabl H' → FxOk H' fl (fun a => a ∈ fl ++ tA ∨ B a) l → ExcAt mg H' x C dd → E (.ref C) dd H'
  | .stuck => False
/-- the promise of a def that does what g says of data -/
def spD [Tb] (K : PySem.W.Frag) (mg : Str → Option Value) (np : Nat) (g : List Sl → FRes) : Sp := fun vs H Q E => ∃ (fl : List Addr) (B : Addr → Prop) (args : List Sl), vs.length = np ∧ args.length = np ∧
  (∀ (i : Nat) (sl : Sl), args[i]? = some sl → argK sl = true ∧ SlotOk K H (fl ++ tA) (fun a => a ∈ fl ++ tA ∨ B a) vs[i]? sl) ∧ fl.length ≤ 1 ∧ (fl = [] ∨ (outOf args).isSome = true) ∧ (∀ p ∈ fl, ∃ ws, H p = some (.lst ws)) ∧ (∀ p, B p → H p ≠ none ∧ p ∉ fl ++ tA) ∧
  (∀ (i j k : Nat) (l m : List D), args[i]? = some (Sl.rf k l) → args[j]? = some (Sl.rf k m) → i = j) ∧ Tabl H ∧ PostF K mg H fl B Q E (g args)
def retRv (ρ : Rho) : Rv → Option Rv
  | .dat d => some (.dat d)
  | .new l => some (.new l)
  | .newk k => some (.newk k)
  | .bor i => match ρ[i]? with
    | some (.ls l) => some (.new l)
    | some (.dk k) => some (.newk k)
    | _ => none
def dFin (args : List Sl) : Ou → FRes
  | .ret r ρ => match retRv ρ r with
    | some r' => if (outOf args).isSome = (outOf ρ).isSome then .ok r' ((outOf ρ).getD []) else .stuck
    | none => .stuck
  | .next ρ => if (outOf args).isSome = (outOf ρ).isSome then .ok (.dat .none) ((outOf ρ).getD []) else .stuck
  | .err x ρ => if (outOf args).isSome = (outOf ρ).isSome then .err x ((outOf ρ).getD []) else .stuck
  | _ => .stuck
def dFun (n : Nat) (fb : Rho → Ou) (args : List Sl) : FRes := dFin args (fb (args ++ List.replicate (n - args.length) .un))
abbrev WofE (E : XK) : WX := fun cls d _ H => E cls d H
theorem outOf_at {ρ : Rho} {l : List D} (h : outOf ρ = some l) : ∃ (i k : Nat), ρ[i]? = some (Sl.rf k l) := by
  unfold outOf at h
  obtain ⟨a, h1, h2⟩ := List.exists_of_findSome?_eq_some h
  obtain ⟨i, hi⟩ := List.getElem?_of_mem h1
  cases a with
  | rf k l' => cases h2; exact ⟨i, k, hi⟩
  | un => cases h2
  | dat d => cases h2
  | ls l => cases h2
  | dk k => cases h2
  | scr k => cases h2
  | fn k => cases h2
  | pv k => cases h2
section
variable [T : Tb] {P : Program} {w : World} {K : PySem.W.Frag} {mg : Str → Option Value} {base : Heap}
theorem abs_start {H : Hp} {fl fx : List Addr} {B : Addr → Prop} {args : List Sl} {vs : List V} {N : List Str} (hv : vs.length ≤ N.length) (ha : args.length = vs.length)
    (hs : ∀ (i : Nat) (sl : Sl), args[i]? = some sl → argK sl = true ∧ SlotOk K H fx (fun a => a ∈ fx ∨ B a) vs[i]? sl) (hfx : fx = fl ++ tA) (h1 : fl.length ≤ 1) (hp : ∀ p ∈ fl, ∃ ws, H p = some (.lst ws)) (hB : ∀ p, B p → H p ≠ none ∧ p ∉ fx) (ht : Tabl H)
    (hr : ∀ (i j k : Nat) (l m : List D), args[i]? = some (Sl.rf k l) → args[j]? = some (Sl.rf k m) → i = j) :
    Abs K (hide H (· ∈ fx)) fx B (args ++ List.replicate (N.length - args.length) .un) (start N vs) H := by
  have key : ∀ (i : Nat) (sl : Sl), (args ++ List.replicate (N.length - args.length) Sl.un)[i]? = some sl → args[i]? = some sl ∨ sl = .un := fun i sl e => by
    by_cases hi : i < args.length
    · rw [List.getElem?_append_left hi] at e; exact .inl e
    · rw [List.getElem?_append_right (by omega)] at e
      rw [List.getElem?_replicate] at e
      split at e
      · cases e; exact .inr rfl
      · cases e
  have noown : ∀ i p, ¬ OwnAt (args ++ List.replicate (N.length - args.length) Sl.un) (start N vs) i p := fun i p ⟨sl, e1, e2, _⟩ => by
    rcases key i sl e1 with e | e
    · have := (hs i sl e).1
      cases sl <;> first | (cases e2; done) | (cases this; done)
    · subst e; cases e2
  have hpx : ∀ p ∈ fx, H p ≠ none := fun p m z => by
    rw [hfx] at m
    rcases List.mem_append.mp m with m | m
    · obtain ⟨ws, e⟩ := hp p m; rw [e] at z; cases z
    · obtain ⟨ps, e⟩ := tab_at ht m; rw [e] at z; cases z
  refine ⟨?_, ?_, fun i sl e => ?_, fun i j p h => (noown i p h).elim, fun p ⟨i, h⟩ => (noown i p h).elim, ?_, hpx, fun i j k l m e1 e2 => ?_, fun p h => ⟨(hB p h).1, fun z => ?_⟩, fun p m => by rw [hfx]; exact List.mem_append_right _ m, ht⟩
  · unfold L2.start
    simp [ha]
  · refine hide_mono fun a o n e => ⟨fun z => ?_, e⟩
    rcases z with z | ⟨i, z⟩
    · exact n z
    · exact noown i a z
  · rcases key i sl e with e1 | e1
    · obtain ⟨h1, h2⟩ := hs i sl e1
      have hi : i < vs.length := by rw [← ha]; exact (List.getElem?_eq_some_iff.mp e1).1
      have e2 : (L2.start N vs).getD i none = vs[i]? := by
        unfold L2.start
        rw [List.getD_eq_getElem?_getD, List.getElem?_append_left (by simpa using hi), List.getElem?_map, List.getElem?_eq_getElem hi]
        rfl
      rw [e2]
      refine h2.mono (fun a o n e => ⟨fun z => n ?_, e⟩) (fun _ _ _ => rfl) (fun _ _ _ _ => rfl)
      rcases z with z | z | ⟨j, z⟩
      · exact .inl z
      · exact .inr z
      · exact (noown j a z).elim
    · subst e1; trivial
  · rw [hfx]
    refine List.nodup_append.mpr ⟨?_, T.nd, fun a ha b hb e => ?_⟩
    · match fl, h1 with
      | [], _ => exact List.nodup_nil
      | [a], _ => simp
    · obtain ⟨ws, e1⟩ := hp a ha
      obtain ⟨ps, e2⟩ := tab_at ht hb
      rw [← e, e1] at e2; cases e2
  · rcases key i _ e1 with e1 | e1
    · rcases key j _ e2 with e2 | e2
      · exact hr i j k l m e1 e2
      · cases e2
    · cases e1
  · rcases z with z | ⟨j, z⟩
    · exact (hB p h).2 z
    · exact noown j p z
/-- the code object of the def at f -/
def CodeOf (K : PySem.W.Frag) (x qual : Str) (st : Stmt) (f : Addr) (cdv : Value) : Prop := ∃ (oc : Value) (od : Option Addr) (kV doc pm : Value) (an : Option Addr) (ct : Value) (osl : Array (Option Value)),
  K.lookup f = some ⟨oc, od, .func (PySem.W.fnOf x qual (defArgs st) (defBody st) (defScope st) .none kV doc pm an cdv ct), osl⟩
/-- a def of the text does what its body says of data -/
theorem fn_okC {x qual : Str} {st : Stmt} {f : Addr} {fd : FuncData} {N ps : List Str} {k : Nat} {fb : Rho → Ou} (F : Fun K x qual st f fd) (S : FnScope N ps (defScope st))
    (hbody : ∀ (cdv : Value) (A : Around) (outer : List Env) (s : Shared) (H : Hp) (E : XK), CodeOf K x qual st f cdv → Room k (A.deeper (envOfC qual (defScope st) s.heap.objs.size f cdv)) → SSs (cxOf (L2N.CX P w) P w K mg base N qual (defScope st) f cdv A outer s H E) (WofE E) (defBody st) fb) :
    FnOk P w K mg base (L2N.CX P w) (k + 1) f fd ps (spD K mg ps.length (dFun N.length fb)) := by
  have hN : ps.length ≤ N.length := by
    have := congrArg List.length S.pre
    rw [List.length_take] at this
    omega
  obtain ⟨oc0, od0, kV0, doc0, pm0, an0, cdv, ct0, osl0, rfl, lk0, hcd0⟩ := F.ex
  refine fn_of lk0 hcd0 S (fun vs H Q E ⟨fl, B, args, h, _⟩ => h) fun A outer s H vs Q E hr ⟨fl, B, args, hv, ha, hs, h1, ho, hp, hB, hrf, ht, post⟩ => ⟨_, pss_wp, ?_⟩
  obtain ⟨fx, hfx⟩ : ∃ fx, fx = fl ++ tA := ⟨_, rfl⟩
  rw [← hfx] at hs hB
  have A0 : Abs K (hide H (· ∈ fx)) fx B (args ++ List.replicate (N.length - args.length) .un) (start N vs) H := abs_start (by omega) (by omega) hs hfx h1 hp hB ht hrf
  refine wpSs_len (hbody cdv A outer s H E ⟨_, _, _, _, _, _, _, _, lk0⟩ hr _ fx B _ (start N vs) H _ A0 ?_)
  unfold dFun at post
  -- behind the body
  have same : ∀ {ρ' : Rho} {σ' : L2.St} {H' : Hp}, Abs K (hide H (· ∈ fx)) fx B ρ' σ' H' → Same (hide H (· ∈ fx)) (hide H' (· ∈ fx)) := fun {ρ' σ' H'} A' =>
    A'.same.trans (hide_mono fun a o n e => ⟨fun z => n (.inl z), e⟩)
  have sub : ∀ {ρ' : Rho} {σ' : L2.St} {H' : Hp} {T : Addr → Prop}, Same (hide H' fun a => Bad fx B ρ' σ' a ∨ T a) (hide H' fun a => (a ∈ fx ∨ B a) ∨ T a) := fun {ρ' σ' H' T} =>
    hide_mono fun a o n e => ⟨fun z => n (z.imp (fun z => z.elim .inl fun z => .inr (.inl z)) id), e⟩
  have sub0 : ∀ {ρ' : Rho} {σ' : L2.St} {H' : Hp}, Same (hide H' (Bad fx B ρ' σ')) (hide H' fun a => a ∈ fx ∨ B a) := fun {ρ' σ' H'} =>
    hide_mono fun a o n e => ⟨fun z => n (z.elim .inl fun z => .inr (.inl z)), e⟩
  have fxo : ∀ {ρ' : Rho} {σ' : L2.St} {H' : Hp}, Abs K (hide H (· ∈ fx)) fx B ρ' σ' H' → (outOf args).isSome = (outOf ρ').isSome → FxOk H' fl (fun a => a ∈ fx ∨ B a) ((outOf ρ').getD []) := fun {ρ' σ' H'} A' e p hp' => by
    have hso : (outOf args).isSome = true := ho.resolve_left fun z => by rw [z] at hp'; cases hp'
    rw [hso] at e
    cases e2 : outOf ρ' with
    | none => rw [e2] at e; cases e
    | some l =>
      obtain ⟨i, k, e3⟩ := outOf_at e2
      obtain ⟨p', ws, e4, e5, e6, a⟩ := A'.slot i _ e3
      have : p' = p := by
        have m := List.mem_of_getElem? e5
        rw [hfx] at m
        rcases List.mem_append.mp m with m | m
        · match fl, h1, m, hp' with
          | [a], _, m, hp' => rw [List.mem_singleton.mp m, List.mem_singleton.mp hp']
        · obtain ⟨ps, e7⟩ := tab_at A'.tab m
          rw [e6] at e7; cases e7
      subst this
      exact ⟨ws, e6, dpa_mono sub0 a⟩
  have fresh : ∀ {q : Addr}, hide H (· ∈ fx) q = none → q ∉ fx → H q = none := fun {q} e n => by
    cases z : H q with
    | none => rfl
    | some o => have : hide H (· ∈ fx) q = some o := hide_eq.mpr ⟨n, z⟩; rw [e] at this; cases this
  cases eb : fb (args ++ List.replicate (N.length - args.length) .un) with
  | stuck => rw [eb] at post; exact post.elim
  | brk ρ' => rw [eb] at post; exact post.elim
  | cont ρ' => rw [eb] at post; exact post.elim
  | next ρ' =>
    rw [eb] at post
    unfold dFin at post
    intro σ' H' l' A' l2
    dsimp only at post
    split at post
    · rename_i e
      exact post .non H' l' (by rw [← hfx]; exact same A') A'.tab (by rw [← hfx]; exact fxo A' e) .non
    · exact post.elim
  | err x ρ' =>
    rw [eb] at post
    unfold dFin at post
    intro σ' H' C dd l' A' ex
    dsimp only at post
    split at post
    · rename_i e
      exact post H' C dd l' (by rw [← hfx]; exact same A') A'.tab (by rw [← hfx]; exact fxo A' e) ex
    · exact post.elim
  | ret r ρ' =>
    rw [eb] at post
    unfold dFin at post
    intro v σ' H' l' A' q l2
    dsimp only at post
    cases er : retRv ρ' r with
    | none => rw [er] at post; exact post.elim
    | some r' =>
      rw [er] at post
      dsimp only at post
      split at post
      · rename_i e
        refine post v H' l' (by rw [← hfx]; exact same A') A'.tab (by rw [← hfx]; exact fxo A' e) ?_
        rw [← hfx]
        cases r with
        | dat d => cases er; exact dp_mono sub0 q
        | new l =>
          cases er
          obtain ⟨p, ws, rfl, e1, e2, e3, e4, _⟩ := q
          exact ⟨p, ws, rfl, fresh e4 fun z => e2 (.inl z), e1, dpa_mono sub e3⟩
        | newk l =>
          cases er
          obtain ⟨p, ws, rfl, e1, e2, e3, e4, _⟩ := q
          exact ⟨p, ws, rfl, fresh e4 fun z => e2 (.inl z), e1, e3.1, dpa_mono sub e3.2⟩
        | bor i =>
          have q : σ'[i]? = some (some v) := q
          unfold retRv at er
          cases e5 : ρ'[i]? with
          | none => simp only [e5] at er; cases er
          | some sl =>
            cases sl with
            | ls l =>
              simp only [e5] at er
              cases er
              obtain ⟨p, ws, e6, e7, a⟩ := A'.slot i _ e5
              rw [getD_of q] at e6; cases e6
              have own : Own ρ' σ' p := ⟨i, _, e5, rfl, q⟩
              refine ⟨p, ws, rfl, fresh (A'.hid_base (.inr own)) (A'.fxn p own), e7, dpa_mono (hide_mono fun a o n e => ⟨fun z => n ?_, e⟩) a⟩
              rcases z with (z | z) | z
              · exact .inl z
              · exact .inr (.inl z)
              · rw [z]; exact .inr (.inr own)
            | dk l =>
              simp only [e5] at er
              cases er
              obtain ⟨p, ws, e6, e7, a1, a2⟩ := A'.slot i _ e5
              rw [getD_of q] at e6; cases e6
              have own : Own ρ' σ' p := ⟨i, _, e5, rfl, q⟩
              refine ⟨p, ws, rfl, fresh (A'.hid_base (.inr own)) (A'.fxn p own), e7, a1, dpa_mono (hide_mono fun a o n e => ⟨fun z => n ?_, e⟩) a2⟩
              rcases z with (z | z) | z
              · exact .inl z
              · exact .inr (.inl z)
              · rw [z]; exact .inr (.inr own)
            | un => simp only [e5] at er; cases er
            | dat d => simp only [e5] at er; cases er
            | rf k l => simp only [e5] at er; cases er
            | scr k => simp only [e5] at er; cases er
            | fn k => simp only [e5] at er; cases er
            | pv k => simp only [e5] at er; cases er
      · exact post.elim
theorem fn_ok {x qual : Str} {st : Stmt} {f : Addr} {fd : FuncData} {N ps : List Str} {k : Nat} {fb : Rho → Ou} (F : Fun K x qual st f fd) (S : FnScope N ps (defScope st))
    (hbody : ∀ (cdv : Value) (A : Around) (outer : List Env) (s : Shared) (H : Hp) (E : XK), Room k (A.deeper (envOfC qual (defScope st) s.heap.objs.size f cdv)) → SSs (cxOf (L2N.CX P w) P w K mg base N qual (defScope st) f cdv A outer s H E) (WofE E) (defBody st) fb) :
    FnOk P w K mg base (L2N.CX P w) (k + 1) f fd ps (spD K mg ps.length (dFun N.length fb)) := fn_okC F S fun cdv A outer s H E _ => hbody cdv A outer s H E
end
/-! ### calls -/
def argSl (ρ : Rho) : Bool → Rv → Option Sl
  | true, .bor i => (lstAt ρ i).map (Sl.rf 0)
  | true, _ => none
  | false, r => (rd ρ r).map Sl.dat
def argSls (ρ : Rho) : List Bool → List Rv → Option (List Sl)
  | [], [] => some []
  | m :: ms, r :: rs => match argSl ρ m r, argSls ρ ms rs with
    | some a, some as => some (a :: as)
    | _, _ => none
  | _, _ => none
/-- the slot handed on to be changed -/
def refSlot : List Bool → List Rv → Option Nat
  | true :: _, .bor i :: _ => some i
  | false :: ms, _ :: rs => refSlot ms rs
  | _, _ => none
/-- a list of one's own is read by the callee -/
def lends : List Bool → List Rv → Bool
  | false :: _, .bor _ :: _ => true
  | _ :: ms, _ :: rs => lends ms rs
  | _, _ => false
/-- nothing that leads to a place -/
def scalR : Rv → Bool
  | .dat d => flatD d
  | _ => false
def isNewR : Rv → Bool
  | .new _ => true
  | .newk _ => true
  | _ => false
def outAt (ms : List Bool) (rs : List Rv) (l : List D) (ρ : Rho) : Rho := match refSlot ms rs with
  | some i => putAt ρ i l
  | none => ρ
def callFin (ms : List Bool) (rs : List Rv) (ρ : Rho) : FRes → Res Rv
  | .ok r l => if (lends ms rs && !scalR r) || (isNewR r && !(l.all flatD)) then .stuck else .ok r (outAt ms rs l ρ)
  | .err x l => .err x (outAt ms rs l ρ)
  | .stuck => .stuck
def dCall (g : List Sl → FRes) (ms : List Bool) (fs : Rho → Res (List Rv)) (ρ : Rho) : Res Rv := (fs ρ).bind fun rs ρ1 => match argSls ρ1 ms rs with
  | none => .stuck
  | some args => if (ms.count true ≤ 1) ∧ ((outOf args).isSome = (refSlot ms rs).isSome) ∧ (lends ms rs = false ∨ refSlot ms rs = none) then callFin ms rs ρ1 (g args) else .stuck
section
variable [Tb] {K : PySem.W.Frag} {Hb Hb' H H' : Hp} {fx : List Addr} {B B' : Addr → Prop} {ρ ρ' : Rho} {σ σ' : L2.St} {p : Addr} {o : HO} {X : Cx} {W : WX} {S : Addr → Prop} {pos : Pos} {D : Ends} {tg : Expr}
omit [Tb] in
theorem flat_dq {d : PyData} {v : V} {H1 H2 : Hp} (f : flatD d = true) (h : Dq H1 v d) : Dq H2 v d := by
  cases h with
  | non => exact .non
  | bl b => exact .bl b
  | int i => exact .int i
  | str x => exact .str x
  | lst _ _ => cases f
  | tup _ _ => cases f
omit [Tb] in
theorem flat_dqa {H1 H2 : Hp} : ∀ {vs : List V} {ds : List PyData}, ds.all flatD = true → DqA H1 vs ds → DqA H2 vs ds
  | _, _, _, .nil => .nil
  | _, _, f, .cons h t => by
    simp only [List.all_cons, Bool.and_eq_true] at f
    exact .cons (flat_dq f.1 h) (flat_dqa f.2 t)
theorem Abs.growB (A : Abs K Hb fx B ρ σ H) (h : ∀ a o, a ∉ tA → H a = some o → H' a = some o) (t : Tabl H') (n : H p = none) (n' : H' p ≠ none) : Abs K Hb fx (fun a => B a ∨ a = p) ρ σ H' := by
  have A' := A.growT h t
  have nt : ∀ {a : Addr}, ¬ a ∈ fx → a ∉ tA := fun n m => n (A.tfx _ m)
  refine ⟨A'.len, A'.same, fun i sl e => ?_, A'.inj, A'.fxn, A'.fxd, A'.fxp, A'.rfi, fun q hq => ?_, A'.tfx, A'.tab⟩
  · refine (A.slot i sl e).mono (fun a u z e => ⟨fun w => z ?_, h a u (nt fun m => z (.inl m)) e⟩) (fun q z e2 => ?_) (fun q z e2 m => ?_)
    · rcases w with w | (w | w) | w
      · exact .inl w
      · exact .inr (.inl w)
      · rw [w, n] at e; cases e
      · exact .inr (.inr w)
    · obtain ⟨p', o', e4, e5⟩ := (A.slot i sl e).there z
      have hn := A.fxn q ⟨i, sl, e, z, of_getD e2⟩
      rw [e2] at e4; cases e4
      rw [e5]; exact h _ _ (nt hn) e5
    · obtain ⟨ws, e5⟩ := (A.slot i sl e).pinned z e2
      rw [e5]
      refine h _ _ (fun m2 => ?_) e5
      obtain ⟨ps, e6⟩ := tab_at A.tab m2
      rw [e5] at e6; cases e6
  · rcases hq with hq | hq
    · exact A'.bpr q hq
    · subst hq
      exact ⟨n', fun z => A.bad_there (B := B) (Bad.hid z) n⟩
omit [Tb] in
theorem argSls_len : ∀ {ms : List Bool} {rs : List Rv} {args : List Sl}, argSls ρ ms rs = some args → args.length = rs.length
  | [], [], args, h => by cases h; rfl
  | m :: ms, r :: rs, args, h => by
    unfold argSls at h
    split at h
    · rename_i a as e1 e2
      cases h
      simp [argSls_len e2]
    · cases h
  | [], _ :: _, args, h => by cases h
  | _ :: _, [], args, h => by cases h
omit [Tb] in
theorem argSls_at : ∀ {ms : List Bool} {rs : List Rv} {args : List Sl} {i : Nat} {a : Sl}, argSls ρ ms rs = some args → args[i]? = some a → ∃ m r, ms[i]? = some m ∧ rs[i]? = some r ∧ argSl ρ m r = some a
  | [], [], args, i, a, h, e => by cases h; cases e
  | m :: ms, r :: rs, args, i, a, h, e => by
    unfold argSls at h
    split at h
    · rename_i b as e1 e2
      cases h
      cases i with
      | zero => cases e; exact ⟨m, r, rfl, rfl, e1⟩
      | succ i => exact argSls_at (i := i) e2 e
    · cases h
  | [], _ :: _, args, i, a, h, e => by cases h
  | _ :: _, [], args, i, a, h, e => by cases h
omit [Tb] in
theorem count_two : ∀ {ms : List Bool} {i j : Nat}, ms.count true ≤ 1 → ms[i]? = some true → ms[j]? = some true → i = j
  | [], i, j, h, a, b => by cases a
  | true :: ms, i, j, h, a, b => by
    rw [List.count_cons_self] at h
    have h0 : ms.count true = 0 := by omega
    have no : ∀ k : Nat, ms[k]? ≠ some true := fun k e => absurd (List.mem_of_getElem? e) (List.count_eq_zero.mp h0)
    cases i with
    | zero =>
      cases j with
      | zero => rfl
      | succ j => exact absurd b (no j)
    | succ i => exact absurd a (no i)
  | false :: ms, i, j, h, a, b => by
    rw [List.count_cons_of_ne (by decide)] at h
    cases i with
    | zero => cases a
    | succ i =>
      cases j with
      | zero => cases b
      | succ j => exact congrArg (· + 1) (count_two h a b)
omit [Tb] in
theorem refSlot_at : ∀ {ms : List Bool} {rs : List Rv} {i : Nat}, refSlot ms rs = some i → ∃ t : Nat, (ms[t]? : Option Bool) = some true ∧ (rs[t]? : Option Rv) = some (Rv.bor i)
  | true :: _, .bor i :: _, _, h => by cases h; exact ⟨0, rfl, rfl⟩
  | false :: ms, _ :: rs, i, h => by
    obtain ⟨t, a, b⟩ := refSlot_at (ms := ms) (rs := rs) h
    exact ⟨t + 1, a, b⟩
  | true :: _, .dat _ :: _, _, h => by cases h
  | true :: _, .new _ :: _, _, h => by cases h
  | true :: _, .newk _ :: _, _, h => by cases h
  | true :: _, [], _, h => by cases h
  | false :: _, [], _, h => by cases h
  | [], _, _, h => by cases h
omit [Tb] in
theorem lends_at : ∀ {ms : List Bool} {rs : List Rv} {t i : Nat}, (ms[t]? : Option Bool) = some false → (rs[t]? : Option Rv) = some (Rv.bor i) → lends ms rs = true
  | false :: _, .bor _ :: _, 0, i, _, _ => rfl
  | m :: ms, r :: rs, t + 1, i, a, b => by
    have := lends_at (ms := ms) (rs := rs) (t := t) (i := i) a b
    cases m <;> cases r <;> first | rfl | exact this
  | true :: _, _, 0, i, a, b => by cases a
  | false :: _, .dat _ :: _, 0, i, a, b => by cases b
  | false :: _, .new _ :: _, 0, i, a, b => by cases b
  | false :: _, .newk _ :: _, 0, i, a, b => by cases b
  | false :: _, [], 0, i, a, b => by cases b
  | [], _, _, i, a, b => by cases a
  | _ :: _, [], _ + 1, i, a, b => by cases b
omit [Tb] in
theorem paired_at {α β : Type} {F : α → β → Prop} : ∀ {l₁ : List α} {l₂ : List β} {i : Nat} {b : β}, Paired F l₁ l₂ → l₂[i]? = some b → ∃ a, l₁[i]? = some a ∧ F a b
  | _, _, i, _, .nil, h => by simp at h
  | _, _, 0, _, .cons r _, h => by simp at h; subst h; exact ⟨_, rfl, r⟩
  | _, _, i + 1, _, .cons _ t, h => by
    obtain ⟨a, e1, e2⟩ := paired_at (i := i) t (by simpa using h)
    exact ⟨a, by simpa using e1, e2⟩
/-- behind the arguments: what the def's promise asks -/
theorem call_run {np : Nat} {g : List Sl → FRes} {ms : List Bool} {e : Expr} {es : List Expr} {fs : Rho → Res (List Rv)} {Q : VK} (hs : SA X W (e :: es) fs) (hnp : (e :: es).length = np)
    (hlen : ∀ ρ rs ρ', fs ρ = .ok rs ρ' → rs.length = (e :: es).length) (A : Abs X.K Hb fx B ρ σ H)
    (q : Post (fun r ρ' => ∀ v H', LenOk X.K H' → Abs X.K Hb fx B ρ' σ H' → RvOk X.K Hb fx B ρ' σ H' v r → Q v H') (ErrE X W Hb fx B σ) (dCall g ms fs ρ)) :
    wpA X (e :: es) σ H fun vs H1 => spD X.K X.mg np g vs H1 (fun v H' => LenOk X.K H' → Q v H') (WE W σ) := by
  have q0 := q.len.of_bind
  have hl0 : ∀ rs ρ', fs ρ = .ok rs ρ' → rs.length = np := fun rs ρ' e => (hlen ρ rs ρ' e).trans hnp
  refine hs Hb fx B ρ σ H _ A ?_
  cases ef : fs ρ with
  | stuck => rw [ef] at q0; exact q0.elim
  | err y ρ1 => rw [ef] at q0; exact q0
  | ok rs ρ1 =>
    rw [ef] at q0
    intro vs H1 l1 A1 ra
    have z : Post _ _ (match argSls ρ1 ms rs with | none => Res.stuck | some args => if (ms.count true ≤ 1) ∧ ((outOf args).isSome = (refSlot ms rs).isSome) ∧ (lends ms rs = false ∨ refSlot ms rs = none) then callFin ms rs ρ1 (g args) else .stuck) := q0
    cases ea : argSls ρ1 ms rs with
    | none => simp only [ea] at z; exact z.elim
    | some args =>
      simp only [ea] at z
      by_cases hc : (ms.count true ≤ 1) ∧ ((outOf args).isSome = (refSlot ms rs).isSome) ∧ (lends ms rs = false ∨ refSlot ms rs = none)
      · rw [if_pos hc] at z
        obtain ⟨hc1, hc2, hc3⟩ := hc
        have hlr := hl0 rs ρ1 ef
        have hvl : vs.length = rs.length := Paired.length ra
        -- the place handed on
        have fxs : ∃ fc : List Addr, (∀ a ∈ fc, ∃ i, refSlot ms rs = some i ∧ σ[i]? = some (some (.ref a))) ∧ fc.length ≤ 1 ∧ (fc = [] ↔ refSlot ms rs = none) ∧ (∀ i l, refSlot ms rs = some i → lstAt ρ1 i = some l → ∃ a, fc = [a] ∧ σ[i]? = some (some (.ref a))) := by
          cases er : refSlot ms rs with
          | none => exact ⟨[], fun a h => (by cases h), Nat.zero_le _, by simp, fun i l h => by cases h⟩
          | some i =>
            obtain ⟨t, e1, e2⟩ := refSlot_at er
            have hta : ∃ a, args[t]? = some a := by
              have h1 := argSls_len ea
              have h2 := (List.getElem?_eq_some_iff.mp e2).1
              exact ⟨args[t], List.getElem?_eq_getElem (by omega)⟩
            obtain ⟨a, e3⟩ := hta
            obtain ⟨m', r', e4, e5, e6⟩ := argSls_at ea e3
            rw [e1] at e4; cases e4
            rw [e2] at e5; cases e5
            cases e7 : lstAt ρ1 i with
            | none => simp only [argSl, e7] at e6; cases e6
            | some l =>
              obtain ⟨b, hb⟩ := A1.at_some e7
              exact ⟨[b], fun a h => by rw [List.mem_singleton.mp h]; exact ⟨i, rfl, hb⟩, Nat.le_refl _, by simp, fun j l h _ => by cases h; exact ⟨b, rfl, hb⟩⟩
        obtain ⟨fc, f1, f2, f3, f4⟩ := fxs
        have fcHold : ∀ a ∈ fc, ∃ i l, refSlot ms rs = some i ∧ lstAt ρ1 i = some l ∧ σ[i]? = some (some (.ref a)) := fun a h => by
          obtain ⟨i, e1, e2⟩ := f1 a h
          obtain ⟨t, e3, e4⟩ := refSlot_at e1
          have hta : ∃ b, args[t]? = some b := by
            have h1 := argSls_len ea
            have h2 := (List.getElem?_eq_some_iff.mp e4).1
            exact ⟨args[t], List.getElem?_eq_getElem (by omega)⟩
          obtain ⟨b, e5⟩ := hta
          obtain ⟨m', r', e6, e7, e8⟩ := argSls_at ea e5
          rw [e3] at e6; cases e6
          rw [e4] at e7; cases e7
          cases e9 : lstAt ρ1 i with
          | none => simp only [argSl, e9] at e8; cases e8
          | some l => exact ⟨i, l, e1, e9, e2⟩
        have fcBad : ∀ a ∈ fc, Hid fx ρ1 σ a := fun a h => by
          obtain ⟨i, l, e1, e2, e3⟩ := fcHold a h
          unfold lstAt at e2
          cases e4 : ρ1[i]? with
          | none => rw [e4] at e2; cases e2
          | some sl =>
            rw [e4] at e2
            refine A1.holds_bad (i := i) ⟨sl, e4, ?_, e3⟩
            cases sl <;> first | exact .inl rfl | exact .inr rfl | (exact absurd e2 (by simp [Sl.lst])) 
        obtain ⟨fT, hfT⟩ : ∃ fT, fT = fc ++ tA := ⟨_, rfl⟩
        have fTBad : ∀ a ∈ fT, Hid fx ρ1 σ a := fun a h => by
          rw [hfT] at h
          exact (List.mem_append.mp h).elim (fcBad a) fun h => .inl (A1.tfx a h)
        have fcLst : ∀ a ∈ fc, ∃ ws, H1 a = some (.lst ws) := fun a h => by
          obtain ⟨i, l, e1, e2, e3⟩ := fcHold a h
          obtain ⟨p', ws, e4, e5, _⟩ := A1.lstAt e2 e3
          cases e4
          exact ⟨ws, e5⟩
        have B0 : ∀ a, (Bad fx B ρ1 σ a ∧ a ∉ fT ∧ lends ms rs = false) → H1 a ≠ none ∧ a ∉ fc ++ tA := fun a h => ⟨A1.bad_there h.1, by rw [← hfT]; exact h.2.1⟩
        refine ⟨fc, fun a => Bad fx B ρ1 σ a ∧ a ∉ fT ∧ lends ms rs = false, args, by omega, (argSls_len ea).trans hlr, fun i sl ei => ?_, f2, ?_, fcLst, B0, fun i j k l m ei ej => ?_, A1.tab, ?_⟩
        · obtain ⟨m, r, e1, e2, e3⟩ := argSls_at ea ei
          obtain ⟨v, e4, e5, e6, e7⟩ := paired_at ra e2
          rw [e4, ← hfT]
          cases m with
          | true =>
            cases r with
            | bor j =>
              cases e8 : lstAt ρ1 j with
              | none => simp only [argSl, e8] at e3; cases e3
              | some l =>
                simp only [argSl, e8] at e3
                cases e3
                refine ⟨rfl, ?_⟩
                have hj : refSlot ms rs = some j := by
                  have hs2 : (refSlot ms rs).isSome = true := by
                    rw [← hc2]
                    have : ∃ y ∈ args, (rfOf y).isSome = true := ⟨_, List.mem_of_getElem? ei, rfl⟩
                    obtain ⟨y, hy, hys⟩ := this
                    cases ho : outOf args with
                    | some _ => rfl
                    | none =>
                      have := List.findSome?_eq_none_iff.mp ho y hy
                      rw [this] at hys; cases hys
                  cases er : refSlot ms rs with
                  | none => rw [er] at hs2; cases hs2
                  | some j' =>
                    obtain ⟨t, g1, g2⟩ := refSlot_at er
                    have : t = i := count_two hc1 g1 e1
                    subst this
                    rw [e2] at g2; cases g2; rfl
                obtain ⟨a, g1, g2⟩ := f4 j l hj e8
                obtain ⟨p', ws, g3, g4, g5⟩ := A1.lstAt e8 e5
                subst g3
                have e5 : σ[j]? = some (some (V.ref p')) := e5
                rw [g2] at e5
                cases e5
                refine ⟨a, ws, rfl, by rw [hfT, g1]; rfl, g4, dpa_mono (hide_mono fun b o n e => ⟨fun y => n ?_, e⟩) g5⟩
                rcases y with y | y
                · exact Bad.hid (fTBad b y)
                · exact y.1
            | dat d => cases e3
            | new d => cases e3
            | newk d => cases e3
          | false =>
            cases e8 : rd ρ1 r with
            | none => simp only [argSl, e8] at e3; cases e3
            | some d =>
              simp only [argSl, e8] at e3
              cases e3
              refine ⟨rfl, v, rfl, ?_⟩
              have lo := e5.lo A1 e8
              have sub : Same (hide H1 (Bad fx B ρ1 σ)) (hide H1 fun a => a ∈ fT ∨ (Bad fx B ρ1 σ a ∧ a ∉ fT ∧ lends ms rs = false)) := hide_mono fun b o n e => ⟨fun y => n (y.elim (fun y => Bad.hid (fTBad b y)) fun y => y.1), e⟩
              cases r with
              | dat d' => cases e8; exact dp_mono sub e5
              | new l => exact absurd e6 (by intro y; cases y)
              | newk l => cases e8
              | bor j =>
                have hle := lends_at e1 e2
                have e5 : σ[j]? = some (some v) := e5
                have e8' : rdS ρ1[j]? = some d := e8
                have hls : ∃ l, lstAt ρ1 j = some l ∧ d = .list l := by
                  unfold lstAt
                  cases e9 : ρ1[j]? with
                  | none => rw [e9] at e8'; cases e8'
                  | some sl =>
                    rw [e9] at e8'
                    cases sl with
                    | ls l => cases e8'; exact ⟨l, rfl, rfl⟩
                    | rf k l => cases e8'; exact ⟨l, rfl, rfl⟩
                    | un => cases e8'
                    | dat d => cases e8'
                    | dk k => cases e8'
                    | scr k => cases e8'
                    | fn k => cases e8'
                    | pv k => cases e8'
                obtain ⟨l, g1, rfl⟩ := hls
                obtain ⟨p', ws, rfl, g4, g5⟩ := A1.lstAt g1 e5
                refine .lst (Rd.of (hide_eq.mpr ⟨fun y => ?_, g4⟩)) (dpa_mono sub g5)
                rcases y with y | y
                · -- another slot than the one handed on
                  have e0 := f3.mpr (hc3.resolve_left fun y => by rw [hle] at y; cases y)
                  rw [hfT, e0] at y
                  obtain ⟨ps, e10⟩ := tab_at A1.tab y
                  rw [g4] at e10; cases e10
                · rw [hle] at y; exact absurd y.2.2 (by decide)
        · cases er : refSlot ms rs with
          | none => exact .inl (f3.mpr er)
          | some i => rw [er] at hc2; exact .inr hc2
        · obtain ⟨m1, r1, a1, b1, c1⟩ := argSls_at ea ei
          obtain ⟨m2, r2, a2, b2, c2⟩ := argSls_at ea ej
          have t1 : m1 = true := by
            cases m1 with
            | true => rfl
            | false =>
              exfalso
              cases e8 : rd ρ1 r1 with
              | none => simp only [argSl, e8] at c1; cases c1
              | some d => simp only [argSl, e8] at c1; cases c1
          have t2 : m2 = true := by
            cases m2 with
            | true => rfl
            | false =>
              exfalso
              cases e8 : rd ρ1 r2 with
              | none => simp only [argSl, e8] at c2; cases c2
              | some d => simp only [argSl, e8] at c2; cases c2
          subst t1 t2
          exact count_two hc1 a1 a2
        · -- behind the call
          have fin : ∀ {H' : Hp} {l : List PyData}, Same (hide H1 (· ∈ fT)) (hide H' (· ∈ fT)) → Tabl H' → FxOk H' fc (fun a => a ∈ fT ∨ (Bad fx B ρ1 σ a ∧ a ∉ fT ∧ lends ms rs = false)) l →
              Abs X.K Hb fx B (outAt ms rs l ρ1) σ H' ∧ (∀ a, Bad fx B (outAt ms rs l ρ1) σ a → Bad fx B ρ1 σ a) ∧
                (l.all flatD = true ∨ fc = [] → ∀ p0, H1 p0 = none → H' p0 ≠ none → Abs X.K Hb fx (fun a => B a ∨ a = p0) (outAt ms rs l ρ1) σ H') := fun {H' l} sm ht fo => by
            unfold outAt
            cases er : refSlot ms rs with
            | none =>
              have e0 := f3.mpr er
              have gr : ∀ a o, a ∉ tA → H1 a = some o → H' a = some o := fun a o na e => (hide_eq.mp (sm a o (hide_eq.mpr ⟨fun y => (by rw [hfT, e0] at y; exact na y), e⟩))).2
              exact ⟨A1.growT gr ht, fun _ z => z, fun _ p0 n n' => A1.growB gr ht n n'⟩
            | some i =>
              dsimp only
              have hne : fc ≠ [] := fun y => by have := f3.mp y; rw [er] at this; cases this
              obtain ⟨a, ha⟩ := List.exists_mem_of_ne_nil fc hne
              obtain ⟨i', l0, g1, g2, g3⟩ := fcHold a ha
              rw [er] at g1; cases g1
              have hfc : fc = [a] := by
                obtain ⟨b, h1, h2⟩ := f4 i l0 er g2
                rw [h1] at ha
                rw [h1, List.mem_singleton.mp ha]
              have hle : lends ms rs = false := hc3.resolve_right fun y => by rw [er] at y; cases y
              obtain ⟨p', vs1, g4, g5, g6⟩ := A1.lstAt g2 g3
              cases g4
              obtain ⟨ws, k1, k2⟩ := fo a ha
              have gr : ∀ b o, b ∉ tA → H1 b = some o → upd H' a (.lst vs1) b = some o := fun b o na e => by
                by_cases hb : b = a
                · subst hb; rw [upd_same, ← g5]; exact e
                · rw [upd_ne hb]
                  exact (hide_eq.mp (sm b o (hide_eq.mpr ⟨fun y => (by rw [hfT, hfc] at y; exact (List.mem_cons.mp y).elim hb na), e⟩))).2
              have eH : upd (upd H' a (.lst vs1)) a (.lst ws) = H' := by
                rw [upd_upd]
                funext b
                by_cases hb : b = a
                · subst hb; rw [upd_same, k1]
                · rw [upd_ne hb]
              have hbad : Hid fx ρ1 σ a := fcBad a ha
              have dq : ∀ T : Addr → Prop, (∀ b, T b → l.all flatD = true) → DqA (hide (upd H' a (.lst vs1)) fun b => Bad fx B ρ1 σ b ∨ T b) ws l := fun T ht => by
                by_cases hf : l.all flatD = true
                · exact flat_dqa hf k2
                · refine dpa_mono (hide_mono fun b o n e => ?_) k2
                  have hba : b ≠ a := fun y => n (.inl (by rw [y, hfT]; exact List.mem_append_left _ ha))
                  refine ⟨fun y => ?_, by rw [upd_ne hba]; exact e⟩
                  rcases y with y | y
                  · exact n (by
                      by_cases hbt : b ∈ fT
                      · exact .inl hbt
                      · exact .inr ⟨y, hbt, hle⟩)
                  · exact hf (ht b y)
              have ownE : ∀ q, Own (putAt ρ1 i l) σ q → Own ρ1 σ q := fun q ⟨j, sl, w1, w2, w3⟩ => by
                unfold putAt at w1
                cases e4 : ρ1[i]? with
                | none => rw [e4] at w1; exact ⟨j, sl, w1, w2, w3⟩
                | some s0 =>
                  rw [e4] at w1
                  dsimp only at w1
                  by_cases hj : j = i
                  · subst hj
                    rw [List.getElem?_set_self (List.getElem?_eq_some_iff.mp e4).1] at w1
                    cases w1
                    refine ⟨j, s0, e4, ?_, w3⟩
                    cases s0 <;> first | exact w2 | rfl
                  · rw [List.getElem?_set_ne (Ne.symm hj)] at w1
                    exact ⟨j, sl, w1, w2, w3⟩
              have ht1 : Tabl (upd H' a (.lst vs1)) := tab_upd ht k1 rfl
              have A12 := A1.growT gr ht1
              have A13 := A12.putAt g2 g3 (dpa_mono (hide_mono fun b o n e => ⟨fun y => n (.inl y), e⟩) (dq (fun _ => False) fun _ y => y.elim))
              rw [eH] at A13
              refine ⟨A13, fun b y => y.elim .inl fun y => y.elim (fun y => .inr (.inl y)) fun y => .inr (.inr (ownE b y)), fun hfl p0 n n' => ?_⟩
              have hfl : l.all flatD = true := hfl.resolve_right hne
              have hpa : p0 ≠ a := fun y => by rw [y, g5] at n; cases n
              have A14 := A1.growB gr ht1 n (by rw [upd_ne hpa]; exact n')
              have A15 := A14.putAt (vs' := ws) (l' := l) g2 g3 (flat_dqa hfl k2)
              rw [eH] at A15
              exact A15
          have subS : ∀ {H' : Hp} {T : Addr → Prop}, lends ms rs = false → Same (hide H' fun a => (a ∈ fT ∨ (Bad fx B ρ1 σ a ∧ a ∉ fT ∧ lends ms rs = false)) ∨ T a) (hide H' fun a => Bad fx B ρ1 σ a ∨ T a) := fun {H' T} hle =>
            hide_mono fun b o n e => ⟨fun y => n (y.imp (fun y => by
              by_cases hb : b ∈ fT
              · exact .inl hb
              · exact .inr ⟨y, hb, hle⟩) id), e⟩
          cases eg : g args with
          | stuck => rw [eg] at z; exact z.elim
          | err y l =>
            rw [eg] at z
            intro H' C dd l' sm ht fo ex
            rw [← hfT] at sm fo
            exact z H' C dd l' (fin sm ht fo).1 ex
          | ok r l =>
            rw [eg] at z
            unfold callFin at z
            intro v H' l' sm ht fo rf
            rw [← hfT] at sm fo rf
            cases eb : ((lends ms rs && !scalR r) || (isNewR r && !(l.all flatD))) with
            | true => simp only [eb] at z; exact z.elim
            | false =>
              simp only [eb] at z
              obtain ⟨A2, sb, A3⟩ := fin sm ht fo
              rw [Bool.or_eq_false_iff] at eb
              refine z v H' A2 ?_
              cases r with
              | bor i => exact rf.elim
              | dat d =>
                by_cases hle : lends ms rs = true
                · rw [hle] at eb
                  have hf : flatD d = true := by simpa [scalR] using eb.1
                  exact flat_dq hf rf
                · have hle : lends ms rs = false := by simpa using hle
                  have rf : Dq (hide H' fun a => a ∈ fT ∨ (Bad fx B ρ1 σ a ∧ a ∉ fT ∧ lends ms rs = false)) v d := rf
                  have r1 : Dq (hide H' fun a => (a ∈ fT ∨ (Bad fx B ρ1 σ a ∧ a ∉ fT ∧ lends ms rs = false)) ∨ False) v d := dp_mono (hide_mono fun b o n e => ⟨fun y => n (y.resolve_right id), e⟩) rf
                  exact dp_mono (hide_mono fun b o n e => ⟨fun y => n (.inl (sb b y)), e⟩) (dp_mono (subS (T := fun _ => False) hle) r1)
              | new l2 =>
                have hle : lends ms rs = false := by
                  have := eb.1
                  cases h : lends ms rs with
                  | false => rfl
                  | true => rw [h] at this; cases this
                have hfl : l.all flatD = true := by simpa [isNewR] using eb.2
                obtain ⟨p0, ws, rfl, n0, k1, k2⟩ := rf
                refine ⟨p0, ws, rfl, k1, fun y => A1.bad_there (sb p0 y) n0, dpa_mono (hide_mono fun b o n e => ⟨fun y => n (y.imp (sb b) id), e⟩) (dpa_mono (subS (T := fun a => a = p0) hle) k2), ?_, A3 (.inl hfl) p0 n0 (by rw [k1]; simp)⟩
                cases e : Hb p0 with
                | none => rfl
                | some o => have := A1.base_keep e; rw [n0] at this; cases this
              | newk l2 =>
                have hle : lends ms rs = false := by
                  have := eb.1
                  cases h : lends ms rs with
                  | false => rfl
                  | true => rw [h] at this; cases this
                have hfl : l.all flatD = true := by simpa [isNewR] using eb.2
                obtain ⟨p0, ws, rfl, n0, k1, k2⟩ := rf
                refine ⟨p0, ws, rfl, k1, fun y => A1.bad_there (sb p0 y) n0, ⟨k2.1, dpa_mono (hide_mono fun b o n e => ⟨fun y => n (y.imp (sb b) id), e⟩) (dpa_mono (subS (T := fun a => a = p0) hle) k2.2)⟩, ?_, A3 (.inl hfl) p0 n0 (by rw [k1]; simp)⟩
                cases e : Hb p0 with
                | none => rfl
                | some o => have := A1.base_keep e; rw [n0] at this; cases this
      · rw [if_neg hc] at z; exact z.elim
theorem se_call {x : Str} {f : Addr} {fd : FuncData} {ps : List Str} {k np : Nat} {g : List Sl → FRes} {ms : List Bool} {e : Expr} {es : List Expr} {p : Pos} {fs : Rho → Res (List Rv)}
    (F : FnOk X.prog X.w X.K X.mg X.base (L2N.CX X.prog X.w) k f fd ps (spD X.K X.mg np g)) (hr : Room k X.A) (hg : Gl X x) (hm : X.mg x = some (.ref f)) (hk : PySem.W.keepIn X.K (.ref f) = true) (hb : Binds X.K fd ps []) (tk : L2N.Takes X W) (hs : SA X W (e :: es) fs) (hnp : (e :: es).length = np)
    (hlen : ∀ ρ rs ρ', fs ρ = .ok rs ρ' → rs.length = (e :: es).length)
    (hdb : (x == ("__debug__" : Str)) = false := by decide) (he : starEach (e :: es) X.env = (false, eval e X.env) :: starEach es X.env := by exact ste rfl) (hpl : (backTo pos (starEach es X.env)).any (·.1) = false := by rfl) :
    SE X W (.Call (.Name x p) (e :: es) [] pos) (dCall g ms fs) := .mk fun Hb fx B ρ σ H Q A q => by
  refine wpE_len (wp_pe (pe_callS F hr hg hm hk hb (fun σ => L2N.passAt tk σ) pa_wp hdb he hpl) ?_)
  exact call_run hs hnp hlen A q
end
end R
namespace R
open PySem PySem.Spec L2
open PyProof.Rows hiding St
/-! ### zip, enumerate over lists and tuples alike -/
def Sq (b : Bool) (K : PySem.W.Frag) (H : Hp) (a : Addr) (xs : List V) : Prop := match b with
  | true => SqL K H a xs
  | false => SqT K H a xs
def IsIt (b : Bool) (h : Heap) (it a : Addr) (i : Nat) : Prop := match b with
  | true => h.IsListIter it a i
  | false => h.IsTupleIter it a i
def IsSq (b : Bool) (h : Heap) (a : Addr) (its : Array Value) : Prop := match b with
  | true => h.IsList a its
  | false => h.IsTuple a its
section
variable {X : Cx} {pins : List (Addr × Obj)} {σ : L2.St} {H : Hp} {s : Shared} {a : Addr} {xs ys : List V} {b : Bool}
theorem Sq.get (I : Inv X pins σ H s) (h : Sq b X.K H a xs) : ∃ its : List Value, Vals xs its ∧ IsSq b s.heap a its.toArray := by
  cases b with
  | true => obtain ⟨its, rv, p, _⟩ := I.list h; exact ⟨its, rv, p.isList⟩
  | false => obtain ⟨its, rv, p, _⟩ := I.tuple h; exact ⟨its, rv, p⟩
theorem Sq.inj (I : Inv X pins σ H s) (h : Sq b X.K H a xs) (h' : Sq b X.K H a ys) : xs = ys := by
  cases b with
  | true => exact I.list_inj h h'
  | false => exact I.tuple_inj h h'
theorem IsIt.at {h h' : Heap} {it : Addr} {i : Nat} (x : IsIt b h it a i) (k : ∀ o, h.get? it = some o → h'.get? it = some o) : IsIt b h' it a i := by
  cases b with
  | true => exact Heap.IsListIter.at x k
  | false => exact Heap.IsTupleIter.at x k
theorem IsIt.obj {h : Heap} {it : Addr} {i : Nat} (x : IsIt b h it a i) : ∃ o, h.get? it = some o ∧ ∀ v, o.data ≠ .cell v := by
  cases b with
  | true => obtain ⟨o, e, _, d⟩ := x; exact ⟨o, e, fun v q => by rw [d] at q; cases q⟩
  | false => obtain ⟨o, e, _, d⟩ := x; exact ⟨o, e, fun v q => by rw [d] at q; cases q⟩
theorem draws {prog : Program} {w : World} {A : Around} (hh : A.handled = none) (it : Addr) (hne : a ≠ it) (its : Array Value) : Draws prog w A it [it, a] its.size (fun i v => its[i]? = some v) (fun i h => IsIt b h it a i ∧ IsSq b h a its) := by
  cases b with
  | true => exact Draws.list hh it a hne its
  | false => exact Draws.tuple hh it a hne its
def itObj (b : Bool) (a : Addr) : Obj := match b with
  | true => { cls := .type "list_iterator", data := .fields #[.ref a, .int 0 0] }
  | false => { cls := .type "tuple_iterator", data := .fields #[.ref a, .int 0 0] }
theorem begins (b : Bool) (a : Addr) (its : Array Value) : Begins (.ref a) (itObj b a) fun h => IsSq b h a its := by
  cases b with
  | true => exact begins_list a its
  | false => exact begins_tuple a its
theorem isIt_new {h : Heap} {it : Addr} (e : h.get? it = some (itObj b a)) : IsIt b h it a 0 := by
  cases b with
  | true => exact ⟨_, e, rfl, rfl⟩
  | false => exact ⟨_, e, rfl, rfl⟩
theorem IsSq.there {h : Heap} {its : Array Value} (x : IsSq b h a its) : a < h.objs.size := by
  cases b with
  | true => obtain ⟨o, e, _⟩ := x; exact Heap.lt_size e
  | false => obtain ⟨o, e, _⟩ := x; exact Heap.lt_size e
end
def ItzG (K : PySem.W.Frag) (b1 b2 : Bool) (a b : Addr) : It :=
  ⟨fun i H => ∃ (xs ys : List V) (x y : V), Sq b1 K H a xs ∧ Sq b2 K H b ys ∧ xs[i]? = some x ∧ ys[i]? = some y,
    fun i H v H' => ∃ T x y, v = .ref T ∧ H T = none ∧ H' = upd H T (.tup [x, y]) ∧ (∀ xs, Sq b1 K H a xs → xs[i]? = some x) ∧ ∀ ys, Sq b2 K H b ys → ys[i]? = some y,
    fun i H => ∃ xs ys : List V, Sq b1 K H a xs ∧ Sq b2 K H b ys ∧ i ≤ xs.length ∧ i ≤ ys.length ∧ (i = xs.length ∨ i = ys.length)⟩
theorem turn_zipG {P : Program} {w : World} {K : PySem.W.Frag} {elts : List Expr} {kk : Nat} {tpos : Pos} {b1 b2 : Bool} {a b z TI TO i1 i2 : Addr} (D : ZipSep2 z TI TO i1 i2 [i1, a] [i2, b]) (n1 : a ≠ i1) (n2 : b ≠ i2) :
    Turn P w K (.Tuple elts kk tpos) (ItzG K b1 b2 a b) [z, TI, TO, i1, i2] z (fun i h => IsZip h z TI TO .none ∧ IsTupOf2 h TI (.ref i1) (.ref i2) ∧ (∃ x y, IsTupOf2 h TO x y) ∧ IsIt b1 h i1 a i ∧ IsIt b2 h i2 b i) where
  mem := by simp
  obj := fun i h st c hc => by
    obtain ⟨hz, hTI, ⟨x, y, hTO⟩, h1, h2⟩ := st
    have e' : c = z ∨ c = TI ∨ c = TO ∨ c = i1 ∨ c = i2 := by simpa using hc
    rcases e' with q | q | q | q | q
    · rw [q]; exact ⟨_, hz, fun v q => nomatch q⟩
    · rw [q]; exact ⟨_, hTI, fun v q => nomatch q⟩
    · rw [q]; exact ⟨_, hTO, fun v q => nomatch q⟩
    · rw [q]; exact h1.obj
    · rw [q]; exact h2.obj
  keep := fun i h h' st k => by
    obtain ⟨hz, hTI, ⟨x, y, hTO⟩, h1, h2⟩ := st
    exact ⟨k z (by simp) _ hz, k TI (by simp) _ hTI, ⟨x, y, k TO (by simp) _ hTO⟩, h1.at fun o q => k i1 (by simp) o q, h2.at fun o q => k i2 (by simp) o q⟩
  item := by
    intro X hP hw hK hc i pins s σ H E I hf st hg
    subst hP hw hK
    obtain ⟨hz, hTI, ⟨x0, y0, hTO⟩, h1, h2⟩ := st
    obtain ⟨xs, ys, x, y, hqx, hqy, hx, hy⟩ := hg
    obtain ⟨its, rv, p⟩ := hqx.get I
    obtain ⟨its2, rv2, p2⟩ := hqy.get I
    obtain ⟨u, hu, ru⟩ := rv.get hx
    obtain ⟨u2, hu2, ru2⟩ := rv2.get hy
    have hzl : z < s.heap.objs.size := Heap.lt_size hz
    have hil : i < its.toArray.size := by have := (List.getElem?_eq_some_iff.mp hu).1; simpa using this
    have hil2 : i < its2.toArray.size := by have := (List.getElem?_eq_some_iff.mp hu2).1; simpa using this
    refine wpAny_pyNext_zipD2_item D (draws (b := b1) (A := X.A.in1) (I.ok.hd hc) i1 n1 its.toArray) (draws (b := b2) (A := X.A.in1) (I.ok.hd hc) i2 n2 its2.toArray) hz hTI hTO ⟨h1, p⟩ ⟨h2, p2⟩ hil hil2 fun x1 x2 h' tk y1 y2 z' TO' s1 s2 hT hsz hk => ?_
    have e1 : x1 = u := by
      have : its.toArray[i]? = some u := by simpa using hu
      rw [this] at y1; exact (Option.some.inj y1).symm
    have e2 : x2 = u2 := by
      have : its2.toArray[i]? = some u2 := by simpa using hu2
      rw [this] at y2; exact (Option.some.inj y2).symm
    subst e1 e2
    refine ⟨_, rfl, wpAny_letOwnedTupleGo_zip (s := { s with heap := h', toks := tk }) z' fun h'' z'' sb => ?_⟩
    have hT2 : h''.get? s.heap.objs.size = some { cls := .type "tuple", data := .seq #[x1, x2] } := (sb.2 _ (Nat.ne_of_gt hzl)).trans hT
    have new : ObjOk X.prog X.w (upd H s.heap.objs.size (.tup [x, y])) h'' s.heap.objs.size (.tup [x, y]) :=
      ⟨by show 2 ≤ sizeLine; decide, [x1, x2], .cons ru (.cons ru2 .nil), ⟨_, hT2, rfl, _, rfl⟩⟩
    have I1 : Inv X pins σ (upd H s.heap.objs.size (.tup [x, y])) { s with heap := h'', toks := tk } :=
      I.turnedNew (t' := tk) (ch := [z, TI, TO, i1, i2]) (fun c o hb q => (sb.2 c (fun q' => hb (by simp [q']))).trans (hk c o (fun q' => hb (by simp [q'])) (fun q' => hb (by simp [q'])) (fun q' => hb (by simp [q'])) (fun q' => hb (by simp [q'])) q)) hf (Nat.le_refl _) new
    refine ⟨.ref s.heap.objs.size, _, I1, rfl, ⟨_, x, y, rfl, I.hok.fresh (Nat.le_refl _), rfl, fun l hl => by rw [hl.inj I hqx]; exact hx, fun l hl => by rw [hl.inj I hqy]; exact hy⟩, ⟨z'', ?_, ⟨x1, x2, ?_⟩, ?_, ?_⟩, fun c hcm => ?_⟩
    · exact (sb.2 _ D.TIz).trans (hk _ _ D.TIz D.TITO D.TIi1 D.TIi2 hTI)
    · exact (sb.2 _ D.TOz).trans TO'
    · exact s1.1.at fun o q => (sb.2 i1 (Ne.symm D.zi1)).trans q
    · exact s2.1.at fun o q => (sb.2 i2 (Ne.symm D.zi2)).trans q
    · have hlt : c < s.heap.objs.size := by
        have e' : c = z ∨ c = TI ∨ c = TO ∨ c = i1 ∨ c = i2 := by simpa using hcm
        rcases e' with q | q | q | q | q
        · rw [q]; exact hzl
        · rw [q]; exact Heap.lt_size hTI
        · rw [q]; exact Heap.lt_size hTO
        · rw [q]; obtain ⟨_, e1, _⟩ := h1.obj; exact Heap.lt_size e1
        · rw [q]; obtain ⟨_, e2, _⟩ := h2.obj; exact Heap.lt_size e2
      rw [upd_ne (Nat.ne_of_lt hlt)]
      exact (hf c hcm).1
  done := by
    intro X hP hw hK hc i pins s σ H E I hf st hg
    subst hP hw hK
    obtain ⟨hz, hTI, ⟨x0, y0, hTO⟩, h1, h2⟩ := st
    obtain ⟨xs, ys, hqx, hqy, g1, g2, hend⟩ := hg
    obtain ⟨its, rv, p⟩ := hqx.get I
    obtain ⟨its2, rv2, p2⟩ := hqy.get I
    have l1 := rv.length
    have l2 := rv2.length
    exact wpAny_pyNext_zipD2_end D (draws (b := b1) (A := X.A.in1) (I.ok.hd hc) i1 n1 its.toArray) (draws (b := b2) (A := X.A.in1) (I.ok.hd hc) i2 n2 its2.toArray) hz hTI hTO ⟨h1, p⟩ ⟨h2, p2⟩ (by simp; omega) (by simp; omega) (by simp; omega) fun h' tk hk => ⟨rfl, I.turnedL (t' := tk) (ch := [z, TI, TO, i1, i2]) (fun c o hb q =>
      hk c o (fun q' => hb (by simp [q'])) (fun q' => hb (by simp [q'])) (fun q' => hb (by simp [q'])) (fun q' => hb (by simp [q'])) q) hf⟩
  self := fun A i s Q E st h => wpAny_pyIter_zip st.1 h
def iZipG (K : PySem.W.Frag) (ta : TA) : TI := fun σ H R => ta σ H fun vs H1 => ∃ (b1 b2 : Bool) (a b : Addr) (xs ys : List V), vs = [.ref a, .ref b] ∧ Sq b1 K H1 a xs ∧ Sq b2 K H1 b ys ∧ R (ItzG K b1 b2 a b) H1
theorem pi_zipG {X : Cx} {e e2 : Expr} {ta : TA} {p pos tpos : Pos} {elts : List Expr} {kk : Nat} (hg : Gl X "zip") (hm : X.mg "zip" = none) (ha : PA X [e, e2] ta)
    (hs : starEach [e, e2] X.env = (false, eval e X.env) :: starEach [e2] X.env := by exact ste rfl) (hpl : (backTo pos (starEach [e2] X.env)).any (·.1) = false := by rfl) :
    PI X (.Tuple elts kk tpos) (.Call (.Name "zip" p) [e, e2] [] pos) (iZipG X.K ta) := by
  refine ⟨fun pins s σ H R I h => ?_⟩
  refine Call_ (ld_blt I hg hm PyProof.Rows.boot_zip (PyProof.Rows.callWith_type1 (thn (ha.run pos pins s σ H _ I h) fun us s1 ⟨vs, H1, I1, r1, q1⟩ => ?_) hs hpl))
  obtain ⟨b1, b2, a, b, xs, ys, ex, hqx, hqy, q⟩ := q1
  subst ex
  cases r1 with
  | cons r rr =>
    cases rr with
    | cons r' rr =>
      cases rr
      cases r
      cases r'
      have fresh5 : ∀ c, c ∈ [s1.heap.objs.size + 4, s1.heap.objs.size + 2, s1.heap.objs.size + 3, s1.heap.objs.size, s1.heap.objs.size + 1] → FpOk X pins H1 c := fun c hcm => by
        have hle : s1.heap.objs.size ≤ c := by
          have e' : c = s1.heap.objs.size + 4 ∨ c = s1.heap.objs.size + 2 ∨ c = s1.heap.objs.size + 3 ∨ c = s1.heap.objs.size ∨ c = s1.heap.objs.size + 1 := by simpa using hcm
          have z1 : ∀ k : Nat, s1.heap.objs.size ≤ s1.heap.objs.size + k := fun k => Nat.le_add_right _ _
          rcases e' with z | z | z | z | z
          · rw [z]; exact z1 4
          · rw [z]; exact z1 2
          · rw [z]; exact z1 3
          · rw [z]; exact Nat.le_refl _
          · rw [z]; exact z1 1
        exact I1.fpOk hle (I1.hok.fresh hle)
      obtain ⟨its, rv, p1⟩ := hqx.get I1
      obtain ⟨its2, rv2, p2⟩ := hqy.get I1
      have ha := p1.there
      have hb := p2.there
      refine zip_begins2 (begins b1 a its.toArray) (begins b2 b its2.toArray) p1 p2 fun h' hz hTI hTO h1 h2 hsz hk => wpAny_pyIter_zip hz ?_
      have I2 : Inv X pins σ H1 { s1 with heap := h' } := I1.kept (t' := s1.toks) hk
      exact ⟨s1.heap.objs.size + 4, [s1.heap.objs.size + 4, s1.heap.objs.size + 2, s1.heap.objs.size + 3, s1.heap.objs.size, s1.heap.objs.size + 1], _, _, H1, rfl, I2,
        turn_zipG (b1 := b1) (b2 := b2) (zip_sep2 (N := s1.heap.objs.size) (fp1 := [a]) (fp2 := [b]) (by simpa using ha) (by simpa using hb)) (Nat.ne_of_lt ha) (Nat.ne_of_lt (Nat.lt_succ_of_lt hb)), ⟨hz, hTI, ⟨_, _, hTO⟩, isIt_new h1, isIt_new h2⟩, fresh5, q⟩
/-! enumerate -/
theorem meets_enumB {v : Value} {o : Obj} {H : Heap → Prop} (B : Begins v o H) :
    Meets (Builtin.«enumerate.__new__» ⟨[.type "enumerate", v], []⟩) (fun _ R s => H s.heap ∧
      R (.ok (.ret (.ref (s.heap.push o).objs.size))) { s with heap := (s.heap.push o).push { cls := .type "enumerate", data := .fields #[.none, .bool false, .ref s.heap.objs.size, rawInt 0, .none, .none] } }) :=
  .of_wp fun prog w A R s h => by
    obtain ⟨hp, g, d, tk, os⟩ := s; obtain ⟨h1, h⟩ := h
    have hsub := sub_enumerate
    have q1 : ∀ {A' : Around} {E : Value → Shared → Prop} {Q : Value → Shared → Prop}, Q (.ref hp.objs.size) ⟨hp.push o, g, d, tk, os⟩ → wpAny (model prog w) A' (pyIter v) Q E ⟨hp, g, d, tk, os⟩ :=
      fun q => B.iter prog w _ _ ⟨hp, g, d, tk, os⟩ _ h1 q
    wp_walk using q1
    refine wpAny_stack_any fun st => wpAny_pure ?_
    split
    · rename_i c _ _ _ _ _
      cases (c == Value.type "enumerate")
      · wp_walk using q1
        exact ⟨_, rfl, h⟩
      · wp_walk using q1
        exact ⟨_, rfl, h⟩
    · wp_walk using q1
      exact ⟨_, rfl, h⟩
theorem enum_new {prog : Program} {w : World} {A : Around} {E : Value → Shared → Prop} {s : Shared} {v : Value} {o : Obj} {H : Heap → Prop} {Q : Value → Shared → Prop} (B : Begins v o H) (h1 : H s.heap)
    (h : ∀ h', IsEnum h' (s.heap.objs.size + 1) s.heap.objs.size 0 .none → h'.get? s.heap.objs.size = some o → h'.objs.size = s.heap.objs.size + 2 →
      (∀ b o, s.heap.get? b = some o → h'.get? b = some o) → Q (.ref (s.heap.objs.size + 1)) { s with heap := h' }) :
    wpAny (model prog w) A (call (.type "enumerate") [v]) Q E s := by
  refine callType_new F.called_enumerate (by decide) (F.typeCall_enumerate_1 _) (F.newCall_enumerate_1 _) (fun obj => F.args_object_init_2 obj _) F.entry_enumerate_new
    (meets_enumB B) ⟨h1, ?_⟩
  have hz : (s.heap.push o).objs.size = s.heap.objs.size + 1 := Heap.size_push ..
  show _ ∧ _
  rw [hz]
  have he : IsEnum ((s.heap.push o).push { cls := .type "enumerate", data := .fields #[.none, .bool false, .ref s.heap.objs.size, rawInt 0, .none, .none] }) (s.heap.objs.size + 1) s.heap.objs.size 0 .none := by
    have := Heap.get?_push_size (s.heap.push o) (o := { cls := .type "enumerate", data := .fields #[.none, .bool false, .ref s.heap.objs.size, rawInt 0, .none, .none] }) rfl
    rw [hz] at this; exact this
  refine ⟨⟨_, he, rfl⟩, h _ he (Heap.get?_push_of_some _ (Heap.get?_push_size _ B.free)) (by rw [Heap.size_push, hz]) fun b o x => Heap.get?_push_of_some _ (Heap.get?_push_of_some _ x)⟩
def IteG (K : PySem.W.Frag) (b : Bool) (a : Addr) : It :=
  ⟨fun i H => ∃ (xs : List V) (x : V), Sq b K H a xs ∧ xs[i]? = some x, fun i H v H' => ∃ T x, v = .ref T ∧ H T = none ∧ H' = upd H T (.tup [.int (i : Nat), x]) ∧ ∀ xs, Sq b K H a xs → xs[i]? = some x, fun i H => ∃ xs : List V, Sq b K H a xs ∧ xs.length = i⟩
theorem turn_enumG {P : Program} {w : World} {K : PySem.W.Frag} {elts : List Expr} {kk : Nat} {tpos : Pos} {b : Bool} (a e it : Addr) (n1 : a ≠ it) (n2 : e ≠ it) (n3 : e ≠ a) :
    Turn P w K (.Tuple elts kk tpos) (IteG K b a) [e, it] e (fun i h => (∃ old, IsEnum h e it ((i : Nat) : Int) old) ∧ IsIt b h it a i) where
  mem := by simp
  obj := fun i h st c hc => by
    obtain ⟨⟨old, he⟩, h1⟩ := st
    have e' : c = e ∨ c = it := by simpa using hc
    rcases e' with z | z
    · rw [z]; exact ⟨_, he, fun v q => nomatch q⟩
    · rw [z]; exact h1.obj
  keep := fun i h h' st k => let ⟨⟨old, he⟩, hi⟩ := st; ⟨⟨old, k e (by simp) _ he⟩, hi.at fun o q => k it (by simp) o q⟩
  item := by
    intro X hP hw hK hc i pins s σ H E I hf st hg
    subst hP hw hK
    obtain ⟨⟨old, he⟩, hit⟩ := st
    obtain ⟨xs, x, hq, hx⟩ := hg
    obtain ⟨its, rv, p⟩ := hq.get I
    obtain ⟨u, hu, ru⟩ := rv.get hx
    have hel : e < s.heap.objs.size := Heap.lt_size he
    have hil : it < s.heap.objs.size := by obtain ⟨_, q, _⟩ := hit.obj; exact Heap.lt_size q
    have hlt : i < its.toArray.size := by have := (List.getElem?_eq_some_iff.mp hu).1; simpa using this
    refine wpAny_pyNext_enum_itemD (draws (b := b) (A := X.A.in1) (I.ok.hd hc) it n1 its.toArray) he ⟨hit, p⟩ hlt n2 (by simp [n2, n3]) fun y h' tk hy ho hit' hT hsz hk => ?_
    have e1 : y = u := by
      have : its.toArray[i]? = some u := by simpa using hu
      rw [this] at hy; exact (Option.some.inj hy).symm
    subst e1
    refine ⟨_, rfl, wpAny_letOwnedTupleGo_enum (s := { s with heap := h', toks := tk + 1 }) ho fun h'' he' sb => ?_⟩
    have hT2 : h''.get? s.heap.objs.size = some { cls := .type "tuple", data := .seq #[.int i tk, y] } := (sb.2 _ (Nat.ne_of_gt hel)).trans hT
    have new : ObjOk X.prog X.w (upd H s.heap.objs.size (.tup [.int (i : Nat), x])) h'' s.heap.objs.size (.tup [.int (i : Nat), x]) :=
      ⟨by show 2 ≤ sizeLine; decide, [.int i tk, y], .cons ⟨_, rfl⟩ (.cons ru .nil), ⟨_, hT2, rfl, _, rfl⟩⟩
    have I1 : Inv X pins σ (upd H s.heap.objs.size (.tup [.int (i : Nat), x])) { s with heap := h'', toks := tk + 1 } :=
      I.turnedNew (ch := [e, it]) (fun c ob hb q => (sb.2 c (fun z => hb (by simp [z]))).trans (hk c ob (fun z => hb (by simp [z])) (fun z => hb (by simp [z])) q)) hf (Nat.le_refl _) new
    refine ⟨.ref s.heap.objs.size, _, I1, rfl, ⟨_, x, rfl, I.hok.fresh (Nat.le_refl _), rfl, fun ys hy => by rw [hy.inj I hq]; exact hx⟩, ⟨⟨y, ?_⟩, hit'.1.at fun o q => (sb.2 it (Ne.symm n2)).trans q⟩, fun c hb => ?_⟩
    · have e1 : ((i + 1 : Nat) : Int) = (i : Int) + 1 := by omega
      rw [e1]; exact he'
    · have hb' : c < s.heap.objs.size := by
        have e' : c = e ∨ c = it := by simpa using hb
        rcases e' with z | z
        · rw [z]; exact hel
        · rw [z]; exact hil
      rw [upd_ne (Nat.ne_of_lt hb')]
      exact (hf c hb).1
  done := by
    intro X hP hw hK hc i pins s σ H E I hf st hg
    subst hP hw hK
    obtain ⟨⟨old, he⟩, hit⟩ := st
    obtain ⟨xs, hq, hx⟩ := hg
    obtain ⟨its, rv, p⟩ := hq.get I
    obtain ⟨f0, f1, f2, f3, f4, f5⟩ := hf it (by simp)
    have hl := rv.length
    have hn : i = its.toArray.size := by simp; omega
    subst hn
    exact wpAny_pyNext_enum_endD (draws (b := b) (A := X.A.in1) (I.ok.hd hc) it n1 its.toArray) he ⟨hit, p⟩ fun h' eb => ⟨rfl, I.turned (t' := s.toks) (fun c o hb q => eb c o hb q) f0 f1 f3 f4 f5⟩
  self := fun A i s Q E st h => let ⟨⟨_, he⟩, _⟩ := st; wpAny_pyIter_enum he h
def iEnumG (K : PySem.W.Frag) (ta : TA) : TI := fun σ H R => ta σ H fun vs H1 => ∃ (b : Bool) (a : Addr) (xs : List V), vs = [.ref a] ∧ Sq b K H1 a xs ∧ R (IteG K b a) H1
theorem pi_enumG {X : Cx} {e : Expr} {ta : TA} {p pos tpos : Pos} {elts : List Expr} {kk : Nat} (hg : Gl X "enumerate") (hm : X.mg "enumerate" = none) (ha : PA X [e] ta) (hs : starEach [e] X.env = [(false, eval e X.env)] := by exact ste rfl) :
    PI X (.Tuple elts kk tpos) (.Call (.Name "enumerate" p) [e] [] pos) (iEnumG X.K ta) := by
  refine ⟨fun pins s σ H R I h => ?_⟩
  refine Call_ (ld_blt I hg hm boot_enumerate (PyProof.Rows.callWith_type1 (thn (ha.run pos pins s σ H _ I h) fun us s1 ⟨vs, H1, I1, r1, q1⟩ => ?_) hs rfl))
  obtain ⟨b, a, xs, ex, hq, q⟩ := q1
  subst ex
  cases r1 with
  | cons r rr =>
    cases rr
    cases r
    obtain ⟨its, rv, p'⟩ := hq.get I1
    have hal := p'.there
    refine enum_new (begins b a its.toArray) p' fun h' he hit hsz hk => wpAny_pyIter_enum he ?_
    have I2 : Inv X pins σ H1 { s1 with heap := h' } := I1.kept (t' := s1.toks) hk
    refine ⟨s1.heap.objs.size + 1, [s1.heap.objs.size + 1, s1.heap.objs.size], _, _, H1, rfl, I2, turn_enumG (b := b) a (s1.heap.objs.size + 1) s1.heap.objs.size (Nat.ne_of_lt hal) (Nat.succ_ne_self _) (Nat.ne_of_gt (Nat.lt_succ_of_lt hal)), ⟨⟨.none, he⟩, isIt_new hit⟩, fun c hb => ?_, q⟩
    have e' : c = s1.heap.objs.size + 1 ∨ c = s1.heap.objs.size := by simpa using hb
    have hle : s1.heap.objs.size ≤ c := by
      rcases e' with z | z
      · rw [z]; exact Nat.le_add_right _ _
      · rw [z]; exact Nat.le_refl _
    exact I1.fpOk hle (I1.hok.fresh hle)
/-! ### as rules over data -/
section
variable [Tb] {K : PySem.W.Frag} {Hb Hb' H H' : Hp} {fx : List Addr} {B B' : Addr → Prop} {ρ ρ' : Rho} {σ σ' : L2.St} {X : Cx} {W : WX} {S : Addr → Prop} {pos p tpos : Pos} {elts : List Expr} {kk : Nat}
omit [Tb] in
theorem walk_zipG {b1 b2 : Bool} {a b : Addr} {xs ys : List V} {n : Nat} (hn : n = min xs.length ys.length) : Walk (ItzG K b1 b2 a b) n (fun H => Sq b1 K H a xs ∧ Sq b2 K H b ys) (YPair (fun i => xs[i]?) (fun i => ys[i]?)) := by
  subst hn
  refine ⟨fun i _ hi q => ?_, fun _ q => ⟨xs, ys, q.1, q.2, by omega, by omega, by omega⟩, fun i H v H' _ q y => ?_⟩
  · have h1 : i < xs.length := by omega
    have h2 : i < ys.length := by omega
    exact ⟨xs, ys, xs[i], ys[i], q.1, q.2, by simp [h1], by simp [h2]⟩
  · obtain ⟨T, x, z, h1, h2, h3, h4, h5⟩ := y
    exact ⟨T, x, z, h1, h2, h3, h4 xs q.1, h5 ys q.2⟩
omit [Tb] in
theorem walk_enumG {b : Bool} {a : Addr} {xs : List V} : Walk (IteG K b a) xs.length (fun H => Sq b K H a xs) (YPair (fun i => some (.int (i : Nat))) (fun i => xs[i]?)) := by
  refine ⟨fun i _ hi q => ⟨xs, xs[i], q, by simp [hi]⟩, fun _ q => ⟨xs, q, rfl⟩, fun i H v H' _ q y => ?_⟩
  obtain ⟨T, x, h1, h2, h3, h4⟩ := y
  exact ⟨T, .int (i : Nat), x, h1, h2, h3, rfl, h4 xs q⟩
omit [Tb] in
/-- data that is a list or a tuple, as a thing to be walked -/
theorem sq_walk {v : V} {d : PyData} {l : List PyData} (h : Dq (hide H S) v d) (e : seqD d = some l) : ∃ (b : Bool) (a : Addr) (xs : List V), v = .ref a ∧ DqA (hide H S) xs l ∧ ∀ H', Same (hide H S) H' → Sq b K H' a xs := by
  cases d with
  | list l' =>
    cases e
    cases h with
    | @lst a xs _ r q => exact ⟨true, a, xs, rfl, q, fun H' s => .inl (rd_mono s r)⟩
  | tuple l' =>
    cases e
    cases h with
    | @tup a xs _ r q => exact ⟨false, a, xs, rfl, q, fun H' s => SqT.of (s _ _ r)⟩
  | none => cases e
  | bool _ => cases e
  | int _ => cases e
  | str _ => cases e
  | dict _ => cases e
def zipD (l m : List PyData) : List PyData := List.zipWith (fun x y => .tuple [x, y]) l m
def enumD : Nat → List PyData → List PyData
  | _, [] => []
  | n, d :: r => .tuple [.int (n : Int), d] :: enumD (n + 1) r
omit [Tb] in
theorem enumD_len : ∀ (l : List PyData) (n : Nat), (enumD n l).length = l.length
  | [], _ => rfl
  | d :: r, n => by show (enumD (n + 1) r).length + 1 = r.length + 1; rw [enumD_len r]
omit [Tb] in
theorem enumD_get : ∀ (l : List PyData) (n i : Nat) (d : PyData), l[i]? = some d → (enumD n l)[i]? = some (.tuple [.int ((n + i : Nat) : Int), d])
  | [], _, _, _, h => by cases h
  | x :: r, n, 0, d, h => by cases h; rfl
  | x :: r, n, i + 1, d, h => by
    have := enumD_get r (n + 1) i d h
    show (enumD (n + 1) r)[i]? = _
    rw [this, show n + 1 + i = n + (i + 1) by omega]
def gZip : List PyData → Option (List PyData)
  | [d, e] => match seqD d, seqD e with
    | some l, some m => some (zipD l m)
    | _, _ => none
  | _ => none
def gEnum : List PyData → Option (List PyData)
  | [d] => (seqD d).map (enumD 0)
  | _ => none
/-- arguments of zip, enumerate: lists of one's own are not changed any more -/
def dItr (g : List PyData → Option (List PyData)) (fs : Rho → Res (List Rv)) (ρ : Rho) : Res (List PyData) := (fs ρ).bind fun rs ρ1 => match frzAll rs ρ1 with
  | some (ds, ρ2) => ofOpt (g ds) ρ2
  | none => .stuck
theorem itr_seq {es : List Expr} {fs : Rho → Res (List Rv)} {g : List PyData → Option (List PyData)} {R : List V → Hp → Prop} (h : SA X W es fs) (A : Abs X.K Hb fx B ρ σ H) {R' : It → Hp → Prop}
    (q : Post (fun ds ρ' => ∀ J H', LenOk X.K H' → Abs X.K Hb fx B ρ' σ H' → Yields (hide H' (Bad fx B ρ' σ)) J ds → ds.length ≤ sizeLine → R' J H') (ErrE X W Hb fx B σ) (dItr g fs ρ))
    (fin : ∀ vs ds l H' S, LenOk X.K H' → DqA (hide H' S) vs ds → g ds = some l → (∀ J, Yields (hide H' S) J l → l.length ≤ sizeLine → R' J H') → R vs H') : wpA X es σ H R := by
  refine h Hb fx B ρ σ H _ A (q.of_bind.mono (fun rs ρ1 z vs H1 l1 A1 q1 => ?_) fun _ _ z => z)
  cases e : frzAll rs ρ1 with
  | none => simp only [e] at z; exact z.elim
  | some x =>
    obtain ⟨ds, ρ2⟩ := x
    simp only [e] at z
    obtain ⟨A2, q2, _⟩ := frzAll_ok A1 q1 e
    obtain ⟨l, e2, z⟩ := z.of_opt
    exact fin vs ds l H1 _ l1 q2 e2 fun J y n => z J H1 l1 A2 y n
omit [Tb] in
theorem sq_len {b : Bool} {a : Addr} {xs : List V} (l : LenOk K H) (h : Sq b K H a xs) : xs.length ≤ sizeLine := by
  cases b with
  | true => exact l.1 a xs h
  | false => exact l.2 a xs h
theorem si_zip {a b : Expr} {fs : Rho → Res (List Rv)} (hg : Gl X "zip") (hm : X.mg "zip" = none) (h : SA X W [a, b] fs)
    (hs : starEach [a, b] X.env = (false, eval a X.env) :: starEach [b] X.env := by exact ste rfl) (hpl : (backTo pos (starEach [b] X.env)).any (·.1) = false := by rfl) : SI X W (.Tuple elts kk tpos) (.Call (.Name "zip" p) [a, b] [] pos) (dItr gZip fs) := .mk fun Hb fx B ρ σ H R A q =>
  wp_pi (pi_zipG hg hm pa_wp hs hpl) (itr_seq h A q fun vs ds l H' S ll lo e z => by
    unfold gZip at e
    split at e
    · rename_i d1 d2
      cases e1 : seqD d1 with
      | none => rw [e1] at e; cases e
      | some l1 =>
        cases e2 : seqD d2 with
        | none => rw [e1, e2] at e; cases e
        | some l2 =>
          rw [e1, e2] at e
          cases e
          cases lo with
          | cons q1 lo =>
            cases lo with
            | cons q2 lo =>
              cases lo
              obtain ⟨b1, a1, xs, rfl, d1, k1⟩ := sq_walk (K := X.K) q1 e1
              obtain ⟨b2, a2, ys, rfl, d2, k2⟩ := sq_walk (K := X.K) q2 e2
              have n1 := dpa_len d1
              have n2 := dpa_len d2
              have hz : (zipD l1 l2).length = min xs.length ys.length := by unfold zipD; rw [List.length_zipWith, n1, n2]
              refine ⟨b1, b2, a1, a2, xs, ys, rfl, k1 _ hide_sub, k2 _ hide_sub, z _ ?_ ?_⟩
              · unfold Yields
                refine (walk_zipG (K := X.K) (b1 := b1) (b2 := b2) (a := a1) (b := a2) hz).mono (fun H2 s => ⟨k1 _ s, k2 _ s⟩) fun i H2 x H3 hi s ⟨T, x1, x2, h1, h2, h3, h4, h5⟩ => ?_
                obtain ⟨y1, w1, w2⟩ := dpa_get' d1 h4
                obtain ⟨y2, w3, w4⟩ := dpa_get' d2 h5
                refine ⟨.tuple [y1, y2], ?_, .inr ⟨T, [x1, x2], [y1, y2], h1, rfl, h2, h3, .cons w2 (.cons w4 .nil)⟩⟩
                unfold zipD
                rw [List.getElem?_zipWith, w1, w3]
              · have := sq_len ll (k1 _ hide_sub)
                rw [hz]; omega
    · cases e)
theorem si_enum {a : Expr} {fs : Rho → Res (List Rv)} (hg : Gl X "enumerate") (hm : X.mg "enumerate" = none) (h : SA X W [a] fs) (hs : starEach [a] X.env = [(false, eval a X.env)] := by exact ste rfl) : SI X W (.Tuple elts kk tpos) (.Call (.Name "enumerate" p) [a] [] pos) (dItr gEnum fs) := .mk fun Hb fx B ρ σ H R A q =>
  wp_pi (pi_enumG hg hm pa_wp hs) (itr_seq h A q fun vs ds l H' S ll lo e z => by
    unfold gEnum at e
    split at e
    · rename_i d1
      cases e1 : seqD d1 with
      | none => rw [e1] at e; cases e
      | some l1 =>
        rw [e1] at e
        cases e
        cases lo with
        | cons q1 lo =>
          cases lo
          obtain ⟨b1, a1, xs, rfl, d1, k1⟩ := sq_walk (K := X.K) q1 e1
          have n1 := dpa_len d1
          refine ⟨b1, a1, xs, rfl, k1 _ hide_sub, z _ ?_ ?_⟩
          · unfold Yields
            rw [enumD_len, ← n1]
            refine (walk_enumG (K := X.K) (b := b1) (a := a1) (xs := xs)).mono (fun H2 s => k1 _ s) fun i H2 x H3 hi s ⟨T, x1, x2, h1, h2, h3, h4, h5⟩ => ?_
            obtain ⟨y2, w3, w4⟩ := dpa_get' d1 h5
            cases h4
            refine ⟨.tuple [.int (i : Int), y2], ?_, .inr ⟨T, [.int (i : Nat), x2], [.int (i : Int), y2], h1, rfl, h2, h3, .cons (.int _) (.cons w4 .nil)⟩⟩
            rw [enumD_get l1 0 i y2 w3, Nat.zero_add]
          · have := sq_len ll (k1 _ hide_sub)
            rw [enumD_len, ← n1]; exact this
    · cases e)
end
end R
namespace R
open PySem PySem.Spec L2
open PyProof.Rows hiding St
section
variable [Tb] {K : PySem.W.Frag} {Hb Hb' H H' : Hp} {fx : List Addr} {B B' : Addr → Prop} {ρ ρ' : Rho} {σ σ' : L2.St} {p : Addr} {o : HO} {X : Cx} {W : WX} {S : Addr → Prop} {pos : Pos} {D : Ends} {tg : Expr}
/-! ### not served -/
def dNo {α : Type} (_ : Rho) : Res α := .stuck
def dNoS (_ : Rho) : Ou := .stuck
theorem se_no {e : Expr} : SE X W e dNo := .mk fun Hb fx B ρ σ H Q A h => h.elim
theorem st_no {e : Expr} : ST X W e dNo := .mk fun Hb fx B ρ σ H Q A h => h.elim
theorem sa_no {e : List Expr} : SA X W e dNo := .mk fun Hb fx B ρ σ H Q A h => h.elim
theorem si_no {e : Expr} : SI X W tg e dNo := .mk fun Hb fx B ρ σ H Q A h => h.elim
theorem ss_no {st : Stmt} : SS X W st dNoS := .mk fun Hb fx B ρ σ H D A h => h.elim
theorem sss_no {st : List Stmt} : SSs X W st dNoS := .mk fun Hb fx B ρ σ H D A h => h.elim
/-! ### - e -/
def dNeg (f : Rho → Res Rv) (ρ : Rho) : Res Rv := (f ρ).bind fun r ρ1 => match rd ρ1 r with
  | some (.int i) => .ok (.dat (.int (-i))) ρ1
  | _ => .stuck
theorem se_neg {a : Expr} {f : Rho → Res Rv} (h : SE X W a f) : SE X W (.UnaryOp .USub a pos) (dNeg f) := .mk fun Hb fx B ρ σ H Q A q => by
  refine wpE_len (wp_pe (pe_un un_neg pe_wp) ?_)
  refine h Hb fx B ρ σ H _ A (q.of_bind.mono (fun r ρ1 h1 v H1 l1 A1 q1 => ?_) fun _ _ z => z)
  split at h1
  · rename_i i e
    have := (q1.lo A1 e).int
    subst this
    exact ⟨i, rfl, fun l => h1 _ _ l A1 (.int _)⟩
  · exact h1.elim
/-! ### sorted of a list of ints -/
def insI (x : Int) : List Int → List Int
  | [] => [x]
  | y :: r => if x ≤ y then x :: y :: r else y :: insI x r
def srtI : List Int → List Int
  | [] => []
  | x :: r => insI x (srtI r)
omit [Tb] in
theorem insI_perm (x : Int) : ∀ l : List Int, (insI x l).Perm (x :: l)
  | [] => .refl _
  | y :: r => by
    unfold insI
    split
    · exact .refl _
    · exact ((insI_perm x r).cons y).trans (.swap x y r)
omit [Tb] in
theorem srtI_perm : ∀ l : List Int, (srtI l).Perm l
  | [] => .refl _
  | x :: r => (insI_perm x _).trans ((srtI_perm r).cons x)
omit [Tb] in
theorem insI_le {x : Int} : ∀ {l : List Int}, l.Pairwise (· ≤ ·) → (insI x l).Pairwise (· ≤ ·)
  | [], _ => by simp [insI]
  | y :: r, h => by
    unfold insI
    split
    · rename_i e
      refine List.pairwise_cons.mpr ⟨fun z hz => ?_, h⟩
      rcases List.mem_cons.mp hz with q | q
      · omega
      · have := (List.pairwise_cons.mp h).1 z q; omega
    · rename_i e
      refine List.pairwise_cons.mpr ⟨fun z hz => ?_, insI_le (List.pairwise_cons.mp h).2⟩
      rcases List.mem_cons.mp ((insI_perm x r).mem_iff.mp hz) with q | q
      · omega
      · exact (List.pairwise_cons.mp h).1 z q
omit [Tb] in
theorem srtI_le : ∀ l : List Int, (srtI l).Pairwise (· ≤ ·)
  | [] => .nil
  | x :: r => insI_le (srtI_le r)
omit [Tb] in
theorem srt_one : ∀ {l m : List Int}, l.Perm m → l.Pairwise (· ≤ ·) → m.Pairwise (· ≤ ·) → l = m
  | [], m, h, _, _ => by rw [List.Perm.nil_eq h]
  | x :: r, [], h, _, _ => by have := h.length_eq; simp at this
  | x :: r, y :: s, h, h1, h2 => by
    have e : x = y := by
      have a1 := (List.pairwise_cons.mp h1).1
      have a2 := (List.pairwise_cons.mp h2).1
      have b1 : x ∈ y :: s := h.mem_iff.mp List.mem_cons_self
      have b2 : y ∈ x :: r := h.mem_iff.mpr List.mem_cons_self
      rcases List.mem_cons.mp b1 with q | q
      · exact q
      · rcases List.mem_cons.mp b2 with q2 | q2
        · exact q2.symm
        · have := a1 y q2; have := a2 x q; omega
    subst e
    rw [srt_one h.cons_inv (List.pairwise_cons.mp h1).2 (List.pairwise_cons.mp h2).2]
def gSortI : List PyData → Option Rv
  | [.list l] => (intsOf l).map fun ns => .new ((srtI ns).map .int)
  | _ => none
omit [Tb] in
theorem ok_sortI : CallD K (rSortedI K) gSortI := by
  intro H S vs ds rv l h e Q q
  unfold gSortI at e
  split at e
  · rename_i d
    cases z : intsOf d with
    | none => rw [z] at e; cases e
    | some ns =>
      rw [z] at e
      cases e
      obtain ⟨v, rfl, g⟩ := h.one
      obtain ⟨p, ws, rfl, r, a⟩ := g.list
      rw [intsOf_eq z] at a
      have := dpa_ints a
      subst this
      refine ⟨p, ns, rfl, .inl r, fun ns' p' h1 h2 h3 => ?_⟩
      have : ns' = srtI ns := srt_one (h1.trans (srtI_perm ns).symm) h2 (srtI_le ns)
      subst this
      exact q _ _ (.new h3 (ints_dpa _))
  · cases e
/-! ### name += e, ints -/
def dAug (i : Nat) (g : PyData → PyData → Option PyData) (f : Rho → Res Rv) (ρ : Rho) : Ou := match ρ[i]? with
  | some (.dat d0) => (f ρ).ou fun r ρ1 => match rd ρ1 r with
    | some d1 => match g d0 d1 with
      | some d2 => .next (ρ1.set i (.dat d2))
      | none => .stuck
    | none => .stuck
  | _ => .stuck
def aAdd : PyData → PyData → Option PyData
  | .int a, .int b => some (.int (a + b))
  | _, _ => none
def aSub : PyData → PyData → Option PyData
  | .int a, .int b => some (.int (a - b))
  | _, _ => none
theorem ss_aug {i : Nat} {x : Str} {e : Expr} {op : Operator} {f : Rho → Res Rv} {h0 : Int → Int → Int} {g : PyData → PyData → Option PyData} {pos' : Pos} (hN : X.N.Nodup) (hi : X.N[i]? = some x) (hx : Loc X.env.scope x) (ho : PIp X op (ipI h0)) (hg : ∀ a b d, g a b = some d → ∃ m n, a = .int m ∧ b = .int n ∧ d = .int (h0 m n)) (h : SE X W e f)
    (hf : X.fn x = true ∨ X.env.scope.names.lookup x = some .local := by first | exact .inl rfl | exact .inr rfl | assumption) :
    SS X W (.AugAssign (.Name x pos') op e pos) (dAug i g f) := .mk fun Hb fx B ρ σ H D A q => by
  unfold dAug at q
  split at q
  · rename_i d0 e0
    obtain ⟨v0, hv0, q0⟩ := A.slot i _ e0
    refine wpS_len (wp_ps (ps_aug hN hi hx pe_wp ho hf) ⟨v0, of_getD hv0, ?_⟩)
    refine h Hb fx B ρ σ H _ A (q.of_ou.mono (fun r ρ1 z v H1 l1 A1 q1 => ?_) fun _ _ z => z)
    split at z
    · rename_i d1 e1
      split at z
      · rename_i d2 e2
        obtain ⟨m, n, rfl, rfl, rfl⟩ := hg _ _ _ e2
        cases q0
        have := (q1.lo A1 e1).int
        subst this
        exact ⟨m, n, rfl, rfl, fun l2 => z _ _ l2 (A1.putDat (.int _))⟩
      · exact z.elim
    · exact z.elim
  · exact q.elim
omit [Tb] in
theorem aAdd_ok (a b d : PyData) (h : aAdd a b = some d) : ∃ m n, a = .int m ∧ b = .int n ∧ d = .int (m + n) := by
  unfold aAdd at h; split at h
  · cases h; exact ⟨_, _, rfl, rfl, rfl⟩
  · cases h
omit [Tb] in
theorem aSub_ok (a b d : PyData) (h : aSub a b = some d) : ∃ m n, a = .int m ∧ b = .int n ∧ d = .int (m - n) := by
  unfold aSub at h; split at h
  · cases h; exact ⟨_, _, rfl, rfl, rfl⟩
  · cases h
/-! ### a, b = e1, e2 -/
def dPar (m1 m2 : Bool) (i j : Nat) (fa fb : Rho → Res Rv) (ρ : Rho) : Ou := (fa ρ).ou fun r1 ρ1 =>
  match m1, r1 with
  | true, .new l1 => (fb ρ1).ou fun r2 ρ2 => match m2, r2 with
    | true, .new l2 => .next ((ρ2.set i (.ls l1)).set j (.ls l2))
    | true, _ => .stuck
    | false, r2 => match frz r2 ρ2 with
      | some (d2, ρ3) => .next ((ρ3.set i (.ls l1)).set j (.dat d2))
      | none => .stuck
  | true, _ => .stuck
  | false, r1 => match frz r1 ρ1 with
    | none => .stuck
    | some (d1, ρ1) => (fb ρ1).ou fun r2 ρ2 => match m2, r2 with
      | true, .new l2 => .next ((ρ2.set i (.dat d1)).set j (.ls l2))
      | true, _ => .stuck
      | false, r2 => match frz r2 ρ2 with
        | some (d2, ρ3) => .next ((ρ3.set i (.dat d1)).set j (.dat d2))
        | none => .stuck
omit [Tb] in
theorem badB {P : Addr → Prop} {a : Addr} : Bad fx (fun a => B a ∨ P a) ρ σ a ↔ Bad fx B ρ σ a ∨ P a := by
  constructor
  · rintro (z | (z | z) | z)
    · exact .inl (.inl z)
    · exact .inl (.inr (.inl z))
    · exact .inr z
    · exact .inl (.inr (.inr z))
  · rintro ((z | z | z) | z)
    · exact .inl z
    · exact .inr (.inl (.inl z))
    · exact .inr (.inr z)
    · exact .inr (.inl (.inr z))
theorem carryC {H1 H2 : Hp} {ρ1 ρ2 : Rho} {σ1 σ2 : L2.St} {C : Addr → Prop} (A : Abs K (hide H1 (Hid fx ρ1 σ1)) fx (fun a => B a ∨ C a) ρ2 σ2 H2) (hC : ∀ a, C a → hide H1 (Hid fx ρ1 σ1) a = none) :
    Same (hide H1 (Bad fx B ρ1 σ1)) (hide H2 (Bad fx (fun a => B a ∨ C a) ρ2 σ2)) := by
  refine hide_mono fun a o n e => ?_
  have h1 : hide H1 (Hid fx ρ1 σ1) a = some o := hide_eq.mpr ⟨fun z => n (Bad.hid z), e⟩
  obtain ⟨n2, e2⟩ := hide_eq.mp (A.same a o h1)
  refine ⟨fun z => ?_, e2⟩
  rcases badB.mp z with (z | z | z) | z
  · exact n2 (.inl z)
  · exact n (.inr (.inl z))
  · exact n2 (.inr z)
  · rw [hC a z] at h1; cases h1
/-- a piece at hand: data, or a new list (its place is P) -/
def PcOk (K : PySem.W.Frag) (Hb : Hp) (fx : List Addr) (B P : Addr → Prop) (ρ : Rho) (σ : L2.St) (H : Hp) (v : V) : Sl → Prop
  | .dat d => Dq (hide H (Bad fx B ρ σ)) v d
  | .ls l => ∃ p vs, v = .ref p ∧ (∀ a, P a ↔ a = p) ∧ H p = some (.lst vs) ∧ ¬ Bad fx B ρ σ p ∧ DqA (hide H (fun a => Bad fx B ρ σ a ∨ a = p)) vs l ∧ Hb p = none
  | _ => False
theorem Abs.pc {P : Addr → Prop} {i : Nat} {v : V} {sl : Sl} (A : Abs K Hb fx B ρ σ H) (AP : Abs K Hb fx (fun a => B a ∨ P a) ρ σ H) (h : PcOk K Hb fx B P ρ σ H v sl) : Abs K Hb fx B (ρ.set i sl) (σ.set i (some v)) H := by
  cases sl with
  | dat d => exact A.putDat h
  | ls l =>
    obtain ⟨p, vs, rfl, hP, h1, h2, h3, h4⟩ := h
    exact (AP.lessB fun a z => z.imp id fun z => (hP a).mpr z).putNew A rfl h2 h4 ⟨p, vs, rfl, h1, h3⟩
  | un => exact h.elim
  | rf _ _ => exact h.elim
  | dk _ => exact h.elim
  | scr _ => exact h.elim
  | fn _ => exact h.elim
  | pv _ => exact h.elim
theorem pc_adv {P C : Addr → Prop} {v : V} {sl : Sl} {H1 H2 : Hp} {ρ1 ρ2 : Rho} (A1 : Abs K Hb fx B ρ1 σ H1) (A3 : Abs K (hide H1 (Hid fx ρ1 σ)) fx (fun a => (B a ∨ P a) ∨ C a) ρ2 σ H2) (hC : ∀ a, C a → hide H1 (Hid fx ρ1 σ) a = none) (h : PcOk K Hb fx B P ρ1 σ H1 v sl) :
    PcOk K Hb fx (fun a => B a ∨ C a) P ρ2 σ H2 v sl := by
  cases sl with
  | dat d => exact dp_mono (carryC (B := B) (A3.lessB fun a z => z.imp .inl id) hC) h
  | ls l =>
    obtain ⟨p, vs, rfl, hP, h1, h2, h3, h4⟩ := h
    have hb : hide H1 (Hid fx ρ1 σ) p = some (.lst vs) := hide_eq.mpr ⟨fun z => h2 (Bad.hid z), h1⟩
    obtain ⟨n2, e2⟩ := hide_eq.mp (A3.same p _ hb)
    refine ⟨p, vs, rfl, hP, e2, fun z => ?_, ?_, h4⟩
    · rcases badB.mp z with (z | z | z) | z
      · exact n2 (.inl z)
      · exact h2 (.inr (.inl z))
      · exact n2 (.inr z)
      · rw [hC p z] at hb; cases hb
    · refine dpa_mono ?_ h3
      refine (hide_mono fun a o n e => ?_ : Same (hide H1 fun a => Bad fx B ρ1 σ a ∨ a = p) (hide H1 (Bad fx (fun a => B a ∨ P a) ρ1 σ))).trans ((carryC A3 hC).trans (hide_mono fun a o n e => ?_))
      · exact ⟨fun z => n (by
          rcases badB.mp z with z | z
          · exact .inl z
          · exact .inr ((hP a).mp z)), e⟩
      · exact ⟨fun z => n (by
          rcases z with z | z
          · rcases badB.mp z with z | z
            · exact badB.mpr (.inl (badB.mpr (.inl z)))
            · exact badB.mpr (.inr z)
          · exact badB.mpr (.inl (badB.mpr (.inr ((hP a).mpr z))))), e⟩
  | un => exact h.elim
  | rf _ _ => exact h.elim
  | dk _ => exact h.elim
  | scr _ => exact h.elim
  | fn _ => exact h.elim
  | pv _ => exact h.elim
omit [Tb] in
theorem bad_pc {P : Addr → Prop} {i : Nat} {v : V} {sl : Sl} {a : Addr} (h : PcOk K Hb fx B' P ρ' σ' H v sl) (z : Bad fx B (ρ.set i sl) (σ.set i (some v)) a) : Bad fx B ρ σ a ∨ P a := by
  rcases z with z | z | ⟨j, z⟩
  · exact .inl (.inl z)
  · exact .inl (.inr (.inl z))
  · rcases ownAt_set z with ⟨_, z1, z2⟩ | ⟨_, z⟩
    · cases sl with
      | ls l =>
        obtain ⟨p, vs, rfl, hP, _⟩ := h
        cases z2
        exact .inr ((hP _).mpr rfl)
      | dat d => cases z1
      | un => cases z1
      | rf _ _ => cases z1
      | dk _ => exact h.elim
      | scr _ => cases z1
      | fn _ => cases z1
      | pv _ => cases z1
    · exact .inl (.inr (.inr ⟨j, z⟩))
/-- both stored -/
theorem pc_both {P C : Addr → Prop} {v w : V} {s1 s2 : Sl} {H1 H2 : Hp} {ρ1 ρ2 : Rho} {i j : Nat} (A1 : Abs K Hb fx B ρ1 σ H1) (h : PcOk K Hb fx B P ρ1 σ H1 v s1) (A2 : Abs K (hide H1 (Hid fx ρ1 σ)) fx (fun a => B a ∨ P a) ρ2 σ H2)
    (A3 : Abs K (hide H1 (Hid fx ρ1 σ)) fx (fun a => (B a ∨ P a) ∨ C a) ρ2 σ H2) (k : PcOk K (hide H1 (Hid fx ρ1 σ)) fx (fun a => B a ∨ P a) C ρ2 σ H2 w s2) (hC : ∀ a, C a → hide H1 (Hid fx ρ1 σ) a = none) :
    Abs K Hb fx B ((ρ2.set i s1).set j s2) ((σ.set i (some v)).set j (some w)) H2 := by
  have h3 := pc_adv A1 A3 hC h
  have AC : Abs K Hb fx (fun a => B a ∨ C a) (ρ2.set i s1) (σ.set i (some v)) H2 :=
    ((A3.rebase A1.same).lessB fun a z => z.imp .inl id).pc ((A3.rebase A1.same).lessB fun a z => by
      rcases z with (z | z) | z
      · exact .inl (.inl z)
      · exact .inr z
      · exact .inl (.inr z)) h3
  have A0 : Abs K Hb fx B (ρ2.set i s1) (σ.set i (some v)) H2 := AC.lessB fun a z => .inl z
  refine A0.pc AC ?_
  cases s2 with
  | dat d =>
    exact dp_mono (hide_mono fun a o n e => ⟨fun z => n (badB.mpr (bad_pc h3 z)), e⟩) k
  | ls l =>
    obtain ⟨p, vs, rfl, hP, h1, h2, h4, h5⟩ := k
    refine ⟨p, vs, rfl, hP, h1, fun z => h2 (badB.mpr (bad_pc h3 z)), dpa_mono (hide_mono fun a o n e => ⟨fun z => n (z.imp (fun z => badB.mpr (bad_pc h3 z)) id), e⟩) h4, ?_⟩
    cases e : Hb p with
    | none => rfl
    | some o => rw [A1.same p o e] at h5; cases h5
  | un => exact k.elim
  | rf _ _ => exact k.elim
  | dk _ => exact k.elim
  | scr _ => exact k.elim
  | fn _ => exact k.elim
  | pv _ => exact k.elim
/-- the second of the two, the first being at hand -/
theorem par_snd {m2 : Bool} {i j : Nat} {b : Expr} {fb : Rho → Res Rv} {P : Addr → Prop} {v : V} {s1 : Sl} {H1 : Hp} {ρ1 : Rho} (hb : SE X W b fb) (A1 : Abs X.K Hb fx B ρ1 σ H1) (AP : Abs X.K Hb fx (fun a => B a ∨ P a) ρ1 σ H1) (h : PcOk X.K Hb fx B P ρ1 σ H1 v s1)
    (q : PostS X W Hb fx B D ((fb ρ1).ou fun r2 ρ2 => match m2, r2 with
      | true, .new l2 => .next ((ρ2.set i s1).set j (.ls l2))
      | true, _ => .stuck
      | false, r2 => match frz r2 ρ2 with
        | some (d2, ρ3) => .next ((ρ3.set i s1).set j (.dat d2))
        | none => .stuck)) : wpE X b σ H1 fun w H2 => LenOk X.K H2 → D.nx ((σ.set i (some v)).set j (some w)) H2 := by
  refine hb (hide H1 (Hid fx ρ1 σ)) fx (fun a => B a ∨ P a) ρ1 σ H1 _ AP.here (q.of_ou (σ := σ).mono (fun r2 ρ2 z w H2 l2 A2 q2 lq => ?_) fun x ρ2 z H' C dd l' A' e => z H' C dd l' ((A'.rebase A1.same).lessB fun a y => .inl y) e)
  cases m2 with
  | true =>
    cases r2 with
    | new l2 =>
      dsimp only at z
      obtain ⟨p, vs, rfl, h1, h2, h3, h4, h5⟩ := q2
      exact z _ H2 lq (pc_both A1 h A2 h5 (s2 := .ls l2) ⟨p, vs, rfl, fun _ => Iff.rfl, h1, h2, h3, h4⟩ fun a e => by rw [e]; exact h4)
    | dat d => exact z.elim
    | bor i => exact z.elim
    | newk k => exact z.elim
  | false =>
    dsimp only at z
    cases e : frz r2 ρ2 with
    | none => simp only [e] at z; exact z.elim
    | some x =>
      obtain ⟨d2, ρ3⟩ := x
      simp only [e] at z
      obtain ⟨A3, q3, _⟩ := frz_ok A2 q2 e
      refine z _ H2 lq (pc_both (C := fun _ => False) A1 h A3 (A3.lessB fun a y => y.resolve_right id) (s2 := .dat d2) q3 fun a e => e.elim)
theorem ss_par {m1 m2 : Bool} {i j : Nat} {x y : Str} {a b : Expr} {fa fb : Rho → Res Rv} {px py pt : Pos} {kt k2 pt2} (hc : X.calm = true) (hN : X.N.Nodup) (hi : X.N[i]? = some x) (hj : X.N[j]? = some y) (hij : i ≠ j)
    (hx : X.env.scope.names.lookup x = some .local) (hy : X.env.scope.names.lookup y = some .local) (ha : SE X W a fa) (hb : SE X W b fb)
    (hw : swappedStores [.Tuple [.Name x px, .Name y py] kt pt] (.Tuple [a, b] k2 pt2) X.env = pure (some [x, y]))
    (hst : starEach [a, b] X.env = (false, eval a X.env) :: starEach [b] X.env := by exact ste rfl) (hst2 : starEach [b] X.env = (false, eval b X.env) :: starEach [] X.env := by exact ste rfl)
    (hs : swapsWithSole [.Tuple [.Name x px, .Name y py] kt pt] (.Tuple [a, b] k2 pt2) pos.line X.env = pure false := by rfl) :
    SS X W (.Assign [.Tuple [.Name x px, .Name y py] kt pt] (.Tuple [a, b] k2 pt2) pos) (dPar m1 m2 i j fa fb) := .mk fun Hb fx B ρ σ H D A q => by
  refine wp_ps (ps_par hc hN hi hj hij hx hy (pa_cons pe_wp (pa_cons pe_wp pa_nil hst2) hst) hw hs) ?_
  show wpE X a σ H fun v H1 => wpE X b σ H1 fun w H2 => ∃ v' w', [v, w] = [v', w'] ∧ D.nx ((σ.set i (some v')).set j (some w')) H2
  refine ha Hb fx B ρ σ H _ A (q.of_ou.mono (fun r1 ρ1 z v H1 l1 A1 q1 => ?_) fun _ _ z => z)
  have fin : wpE X b σ H1 (fun w H2 => LenOk X.K H2 → D.nx ((σ.set i (some v)).set j (some w)) H2) → wpE X b σ H1 fun w H2 => ∃ v' w', [v, w] = [v', w'] ∧ D.nx ((σ.set i (some v')).set j (some w')) H2 := fun h => wpE_len (wpE_mono h fun w H2 z l => ⟨v, w, rfl, z l⟩)
  refine fin ?_
  cases m1 with
  | true =>
    cases r1 with
    | new l1 =>
      dsimp only at z
      obtain ⟨p, vs, rfl, h1, h2, h3, h4, h5⟩ := q1
      exact par_snd hb A1 h5 (s1 := .ls l1) ⟨p, vs, rfl, fun _ => Iff.rfl, h1, h2, h3, h4⟩ z
    | dat d => exact z.elim
    | bor i => exact z.elim
    | newk k => exact z.elim
  | false =>
    dsimp only at z
    cases e : frz r1 ρ1 with
    | none => simp only [e] at z; exact z.elim
    | some x =>
      obtain ⟨d1, ρ1'⟩ := x
      simp only [e] at z
      obtain ⟨A1', q1', _⟩ := frz_ok A1 q1 e
      exact par_snd (P := fun _ => False) hb A1' (A1'.lessB fun a y => y.resolve_right id) (s1 := .dat d1) q1' z
end
end R
namespace R
open PySem PySem.Spec L2
open PyProof.Rows hiding St
/-! ### lists joined, the script too -/
def rCatL (K : PySem.W.Frag) : R2 := fun x y H Q => ∃ l b xs ys, x = .ref l ∧ y = .ref b ∧ SqL K H l xs ∧ SqL K H b ys ∧ xs.length + ys.length ≤ sizeLine ∧ ∀ p, H p = none → Q (.ref p) (upd H p (.lst (xs ++ ys)))
theorem op_catL {X : Cx} : OpR X (binaryOp .Add) (rCatL X.K) := by
  intro pins s σ H x y v u Q I rx ry h
  obtain ⟨l, b, xs, ys, rfl, rfl, hx, hy, hz, q⟩ := h
  cases rx
  cases ry
  obtain ⟨its, rv, p1, _⟩ := I.list hx
  obtain ⟨its2, rv2, p2, _⟩ := I.list hy
  obtain ⟨⟨cls, dd, data, sl⟩, ho, hc, n, hd⟩ := p1.isList
  obtain ⟨⟨cls2, dd2, data2, sl2⟩, ho2, hc2, n2, hd2⟩ := p2.isList
  simp only at hc hd hc2 hd2
  subst hc hd hc2 hd2
  have n1 := rv.length
  have n2' := rv2.length
  have e : its.toArray ++ its2.toArray = (its ++ its2).toArray := by simp
  refine PySem.concat_meets ⟨_, ho, rfl⟩ ⟨_, ho2, rfl⟩ PySem.noFill_list_add PySem.seq_list_add PySem.F.slot_list_add PySem.F.entry_list_add (PySem.F.args_list_add_2 _ _) (list_addW l b its.toArray its2.toArray n n2 dd dd2 sl sl2 (by simp; omega)) ⟨ho, ho2, ?_⟩
  rw [e]
  exact ⟨.ref s.heap.objs.size, _, I.laid (t' := s.toks) (o := .lst (xs ++ ys)) (fun b ob q => Heap.get?_push_of_some _ q) (Nat.le_refl _) ⟨by rw [List.length_append]; exact hz, _, 0, rv.append rv2, Heap.get?_push_size _ rfl⟩, rfl, q _ (I.hok.fresh (Nat.le_refl _))⟩
section
variable [Tb] {K : PySem.W.Frag} {Hb Hb' H H' : Hp} {fx : List Addr} {B B' : Addr → Prop} {ρ ρ' : Rho} {σ σ' : L2.St} {p : Addr} {o : HO} {X : Cx} {W : WX} {S : Addr → Prop} {pos : Pos} {D : Ends} {tg : Expr}
/-- e + script -/
def dAddS (i : Nat) (fa : Rho → Res Rv) (ρ : Rho) : Res Rv := (fa ρ).bind fun r1 ρ1 => match rd ρ1 r1, ρ1[i]? with
  | some (.list l), some (.scr ns) => if l.length + ns.length ≤ 16777216 then .ok (.new (l ++ ns.map .int)) ρ1 else .stuck
  | _, _ => .stuck
theorem se_addS {i : Nat} {a b : Expr} {fa : Rho → Res Rv} (ha : SE X W a fa) (hb : PE X b (tVar i)) : SE X W (.BinOp a .Add b pos) (dAddS i fa) := .mk fun Hb fx B ρ σ H Q A q => by
  refine wpE_len (wp_pe (pe_op op_catL pe_wp hb) ?_)
  refine ha Hb fx B ρ σ H _ A (q.of_bind.mono (fun r1 ρ1 h1 v H1 l1 A1 q1 => ?_) fun _ _ z => z)
  split at h1
  · rename_i l ns e1 e2
    split at h1
    · rename_i hz
      obtain ⟨p1, ws, rfl, g1, g2⟩ := (q1.lo A1 e1).list
      obtain ⟨p2, e3, g3⟩ := A1.slot i _ e2
      refine ⟨.ref p2, of_getD e3, p1, p2, ws, ns.map V.int, rfl, rfl, .inl g1, ?_, ?_, fun p hp l2 => ?_⟩
      · rcases g3 with g3 | g3
        · exact .inl (rd_mono hide_sub g3)
        · exact .inr g3
      · rw [dpa_len g2, List.length_map, sizeLine_eq]; exact hz
      · obtain ⟨A2, q2⟩ := (Outc.new hp (dpa_app g2 (ints_dpa ns))).ok A1
        exact h1 _ _ l2 A2 q2
    · exact h1.elim
  · exact h1.elim
/-! ### dicts of one's own -/
def putD (kvs : List (Key × PyData)) (k : Key) (v : PyData) : List (Key × PyData) :=
  if (kvs.any fun kv => decide (kv.1 = k)) = true then kvs.map (fun kv => if kv.1 = k then (kv.1, v) else kv) else kvs ++ [(k, v)]
def valD (kvs : List (Key × PyData)) (k : Key) : Option PyData := (kvs.find? fun kv => decide (kv.1 = k)).map (·.2)
omit [Tb] in
theorem kv_nil {H : Hp} : DpKV H [] [] := ⟨rfl, .nil⟩
omit [Tb] in
theorem kv_cons {H : Hp} {k : Key} {v : V} {d : PyData} {kv : List (Key × V)} {kd : List (Key × PyData)} (h : Dq H v d) (t : DpKV H kv kd) : DpKV H ((k, v) :: kv) ((k, d) :: kd) := ⟨by simp [t.1], .cons h t.2⟩
omit [Tb] in
theorem kv_cases {H : Hp} {kv : List (Key × V)} {kd : List (Key × PyData)} (h : DpKV H kv kd) : (kv = [] ∧ kd = []) ∨ ∃ k v d kv' kd', kv = (k, v) :: kv' ∧ kd = (k, d) :: kd' ∧ Dq H v d ∧ DpKV H kv' kd' := by
  obtain ⟨h1, h2⟩ := h
  cases kv with
  | nil =>
    cases kd with
    | nil => exact .inl ⟨rfl, rfl⟩
    | cons y r => cases h1
  | cons x r =>
    cases kd with
    | nil => cases h1
    | cons y r' =>
      obtain ⟨k, v⟩ := x
      obtain ⟨k', d⟩ := y
      simp only [List.map_cons, List.cons.injEq] at h1
      obtain ⟨e, h1⟩ := h1
      cases e
      cases h2 with
      | cons a b => exact .inr ⟨k, v, d, r, r', rfl, rfl, a, h1, b⟩
omit [Tb] in
theorem kv_len {H : Hp} {kv : List (Key × V)} {kd : List (Key × PyData)} (h : DpKV H kv kd) : kv.length = kd.length := by
  have := congrArg List.length h.1
  simpa using this
omit [Tb] in
theorem kv_mono {H H' : Hp} {kv : List (Key × V)} {kd : List (Key × PyData)} (e : Same H H') (h : DpKV H kv kd) : DpKV H' kv kd := ⟨h.1, dpa_mono e h.2⟩
omit [Tb] in
theorem kv_any {H : Hp} {k : Key} : ∀ {kv : List (Key × V)} {kd : List (Key × PyData)}, DpKV H kv kd → (kv.any fun x => decide (x.1 = k)) = (kd.any fun x => decide (x.1 = k))
  | kv, kd, h => by
    have e1 : ∀ {α : Type} (l : List (Key × α)), (l.any fun x => decide (x.1 = k)) = ((l.map (·.1)).any fun y => decide (y = k)) := fun l => by rw [List.any_map]; rfl
    rw [e1, e1, h.1]
omit [Tb] in
theorem kv_app {H : Hp} {k : Key} {v : V} {d : PyData} (hv : Dq H v d) {kv : List (Key × V)} {kd : List (Key × PyData)} (h : DpKV H kv kd) : DpKV H (kv ++ [(k, v)]) (kd ++ [(k, d)]) :=
  ⟨by simp [h.1], by simpa using dpa_app h.2 (.cons hv .nil)⟩
omit [Tb] in
theorem kv_rep {H : Hp} {k : Key} {v : V} {d : PyData} (hv : Dq H v d) : ∀ {kv : List (Key × V)} {kd : List (Key × PyData)}, DpKV H kv kd → DpKV H (kv.map fun x => if x.1 = k then (x.1, v) else x) (kd.map fun x => if x.1 = k then (x.1, d) else x)
  | [], kd, h => by
    rcases kv_cases h with ⟨_, rfl⟩ | ⟨_, _, _, _, _, z, _⟩
    · exact kv_nil
    · cases z
  | x :: r, kd, h => by
    rcases kv_cases h with ⟨z, _⟩ | ⟨k', v', d', r', kd', e, rfl, a, b⟩
    · cases z
    · cases e
      have ih := kv_rep (k := k) hv b
      simp only [List.map_cons]
      by_cases hk : k' = k
      · rw [if_pos hk, if_pos hk]; exact kv_cons hv ih
      · rw [if_neg hk, if_neg hk]; exact kv_cons a ih
omit [Tb] in
theorem kv_put {H : Hp} {k : Key} {v : V} {d : PyData} (hv : Dq H v d) {kv : List (Key × V)} {kd : List (Key × PyData)} (h : DpKV H kv kd) : DpKV H (putK kv k v) (putD kd k d) := by
  unfold putK putD
  rw [kv_any h]
  split
  · exact kv_rep hv h
  · exact kv_app hv h
omit [Tb] in
theorem kv_val {H : Hp} {k : Key} : ∀ {kv : List (Key × V)} {kd : List (Key × PyData)}, DpKV H kv kd → (valV kv k = none ∧ valD kd k = none) ∨ ∃ v d, valV kv k = some v ∧ valD kd k = some d ∧ Dq H v d
  | [], kd, h => by
    rcases kv_cases h with ⟨_, rfl⟩ | ⟨_, _, _, _, _, z, _⟩
    · exact .inl ⟨rfl, rfl⟩
    · cases z
  | x :: r, kd, h => by
    rcases kv_cases h with ⟨z, _⟩ | ⟨k', v', d', r', kd', e, rfl, a, b⟩
    · cases z
    · cases e
      have ih := kv_val (k := k) b
      by_cases hk : k' = k
      · refine .inr ⟨v', d', ?_, ?_, a⟩
        · unfold valV; simp [hk]
        · unfold valD; simp [hk]
      · have e1 : valV ((k', v') :: r) k = valV r k := by unfold valV; simp [hk]
        have e2 : valD ((k', d') :: kd') k = valD kd' k := by unfold valD; simp [hk]
        rw [e1, e2]; exact ih
def keyD : PyData → Option Key
  | .int i => some (.inl i)
  | .str x => some (.inr x)
  | _ => none
omit [Tb] in
theorem keyD_v {S : Addr → Prop} {v : V} {d : PyData} {k : Key} (h : Lo H S v d) (e : keyD d = some k) : v = kV k := by
  cases d with
  | int i => cases e; exact h.int
  | str i => cases e; exact h.str
  | none => cases e
  | bool _ => cases e
  | list _ => cases e
  | tuple _ => cases e
  | dict _ => cases e
def dNewK (ρ : Rho) : Res Rv := .ok (.newk []) ρ
theorem se_newK : SE X W (.Dict [] [] pos) dNewK := .mk fun Hb fx B ρ σ H Q A q => by
  refine wpE_len (wp_pe pe_dnewK fun p hp l => ?_)
  refine q _ _ l (A.alloc hp) ⟨p, [], rfl, upd_same .., fun z => A.bad_there z hp, kv_nil, ?_, A.allocB hp⟩
  cases e : Hb p with
  | none => rfl
  | some o => have := A.base_keep e; rw [hp] at this; cases this
def dkAt (ρ : Rho) (i : Nat) : Option (List (Key × PyData)) := match ρ[i]? with
  | some (.dk kvs) => some kvs
  | _ => none
theorem Abs.dkAt (A : Abs K Hb fx B ρ σ H) {i : Nat} {kd : List (Key × PyData)} (h : R.dkAt ρ i = some kd) : ρ[i]? = some (.dk kd) ∧ ∃ p kv, σ[i]? = some (some (.ref p)) ∧ H p = some (.dK kv) ∧ DpKV (hide H (Bad fx B ρ σ)) kv kd := by
  unfold R.dkAt at h
  split at h
  · rename_i kvs e
    cases h
    obtain ⟨p, kv, e1, e2, e3⟩ := A.slot i _ e
    exact ⟨e, p, kv, of_getD e1, e2, e3⟩
  · cases h
/-- d[k] = e -/
def dPutK (i : Nat) (fk f : Rho → Res Rv) (ρ : Rho) : Ou := (f ρ).ou fun r ρ1 => match frz r ρ1 with
  | some (d, ρ2) => match dkAt ρ2 i with
    | none => .stuck
    | some _ => (fk ρ2).ou fun rk ρ3 => match rd ρ3 rk, dkAt ρ3 i with
      | some dk, some kvs => match keyD dk with
        | some k => if kvs.length < 16777216 then .next (ρ3.set i (.dk (putD kvs k d))) else .stuck
        | none => .stuck
      | _, _ => .stuck
  | none => .stuck
theorem ss_putK {i : Nat} {o ei e : Expr} {fi f : Rho → Res Rv} {p2 : Pos} (hu : X.A.units + 1 < cLine) (ho : PE X o (tVar i)) (hi : SE X W ei fi) (h : SE X W e f) (hs : swapsWith e (some (.Subscript o ei p2)) pos.line X.env = pure false := by rfl) :
    SS X W (.Assign [.Subscript o ei p2] e pos) (dPutK i fi f) := .mk fun Hb fx B ρ σ H D A q => by
  refine wpS_len (wp_ps (ps_dput hu ho pe_wp pe_wp hs) ?_)
  refine h Hb fx B ρ σ H _ A (q.of_ou.mono (fun r ρ1 z v H1 l1 A1 q1 => ?_) fun _ _ z => z)
  cases e3 : frz r ρ1 with
  | none => simp only [e3] at z; exact z.elim
  | some x =>
    obtain ⟨d, ρ2⟩ := x
    simp only [e3] at z
    obtain ⟨A2, q2, _⟩ := frz_ok A1 q1 e3
    cases e4 : dkAt ρ2 i with
    | none => simp only [e4] at z; exact z.elim
    | some kd0 =>
      simp only [e4] at z
      obtain ⟨_, p, kv0, hv, hp0, _⟩ := A2.dkAt e4
      refine ⟨.ref p, hv, ?_⟩
      have z1 : Post _ (ErrE X W (hide H1 (Hid fx ρ2 σ)) fx B σ) _ := (z.rebase A2.same).of_ou (σ := σ)
      refine hi _ fx B ρ2 σ H1 _ A2.here (z1.mono (fun rk ρ3 z v2 H2 l2 A3 q3 => ?_) fun _ _ z => z)
      have q2' := dp_mono A3.carry q2
      cases e5 : rd ρ3 rk with
      | none => simp only [e5] at z; exact z.elim
      | some dk =>
        cases e6 : dkAt ρ3 i with
        | none => simp only [e5, e6] at z; exact z.elim
        | some kd =>
          simp only [e5, e6] at z
          cases e7 : keyD dk with
          | none => simp only [e7] at z; exact z.elim
          | some k =>
            simp only [e7] at z
            split at z
            · rename_i hl
              obtain ⟨e8, p', kv, hv', hp, kvs⟩ := A3.dkAt e6
              rw [hv] at hv'
              cases hv'
              have ek := keyD_v (q3.lo A3 e5) e7
              subst ek
              refine ⟨p, _, rfl, .k hp (by rw [kv_len kvs, sizeLine_eq]; exact hl), fun l3 => z σ _ l3 (A3.write e8 hv rfl ⟨p, putK kv k v, rfl, upd_same .., kv_mono (hide_mono fun a o n e => ⟨n, ?_⟩) (kv_put q2' kvs)⟩)⟩
              rw [upd_ne (fun y => n (by rw [y]; exact Bad.hid (A3.holds_bad ⟨_, e8, .inl rfl, hv⟩)))]
              exact e
            · exact z.elim
def dLenK (i : Nat) (ρ : Rho) : Res Rv := match dkAt ρ i with
  | some kvs => .ok (.dat (.int (kvs.length : Int))) ρ
  | none => .stuck
theorem se_lenK {i : Nat} {o : Expr} {p2 : Pos} (hg : Gl X "len") (hm : X.mg "len" = none) (ho : PE X o (tVar i))
    (hs : starEach [o] X.env = (false, eval o X.env) :: starEach [] X.env := by exact ste rfl) (hpl : (backTo pos (starEach [] X.env)).any (·.1) = false := by rfl) : SE X W (.Call (.Name "len" p2) [o] [] pos) (dLenK i) := .mk fun Hb fx B ρ σ H Q A q => by
  refine wpE_len (wp_pe (pe_callB call_lenD hg hm PySem.boot_len (pa_cons ho pa_nil hs) (by decide) (by decide) hs hpl) ?_)
  unfold dLenK at q
  cases e : dkAt ρ i with
  | none => rw [e] at q; exact q.elim
  | some kd =>
    rw [e] at q
    obtain ⟨e8, p, kv, hv, hp, kvs⟩ := A.dkAt e
    refine ⟨.ref p, hv, p, kv, rfl, hp, fun l => ?_⟩
    rw [kv_len kvs]
    exact q _ _ l A (.int _)
end
/-! ### sorted of a dict with int keys -/
def rSortK : List V → Hp → VK → Prop := fun xs H Q => ∃ (a : Addr) (kvs : List (Key × V)) (ns : List Int), xs = [V.ref a] ∧ H a = some (.dK kvs) ∧ kvs.map (·.1) = ns.map Sum.inl ∧
  ∀ (ns' : List Int) (p : Addr), ns'.Perm ns → ns'.Pairwise (· ≤ ·) → H p = none → Q (.ref p) (upd H p (.lst (ns'.map V.int)))
theorem keys_ints {ns : List Int} {vs : List Value} {P : Program} {w : World} (hl : vs.length = ns.length) (h : ∀ (j : Nat) (v : Value), vs[j]? = some v → ∃ i, ns[j]? = some i ∧ (mixKind P w).is (.inl i) v = true) : IntsAre vs ns := by
  induction vs generalizing ns with
  | nil => cases ns with
    | nil => exact .nil
    | cons _ _ => cases hl
  | cons v r ih =>
    cases ns with
    | nil => cases hl
    | cons i ns =>
      obtain ⟨i', e, k⟩ := h 0 v rfl
      cases e
      have : ∃ t, v = .int i t := by
        cases v <;> first | (exact absurd k (by intro z; cases z)) | skip
        rename_i j t
        have k' : keyIs (.inl i) (.int j t) = true := k
        have : j = i := by
          have k2 : Value.isInt i (.int j t) = true := k'
          simpa [Value.isInt] using k2
        exact ⟨t, by rw [this]⟩
      obtain ⟨t, rfl⟩ := this
      exact .cons i t (ih (by simpa using hl) fun j u e => by
        obtain ⟨i', e1, e2⟩ := h (j + 1) u (by simpa using e)
        exact ⟨i', by simpa using e1, e2⟩)
/-- collect, the heap having grown -/
theorem collectS {prog : Program} {w : World} {A : Around} {E : Value → Shared → Prop} {s : Shared} {T : String} {r d : Addr} {n : Nat} {P : Nat → Value → Prop} {OK : Heap → Prop} {R : List Value → Shared → Prop} (K : PySem.W.KdlSrc prog w T r d n P OK) (hh : A.handled = none) (hok : OK s.heap) (hn : n ≤ sizeLine)
    (h : ∀ (h' : Heap) (tk : Nat) (acc : Array Value), s.heap.objs.size ≤ h'.objs.size → (∀ b o, s.heap.get? b = some o → h'.get? b = some o) → ItemsOf P acc n → R acc.toList { s with heap := h', toks := tk }) :
    wpAny (model prog w) A (collect (.ref r)) R E s := by
  have hlt := K.there _ hok
  have rs : r ≠ s.heap.objs.size := Nat.ne_of_lt hlt.1
  have ds : d ≠ s.heap.objs.size := Nat.ne_of_lt hlt.2
  let s1 : Shared := { s with heap := s.heap.push { cls := .type "list", data := .seq ([] : List Value).toArray } }
  have new1 : s1.heap.get? s.heap.objs.size = some { cls := .type "list", data := .seq #[] } := Heap.get?_push_size _ rfl
  -- behind the filling: the list stands, so the heap is larger than before
  let R1 : Result → Shared → Prop := fun q s' => q = .ok (.ret (.ref s.heap.objs.size)) ∧ ∃ (acc : Array Value) (c : Nat), s'.heap.get? s.heap.objs.size = some { cls := .type "list", dict := none, data := .seq acc c, slots := #[] } ∧ R acc.toList s'
  have fill :=
    PySem.W.kdl_extend (A := A) (s := s1) (R := R1) K hh (K.keep _ _ hok fun b _ o e => Heap.get?_push_of_some _ e) s.heap.objs.size rs.symm ds.symm (.ref s.heap.objs.size) 0 new1
      (fun h' tk acc c keep at1 items => ⟨rfl, acc, c, at1, h h' tk acc (Nat.le_of_lt (Heap.lt_size at1)) (fun b o e => keep b o (Nat.ne_of_lt (Heap.lt_size e)) (Heap.get?_push_of_some _ e)) items⟩) hn
  unfold collect
  refine wpAny_bind (wpAny_runValue (codeAny_builtin PyProof.Rows.entry_proto_collect' ?_))
  rw [Around.under_plainId PySem.F.plain_proto_collect _]
  show wpAny _ A.in1 (newList [] >>= fun l => again (.builtin "list.__iadd__" ⟨[l, .ref r], []⟩)) _ _ s
  refine wpAny_bind (wpAny_newObj_type (wpAny_pure ⟨plainId_quiet PySem.F.plain_list_iadd _, codeAny_builtin PyProof.Rows.entry_list_iadd' ?_⟩))
  rw [Around.under_plainId PySem.F.plain_list_iadd _]
  show wpAny _ A.in1 (Builtin.List.listExtendWith (.ref s.heap.objs.size) (.ref r) (.ref s.heap.objs.size)) _ _ s1
  have load1 : ∀ s' : Shared, (∃ (acc : Array Value) (c : Nat), s'.heap.get? s.heap.objs.size = some { cls := .type "list", dict := none, data := .seq acc c, slots := #[] } ∧ R acc.toList s') →
      wpAny (model prog w) A (do match (← load s.heap.objs.size).data with
        | .seq xs _ => pure xs.toList
        | _ => unsupported "internal:collect") R E s' := fun s' ⟨acc, c, at1, r⟩ => wpAny_bind (wpAny_load at1 (wpAny_pure r))
  refine wpAny_mono fill (fun f s' x => ?_) fun e s' x => ?_
  · cases f with
    | done f =>
      obtain ⟨e, x2⟩ := (show R1 (.ok f) s' from x)
      cases e
      exact load1 s' x2
    | again c =>
      obtain ⟨y1, y2⟩ := x
      refine ⟨y1, codeAny_mono y2 fun q s2 ⟨e, z⟩ => ?_⟩
      subst e
      exact load1 s2 z
  · exact nomatch (show R1 (.error e) s' from x).1
theorem cr_sortK {X : Cx} (hc : X.calm = true) : CallR X (.builtin "sorted") rSortK := by
  intro pins s σ H xs us Q I r h
  obtain ⟨a, kvs, ns, rfl, ha, hk, q⟩ := h
  rw [Vals.ref1 r]
  obtain ⟨z, hd, vs, rel, dd⟩ := dk_of I.hok ha
  obtain ⟨ep, hat⟩ := dd.dictAt
  have hlen : vs.length = ns.length := by
    rw [← rel.length, ← List.length_map (f := (·.1)) (as := kvs), hk, List.length_map]
  refine Calls.call_function_entry kind_sorted plain_sorted entry_sorted (args_sorted1 _) ?_
  unfold Builtin.«sorted»
  refine wpAny_bind (m := checkCount "sorted" 1 1 _) (wpAny_pure ?_)
  refine wpAny_bind (collectS (A := X.A.in1) (PySem.W.kdl_dict (knd := mixKind X.prog X.w) (kvs := vs) (ep := ep) hd) (I.ok.hd hc) hat (by rw [← rel.length]; exact z) fun h' tk acc fr hk' hacc => ?_)
  have hl : acc.toList.length = vs.length := by rw [Array.length_toList]; exact hacc.1
  have hz : acc.toList.length ≤ sizeLine := by rw [hl, ← rel.length]; exact z
  refine wpAny_bind (wpAny_newList ?_ hz)
  have keysAt : ∀ (j : Nat) (k : Key) (x : Value), vs[j]? = some (k, x) → ∃ i, ns[j]? = some i ∧ k = .inl i := fun j k x e => by
    have e3 : (kvs.map (·.1))[j]? = some k := by rw [rel.keys, List.getElem?_map, e]; rfl
    rw [hk, List.getElem?_map] at e3
    cases e4 : ns[j]? with
    | none => rw [e4] at e3; cases e3
    | some i => rw [e4] at e3; cases e3; exact ⟨i, rfl, rfl⟩
  have hi : IntsAre acc.toList ns := keys_ints (P := X.prog) (w := X.w) (hl.trans hlen) fun j v e => by
    obtain ⟨k, x, e1, e2⟩ := hacc.2 j v (by rw [← Array.getElem?_toList]; exact e)
    obtain ⟨i, e3, e4⟩ := keysAt j k x e1
    rw [e4] at e2
    exact ⟨i, e3, e2⟩
  have ho : (h'.push { cls := .type "list", data := .seq acc.toList.toArray }).get? h'.objs.size = some (seqObj "list" acc.toList.toArray 0) := Heap.get?_push_size _ rfl
  refine wpAny_bind (wpAny_holding (wpAny_call_entry PyProof.Rows.slot_list_sort ⟨_, ho, rfl⟩ PyProof.Rows.entry_list_sort
    (SrtO.list_sort_ord SrtO.swo_int ho hz (fun h2 => SrtO.ints_sortable hi h2) fun out h1 h2 => ⟨_, rfl, ?_⟩) (PyProof.Rows.args_list_sort _)))
  obtain ⟨k1, k2, k3⟩ := SrtO.ints_out hi h1 h2
  obtain ⟨ep', he'⟩ := PyProof.Rows.sortedHeap_at (vs := acc.toList) (out := out.toArray) ho
  have hlen2 : ((out.map SrtO.iv).map V.int).length ≤ sizeLine := by
    rw [List.length_map, k2.length_eq, ← hlen, ← hl]
    exact hz
  refine wpAny_pure ⟨_, rfl, .ref h'.objs.size, upd H h'.objs.size (.lst ((out.map SrtO.iv).map V.int)), I.laid (t' := tk) (fun b o e => ?_) fr ⟨hlen2, out, ep', vals_of_ints k1, he'⟩, rfl, q _ _ k2 k3 (I.hok.fresh fr)⟩
  have e1 := hk' b o e
  have hb : b ≠ h'.objs.size := Nat.ne_of_lt (Heap.lt_size e1)
  rw [PyProof.Rows.sortedHeap_old hb (by rw [Heap.size_push]; exact Nat.lt_succ_of_lt (Heap.lt_size e1))]
  exact Heap.get?_push_of_some _ e1
end R
namespace R
open PySem PySem.Spec L2
open PyProof.Rows hiding St
section
variable [Tb] {K : PySem.W.Frag} {Hb Hb' H H' : Hp} {fx : List Addr} {B B' : Addr → Prop} {ρ ρ' : Rho} {σ σ' : L2.St} {p : Addr} {o : HO} {X : Cx} {W : WX} {S : Addr → Prop} {pos : Pos} {D : Ends} {tg : Expr}
def keysI : List (Key × PyData) → Option (List Int)
  | [] => some []
  | (.inl i, _) :: r => (keysI r).map (i :: ·)
  | _ => none
omit [Tb] in
theorem keysI_eq : ∀ {l : List (Key × PyData)} {ns : List Int}, keysI l = some ns → l.map (·.1) = ns.map Sum.inl
  | [], ns, h => by cases h; rfl
  | (.inl i, d) :: r, ns, h => by
    unfold keysI at h
    cases e : keysI r with
    | none => rw [e] at h; cases h
    | some ms =>
      rw [e] at h
      cases h
      simp [keysI_eq e]
  | (.inr i, d) :: r, ns, h => by cases h
def dSortK (i : Nat) (ρ : Rho) : Res Rv := match dkAt ρ i with
  | some kvs => match keysI kvs with
    | some ns => .ok (.new ((srtI ns).map .int)) ρ
    | none => .stuck
  | none => .stuck
theorem se_sortK {i : Nat} {o : Expr} {p2 : Pos} (hc : X.calm = true) (hg : Gl X "sorted") (hm : X.mg "sorted" = none) (ho : PE X o (tVar i))
    (hs : starEach [o] X.env = (false, eval o X.env) :: starEach [] X.env := by exact ste rfl) (hpl : (backTo pos (starEach [] X.env)).any (·.1) = false := by rfl) : SE X W (.Call (.Name "sorted" p2) [o] [] pos) (dSortK i) := .mk fun Hb fx B ρ σ H Q A q => by
  refine wpE_len (wp_pe (pe_callB (cr_sortK hc) hg hm PyProof.Rows.boot_sorted (pa_cons ho pa_nil hs) (by decide) (by decide) hs hpl) ?_)
  unfold dSortK at q
  cases e : dkAt ρ i with
  | none => rw [e] at q; exact q.elim
  | some kd =>
    rw [e] at q
    dsimp only at q
    cases e2 : keysI kd with
    | none => rw [e2] at q; exact q.elim
    | some ns =>
      rw [e2] at q
      obtain ⟨e8, p, kv, hv, hp, kvs⟩ := A.dkAt e
      refine ⟨.ref p, hv, p, kv, ns, rfl, hp, by rw [kvs.1]; exact keysI_eq e2, fun ns' p2 h1 h2 h3 l => ?_⟩
      have : ns' = srtI ns := srt_one (h1.trans (srtI_perm ns).symm) h2 (srtI_le ns)
      subst this
      obtain ⟨A2, q2⟩ := (Outc.new (S := Bad fx B ρ σ) h3 (ints_dpa _)).ok A
      exact q _ _ l A2 q2
end
/-! ### the law's own head -/
def spLaw [Tb] (K : PySem.W.Frag) : Sp := fun vs H Q _ => ∃ (a : Addr) (ns : List Int), vs = [.ref a] ∧ SqL K H a (ns.map V.int) ∧ ns.length ≤ 63 ∧ Tabl H ∧ ∀ H', Q (.bl true) H'
theorem law_sp [Tb] {K : PySem.W.Frag} {mg : Str → Option Value} {g : List Sl → FRes} (hg : ∀ ns : List Int, ns.length ≤ 63 → g [.scr ns] = .ok (.dat (.bool true)) []) {vs : List V} {H : Hp} {Q : VK} {E : XK} (h : spLaw K vs H Q E) : spD K mg 1 g vs H Q E := by
  obtain ⟨a, ns, rfl, hs, hl, ht, q⟩ := h
  refine ⟨[], fun _ => False, [.scr ns], rfl, rfl, fun i sl e => ?_, Nat.zero_le _, .inl rfl, fun _ h => (by cases h), fun _ h => h.elim, fun i j k l m h => ?_, ht, ?_⟩
  · cases i with
    | zero =>
      cases e
      refine ⟨rfl, a, rfl, ?_⟩
      have out : ∀ {u : HO}, (∀ ps, u ≠ .tbl ps) → H a = some u → hide H (fun b => b ∈ [] ++ tA ∨ False) a = some u := fun {u} n e => hide_eq.mpr ⟨fun y => y.elim (fun y => by
        obtain ⟨ps, e2⟩ := tab_at ht y
        rw [e] at e2
        exact n ps (Option.some.inj e2)) id, e⟩
      rcases hs with (hs | ⟨o, hs⟩) | hs
      · exact .inl (.inl (out (fun _ z => nomatch z) hs))
      · exact .inl (.inr ⟨o, out (fun _ z => nomatch z) hs⟩)
      · exact .inr hs
    | succ i => cases e
  · cases i with
    | zero => cases h
    | succ i => cases h
  · rw [hg ns hl]
    intro v H' _ _ _ _ r
    cases r
    exact q H'
end R
namespace R
open PySem PySem.Spec L2
open PyProof.Rows hiding St
/-! ### the text's defs, by name -/
def FnDef (K : PySem.W.Frag) (mg : Str → Option Value) (x : Str) (st : Stmt) : Prop := ∃ (f : Addr) (fd : FuncData), mg x = some (.ref f) ∧ Fun K x x st f fd ∧ PySem.W.nsIn K mainGlobals x = some (some (.ref f))
structure FnAt [Tb] (P : Program) (w : World) (K : PySem.W.Frag) (mg : Str → Option Value) (base : Heap) (x : Str) (ps : List Str) (k : Nat) (g : List Sl → FRes) : Prop where
  ex : ∃ (f : Addr) (fd : FuncData), mg x = some (.ref f) ∧ PySem.W.keepIn K (.ref f) = true ∧ Binds K fd ps [] ∧ FnOk P w K mg base (L2N.CX P w) k f fd ps (spD K mg ps.length g) ∧ PySem.W.nsIn K mainGlobals x = some (some (.ref f))
section
variable [Tb] {P : Program} {w : World} {K : PySem.W.Frag} {mg : Str → Option Value} {base : Heap}
/-- how the arguments of a def bind -/
def BindC (x : Str) (st : Stmt) (ps : List Str) : Prop := ∀ (kV doc pm : Value) (an : Option Addr) (cdv ct : Value) (us : List Value), us.length = ps.length → bindArgs (PySem.W.fnOf x x (defArgs st) (defBody st) (defScope st) .none kV doc pm an cdv ct) ⟨us, []⟩ = pure (ps.zip us)
theorem fn_at {x : Str} {st : Stmt} {N ps : List Str} {k n : Nat} {fb : Rho → Ou} (D : FnDef K mg x st) (S : FnScope N ps (defScope st)) (hn : N.length = n) (hb : BindC x st ps)
    (hbody : ∀ (f : Addr) (cdv : Value) (A : Around) (outer : List Env) (s : Shared) (H : Hp) (E : XK), Room k (A.deeper (envOfC x (defScope st) s.heap.objs.size f cdv)) → SSs (cxOf (L2N.CX P w) P w K mg base N x (defScope st) f cdv A outer s H E) (WofE E) (defBody st) fb) :
    FnAt P w K mg base x ps (k + 1) (dFun n fb) := by
  obtain ⟨f, fd, hm, F, ns⟩ := D
  subst hn
  exact ⟨f, fd, hm, F.kp, F.binds hb, fn_ok F S (hbody f), ns⟩
/-- .. where its code object is to be known -/
theorem fn_atC {x : Str} {st : Stmt} {N ps : List Str} {k n : Nat} {fb : Rho → Ou} (D : FnDef K mg x st) (S : FnScope N ps (defScope st)) (hn : N.length = n) (hb : BindC x st ps)
    (hbody : ∀ (f : Addr) (cdv : Value) (A : Around) (outer : List Env) (s : Shared) (H : Hp) (E : XK), PySem.W.nsIn K mainGlobals x = some (some (.ref f)) → CodeOf K x x st f cdv → Room k (A.deeper (envOfC x (defScope st) s.heap.objs.size f cdv)) → SSs (cxOf (L2N.CX P w) P w K mg base N x (defScope st) f cdv A outer s H E) (WofE E) (defBody st) fb) :
    FnAt P w K mg base x ps (k + 1) (dFun n fb) := by
  obtain ⟨f, fd, hm, F, ns⟩ := D
  subst hn
  exact ⟨f, fd, hm, F.kp, F.binds hb, fn_okC F S (fun cdv A outer s H E h => hbody f cdv A outer s H E ns h), ns⟩
/-- a def of which nothing is promised -/
theorem fn_any {x : Str} {st : Stmt} {ps : List Str} {k : Nat} (D : FnDef K mg x st) (hb : BindC x st ps) : FnAt P w K mg base x ps k fun _ => .stuck := by
  obtain ⟨f, fd, hm, F, ns⟩ := D
  exact ⟨f, fd, hm, F.kp, F.binds hb, ⟨fun vs H Q E ⟨_, _, _, h, _⟩ => h, fun A outer s H args us vs Q E _ _ _ _ ⟨_, _, _, _, _, _, _, _, _, _, _, _, h⟩ => h.elim⟩, ns⟩
end
section
variable [Tb] {X : Cx} {W : WX} {pos p : Pos}
theorem se_fn {x : Str} {ps : List Str} {j k : Nat} {g : List Sl → FRes} {ms : List Bool} {e : Expr} {es : List Expr} {fs : Rho → Res (List Rv)}
    (F : FnAt X.prog X.w X.K X.mg X.base x ps j g) (hr : Room k X.A) (hg : Gl X x) (tk : L2N.Takes X W) (hs : SA X W (e :: es) fs) (hlen : ∀ ρ rs ρ', fs ρ = .ok rs ρ' → rs.length = (e :: es).length)
    (hj : j ≤ k := by decide) (hnp : (e :: es).length = ps.length := by rfl) (hdb : (x == ("__debug__" : Str)) = false := by decide)
    (he : starEach (e :: es) X.env = (false, eval e X.env) :: starEach es X.env := by exact ste rfl) (hpl : (backTo pos (starEach es X.env)).any (·.1) = false := by rfl) :
    SE X W (.Call (.Name x p) (e :: es) [] pos) (dCall g ms fs) := by
  obtain ⟨f, fd, hm, hk, hb, h, _⟩ := F.ex
  exact se_call h (hr.mono hj) hg hm hk hb tk hs hnp hlen hdb he hpl
end
/-! the number of arguments -/
theorem bind_ok {α β : Type} {x : Res α} {f : α → Rho → Res β} {b : β} {ρ : Rho} (h : x.bind f = .ok b ρ) : ∃ a ρ1, x = .ok a ρ1 ∧ f a ρ1 = .ok b ρ := by
  cases x with
  | ok a ρ1 => exact ⟨a, ρ1, rfl, h⟩
  | err _ _ => cases h
  | stuck => cases h
theorem len_nil (ρ : Rho) (rs : List Rv) (ρ' : Rho) (h : dNil ρ = .ok rs ρ') : rs.length = 0 := by cases h; rfl
theorem len_cons {n : Nat} {fa : Rho → Res Rv} {fs : Rho → Res (List Rv)} (k : ∀ ρ rs ρ', fs ρ = .ok rs ρ' → rs.length = n) (ρ : Rho) (rs : List Rv) (ρ' : Rho) (h : dCons fa fs ρ = .ok rs ρ') : rs.length = n + 1 := by
  obtain ⟨r, ρ1, _, h⟩ := bind_ok h
  have go : ∀ r' : Rv, ((fs ρ1).bind fun rs ρ2 => .ok (r' :: rs) ρ2) = .ok rs ρ' → rs.length = n + 1 := fun r' h => by
    obtain ⟨rs2, ρ2, e, h⟩ := bind_ok h
    cases h
    simp [k _ _ _ e]
  cases r with
  | newk _ => cases h
  | dat d => exact go _ h
  | new d => exact go _ h
  | bor d => exact go _ h
/-! ### short words for printed texts -/
theorem bt_len : bootBuiltins "len" = some (.builtin "len") := by decide +kernel
theorem bt_sum : bootBuiltins "sum" = some (.builtin "sum") := by decide +kernel
theorem bt_min : bootBuiltins "min" = some (.builtin "min") := by decide +kernel
theorem bt_max : bootBuiltins "max" = some (.builtin "max") := by decide +kernel
theorem bt_all : bootBuiltins "all" = some (.builtin "all") := by decide +kernel
theorem bt_abs : bootBuiltins "abs" = some (.builtin "abs") := by decide +kernel
theorem bt_sorted : bootBuiltins "sorted" = some (.builtin "sorted") := by decide +kernel
theorem bt_isinstance : bootBuiltins "isinstance" = some (.builtin "isinstance") := by decide +kernel
theorem bt_tuple : bootBuiltins "tuple" = some (.type "tuple") := by decide +kernel
theorem bt_list : bootBuiltins "list" = some (.type "list") := by decide +kernel
theorem bt_int : bootBuiltins "int" = some (.type "int") := by decide +kernel
theorem bt_bool : bootBuiltins "bool" = some (.type "bool") := by decide +kernel
theorem bt_str : bootBuiltins "str" = some (.type "str") := by decide +kernel
abbrev bX (P : Program) (w : World) (K : PySem.W.Frag) (mg : Str → Option Value) (base : Heap) (N : List Str) (x : Str) (st : Stmt) (f : Addr) (cdv : Value) (A : Around) (outer : List Env) (s : Shared) (H : Hp) (E : XK) : Cx :=
  cxOf (L2N.CX P w) P w K mg base N x (defScope st) f cdv A outer s H E
section
variable [Tb] {X : Cx} {W : WX} {pos p : Pos}
theorem se_len {e : Expr} {fs : Rho → Res (List Rv)} (hg : Gl X "len") (hm : X.mg "len" = none) (hs : SA X W [e] fs) (he : starEach [e] X.env = (false, eval e X.env) :: starEach [] X.env := by exact ste rfl) (hpl : (backTo pos (starEach [] X.env)).any (·.1) = false := by rfl) :
    SE X W (.Call (.Name "len" p) [e] [] pos) (dBlt gLen fs) := se_blt call_len_seq ok_len hg hm bt_len hs (by decide) (by decide) he hpl
theorem se_sum {e : Expr} {fs : Rho → Res (List Rv)} (hc : X.calm = true) (hg : Gl X "sum") (hm : X.mg "sum" = none) (hs : SA X W [e] fs) (he : starEach [e] X.env = (false, eval e X.env) :: starEach [] X.env := by exact ste rfl) (hpl : (backTo pos (starEach [] X.env)).any (·.1) = false := by rfl) :
    SE X W (.Call (.Name "sum" p) [e] [] pos) (dBlt gSum fs) := se_blt (cr_sum hc) ok_sum hg hm bt_sum hs (by decide) (by decide) he hpl
theorem se_all {e : Expr} {fs : Rho → Res (List Rv)} (hc : X.calm = true) (hg : Gl X "all") (hm : X.mg "all" = none) (hs : SA X W [e] fs) (he : starEach [e] X.env = (false, eval e X.env) :: starEach [] X.env := by exact ste rfl) (hpl : (backTo pos (starEach [] X.env)).any (·.1) = false := by rfl) :
    SE X W (.Call (.Name "all" p) [e] [] pos) (dBlt gAll fs) := se_blt (cr_all hc) ok_all hg hm bt_all hs (by decide) (by decide) he hpl
theorem se_abs {e : Expr} {fs : Rho → Res (List Rv)} (hg : Gl X "abs") (hm : X.mg "abs" = none) (hs : SA X W [e] fs) (he : starEach [e] X.env = (false, eval e X.env) :: starEach [] X.env := by exact ste rfl) (hpl : (backTo pos (starEach [] X.env)).any (·.1) = false := by rfl) :
    SE X W (.Call (.Name "abs" p) [e] [] pos) (dBlt gAbs fs) := se_blt call_abs ok_abs hg hm bt_abs hs (by decide) (by decide) he hpl
theorem se_sorted {e : Expr} {fs : Rho → Res (List Rv)} (hg : Gl X "sorted") (hm : X.mg "sorted" = none) (hs : SA X W [e] fs) (he : starEach [e] X.env = (false, eval e X.env) :: starEach [] X.env := by exact ste rfl) (hpl : (backTo pos (starEach [] X.env)).any (·.1) = false := by rfl) :
    SE X W (.Call (.Name "sorted" p) [e] [] pos) (dBlt gSortI fs) := se_blt cr_sortedI ok_sortI hg hm bt_sorted hs (by decide) (by decide) he hpl
theorem se_min {e : Expr} {es : List Expr} {fs : Rho → Res (List Rv)} (hc : X.calm = true) (hg : Gl X "min") (hm : X.mg "min" = none) (hs : SA X W (e :: es) fs) (he : starEach (e :: es) X.env = (false, eval e X.env) :: starEach es X.env := by exact ste rfl) (hpl : (backTo pos (starEach es X.env)).any (·.1) = false := by rfl) :
    SE X W (.Call (.Name "min" p) (e :: es) [] pos) (dBlt gMin fs) := se_blt ((cr_min hc).or (call_min2 hc)) ok_min hg hm bt_min hs (by decide) (by decide) he hpl
theorem se_max {e : Expr} {es : List Expr} {fs : Rho → Res (List Rv)} (hc : X.calm = true) (hg : Gl X "max") (hm : X.mg "max" = none) (hs : SA X W (e :: es) fs) (he : starEach (e :: es) X.env = (false, eval e X.env) :: starEach es X.env := by exact ste rfl) (hpl : (backTo pos (starEach es X.env)).any (·.1) = false := by rfl) :
    SE X W (.Call (.Name "max" p) (e :: es) [] pos) (dBlt gMax fs) := se_blt ((cr_max hc).or (call_max2 hc)) ok_max hg hm bt_max hs (by decide) (by decide) he hpl
theorem se_tuple {e : Expr} {fs : Rho → Res (List Rv)} (hg : Gl X "tuple") (hm : X.mg "tuple" = none) (hs : SA X W [e] fs) (he : starEach [e] X.env = (false, eval e X.env) :: starEach [] X.env := by exact ste rfl) (hpl : (backTo pos (starEach [] X.env)).any (·.1) = false := by rfl) :
    SE X W (.Call (.Name "tuple" p) [e] [] pos) (dBlt gTuple fs) := se_bty call_tuple_of ok_tuple hg hm bt_tuple hs (by decide) (by decide) he hpl
theorem se_list {e : Expr} {fs : Rho → Res (List Rv)} (hg : Gl X "list") (hm : X.mg "list" = none) (hs : SA X W [e] fs) (he : starEach [e] X.env = (false, eval e X.env) :: starEach [] X.env := by exact ste rfl) (hpl : (backTo pos (starEach [] X.env)).any (·.1) = false := by rfl) :
    SE X W (.Call (.Name "list" p) [e] [] pos) (dBlt gList fs) := se_bty call_list_of ok_list hg hm bt_list hs (by decide) (by decide) he hpl
theorem se_intc {e : Expr} {fs : Rho → Res (List Rv)} (hg : Gl X "int") (hm : X.mg "int" = none) (hs : SA X W [e] fs) (he : starEach [e] X.env = (false, eval e X.env) :: starEach [] X.env := by exact ste rfl) (hpl : (backTo pos (starEach [] X.env)).any (·.1) = false := by rfl) :
    SE X W (.Call (.Name "int" p) [e] [] pos) (dBlt gInt fs) := se_bty call_int1 ok_int hg hm bt_int hs (by decide) (by decide) he hpl
end
theorem tb_ok {T : String} (hT : T ∈ ["NoneType", "bool", "int", "str", "list", "tuple"]) (h : (["NoneType", "bool", "int", "str", "list", "tuple"].all fun t => match tbOf T t with | some b => kitB t T == some b | none => true) = true) (t : String) (b : Bool) (e : tbOf T t = some b) : kitB t T = some b := by
  by_cases ht : t ∈ ["NoneType", "bool", "int", "str", "list", "tuple"]
  · have := List.all_eq_true.mp h t ht
    rw [e] at this
    simpa using this
  · exfalso
    unfold tbOf at e
    rw [if_neg (fun z => ht (by rw [z]; exact hT)), if_neg (fun z => ht (by rw [z.1]; decide)), if_neg (fun z => ht (by
      rcases z.2 with z | z | z | z | z | z <;> (rw [z]; decide)))] at e
    cases e
theorem tb_int : ∀ t b, tbOf "int" t = some b → kitB t "int" = some b := tb_ok (by decide) (by decide +kernel)
theorem tb_bool : ∀ t b, tbOf "bool" t = some b → kitB t "bool" = some b := tb_ok (by decide) (by decide +kernel)
theorem tb_str : ∀ t b, tbOf "str" t = some b → kitB t "str" = some b := tb_ok (by decide) (by decide +kernel)
theorem tb_list : ∀ t b, tbOf "list" t = some b → kitB t "list" = some b := tb_ok (by decide) (by decide +kernel)
theorem tb_tuple : ∀ t b, tbOf "tuple" t = some b → kitB t "tuple" = some b := tb_ok (by decide) (by decide +kernel)
theorem law_mk [Tb] {P : Program} {w : World} {K : PySem.W.Frag} {mg : Str → Option Value} {fa : Addr} {st : Stmt} {N : List Str} {k n : Nat} {fb : Rho → Ou} (hfa : mg "law" = some (.ref fa)) (D : FnDef K mg "law" st) (S : FnScope N ["script"] (defScope st)) (hn : N.length = n) (hb : BindC "law" st ["script"])
    (hg : ∀ ns : List Int, ns.length ≤ 63 → dFun n fb [.scr ns] = .ok (.dat (.bool true)) [])
    (hbody : ∀ (base : Heap) (f : Addr) (cdv : Value) (A : Around) (outer : List Env) (s : Shared) (H : Hp) (E : XK), Room k (A.deeper (envOfC "law" (defScope st) s.heap.objs.size f cdv)) → SSs (bX P w K mg base N "law" st f cdv A outer s H E) (WofE E) (defBody st) fb) :
    ∃ fd : FuncData, (∀ (s : Shared) (v : Value), BindsTo s fd ⟨[v], []⟩ [("script", v)]) ∧ ∀ base : Heap, K.In base → base.Ns mainGlobals mg → FnOk P w K mg base (L2N.CX P w) (k + 1) fa fd ["script"] (spLaw K) := by
  obtain ⟨f, fd, hm, F, ns⟩ := D
  have e := hfa.symm.trans hm
  cases e
  subst hn
  refine ⟨fd, fun s v => ?_, fun base _ _ => (fn_ok F S (hbody base fa)).imp fun vs H Q E h => law_sp hg h⟩
  obtain ⟨⟨oc, od, kV, doc, pm, an, cdv, ct, osl, rfl, _, _⟩, _⟩ := F
  exact .of_eq (hb kV doc pm an cdv ct [v] rfl)
theorem fn_def {K : PySem.W.Frag} {mg : Str → Option Value} {h : Heap} (X : K.In h) (G : h.Ns mainGlobals mg) {x : Str} {st : Stmt} {f : Addr} {oc : Value} {od an : Option Addr} {osl : Array (Option Value)} {kV doc pm cdv ct : Value} (a : PySem.W.nsIn K mainGlobals x = some (some (.ref f)))
    (l : K.lookup f = some ⟨oc, od, .func (PySem.W.fnOf x x (defArgs st) (defBody st) (defScope st) .none kV doc pm an cdv ct), osl⟩) (c : PySem.W.codeIn K cdv x = true) (k : PySem.W.keepIn K (.ref f) = true) : FnDef K mg x st :=
  ⟨f, _, PySem.W.mg_of X G a, fun_mk l c k, a⟩
theorem no_exc {P : Program} {w : World} (H : Hp) (s : Shared) (e : Value) (s' : Shared) (h : L2N.CX P w [] H s (fun _ _ _ => False) e s') : False := by
  obtain ⟨_, _, _, _, _, _, _, _, _, _, _, _, z⟩ := h
  exact z
end R
namespace R
open PySem PySem.Spec L2
open PyProof.Rows hiding St
/-! ### what holds behind it: for the words of the Core layer, no program in sight -/
structure Wn where
  nx : Rho → Prop := fun _ => False
  rt : Rv → Rho → Prop := fun _ _ => False
  bk : Rho → Prop := fun _ => False
  ct : Rho → Prop := fun _ => False
  ex : Exn → Rho → Prop := fun _ _ => False
/-- what it is about stays as it is (an argument's type hangs on it) -/
structure Hold {α : Type} (q : α) : Type where
def Pst {α : Type} (P : α → Rho → Prop) (E : Exn → Rho → Prop) (x : Res α) (_ : Hold (P, E) := ⟨⟩) : Prop := Post P E x
theorem Pst.mono {α : Type} {okP okP' : α → Rho → Prop} {erP erP' : Exn → Rho → Prop} {x : Res α} (h : Pst okP erP x) (m : ∀ a ρ, okP a ρ → okP' a ρ) (n : ∀ x ρ, erP x ρ → erP' x ρ) : Pst okP' erP' x := Post.mono h m n
theorem pst_ext {α : Type} {P P' : α → Rho → Prop} {E : Exn → Rho → Prop} {x : Res α} (h : ∀ a ρ, P a ρ = P' a ρ) : Pst P E x = Pst P' E x := by
  have : P = P' := funext fun a => funext fun ρ => h a ρ
  subst this; rfl
def WO (w : Wn) (o : Ou) (_ : Hold w := ⟨⟩) : Prop := match o with
  | .next ρ => w.nx ρ
  | .ret r ρ => w.rt r ρ
  | .brk ρ => w.bk ρ
  | .cont ρ => w.ct ρ
  | .err x ρ => w.ex x ρ
  | .stuck => False
section
variable {α β : Type} {P : α → Rho → Prop} {Pv : Rv → Rho → Prop} {Pb : Bool → Rho → Prop} {Pl : List Rv → Rho → Prop} {Pd : List PyData → Rho → Prop} {E : Exn → Rho → Prop} {w : Wn} {ρ : Rho}
def onS {γ : Type} (o : Option γ) (Q : γ → Prop) (_ : Hold Q := ⟨⟩) : Prop := match o with
  | some a => Q a
  | none => False
@[simp] theorem onS_some {γ : Type} {a : γ} {Q : γ → Prop} : onS (some a) Q = Q a := (rfl)
@[simp] theorem onS_none {γ : Type} {Q : γ → Prop} : onS none Q = False := (rfl)
theorem onS_ex {γ : Type} {o : Option γ} {Q : γ → Prop} (h : onS o Q) : ∃ a, o = some a ∧ Q a := by
  cases o with
  | none => exact h.elim
  | some a => exact ⟨a, rfl, h⟩
theorem onS_of {γ : Type} {o : Option γ} {Q : γ → Prop} {a : γ} (h : o = some a) (q : Q a) : onS o Q := by rw [h]; exact q
theorem post_of {x : Res α} {a : α} (h : x = .ok a ρ) (p : P a ρ) : Pst P E x := by rw [h]; exact p
def intD : PyData → Option Int
  | .int i => some i
  | _ => none
def bolD : PyData → Option Bool
  | .bool i => some i
  | _ => none
def bolR : Rv → Option Bool
  | .dat (.bool i) => some i
  | _ => none
def lstD : PyData → Option (List PyData)
  | .list l => some l
  | _ => none
def scrS : Sl → Option (List Int)
  | .scr l => some l
  | _ => none
def datS : Sl → Option PyData
  | .dat l => some l
  | _ => none
def varR (i : Nat) : Sl → Option Rv
  | .dat d => some (.dat d)
  | .ls _ => some (.bor i)
  | .rf _ _ => some (.bor i)
  | .dk _ => some (.bor i)
  | _ => none
@[simp] theorem intD_i {i : Int} : intD (.int i) = some i := (rfl)
@[simp] theorem bolD_i {i : Bool} : bolD (.bool i) = some i := (rfl)
@[simp] theorem bolR_i {i : Bool} : bolR (.dat (.bool i)) = some i := (rfl)
@[simp] theorem lstD_i {i : List PyData} : lstD (.list i) = some i := (rfl)
@[simp] theorem scrS_i {i : List Int} : scrS (.scr i) = some i := (rfl)
@[simp] theorem datS_i {i : PyData} : datS (.dat i) = some i := (rfl)
@[simp] theorem varR_d {i : Nat} {d : PyData} : varR i (.dat d) = some (.dat d) := (rfl)
@[simp] theorem varR_l {i : Nat} {d : List PyData} : varR i (.ls d) = some (.bor i) := (rfl)
@[simp] theorem varR_r {i k : Nat} {d : List PyData} : varR i (.rf k d) = some (.bor i) := (rfl)
@[simp] theorem varR_k {i : Nat} {d : List (Key × PyData)} : varR i (.dk d) = some (.bor i) := (rfl)
@[simp ↓] theorem w_ok {a : α} : Pst P E (.ok a ρ) = P a ρ := (rfl)
@[simp ↓] theorem w_er {x : Exn} : Pst P E (.err x ρ) = E x ρ := (rfl)
@[simp ↓] theorem w_st : Pst P E .stuck = False := (rfl)
@[simp ↓] theorem w_bind {Q : β → Rho → Prop} {x : Res α} {f : α → Rho → Res β} : Pst Q E (x.bind f) = Pst (fun a ρ1 => Pst Q E (f a ρ1)) E x := by cases x <;> rfl
@[simp ↓] theorem w_ou {x : Res α} {f : α → Rho → Ou} : WO w (x.ou f) = Pst (fun a ρ1 => WO w (f a ρ1)) w.ex x := by cases x <;> rfl
@[simp ↓] theorem w_next : WO w (.next ρ) = w.nx ρ := (rfl)
@[simp ↓] theorem w_retO {r : Rv} : WO w (.ret r ρ) = w.rt r ρ := (rfl)
@[simp ↓] theorem w_brk : WO w (.brk ρ) = w.bk ρ := (rfl)
@[simp ↓] theorem w_cont : WO w (.cont ρ) = w.ct ρ := (rfl)
@[simp ↓] theorem w_errO {x : Exn} : WO w (.err x ρ) = w.ex x ρ := (rfl)
@[simp ↓] theorem w_stO : WO w .stuck = False := (rfl)
@[simp ↓] theorem w_seq {f g : Rho → Ou} : WO w (dSeq f g ρ) = WO { w with nx := fun ρ1 => WO w (g ρ1) } (f ρ) := by unfold dSeq; cases f ρ <;> rfl
@[simp ↓] theorem w_no : WO w (dNoS ρ) = False := (rfl)
@[simp ↓] theorem w_noE : Pst P E (dNo ρ) = False := (rfl)
@[simp ↓] theorem w_opt {o : Option α} : Pst P E (ofOpt o ρ) = onS o fun a => P a ρ := by cases o <;> rfl
@[simp ↓] theorem w_set {m : Bool} {i : Nat} {f : Rho → Res Rv} : WO w (dSet m i f ρ) = Pst (fun r ρ1 => onS (setR m i r ρ1) w.nx) w.ex (f ρ) := by
  unfold dSet; rw [w_ou]; refine pst_ext fun r ρ1 => ?_; cases setR m i r ρ1 <;> rfl
@[simp] theorem setR_t {i : Nat} {l : List PyData} : setR true i (.new l) ρ = some (ρ.set i (.ls l)) := (rfl)
@[simp] theorem setR_k {i : Nat} {l : List (Key × PyData)} : setR true i (.newk l) ρ = some (ρ.set i (.dk l)) := (rfl)
@[simp] theorem setR_f {i : Nat} {r : Rv} : setR false i r ρ = (frz r ρ).map fun x => x.2.set i (.dat x.1) := by unfold setR; simp; cases frz r ρ <;> rfl
@[simp] theorem frz_d {d : PyData} : frz (.dat d) ρ = some (d, ρ) := (rfl)
@[simp] theorem frz_n {l : List PyData} : frz (.new l) ρ = some (.list l, ρ) := (rfl)
@[simp] theorem rd_d {d : PyData} : rd ρ (.dat d) = some d := (rfl)
@[simp] theorem rd_n {l : List PyData} : rd ρ (.new l) = some (.list l) := (rfl)
@[simp] theorem rd_b {i : Nat} : rd ρ (.bor i) = rdS ρ[i]? := (rfl)
@[simp] theorem rdS_l {l : List PyData} : rdS (some (.ls l)) = some (.list l) := (rfl)
@[simp] theorem rdS_r {k : Nat} {l : List PyData} : rdS (some (.rf k l)) = some (.list l) := (rfl)
@[simp ↓] theorem w_ret {f : Rho → Res Rv} : WO w (dRet f ρ) = Pst w.rt w.ex (f ρ) := by unfold dRet; rw [w_ou]; rfl
@[simp ↓] theorem w_retN : WO w (dRetN ρ) = w.rt (.dat .none) ρ := (rfl)
@[simp ↓] theorem w_drop {f : Rho → Res Rv} : WO w (dDrop f ρ) = Pst (fun _ ρ1 => w.nx ρ1) w.ex (f ρ) := by unfold dDrop; rw [w_ou]; rfl
@[simp ↓] theorem w_ifS {t : Rho → Res Bool} {f g : Rho → Ou} : WO w (dIfS t f g ρ) = Pst (fun b ρ1 => if b = true then WO w (f ρ1) else WO w (g ρ1)) w.ex (t ρ) := by
  unfold dIfS; rw [w_ou]; refine pst_ext fun b ρ1 => ?_; cases b <;> simp
@[simp ↓] theorem w_for {fi : Rho → Res (List PyData)} {g : PyData → Rho → Option Rho} {fb : Rho → Ou} : WO w (dFor fi g fb ρ) = Pst (fun ds ρ1 => WO w (dLoop g fb ds ρ1)) w.ex (fi ρ) := by unfold dFor; rw [w_ou]
@[simp ↓] theorem w_app {i : Nat} {f : Rho → Res Rv} : WO w (dApp i f ρ) = onS (lstAt ρ i) fun _ => Pst (fun r ρ1 => onS (frz r ρ1) fun x => onS (lstAt x.2 i) fun l => if l.length < 16777216 then w.nx (putAt x.2 i (l ++ [x.1])) else False) w.ex (f ρ) := by
  unfold dApp
  cases lstAt ρ i with
  | none => rfl
  | some l0 =>
    simp only [w_ou, onS_some]
    refine pst_ext fun r ρ1 => ?_
    cases frz r ρ1 with
    | none => rfl
    | some x =>
      simp only [onS_some]
      cases lstAt x.2 i with
      | none => rfl
      | some l => simp only [onS_some]; by_cases h : l.length < 16777216 <;> simp [h]
@[simp ↓] theorem w_setIx {i : Nat} {fi f : Rho → Res Rv} : WO w (dSetIx i fi f ρ) = Pst (fun r ρ1 => onS (frz r ρ1) fun x => onS (lstAt x.2 i) fun _ => Pst (fun ri ρ3 => onS (rd ρ3 ri) fun k => onS (intD k) fun k => onS (lstAt ρ3 i) fun l => onS (ixN l.length k) fun j => w.nx (putAt ρ3 i (l.set j x.1))) w.ex (fi x.2)) w.ex (f ρ) := by
  unfold dSetIx
  simp only [w_ou]
  refine pst_ext fun r ρ1 => ?_
  cases frz r ρ1 with
  | none => rfl
  | some x =>
    simp only [onS_some]
    cases lstAt x.2 i with
    | none => rfl
    | some l0 =>
      simp only [w_ou, onS_some]
      refine pst_ext fun ri ρ3 => ?_
      cases rd ρ3 ri with
      | none => rfl
      | some dd =>
        cases lstAt ρ3 i with
        | none => cases dd <;> rfl
        | some l =>
          cases dd <;> try rfl
          rename_i k
          simp only [onS_some, intD]
          cases ixN l.length k <;> rfl
@[simp ↓] theorem w_putK {i : Nat} {fk f : Rho → Res Rv} : WO w (dPutK i fk f ρ) = Pst (fun r ρ1 => onS (frz r ρ1) fun x => onS (dkAt x.2 i) fun _ => Pst (fun rk ρ3 => onS (rd ρ3 rk) fun dk => onS (dkAt ρ3 i) fun kvs => onS (keyD dk) fun k => if kvs.length < 16777216 then w.nx (ρ3.set i (.dk (putD kvs k x.1))) else False) w.ex (fk x.2)) w.ex (f ρ) := by
  unfold dPutK
  simp only [w_ou]
  refine pst_ext fun r ρ1 => ?_
  cases frz r ρ1 with
  | none => rfl
  | some x =>
    simp only [onS_some]
    cases dkAt x.2 i with
    | none => rfl
    | some l0 =>
      simp only [w_ou, onS_some]
      refine pst_ext fun rk ρ3 => ?_
      cases rd ρ3 rk with
      | none => rfl
      | some dd =>
        cases dkAt ρ3 i with
        | none => rfl
        | some kvs =>
          simp only [onS_some]
          cases keyD dd with
          | none => rfl
          | some k => simp only [onS_some]; by_cases h : kvs.length < 16777216 <;> simp [h]
@[simp ↓] theorem w_aug {i : Nat} {g : PyData → PyData → Option PyData} {f : Rho → Res Rv} : WO w (dAug i g f ρ) = onS ρ[i]? fun s => onS (datS s) fun d0 => Pst (fun r ρ1 => onS (rd ρ1 r) fun d1 => onS (g d0 d1) fun d2 => w.nx (ρ1.set i (.dat d2))) w.ex (f ρ) := by
  unfold dAug
  cases ρ[i]? with
  | none => rfl
  | some s =>
    cases s <;> try rfl
    rename_i d0
    simp only [w_ou, onS_some, datS]
    refine pst_ext fun r ρ1 => ?_
    cases rd ρ1 r with
    | none => rfl
    | some d1 => simp only [onS_some]; cases g d0 d1 <;> rfl
@[simp ↓] theorem w_asg {g : PyData → Rho → Option Rho} {f : Rho → Res Rv} : WO w (dAsg g f ρ) = Pst (fun r ρ1 => onS (frz r ρ1) fun x => onS (g x.1 x.2) w.nx) w.ex (f ρ) := by
  unfold dAsg
  simp only [w_ou]
  refine pst_ext fun r ρ1 => ?_
  cases frz r ρ1 with
  | none => rfl
  | some x => simp only [onS_some]; cases g x.1 x.2 <;> rfl
/-! expressions -/
@[simp ↓] theorem w_C {d : PyData} : Pst Pv E (dC d ρ) = Pv (.dat d) ρ := (rfl)
@[simp ↓] theorem w_var {i : Nat} : Pst Pv E (dVar i ρ) = onS ρ[i]? fun s => onS (varR i s) fun r => Pv r ρ := by
  unfold dVar
  cases ρ[i]? with
  | none => rfl
  | some s => cases s <;> rfl
@[simp ↓] theorem w_op2 {g : PyData → PyData → Option Rv} {fa fb : Rho → Res Rv} : Pst Pv E (dOp2 g fa fb ρ) = Pst (fun r1 ρ1 => Pst (fun r2 ρ2 => onS (rd ρ2 r1) fun d1 => onS (rd ρ2 r2) fun d2 => onS (g d1 d2) fun rv => Pv rv ρ2) E (fb ρ1)) E (fa ρ) := by
  unfold dOp2
  simp only [w_bind]
  refine pst_ext fun r1 ρ1 => ?_; rw [w_bind]; refine pst_ext fun r2 ρ2 => ?_
  cases rd ρ2 r1 with
  | none => rfl
  | some d1 =>
    cases rd ρ2 r2 with
    | none => rfl
    | some d2 => simp only [onS_some, w_opt]
@[simp ↓] theorem w_asB {f : Rho → Res Rv} : Pst Pb E (asB f ρ) = Pst (fun r ρ1 => onS (rd ρ1 r) fun d => onS (bolD d) fun b => Pb b ρ1) E (f ρ) := by
  unfold asB
  simp only [w_bind]
  refine pst_ext fun r ρ1 => ?_
  cases rd ρ1 r with
  | none => rfl
  | some d => cases d <;> rfl
@[simp ↓] theorem w_asV {f : Rho → Res Bool} : Pst Pv E (asV f ρ) = Pst (fun b ρ1 => Pv (.dat (.bool b)) ρ1) E (f ρ) := by unfold asV; rw [w_bind]; rfl
@[simp ↓] theorem w_not {f : Rho → Res Bool} : Pst Pb E (dNot f ρ) = Pst (fun b ρ1 => Pb (!b) ρ1) E (f ρ) := by unfold dNot; rw [w_bind]; rfl
@[simp ↓] theorem w_and {f g : Rho → Res Bool} : Pst Pb E (dAnd f g ρ) = Pst (fun b ρ1 => if b = true then Pst Pb E (g ρ1) else Pb false ρ1) E (f ρ) := by
  unfold dAnd; simp only [w_bind]; refine pst_ext fun b ρ1 => ?_; cases b <;> simp
@[simp ↓] theorem w_or {f g : Rho → Res Bool} : Pst Pb E (dOr f g ρ) = Pst (fun b ρ1 => if b = true then Pb true ρ1 else Pst Pb E (g ρ1)) E (f ρ) := by
  unfold dOr; simp only [w_bind]; refine pst_ext fun b ρ1 => ?_; cases b <;> simp
@[simp ↓] theorem w_chain {g g' : PyData → PyData → Option Rv} {fa fb fc : Rho → Res Rv} : Pst Pb E (dChain g g' fa fb fc ρ) = Pst (fun r1 ρ1 => Pst (fun r2 ρ2 => onS (rd ρ2 r1) fun d1 => onS (rd ρ2 r2) fun d2 => onS (g d1 d2) fun rv => onS (bolR rv) fun b =>
    if b = true then Pst (fun r3 ρ3 => onS (rd ρ3 r2) fun d2' => onS (rd ρ3 r3) fun d3 => onS (g' d2' d3) fun rv => onS (bolR rv) fun b' => Pb b' ρ3) E (fc ρ2) else Pb false ρ2) E (fb ρ1)) E (fa ρ) := by
  unfold dChain
  simp only [w_bind]
  refine pst_ext fun r1 ρ1 => ?_; rw [w_bind]; refine pst_ext fun r2 ρ2 => ?_
  cases rd ρ2 r1 with
  | none => rfl
  | some d1 =>
    cases rd ρ2 r2 with
    | none => rfl
    | some d2 =>
      simp only [onS_some]
      generalize g d1 d2 = z
      cases z with
      | none => rfl
      | some rv =>
        cases rv with
        | new _ => rfl
        | bor _ => rfl
        | newk _ => rfl
        | dat d =>
          cases d with
          | bool b =>
            cases b with
            | false => simp only [onS_some, bolR_i, w_ok]; rw [if_neg (by decide)]
            | true =>
              simp only [onS_some, bolR_i, w_bind]
              rw [if_pos trivial]
              refine pst_ext fun r3 ρ3 => ?_
              cases rd ρ3 r2 with
              | none => rfl
              | some d2' =>
                cases rd ρ3 r3 with
                | none => rfl
                | some d3 =>
                  simp only [onS_some]
                  generalize g' d2' d3 = z
                  cases z with
                  | none => rfl
                  | some rv =>
                    cases rv with
                    | new _ => rfl
                    | bor _ => rfl
                    | newk _ => rfl
                    | dat d => cases d <;> rfl
          | none => rfl
          | int _ => rfl
          | str _ => rfl
          | list _ => rfl
          | tuple _ => rfl
          | dict _ => rfl
@[simp ↓] theorem w_if {t : Rho → Res Bool} {fa fb : Rho → Res Rv} : Pst Pv E (dIf t fa fb ρ) = Pst (fun b ρ1 => if b = true then Pst Pv E (fa ρ1) else Pst Pv E (fb ρ1)) E (t ρ) := by
  unfold dIf; simp only [w_bind]; refine pst_ext fun b ρ1 => ?_; cases b <;> simp
@[simp ↓] theorem w_disp {mk : List PyData → Rv} {fs : Rho → Res (List Rv)} : Pst Pv E (dDisp mk fs ρ) = Pst (fun rs ρ1 => onS (frzAll rs ρ1) fun x => if x.1.length ≤ 16777216 then Pv (mk x.1) x.2 else False) E (fs ρ) := by
  unfold dDisp; simp only [w_bind]; refine pst_ext fun rs ρ1 => ?_
  cases frzAll rs ρ1 with
  | none => rfl
  | some x => simp only [onS_some]; by_cases h : x.1.length ≤ 16777216 <;> simp [h]
def nkB : Rv → Bool
  | .newk _ => true
  | _ => false
@[simp] theorem nk_d {d : PyData} : nkB (.dat d) = false := (rfl)
@[simp] theorem nk_n {d : List PyData} : nkB (.new d) = false := (rfl)
@[simp] theorem nk_b {d : Nat} : nkB (.bor d) = false := (rfl)
@[simp] theorem nk_k {d : List (Key × PyData)} : nkB (.newk d) = true := (rfl)
@[simp] theorem weak_d {d : PyData} : (Rv.dat d).weak = .dat d := (rfl)
@[simp] theorem weak_n {d : List PyData} : (Rv.new d).weak = .dat (.list d) := (rfl)
@[simp] theorem weak_b {d : Nat} : (Rv.bor d).weak = .bor d := (rfl)
@[simp ↓] theorem w_cons {fa : Rho → Res Rv} {fs : Rho → Res (List Rv)} : Pst Pl E (dCons fa fs ρ) = Pst (fun r ρ1 => if nkB r = true then False else Pst (fun rs ρ2 => Pl (r.weak :: rs) ρ2) E (fs ρ1)) E (fa ρ) := by
  unfold dCons; simp only [w_bind]; refine pst_ext fun r ρ1 => ?_; cases r <;> first | (simp; done) | (rw [if_neg (by simp [nkB]), w_bind]; rfl)
@[simp ↓] theorem w_nil : Pst Pl E (dNil ρ) = Pl [] ρ := (rfl)
@[simp] theorem frzAll_nil : frzAll [] ρ = some ([], ρ) := (rfl)
@[simp] theorem frzAll_cons {r : Rv} {rs : List Rv} : frzAll (r :: rs) ρ = (frz r ρ).bind fun x => (frzAll rs x.2).map fun y => (x.1 :: y.1, y.2) := by
  rw [frzAll]
  cases frz r ρ with
  | none => rfl
  | some x => obtain ⟨d, ρ1⟩ := x; simp; cases frzAll rs ρ1 <;> rfl
@[simp] theorem rdAll_nil : rdAll ρ [] = some [] := (rfl)
@[simp] theorem rdAll_cons {r : Rv} {rs : List Rv} : rdAll ρ (r :: rs) = (rd ρ r).bind fun x => (rdAll ρ rs).map fun y => x :: y := by
  rw [rdAll]
  cases rd ρ r with
  | none => rfl
  | some x => simp; cases rdAll ρ rs <;> rfl
@[simp ↓] theorem w_blt {g : List PyData → Option Rv} {fs : Rho → Res (List Rv)} : Pst Pv E (dBlt g fs ρ) = Pst (fun rs ρ1 => onS (rdAll ρ1 rs) fun ds => onS (g ds) fun rv => Pv rv ρ1) E (fs ρ) := by
  unfold dBlt; simp only [w_bind]; refine pst_ext fun rs ρ1 => ?_
  cases rdAll ρ1 rs with
  | none => rfl
  | some ds => simp only [onS_some, w_opt]
@[simp ↓] theorem w_isi {tb : String → Option Bool} {fa : Rho → Res Rv} : Pst Pv E (dIsi tb fa ρ) = Pst (fun r ρ1 => onS (rd ρ1 r) fun d => onS (gIsi tb d) fun rv => Pv rv ρ1) E (fa ρ) := by
  unfold dIsi; simp only [w_bind]; refine pst_ext fun r ρ1 => ?_
  cases rd ρ1 r with
  | none => rfl
  | some ds => simp only [onS_some, w_opt]
@[simp ↓] theorem w_pn {Q : Option Int → Rho → Prop} : Pst Q E (dPn ρ) = Q none ρ := (rfl)
@[simp ↓] theorem w_ps {Q : Option Int → Rho → Prop} {f : Rho → Res Rv} : Pst Q E (dPs f ρ) = Pst (fun r ρ1 => onS (rd ρ1 r) fun d => onS (intD d) fun i => Q (some i) ρ1) E (f ρ) := by
  unfold dPs; simp only [w_bind]; refine pst_ext fun r ρ1 => ?_
  cases rd ρ1 r with
  | none => rfl
  | some d => cases d <;> rfl
@[simp ↓] theorem w_sl {fa : Rho → Res Rv} {fl fh : Rho → Res (Option Int)} : Pst Pv E (dSl fa fl fh ρ) = Pst (fun r1 ρ1 => Pst (fun lo ρ2 => Pst (fun hi ρ3 => onS (rd ρ3 r1) fun d => onS (gSl d lo hi) fun rv => Pv rv ρ3) E (fh ρ2)) E (fl ρ1)) E (fa ρ) := by
  unfold dSl; simp only [w_bind]; refine pst_ext fun r1 ρ1 => ?_; rw [w_bind]; refine pst_ext fun lo ρ2 => ?_; rw [w_bind]; refine pst_ext fun hi ρ3 => ?_
  cases rd ρ3 r1 with
  | none => rfl
  | some ds => simp only [onS_some, w_opt]
def callC (ms : List Bool) (rs : List Rv) (args : List Sl) : Prop := (ms.count true ≤ 1) ∧ ((outOf args).isSome = (refSlot ms rs).isSome) ∧ (lends ms rs = false ∨ refSlot ms rs = none)
@[simp ↓] theorem w_call {g : List Sl → FRes} {ms : List Bool} {fs : Rho → Res (List Rv)} : Pst Pv E (dCall g ms fs ρ) = Pst (fun rs ρ1 => onS (argSls ρ1 ms rs) fun args => callC ms rs args ∧ Pst Pv E (callFin ms rs ρ1 (g args))) E (fs ρ) := by
  unfold dCall; simp only [w_bind]; refine pst_ext fun rs ρ1 => ?_
  cases argSls ρ1 ms rs with
  | none => rfl
  | some args =>
    simp only [onS_some]
    by_cases h : callC ms rs args
    · rw [if_pos (show (ms.count true ≤ 1) ∧ ((outOf args).isSome = (refSlot ms rs).isSome) ∧ (lends ms rs = false ∨ refSlot ms rs = none) from h)]; simp only [h, true_and]
    · rw [if_neg (show ¬ ((ms.count true ≤ 1) ∧ ((outOf args).isSome = (refSlot ms rs).isSome) ∧ (lends ms rs = false ∨ refSlot ms rs = none)) from h), w_st]; simp only [h, false_and]
@[simp ↓] theorem w_fin {ms : List Bool} {rs : List Rv} {r : Rv} {l : List PyData} : Pst Pv E (callFin ms rs ρ (.ok r l)) = if ((lends ms rs && !scalR r) || (isNewR r && !(l.all flatD))) = true then False else Pv r (outAt ms rs l ρ) := by
  show Pst Pv E (if ((lends ms rs && !scalR r) || (isNewR r && !(l.all flatD))) = true then _ else _) = _
  generalize ((lends ms rs && !scalR r) || (isNewR r && !(l.all flatD))) = z
  cases z
  · rw [if_neg (by decide)]; simp
  · rw [if_pos rfl]; simp
@[simp ↓] theorem w_finE {ms : List Bool} {rs : List Rv} {x : Exn} {l : List PyData} : Pst Pv E (callFin ms rs ρ (.err x l)) = E x (outAt ms rs l ρ) := (rfl)
@[simp ↓] theorem w_lc {vs : List Nat} {fi : Rho → Res (List PyData)} {g : PyData → Rho → Option Rho} {t : Rho → Res Bool} {e : Rho → Res Rv} : Pst Pv E (dLc vs fi g t e ρ) = Pst (fun ds ρ1 => Pst (fun l ρ2 => Pv (.new l) (restore ρ1 ρ2 vs)) E (dComp vs g t e ds (wipeR ρ1 vs))) E (fi ρ) := by
  unfold dLc; rw [w_bind]; refine pst_ext fun ds ρ1 => ?_; rw [w_bind]; rfl
@[simp ↓] theorem w_seqI {f : Rho → Res Rv} : Pst Pd E (dSeqI f ρ) = Pst (fun r ρ1 => onS (frz r ρ1) fun x => onS (seqD x.1) fun l => Pd l x.2) E (f ρ) := by
  unfold dSeqI; simp only [w_bind]; refine pst_ext fun r ρ1 => ?_
  cases frz r ρ1 with
  | none => rfl
  | some x => simp only [onS_some, w_opt]
@[simp ↓] theorem w_rng {g : List PyData → Option (List PyData)} {fs : Rho → Res (List Rv)} : Pst Pd E (dRng g fs ρ) = Pst (fun rs ρ1 => onS (rdAll ρ1 rs) fun ds => onS (g ds) fun l => Pd l ρ1) E (fs ρ) := by
  unfold dRng; simp only [w_bind]; refine pst_ext fun rs ρ1 => ?_
  cases rdAll ρ1 rs with
  | none => rfl
  | some x => simp only [onS_some, w_opt]
@[simp ↓] theorem w_itr {g : List PyData → Option (List PyData)} {fs : Rho → Res (List Rv)} : Pst Pd E (dItr g fs ρ) = Pst (fun rs ρ1 => onS (frzAll rs ρ1) fun x => onS (g x.1) fun l => Pd l x.2) E (fs ρ) := by
  unfold dItr; simp only [w_bind]; refine pst_ext fun rs ρ1 => ?_
  cases frzAll rs ρ1 with
  | none => rfl
  | some x => simp only [onS_some, w_opt]
@[simp ↓] theorem w_neg {f : Rho → Res Rv} : Pst Pv E (dNeg f ρ) = Pst (fun r ρ1 => onS (rd ρ1 r) fun d => onS (intD d) fun i => Pv (.dat (.int (-i))) ρ1) E (f ρ) := by
  unfold dNeg; simp only [w_bind]; refine pst_ext fun r ρ1 => ?_
  cases rd ρ1 r with
  | none => rfl
  | some d => cases d <;> rfl
@[simp ↓] theorem w_addS {i : Nat} {fa : Rho → Res Rv} : Pst Pv E (dAddS i fa ρ) = Pst (fun r1 ρ1 => onS (rd ρ1 r1) fun d => onS (lstD d) fun l => onS ρ1[i]? fun s => onS (scrS s) fun ns => if l.length + ns.length ≤ 16777216 then Pv (.new (l ++ ns.map .int)) ρ1 else False) E (fa ρ) := by
  unfold dAddS; simp only [w_bind]; refine pst_ext fun r ρ1 => ?_
  cases e1 : rd ρ1 r with
  | none => rfl
  | some d =>
    cases e2 : ρ1[i]? with
    | none => cases d <;> rfl
    | some s =>
      cases d <;> cases s <;> try rfl
      rename_i l ns
      simp only [onS_some, lstD, scrS]
      by_cases h : l.length + ns.length ≤ 16777216 <;> simp [h]
@[simp ↓] theorem w_yes : Pst Pb E (dYes ρ) = Pb true ρ := (rfl)
@[simp ↓] theorem w_newK : Pst Pv E (dNewK ρ) = Pv (.newk []) ρ := (rfl)
@[simp ↓] theorem w_lenK {i : Nat} : Pst Pv E (dLenK i ρ) = onS (dkAt ρ i) fun kvs => Pv (.dat (.int (kvs.length : Int))) ρ := by
  unfold dLenK; cases dkAt ρ i <;> rfl
@[simp ↓] theorem w_sortK {i : Nat} : Pst Pv E (dSortK i ρ) = onS (dkAt ρ i) fun kvs => onS (keysI kvs) fun ns => Pv (.new ((srtI ns).map PyData.int)) ρ := by
  unfold dSortK
  cases dkAt ρ i with
  | none => rfl
  | some kvs => simp only [onS_some]; cases keysI kvs <;> rfl
def pc (m : Bool) (r : Rv) (ρ : Rho) : Option (Sl × Rho) := match m, r with
  | true, .new l => some (.ls l, ρ)
  | true, _ => none
  | false, r => (frz r ρ).map fun x => (.dat x.1, x.2)
@[simp] theorem pc_t {l : List PyData} : pc true (.new l) ρ = some (.ls l, ρ) := (rfl)
@[simp] theorem pc_f {r : Rv} : pc false r ρ = (frz r ρ).map fun x => (.dat x.1, x.2) := (rfl)
@[simp ↓] theorem w_par {m1 m2 : Bool} {i j : Nat} {fa fb : Rho → Res Rv} : WO w (dPar m1 m2 i j fa fb ρ) = Pst (fun r1 ρ1 => onS (pc m1 r1 ρ1) fun x => Pst (fun r2 ρ2 => onS (pc m2 r2 ρ2) fun y => w.nx ((y.2.set i x.1).set j y.1)) w.ex (fb x.2)) w.ex (fa ρ) := by
  unfold dPar
  simp only [w_ou]
  refine pst_ext fun r1 ρ1 => ?_
  cases m1 with
  | true =>
    cases r1 with
    | new l1 =>
      simp only [w_ou, pc, onS_some]
      refine pst_ext fun r2 ρ2 => ?_
      cases m2 with
      | true => cases r2 <;> rfl
      | false => simp only [pc]; cases frz r2 ρ2 <;> rfl
    | dat _ => rfl
    | bor _ => rfl
    | newk _ => rfl
  | false =>
    simp only [pc]
    cases frz r1 ρ1 with
    | none => rfl
    | some x =>
      simp only [w_ou, onS_some, Option.map_some]
      refine pst_ext fun r2 ρ2 => ?_
      cases m2 with
      | true => cases r2 <;> rfl
      | false => simp only [pc]; cases frz r2 ρ2 <;> rfl
end
/-! a def's end -/
abbrev wF (args : List Sl) (Q : Rv → List PyData → Prop) (E : Exn → List PyData → Prop := fun _ _ => False) : Wn :=
  { nx := fun ρ => (outOf args).isSome = (outOf ρ).isSome ∧ Q (.dat .none) ((outOf ρ).getD []), rt := fun rv ρ => onS (retRv ρ rv) fun r => (outOf args).isSome = (outOf ρ).isSome ∧ Q r ((outOf ρ).getD []), ex := fun x ρ => (outOf args).isSome = (outOf ρ).isSome ∧ E x ((outOf ρ).getD []) }
theorem fun_ex {n : Nat} {fb : Rho → Ou} {args : List Sl} {Q : Rv → List PyData → Prop} (h : WO (wF args Q) (fb (args ++ List.replicate (n - args.length) .un))) : ∃ r l, dFun n fb args = .ok r l ∧ Q r l := by
  unfold dFun
  generalize fb (args ++ List.replicate (n - args.length) .un) = o at h
  cases o with
  | next ρ =>
    obtain ⟨h1, h2⟩ := h
    refine ⟨.dat .none, (outOf ρ).getD [], ?_, h2⟩
    unfold dFin
    dsimp only
    rw [if_pos h1]
  | ret rv ρ =>
    have h : onS (retRv ρ rv) fun r => (outOf args).isSome = (outOf ρ).isSome ∧ Q r ((outOf ρ).getD []) := h
    cases e : retRv ρ rv with
    | none => rw [e] at h; exact h.elim
    | some r =>
      rw [e] at h
      obtain ⟨h2, h3⟩ := h
      refine ⟨r, (outOf ρ).getD [], ?_, h3⟩
      unfold dFin
      simp only [e]
      rw [if_pos h2]
  | brk _ => exact h.elim
  | cont _ => exact h.elim
  | err _ _ => exact h.2.elim
  | stuck => exact h.elim
theorem fun_ok {n : Nat} {fb : Rho → Ou} {args : List Sl} {r : Rv} {l : List PyData} (h : WO (wF args fun r' l' => r' = r ∧ l' = l) (fb (args ++ List.replicate (n - args.length) .un))) : dFun n fb args = .ok r l := by
  obtain ⟨r', l', e, rfl, rfl⟩ := fun_ex h
  exact e
theorem fun_er {n : Nat} {fb : Rho → Ou} {args : List Sl} {x : Exn} {l : List PyData} (h : WO (wF args (fun _ _ => False) fun x' l' => x' = x ∧ l' = l) (fb (args ++ List.replicate (n - args.length) .un))) : dFun n fb args = .err x l := by
  unfold dFun
  generalize fb (args ++ List.replicate (n - args.length) .un) = o at h
  cases o with
  | next ρ => exact h.2.elim
  | ret rv ρ =>
    have h : onS (retRv ρ rv) fun r => (outOf args).isSome = (outOf ρ).isSome ∧ False := h
    cases e : retRv ρ rv with
    | none => rw [e] at h; exact h.elim
    | some r => rw [e] at h; exact h.2.elim
  | brk _ => exact h.elim
  | cont _ => exact h.elim
  | err _ ρ =>
    obtain ⟨h1, rfl, rfl⟩ := h
    unfold dFin
    dsimp only
    rw [if_pos h1]
  | stuck => exact h.elim
@[simp] theorem retRv_d {d : PyData} {ρ : Rho} : retRv ρ (.dat d) = some (.dat d) := (rfl)
@[simp] theorem retRv_n {d : List PyData} {ρ : Rho} : retRv ρ (.new d) = some (.new d) := (rfl)
@[simp] theorem retRv_k {d : List (Key × PyData)} {ρ : Rho} : retRv ρ (.newk d) = some (.newk d) := (rfl)
@[simp] theorem retRv_b {i : Nat} {ρ : Rho} : retRv ρ (.bor i) = match ρ[i]? with | some (.ls l) => some (.new l) | some (.dk k) => some (.newk k) | _ => none := (rfl)
@[simp] theorem callC_e {ms : List Bool} {rs : List Rv} {args : List Sl} : callC ms rs args = ((ms.count true ≤ 1) ∧ ((outOf args).isSome = (refSlot ms rs).isSome) ∧ (lends ms rs = false ∨ refSlot ms rs = none)) := (rfl)
def lv : Option PyData → Sl
  | some d => .dat d
  | none => .un
@[simp] theorem lv_s {d : PyData} : lv (some d) = .dat d := (rfl)
@[simp] theorem lv_n : lv none = .un := (rfl)
@[simp] theorem outOf_lv {o : Option PyData} {r : Rho} : outOf (lv o :: r) = outOf r := by cases o <;> rfl
@[simp] theorem outOf_nil : outOf [] = none := (rfl)
@[simp] theorem outOf_d {d : PyData} {r : Rho} : outOf (.dat d :: r) = outOf r := (rfl)
@[simp] theorem outOf_l {d : List PyData} {r : Rho} : outOf (.ls d :: r) = outOf r := (rfl)
@[simp] theorem outOf_k {d : List (Key × PyData)} {r : Rho} : outOf (.dk d :: r) = outOf r := (rfl)
@[simp] theorem outOf_u {r : Rho} : outOf (.un :: r) = outOf r := (rfl)
@[simp] theorem outOf_s {n : List Int} {r : Rho} : outOf (.scr n :: r) = outOf r := (rfl)
@[simp] theorem outOf_r {k : Nat} {l : List PyData} {r : Rho} : outOf (.rf k l :: r) = some l := (rfl)
@[simp] theorem argSls_nil {ρ : Rho} : argSls ρ [] [] = some [] := (rfl)
@[simp] theorem argSls_cons {ρ : Rho} {m : Bool} {ms : List Bool} {r : Rv} {rs : List Rv} : argSls ρ (m :: ms) (r :: rs) = (argSl ρ m r).bind fun a => (argSls ρ ms rs).map fun as => a :: as := by
  rw [argSls]
  cases argSl ρ m r with
  | none => rfl
  | some x => simp; cases argSls ρ ms rs <;> rfl
@[simp] theorem argSl_f {ρ : Rho} {r : Rv} : argSl ρ false r = (rd ρ r).map Sl.dat := by cases r <;> rfl
@[simp] theorem argSl_t {ρ : Rho} {i : Nat} : argSl ρ true (.bor i) = (lstAt ρ i).map (Sl.rf 0) := (rfl)
@[simp] theorem refSlot_nil : refSlot [] [] = none := (rfl)
@[simp] theorem refSlot_t {ms : List Bool} {rs : List Rv} {i : Nat} : refSlot (true :: ms) (.bor i :: rs) = some i := (rfl)
@[simp] theorem refSlot_f {ms : List Bool} {rs : List Rv} {r : Rv} : refSlot (false :: ms) (r :: rs) = refSlot ms rs := by cases r <;> rfl
@[simp] theorem lends_nil : lends [] [] = false := (rfl)
@[simp] theorem lends_b {ms : List Bool} {rs : List Rv} {i : Nat} : lends (false :: ms) (.bor i :: rs) = true := (rfl)
@[simp] theorem lends_t {ms : List Bool} {rs : List Rv} {r : Rv} : lends (true :: ms) (r :: rs) = lends ms rs := by cases r <;> rfl
@[simp] theorem lends_d {ms : List Bool} {rs : List Rv} {d : PyData} : lends (false :: ms) (.dat d :: rs) = lends ms rs := (rfl)
@[simp] theorem scalR_d {d : PyData} : scalR (.dat d) = flatD d := (rfl)
@[simp] theorem scalR_n {d : List PyData} : scalR (.new d) = false := (rfl)
@[simp] theorem isNewR_d {d : PyData} : isNewR (.dat d) = false := (rfl)
@[simp] theorem isNewR_n {d : List PyData} : isNewR (.new d) = true := (rfl)
@[simp] theorem outAt_n {rs : List Rv} {ms : List Bool} {ρ : Rho} {l : List PyData} : outAt ms rs l ρ = (match refSlot ms rs with | some i => putAt ρ i l | none => ρ) := (rfl)
@[simp] theorem lstAt_e {ρ : Rho} {i : Nat} : lstAt ρ i = (ρ[i]?).bind Sl.lst := (rfl)
@[simp] theorem lst_l {l : List PyData} : (Sl.ls l).lst = some l := (rfl)
@[simp] theorem lst_r {k : Nat} {l : List PyData} : (Sl.rf k l).lst = some l := (rfl)
@[simp] theorem putAt_e {ρ : Rho} {i : Nat} {l : List PyData} : putAt ρ i l = (match ρ[i]? with | some s => ρ.set i (s.put l) | none => ρ) := (rfl)
@[simp] theorem put_l {l m : List PyData} : (Sl.ls l).put m = .ls m := (rfl)
@[simp] theorem put_r {k : Nat} {l m : List PyData} : (Sl.rf k l).put m = .rf k m := (rfl)
@[simp] theorem dkAt_e {ρ : Rho} {i : Nat} : dkAt ρ i = (match ρ[i]? with | some (.dk kvs) => some kvs | _ => none) := (rfl)
@[simp] theorem flatD_i {i : Int} : flatD (.int i) = true := (rfl)
@[simp] theorem flatD_b {i : Bool} : flatD (.bool i) = true := (rfl)
@[simp] theorem flatD_n : flatD .none = true := (rfl)
@[simp] theorem flatD_s {s : Str} : flatD (.str s) = true := (rfl)
@[simp] theorem frz_b {i : Nat} {ρ : Rho} : frz (.bor i) ρ = (match ρ[i]? with | some (.ls l) => some (.list l, ρ.set i (.dat (.list l))) | _ => none) := (rfl)
@[simp] theorem tgN_e {i : Nat} {d : PyData} {ρ : Rho} : tgN i d ρ = some (ρ.set i (.dat d)) := (rfl)
@[simp] theorem tgNil_e {ρ : Rho} : tgNil [] ρ = some ρ := (rfl)
@[simp] theorem tgCons_e {f : PyData → Rho → Option Rho} {g : List PyData → Rho → Option Rho} {d : PyData} {r : List PyData} {ρ : Rho} : tgCons f g (d :: r) ρ = (f d ρ).bind fun ρ1 => g r ρ1 := (rfl)
@[simp] theorem tgTup_e {n : Nat} {g : List PyData → Rho → Option Rho} {l : List PyData} {ρ : Rho} : tgTup n g (.tuple l) ρ = if l.length = n then g l ρ else none := (rfl)
@[simp] theorem wipeR_nil {ρ : Rho} : wipeR ρ [] = ρ := (rfl)
@[simp] theorem wipeR_cons {ρ : Rho} {v : Nat} {vs : List Nat} : wipeR ρ (v :: vs) = (wipeR ρ vs).set v .un := (rfl)
@[simp] theorem restore_nil {ρ0 ρ : Rho} : restore ρ0 ρ [] = ρ := (rfl)
def rsS : Option Sl → Sl
  | some (.dat d) => .dat d
  | _ => .un
@[simp] theorem rsS_d {d : PyData} : rsS (some (.dat d)) = .dat d := (rfl)
@[simp] theorem rsS_u : rsS (some .un) = .un := (rfl)
@[simp] theorem rsS_n : rsS none = .un := (rfl)
@[simp] theorem rsS_l {d : List PyData} : rsS (some (.ls d)) = .un := (rfl)
@[simp] theorem rsS_lv {x : Option PyData} : rsS (some (lv x)) = lv x := by cases x <;> rfl
@[simp] theorem restore_cons {ρ0 ρ : Rho} {v : Nat} {vs : List Nat} : restore ρ0 ρ (v :: vs) = (restore ρ0 ρ vs).set v (rsS ρ0[v]?) := by
  show (match ρ0[v]? with | some (.dat d) => (restore ρ0 ρ vs).set v (.dat d) | _ => (restore ρ0 ρ vs).set v .un) = _
  cases ρ0[v]? with
  | none => rfl
  | some s => cases s <;> rfl
/-- a list of one's own, or data, or nothing yet -/
inductive La where
  | no | ls (l : List PyData) | dat (d : PyData)
def la : La → Sl
  | .no => .un
  | .ls l => .ls l
  | .dat d => .dat d
@[simp] theorem la_n : la .no = .un := (rfl)
@[simp] theorem la_l {l : List PyData} : la (.ls l) = .ls l := (rfl)
@[simp] theorem la_d {d : PyData} : la (.dat d) = .dat d := (rfl)
@[simp] theorem outOf_la {o : La} {r : Rho} : outOf (la o :: r) = outOf r := by cases o <;> rfl
@[simp] theorem seqD_l {l : List PyData} : seqD (.list l) = some l := (rfl)
@[simp] theorem seqD_t {l : List PyData} : seqD (.tuple l) = some l := (rfl)
@[simp] theorem mkTup_e {l : List PyData} : mkTup l = .dat (.tuple l) := (rfl)
@[simp] theorem mkLst_e {l : List PyData} : mkLst l = .new l := (rfl)
/-! loops -/
theorem loop_w {w : Wn} {g : PyData → Rho → Option Rho} {body : Rho → Ou} (I : List PyData → Rho → Prop)
    (step : ∀ d rest ρ, I (d :: rest) ρ → onS (g d ρ) fun ρ1 => WO { nx := I rest, ct := I rest, bk := w.nx, rt := w.rt, ex := w.ex } (body ρ1)) (fin : ∀ ρ, I [] ρ → w.nx ρ) : ∀ ds ρ, I ds ρ → WO w (dLoop g body ds ρ)
  | [], ρ, h => fin ρ h
  | d :: ds, ρ, h => by
    obtain ⟨ρ1, e, k⟩ := onS_ex (step d ds ρ h)
    unfold dLoop
    rw [e]
    dsimp only
    cases z : body ρ1 with
    | next ρ2 => rw [z] at k; exact loop_w I step fin ds ρ2 k
    | cont ρ2 => rw [z] at k; exact loop_w I step fin ds ρ2 k
    | brk ρ2 => rw [z] at k; exact k
    | ret r ρ2 => rw [z] at k; exact k
    | err x ρ2 => rw [z] at k; exact k
    | stuck => rw [z] at k; exact k
abbrev NoE : Exn → Rho → Prop := fun _ _ => False
theorem comp_w {vs : List Nat} {g : PyData → Rho → Option Rho} {t : Rho → Res Bool} {e : Rho → Res Rv} {E : Exn → Rho → Prop} (I : List PyData → List PyData → Rho → Prop)
    (step : ∀ d rest acc ρ, I (d :: rest) acc ρ → onS (g d ρ) fun ρ1 => Pst (fun b ρ2 => if b = true then Pst (fun r ρ3 => onS (frz r ρ3) fun x => I rest (acc ++ [x.1]) (wipeR x.2 vs)) NoE (e ρ2) else I rest acc (wipeR ρ2 vs)) NoE (t ρ1)) :
    ∀ ds acc ρ, I ds acc ρ → Pst (fun l ρ' => I [] (acc ++ l) ρ') E (dComp vs g t e ds ρ)
  | [], acc, ρ, h => by simpa [dComp] using h
  | d :: ds, acc, ρ, h => by
    obtain ⟨ρ1, e1, k⟩ := onS_ex (step d ds acc ρ h)
    unfold dComp
    rw [e1]
    dsimp only
    cases z : t ρ1 with
    | stuck => rw [z] at k; exact k.elim
    | err x ρ2 => rw [z] at k; exact k.elim
    | ok b ρ2 =>
      rw [z] at k
      cases b with
      | false => exact comp_w I step ds acc _ (by simpa using k)
      | true =>
        have k : Pst (fun r ρ3 => onS (frz r ρ3) fun x => I ds (acc ++ [x.1]) (wipeR x.2 vs)) NoE (e ρ2) := by simpa using k
        dsimp only
        cases z2 : e ρ2 with
        | stuck => rw [z2] at k; exact k.elim
        | err x ρ3 => rw [z2] at k; exact k.elim
        | ok r ρ3 =>
          rw [z2] at k
          obtain ⟨⟨x, ρ4⟩, e3, k⟩ := onS_ex k
          dsimp only
          rw [e3]
          dsimp only
          rw [w_bind]
          have := comp_w (E := E) I step ds (acc ++ [x]) _ k
          refine this.mono (fun l ρ' q => ?_) fun _ _ q => q
          simpa using q
theorem comp_map {vs : List Nat} {g : PyData → Rho → Option Rho} {t : Rho → Res Bool} {e : Rho → Res Rv} {ρ : Rho} {f : PyData → Option PyData} : ∀ {ds : List PyData}
    (h : ∀ d ∈ ds, onS (g d ρ) fun ρ1 => Pst (fun b ρ2 => if b = true then Pst (fun r ρ3 => onS (frz r ρ3) fun x => f d = some x.1 ∧ wipeR x.2 vs = ρ) NoE (e ρ2) else f d = none ∧ wipeR ρ2 vs = ρ) NoE (t ρ1)), dComp vs g t e ds ρ = .ok (ds.filterMap f) ρ
  | [], _ => rfl
  | d :: ds, h => by
    have ih := comp_map (ds := ds) fun d' m => h d' (List.mem_cons_of_mem _ m)
    obtain ⟨ρ1, e1, k⟩ := onS_ex (h d List.mem_cons_self)
    unfold dComp
    rw [e1]
    dsimp only
    cases z : t ρ1 with
    | stuck => rw [z] at k; exact k.elim
    | err x ρ2 => rw [z] at k; exact k.elim
    | ok b ρ2 =>
      rw [z] at k
      cases b with
      | false =>
        obtain ⟨k1, k2⟩ : f d = none ∧ wipeR ρ2 vs = ρ := by simpa using k
        dsimp only
        rw [k2, ih, List.filterMap_cons, k1]
      | true =>
        have k : Pst (fun r ρ3 => onS (frz r ρ3) fun x => f d = some x.1 ∧ wipeR x.2 vs = ρ) NoE (e ρ2) := by simpa using k
        dsimp only
        cases z2 : e ρ2 with
        | stuck => rw [z2] at k; exact k.elim
        | err x ρ3 => rw [z2] at k; exact k.elim
        | ok r ρ3 =>
          rw [z2] at k
          obtain ⟨⟨x, ρ4⟩, e3, k1, k2⟩ := onS_ex k
          dsimp only
          rw [e3]
          dsimp only
          have k2 : wipeR ρ4 vs = ρ := k2
          have k1 : f d = some x := k1
          rw [k2, ih, List.filterMap_cons, k1]
          rfl
theorem while_w {w : Wn} {c : Rho → Res Bool} {body : Rho → Ou} (I : Nat → Rho → Prop)
    (step : ∀ m ρ, I m ρ → Pst (fun b ρ1 => if b = true then ∃ m', m = m' + 1 ∧ WO { nx := I m', ct := I m', bk := w.nx, rt := w.rt, ex := w.ex } (body ρ1) else w.nx ρ1) w.ex (c ρ)) : ∀ n m ρ, m < n → I m ρ → WO w (dWhile c body n ρ)
  | 0, m, ρ, hn, h => absurd hn (Nat.not_lt_zero m)
  | n + 1, m, ρ, hn, h => by
    have k := step m ρ h
    unfold dWhile
    cases z : c ρ with
    | stuck => rw [z] at k; exact k.elim
    | err x ρ1 => rw [z] at k; exact k
    | ok b ρ1 =>
      rw [z] at k
      cases b with
      | false => exact (show w.nx ρ1 by simpa using k)
      | true =>
        obtain ⟨m', rfl, k2⟩ : ∃ m', m = m' + 1 ∧ WO { nx := I m', ct := I m', bk := w.nx, rt := w.rt, ex := w.ex } (body ρ1) := by simpa using k
        clear k
        dsimp only
        have go := while_w I step n m'
        cases z2 : body ρ1 with
        | next ρ2 => rw [z2] at k2; exact go ρ2 (by omega) k2
        | cont ρ2 => rw [z2] at k2; exact go ρ2 (by omega) k2
        | brk ρ2 => rw [z2] at k2; exact k2
        | ret r ρ2 => rw [z2] at k2; exact k2
        | err x ρ2 => rw [z2] at k2; exact k2
        | stuck => rw [z2] at k2; exact k2
end R
namespace R
open PySem PySem.Spec L2
open PyProof.Rows hiding St
/-! ### plain data: what == takes -/
mutual
def pl : Nat → PyData → Bool
  | _, .none => true
  | _, .bool _ => true
  | _, .int _ => true
  | _, .str x => PyData.canLay0 (.str x)
  | 0, .list _ => false
  | 0, .tuple _ => false
  | n + 1, .list l => plA n l
  | n + 1, .tuple l => plA n l
  | _, .dict _ => false
def plA : Nat → List PyData → Bool
  | _, [] => true
  | n, d :: r => pl n d && plA n r
end
mutual
theorem pl_lay : ∀ (n : Nat) (d : PyData), pl n d = true → d.canLay0 = true ∧ d.depth ≤ n
  | n, .none, _ => by simp [PyData.canLay0, PyData.depth]
  | n, .bool _, _ => by simp [PyData.canLay0, PyData.depth]
  | n, .int _, _ => by simp [PyData.canLay0, PyData.depth]
  | n, .str x, h => by
    have h : PyData.canLay0 (.str x) = true := by cases n <;> simpa [pl] using h
    exact ⟨h, by simp [PyData.depth]⟩
  | 0, .list _, h => by simp [pl] at h
  | 0, .tuple _, h => by simp [pl] at h
  | n + 1, .list l, h => by
    obtain ⟨h1, h2⟩ := plA_lay n l (by simpa [pl] using h)
    exact ⟨by simpa [PyData.canLay0] using h1, by simp only [PyData.depth]; omega⟩
  | n + 1, .tuple l, h => by
    obtain ⟨h1, h2⟩ := plA_lay n l (by simpa [pl] using h)
    exact ⟨by simpa [PyData.canLay0] using h1, by simp only [PyData.depth]; omega⟩
  | n, .dict _, h => by cases n <;> simp [pl] at h
theorem plA_lay : ∀ (n : Nat) (l : List PyData), plA n l = true → PyData.canLayAll0 l = true ∧ PyData.depthAll l ≤ n
  | n, [], _ => by simp [PyData.canLayAll0, PyData.depthAll]
  | n, d :: r, h => by
    simp only [plA, Bool.and_eq_true] at h
    obtain ⟨h1, h2⟩ := pl_lay n d h.1
    obtain ⟨h3, h4⟩ := plA_lay n r h.2
    exact ⟨by simp [PyData.canLayAll0, h1, h3], by simp only [PyData.depthAll]; omega⟩
end
theorem sh_pl {d : PyData} (h : pl 64 d = true) : SeqAt.shaped d = true := by
  obtain ⟨h1, h2⟩ := pl_lay 64 d h
  unfold SeqAt.shaped
  rw [h1, decide_eq_true h2]
  rfl
theorem plA_map {α : Type} {n : Nat} {f : α → PyData} (h : ∀ x, pl n (f x) = true) : ∀ l : List α, plA n (l.map f) = true
  | [] => by cases n <;> rfl
  | x :: r => by simp [plA, h x, plA_map h r]
theorem plA_mem {n : Nat} : ∀ {l : List PyData}, (∀ d ∈ l, pl n d = true) → plA n l = true
  | [], _ => by cases n <;> rfl
  | x :: r, h => by simp [plA, h x List.mem_cons_self, plA_mem (l := r) fun d m => h d (List.mem_cons_of_mem _ m)]
def inz (l : List Int) : List PyData := l.map .int
@[simp] theorem inz_nil : inz [] = [] := (rfl)
theorem inz_cons {a : Int} {l : List Int} : inz (a :: l) = .int a :: inz l := rfl
@[simp] theorem inz_snoc {a : Int} {l : List Int} : inz l ++ [.int a] = inz (l ++ [a]) := by simp [inz]
@[simp] theorem inz_len {l : List Int} : (inz l).length = l.length := by simp [inz]
@[simp] theorem inz_app {l m : List Int} : inz l ++ inz m = inz (l ++ m) := by simp [inz]
theorem inz_get {l : List Int} {i : Nat} : (inz l)[i]? = (l[i]?).map .int := by simp [inz]
@[simp] theorem inz_flat {l : List Int} : (inz l).all flatD = true := by simp [inz]
def pr (p : Int × Int) : PyData := .tuple [.int p.1, .int p.2]
def prs (l : List (Int × Int)) : List PyData := l.map pr
@[simp] theorem prs_nil : prs [] = [] := (rfl)
theorem prs_cons {a : Int × Int} {l : List (Int × Int)} : prs (a :: l) = pr a :: prs l := rfl
@[simp] theorem prs_snoc {a : Int × Int} {l : List (Int × Int)} : prs l ++ [pr a] = prs (l ++ [a]) := by simp [prs]
@[simp] theorem prs_snoc2 {a b : Int} {l : List (Int × Int)} : prs l ++ [.tuple [.int a, .int b]] = prs (l ++ [(a, b)]) := by simp [prs, pr]
@[simp] theorem prs_len {l : List (Int × Int)} : (prs l).length = l.length := by simp [prs]
@[simp] theorem prs_app {l m : List (Int × Int)} : prs l ++ prs m = prs (l ++ m) := by simp [prs]
theorem prs_get {l : List (Int × Int)} {i : Nat} : (prs l)[i]? = (l[i]?).map pr := by simp [prs]
theorem pl_pr (n : Nat) (p : Int × Int) : pl (n + 1) (pr p) = true := by simp [pr, pl, plA]
@[simp] theorem sh_i {i : Int} : SeqAt.shaped (.int i) = true := sh_pl (by simp [pl])
@[simp] theorem sh_b {i : Bool} : SeqAt.shaped (.bool i) = true := sh_pl (by simp [pl])
@[simp] theorem sh_n : SeqAt.shaped .none = true := sh_pl (by simp [pl])
@[simp] theorem sh_li {l : List Int} : SeqAt.shaped (.list (inz l)) = true := sh_pl (by simp only [pl]; exact plA_map (fun x => by simp [pl]) l)
@[simp] theorem sh_ti {l : List Int} : SeqAt.shaped (.tuple (inz l)) = true := sh_pl (by simp only [pl]; exact plA_map (fun x => by simp [pl]) l)
@[simp] theorem sh_lp {l : List (Int × Int)} : SeqAt.shaped (.list (prs l)) = true := sh_pl (by simp only [pl]; exact plA_map (pl_pr _) l)
@[simp] theorem sh_tp {l : List (Int × Int)} : SeqAt.shaped (.tuple (prs l)) = true := sh_pl (by simp only [pl]; exact plA_map (pl_pr _) l)
@[simp] theorem sh_p {p : Int × Int} : SeqAt.shaped (pr p) = true := sh_pl (pl_pr _ p)
@[simp] theorem eqv_i {a b : Int} : PyData.eqv (.int a) (.int b) = decide (a = b) := by simp [PyData.eqv]; rfl
theorem eqvA_i : ∀ l m : List Int, PyData.eqvAll (l.map .int) (m.map .int) = decide (l = m)
  | [], [] => by simp [PyData.eqvAll]
  | [], _ :: _ => by simp [PyData.eqvAll]
  | _ :: _, [] => by simp [PyData.eqvAll]
  | a :: l, b :: m => by
    simp only [List.map_cons, PyData.eqvAll, eqv_i, eqvA_i l m, List.cons.injEq]
    simp
@[simp] theorem eqv_li {l m : List Int} : PyData.eqv (.list (inz l)) (.list (inz m)) = decide (l = m) := by simp only [PyData.eqv]; exact eqvA_i l m
@[simp] theorem eqv_ti {l m : List Int} : PyData.eqv (.tuple (inz l)) (.tuple (inz m)) = decide (l = m) := by simp only [PyData.eqv]; exact eqvA_i l m
@[simp] theorem eqv_p {p q : Int × Int} : PyData.eqv (pr p) (pr q) = decide (p = q) := by
  obtain ⟨a, b⟩ := p
  obtain ⟨c, d⟩ := q
  show PyData.eqv (.tuple [.int a, .int b]) (.tuple [.int c, .int d]) = _
  simp only [PyData.eqv, PyData.eqvAll]
  by_cases h1 : a = c <;> by_cases h2 : b = d <;> simp [h1, h2, Prod.ext_iff]
theorem eqvA_p : ∀ l m : List (Int × Int), PyData.eqvAll (prs l) (prs m) = decide (l = m)
  | [], [] => by simp [PyData.eqvAll, prs]
  | [], _ :: _ => by simp [PyData.eqvAll, prs]
  | _ :: _, [] => by simp [PyData.eqvAll, prs]
  | a :: l, b :: m => by
    have := eqvA_p l m
    unfold prs at this ⊢
    simp only [List.map_cons, PyData.eqvAll, eqv_p, this, List.cons.injEq]
    simp
@[simp] theorem eqv_lp {l m : List (Int × Int)} : PyData.eqv (.list (prs l)) (.list (prs m)) = decide (l = m) := by simp only [PyData.eqv]; exact eqvA_p l m
@[simp] theorem eqv_tp {l m : List (Int × Int)} : PyData.eqv (.tuple (prs l)) (.tuple (prs m)) = decide (l = m) := by simp only [PyData.eqv]; exact eqvA_p l m
theorem gEq_of {a b : PyData} (h : SeqAt.shaped a = true) (h' : SeqAt.shaped b = true) : gEq a b = some (.dat (.bool (PyData.eqv a b))) := by unfold gEq; rw [h, h']; rfl
theorem gNe_of {a b : PyData} (h : SeqAt.shaped a = true) (h' : SeqAt.shaped b = true) : gNe a b = some (.dat (.bool (!PyData.eqv a b))) := by unfold gNe; rw [h, h']; rfl
section
variable {a b : Int} {l : List PyData} {ns : List Int}
@[simp] theorem gEq_i : gEq (.int a) (.int b) = some (.dat (.bool (decide (a = b)))) := by rw [gEq_of sh_i sh_i, eqv_i]
@[simp] theorem gNe_i : gNe (.int a) (.int b) = some (.dat (.bool (!decide (a = b)))) := by rw [gNe_of sh_i sh_i, eqv_i]
@[simp] theorem gLe_i : gLe (.int a) (.int b) = some (.dat (.bool (decide (a ≤ b)))) := (rfl)
@[simp] theorem gGt_i : gGt (.int a) (.int b) = some (.dat (.bool (decide (b < a)))) := (rfl)
@[simp] theorem gGe_i : gGe (.int a) (.int b) = some (.dat (.bool (decide (b ≤ a)))) := (rfl)
@[simp] theorem gLt_i : gLt (.int a) (.int b) = some (.dat (.bool (decide (a < b)))) := (rfl)
@[simp] theorem gAdd_i : gAdd (.int a) (.int b) = some (.dat (.int (a + b))) := (rfl)
@[simp] theorem gSub_i : gSub (.int a) (.int b) = some (.dat (.int (a - b))) := (rfl)
theorem gMul_i (h : (-(2 ^ 64) < a ∧ a < 2 ^ 64) ∨ (-(2 ^ 64) < b ∧ b < 2 ^ 64)) : gMul (.int a) (.int b) = some (.dat (.int (a * b))) := by show (if _ then _ else _) = _; rw [if_pos h]
theorem gMod_i (h : 0 < b) : gMod (.int a) (.int b) = some (.dat (.int (a % b))) := by show (if _ then _ else _) = _; rw [if_pos (decide_eq_true h)]
theorem gFdiv_i (h : 0 < b) (h2 : b < 2 ^ 64) : gFdiv (.int a) (.int b) = some (.dat (.int (a / b))) := by show (if _ then _ else _) = _; rw [if_pos (decide_eq_true ⟨h, h2⟩)]
theorem gPow_i (h : 0 ≤ b ∧ b ≤ 1000 ∧ -(2 ^ 63) < a ∧ a < 2 ^ 63) : gPow (.int a) (.int b) = some (.dat (.int (a ^ b.toNat))) := by show (if _ then _ else _) = _; rw [if_pos (decide_eq_true h)]
@[simp] theorem gIx_l : gIx (.list l) (.int a) = (atI l a).map .dat := (rfl)
@[simp] theorem gIx_t : gIx (.tuple l) (.int a) = (atI l a).map .dat := (rfl)
@[simp] theorem atI_0 {α : Type} {x : α} {r : List α} : atI (x :: r) 0 = some x := by simp [atI, ixN]
@[simp] theorem atI_1 {α : Type} {x y : α} {r : List α} : atI (x :: y :: r) 1 = some y := by
  unfold atI ixN
  rw [if_pos (by decide), if_pos (by simp only [List.length_cons]; omega)]
  rfl
@[simp] theorem atI_2 {α : Type} {x y z : α} {r : List α} : atI (x :: y :: z :: r) 2 = some z := by
  unfold atI ixN
  rw [if_pos (by decide), if_pos (by simp only [List.length_cons]; omega)]
  rfl
theorem atI_n {α : Type} {l : List α} {i : Nat} : atI l (i : Int) = l[i]? := by
  unfold atI ixN
  rw [if_pos (by omega)]
  by_cases h : (i : Int) < (l.length : Int)
  · rw [if_pos h]; rfl
  · rw [if_neg h]; simp; omega
@[simp] theorem gLen_l : gLen [.list l] = some (.dat (.int (l.length : Int))) := (rfl)
@[simp] theorem gLen_t : gLen [.tuple l] = some (.dat (.int (l.length : Int))) := (rfl)
@[simp] theorem gSum_i : gSum [.list (inz ns)] = some (.dat (.int ns.sum)) := by simp [gSum, inz, intsOf_map]
@[simp] theorem gMin_2 : gMin [.int a, .int b] = some (.dat (.int (min a b))) := (rfl)
@[simp] theorem gMax_2 : gMax [.int a, .int b] = some (.dat (.int (max a b))) := (rfl)
@[simp] theorem gMin_l : gMin [.list (.int a :: inz ns)] = some (.dat (.int (mnL a ns))) := by
  have : intsOf (.int a :: inz ns) = some (a :: ns) := intsOf_map (a :: ns)
  simp [gMin, this]
@[simp] theorem gMax_l : gMax [.list (.int a :: inz ns)] = some (.dat (.int (mxL a ns))) := by
  have : intsOf (.int a :: inz ns) = some (a :: ns) := intsOf_map (a :: ns)
  simp [gMax, this]
@[simp] theorem gAll_b {bs : List Bool} : gAll [.list (bs.map .bool)] = some (.dat (.bool (bs.all id))) := by simp [gAll, blsOf_map]
@[simp] theorem gTuple_l : gTuple [.list l] = some (.dat (.tuple l)) := (rfl)
@[simp] theorem gTuple_t : gTuple [.tuple l] = some (.dat (.tuple l)) := (rfl)
@[simp] theorem gList_l : gList [.list l] = some (.new l) := (rfl)
@[simp] theorem gList_t : gList [.tuple l] = some (.new l) := (rfl)
@[simp] theorem gSortI_l : gSortI [.list (inz ns)] = some (.new (inz (srtI ns))) := by simp [gSortI, inz, intsOf_map]
@[simp] theorem gZip_2 {m : List PyData} {d e : PyData} : gZip [d, e] = match seqD d, seqD e with | some l, some m => some (zipD l m) | _, _ => none := (rfl)
@[simp] theorem gEnum_1 {d : PyData} : gEnum [d] = (seqD d).map (enumD 0) := (rfl)
theorem gRng1_i (h : a ≤ 16777216) (h' : 0 ≤ a) : gRng1 [.int a] = some ((List.range a.toNat).map fun (i : Nat) => .int (i : Int)) := by
  show (if _ then _ else _) = _
  rw [if_pos ⟨h, by omega⟩]
  simp [upTo]
@[simp] theorem gSl_l {lo hi : Option Int} : gSl (.list l) lo hi = some (.new (cut l lo hi)) := (rfl)
@[simp] theorem gSl_t {lo hi : Option Int} : gSl (.tuple l) lo hi = some (.dat (.tuple (cut l lo hi))) := (rfl)
theorem cut_map {α β : Type} {f : α → β} {l : List α} {lo hi : Option Int} : cut (l.map f) lo hi = (cut l lo hi).map f := by simp [cut, List.map_take, List.map_drop]
theorem cut_take {α : Type} {l : List α} {n : Nat} : cut l none (some (n : Int)) = l.take n := by
  unfold cut
  rw [HT.sIx_none, HT.sIx_nat]
  simp
theorem cut_drop {α : Type} {l : List α} {n : Nat} : cut l (some (n : Int)) none = l.drop n := by
  unfold cut
  rw [HT.sIx_none, HT.sIx_nat]
  by_cases h : n ≤ l.length
  · rw [Nat.min_eq_left h, List.take_of_length_le (by simp)]
  · rw [Nat.min_eq_right (by omega), List.drop_of_length_le (Nat.le_refl _), List.drop_of_length_le (by omega)]
    exact List.take_nil
@[simp] theorem gIsi_i {T : String} : gIsi (tbOf T) (.int a) = (tbOf T "int").map fun b => .dat (.bool b) := (rfl)
@[simp] theorem gIsi_l {T : String} : gIsi (tbOf T) (.list l) = (tbOf T "list").map fun b => .dat (.bool b) := (rfl)
@[simp] theorem gIsi_t {T : String} : gIsi (tbOf T) (.tuple l) = (tbOf T "tuple").map fun b => .dat (.bool b) := (rfl)
@[simp] theorem gIsi_b {T : String} {x : Bool} : gIsi (tbOf T) (.bool x) = (tbOf T "bool").map fun b => .dat (.bool b) := (rfl)
@[simp] theorem gIsi_n {T : String} : gIsi (tbOf T) .none = (tbOf T "NoneType").map fun b => .dat (.bool b) := (rfl)
@[simp] theorem gIsi_s {T : String} {x : Str} : gIsi (tbOf T) (.str x) = (tbOf T "str").map fun b => .dat (.bool b) := (rfl)
end
end R
namespace R
open PySem PySem.Spec L2 HotX
open PyProof.Rows hiding St
/-! ### while an exception is handled: a list's iterator at its end -/
section
variable {prog : Program} {w : World} {A : Around} {s : Shared}
theorem liter_end_hot {E : Value → Shared → Prop} {q l x1 : Addr} {i : Nat} {vs : Array Value} {Q : Value → Shared → Prop} (hot : HotAt A x1 s.heap) (hq : s.heap.IsListIter q l i) (hl : s.heap.IsList l vs) (hi : vs[i]? = none)
    (k : ∀ h' e, Heap.ExtBut q s.heap h' → (∃ o, h'.get? e = some o ∧ o.cls = .type "StopIteration") → E (.ref e) { s with heap := h' }) : wpAny (model prog w) A (Builtin.SmallTypes.nextOf (.ref q)) Q E s := by
  obtain ⟨oq, eq1, eq2, eq3⟩ := id hq
  obtain ⟨ol, el, _, nl, edl⟩ := hl
  obtain ⟨hh, o1, vs1, h1, d1, c1⟩ := hot
  have nq : x1 ≠ q ∨ x1 = q := (Decidable.em (x1 = q)).symm
  unfold Builtin.SmallTypes.nextOf
  refine wpAny_bind (wpAny_callSpecial?_slot (name := Str.ofString "__next__") hq.typeIs slot_listiter_next (wpAny_call_entry slot_listiter_next hq.typeIs entry_listiter_next ?_ (args_listiter_next _)))
  refine (show wpAny _ _ (field (.ref q) 0 >>= _) _ _ s from ?_)
  refine wpAny_bind (wpAny_field eq1 eq3 (x := .ref l) rfl ?_)
  refine (show wpAny _ _ (if (Value.ref l == Value.none) = true then _ else _) _ _ s from ?_)
  have lno : ¬ ((Value.ref l == Value.none) = true) := Bool.false_ne_true
  rw [if_neg lno]
  refine (show wpAny _ _ (field (.ref q) 1 >>= _) _ _ s from ?_)
  refine wpAny_bind (wpAny_field eq1 eq3 (x := .int i 0) rfl ?_)
  refine (show wpAny _ _ (seqItems? (.ref l) >>= _) _ _ s from ?_)
  refine wpAny_bind (wpAny_seqItems el edl ?_)
  simp only [Int.toNat_natCast, hi]
  refine wpAny_bind (wpAny_rule (wpAny_bind (wpAny_setField eq1 eq3 (by simp) ?_)))
  refine (show wpAny _ _ (newExc (.type "StopIteration") [] >>= _) _ _ _ from wpAny_bind ?_)
  simp only [newExc, newTuple]
  refine wpAny_bind (wpAny_newObj_type ?_ (by size_fits))
  refine wpAny_bind (m := firstArgMember _ _) (wpAny_of_eq (a := Value.none) (by first | (simp only [firstArgMember]; rfl) | rfl) (wpAny_newObj_type ?_ (by size_fits)))
  have sb : Heap.SameBut q s.heap _ := Heap.SameBut.update s.heap q (Obj.mapFields (·.setIfInBounds 0 Value.none))
  -- the handled one stands there still
  have stands : ∃ o2 vs2, ((s.heap.update q (Obj.mapFields (·.setIfInBounds 0 Value.none))).get? x1 = some o2) ∧ o2.data = .fields vs2 ∧ vs2[2]? = some .none := by
    rcases nq with n | e
    · exact ⟨o1, vs1, (Heap.get?_update_other _ _ (Ne.symm n)).trans h1, d1, c1⟩
    · exfalso
      rw [e, eq1] at h1
      cases h1
      rw [eq3] at d1
      cases d1
      simp at c1
  obtain ⟨o2, vs2, h2, d2, c2⟩ := stands
  refine raiseNew_hot ⟨hh, o2, vs2, Heap.get?_push_of_some _ (Heap.get?_push_of_some _ h2), d2, c2⟩ (Nat.ne_of_lt (Heap.lt_size (Heap.get?_push_of_some _ h2))) (Heap.get?_push_size _ rfl) rfl (by first | (simp; done) | (simp; omega)) ?_
  refine k _ _ (fun b o nb e => ?_) ⟨_, Heap.get?_update_self _ (Heap.get?_push_size _ rfl) rfl, rfl⟩
  have e2 := Heap.get?_push_of_some { cls := .type "tuple", data := .seq #[] } ((Heap.get?_update_other s.heap (Obj.mapFields (·.setIfInBounds 0 Value.none)) (Ne.symm nb)).trans e)
  rw [Heap.get?_update_other _ _ (Nat.ne_of_gt (Heap.lt_size e2))]
  exact Heap.get?_push_of_some _ e2
/-- a tuple's iterator at its end -/
theorem titer_end_hot {E : Value → Shared → Prop} {q l x1 : Addr} {i : Nat} {vs : Array Value} {Q : Option Value → Shared → Prop} (hot : HotAt A x1 s.heap) (hq : s.heap.IsTupleIter q l i) (hl : s.heap.IsTuple l vs) (hi : vs[i]? = none)
    (k : ∀ h', Heap.ExtBut q s.heap h' → Q none { s with heap := h' }) : wpAny (model prog w) A (pyNext (.ref q)) Q E s := by
  obtain ⟨oq, eq1, eq2, eq3⟩ := id hq
  obtain ⟨ol, el, _, nl, edl⟩ := hl
  obtain ⟨hh, o1, vs1, h1, d1, c1⟩ := hot
  unfold pyNext
  refine wpAny_bind (wpAny_attempt (wpAny_callSpecial?_slot (name := Str.ofString "__next__") hq.typeIs F.slot_tuple_iterator_next (wpAny_call_entry F.slot_tuple_iterator_next hq.typeIs F.entry_tuple_iterator_next ?_ (F.args_tuple_iterator_next_1 _))))
  refine (show wpAny _ _ (field (.ref q) 0 >>= _) _ _ s from ?_)
  refine wpAny_bind (wpAny_field eq1 eq3 (x := .ref l) rfl ?_)
  refine (show wpAny _ _ (if (Value.ref l == Value.none) = true then _ else _) _ _ s from ?_)
  have lno : ¬ ((Value.ref l == Value.none) = true) := Bool.false_ne_true
  rw [if_neg lno]
  refine (show wpAny _ _ (field (.ref q) 1 >>= _) _ _ s from ?_)
  refine wpAny_bind (wpAny_field eq1 eq3 (x := .int i 0) rfl ?_)
  refine (show wpAny _ _ (seqItems? (.ref l) >>= _) _ _ s from ?_)
  refine wpAny_bind (wpAny_seqItems el edl ?_)
  simp only [Int.toNat_natCast, hi]
  refine wpAny_bind (wpAny_rule (wpAny_bind (wpAny_setField eq1 eq3 (by simp) ?_)))
  refine (show wpAny _ _ (newExc (.type "StopIteration") [] >>= _) _ _ _ from wpAny_bind ?_)
  simp only [newExc, newTuple]
  refine wpAny_bind (wpAny_newObj_type ?_ (by size_fits))
  refine wpAny_bind (m := firstArgMember _ _) (wpAny_of_eq (a := Value.none) (by first | (simp only [firstArgMember]; rfl) | rfl) (wpAny_newObj_type ?_ (by size_fits)))
  have stands : ∃ o2 vs2, ((s.heap.update q (Obj.mapFields (·.setIfInBounds 0 Value.none))).get? x1 = some o2) ∧ o2.data = .fields vs2 ∧ vs2[2]? = some .none := by
    by_cases e : x1 = q
    · exfalso
      rw [e, eq1] at h1
      cases h1
      rw [eq3] at d1
      cases d1
      simp at c1
    · exact ⟨o1, vs1, (Heap.get?_update_other _ _ (Ne.symm e)).trans h1, d1, c1⟩
  obtain ⟨o2, vs2, h2, d2, c2⟩ := stands
  refine raiseNew_hot ⟨hh, o2, vs2, Heap.get?_push_of_some _ (Heap.get?_push_of_some _ h2), d2, c2⟩ (Nat.ne_of_lt (Heap.lt_size (Heap.get?_push_of_some _ h2))) (Heap.get?_push_size _ rfl) rfl (by first | (simp; done) | (simp; omega)) ?_
  refine wpAny_bind (wpAny_isInstance (T := "StopIteration") (b := true) ⟨_, Heap.get?_update_self _ (Heap.get?_push_size _ rfl) rfl, rfl⟩ isSubtype_stop (wpAny_pure (k _ fun b o nb e => ?_)))
  have e2 := Heap.get?_push_of_some { cls := .type "tuple", data := .seq #[] } ((Heap.get?_update_other s.heap (Obj.mapFields (·.setIfInBounds 0 Value.none)) (Ne.symm nb)).trans e)
  rw [Heap.get?_update_other _ _ (Nat.ne_of_gt (Heap.lt_size e2))]
  exact Heap.get?_push_of_some _ e2
theorem hot_keep {A : Around} {x1 : Addr} {h h' : Heap} (x : HotAt A x1 h) (k : ∀ o, h.get? x1 = some o → h'.get? x1 = some o) : HotAt A x1 h' := by
  obtain ⟨hh, o, vs, e, d⟩ := x
  exact ⟨hh, o, vs, k o e, d⟩
theorem unpack_hot {E : Value → Shared → Prop} {t x1 : Addr} {vs : Array Value} {Q : List Value → Shared → Prop} (hot : HotAt A x1 s.heap) (ht : s.heap.IsTuple t vs) (k : ∀ h', Heap.ExtBut s.heap.objs.size s.heap h' → Q vs.toList { s with heap := h' }) :
    wpAny (model prog w) A (unpackItems (.ref t) vs.size none) Q E s := by
  have lt : t ≠ s.heap.objs.size := by obtain ⟨o, e, _⟩ := ht; exact Nat.ne_of_lt (Heap.lt_size e)
  have ltx : x1 ≠ s.heap.objs.size := by obtain ⟨_, o, _, e, _⟩ := hot; exact Nat.ne_of_lt (Heap.lt_size e)
  unfold unpackItems
  refine wpAny_bind ?_
  unfold notIterableAtAll
  refine wpAny_bind (wpAny_specialOf ht.typeIs F.slot_tuple_iter.lookup (wpAny_pure ?_))
  simp only [Bool.false_eq_true, if_false]
  refine wpAny_bind (wpAny_holding (wpAny_pyIter_tuple ht (wpAny_bind (wpAny_holding ?_))))
  refine wpAny_draw_tuple lt vs.size 0 _ _ ⟨_, Heap.get?_push_size _ rfl, rfl, rfl⟩ (ht.push _) (by omega) fun h1 hit sb => ?_
  have all : List.take vs.size (List.drop 0 vs.toList) = vs.toList := by rw [List.drop_zero]; exact List.take_of_length_le (by simp)
  rw [all, if_neg (by simp)]
  have hot1 : HotAt A x1 h1 := hot_keep hot fun o e => sb.extBut x1 o ltx (Heap.get?_push_of_some _ e)
  refine wpAny_bind (wpAny_holding (titer_end_hot hot1 hit ((ht.push _).extBut sb.extBut lt) (by simp) fun h2 ex => ?_))
  simp only [Option.isSome_none, Bool.false_eq_true, if_false]
  exact wpAny_pure (k h2 fun b o nb e => ex b o nb (sb.extBut b o nb (Heap.get?_push_of_some _ e)))
end
/-- the context bears the handled exception, at x1 -/
def Hx (X : Cx) (x1 : Addr) : Prop := ∀ (pins : List (Addr × Obj)) (σ : L2.St) (H : Hp) (s : Shared), Inv X pins σ H s → HotAt X.A x1 s.heap
section
variable {X : Cx} {x1 : Addr} {pos : Pos}
theorem pg_tupX {es : List Expr} {kk n : Nat} {t : TGs} (hot : Hx X x1) (h : PGs X es t) (hn : (assignEach es X.env).length = n := by rfl) (hst : (assignEach es X.env).findIdx? (·.1) = none := by rfl) : PG X (.Tuple es kk pos) (gTup X.K n t) := by
  refine ⟨fun pins s σ H v u Q I r hw => ?_⟩
  obtain ⟨a, xs, rfl, hq, hl, hw⟩ := hw
  cases r
  obtain ⟨its, rv, ht, hz⟩ := I.tuple hq
  have hlen : (assignEach es X.env).length = its.toArray.size := by rw [hn, ← hl, rv.length]; simp
  rw [arm_assign_Tuple]
  refine wpAny_bind (wpAny_standAt ?_)
  unfold unpack
  rw [hlen, hst]
  refine wpAny_bind (wpAny_holding (unpack_hot (hot pins σ H s I) ht fun h' ex => ?_))
  have I1 : Inv X pins σ H { s with heap := h' } := I.kept (t' := s.toks) fun b o e => ex b o (Nat.ne_of_lt (Heap.lt_size e)) e
  exact h.run pins _ σ H xs _ Q I1 (by simpa using rv) hw
end
end R
namespace R
open PySem PySem.Spec L2 HotX
open PyProof.Rows hiding St
/-! ### zip of two lists, and a comprehension over it, while an exception is handled -/
theorem draws_hot {prog : Program} {w : World} {A : Around} {x1 : Addr} (q l : Addr) (nl : l ≠ q) (nx : x1 ≠ q) (vs : Array Value) :
    Draws prog w A q [q, l, x1] vs.size (fun i v => vs[i]? = some v) (fun i h => h.IsListIter q l i ∧ h.IsList l vs ∧ HotAt A x1 h) where
  live := fun _ _ st => by obtain ⟨⟨o, e, _⟩, _⟩ := st; exact ⟨o, e⟩
  frame := fun _ _ _ st k => ⟨st.1.at fun o e => k q (by simp) o e, st.2.1.at fun o e => k l (by simp) o e, hot_keep st.2.2 fun o e => k x1 (by simp) o e⟩
  item := fun i s Q E hi st k => wpAny_nextOf_list_item st.1 st.2.1 (x := vs[i]) (by simp [hi]) fun h' it' sb =>
    k _ h' s.toks (by simp [hi]) ⟨it', st.2.1.extBut sb.extBut nl, hot_keep st.2.2 fun o e => sb.extBut x1 o nx e⟩ sb
  done := fun s Q E st k => liter_end_hot st.2.2 st.1 st.2.1 (by simp) k
structure TurnX (P : Program) (w : World) (K : PySem.W.Frag) (tg : Expr) (x1 : Addr) (J : It) (fp : List Addr) (it : Addr) (tn : Nat → Heap → Prop) : Prop where
  obj : ∀ i h, tn i h → ∀ b ∈ fp, ∃ o, h.get? b = some o ∧ ∀ v, o.data ≠ .cell v
  keep : ∀ i h h', tn i h → (∀ b ∈ fp, ∀ o, h.get? b = some o → h'.get? b = some o) → tn i h'
  item : ∀ (X : Cx), X.prog = P → X.w = w → X.K = K → ∀ (i : Nat) (pins : List (Addr × Obj)) (s : Shared) (σ : L2.St) (H : Hp) (E : Value → Shared → Prop), HotAt X.A x1 s.heap → Inv X pins σ H s → (∀ b ∈ fp, FpOk X pins H b) → tn i s.heap → J.go i H →
    wpAny (model P w) X.A (pyNext (.ref it)) (fun r s1 => ∃ u, r = some u ∧
      wpAny (model P w) X.A (letOwnedTupleGo tg (.ref it) u) (fun _ s2 => ∃ x H', Inv X pins σ H' s2 ∧ RelV x u ∧ J.yld i H x H' ∧ tn (i + 1) s2.heap ∧ ∀ b ∈ fp, H' b = none) E s1) E s
  done : ∀ (X : Cx), X.prog = P → X.w = w → X.K = K → ∀ (i : Nat) (pins : List (Addr × Obj)) (s : Shared) (σ : L2.St) (H : Hp) (E : Value → Shared → Prop), HotAt X.A x1 s.heap → Inv X pins σ H s → (∀ b ∈ fp, FpOk X pins H b) → tn i s.heap → J.stop i H →
    wpAny (model P w) X.A (pyNext (.ref it)) (fun r s1 => r = none ∧ Inv X pins σ H s1) E s
  self : ∀ (A : Around) (i : Nat) (s : Shared) (Q : Value → Shared → Prop) (E : Value → Shared → Prop), tn i s.heap → Q (.ref it) s → wpAny (model P w) A (pyIter (.ref it)) Q E s
theorem turn_zipX {P : Program} {w : World} {K : PySem.W.Frag} {elts : List Expr} {kk : Nat} {tpos : Pos} {x1 a b z TI TO i1 i2 : Addr} (D : ZipSep2 z TI TO i1 i2 [i1, a, x1] [i2, b, x1]) :
    TurnX P w K (.Tuple elts kk tpos) x1 (ItzG K true true a b) [z, TI, TO, i1, i2] z (fun i h => IsZip h z TI TO .none ∧ IsTupOf2 h TI (.ref i1) (.ref i2) ∧ (∃ x y, IsTupOf2 h TO x y) ∧ h.IsListIter i1 a i ∧ h.IsListIter i2 b i) where
  obj := fun i h st c hc => by
    obtain ⟨hz, hTI, ⟨x, y, hTO⟩, h1, h2⟩ := st
    have cs : c = z ∨ c = TI ∨ c = TO ∨ c = i1 ∨ c = i2 := by simpa using hc
    rcases cs with q | q | q | q | q
    · rw [q]; exact ⟨_, hz, fun v q => nomatch q⟩
    · rw [q]; exact ⟨_, hTI, fun v q => nomatch q⟩
    · rw [q]; exact ⟨_, hTO, fun v q => nomatch q⟩
    · rw [q]; exact IsIt.obj (b := true) h1
    · rw [q]; exact IsIt.obj (b := true) h2
  keep := fun i h h' st k => by
    obtain ⟨hz, hTI, ⟨x, y, hTO⟩, h1, h2⟩ := st
    exact ⟨k z (by simp) _ hz, k TI (by simp) _ hTI, ⟨x, y, k TO (by simp) _ hTO⟩, h1.at fun o q => k i1 (by simp) o q, h2.at fun o q => k i2 (by simp) o q⟩
  item := by
    intro X hP hw hK i pins s σ H E hot I hf st hg
    subst hP hw hK
    obtain ⟨hz, hTI, ⟨x0, y0, hTO⟩, h1, h2⟩ := st
    obtain ⟨xs, ys, x, y, hqx, hqy, hx, hy⟩ := hg
    obtain ⟨its, rv, p⟩ := hqx.get I
    obtain ⟨its2, rv2, p2⟩ := hqy.get I
    obtain ⟨u, hu, ru⟩ := rv.get hx
    obtain ⟨u2, hu2, ru2⟩ := rv2.get hy
    have hzl : z < s.heap.objs.size := Heap.lt_size hz
    have n1 : a ≠ i1 := fun e => by
      obtain ⟨o, e1, e2, _⟩ := h1; obtain ⟨o2, e3, e4, _⟩ := (show s.heap.IsList a its.toArray from p)
      rw [e, e1] at e3; cases e3; rw [e2] at e4; exact absurd e4 (by decide)
    have n2 : b ≠ i2 := fun e => by
      obtain ⟨o, e1, e2, _⟩ := h2; obtain ⟨o2, e3, e4, _⟩ := (show s.heap.IsList b its2.toArray from p2)
      rw [e, e1] at e3; cases e3; rw [e2] at e4; exact absurd e4 (by decide)
    have nx : ∀ {q l : Addr}, s.heap.IsListIter q l i → x1 ≠ q := fun {q l} hq e => by
      obtain ⟨o, e1, _, e2⟩ := hq
      obtain ⟨_, o1, vs1, e3, e4, e5⟩ := hot
      rw [e, e1] at e3; cases e3; rw [e2] at e4; cases e4; simp at e5
    have hil : i < its.toArray.size := by have := (List.getElem?_eq_some_iff.mp hu).1; simpa using this
    have hil2 : i < its2.toArray.size := by have := (List.getElem?_eq_some_iff.mp hu2).1; simpa using this
    refine wpAny_pyNext_zipD2_item D (draws_hot (A := X.A.in1) i1 a n1 (nx h1) its.toArray) (draws_hot (A := X.A.in1) i2 b n2 (nx h2) its2.toArray) hz hTI hTO ⟨h1, p, hot⟩ ⟨h2, p2, hot⟩ hil hil2 fun v1 v2 h' tk y1 y2 z' TO' s1 s2 hT hsz hk => ?_
    have e1 : v1 = u := by
      have : its.toArray[i]? = some u := by simpa using hu
      rw [this] at y1; exact (Option.some.inj y1).symm
    have e2 : v2 = u2 := by
      have : its2.toArray[i]? = some u2 := by simpa using hu2
      rw [this] at y2; exact (Option.some.inj y2).symm
    subst e1 e2
    refine ⟨_, rfl, wpAny_letOwnedTupleGo_zip (s := { s with heap := h', toks := tk }) z' fun h'' z'' sb => ?_⟩
    have hT2 : h''.get? s.heap.objs.size = some { cls := .type "tuple", data := .seq #[v1, v2] } := (sb.2 _ (Nat.ne_of_gt hzl)).trans hT
    have new : ObjOk X.prog X.w (upd H s.heap.objs.size (.tup [x, y])) h'' s.heap.objs.size (.tup [x, y]) :=
      ⟨by show 2 ≤ sizeLine; decide, [v1, v2], .cons ru (.cons ru2 .nil), ⟨_, hT2, rfl, _, rfl⟩⟩
    have I1 : Inv X pins σ (upd H s.heap.objs.size (.tup [x, y])) { s with heap := h'', toks := tk } :=
      I.turnedNew (t' := tk) (ch := [z, TI, TO, i1, i2]) (fun c o hb q => (sb.2 c (fun q' => hb (by simp [q']))).trans (hk c o (fun q' => hb (by simp [q'])) (fun q' => hb (by simp [q'])) (fun q' => hb (by simp [q'])) (fun q' => hb (by simp [q'])) q)) hf (Nat.le_refl _) new
    refine ⟨.ref s.heap.objs.size, _, I1, rfl, ⟨_, x, y, rfl, I.hok.fresh (Nat.le_refl _), rfl, fun l hl => by rw [hl.inj I hqx]; exact hx, fun l hl => by rw [hl.inj I hqy]; exact hy⟩, ⟨z'', ?_, ⟨v1, v2, ?_⟩, ?_, ?_⟩, fun c hcm => ?_⟩
    · exact (sb.2 _ D.TIz).trans (hk _ _ D.TIz D.TITO D.TIi1 D.TIi2 hTI)
    · exact (sb.2 _ D.TOz).trans TO'
    · exact s1.1.at fun o q => (sb.2 i1 (fun e => D.zf1 (by simp [e]))).trans q
    · exact s2.1.at fun o q => (sb.2 i2 (fun e => D.zf2 (by simp [e]))).trans q
    · have hlt : c < s.heap.objs.size := by
        have cs : c = z ∨ c = TI ∨ c = TO ∨ c = i1 ∨ c = i2 := by simpa using hcm
        rcases cs with q | q | q | q | q
        · rw [q]; exact hzl
        · rw [q]; exact Heap.lt_size hTI
        · rw [q]; exact Heap.lt_size hTO
        · rw [q]; obtain ⟨_, e1, _⟩ := IsIt.obj (b := true) h1; exact Heap.lt_size e1
        · rw [q]; obtain ⟨_, e2, _⟩ := IsIt.obj (b := true) h2; exact Heap.lt_size e2
      rw [upd_ne (Nat.ne_of_lt hlt)]
      exact (hf c hcm).1
  done := by
    intro X hP hw hK i pins s σ H E hot I hf st hg
    subst hP hw hK
    obtain ⟨hz, hTI, ⟨x0, y0, hTO⟩, h1, h2⟩ := st
    obtain ⟨xs, ys, hqx, hqy, g1, g2, hend⟩ := hg
    obtain ⟨its, rv, p⟩ := hqx.get I
    obtain ⟨its2, rv2, p2⟩ := hqy.get I
    have l1 := rv.length
    have l2 := rv2.length
    have n1 : a ≠ i1 := fun e => by
      obtain ⟨o, e1, e2, _⟩ := h1; obtain ⟨o2, e3, e4, _⟩ := (show s.heap.IsList a its.toArray from p)
      rw [e, e1] at e3; cases e3; rw [e2] at e4; exact absurd e4 (by decide)
    have n2 : b ≠ i2 := fun e => by
      obtain ⟨o, e1, e2, _⟩ := h2; obtain ⟨o2, e3, e4, _⟩ := (show s.heap.IsList b its2.toArray from p2)
      rw [e, e1] at e3; cases e3; rw [e2] at e4; exact absurd e4 (by decide)
    have nx : ∀ {q l : Addr}, s.heap.IsListIter q l i → x1 ≠ q := fun {q l} hq e => by
      obtain ⟨o, e1, _, e2⟩ := hq
      obtain ⟨_, o1, vs1, e3, e4, e5⟩ := hot
      rw [e, e1] at e3; cases e3; rw [e2] at e4; cases e4; simp at e5
    exact wpAny_pyNext_zipD2_end D (draws_hot (A := X.A.in1) i1 a n1 (nx h1) its.toArray) (draws_hot (A := X.A.in1) i2 b n2 (nx h2) its2.toArray) hz hTI hTO ⟨h1, p, hot⟩ ⟨h2, p2, hot⟩ (by simp; omega) (by simp; omega) (by simp; omega) fun h' tk hk => ⟨rfl, I.turnedL (t' := tk) (ch := [z, TI, TO, i1, i2]) (fun c o hb q =>
      hk c o (fun q' => hb (by simp [q'])) (fun q' => hb (by simp [q'])) (fun q' => hb (by simp [q'])) (fun q' => hb (by simp [q'])) q) hf⟩
  self := fun A i s Q E st h => wpAny_pyIter_zip st.1 h
def PIEX (X : Cx) (x1 : Addr) (pins : List (Addr × Obj)) (σ : L2.St) (tg : Expr) (R : It → Hp → Prop) (itv : Value) (s2 : Shared) : Prop :=
  ∃ (it : Addr) (fp : List Addr) (tn : Nat → Heap → Prop) (J : It) (H' : Hp), itv = .ref it ∧ Inv X pins σ H' s2 ∧ TurnX X.prog X.w X.K tg x1 J fp it tn ∧ tn 0 s2.heap ∧ (∀ b ∈ fp, FpOk X pins H' b) ∧ x1 ∉ fp ∧ R J H'
structure PIX (X : Cx) (x1 : Addr) (tg iter : Expr) (wi : TI) : Prop where
  run : ∀ (pins : List (Addr × Obj)) (s : Shared) (σ : L2.St) (H : Hp) (R : It → Hp → Prop), Inv X pins σ H s → wi σ H R →
    wpAny (model X.prog X.w) X.A (eval iter X.env) (fun v s1 => wpAny (model X.prog X.w) X.A (pyIter v) (PIEX X x1 pins σ tg R) X.xe s1) X.xe s
/-- zip(e, e2) of two lists -/
def iZipL (K : PySem.W.Frag) (ta : TA) : TI := fun σ H R => ta σ H fun vs H1 => ∃ (a b : Addr) (xs ys : List V), vs = [.ref a, .ref b] ∧ SqL K H1 a xs ∧ SqL K H1 b ys ∧ R (ItzG K true true a b) H1
theorem pi_zipX {X : Cx} {x1 : Addr} {e e2 : Expr} {ta : TA} {p pos tpos : Pos} {elts : List Expr} {kk : Nat} (hot : Hx X x1) (hg : Gl X "zip") (hm : X.mg "zip" = none) (ha : PA X [e, e2] ta)
    (hs : starEach [e, e2] X.env = (false, eval e X.env) :: starEach [e2] X.env := by exact ste rfl) (hpl : (backTo pos (starEach [e2] X.env)).any (·.1) = false := by rfl) :
    PIX X x1 (.Tuple elts kk tpos) (.Call (.Name "zip" p) [e, e2] [] pos) (iZipL X.K ta) := by
  refine ⟨fun pins s σ H R I h => ?_⟩
  refine Call_ (ld_blt I hg hm PyProof.Rows.boot_zip (PyProof.Rows.callWith_type1 (thn (ha.run pos pins s σ H _ I h) fun us s1 ⟨vs, H1, I1, r1, q1⟩ => ?_) hs hpl))
  obtain ⟨a, b, xs, ys, ex, hqx, hqy, q⟩ := q1
  subst ex
  have hot1 := hot pins σ H1 s1 I1
  cases r1 with
  | cons r rr =>
    cases rr with
    | cons r' rr =>
      cases rr
      cases r
      cases r'
      obtain ⟨its, rv, p1⟩ := (show Sq true X.K H1 a xs from hqx).get I1
      obtain ⟨its2, rv2, p2⟩ := (show Sq true X.K H1 b ys from hqy).get I1
      have ha := p1.there
      have hb := p2.there
      have hx : x1 < s1.heap.objs.size := by obtain ⟨_, o, _, e, _⟩ := hot1; exact Heap.lt_size e
      refine zip_begins2 (begins true a its.toArray) (begins true b its2.toArray) p1 p2 fun h' hz hTI hTO h1 h2 hsz hk => wpAny_pyIter_zip hz ?_
      have I2 : Inv X pins σ H1 { s1 with heap := h' } := I1.kept (t' := s1.toks) hk
      have big : ∀ c, c ∈ [s1.heap.objs.size + 4, s1.heap.objs.size + 2, s1.heap.objs.size + 3, s1.heap.objs.size, s1.heap.objs.size + 1] → s1.heap.objs.size ≤ c := fun c hcm => by
        have cs : c = s1.heap.objs.size + 4 ∨ c = s1.heap.objs.size + 2 ∨ c = s1.heap.objs.size + 3 ∨ c = s1.heap.objs.size ∨ c = s1.heap.objs.size + 1 := by simpa using hcm
        have z1 : ∀ k : Nat, s1.heap.objs.size ≤ s1.heap.objs.size + k := fun k => Nat.le_add_right _ _
        rcases cs with z | z | z | z | z
        · rw [z]; exact z1 4
        · rw [z]; exact z1 2
        · rw [z]; exact z1 3
        · rw [z]; exact Nat.le_refl _
        · rw [z]; exact z1 1
      exact ⟨s1.heap.objs.size + 4, [s1.heap.objs.size + 4, s1.heap.objs.size + 2, s1.heap.objs.size + 3, s1.heap.objs.size, s1.heap.objs.size + 1], _, _, H1, rfl, I2,
        turn_zipX (zip_sep2 (N := s1.heap.objs.size) (fp1 := [a, x1]) (fp2 := [b, x1]) (by simpa using ⟨ha, hx⟩) (by simpa using ⟨hb, hx⟩)), ⟨hz, hTI, ⟨_, _, hTO⟩, isIt_new (b := true) h1, isIt_new (b := true) h2⟩, fun c hcm => I1.fpOk (big c hcm) (I1.hok.fresh (big c hcm)), fun m => absurd (big x1 m) (Nat.not_le.mpr hx), q⟩
end R
namespace R
open PySem PySem.Spec L2 HotX
open PyProof.Rows hiding St
section
variable {X : Cx} {x1 : Addr}
/-- the block of a comprehension bears the handled exception too -/
theorem hx_blk {H : Hp} {s : Shared} {scope : Scope} {ce : Env} {fp : List Addr} (h : HotAt X.A x1 s.heap) (n : H x1 = none) (nf : x1 ∉ (X.blk s H scope ce fp).fs) (np : x1 ∉ fp) : Hx (X.blk s H scope ce fp) x1 := fun pins' σ' H' s' I => by
  obtain ⟨hh, o1, vs1, e1, e2, e3⟩ := h
  exact ⟨hh, o1, vs1, I.base.keep x1 o1 e1 n nf np, e2, e3⟩
theorem lc_hot {elt tg iter : Expr} {ifs : List Expr} {scope : Scope} {own : List (Str × Nat)} {pos : Pos} {wi : TI} {g : TG} {tt : TT} {te : TE} (hot : ∀ (pins : List (Addr × Obj)) (σ : L2.St) (H : Hp) (s : Shared), Inv X pins σ H s → HotAt X.A x1 s.heap ∧ H x1 = none ∧ x1 ∉ frs X.stack)
    (hN : X.N.Nodup) (hi : PIX X x1 tg iter wi) (ok : BlkOk X.N X.env.scope scope own)
    (hg : ∀ (s : Shared) (H : Hp) (C : Addr) (cl : List (Str × Addr)) (fp : List Addr), Hx (X.blk s H scope (compEnvC scope cl C X.env) fp) x1 → PG (X.blk s H scope (compEnvC scope cl C X.env) fp) tg g)
    (ht : ∀ (s : Shared) (H : Hp) (C : Addr) (cl : List (Str × Addr)) (fp : List Addr), PTs (X.blk s H scope (compEnvC scope cl C X.env) fp) ifs tt)
    (he : ∀ (s : Shared) (H : Hp) (C : Addr) (cl : List (Str × Addr)) (fp : List Addr), PE (X.blk s H scope (compEnvC scope cl C X.env) fp) elt te) (hs : ∀ x, foldedSetIterable iter X.env x = pure x := by intro _; rfl) :
    PE X (.ListComp elt [⟨tg, iter, ifs, 0⟩] scope pos) (tLc wi g tt te (own.map (·.2))) := by
  refine ⟨fun pins s σ H Q I h => ?_⟩
  rw [eval_ListComp]
  have clo : ∀ y ∈ scope.names, y.2 = .free → ∃ c, X.env.cells.lookup y.1 = some c := fun y hy e => (ok.free y hy e).elim (fun k => I.ok.has _ (.inl k)) fun k => I.ok.has _ (.inr k)
  refine wpAny_comprehension_free rfl hs (closure_ok clo) ok.kind (fun y hy e => by rw [ok.uniq y hy, e]) (thn (hi.run pins s σ H _ I h) fun xv s1 hx => thn hx fun itv s2 h2 => ?_)
  obtain ⟨it, fp, tn, J, H2, rfl, I2, T, st2, f2, nfp1, q⟩ := h2
  refine wpAny_newObj_type (newEnv_comp ?_) (show 0 ≤ sizeLine by decide)
  obtain ⟨D, hD⟩ : ∃ D, s2.heap.objs.size = D := ⟨_, rfl⟩
  rw [hD]
  obtain ⟨W, ⟨m0, w0⟩, turn⟩ := q D (I2.hok.fresh (Nat.le_of_eq hD))
  obtain ⟨hot2, hotN, hotF⟩ := hot pins σ H2 s2 I2
  have xlt : x1 < s2.heap.objs.size := by obtain ⟨_, o, _, e, _⟩ := hot2; exact Heap.lt_size e
  have fpl : ∀ b ∈ fp, b < s2.heap.objs.size := fun b hb => by obtain ⟨o, e, _⟩ := T.obj _ _ st2 b hb; exact Heap.lt_size e
  -- with the new list
  obtain ⟨s3, hs3⟩ : ∃ s3 : Shared, s3 = { s2 with heap := s2.heap.push { cls := .type "list", data := .seq ([] : List Value).toArray } } := ⟨_, rfl⟩
  obtain ⟨H3, hH3⟩ : ∃ H3, H3 = upd H2 D (.lst []) := ⟨_, rfl⟩
  have k3 : ∀ b o, s2.heap.get? b = some o → s3.heap.get? b = some o := fun b o e => by rw [hs3]; exact Heap.get?_push_of_some _ e
  have I3 : Inv X pins σ H3 s3 := by
    rw [hs3, hH3]
    exact I2.laid (t' := s2.toks) (fun b o e => Heap.get?_push_of_some _ e) (Nat.le_of_eq hD) ⟨Nat.zero_le _, [], 0, .nil, by rw [← hD]; exact Heap.get?_push_size _ rfl⟩
  have neD : ∀ {b : Addr}, b < s2.heap.objs.size → b ≠ D := fun l => by rw [← hD]; exact Nat.ne_of_lt l
  have f3 : ∀ b ∈ fp, FpOk X pins H3 b ∧ b < s3.heap.objs.size := fun b hb => by
    refine ⟨⟨?_, (f2 b hb).2⟩, ?_⟩
    · rw [hH3, upd_ne (neD (fpl b hb))]; exact (f2 b hb).1
    · rw [hs3]
      show b < (s2.heap.push _).objs.size
      rw [Heap.size_push]; exact Nat.lt_succ_of_lt (fpl b hb)
  have st3 : tn 0 s3.heap := T.keep _ _ _ st2 fun b _ o e => k3 b o e
  have h3x : HotAt X.A x1 s3.heap := hot_keep hot2 fun o e => k3 x1 o e
  have n3x : H3 x1 = none := by rw [hH3, upd_ne (neD xlt)]; exact hotN
  rw [← hs3]
  obtain ⟨ce, hce⟩ : ∃ ce, ce = compEnvC scope (cellsFrom (s3.heap.objs.size + 1) scope.names (cloFrom X.env.cells scope.names [])) s3.heap.objs.size X.env := ⟨_, rfl⟩
  obtain ⟨Z, hZ⟩ : ∃ Z, Z = X.blk s3 H3 scope ce fp := ⟨_, rfl⟩
  have I4 := block_start I3 ok hN f3
  have hotZ : Hx (X.blk s3 H3 scope ce fp) x1 := hx_blk h3x n3x hotF nfp1
  have pg : PG (X.blk s3 H3 scope ce fp) tg g := by rw [hce] at hotZ ⊢; exact hg s3 H3 _ _ fp hotZ
  have pt : PTs (X.blk s3 H3 scope ce fp) ifs tt := by rw [hce]; exact ht s3 H3 _ _ fp
  have pe : PE (X.blk s3 H3 scope ce fp) elt te := by rw [hce]; exact he s3 H3 _ _ fp
  rw [← hce] at I4
  have cL : ce.locals = s3.heap.objs.size := by rw [hce]; rfl
  obtain ⟨s4, hs4⟩ : ∃ s4 : Shared, s4 = { s3 with heap := pushCells (s3.heap.push { cls := .type "dict", data := .dict #[] }) scope.names } := ⟨_, rfl⟩
  rw [← hs4] at I4
  have st4 : tn 0 s4.heap := T.keep _ _ _ st3 fun b _ o e => by rw [hs4]; exact pushCells_keeps _ _ _ _ (Heap.get?_push_of_some _ e)
  have hst : ∀ {σ' : L2.St} {H' : Hp} {s' : Shared}, Inv (X.blk s3 H3 scope ce fp) [] σ' H' s' → (∀ b ∈ fp, H' b = none) → ∀ b ∈ fp, FpOk (X.blk s3 H3 scope ce fp) [] H' b := fun {σ' H' s'} I' n b hb =>
    ⟨n b hb, (I'.ok.exf b hb).1, I'.ok.exfs b hb, .inl hb, fun x c e => (I'.ok.exf b hb).2 x c e, fun p hp => by cases (List.mem_append.mp hp).elim id id⟩
  have nfp3 : ∀ b ∈ fp, H3 b = none := fun b hb => (f3 b hb).1.1
  have loop : codeAny (model X.prog X.w) X.A (.compLoop (.ListComp elt [⟨tg, iter, ifs, 0⟩] scope pos) 0 (.ref it) (.ref D) ce) (compPost (model X.prog X.w) X.A X.xe Option.none (EP X pins σ Q) (.ref D) s3.heap.objs.size) s4 := by
    refine compLoop_any (fun m t => ∃ j G, Inv (X.blk s3 H3 scope ce fp) [] (wipe σ (own.map (·.2))) G t ∧ tn j t.heap ∧ (∀ b ∈ fp, G b = none) ∧ W j m G) ?_ m0 ⟨0, H3, I4, st4, nfp3, by rw [hH3]; exact w0⟩
    rintro m t5 ⟨j, G5, I5, st5, n5, w5⟩
    have hot5 : HotAt X.A x1 t5.heap := hotZ _ _ _ _ I5
    rcases turn j m G5 w5 with ⟨stop, fin⟩ | ⟨go, Nx, less, step⟩
    · refine thnF (T.done (X.blk s3 H3 scope ce fp) rfl rfl rfl j [] t5 _ G5 (fun _ _ => False) hot5 I5 (hst I5 n5) st5 stop) fun r t6 hr6 => ?_
      obtain ⟨rfl, I6⟩ := hr6
      -- back where it stood
      have I7 : Inv X pins σ G5 t6 := I3.call' (ch := fp) I6.os I6.base I6.hok I6.bare fun b hb => ⟨(f3 b hb).1.2.2.2.1, (f3 b hb).1.2.1, (f3 b hb).1.2.2.2.2.1, (f3 b hb).1.2.2.2.2.2⟩
      have nC : G5 s3.heap.objs.size = none := by have z : G5 ce.locals = none := I6.free; rw [cL] at z; exact z
      obtain ⟨mm, hn, _⟩ := I6.loc
      have hn : t6.heap.Ns ce.locals mm := hn
      rw [cL] at hn
      obtain ⟨a0, a1, a2, a3, a4, a5⟩ := I3.fpOk (Nat.le_refl _) nC
      exact ⟨mm, hn, fun h'' sb => ⟨.ref D, G5, I7.turned (t' := t6.toks) (fun b o hb e => (sb.2 b hb).trans e) a0 a1 a3 a4 a5, rfl, fin⟩⟩
    · refine thnF (T.item (X.blk s3 H3 scope ce fp) rfl rfl rfl j [] t5 _ G5 (fun _ _ => False) hot5 I5 (hst I5 n5) st5 go) fun r t6 hr6 => ?_
      obtain ⟨u, rfl, h6⟩ := hr6
      refine thnF h6 fun _ t7 ⟨x, G7, I7, r7, y7, st7, n7⟩ => ?_
      have I7p := I7.pinned (hst I7 n7) (T.obj _ _ st7)
      refine thnF (pg.run _ t7 _ G7 x u _ I7p r7 (step x G7 y7)) fun _ t8 ⟨σ8, G8, I8, w8, q8⟩ => ?_
      refine thnF (pt.run _ t8 σ8 G8 _ I8 q8) fun b t9 ⟨G9, I9, q9⟩ => ?_
      have back : ∀ {t' : Shared} {G' : Hp}, Inv (X.blk s3 H3 scope ce fp) ([] ++ pinsAt fp t7.heap) σ8 G' t' → Nx G' → ∃ m', m' < m ∧ ∃ j' G, Inv (X.blk s3 H3 scope ce fp) [] (wipe σ (own.map (·.2))) G t' ∧ tn j' t'.heap ∧ (∀ b ∈ fp, G b = none) ∧ W j' m' G := fun {t' G'} J' nx => by
        obtain ⟨m', hm, w'⟩ := less G' nx
        have pinned : ∀ c ∈ fp, ∀ o, t7.heap.get? c = some o → t'.heap.get? c = some o ∧ G' c = none := fun c hc o e => by
          have z := J'.pin (c, o) (List.mem_append_right _ (List.mem_append_right _ (mem_pinsAt hc e)))
          exact ⟨z.1, z.2.1⟩
        refine ⟨m', hm, j + 1, G', (J'.unpinned (pins := [])).weak (by rw [← w8, wipe_length]) (fun i v e => ?_), T.keep _ _ _ st7 fun c hc o e => (pinned c hc o e).1, fun c hc => ?_, w'⟩
        · rw [← w8] at e
          exact (wipe_some e).1
        · obtain ⟨o, e, _⟩ := T.obj _ _ st7 c hc
          exact (pinned c hc o e).2
      cases b with
      | false => exact back I9 (by simpa using q9)
      | true =>
        have q9 : te σ8 G9 fun y H4 => ∃ acc, H4 D = some (.lst acc) ∧ acc.length < sizeLine ∧ Nx (upd H4 D (.lst (acc ++ [y]))) := by simpa using q9
        exact thnF (pe.run _ t9 σ8 G9 _ I9 q9) fun z t10 ⟨yv, G10, I10, r10, acc, e10, z10, nx⟩ => app_ok (X := X.blk s3 H3 scope ce fp) I10 e10 z10 r10 fun t11 I11 => back I11 nx
  have fin := codeAny_compStart_list loop (T.self X.A 0 _ _ _ st4 loop)
  rw [hs4, hce] at fin
  exact fin
end
end R
namespace R
open PySem PySem.Spec L2
open PyProof.Rows hiding St
/-! ### xs += e, a list of one's own and a new list -/
def dExtL (i : Nat) (f : Rho → Res Rv) (ρ : Rho) : Ou := match lstAt ρ i with
  | none => .stuck
  | some _ => (f ρ).ou fun r ρ1 => match r with
    | .new l2 => match lstAt ρ1 i with
      | some l => if l.length + l2.length ≤ 16777216 then .next (putAt ρ1 i (l ++ l2)) else .stuck
      | none => .stuck
    | _ => .stuck
section
variable [Tb] {X : Cx} {W : WX} {pos : Pos}
omit [Tb] in
theorem dpa_cat {H : Hp} : ∀ {vs ws : List V} {l m : List D}, DqA H vs l → DqA H ws m → DqA H (vs ++ ws) (l ++ m)
  | [], _, [], _, _, h => h
  | _ :: _, _, _ :: _, _, .cons a b, h => .cons a (dpa_cat b h)
omit [Tb] in
theorem set_same {α : Type} : ∀ {l : List α} {i : Nat} {x : α}, l[i]? = some x → l.set i x = l
  | [], _, _, h => by cases h
  | a :: l, 0, x, h => by cases h; rfl
  | a :: l, i + 1, x, h => by
    rw [List.set_cons_succ, set_same (l := l) (by simpa using h)]
theorem ss_extL {i : Nat} {x : Str} {e : Expr} {f : Rho → Res Rv} {pos' : Pos} (hN : X.N.Nodup) (hi : X.N[i]? = some x) (hx : Loc X.env.scope x) (h : SE X W e f)
    (hf : X.fn x = true ∨ X.env.scope.names.lookup x = some .local := by first | exact .inl rfl | exact .inr rfl | assumption) :
    SS X W (.AugAssign (.Name x pos') .Add e pos) (dExtL i f) := .mk fun Hb fx B ρ σ H D A q => by
  unfold dExtL at q
  cases e1 : lstAt ρ i with
  | none => rw [e1] at q; exact q.elim
  | some l0 =>
    rw [e1] at q
    dsimp only at q
    obtain ⟨p, hv⟩ := A.at_some e1
    refine wpS_len (wp_ps (ps_aug hN hi hx pe_wp iop_ext hf) ⟨.ref p, hv, ?_⟩)
    refine h Hb fx B ρ σ H _ A (q.of_ou.mono (fun r ρ1 z v H1 l1 A1 q1 => ?_) fun _ _ z => z)
    cases r with
    | dat d => exact z.elim
    | bor d => exact z.elim
    | newk d => exact z.elim
    | new l2 =>
      dsimp only at z
      cases e4 : lstAt ρ1 i with
      | none => simp only [e4] at z; exact z.elim
      | some l =>
        simp only [e4] at z
        split at z
        · rename_i hl
          obtain ⟨p', ws, e5, hp2, a2⟩ := A1.lstAt e4 hv
          cases e5
          obtain ⟨p2, zs, rfl, hz, _, a3, _, _⟩ := q1
          refine ⟨p, p2, ws, zs, rfl, rfl, hp2, hz, by rw [dpa_len a2, dpa_len a3, sizeLine_eq]; exact hl, fun l2 => ?_⟩
          rw [set_same hv]
          exact z σ _ l2 (A1.putAt e4 hv (dpa_cat a2 (dpa_mono (hide_mono fun a o n e => ⟨fun w => n (.inl w), e⟩) a3)))
        · exact z.elim
end
section
variable [Tb] {K : PySem.W.Frag} {Hb Hb' H H' : Hp} {fx : List Addr} {B B' : Addr → Prop} {ρ ρ' : Rho} {σ σ' : L2.St} {X : Cx} {W : WX} {pos : Pos} {D : Ends}
theorem par_sndG {m2 : Bool} {i j : Nat} {b : Expr} {fb : Rho → Res Rv} {P : Addr → Prop} {v : V} {s1 : Sl} {H1 : Hp} {ρ1 : Rho} (hb : SE X W b fb) (A1 : Abs X.K Hb fx B ρ1 σ H1) (AP : Abs X.K Hb fx (fun a => B a ∨ P a) ρ1 σ H1) (h : PcOk X.K Hb fx B P ρ1 σ H1 v s1)
    (q : PostS X W Hb fx B D ((fb ρ1).ou fun r2 ρ2 => match m2, r2 with
      | true, .new l2 => .next ((ρ2.set i s1).set j (.ls l2))
      | true, _ => .stuck
      | false, r2 => match frz r2 ρ2 with
        | some (d2, ρ3) => .next ((ρ3.set i s1).set j (.dat d2))
        | none => .stuck)) : wpE X b σ H1 fun w H2 => ∀ H3, (∀ a o, H2 a = some o → H3 a = some o) → LenOk X.K H3 → D.nx ((σ.set i (some v)).set j (some w)) H3 := by
  refine hb (hide H1 (Hid fx ρ1 σ)) fx (fun a => B a ∨ P a) ρ1 σ H1 _ AP.here (q.of_ou (σ := σ).mono (fun r2 ρ2 z w H2 l2 A2 q2 H3 hx lq => ?_) fun x ρ2 z H' C dd l' A' e => z H' C dd l' ((A'.rebase A1.same).lessB fun a y => .inl y) e)
  cases m2 with
  | true =>
    cases r2 with
    | new l2 =>
      dsimp only at z
      obtain ⟨p, vs, rfl, h1, h2, h3, h4, h5⟩ := q2
      exact z _ H3 lq ((pc_both A1 h A2 h5 (s2 := .ls l2) ⟨p, vs, rfl, fun _ => Iff.rfl, h1, h2, h3, h4⟩ fun a e => by rw [e]; exact h4).grow hx)
    | dat d => exact z.elim
    | bor i => exact z.elim
    | newk k => exact z.elim
  | false =>
    dsimp only at z
    cases e : frz r2 ρ2 with
    | none => simp only [e] at z; exact z.elim
    | some x =>
      obtain ⟨d2, ρ3⟩ := x
      simp only [e] at z
      obtain ⟨A3, q3, _⟩ := frz_ok A2 q2 e
      exact z _ H3 lq ((pc_both (C := fun _ => False) A1 h A3 (A3.lessB fun a y => y.resolve_right id) (s2 := .dat d2) q3 fun a e => e.elim).grow hx)
/-- where the stores are not swapped (a name that a block of its own reads) -/
theorem ss_par0 {m1 m2 : Bool} {i j : Nat} {x y : Str} {a b : Expr} {fa fb : Rho → Res Rv} {px py pt : Pos} {kt k2 pt2} (hc : X.calm = true) (hN : X.N.Nodup) (hi : X.N[i]? = some x) (hj : X.N[j]? = some y)
    (hx : Loc X.env.scope x) (hy : Loc X.env.scope y) (ha : SE X W a fa) (hb : SE X W b fb)
    (hw : swappedStores [.Tuple [.Name x px, .Name y py] kt pt] (.Tuple [a, b] k2 pt2) X.env = pure none := by rfl)
    (hfx : X.fn x = true ∨ X.env.scope.names.lookup x = some .local := by first | exact .inl rfl | exact .inr rfl | assumption) (hfy : X.fn y = true ∨ X.env.scope.names.lookup y = some .local := by first | exact .inl rfl | exact .inr rfl | assumption)
    (hst : starEach [a, b] X.env = (false, eval a X.env) :: starEach [b] X.env := by exact ste rfl) (hst2 : starEach [b] X.env = (false, eval b X.env) :: starEach [] X.env := by exact ste rfl)
    (hs : swapsWithSole [.Tuple [.Name x px, .Name y py] kt pt] (.Tuple [a, b] k2 pt2) pos.line X.env = pure false := by rfl) :
    SS X W (.Assign [.Tuple [.Name x px, .Name y py] kt pt] (.Tuple [a, b] k2 pt2) pos) (dPar m1 m2 i j fa fb) := .mk fun Hb fx B ρ σ H D A q => by
  refine wpS_len (wp_ps (ps_asg (pe_tup (pa_cons pe_wp (pa_cons pe_wp pa_nil hst2) hst)) (pg_tup hc (pgs_cons (pg_name hN hi hx hfx) (pgs_cons (pg_name hN hj hy hfy) pgs_nil))) hs hw) ?_)
  show wpE X a σ H fun v H1 => wpE X b σ H1 fun w H2 => [v, w].length ≤ sizeLine ∧ ∀ p, H2 p = none → ∃ (a : Addr) (xs : List V), V.ref p = .ref a ∧ SqT X.K (upd H2 p (.tup [v, w])) a xs ∧ xs.length = 2 ∧ gCons (gName i) (gCons (gName j) gNil) xs σ (upd H2 p (.tup [v, w])) (lenD X.K D).nx
  have hsz : ([] : List V).length + 2 ≤ sizeLine := by rw [sizeLine_eq]; decide
  refine ha Hb fx B ρ σ H _ A (q.of_ou.mono (fun r1 ρ1 z v H1 l1 A1 q1 => ?_) fun _ _ z => z)
  have fin : wpE X b σ H1 (fun w H2 => ∀ H3, (∀ a o, H2 a = some o → H3 a = some o) → LenOk X.K H3 → D.nx ((σ.set i (some v)).set j (some w)) H3) → wpE X b σ H1 fun w H2 => [v, w].length ≤ sizeLine ∧ ∀ p, H2 p = none → ∃ (a : Addr) (xs : List V), V.ref p = .ref a ∧ SqT X.K (upd H2 p (.tup [v, w])) a xs ∧ xs.length = 2 ∧ gCons (gName i) (gCons (gName j) gNil) xs σ (upd H2 p (.tup [v, w])) (lenD X.K D).nx :=
    fun h => wpE_mono h fun w H2 z => ⟨hsz, fun p hp => ⟨p, [v, w], rfl, .inl (Rd.of upd_same), rfl, v, [w], rfl, w, [], rfl, rfl, fun l => z _ (grow_upd hp) l⟩⟩
  refine fin ?_
  cases m1 with
  | true =>
    cases r1 with
    | new l1 =>
      dsimp only at z
      obtain ⟨p, vs, rfl, h1, h2, h3, h4, h5⟩ := q1
      exact par_sndG hb A1 h5 (s1 := .ls l1) ⟨p, vs, rfl, fun _ => Iff.rfl, h1, h2, h3, h4⟩ z
    | dat d => exact z.elim
    | bor i => exact z.elim
    | newk k => exact z.elim
  | false =>
    dsimp only at z
    cases e : frz r1 ρ1 with
    | none => simp only [e] at z; exact z.elim
    | some x =>
      obtain ⟨d1, ρ1'⟩ := x
      simp only [e] at z
      obtain ⟨A1', q1', _⟩ := frz_ok A1 q1 e
      exact par_sndG (P := fun _ => False) hb A1' (A1'.lessB fun a y => y.resolve_right id) (s1 := .dat d1) q1' z
end
section
variable {w : Wn} {ρ : Rho}
def newL : Rv → Option (List PyData)
  | .new l => some l
  | _ => none
@[simp] theorem newL_n {l : List PyData} : newL (.new l) = some l := (rfl)
@[simp ↓] theorem w_extL {i : Nat} {f : Rho → Res Rv} : WO w (dExtL i f ρ) = onS (lstAt ρ i) fun _ => Pst (fun r ρ1 => onS (newL r) fun l2 => onS (lstAt ρ1 i) fun l => if l.length + l2.length ≤ 16777216 then w.nx (putAt ρ1 i (l ++ l2)) else False) w.ex (f ρ) := by
  unfold dExtL
  cases lstAt ρ i with
  | none => rfl
  | some l0 =>
    simp only [w_ou, onS_some]
    refine pst_ext fun r ρ1 => ?_
    cases r with
    | new l2 =>
      simp only [newL_n, onS_some]
      cases lstAt ρ1 i with
      | none => rfl
      | some l => simp only [onS_some]; by_cases h : l.length + l2.length ≤ 16777216 <;> simp [h]
    | dat _ => rfl
    | bor _ => rfl
    | newk _ => rfl
end
end R
/-! isinstance of an exception with or without a dict -/
namespace R
open PySem PySem.Spec L2 PySem.W PySem.Calls
open PyProof.Rows hiding St
section
variable {prog : Program} {w : World} {A : Around} {E : Value → Shared → Prop} {s : Shared} {K : Frag} {x D : Addr} {ox : Obj} {od : Option Obj}
theorem class_found (T : ExcC K D) : findObj K D od "__class__" = some (.bind (.builtin "getset_descriptor.__get__") (.builtin "object.__class__")) := by
  obtain ⟨cd, hc, _⟩ := any_some T.hd
  unfold findObj
  rw [hc, Option.bind_some, T.ha, Option.bind_some]
  simp [T.hn, T.ht]
theorem class_of_exc {Q : Option Value → Shared → Prop} (T : ExcC K D) (X : K.In s.heap) (J : InstAt s.heap x ox D od) (q : Q (some (.ref D)) { s with toks := s.toks + 1 }) : wpAny (model prog w) A (getAttr? (.ref x) "__class__") Q E s := by
  have look := class_found (od := od) T
  obtain ⟨hp, g, d, t, os⟩ := s
  have l0 : Looks (model prog w) hp (typeOf (.ref x)) (.ref D) := J.type
  have l1 := looks_findIn (M := model prog w) X T.hg
  have l2 := looks_findIn (M := model prog w) X T.hk
  have l3 := looks_find (M := model prog w) X J look
  have under : Looks (model prog w) hp (isInstance (.ref x) (.type "BaseException")) true := l0.andThen (looks_subIn X T.hs)
  have n0 : (false && onTheHeap (Value.builtin "BaseException.__getattribute__")) = false := rfl
  have n1 : (onTheHeap (Value.ref D) && Value.builtin "BaseException.__getattribute__" == Value.builtin "object.__getattribute__") = false := by
    rw [show (Value.builtin "BaseException.__getattribute__" == Value.builtin "object.__getattribute__") = false by decide +kernel]; rfl
  unfold getAttr? getAttrBy?
  unfold getAttrBy
  refine wpAny_bind (wpAny_mkText (wpAny_bind (wpAny_attempt (wpAny_holding (wpAny_bind (l0.at (wpAny_bind (l1.at ?_))))))))
  show wpAny (model prog w) _ (if (onTheHeap (Value.ref D) && Value.builtin "BaseException.__getattribute__" == Value.builtin "object.__getattribute__") = true then _ else _) _ _ _
  rw [n1, if_neg Bool.false_ne_true]
  unfold getAttrByItsOwn
  unfold hookBefore
  refine wpAny_bind ?_
  rw [if_pos (show onTheHeap (Value.ref D) = true by rfl)]
  refine l2.at (wpAny_bind (wpAny_attempt (wpAny_holding ?_)))
  unfold callGetattribute
  rw [n0, if_neg Bool.false_ne_true]
  unfold boundAndCalled
  rw [PySem.F.excAttr_ValueError.ga.bind (Value.ref x)]
  refine wpAny_bind (wpAny_pure ?_)
  show wpAny (model prog w) _ (call (.builtin "BaseException.__getattribute__") [.ref x, .str "__class__" t]) _ _ _
  refine wpAny_call (codeAny_call_builtin (PySem.F.excAttr_ValueError).ga.plain PySem.F.entry_bexc_ga ?_)
  refine @check_slot (model prog w) _ _ ⟨hp, g, d, t + 1, os⟩ "BaseException.__getattribute__" "BaseException" "__getattribute__" (.ref x) [.str "__class__" t] [] _ (by decide +kernel) (by decide +kernel) under (PySem.F.args_bexc_ga (.ref x) (.str "__class__" t)) ?_
  unfold Builtin.«object.__getattribute__»
  refine wpAny_bind (wpAny_of_eq (a := ((.ref x : Value), [Value.str "__class__" t])) (by first | rfl | (simp only [slotArgs]; rfl)) ?_)
  refine wpAny_bind (wpAny_pure (wpAny_bind (l0.at (wpAny_bind (l3.at ?_)))))
  show wpAny (model prog w) _ (holding [Value.builtin "object.__class__"] (call (.builtin "getset_descriptor.__get__") [.builtin "object.__class__", .ref x, .ref D]) >>= ret) _ _ _
  refine wpAny_bind (wpAny_holding (wpAny_call (class_get (s := ⟨hp, g, d, t + 1, os⟩) (ox := ox) (od := od) X J T.hm (wpAny_pure ?_))))
  show wpAny (model prog w) _ (handedOut (.ref D)) _ _ _
  rw [handedOut_of (show handedIn (.ref D) = true by rfl)]
  first
    | exact wpAny_pure (wpAny_pure q)
    | exact wpAny_pure q
    | exact wpAny_pure (wpAny_bind (wpAny_pure (wpAny_pure q)))
theorem kitX_exc (T : ExcC K D) : KitX K (.ref x) (.ref D) (fun h => InstAt h x ox D od) := by
  obtain ⟨cd, hc, _⟩ := any_some T.hd
  unfold clsIn at hc
  refine ⟨fun _ _ _ J => J.type, fun _ _ X _ => ?_, fun h tp dd its n sl X htp => ?_, fun X J q => class_of_exc T X J q⟩
  · split at hc
    · rename_i ho
      intro A' Q' E' s' k q
      unfold isType
      unfold loadHead
      exact wpAny_bind (wpAny_loadPart (k _ _ (X _ _ ho)) (wpAny_pure q))
    · cases hc
  · refine Bool.eq_false_iff.mpr fun q => ?_
    obtain rfl : D = tp := Value.ref.inj (beq_iff_eq.mp q)
    split at hc
    · rename_i ho
      cases (X _ _ ho).symm.trans htp
    · cases hc
end
end R
namespace R
open PySem PySem.Spec L2 HotX
open PyProof.Rows hiding St
/-! ### the words of the Core layer while an exception is handled -/
section
variable [Tb] {K : PySem.W.Frag} {Hb Hb' H H' : Hp} {fx : List Addr} {B B' : Addr → Prop} {ρ ρ' : Rho} {σ σ' : L2.St} {X : Cx} {W : WX} {pos : Pos} {D : Ends}
omit [Tb] in
theorem call_isP {a C : Addr} {oe : Obj} {dd : Option Addr} (T : ExcC X.K C) (hm : (a, oe) ∈ X.pn) (hz : Zc (.ref C) dd oe) (hf : ∃ vs, oe.data = .fields vs) : CallR X (.builtin "isinstance") (fun xs H Q => (∀ d, dd = some d → ∃ fs, H d = some (.xd fs)) ∧ rIsE X.K C a xs H Q) := by
  intro pins s σ H xs us Q I rv ⟨hx, h⟩
  obtain ⟨c, cv, b, rfl, hcv, e, q⟩ := h
  obtain ⟨u1, u2, rfl, r1, r2⟩ := vals2 rv
  obtain rfl : u1 = Value.ref a := r1
  obtain rfl := hcv _ r2
  have hp := I.pin (a, oe) (List.mem_append_left _ hm)
  obtain ⟨od, J⟩ : ∃ od, PySem.W.InstAt s.heap a oe C od := by
    obtain ⟨vs, hv⟩ := hf
    have nc : PySem.W.notCls oe := by unfold PySem.W.notCls; rw [hv] <;> rfl
    cases dd with
    | none => exact ⟨none, hp.1, hz.1, nc, by rw [hz.2]; trivial⟩
    | some d =>
      obtain ⟨fs, ed⟩ := hx d rfl
      have ob : ObjOk X.prog X.w H s.heap d (.xd fs) := I.hok d _ ed
      obtain ⟨mA, hns, _⟩ := ob
      obtain ⟨od, ho, _⟩ := lookIn_ns hns
      exact ⟨some od, hp.1, hz.1, nc, by rw [hz.2]; exact ho⟩
  exact PySem.W.kia_one (kitX_exc T) I.kIn J e (fun z => nomatch z) fun tk => ⟨.bl b, H, I.kept (t' := tk) fun _ _ z => z, rfl, q⟩
open Classical in
noncomputable def dIsE (i : Nat) (a : Addr) (b : Bool) (ρ : Rho) : Res Rv := match ρ[i]? with
  | some (.pv P) => if (∀ v, P v → v = .ref a) then .ok (.dat (.bool b)) ρ else .stuck
  | _ => .stuck
theorem se_isE {a C : Addr} {oe : Obj} {i : Nat} {x c : Str} {cV : V} {cv : Value} {b : Bool} {p p1 p2 : Pos} {dd : Option Addr} (T : ExcC X.K C) (hm : (a, oe) ∈ X.pn) (hz : Zc (.ref C) dd oe) (hd : ∀ d, dd = some d → ∃ fs, (d, fs) ∈ Tb.xds) (hf : ∃ vs, oe.data = .fields vs) (hx : PE X (.Name x p1) (tVar i)) (hcv : ∀ u, RelV cV u → u = cv) (hc : PE X (.Name c p2) (tC cV)) (hk : PySem.W.kitOne X.K (.ref C) cv = some b)
    (hg : Gl X "isinstance") (hmi : X.mg "isinstance" = none) (hs1 : starEach [.Name x p1, .Name c p2] X.env = (false, eval (.Name x p1) X.env) :: starEach [.Name c p2] X.env := by exact ste rfl) (hs2 : starEach [.Name c p2] X.env = (false, eval (.Name c p2) X.env) :: starEach [] X.env := by exact ste rfl)
    (hpl : (backTo pos (starEach [.Name c p2] X.env)).any (·.1) = false := by rfl) : SE X W (.Call (.Name "isinstance" p) [.Name x p1, .Name c p2] [] pos) (dIsE i a b) := .mk fun Hb fx B ρ σ H Q A q => by
  unfold dIsE at q
  refine wpE_len (wp_pe (pe_callB (call_isP T hm hz hf) hg hmi bt_isinstance (pa_cons hx (pa_cons hc pa_nil hs2) hs1) (by decide) (by decide) hs1 hpl) ?_)
  split at q
  · rename_i P e
    split at q
    · rename_i hP
      obtain ⟨v, e1, e2⟩ := A.slot i _ e
      obtain rfl := hP v e2
      exact ⟨.ref a, of_getD e1, fun d z => (hd d z).imp fun fs m => A.tab.2 _ m, cV, cv, b, rfl, hcv, hk, fun l => q _ _ l A (.bl b)⟩
    · exact q.elim
  · exact q.elim
/-! a tuple as target -/
theorem sg_tupX {x1 : Addr} {es : List Expr} {k n : Nat} {g : List PyData → Rho → Option Rho} {ix : List Nat} (hot : Hx X x1) (h : SGs X W es g ix) (hn : (assignEach es X.env).length = n := by rfl) (hst : (assignEach es X.env).findIdx? (·.1) = none := by rfl) : SG X W (.Tuple es k pos) (tgTup n g) ix := .mk fun Hb fx B ρ ρ' σ H v d Q A a e q => by
  cases a with
  | @tup p vs ds a1 a2 =>
    have e : (if ds.length = n then g ds ρ else none) = some ρ' := e
    by_cases z : ds.length = n
    · rw [if_pos z] at e
      exact wp_pg (pg_tupX hot pgs_wp hn hst) ⟨p, vs, rfl, SqT.of (hide_sub _ _ a1), by rw [dpa_len a2]; exact z, h Hb fx B ρ ρ' σ H vs _ Q A a2 e q⟩
    · rw [if_neg z] at e; cases e
  | non => cases e
  | bl b => cases e
  | int i => cases e
  | str x => cases e
  | lst _ _ => cases e
/-! zip of two lists -/
def gZipL : List PyData → Option (List PyData)
  | [.list l, .list m] => some (zipD l m)
  | _ => none
omit [Tb] in
theorem lst_walk {v : V} {l : List PyData} {S : Addr → Prop} (h : Dq (hide H S) v (.list l)) : ∃ a xs, v = .ref a ∧ DqA (hide H S) xs l ∧ ∀ H2, Same (hide H S) H2 → SqL K H2 a xs := by
  cases h with
  | lst r a => exact ⟨_, _, rfl, a, fun H2 s => .inl (rd_mono s r)⟩
theorem siw_zipL {a b : Expr} {fs : Rho → Res (List Rv)} (h : SA X W [a, b] fs) : SIw X W (iZipL X.K (wpA X [a, b])) (dItr gZipL fs) := fun Hb fx B ρ σ H R A q =>
  itr_seq h A q fun vs ds l H' S ll lo e z => by
    unfold gZipL at e
    split at e
    · rename_i l1 l2
      cases e
      cases lo with
      | cons q1 lo =>
        cases lo with
        | cons q2 lo =>
          cases lo
          obtain ⟨a1, xs, rfl, d1, k1⟩ := lst_walk (K := X.K) q1
          obtain ⟨a2, ys, rfl, d2, k2⟩ := lst_walk (K := X.K) q2
          have n1 := dpa_len d1
          have n2 := dpa_len d2
          have hz : (zipD l1 l2).length = min xs.length ys.length := by unfold zipD; rw [List.length_zipWith, n1, n2]
          refine ⟨a1, a2, xs, ys, rfl, k1 _ hide_sub, k2 _ hide_sub, z _ ?_ ?_⟩
          · unfold Yields
            refine (walk_zipG (K := X.K) (b1 := true) (b2 := true) (a := a1) (b := a2) hz).mono (fun H2 s => ⟨k1 _ s, k2 _ s⟩) fun i H2 x H3 hi s ⟨T, x1, x2, h1, h2, h3, h4, h5⟩ => ?_
            obtain ⟨y1, w1, w2⟩ := dpa_get' d1 h4
            obtain ⟨y2, w3, w4⟩ := dpa_get' d2 h5
            refine ⟨.tuple [y1, y2], ?_, .inr ⟨T, [x1, x2], [y1, y2], h1, rfl, h2, h3, .cons w2 (.cons w4 .nil)⟩⟩
            unfold zipD
            rw [List.getElem?_zipWith, w1, w3]
          · have := sq_len ll (show Sq true X.K H' a1 xs from k1 _ hide_sub)
            rw [hz]; omega
    · cases e
/-! the comprehension over it -/
theorem se_lcX {x1 : Addr} {elt e1 e2 : Expr} {ifs : List Expr} {scope : Scope} {own : List (Str × Nat)} {ix : List Nat} {fs : Rho → Res (List Rv)} {g : PyData → Rho → Option Rho} {ft : Rho → Res Bool} {fe : Rho → Res Rv} {elts : List Expr} {kk : Nat} {tpos p zpos : Pos}
    (hot : ∀ (pins : List (Addr × Obj)) (σ : L2.St) (H : Hp) (s : Shared), Inv X pins σ H s → HotAt X.A x1 s.heap ∧ H x1 = none ∧ x1 ∉ frs X.stack) (hN : X.N.Nodup) (hgz : Gl X "zip") (hmz : X.mg "zip" = none) (hi : SA X W [e1, e2] fs) (ok : BlkOk X.N X.env.scope scope own) (hix : ∀ i ∈ ix, i ∈ own.map (·.2))
    (hg : ∀ (s : Shared) (H : Hp) (C : Addr) (cl : List (Str × Addr)) (fp : List Addr), Hx (X.blk s H scope (compEnvC scope cl C X.env) fp) x1 → SG (X.blk s H scope (compEnvC scope cl C X.env) fp) W0 (.Tuple elts kk tpos) g ix)
    (ht : ∀ (s : Shared) (H : Hp) (C : Addr) (cl : List (Str × Addr)) (fp : List Addr), STs (X.blk s H scope (compEnvC scope cl C X.env) fp) W0 ifs ft)
    (he : ∀ (s : Shared) (H : Hp) (C : Addr) (cl : List (Str × Addr)) (fp : List Addr), SE (X.blk s H scope (compEnvC scope cl C X.env) fp) W0 elt fe)
    (hs1 : starEach [e1, e2] X.env = (false, eval e1 X.env) :: starEach [e2] X.env := by exact ste rfl) (hpl : (backTo zpos (starEach [e2] X.env)).any (·.1) = false := by rfl)
    (hs : ∀ x, foldedSetIterable (.Call (.Name "zip" p) [e1, e2] [] zpos) X.env x = pure x := by intro _; rfl) :
    SE X W (.ListComp elt [⟨.Tuple elts kk tpos, .Call (.Name "zip" p) [e1, e2] [] zpos, ifs, 0⟩] scope pos) (dLc (own.map (·.2)) (dItr gZipL fs) g ft fe) := .mk fun Hb fx B ρ σ H Q A q => by
  refine wpE_len (wp_pe (lc_hot (wi := iZipL X.K (wpA X [e1, e2])) (g := gBc (fun Z => Hx Z x1) X scope (.Tuple elts kk tpos)) (tt := tB1 X scope ifs) (te := eB X scope elt) hot hN (pi_zipX (fun pins σ H s I => (hot pins σ H s I).1) hgz hmz pa_wp hs1 hpl) ok
    (fun s H C cl fp hx => ⟨fun pins s' σ H' v u Q I r h => h s H C cl fp hx pins s' u I r⟩) (fun s H C cl fp => ⟨fun pins s' σ H' Q I h => h s H C cl fp pins s' I⟩) (fun s H C cl fp => ⟨fun pins s' σ H' Q I h => h s H C cl fp pins s' I⟩) hs) ?_)
  exact lc_seqC (siw_zipL hi) hix hg ht he A q.len
/-! ''.join of a list of texts -/
def strsOf : List PyData → Option (List Str)
  | [] => some []
  | .str x :: r => (strsOf r).map (x :: ·)
  | _ => none
def dJoin (a : Str) (f : Rho → Res Rv) (ρ : Rho) : Res Rv := (f ρ).bind fun r ρ1 => match rd ρ1 r with
  | some (.list l) => match strsOf l with
    | some ys => if (ys.map (·.length)).sum + ys.length * a.length ≤ 16777216 then .ok (.dat (.str (Txt.join a ys))) ρ1 else .stuck
    | none => .stuck
  | _ => .stuck
omit [Tb] in
theorem dpa_strs : ∀ {vs : List V} {l : List PyData} {ys : List Str}, DqA H vs l → strsOf l = some ys → vs = ys.map V.str
  | [], _, ys, .nil, e => by cases e; rfl
  | v :: vs, d :: l, ys, .cons q qs, e => by
    cases d with
    | str x =>
      cases z : strsOf l with
      | none => simp [strsOf, z] at e
      | some zs =>
        simp [strsOf, z] at e
        subst e
        have := dpa_strs qs z
        cases q
        rw [this]; rfl
    | _ => cases e
theorem se_join {a : Str} {j : Nat} {p1 apos : Pos} {e : Expr} {f : Rho → Res Rv} (h : SE X W e f) (hs : starEach [e] X.env = [(false, eval e X.env)] := by exact ste rfl) (hbase : attributeBase (.Constant (.str a) j p1) "join" X.env (eval (.Constant (.str a) j p1) X.env) = eval (.Constant (.str a) j p1) X.env := by rfl) (hline : (apos.endLine == pos.line) = true := by rfl) :
    SE X W (.Call (.Attribute (.Constant (.str a) j p1) "join" apos) [e] [] pos) (dJoin a f) := .mk fun Hb fx B ρ σ H Q A q => by
  refine wpE_len (wp_pe (pe_join pe_str pe_wp hs hbase hline) ?_)
  refine ⟨⟨a, rfl⟩, ?_⟩
  refine h Hb fx B ρ σ H _ A (q.of_bind.mono (fun r ρ1 z v H1 l1 A1 q1 => ?_) fun _ _ z => z)
  cases e1 : rd ρ1 r with
  | none => simp only [e1] at z; exact z.elim
  | some d =>
    cases d with
    | list l =>
      simp only [e1] at z
      cases e2 : strsOf l with
      | none => simp only [e2] at z; exact z.elim
      | some ys =>
        simp only [e2] at z
        split at z
        · rename_i hz
          obtain ⟨p, vs, rfl, r1, r2⟩ := (q1.lo A1 e1).list
          have := dpa_strs r2 e2
          subst this
          exact ⟨a, p, ys, rfl, rfl, .inl (.inl r1), hz, fun l2 => z _ _ l2 A1 (.str _)⟩
        · exact z.elim
    | none => simp only [e1] at z; exact z.elim
    | bool _ => simp only [e1] at z; exact z.elim
    | int _ => simp only [e1] at z; exact z.elim
    | str _ => simp only [e1] at z; exact z.elim
    | tuple _ => simp only [e1] at z; exact z.elim
    | dict _ => simp only [e1] at z; exact z.elim
end
end R
namespace R
open PySem PySem.Spec L2
open PyProof.Rows hiding St
/-! ### raise X('..') -/
/-- what the frame tells of an own exception class without an __init__ of its own -/
structure RCls (K : PySem.W.Frag) (mg : Str → Option Value) (x : Str) : Prop where
  ex : ∃ C : Addr, mg x = some (.ref C) ∧ PySem.W.excIn K C [.type "ValueError", .type "Exception", .type "BaseException", .type "object"] "ValueError.__new__" = true ∧ PySem.W.keepIn K (.ref C) = true ∧
    PySem.W.subIn K (.ref C) (.type "BaseException") = some true ∧ PySem.W.typeIn K (.ref C) = some (.type "type")
def dRaise (x : Str) (ρ : Rho) : Ou := .err ⟨x, none⟩ ρ
section
variable [Tb] {K : PySem.W.Frag} {Hb Hb' H H' : Hp} {fx : List Addr} {B B' : Addr → Prop} {ρ ρ' : Rho} {σ σ' : L2.St} {X : Cx} {W : WX} {pos : Pos} {D : Ends}
theorem ss_raise {x m : Str} {j : Nat} {p p2 p3 : Pos} (hc : X.calm = true) (tk : L2N.Takes X W) (T : RCls X.K X.mg x) (hg : Gl X x) (hdb : (x == ("__debug__" : Str)) = false := by decide) : SS X W (.Raise (some (.Call (.Name x p) [.Constant (.str m) j p2] [] p3)) none pos) (dRaise x) := .mk fun Hb fx B ρ σ H D A q => by
  obtain ⟨C, h1, h2, h3, h4, h5⟩ := T.ex
  refine wpS_at fun l => wp_ps (L2N.ps_raise hc tk (L2N.pmk_own PySem.F.excBase_ValueError h2 h1 h3 (raises_own h4 h5) hg hdb)) ?_
  exact q σ H C none l A ⟨h1, trivial⟩
end
section
variable {w : Wn} {ρ : Rho}
@[simp ↓] theorem w_raise {x : Str} : WO w (dRaise x ρ) = w.ex ⟨x, none⟩ ρ := (rfl)
end
/-! ### a lambda is made -/
section
variable [T : Tb] {X : Cx} {pins : List (Addr × Obj)} {σ : L2.St} {H : Hp} {s : Shared}
theorem tab_one {P : Addr} {q q' : Str} (h : (P, q) ∈ T.tabs) (h' : (P, q') ∈ T.tabs) : q' = q := by
  have nd := T.nd
  revert h h'
  generalize T.tabs = l at nd
  induction l with
  | nil => intro h; cases h
  | cons x l ih =>
    intro h h'
    rw [List.map_cons, List.nodup_cons] at nd
    rcases List.mem_cons.mp h with h | h
    · rcases List.mem_cons.mp h' with h' | h'
      · rw [← h] at h'; cases h'; rfl
      · exact absurd (List.mem_map.mpr ⟨_, h', by rw [← h]⟩) nd.1
    · rcases List.mem_cons.mp h' with h' | h'
      · exact absurd (List.mem_map.mpr ⟨_, h, by rw [← h']⟩) nd.1
      · exact ih nd.2 h h'
theorem lam_new {c P : Addr} {params : Arguments} {body : Expr} {scope : Scope} {pos : Pos} {E Q : Value → Shared → Prop} (I : Inv X pins σ H s) (TB : LamX.TabB X.base X.mg c P) (hcode : X.env.code = .ref c)
    (hm : (P, X.env.qual ++ "<lambda>") ∈ T.tabs) (hT : Tabl H) (hdef : defaultsOf params X.env = ([], [])) (hfree : ∀ y ∈ scope.names, y.2 = .free → ∃ c, X.env.cells.lookup y.1 = some c)
    (h : ∀ (f c' : Addr) (pm ctv : Value) (H1 : Hp) (s' : Shared), Inv X pins σ H1 s' → (∀ a o, a ∉ tA → H a = some o → H1 a = some o) → Tabl H1 →
      s'.heap.get? f = some (PySem.W.kla_obj "<lambda>" (X.env.qual ++ "<lambda>") params body scope (cloFrom X.env.cells scope.names []) pm c' ctv) → H1 f = none → f ∉ frs X.stack → H1 c' = some (LamX.CodeO c' (X.env.qual ++ "<lambda>")) → Q (.ref f) s') :
    wpAny (model X.prog X.w) X.A (eval (.Lambda params body scope pos) X.env) Q E s := by
  have mA : P ∈ (tA : List Addr) := List.mem_map.mpr ⟨_, hm, rfl⟩
  obtain ⟨ps, tP, t3, tall⟩ := hT.1 _ hm
  have tP : H P = some (.tbl ps) := tP
  have hP0 : s.heap.get? P = some { cls := .none, data := .fields ps } := I.hok P _ tP
  have bP : s.heap.BuiltinsAt X.mg P := TB.bm.keeps I.bk
  have gl := I.mod.glob.keeps I.bk
  have off : ∀ f, s.heap.objs.size ≤ f → f ∉ frs X.stack := fun f hf z => by
    rcases List.mem_cons.mp (I.stkSub _ z) with e | e
    · have := I.lt
      rw [← e] at this
      exact absurd (Nat.lt_of_lt_of_le this hf) (Nat.lt_irrefl _)
    · exact I.nofs hf e
  refine PySem.W.kla_eval hdef ?_
  cases hc : codeAmong pos ps.toList with
  | some cv =>
    obtain ⟨c', rfl, hco⟩ := tall pos cv hc
    refine PySem.W.kla_makeFunctionHit (mg := X.mg) (c := c) (P := P) (ps := ps) (closure_ok hfree) I.ok.glob gl hcode (TB.code.keeps I.bk) hP0 t3 hc bP fun ctv h1 tk k1 z1 => ?_
    exact h h1.objs.size c' _ ctv H _ (I.kept (t' := tk) fun b o e => Heap.get?_push_of_some _ (k1 b o e)) (fun _ _ _ e => e) hT (Heap.get?_push_size _ rfl) (I.hok.fresh z1) (off _ z1) hco
  | none =>
    refine PySem.W.kla_makeFunction (mg := X.mg) (c := c) (P := P) (ps := ps) (closure_ok hfree) I.ok.glob gl hcode (TB.code.keeps I.bk) hP0 t3 hc TB.gP bP fun c' ctv h1 tk k1 g1 l1 rec1 tb1 => ?_
    obtain ⟨c2, oc, vs, t, e2, hoc, hd, hv⟩ := rec1
    cases e2
    have z1 : s.heap.objs.size ≤ h1.objs.size := Nat.le_trans g1 (Nat.le_of_lt l1)
    have nC : H c' = none := I.hok.fresh g1
    have nPc : P ≠ c' := ne_of_none tP nC
    have J := LamX.inv_table (t' := tk) (more := #[rawInt pos.line, rawInt pos.col, .ref c']) (q := X.env.qual ++ "<lambda>") (h' := h1.push (PySem.W.kla_obj "<lambda>" (X.env.qual ++ "<lambda>") params body scope (cloFrom X.env.cells scope.names []) ((X.mg "__name__").getD .none) c' ctv)) I tP
      (fun b o hb e => Heap.get?_push_of_some _ (k1 b o hb e)) (Heap.get?_push_of_some _ tb1) g1 ⟨oc, vs, t, Heap.get?_push_of_some _ hoc, hd, hv⟩
    have other : ∀ a o, a ≠ P → H a = some o → upd (upd H P (.tbl (ps ++ #[rawInt pos.line, rawInt pos.col, .ref c']))) c' (LamX.CodeO c' (X.env.qual ++ "<lambda>")) a = some o := fun a o n e => by
      rw [upd_ne (ne_of_none e nC), upd_ne n]; exact e
    have eL : (ps ++ #[rawInt pos.line, rawInt pos.col, .ref c']).toList = ps.toList ++ [rawInt pos.line, rawInt pos.col, .ref c'] := by simp
    refine h h1.objs.size c' _ ctv _ _ J (fun a o n e => other a o (fun z => n (by rw [z]; exact mA)) e) ⟨fun x hx => ?_, fun x hx => other _ _ (fun z => by have e := hT.2 x hx; rw [z, tP] at e; cases e) (hT.2 x hx)⟩ (Heap.get?_push_size _ rfl) ?_ (off _ z1) upd_same
    · by_cases hb : x.1 = P
      · have : x.2 = X.env.qual ++ "<lambda>" := tab_one hm (by rw [← hb]; exact hx)
        rw [this, hb]
        refine ⟨_, by rw [upd_ne nPc, upd_same], by rw [eL]; exact PySem.TriplesOk_snoc _ _ _ _ t3, fun p' cv hcv => ?_⟩
        rw [eL] at hcv
        rcases LamX.among_app _ t3 hcv with z | z
        · obtain ⟨c0, e1, e2⟩ := tall p' cv z
          exact ⟨c0, e1, other c0 _ (fun z => by rw [z, tP] at e2; exact LamX.codeO_ne ps (Option.some.inj e2).symm) e2⟩
        · exact ⟨c', z, upd_same⟩
      · obtain ⟨ps', a1, a2, a3⟩ := hT.1 x hx
        refine ⟨ps', other _ _ hb a1, a2, fun p' cv hcv => ?_⟩
        obtain ⟨c0, e1, e2⟩ := a3 p' cv hcv
        exact ⟨c0, e1, other c0 _ (fun z => by rw [z, tP] at e2; exact LamX.codeO_ne ps (Option.some.inj e2).symm) e2⟩
    · rw [upd_ne (Nat.ne_of_gt l1), upd_ne (Nat.ne_of_gt (Nat.lt_of_lt_of_le (Heap.lt_size hP0) z1))]
      exact I.hok.fresh z1
end
end R
namespace R
open PySem PySem.Spec L2
open PyProof.Rows hiding St
/-! ### the lambda's body, entered -/
abbrev lamN (X : Cx) (A : Around) (outer : List Env) (s : Shared) (H : Hp) (E : XK) (scope : Scope) (f c' : Addr) : Cx :=
  (LamX.lamCx X A outer s H E scope f c').wish fun e s' => wpAny (model X.prog X.w) (A.deeper (LamX.lamEnv X scope s.heap.objs.size f c')) (leaving (LamX.lamEnv X scope s.heap.objs.size f c') e)
    (fun _ s2 => L2N.CX X.prog X.w outer H s E e s2) (fun e' s2 => L2N.CX X.prog X.w outer H s E e' s2) s'
section
variable {X : Cx} {pins : List (Addr × Obj)} {σ : L2.St} {H : Hp} {s : Shared}
/-- door(), in the def that got the lambda -/
theorem act_ok {CXg : CXT} {Eg : XK} {Ng : List Str} {qg : Str} {sg : Scope} {g f c' : Addr} {cdg pm ctv : Value} {params : Arguments} {body : Expr} {scope : Scope} {k i : Nat} {a : Str} {pn : List (Addr × Obj)} {xe : Value → Shared → Prop} {W : WX} {E : XK} {p1 p2 : Pos}
    (I0 : Inv X pins σ H s) (L : LamX.LamS X.env.scope scope) (hf : s.heap.get? f = some (PySem.W.kla_obj "<lambda>" (X.env.qual ++ "<lambda>") params body scope (cloFrom X.env.cells scope.names []) pm c' ctv)) (hfn : H f = none) (hfr : f ∉ frs X.stack)
    (hbind : bindArgs (PySem.W.kla_fn "<lambda>" (X.env.qual ++ "<lambda>") params body scope (cloFrom X.env.cells scope.names []) pm (.ref c') ctv) ⟨[], []⟩ = pure [])
    (tk : L2N.Takes ((cxOf CXg X.prog X.w X.K X.mg X.base Ng qg sg g cdg X.A X.stack s H Eg).tr pn xe) W) (hr : Room (k + 1) (X.A.deeper (envOfC qg sg s.heap.objs.size g cdg)))
    (hN : Ng[i]? = some a) (hv : Vis sg a) (hd : (a == ("__debug__" : Str)) = false := by decide) (hcd : (a == ("__classdict__" : Str)) = false := by decide) :
    PE ((cxOf CXg X.prog X.w X.K X.mg X.base Ng qg sg g cdg X.A X.stack s H Eg).tr pn xe) (.Call (.Name a p1) [] [] p2) (fun σZ HZ Q => σZ[i]? = some (some (.ref f)) ∧ HZ c' = some (LamX.CodeO c' (X.env.qual ++ "<lambda>")) ∧ (∀ cls d H', E cls d H' → W cls d σZ H') ∧
      ∀ (A : Around) (outer : List Env) (s0 : Shared) (H0 : Hp), Room k (A.deeper (LamX.lamEnv X scope s0.heap.objs.size f c')) → wpE (lamN X A outer s0 H0 E scope f c') body σ HZ Q) := by
  refine ⟨fun pinsZ sZ σZ HZ Q IZ ⟨h1, h2, h3, h4⟩ => ?_⟩
  refine wpAny_Call_Name_kw (thn ((pe_var (pos := p1) (i := i) hN hv hd hcd).run pinsZ sZ σZ HZ (fun v G => v = .ref f ∧ G = HZ) IZ ⟨.ref f, h1, rfl, rfl⟩) fun u t ⟨v, G, J, rv, ev, eG⟩ => ?_)
  rw [ev] at rv
  rw [eG] at J
  obtain rfl : u = Value.ref f := rv
  have oft : t.heap.get? f = some (PySem.W.kla_obj "<lambda>" (X.env.qual ++ "<lambda>") params body scope (cloFrom X.env.cells scope.names []) pm c' ctv) := J.base.keep f _ hf hfn hfr fun z => nomatch (show f ∈ ([] : List Addr) from z)
  have unT : Un (frs X.stack) [] H HZ s.heap t.heap := J.base
  obtain ⟨⟨oc, vs, tt, q1, q2, q3⟩, _, _⟩ := J.hok c' _ h2
  refine PySem.W.callWith_F0 ⟨_, _, _, _, oft⟩ (wpAny_call (codeAny_mono (R := CR (L2N.CX X.prog X.w) (envOfC qg sg s.heap.objs.size g cdg :: X.stack) X.prog X.w HZ t Q E) ?_ fun r t2 hq => ?_))
  · show codeAny (model X.prog X.w) (X.A.deeper (envOfC qg sg s.heap.objs.size g cdg)) (.call (.ref f) ⟨[], []⟩) (CR (L2N.CX X.prog X.w) (envOfC qg sg s.heap.objs.size g cdg :: X.stack) X.prog X.w HZ t Q E) t
    refine PySem.W.kla_callFunE hr.depth oft rfl L.co L.gen rfl ⟨c', oc, vs, tt, rfl, q1, q2, q3⟩ ?_
    rw [hbind]
    refine wpAny_pure (wpAny_newFunctionEnv (fun y hy => (L.own y hy).2) (fun y hy => absurd hy (by simp)) (fun h₁ hns hsb => ⟨J.nolimit.fresh _ hsb, ?_⟩) L.kind)
    have kp : ∀ b o, t.heap.get? b = some o → h₁.get? b = some o := fun b o e => hsb.extBut b o (Nat.ne_of_lt (Heap.lt_size e)) (Heap.get?_push_of_some _ e)
    have J2 := (LamX.lam_start2 (A := X.A.deeper (envOfC qg sg s.heap.objs.size g cdg)) (outer := envOfC qg sg s.heap.objs.size g cdg :: X.stack) (E := E) (f := f) (c' := c') (tk := t.toks + ([] : List (Str × Value)).length) I0 L J.env0 hr.hd unT hns kp).wish
      fun e s' => wpAny (model X.prog X.w) ((X.A.deeper (envOfC qg sg s.heap.objs.size g cdg)).deeper (LamX.lamEnv X scope t.heap.objs.size f c')) (leaving (LamX.lamEnv X scope t.heap.objs.size f c') e)
        (fun _ s2 => L2N.CX X.prog X.w (envOfC qg sg s.heap.objs.size g cdg :: X.stack) HZ t E e s2) (fun e' s2 => L2N.CX X.prog X.w (envOfC qg sg s.heap.objs.size g cdg :: X.stack) HZ t E e' s2) s'
    show codeAny _ _ (.expr body (LamX.lamEnv X scope t.heap.objs.size f c')) _ _
    refine PySem.W.kla_codeExpr (wpAny_mono (h4 _ _ t HZ (hr.deeper _) [] _ J2) (fun v s' hq => ?_) fun e s' hq => hq)
    obtain ⟨w', H', J', rv', q⟩ := hq
    exact ⟨w', H', J'.os, J'.bare, J'.base, J'.hok, rv', q⟩
  · cases r with
    | error e => exact tk _ _ (L2N.XE.of_call J (fun cls d H' x => h3 cls d H' x) hq)
    | ok fl =>
      cases fl with
      | ret u => exact J.after hq
      | next => exact False.elim hq
      | brk => exact False.elim hq
      | cont => exact False.elim hq
end
/-! ### except clauses, each with a name for the exception -/
/-- behind a suite the name is gone -/
def gone (i : Nat) (D : Ends) : Ends := { nx := fun σ H => D.nx (σ.set i none) H, rt := D.rt, bk := fun σ H => D.bk (σ.set i none) H, ct := fun σ H => D.ct (σ.set i none) H }
abbrev Suite := Addr → Value → Option Addr → TS
def wClauses (K : PySem.W.Frag) (i : Nat) (Wout : WX) (D : Ends) : List (Value × Suite) → WX
  | [] => Wout
  | (c, ts) :: r => fun cls d σ H => ∃ b, PySem.W.exmOne K cls c = some b ∧ (b = true → ∀ a, H a = none → ts a cls d (gone i D) (σ.set i (some (.ref a))) H) ∧ (b = false → wClauses K i Wout D r cls d σ H)
inductive Clauses (X : Cx) (n : Str) : List ExceptHandler → List (Value × Suite) → Prop
  | nil : Clauses X n [] []
  | cons {x : Str} {c : Value} {ts : Suite} {b₀ : Stmt} {suite : List Stmt} {np p : Pos} {hds : List ExceptHandler} {l : List (Value × Suite)} (hc : Names X x c)
      (hsu : ∀ (a : Addr) (oe : Obj) (cls : Value) (d : Option Addr) (pn : List (Addr × Obj)), L2N.Zn cls d oe → (∃ vs, oe.data = .fields vs) → PSs (X.suite a ((a, oe) :: pn)) (b₀ :: suite) (ts a cls d)) (r : Clauses X n hds l) :
      Clauses X n (.ExceptHandler (some (.Name x np)) (some n) (b₀ :: suite) p :: hds) ((c, ts) :: l)
section
variable {X : Cx} {n : Str} {i : Nat} {Wout : WX} {D : Ends}
theorem handles {hds : List ExceptHandler} {l : List (Value × Suite)} {a : Addr} {B : Heap} {pins : List (Addr × Obj)} {σ : L2.St} {H : Hp} {sI t : Shared} {cls : Value} {d : Option Addr} (hs : X.stack = X.env :: X.outer) (hf : X.env.frame = some X.env.locals) (hN : X.N.Nodup) (hi : X.N[i]? = some n)
    (hln : X.env.kindOf n = some .local) (tk : L2N.Takes X Wout) (ok : X.Ok) (J : Inv X pins σ H sI) (nb : ∀ b o, sI.heap.get? b = some o → b ∉ frs X.stack → B.get? b = some o) (up : sI.heap.UpToSlots t.heap) (fl : HandSPX.FlyingZ B (X.env :: X.outer) a (L2N.Zn cls d) t.heap)
    (na : H a = none) (os : t.os = sI.os) (ag : AllBare t.gens) (hk : Clauses X n hds l) (w : wClauses X.K i Wout D l cls d σ H) : wpAny (model X.prog X.w) X.A (handleBy (.ref a) X.env hds) (SP X pins D) X.xe t := by
  have onFrame : ∀ {o : Obj} {vs : Array Value}, t.heap.get? a = some o → o.data = .fields vs → a ∉ frs (X.env :: X.outer) := fun {o vs} e dd hm => by
    obtain ⟨_, o', e', hnf⟩ := fl.2.2.1.mem hm
    rw [e] at e'; cases e'
    exact hnf _ dd
  obtain ⟨oa, va, hea, hza, hda⟩ := fl.there
  have nfr := onFrame hea hda
  have nL : a ≠ X.env.locals := fun z => nfr (List.mem_filterMap.mpr ⟨X.env, List.mem_cons_self, by rw [hf, z]⟩)
  have nF : a ∉ X.fs := fun hm => by
    obtain ⟨e, he, q⟩ := List.mem_filterMap.mp hm
    exact nfr (List.mem_filterMap.mpr ⟨e, List.mem_cons_of_mem _ he, q⟩)
  have Jt : Inv X pins σ H t := J.landed nb fl.1 up os ag
  have St := Jt.suite hea hda na nL nF
  induction hk with
  | nil =>
    obtain ⟨_, _, _, o1, v1, TB, oT, t1, he, hz, hd, h1, hr⟩ := id fl
    refine wpAny_handleBy_nil ?_
    unfold PySem.passOn
    refine wpAny_bind (wpAny_field he hd h1 ?_)
    rw [if_neg (show ¬ ((Value.ref TB == Value.none) = true) from by simp)]
    have out : wpAny (model X.prog X.w) X.A (setFlight (.ref a) X.env.frame) (fun _ s4 => wpAny (model X.prog X.w) X.A (throw (.ref a) : Sem Flow) (SP X pins D) X.xe s4) X.xe t := by
      rw [hf]
      refine HandSPX.setFlight_upZ fl fun h4 held up4 => wpAny_throw (tk _ _ ⟨a, B, sI, pins, σ, H, cls, d, rfl, J, nb, up.trans up4, .inr (.inr (by rw [hs]; exact held)), na, os, ag, w⟩)
    first
      | exact wpAny_bind (wpAny_pure (wpAny_bind out))
      | exact wpAny_bind out
  | @cons x c ts b₀ suite np p hds2 l2 hc hsu r ih =>
    obtain ⟨b, hb, hyes, hno⟩ := w
    have LM := PySem.W.exm_one (M := model X.prog X.w) Jt.kIn (fun A Q E s k q => wpAny_typeOf_ref (k _ _ hea) (by rw [hza.1]; exact q)) hb
    refine wpAny_handleBy_cons (codeAny_handlers_test ?_) (by intro q; cases q)
    have ask : ∀ {Q E : Value → Shared → Prop}, Q c t → wpAny (model X.prog X.w) (X.A.mark (some (.ref a))) (eval (.Name x np) X.env) Q E t := fun {Q E} q => by
      obtain ⟨hg, hdbg, hm | ⟨hm, hv, hnn⟩⟩ := hc
      · exact ld_glob (X := X.suite a ((a, oa) :: (X.pn ++ pins))) St hg hm q hdbg
      · exact ld_blt (X := X.suite a ((a, oa) :: (X.pn ++ pins))) St hg hm hv q hnn hdbg
    refine ask (LM.here ?_)
    cases b with
    | false =>
      show wpAny _ X.A (handleBy (.ref a) X.env hds2) _ _ _
      exact ih (hno rfl)
    | true =>
      refine codeAny_handlers_suite_as ?_
      refine HandSPX.lands_againZ fl fun h4 fl4 up4 => ?_
      obtain ⟨o4, v4, he4, hz4, hd4⟩ := fl4.there
      have S4 := (J.landed (s' := { t with heap := h4 }) nb fl4.1 (up.trans up4) os ag).suite he4 hd4 na nL nF
      refine store_ok (X := X.suite a ((a, o4) :: (X.pn ++ pins))) (v := .ref a) S4 hN hi (.inl hln) rfl (fun s5 S5 => ?_) (.inr hln)
      refine wpAny_mono ((hsu a o4 cls d (X.pn ++ pins) hz4 ⟨_, hd4⟩).run [] s5 _ H _ S5 (hyes rfl a na)) (fun fw s6 hsp => ?_) fun _ _ z => False.elim z
      have ends : ∀ {σ6 : L2.St} {H6 : Hp} {Q : Shared → Prop}, Inv (X.suite a ((a, o4) :: (X.pn ++ pins))) [] σ6 H6 s6 → (∀ s7, Inv X pins (σ6.set i none) H6 s7 → Q s7) →
          wpAny (model X.prog X.w) X.A (do bindName X.env n .none; unbindBehindTheSuite X.env n p) (fun _ s7 => Q s7) X.xe s6 := fun {σ6 H6 Q} S6 hq => gone_ok (S6.unsuite ok) hN hi hln hq
      cases fw with
      | next => obtain ⟨_, _, S6, q6⟩ := hsp; exact ends S6 fun s7 J7 => ⟨_, _, J7, q6⟩
      | brk => obtain ⟨_, _, S6, q6⟩ := hsp; exact ends S6 fun s7 J7 => ⟨_, _, J7, q6⟩
      | cont => obtain ⟨_, _, S6, q6⟩ := hsp; exact ends S6 fun s7 J7 => ⟨_, _, J7, q6⟩
      | ret u => obtain ⟨_, _, _, S6, r6, q6⟩ := hsp; exact ends S6 fun s7 J7 => ⟨_, _, _, J7, r6, q6⟩
theorem ps_tries {body : List Stmt} {h₀ : ExceptHandler} {hds : List ExceptHandler} {l : List (Value × Suite)} {pos : Pos} {tb : WX → TS} (hs : X.stack = X.env :: X.outer) (hf : X.env.frame = some X.env.locals) (hN : X.N.Nodup) (hi : X.N[i]? = some n) (hln : X.env.kindOf n = some .local)
    (tk : L2N.Takes X Wout) (hb : ∀ (W : WX) (pn : List (Addr × Obj)) (xe : Value → Shared → Prop), L2N.Takes (X.tr pn xe) W → PSs (X.tr pn xe) body (tb W)) (hk : Clauses X n (h₀ :: hds) l) :
    PS X (.Try body (h₀ :: hds) [] [] pos) (fun D σ H => tb (wClauses X.K i Wout D l) D σ H) := by
  refine ⟨fun pins s σ H D I h => ?_⟩
  have ok := I.ok
  have hfr : X.A.frames = some (X.env :: X.outer) := by rw [ok.frames, hs]
  refine wpAny_Try_except ?_
  refine wpAny_mono ((hb (wClauses X.K i Wout D l) (X.pn ++ pins) (fun e s₁ => wpAny (model X.prog X.w) X.A (noteFrame e X.env) (fun _ s₂ => wpAny (model X.prog X.w) X.A (setFlight e none) (fun _ s₃ =>
    wpAny (model X.prog X.w) X.A (handleBy e X.env (h₀ :: hds)) (SP X pins D) X.xe s₃) X.xe s₂) X.xe s₁) fun u s' xx => ?_).run [] s σ H D (I.toTry _) h) (fun fw s1 hsp => ?_) fun e s1 he => he
  · obtain ⟨a, B, sI, pins', σ', H', cls, d, rfl, J, nb, up, sky, na, os, ag, w⟩ := xx
    rw [show (X.tr (X.pn ++ pins) _).stack = X.env :: X.outer from hs] at sky
    refine L2N.Sky.land L2N.Zn.steady hfr hf sky fun h3 fl3 up3 => ?_
    exact handles (t := { s' with heap := h3 }) hs hf hN hi hln tk ok (J.ofTry ok) nb (up.trans up3) fl3 na os ag hk w
  · cases fw with
    | next => obtain ⟨_, _, J, q⟩ := hsp; exact wpAny_execs_nil ⟨_, _, J.ofTry ok, q⟩
    | brk => obtain ⟨_, _, J, q⟩ := hsp; exact ⟨_, _, J.ofTry ok, q⟩
    | cont => obtain ⟨_, _, J, q⟩ := hsp; exact ⟨_, _, J.ofTry ok, q⟩
    | ret u => obtain ⟨_, _, _, J, r, q⟩ := hsp; exact ⟨_, _, _, J.ofTry ok, r, q⟩
end
end R
namespace R
open PySem PySem.Spec L2
open PyProof.Rows hiding St
/-! ### a def called while p's exception is handled -/
theorem hot_of {X : Cx} {p : Addr × Obj} (h1 : L2H.Hot1 X.A p) (hp : p ∈ X.pn) (pins : List (Addr × Obj)) (σ : L2.St) (H : Hp) (s : Shared) (I : Inv X pins σ H s) : HotX.HotAt X.A p.1 s.heap ∧ H p.1 = none ∧ p.1 ∉ frs X.stack := by
  obtain ⟨hh, vs, e1, e2⟩ := h1
  have P1 := I.pin p (List.mem_append_left _ hp)
  exact ⟨⟨hh, p.2, vs, P1.1, e1, e2⟩, P1.2.1, fun hm => (List.mem_cons.mp (I.stkSub p.1 hm)).elim P1.2.2.1 P1.2.2.2.1⟩
theorem run_hot {X : Cx} {p : Addr × Obj} {pins : List (Addr × Obj)} {σ : L2.St} {H : Hp} {s : Shared} {Q : VK} {k : Nat} {f : Addr} {name qual x : Str} {params : Arguments} {body : List Stmt} {scope : Scope} {dV kV doc pm cdv ct oc : Value} {an od : Option Addr} {osl : Array (Option Value)} {N : List Str}
    (lk : X.K.lookup f = some ⟨oc, od, .func (PySem.W.fnOf name qual params body scope dV kV doc pm an cdv ct), osl⟩) (hcd : PySem.W.codeIn X.K cdv qual = true) (S : FnScope N [x] scope)
    (hbind : ∀ us : List Value, us.length = 1 → bindArgs (PySem.W.fnOf name qual params body scope dV kV doc pm an cdv ct) ⟨us, []⟩ = pure ([x].zip us)) (I : Inv X pins σ H s) (hot : L2H.Hot1 X.A p) (hp : p ∈ X.pn) (hr : L2H.RoomH (k + 1) X.A)
    (hbody : L2H.RoomH k (X.A.deeper (envOfC qual scope s.heap.objs.size f cdv)) → wpSs (L2H.cxH L2.CX0 X.prog X.w X.K X.mg X.base N qual scope f cdv X.A X.stack s H L2.E0 p) body { nx := fun _ H' => Q .non H', rt := Q } (L2.start N [.ref p.1]) H) :
    wpAny (model X.prog X.w) X.A (call (.ref f) [.ref p.1]) (EP X pins σ Q) X.xe s := by
  obtain ⟨h1, h2, h3⟩ := hot_of hot hp pins σ H s I
  have P1 := I.pin p (List.mem_append_left _ hp)
  have hpin : L2H.PinOk X.stack H s p := ⟨P1.1, h2, h3, P1.2.2.2.2⟩
  refine wpAny_call (codeAny_mono (R := CR L2.CX0 X.stack X.prog X.w H s Q L2.E0) ?_ fun r t hq => ?_)
  · refine codeAny_call_function hr.depth (I.kIn _ _ lk) rfl S.co S.gen rfl (PySem.W.codeRec_of I.kIn hcd) ?_
    rw [hbind _ rfl]
    refine wpAny_pure (wpAny_newFunctionEnv_cells S.kind (fun y hy => ?_) fun env he s1 x1 => ?_)
    · rcases S.par y.1 (List.of_mem_zip hy).1 with q | q
      · exact .inl q
      · exact .inr ⟨q, PySem.W.cellsFrom_some _ _ _ (.inl q)⟩
    · subst he
      refine ⟨I.nolimit.keeps x1.toInCall.keep, codeAny_func ?_⟩
      have J := L2H.inv_startH (CX := L2.CX0) (E := L2.E0) (us := [.ref p.1]) (vs := [.ref p.1]) S hpin I.env0 rfl (.cons rfl .nil) x1
      refine wpAny_mono (hbody (hr.deeper _) [] s1 J) (fun fl t hs => ?_) fun e t hs => hs
      cases fl with
      | ret u =>
        obtain ⟨v, σ', H', J', rv, q⟩ := hs
        exact ⟨v, H', J'.os, J'.bare, J'.base, J'.hok, rv, q⟩
      | next =>
        obtain ⟨σ', H', J', q⟩ := hs
        exact ⟨.non, H', J'.os, J'.bare, J'.base, J'.hok, rfl, q⟩
      | brk => obtain ⟨_, _, _, q⟩ := hs; exact False.elim q
      | cont => obtain ⟨_, _, _, q⟩ := hs; exact False.elim q
  · cases r with
    | error e => exact (show False from hq).elim
    | ok fl =>
      cases fl with
      | ret u => exact I.after hq
      | next => exact False.elim hq
      | brk => exact False.elim hq
      | cont => exact False.elim hq
end R
namespace R
open PySem PySem.Spec L2
open PyProof.Rows hiding St
/-! ### a < b < c < d, as a test -/
def dLink (g : D → D → Option Rv) (r1 : Rv) (fb : Rho → Res Rv) (k : Rv → Rho → Res Bool) (ρ1 : Rho) : Res Bool := (fb ρ1).bind fun r2 ρ2 => match rd ρ2 r1, rd ρ2 r2 with
  | some d1, some d2 => match g d1 d2 with
    | some (.dat (.bool true)) => k r2 ρ2
    | some (.dat (.bool false)) => .ok false ρ2
    | _ => .stuck
  | _, _ => .stuck
def dLast (g : D → D → Option Rv) (r1 : Rv) (fb : Rho → Res Rv) (ρ1 : Rho) : Res Bool := dLink g r1 fb (fun _ ρ2 => .ok true ρ2) ρ1
def dChain3 (g g' g2 : D → D → Option Rv) (fa fb fc fd : Rho → Res Rv) (ρ : Rho) : Res Bool := (fa ρ).bind fun r1 ρ1 => dLink g r1 fb (fun r2 ρ2 => dLink g' r2 fc (fun r3 ρ3 => dLast g2 r3 fd ρ3) ρ2) ρ1
def tLink (r : R2) (x : V) (tb : TE) (σ : L2.St) (H1 : Hp) (T : V → Hp → Prop) (F : Hp → Prop) : Prop := tb σ H1 fun y H2 => r x y H2 fun z H3 => ∃ k, z = .bl k ∧ (if k = true then T y H3 else F H3)
def tChain3 (r r' r2 : R2) (ta tb tc td : TE) : TT := fun σ H Q => ta σ H fun x H1 => tLink r x tb σ H1 (fun y H3 => tLink r' y tc σ H3 (fun w H5 => tLink r2 w td σ H5 (fun _ H7 => Q true H7) (Q false)) (Q false)) (Q false)
section
variable {X : Cx} {a b c d : Expr} {ta tb tc td : TE} {pos : Pos}
theorem pt_chain3 {op op' op2 : CmpOp} {r r' r2 : R2} (ho : OpR X (compareOp op) r) (ho' : OpR X (compareOp op') r') (ho2 : OpR X (compareOp op2) r2) (ha : PE X a ta) (hb : PE X b tb) (hc : PE X c tc) (hd : PE X d td)
    (hm : lastMarks [op, op', op2] [b, c, d] = false := by with_unfolding_all rfl) : PT X (.Compare a [op, op', op2] [b, c, d] pos) (tChain3 r r' r2 ta tb tc td) := by
  refine ⟨fun pins s σ H Q I h => ?_⟩
  refine isTrue_chain (thn (ha.run pins s σ H _ I h) fun v s1 ⟨x, H1, I1, r1, q1⟩ => test_link (thn (hb.run pins s1 σ H1 _ I1 q1) fun u s2 ⟨y, H2, I2, r2', q2⟩ =>
    thn (ho pins s2 σ H2 x y v u _ I2 r1 r2' q2) fun d s3 ⟨z, H3, I3, r3, k, e, q3⟩ => ?_)) hm
  subst e
  cases r3
  refine wpAny_truthy_bool ?_
  cases k with
  | false => exact ite_ff ⟨H3, I3, ite_f' q3⟩
  | true =>
    refine ite_tt (test_link (thn (hc.run pins s3 σ H3 _ I3 (ite_t' q3)) fun w' s4 ⟨z', H4, I4, r4, q4⟩ => thn (ho' pins s4 σ H4 y z' u w' _ I4 r2' r4 q4) fun d' s5 ⟨z2, H5, I5, r5, k2, e2, q5⟩ => ?_))
    subst e2
    cases r5
    refine wpAny_truthy_bool ?_
    cases k2 with
    | false => exact ite_ff ⟨H5, I5, ite_f' q5⟩
    | true =>
      refine ite_tt (test_last (thn (hd.run pins s5 σ H5 _ I5 (ite_t' q5)) fun w6 s6 ⟨z6, H6, I6, r6, q6⟩ => thn (ho2 pins s6 σ H6 z' z6 w' w6 _ I6 r4 r6 q6) fun d7 s7 ⟨z7, H7, I7, r7, k7, e7, q7⟩ => ?_))
      subst e7
      cases r7
      refine wpAny_truthy_bool ⟨H7, I7, ?_⟩
      cases k7 with
      | false => exact ite_f' q7
      | true => exact ite_t' q7
where
  ite_f' {p q : Prop} (h : if false = true then p else q) : q := by rwa [if_neg Bool.false_ne_true] at h
  ite_t' {p q : Prop} (h : if true = true then p else q) : p := by rwa [if_pos rfl] at h
end
section
variable [Tb] {X : Cx} {W : WX} {Hb H H1 : Hp} {fx : List Addr} {B : Addr → Prop} {ρ ρ1 : Rho} {σ : L2.St}
theorem link_ok {b : Expr} {fb : Rho → Res Rv} {r : R2} {g : D → D → Option Rv} {r1 : Rv} {k : Rv → Rho → Res Bool} {v1 : V} (hr : OpD X.K r g) (hb : SE X W b fb) (A1 : Abs X.K Hb fx B ρ1 σ H1) (q1 : (∀ k, r1 ≠ .newk k) → RvOk X.K Hb fx B ρ1 σ H1 v1 r1.weak)
    {Q : Bool → Hp → Prop} {T : V → Hp → Prop} (h : Post (fun c ρ' => ∀ H', Abs X.K Hb fx B ρ' σ H' → Q c H') (ErrE X W Hb fx B σ) (dLink g r1 fb k ρ1))
    (hk : ∀ r2 ρ2 v2 H2, Abs X.K Hb fx B ρ2 σ H2 → ((∀ k, r2 ≠ .newk k) → RvOk X.K Hb fx B ρ2 σ H2 v2 r2.weak) → Post (fun c ρ' => ∀ H', Abs X.K Hb fx B ρ' σ H' → Q c H') (ErrE X W Hb fx B σ) (k r2 ρ2) → T v2 H2) :
    tLink r v1 (wpE X b) σ H1 T (Q false) := by
  refine hb _ fx B ρ1 σ H1 _ A1.here (h.of_bind.mono (fun r2 ρ2 h2 v2 H2 l2 A2 q2 => ?_) fun _ _ z => z.rebase A1.same)
  cases e1 : rd ρ2 r1 with
  | none => simp only [e1] at h2; exact h2.elim
  | some d1 =>
    cases e2 : rd ρ2 r2 with
    | none => simp only [e1, e2] at h2; exact h2.elim
    | some d2 =>
      simp only [e1, e2] at h2
      have A2' := A2.rebase A1.same
      have q1' : RvOk X.K Hb fx B ρ2 σ H2 v1 r1.weak := (q1 (rd_nk e1)).keep (weak_weak r1) (weak_nk (rd_nk e1)) A2
      have q2' := q2.rebase A1.same
      split at h2
      · rename_i e3
        refine hr H2 _ v1 v2 d1 d2 _ l2 (q1'.lo A2' (rd_weak e1)) (q2'.lo A2' e2) e3 _ fun v H' o => ?_
        obtain ⟨A3, q3⟩ := o.ok A2'
        cases o
        cases q3
        refine ⟨true, rfl, ?_⟩
        rw [if_pos rfl]
        exact hk r2 ρ2 v2 H2 A2' (fun _ => q2'.weak) h2
      · rename_i e3
        refine hr H2 _ v1 v2 d1 d2 _ l2 (q1'.lo A2' (rd_weak e1)) (q2'.lo A2' e2) e3 _ fun v H' o => ?_
        obtain ⟨A3, q3⟩ := o.ok A2'
        cases o
        cases q3
        refine ⟨false, rfl, ?_⟩
        rw [if_neg Bool.false_ne_true]
        exact h2 H2 A3
      · exact h2.elim
theorem st_chain3 {a b c d : Expr} {fa fb fc fd : Rho → Res Rv} {op op' op2 : CmpOp} {r r' r2 : R2} {g g' g2 : D → D → Option Rv} {pos : Pos} (ho : OpR X (compareOp op) r) (ho' : OpR X (compareOp op') r') (ho2 : OpR X (compareOp op2) r2) (hr : OpD X.K r g) (hr' : OpD X.K r' g') (hr2 : OpD X.K r2 g2) (ha : SE X W a fa) (hb : SE X W b fb) (hc : SE X W c fc) (hd : SE X W d fd)
    (hm : lastMarks [op, op', op2] [b, c, d] = false := by with_unfolding_all rfl) : ST X W (.Compare a [op, op', op2] [b, c, d] pos) (dChain3 g g' g2 fa fb fc fd) := .mk fun Hb fx B ρ σ H Q A h => by
  refine wpT_len (wp_pt (pt_chain3 ho ho' ho2 pe_wp pe_wp pe_wp pe_wp hm) ?_)
  have h' : Post (fun c ρ' => ∀ H', Abs X.K Hb fx B ρ' σ H' → LenOk X.K H' → Q c H') (ErrE X W Hb fx B σ) (dChain3 g g' g2 fa fb fc fd ρ) := h.mono (fun k ρ' z H' A' l => z H' l A') fun _ _ z => z
  refine ha Hb fx B ρ σ H _ A (h'.of_bind.mono (fun r1 ρ1 h1 v1 H1 l1 A1 q1 => ?_) fun _ _ z => z)
  refine link_ok (Q := fun c H' => LenOk X.K H' → Q c H') hr hb A1 (fun _ => q1.weak) h1 fun r2 ρ2 v2 H2 A2 q2 h2 => ?_
  refine link_ok (Q := fun c H' => LenOk X.K H' → Q c H') hr' hc A2 q2 h2 fun r3 ρ3 v3 H3 A3 q3 h3 => ?_
  exact link_ok (Q := fun c H' => LenOk X.K H' → Q c H') hr2 hd A3 q3 h3 fun r4 ρ4 v4 H4 A4 q4 h4 => h4 H4 A4
end
section
variable {Pb : Bool → Rho → Prop} {E : Exn → Rho → Prop} {ρ : Rho}
@[simp ↓] theorem w_link {g : PyData → PyData → Option Rv} {r1 : Rv} {fb : Rho → Res Rv} {k : Rv → Rho → Res Bool} : Pst Pb E (dLink g r1 fb k ρ) = Pst (fun r2 ρ2 => onS (rd ρ2 r1) fun d1 => onS (rd ρ2 r2) fun d2 => onS (g d1 d2) fun rv => onS (bolR rv) fun b => if b = true then Pst Pb E (k r2 ρ2) else Pb false ρ2) E (fb ρ) := by
  unfold dLink
  simp only [w_bind]
  refine pst_ext fun r2 ρ2 => ?_
  cases rd ρ2 r1 with
  | none => rfl
  | some d1 =>
    cases rd ρ2 r2 with
    | none => rfl
    | some d2 =>
      simp only [onS_some]
      generalize g d1 d2 = z
      cases z with
      | none => rfl
      | some rv =>
        cases rv with
        | new _ => rfl
        | bor _ => rfl
        | newk _ => rfl
        | dat d =>
          cases d with
          | bool b => cases b <;> simp
          | none => rfl
          | int _ => rfl
          | str _ => rfl
          | list _ => rfl
          | tuple _ => rfl
          | dict _ => rfl
@[simp ↓] theorem w_chain3 {g g' g2 : PyData → PyData → Option Rv} {fa fb fc fd : Rho → Res Rv} : Pst Pb E (dChain3 g g' g2 fa fb fc fd ρ) = Pst (fun r1 ρ1 => Pst Pb E (dLink g r1 fb (fun r2 ρ2 => dLink g' r2 fc (fun r3 ρ3 => dLink g2 r3 fd (fun _ ρ4 => .ok true ρ4) ρ3) ρ2) ρ1)) E (fa ρ) := by
  unfold dChain3 dLast
  simp only [w_bind]
end
end R
namespace R
open PySem PySem.Spec L2
open PyProof.Rows hiding St
/-! ### R.__init__(self, m) of an own class R over ValueError, without an __init__ of its own -/
section
variable {X : Cx} {e : Expr} {es : List Expr} {ta : TA} {x : Str} {p1 p2 pos : Pos} {cR : Addr} {mc : Value}
def cinitS (x : Str) (p1 p2 pos : Pos) (es : List Expr) (env : Env) (pl : Sem Bool) : Sem Value := do
  let v ← eval (.Name x p1) env
  standAt p2.atName
  let (f, fs) ← holding [v] (getMethod v "__init__" pl)
  callWith pos f fs (backTo pos (starEach es env)) (backToKw pos (keywordEach [] env))
theorem pe_cinit {pl : Sem Bool} (hg : Gl X x) (hm : X.mg x = some (.ref cR)) (r : ClX.CRead X.K cR mc) (k : PySem.W.findCls X.K (.ref cR) mc "__init__" = some (.val (.builtin "ValueError.__init__"))) (ha : PA X (e :: es) ta) (hdb : (x == ("__debug__" : Str)) = false := by decide)
    (hc : eval (.Call (.Attribute (.Name x p1) "__init__" p2) (e :: es) [] pos) X.env = cinitS x p1 p2 pos (e :: es) X.env pl := by rfl)
    (he : starEach (e :: es) X.env = (false, eval e X.env) :: starEach es X.env := by rfl) (hpl : (backTo pos (starEach es X.env)).any (·.1) = false := by rfl) : PE X (.Call (.Attribute (.Name x p1) "__init__" p2) (e :: es) [] pos) (tVeI X.K ta) := by
  refine ⟨fun pins s σ H Q I h => PySem.W.methodCall_KW (ld_glob I hg hm ?_ hdb) hc⟩
  refine PySem.W.method_cls I.kIn r.ga (PySem.W.cls_value I.kIn r.rd k rfl ?_)
  show wpAny _ _ (callWith pos (Value.builtin "ValueError.__init__") [] (backTo pos (starEach (e :: es) X.env)) []) _ _ _
  refine PyProof.Rows.callWith_method1 (thn (ha.run pos pins _ σ H _ (I.tok _) h) fun us s1 hh => ?_) he hpl
  obtain ⟨vs, H1, I1, r1, a, C, ws, rfl, hl, T, ea, q⟩ := hh
  cases r1 with
  | @cons _ u0 _ ur ra rw' =>
    cases (show u0 = Value.ref a from ra)
    have hz : ur.length ≤ sizeLine := by rw [← Paired.length rw', sizeLine_eq]; omega
    exact oinit_ok T I1 ea hz fun s' J => ⟨.non, H1, J, rfl, q⟩
end
/-! ### the __init__ that keeps a limit -/
def spLim (K : PySem.W.Frag) : Sp := fun vs H Q _ => ∃ (a C : Addr) (n : Int), vs = [.ref a, .int n] ∧ OexC K C ∧ PySem.W.findIn K (.ref C) "limit" = some none ∧ H a = some (exo a C none) ∧
  ∀ dx, H dx = none → dx ≠ a → Q .non (upd (upd H dx (exd dx [("limit", .int n)])) a (exo a C (some dx)))
abbrev iText (a1 a2 a3 a4 a5 a6 a7 a8 a9 b1 : Pos) (j : Nat) (m : Str) : List Stmt :=
  [.Expr (.Call (.Attribute (.Name "RollcapError" a1) "__init__" a2) [.Name "self" a3, .Constant (.str m) j a4] [] a5) a6, .Assign [.Attribute (.Name "self" a7) "limit" a8] (.Name "limit" a9) b1]
section
variable {P : Program} {w : World} {K : PySem.W.Frag} {mg : Str → Option Value} {base : Heap}
theorem lim_fn {st : Stmt} {qual : Str} {f cR : Addr} {fd : FuncData} {mc : Value} {a1 a2 a3 a4 a5 a6 a7 a8 a9 b1 : Pos} {j : Nat} {m : Str} (F : Fun K "__init__" qual st f fd) (S : FnScope ["self", "limit"] ["self", "limit"] (defScope st)) (ht : defBody st = iText a1 a2 a3 a4 a5 a6 a7 a8 a9 b1 j m)
    (l0 : (defScope st).names.lookup ("self" : Str) = some NameKind.local) (l1 : (defScope st).names.lookup ("limit" : Str) = some NameKind.local) (g0 : (defScope st).names.lookup ("RollcapError" : Str) = some NameKind.globalImplicit)
    (hm : mg "RollcapError" = some (.ref cR)) (r : ClX.CRead K cR mc) (k : PySem.W.findCls K (.ref cR) mc "__init__" = some (.val (.builtin "ValueError.__init__")))
    (hc : ∀ (cdv : Value) (A : Around) (outer : List Env) (s : Shared) (H : Hp) (E : XK), ∃ pl : Sem Bool, eval (.Call (.Attribute (.Name "RollcapError" a1) "__init__" a2) [.Name "self" a3, .Constant (.str m) j a4] [] a5) (cxOf (L2N.CX P w) P w K mg base ["self", "limit"] qual (defScope st) f cdv A outer s H E).env =
      cinitS "RollcapError" a1 a2 a5 [.Name "self" a3, .Constant (.str m) j a4] (cxOf (L2N.CX P w) P w K mg base ["self", "limit"] qual (defScope st) f cdv A outer s H E).env pl) : FnOk P w K mg base (L2N.CX P w) 1 f fd ["self", "limit"] (spLim K) := by
  obtain ⟨oc0, od0, kV0, doc0, pm0, an0, cdv, ct0, osl0, rfl, lk0, hcd0⟩ := F.ex
  refine fn_of lk0 hcd0 S (fun vs H Q E h => ?_) fun A outer s H vs Q E hr h => ?_
  · obtain ⟨a, C, n, rfl, _⟩ := h
    rfl
  · obtain ⟨a, C, n, rfl, T, hno, ea, q⟩ := h
    rw [ht]
    obtain ⟨pl, hcl⟩ := hc cdv A outer s H E
    refine ⟨_, pss_cons (ps_expr (pe_cinit (pl := pl) g0 hm r k (pa_cons (pe_var (i := 0) rfl (.inl l0)) (pa_cons pe_str pa_nil)) (by decide) hcl)) (pss_one (ps_ost (pe_var (i := 0) rfl (.inl l0)) (pe_var (i := 1) rfl (.inl l1)))), ?_⟩
    refine ⟨.ref a, rfl, a, C, [.str m], rfl, (by show 1 ≤ 1000; decide), T, ea, .int n, rfl, .ref a, rfl, a, C, rfl, T, hno, .inl ⟨ea, fun dx h1 h2 => ?_⟩⟩
    exact q dx h1 h2
/-- C(e): an own exception whose __init__ keeps a promise, made where nothing is handled -/
theorem pmk_lim {X : Cx} {x : Str} {C fI : Addr} {k : Nat} {fd : FuncData} {e : Expr} {te : TE} {p pos : Pos} (T : OexC X.K C) (iC : PySem.W.findIn X.K (.ref C) "__init__" = some (some (.ref fI))) (tI : PySem.W.typeIn X.K (.ref fI) = some (.type "function")) (hno : PySem.W.findIn X.K (.ref C) "limit" = some none)
    (F1 : FnOk X.prog X.w X.K X.mg X.base (L2N.CX X.prog X.w) k fI fd ["self", "limit"] (spLim X.K)) (hr : Room (k + 1) X.A) (hb : Binds X.K fd ["self", "limit"] []) (hg : Gl X x) (hm : X.mg x = some (.ref C)) (he : PE X e te)
    (hdb : (x == ("__debug__" : Str)) = false := by decide) (h1 : starEach [e] X.env = (false, eval e X.env) :: starEach [] X.env := by rfl) :
    L2N.PMk X (.Call (.Name x p) [e] [] pos) (fun σ H Q => te σ H fun v H1 => ∃ n : Int, [v] = [V.int n] ∧ ∀ d, H1 d = none → Q (.ref C) (some d) (upd H1 d (.xd [("limit", .int n)]))) := by
  intro pins s σ H Q I h
  obtain ⟨nm, qn, N, bs, bm, sn, sub, ab, col, dd, k0, k1, k2, k3, k5, hC, hbm⟩ := T.cls
  refine wpAny_Call_Name_kw (ld_glob I hg hm ?_ hdb)
  have ha : PA X [e] (tCons te tNil) := pa_cons he pa_nil h1
  refine PySem.W.callWith_K (h₀ := X.base) I.ok.mod.kin T.kC (thn (ha.run pos pins s σ H (fun vs H1 => ∃ n : Int, vs = [V.int n] ∧ ∀ d, H1 d = none → Q (.ref C) (some d) (upd H1 d (.xd [("limit", .int n)]))) I h) fun us s1 hh => ?_) h1 rfl
  obtain ⟨vs, H1, I1, r1, n, rfl, q⟩ := hh
  refine ⟨I1.kIn, ?_⟩
  show wpAny _ _ (call (.ref C) us) _ _ _
  obtain ⟨hp, g, dr, tk, os⟩ := s1
  have z1 : hp.objs.size ≤ hp.objs.size + 1 := Nat.le_succ _
  have hn : H1 (hp.objs.size + 1) = none := I1.hok.fresh z1
  have kk : ∀ b o, hp.get? b = some o → ((hp.push (PySem.W.kdv_tup us)).push (PySem.HandSPX.excO C hp.objs.size)).get? b = some o := fun b o y => Heap.get?_push_of_some _ (Heap.get?_push_of_some _ y)
  have ge : ((hp.push (PySem.W.kdv_tup us)).push (PySem.HandSPX.excO C hp.objs.size)).get? (hp.objs.size + 1) = some (PySem.HandSPX.excO C hp.objs.size) := by heap_get
  have I2 := I1.laid (t' := tk) (a := hp.objs.size + 1) (o := exo (hp.objs.size + 1) C none) kk z1 (exo_ok ge)
  have r2 : Vals [V.ref (hp.objs.size + 1), V.int n] (Value.ref (hp.objs.size + 1) :: us) := .cons rfl r1
  have hl : us.length = 1 := by rw [← Paired.length r1]; rfl
  refine wpAny_call (PySem.HandSPX.call_own PySem.F.excBase_ValueError (fun Y => PySem.HandSPX.refsVE_contains Y bm hbm) (I1.kIn _ _ hC) (PySem.W.looks_findIn I1.kIn iC) (fun self => PySem.W.bind_fn I1.kIn self tI) (by rw [hl, sizeLine_eq]; decide)
    (codeAny_mono (F1.run _ X.stack _ _ ⟨Value.ref (hp.objs.size + 1) :: us, []⟩ (Value.ref (hp.objs.size + 1) :: us) _ (fun v H2 => v = .non ∧ ∃ d, H1 d = none ∧ d ≠ hp.objs.size + 1 ∧ H2 = upd (upd (upd H1 (hp.objs.size + 1) (exo (hp.objs.size + 1) C none)) d (exd d [("limit", .int n)])) (hp.objs.size + 1) (exo (hp.objs.size + 1) C (some d))) (fun _ _ _ => False)
      (hr.make C us []) (I2.env0.make C us []) (by have := hb _ (Value.ref (hp.objs.size + 1) :: us) I2.kIn (by simp [hl]); rwa [List.append_nil] at this) r2 ⟨_, C, n, rfl, T, hno, upd_same, fun d d1 d2 => ⟨rfl, d, by rw [← d1, upd_ne d2], d2, rfl⟩⟩) fun r s' hq' => ?_))
  cases r with
  | error er =>
    obtain ⟨_, _, _, _, _, _, _, _, _, _, _, _, z⟩ := hq'
    exact (show False from z).elim
  | ok fl =>
    cases fl with
    | next => exact False.elim hq'
    | brk => exact False.elim hq'
    | cont => exact False.elim hq'
    | ret u =>
      obtain ⟨v, H2, os2, bare2, un2, hok2, rv, rfl, d, d1, d2, rfl⟩ := hq'
      obtain ⟨h2, g2, dr2, t2, os'⟩ := s'
      have ed : (upd (upd (upd H1 (hp.objs.size + 1) (exo (hp.objs.size + 1) C none)) d (exd d [("limit", .int n)])) (hp.objs.size + 1) (exo (hp.objs.size + 1) C (some d))) d = some (exd d [("limit", .int n)]) := by rw [upd_ne d2, upd_same]
      obtain ⟨t0, G, J, kG, gn, hoe, na⟩ := mk_end0 (d2 := dr2) (t2 := t2) I1 z1 kk un2 hok2 os2 bare2 upd_same ed d1
      refine ⟨rv, hp.objs.size + 1, _, _, ⟨G, g2, dr2, t2, os'⟩, _, .ref C, some d, rfl, J, kG, gn, hoe, ⟨rfl, rfl, fun vs y => by cases y; rfl⟩, rfl, rfl, na, rfl, bare2, raises_own T.exC T.tyC, ?_⟩
      have eH : upd (del (upd (upd (upd H1 (hp.objs.size + 1) (exo (hp.objs.size + 1) C none)) d (exd d [("limit", .int n)])) (hp.objs.size + 1) (exo (hp.objs.size + 1) C (some d))) (hp.objs.size + 1)) d (.xd [("limit", .int n)]) = upd H1 d (.xd [("limit", .int n)]) := by
        funext b
        by_cases hb : b = d
        · rw [hb, upd_same, upd_same]
        · rw [upd_ne hb, upd_ne hb]
          by_cases h3 : b = hp.objs.size + 1
          · rw [h3, del_same, hn]
          · rw [del_ne h3, upd_ne h3, upd_ne hb, upd_ne h3]
      rw [eH]
      exact q d d1
end
end R
namespace R
open PySem PySem.Spec L2
open PyProof.Rows hiding St
/-! ### _law_try(lambda: body) -/
/-- how the law tells an exception -/
def nmT (x : Str) : Option Str := ([("InvalidSchedule", "Schedule+"), ("InvalidTrips", "Trips+"), ("InvalidTrip", "Trip+"), ("InvalidTime", "Time+"), ("InvalidIndex", "Index+"), ("InvalidAmount", "Amount+"), ("InvalidRange", "Range+"), ("InvalidLength", "Length+"),
  ("InvalidPeriod", "Period+"), ("InvalidCount", "Count+"), ("NothingToUndo", "Undo+")] : List (Str × Str)).lookup x
/-- .. also the one that keeps a limit -/
def nmA (x : Str) : Option Str := if x = ("TooMany" : Str) then some "Many+" else nmT x
theorem nmA_of {x z : Str} (h : nmT x = some z) : nmA x = some z := by
  unfold nmA
  rw [if_neg]
  · exact h
  · rintro rfl
    rw [show nmT "TooMany" = none by decide +kernel] at h
    cases h
theorem nmA_M : nmA "TooMany" = some "Many+" := if_pos rfl
def toldM (n : Int) : Str := "Many+" ++ (toString n : String)
def dTry (f : Rho → Res Rv) (ρ : Rho) : Res Rv := match f ρ with
  | .ok r ρ1 => match frz r ρ1 with
    | some (d, ρ2) => .ok (.dat (.tuple [.str "told", d])) ρ2
    | none => .stuck
  | .err ⟨x, none⟩ ρ1 => match nmT x with
    | some z => .ok (.dat (.str z)) ρ1
    | none => .stuck
  | .err ⟨x, some n⟩ ρ1 => if x = ("TooMany" : Str) ∧ 0 ≤ n ∧ n ≤ 1000 then .ok (.dat (.str (toldM n))) ρ1 else .stuck
  | .stuck => .stuck
section
variable [Tb]
/-- _law_name_of(e), e the handled exception, of a class that is told by nmT -/
structure NameAt (P : Program) (w : World) (K : PySem.W.Frag) (mg : Str → Option Value) (base : Heap) (j : Nat) : Prop where
  ex : ∃ f : Addr, mg "_law_name_of" = some (.ref f) ∧ PySem.W.keepIn K (.ref f) = true ∧ ∀ (X : Cx) (p : Addr × Obj) (C : Addr) (dd : Option Addr) (x z : Str) (pins : List (Addr × Obj)) (σ : L2.St) (H : Hp) (s : Shared) (Q : VK), X.prog = P → X.w = w → X.K = K → X.mg = mg → X.base = base →
    nmA x = some z → mg x = some (.ref C) → L2N.Zn (.ref C) dd p.2 → (∀ d, dd = some d → ∃ fs, H d = some (.xd fs)) → L2H.Hot1 X.A p → p ∈ X.pn → L2H.RoomH j X.A → Inv X pins σ H s → Tabl H →
    (∀ H', (∀ a o, a ∉ tA → H a = some o → H' a = some o) → Tabl H' → Q (.str z) H') → wpAny (model X.prog X.w) X.A (call (.ref f) [.ref p.1]) (EP X pins σ Q) X.xe s
/-- the classes that the clauses name -/
structure ClsF (K : PySem.W.Frag) (mg : Str → Option Value) : Prop where
  ex : ∃ M R : Addr, mg "TooMany" = some (.ref M) ∧ mg "RollcapError" = some (.ref R) ∧ (∀ (x z : Str) (C : Addr), nmT x = some z → mg x = some (.ref C) → PySem.W.exmOne K (.ref C) (.ref M) = some false ∧ PySem.W.exmOne K (.ref C) (.ref R) = some true) ∧
    PySem.W.exmOne K (.ref M) (.ref M) = some true ∧ XfC K M ∧ PySem.W.findIn K (.ref M) "limit" = some none
  str : mg "str" = none
abbrev NTry : List Str := ["door", "found", "e"]
def tText (a1 a2 a3 a4 b1 b2 b3 b4 b5 b6 b7 c1 c2 c3 d1 d2 d3 d4 d5 d6 d7 : Pos) (e1 e2 e3 e4 e5 e6 e7 e8 e9 e10 : Pos) (j1 j2 j3 : Nat) : List Stmt :=
  [.Assign [.Name "found" a1] (.Constant .none j1 a2) a3,
   .Try [.Assign [.Name "found" b1] (.Tuple [.Constant (.str "told") j2 b2, .Call (.Name "door" b3) [] [] b4] j3 b5) b6]
     [.ExceptHandler (some (.Name "TooMany" c1)) (some "e") [.Assign [.Name "found" e1] (.BinOp (.Call (.Name "_law_name_of" e2) [.Name "e" e3] [] e4) .Add (.Call (.Name "str" e5) [.Attribute (.Name "e" e6) "limit" e7] [] e8) e9) e10] c2, .ExceptHandler (some (.Name "RollcapError" c3)) (some "e") [.Assign [.Name "found" d1] (.Call (.Name "_law_name_of" d2) [.Name "e" d3] [] d4) d5] d6] [] [] d7,
   .Return (some (.Name "found" b7)) a4]

theorem takes0N {X : Cx} : L2N.Takes X (fun _ _ _ _ => False) := fun _ _ x => by
  obtain ⟨_, _, _, _, _, _, _, _, _, _, _, _, _, _, _, _, z⟩ := x
  exact z.elim
/-- the reading of _law_name_of(e) in the suite -/
def tName (mg : Str → Option Value) (a : Addr) (cls : Value) (d : Option Addr) : TE := fun σ H Q => σ[2]? = some (some (.ref a)) ∧ (∀ dd, d = some dd → ∃ fs, H dd = some (.xd fs)) ∧ ∃ (C : Addr) (x z : Str), cls = .ref C ∧ nmA x = some z ∧ mg x = some (.ref C) ∧ Tabl H ∧
  ∀ H', (∀ b o, b ∉ tA → H b = some o → H' b = some o) → Tabl H' → Q (.str z) H'
theorem name_call {Z : Cx} {j : Nat} (NM : NameAt Z.prog Z.w Z.K Z.mg Z.base j) (hr : L2H.RoomH j Z.A) (hN : Z.N = NTry) (hse : Vis Z.env.scope "e") (hg : Gl Z "_law_name_of") {a : Addr} {oe : Obj} {cls : Value} {d : Option Addr} {pn : List (Addr × Obj)} (hz : L2N.Zn cls d oe) (hf : ∃ vs, oe.data = .fields vs) {d2 d3 d4 : Pos}
    (h1 : starEach [.Name "e" d3] Z.env = (false, eval (.Name "e" d3) Z.env) :: starEach [] Z.env) (h2 : (backTo d4 (starEach [] Z.env)).any (·.1) = false) :
    PE (Z.suite a ((a, oe) :: pn)) (.Call (.Name "_law_name_of" d2) [.Name "e" d3] [] d4) (tName Z.mg a cls d) := by
  obtain ⟨f, m1, m2, m3⟩ := NM.ex
  refine ⟨fun pins s σ H Q I h => ?_⟩
  obtain ⟨e2, hx, C, x, z, rfl, e3, e4, tH, q⟩ := h
  have hgS : Gl (Z.suite a ((a, oe) :: pn)) "_law_name_of" := hg
  have m1S : (Z.suite a ((a, oe) :: pn)).mg "_law_name_of" = some (.ref f) := m1
  refine wpAny_Call_Name_kw (ld_glob I hgS m1S ?_)
  have hi : (Z.suite a ((a, oe) :: pn)).N[2]? = some ("e" : Str) := by show Z.N[2]? = _; rw [hN]; rfl
  have pe : PE (Z.suite a ((a, oe) :: pn)) (.Name "e" d3) (tVar 2) := pe_var hi hse
  have pa : PA (Z.suite a ((a, oe) :: pn)) [.Name "e" d3] (tCons (tVar 2) tNil) := pa_cons pe pa_nil h1
  refine PySem.W.callWith_K (h₀ := (Z.suite a ((a, oe) :: pn)).base) I.ok.mod.kin m2 (thn (pa.run d4 pins s σ H (fun vs H1 => vs = [.ref a] ∧ H1 = H) I ⟨.ref a, e2, rfl, rfl⟩) fun us s1 hh => ?_) h1 h2
  obtain ⟨vs, H1, I1, r1, ev, eH⟩ := hh
  subst ev
  rw [eH] at I1
  obtain ⟨u, rfl, ru⟩ := r1.one
  obtain rfl : u = Value.ref a := ru
  refine ⟨I1.kIn, ?_⟩
  obtain ⟨vs, hv⟩ := hf
  exact m3 (Z.suite a ((a, oe) :: pn)) (a, oe) C d x z pins σ H s1 Q rfl rfl rfl rfl rfl e3 e4 hz hx ⟨rfl, vs, hv, hz.2.2 vs hv⟩ List.mem_cons_self ⟨hr.dp, hr.un⟩ I1 tH q
/-- the reading of the suite that tells the name -/
def tSuite (mg : Str → Option Value) : Suite := fun a cls d D σ H => tName mg a cls d σ H fun v H' => D.nx (σ.set 1 (some v)) H'
theorem suite_ok {Z : Cx} {j : Nat} (NM : NameAt Z.prog Z.w Z.K Z.mg Z.base j) (hr : L2H.RoomH j Z.A) (hN : Z.N = NTry) (hsf : Loc Z.env.scope "found") (hff : Z.env.scope.names.lookup ("found" : Str) = some NameKind.local) (hse : Vis Z.env.scope "e") (hg : Gl Z "_law_name_of") {a : Addr} {oe : Obj} {cls : Value} {d : Option Addr} {pn : List (Addr × Obj)} (hz : L2N.Zn cls d oe) (hf : ∃ vs, oe.data = .fields vs) {d1 d2 d3 d4 d5 : Pos}
    (h1 : starEach [.Name "e" d3] Z.env = (false, eval (.Name "e" d3) Z.env) :: starEach [] Z.env) (h2 : (backTo d4 (starEach [] Z.env)).any (·.1) = false) (h3 : swapsWith (.Call (.Name "_law_name_of" d2) [.Name "e" d3] [] d4) (some (.Name "found" d1)) d5.line Z.env = pure false) :
    PSs (Z.suite a ((a, oe) :: pn)) [.Assign [.Name "found" d1] (.Call (.Name "_law_name_of" d2) [.Name "e" d3] [] d4) d5] (tSuite Z.mg a cls d) := by
  have hN' : (Z.suite a ((a, oe) :: pn)).N.Nodup := by show Z.N.Nodup; rw [hN]; decide
  have hi1 : (Z.suite a ((a, oe) :: pn)).N[1]? = some ("found" : Str) := by show Z.N[1]? = _; rw [hN]; rfl
  exact pss_one (ps_set (pos := d5) (pos' := d1) hN' hi1 hsf (name_call NM hr hN hse hg hz hf h1 h2) h3 (.inr hff))
/-- .. of the suite that tells the limit, too -/
def tSuiteP (mg : Str → Option Value) (M : Addr) : Suite := fun a cls d D σ H => σ[2]? = some (some (.ref a)) ∧ cls = .ref M ∧ mg "TooMany" = some (.ref M) ∧ Tabl H ∧ ∃ (dd : Addr) (n : Int), d = some dd ∧ H dd = some (.xd [("limit", .int n)]) ∧ 0 ≤ n ∧ n ≤ 1000 ∧
  ∀ H', (∀ b o, b ∉ tA → H b = some o → H' b = some o) → Tabl H' → D.nx (σ.set 1 (some (.str (toldM n)))) H'
theorem toldM_len {n : Int} (h0 : 0 ≤ n) (h1 : n ≤ 1000) : ("Many+" : Str).length + (toString n : Str).length ≤ sizeLine := by
  have H : ∀ k : Fin 1001, ("Many+" : Str).length + ((toString (k.val : Int) : String) : Str).length ≤ 1000 := by decide +kernel
  have := H ⟨n.toNat, by omega⟩
  rw [show ((n.toNat : Nat) : Int) = n by omega] at this
  rw [sizeLine_eq]
  omega
theorem suiteP_ok {Z : Cx} {j : Nat} (NM : NameAt Z.prog Z.w Z.K Z.mg Z.base j) (hr : L2H.RoomH j Z.A) (hN : Z.N = NTry) (hsf : Loc Z.env.scope "found") (hff : Z.env.scope.names.lookup ("found" : Str) = some NameKind.local) (hse : Vis Z.env.scope "e") (hg : Gl Z "_law_name_of") (hgs : Gl Z "str") (ms : Z.mg "str" = none) {a M : Addr} (T : XfC Z.K M) (hno : PySem.W.findIn Z.K (.ref M) "limit" = some none) {oe : Obj} {cls : Value} {d : Option Addr} {pn : List (Addr × Obj)} (hz : L2N.Zn cls d oe) (hf : ∃ vs, oe.data = .fields vs) {e1 e2 e3 e4 e5 e6 e7 e8 e9 e10 : Pos}
    (h1 : starEach [.Name "e" e3] Z.env = (false, eval (.Name "e" e3) Z.env) :: starEach [] Z.env) (h2 : (backTo e4 (starEach [] Z.env)).any (·.1) = false)
    (h4 : starEach [.Attribute (.Name "e" e6) "limit" e7] Z.env = (false, eval (.Attribute (.Name "e" e6) "limit" e7) Z.env) :: starEach [] Z.env) (h5 : (backTo e8 (starEach [] Z.env)).any (·.1) = false) (h6 : attributeBase (.Name "e" e6) "limit" Z.env (eval (.Name "e" e6) Z.env) = eval (.Name "e" e6) Z.env)
    (h3 : swapsWith (.BinOp (.Call (.Name "_law_name_of" e2) [.Name "e" e3] [] e4) .Add (.Call (.Name "str" e5) [.Attribute (.Name "e" e6) "limit" e7] [] e8) e9) (some (.Name "found" e1)) e10.line Z.env = pure false) :
    PSs (Z.suite a ((a, oe) :: pn)) [.Assign [.Name "found" e1] (.BinOp (.Call (.Name "_law_name_of" e2) [.Name "e" e3] [] e4) .Add (.Call (.Name "str" e5) [.Attribute (.Name "e" e6) "limit" e7] [] e8) e9) e10] (tSuiteP Z.mg M a cls d) := by
  have hN' : (Z.suite a ((a, oe) :: pn)).N.Nodup := by show Z.N.Nodup; rw [hN]; decide
  have hi1 : (Z.suite a ((a, oe) :: pn)).N[1]? = some ("found" : Str) := by show Z.N[1]? = _; rw [hN]; rfl
  have hi2 : (Z.suite a ((a, oe) :: pn)).N[2]? = some ("e" : Str) := by show Z.N[2]? = _; rw [hN]; rfl
  have nm := name_call (a := a) (pn := pn) (d2 := e2) NM hr hN hse hg hz hf h1 h2
  have lm : PE (Z.suite a ((a, oe) :: pn)) (.Attribute (.Name "e" e6) "limit" e7) (tXf a cls d M "limit" (tVar 2)) := pe_xf T hno hz.zc hf (pe_var hi2 hse) h6
  have st : PE (Z.suite a ((a, oe) :: pn)) (.Call (.Name "str" e5) [.Attribute (.Name "e" e6) "limit" e7] [] e8) _ := pe_callTy call_str_int hgs ms PyProof.Rows.boot_str (pa_cons lm pa_nil h4) (by decide) (by decide) h4 h5
  have ps := pss_one (ps_set (pos := e10) (pos' := e1) hN' hi1 hsf (pe_op (pos := e9) op_add_str nm st) h3 (.inr hff))
  refine ⟨fun pins s σ H D I h => ?_⟩
  obtain ⟨g1, g2, g3, tH, dd, n, g4, g5, n0, n1, q⟩ := h
  refine ps.run pins s σ H D I ?_
  refine ⟨g1, fun d' e => by rw [g4] at e; cases e; exact ⟨_, g5⟩, M, "TooMany", "Many+", g2, nmA_M, g3, tH, fun H' gr tH' => ?_⟩
  have nt : dd ∉ tA := fun m => by
    obtain ⟨ps, e⟩ := tab_at tH m
    rw [g5] at e; cases e
  refine ⟨.ref a, g1, rfl, g2, dd, _, .int n, g4, gr _ _ nt g5, rfl, n, rfl, ?_, _, _, rfl, rfl, toldM_len n0 n1, q H' gr tH'⟩
  have : n.natAbs ≤ 1000 := by omega
  calc n.natAbs.log2 ≤ n.natAbs := Nat.log2_le_self _
    _ < 1920 := by omega
theorem se_try {X : Cx} {W : WX} {st : Stmt} {k j : Nat} {c P : Addr} {params : Arguments} {body : Expr} {scope : Scope} {fb : Rho → Res Rv} {p lpos pos : Pos} {a1 a2 a3 a4 b1 b2 b3 b4 b5 b6 b7 c1 c2 c3 d1 d2 d3 d4 d5 d6 d7 e1 e2 e3 e4 e5 e6 e7 e8 e9 e10 : Pos} {j1 j2 j3 : Nat}
    (DT : FnDef X.K X.mg "_law_try" st) (ht : defBody st = tText a1 a2 a3 a4 b1 b2 b3 b4 b5 b6 b7 c1 c2 c3 d1 d2 d3 d4 d5 d6 d7 e1 e2 e3 e4 e5 e6 e7 e8 e9 e10 j1 j2 j3) (ST : FnScope NTry ["door"] (defScope st)) (hb : BindC "_law_try" st ["door"]) (NM : NameAt X.prog X.w X.K X.mg X.base j) (CF : ClsF X.K X.mg)
    (l0 : (defScope st).names.lookup ("door" : Str) = some NameKind.local) (l1 : (defScope st).names.lookup ("found" : Str) = some NameKind.local) (l2 : (defScope st).names.lookup ("e" : Str) = some NameKind.local) (g1 : (defScope st).names.lookup ("TooMany" : Str) = some NameKind.globalImplicit) (g2 : (defScope st).names.lookup ("RollcapError" : Str) = some NameKind.globalImplicit) (g3 : (defScope st).names.lookup ("_law_name_of" : Str) = some NameKind.globalImplicit) (g4 : (defScope st).names.lookup ("str" : Str) = some NameKind.globalImplicit)
    (hg : Gl X "_law_try") (TB : LamX.TabB X.base X.mg c P) (hcode : X.env.code = .ref c) (hmT : (P, X.env.qual ++ "<lambda>") ∈ Tb.tabs) (hr : Room (k + 2) X.A) (hj : j ≤ k) (L : LamX.LamS X.env.scope scope) (hdef : defaultsOf params X.env = ([], []))
    (hbind : ∀ (q : Str) (cl : List (Str × Addr)) (pm cv ctv : Value), bindArgs (PySem.W.kla_fn "<lambda>" q params body scope cl pm cv ctv) ⟨[], []⟩ = pure [])
    (hbody : ∀ (A : Around) (outer : List Env) (s : Shared) (H : Hp) (E : XK) (f c' : Addr), Room k (A.deeper (LamX.lamEnv X scope s.heap.objs.size f c')) → SE (lamN X A outer s H E scope f c') (WofE E) body fb) :
    SE X W (.Call (.Name "_law_try" p) [.Lambda params body scope lpos] [] pos) (dTry fb) := .mk fun Hb fx B ρ σ H Q A q => by
  obtain ⟨g, fd, hm, F, ns⟩ := DT
  have Bd := F.binds hb
  obtain ⟨oc, od, kV, doc, pm, an, cdv, ct, osl, rfl, lk, hcd⟩ := F.ex
  obtain ⟨M, R, hM, hR, hcls, hMM, hMx, hMl⟩ := CF.ex
  refine wpE_len fun pins s I => ?_
  refine wpAny_Call_Name_kw (ld_glob I hg hm ?_)
  refine PySem.W.callWith_K (h₀ := X.base) I.ok.mod.kin F.kp ?_ (by rfl) (by rfl)
  show wpAny _ _ (spliced ((false, eval (.Lambda params body scope lpos) X.env) :: backTo pos (starEach [] X.env))) _ _ s
  refine Calls.spliced_cons (lam_new I TB hcode hmT A.tab hdef (L.has I.ok) fun f c' pm' ctv H1 s' I1 gr T1 hf hfn hfr hco => ?_)
  refine Calls.spliced_nil ⟨I1.kIn, ?_⟩
  have A1 := A.growT gr T1
  have b0 := Bd s' [.ref f] I1.kIn rfl
  rw [List.append_nil] at b0
  refine wpAny_call (codeAny_mono (R := CR L2.CX0 X.stack X.prog X.w H1 s' (fun v H' => LenOk X.K H' → Q v H') L2.E0) ?_ fun r s2 hq => ?_)
  · refine LamX.run_ofS (k := k + 1) (N := NTry) (ps := ["door"]) (us := [.ref f]) (vs := [.ref f]) lk hcd ST hr I1.env0 b0 (.cons rfl .nil) rfl fun hr' => ?_
    refine ⟨_, (pss_wp (X := (cxOf L2.CX0 X.prog X.w X.K X.mg X.base NTry "_law_try" (defScope st) g cdv X.A X.stack s' H1 L2.E0).nox)).nox, ?_⟩
    rw [ht]
    have nd : NTry.Nodup := by decide
    let Ex : XK := fun cls d H' => ∃ (x : Exn) (ρ1 : Rho) (C : Addr), cls = .ref C ∧ fb ρ = .err x ρ1 ∧ LenOk X.K H' ∧ Abs X.K Hb fx B ρ1 σ H' ∧ ExcAt X.mg H' x C d
    let TW : WX → TE := fun W' σZ HZ Q' => σZ[0]? = some (some (.ref f)) ∧ HZ c' = some (LamX.CodeO c' (X.env.qual ++ "<lambda>")) ∧ (∀ cls d H', Ex cls d H' → W' cls d σZ H') ∧
      ∀ (A' : Around) (outer : List Env) (s0 : Shared) (H0 : Hp), Room k (A'.deeper (LamX.lamEnv X scope s0.heap.objs.size f c')) → wpE (lamN X A' outer s0 H0 Ex scope f c') body σ HZ Q'
    have bodyOk : ∀ (W' : WX) (pn : List (Addr × Obj)) (xe : Value → Shared → Prop), L2N.Takes ((cxOf L2.CX0 X.prog X.w X.K X.mg X.base NTry "_law_try" (defScope st) g cdv X.A X.stack s' H1 L2.E0).nox.tr pn xe) W' →
        PSs ((cxOf L2.CX0 X.prog X.w X.K X.mg X.base NTry "_law_try" (defScope st) g cdv X.A X.stack s' H1 L2.E0).nox.tr pn xe) [.Assign [.Name "found" b1] (.Tuple [.Constant (.str "told") j2 b2, .Call (.Name "door" b3) [] [] b4] j3 b5) b6] (tAsg (tTup (tCons (tC (.str "told")) (tCons (TW W') tNil))) (gName 1)) := fun W' pn xe tk' =>
      pss_one (ps_set nd rfl (.inl l1) (pe_tup (pa_cons pe_str (pa_cons (act_ok (CXg := L2.CX0) (Eg := L2.E0) (i := 0) I1 L hf hfn hfr (hbind _ _ _ _ _) tk' hr' rfl (.inl l0)) pa_nil))) (by rfl) (.inr l1))
    have NM' : NameAt (cxOf L2.CX0 X.prog X.w X.K X.mg X.base NTry "_law_try" (defScope st) g cdv X.A X.stack s' H1 L2.E0).nox.prog X.w X.K X.mg X.base j := NM
    have cl : Clauses (cxOf L2.CX0 X.prog X.w X.K X.mg X.base NTry "_law_try" (defScope st) g cdv X.A X.stack s' H1 L2.E0).nox "e"
        [.ExceptHandler (some (.Name "TooMany" c1)) (some "e") [.Assign [.Name "found" e1] (.BinOp (.Call (.Name "_law_name_of" e2) [.Name "e" e3] [] e4) .Add (.Call (.Name "str" e5) [.Attribute (.Name "e" e6) "limit" e7] [] e8) e9) e10] c2, .ExceptHandler (some (.Name "RollcapError" c3)) (some "e") [.Assign [.Name "found" d1] (.Call (.Name "_law_name_of" d2) [.Name "e" d3] [] d4) d5] d6] [(.ref M, tSuiteP X.mg M), (.ref R, tSuite X.mg)] :=
      .cons ⟨g1, by decide, .inl hM⟩ (fun a oe cls d pn hz hf => suiteP_ok (Z := (cxOf L2.CX0 X.prog X.w X.K X.mg X.base NTry "_law_try" (defScope st) g cdv X.A X.stack s' H1 L2.E0).nox) NM' (L2H.roomH_of (hr'.mono (by omega))) rfl (.inl l1) l1 (.inl l2) g3 g4 CF.str hMx hMl hz hf rfl rfl rfl rfl rfl rfl)
        (.cons ⟨g2, by decide, .inl hR⟩ (fun a oe cls d pn hz hf => suite_ok (Z := (cxOf L2.CX0 X.prog X.w X.K X.mg X.base NTry "_law_try" (defScope st) g cdv X.A X.stack s' H1 L2.E0).nox) NM' (L2H.roomH_of (hr'.mono (by omega))) rfl (.inl l1) l1 (.inl l2) g3 hz hf rfl rfl rfl) .nil)
    refine wp_pss (pss_cons (ps_set (X := (cxOf L2.CX0 X.prog X.w X.K X.mg X.base NTry "_law_try" (defScope st) g cdv X.A X.stack s' H1 L2.E0).nox) nd (i := 1) rfl (.inl l1) pe_non (by rfl) (.inr l1)) (pss_cons (ps_tries (X := (cxOf L2.CX0 X.prog X.w X.K X.mg X.base NTry "_law_try" (defScope st) g cdv X.A X.stack s' H1 L2.E0).nox) (i := 2) (n := "e") (Wout := fun _ _ _ _ => False) rfl rfl nd rfl l2 takes0N bodyOk cl) (pss_one (ps_ret (pe_var (i := 1) rfl (.inl l1)))))) ?_
    refine (show _ ∧ _ ∧ _ ∧ _ from ⟨rfl, hco, fun cls d H' hE => ?_, fun A' outer' s0 H0 hr3 => ?_⟩)
    · obtain ⟨⟨nm, pl⟩, ρ1, C, rfl, e1, l', A', m, ex⟩ := hE
      unfold dTry at q
      rw [e1] at q
      cases pl with
      | some n =>
        dsimp only at q
        by_cases hx : nm = ("TooMany" : Str) ∧ 0 ≤ n ∧ n ≤ 1000
        · rw [if_pos hx] at q
          obtain ⟨rfl, n0, n1⟩ := hx
          have m : X.mg "TooMany" = some (.ref C) := m
          have eC : C = M := by rw [hM] at m; cases m; rfl
          subst eC
          cases d with
          | none => exact ex.elim
          | some dd =>
            refine ⟨true, hMM, fun _ a na => ⟨rfl, rfl, hM, A'.tab, dd, n, rfl, ex, n0, n1, fun H2 gr2 t2 => ?_⟩, fun h => by cases h⟩
            exact ⟨.str (toldM n), rfl, fun ll => q _ _ ll (A'.growT gr2 t2) (.str _)⟩
        · rw [if_neg hx] at q; exact q.elim
      | none =>
        dsimp only at q
        cases e2 : nmT nm with
        | none => rw [e2] at q; exact q.elim
        | some z =>
          rw [e2] at q
          cases d with
          | some _ => exact ex.elim
          | none =>
            obtain ⟨k1, k2⟩ := hcls nm z C e2 m
            refine ⟨false, k1, (fun h => by cases h), fun _ => ⟨true, k2, fun _ a na => ?_, fun h => by cases h⟩⟩
            refine ⟨rfl, (fun _ h => by cases h), C, nm, z, rfl, nmA_of e2, m, A'.tab, fun H2 gr2 t2 => ?_⟩
            exact ⟨.str z, rfl, fun ll => q _ _ ll (A'.growT gr2 t2) (.str _)⟩
    · refine hbody A' outer' s0 H0 Ex f c' hr3 Hb fx B ρ σ H1 _ A1 ?_
      unfold dTry at q
      cases e1 : fb ρ with
      | stuck => rw [e1] at q; exact q.elim
      | err x ρ1 => exact fun H' C dd l' A' ex => ⟨x, ρ1, C, rfl, e1, l', A', ex⟩
      | ok r ρ1 =>
        rw [e1] at q
        dsimp only at q
        cases e2 : frz r ρ1 with
        | none => rw [e2] at q; exact q.elim
        | some y =>
          obtain ⟨d, ρ2⟩ := y
          rw [e2] at q
          intro v H2 l2 A2 r2
          obtain ⟨A3, q3, _⟩ := frz_ok A2 r2 e2
          refine ⟨by show 2 ≤ sizeLine; rw [sizeLine_eq]; decide, fun pp hp => ⟨.ref pp, rfl, fun ll => ?_⟩⟩
          have o : Outc H2 (Bad fx B ρ2 σ) (.dat (.tuple [.str "told", d])) (.ref pp) (upd H2 pp (.tup [.str "told", v])) := .tup hp (.cons (.str _) (.cons q3 .nil))
          obtain ⟨A4, r4⟩ := o.ok A3
          exact q _ _ ll A4 r4
  · cases r with
    | error e => exact (show False from hq).elim
    | ok fl =>
      cases fl with
      | ret u => exact I1.after hq
      | next => exact False.elim hq
      | brk => exact False.elim hq
      | cont => exact False.elim hq
end
end R
namespace R
open PySem PySem.Spec L2
open PyProof.Rows hiding St
/-! ### what the written part says of the exception classes, by one word -/
def adr (K : PySem.W.Frag) (x : Str) : Option Addr := match PySem.W.nsIn K mainGlobals x with
  | some (some (.ref C)) => some C
  | _ => none
def clsAll : List Str := ["InvalidSchedule", "InvalidTrips", "InvalidTrip", "InvalidTime", "InvalidIndex", "InvalidAmount", "InvalidRange", "InvalidLength", "InvalidPeriod", "InvalidCount", "NothingToUndo"]
def clsM : List Str := clsAll ++ [("TooMany" : Str)]
def exB (K : PySem.W.Frag) (C : Addr) : Bool :=
  PySem.W.excIn K C [.type "ValueError", .type "Exception", .type "BaseException", .type "object"] "ValueError.__new__" && (PySem.W.keepIn K (.ref C) && (decide (PySem.W.subIn K (.ref C) (.type "BaseException") = some true) && (decide (PySem.W.typeIn K (.ref C) = some (.type "type")) &&
  (decide (PySem.W.findIn K (.ref C) "__getattribute__" = some (some (.builtin "BaseException.__getattribute__"))) && (decide (PySem.W.findIn K (.ref C) "__getattr__" = some none) && (PySem.W.hasDictIn K C && (decide (PySem.W.findIn K (.ref C) "__class__" = some (some (.builtin "object.__class__"))) &&
  (decide (PySem.W.specialIn K (.builtin "object.__class__") "__get__" = some (some (.builtin "getset_descriptor.__get__"))) && (decide (PySem.W.takesIn K (.builtin "object.__class__") = some true) && decide (PySem.W.mroIn K C (.type "object") = some true))))))))))
def clsB1 (K : PySem.W.Frag) (M R : Addr) (x : Str) : Bool := match adr K x with
  | some C => exB K C && (decide (PySem.W.exmOne K (.ref C) (.ref M) = some false) && (decide (PySem.W.exmOne K (.ref C) (.ref R) = some true) && (decide (PySem.W.kitOne K (.ref C) (.type "ValueError") = some true) &&
      clsM.all fun y => match adr K y with
        | some D => decide (PySem.W.kitOne K (.ref C) (.ref D) = some (decide (x = y)))
        | none => false)))
  | none => false
/-- the class that keeps a limit, as an exception that is told -/
def manB (K : PySem.W.Frag) (M : Addr) : Bool :=
  decide (PySem.W.findIn K (.ref M) "__getattribute__" = some (some (.builtin "BaseException.__getattribute__"))) && (decide (PySem.W.findIn K (.ref M) "__getattr__" = some none) && (decide (PySem.W.subIn K (.ref M) (.type "BaseException") = some true) && (PySem.W.hasDictIn K M &&
  (decide (PySem.W.findIn K (.ref M) "__class__" = some (some (.builtin "object.__class__"))) && (decide (PySem.W.specialIn K (.builtin "object.__class__") "__get__" = some (some (.builtin "getset_descriptor.__get__"))) && (decide (PySem.W.takesIn K (.builtin "object.__class__") = some true) && (decide (PySem.W.mroIn K M (.type "object") = some true) &&
  (decide (PySem.W.exmOne K (.ref M) (.ref M) = some true) && (decide (PySem.W.findIn K (.ref M) "limit" = some none) && (decide (PySem.W.kitOne K (.ref M) (.type "ValueError") = some true) && clsM.all fun y => match adr K y with
    | some D => decide (PySem.W.kitOne K (.ref M) (.ref D) = some (decide (("TooMany" : Str) = y)))
    | none => false))))))))))
def clsB (K : PySem.W.Frag) : Bool := match adr K "TooMany", adr K "RollcapError" with
  | some M, some R => clsAll.all (clsB1 K M R) && manB K M
  | _, _ => false
theorem adr_ok {K : PySem.W.Frag} {h : Heap} {mg : Str → Option Value} {x : Str} {C : Addr} (X : K.In h) (G : h.Ns mainGlobals mg) (e : adr K x = some C) : mg x = some (.ref C) := by
  unfold adr at e
  split at e
  · rename_i C' e'
    cases e
    exact PySem.W.mg_of X G e'
  · cases e
/-- what isinstance(e, y) says, e of the class x -/
def bsOf (x y : Str) : Bool := decide (x = y) || decide (y = ("ValueError" : Str))
structure NmF (K : PySem.W.Frag) (mg : Str → Option Value) (C : Addr) (bs : Str → Bool) : Prop where
  T : ExcC K C
  own : ∀ y ∈ clsM, ∃ D : Addr, mg y = some (.ref D) ∧ PySem.W.kitOne K (.ref C) (.ref D) = some (bs y)
  ve : PySem.W.kitOne K (.ref C) (.type "ValueError") = some (bs "ValueError")
structure ClsA (K : PySem.W.Frag) (mg : Str → Option Value) : Prop where
  F : ClsF K mg
  R : ∀ x ∈ clsAll, RCls K mg x
  N : ∀ (x z : Str) (C : Addr), nmA x = some z → mg x = some (.ref C) → NmF K mg C (bsOf x)
theorem nmT_mem {x z : Str} (h : nmT x = some z) : x ∈ clsAll := by
  unfold nmT at h
  exact (List.mem_map (f := fun p : Str × Str => p.1)).mpr ⟨_, PySem.mem_of_lookup h, rfl⟩
theorem cls_of {K : PySem.W.Frag} {h : Heap} {mg : Str → Option Value} (X : K.In h) (G : h.Ns mainGlobals mg) (hstr : mg "str" = none) (e : clsB K = true) : ClsA K mg := by
  unfold clsB at e
  cases eM : adr K "TooMany" with
  | none => rw [eM] at e; cases e
  | some M =>
    cases eR : adr K "RollcapError" with
    | none => rw [eM, eR] at e; cases e
    | some R =>
      rw [eM, eR] at e
      have e : (clsAll.all (clsB1 K M R) && manB K M) = true := e
      rw [Bool.and_eq_true] at e
      obtain ⟨e, eman⟩ := e
      unfold manB at eman
      simp only [Bool.and_eq_true, decide_eq_true_eq] at eman
      obtain ⟨u1, u2, u3, u4, u5, u6, u7, u8, u9, u10, u11, u12⟩ := eman
      have one : ∀ x ∈ clsAll, ∃ C, adr K x = some C ∧ exB K C = true ∧ PySem.W.exmOne K (.ref C) (.ref M) = some false ∧ PySem.W.exmOne K (.ref C) (.ref R) = some true ∧ PySem.W.kitOne K (.ref C) (.type "ValueError") = some true ∧
          ∀ y ∈ clsM, ∃ D, adr K y = some D ∧ PySem.W.kitOne K (.ref C) (.ref D) = some (decide (x = y)) := fun x hx => by
        have q := List.all_eq_true.mp e x hx
        unfold clsB1 at q
        cases eC : adr K x with
        | none => rw [eC] at q; cases q
        | some C =>
          rw [eC] at q
          simp only [Bool.and_eq_true, decide_eq_true_eq] at q
          obtain ⟨q1, q2, q3, q4, q5⟩ := q
          refine ⟨C, rfl, q1, q2, q3, q4, fun y hy => ?_⟩
          have q6 := List.all_eq_true.mp q5 y hy
          cases eD : adr K y with
          | none => rw [eD] at q6; cases q6
          | some D => rw [eD] at q6; exact ⟨D, rfl, of_decide_eq_true q6⟩
      have at_ : ∀ {x : Str} {C C' : Addr}, adr K x = some C → mg x = some (.ref C') → C' = C := fun {x C C'} a b => by
        have := adr_ok X G a
        rw [b] at this
        cases this; rfl
      have nv : ∀ y ∈ clsM, decide (y = ("ValueError" : Str)) = false := by decide +kernel
      refine ⟨⟨⟨M, R, adr_ok X G eM, adr_ok X G eR, fun x z C hn hm => ?_, u9, ⟨u1, u2, u3, u4⟩, u10⟩, hstr⟩, fun x hx => ?_, fun x z C hn hm => ?_⟩
      · obtain ⟨C', a, _, b, c, _⟩ := one x (nmT_mem hn)
        rw [at_ a hm]; exact ⟨b, c⟩
      · obtain ⟨C', a, q, _⟩ := one x hx
        unfold exB at q
        simp only [Bool.and_eq_true, decide_eq_true_eq] at q
        exact ⟨C', adr_ok X G a, q.1, q.2.1, q.2.2.1, q.2.2.2.1⟩
      · by_cases hM : x = ("TooMany" : Str)
        · subst hM
          rw [at_ eM hm]
          refine ⟨⟨u1, u2, u3, u4, u5, u6, u7, u8⟩, fun y hy => ?_, ?_⟩
          · have q6 := List.all_eq_true.mp u12 y hy
            cases eD : adr K y with
            | none => rw [eD] at q6; cases q6
            | some D =>
              rw [eD] at q6
              refine ⟨D, adr_ok X G eD, ?_⟩
              unfold bsOf
              rw [nv y hy, Bool.or_false]
              exact of_decide_eq_true q6
          · unfold bsOf
            rw [show decide (("ValueError" : Str) = "ValueError") = true from decide_eq_true rfl, Bool.or_true]; exact u11
        · have hn : nmT x = some z := by
            unfold nmA at hn
            rwa [if_neg hM] at hn
          obtain ⟨C', a, q, _, _, v, o⟩ := one x (nmT_mem hn)
          rw [at_ a hm]
          unfold exB at q
          simp only [Bool.and_eq_true, decide_eq_true_eq] at q
          obtain ⟨q1, q2, q3, q4, q5, q6, q7, q8, q9, q10, q11⟩ := q
          refine ⟨⟨q5, q6, q3, q7, q8, q9, q10, q11⟩, fun y hy => ?_, ?_⟩
          · obtain ⟨D, d1, d2⟩ := o y hy
            refine ⟨D, adr_ok X G d1, ?_⟩
            unfold bsOf
            rw [nv y hy, Bool.or_false]; exact d2
          · unfold bsOf
            rw [show decide (("ValueError" : Str) = "ValueError") = true from decide_eq_true rfl, Bool.or_true]; exact v
/-! ### _law_name_of -/
theorem name_at [T : Tb] {P : Program} {w : World} {K : PySem.W.Frag} {mg : Str → Option Value} {base : Heap} {st : Stmt} {N : List Str} {k n : Nat} {b : Addr → (Str → Bool) → Rho → Ou} (D : FnDef K mg "_law_name_of" st) (S : FnScope N ["e"] (defScope st)) (hn : N.length = n) (hb : BindC "_law_name_of" st ["e"]) (CL : ClsA K mg)
    (hbody : ∀ (T' : Tb) (f : Addr) (cdv : Value) (A : Around) (outer : List Env) (s : Shared) (H : Hp) (p : Addr × Obj) (C : Addr) (dd : Option Addr) (bs : Str → Bool), NmF K mg C bs → L2N.Zn (.ref C) dd p.2 → (∀ d, dd = some d → ∃ fs, (d, fs) ∈ T'.xds) → L2H.Hot1 A p → SSs (L2H.cxH L2.CX0 P w K mg base N "_law_name_of" (defScope st) f cdv A outer s H L2.E0 p) W0 (defBody st) (b p.1 bs))
    (hval : ∀ (x z : Str) (a : Addr), nmA x = some z → ∃ ρ', b a (bsOf x) (.pv (fun v => v = .ref a) :: List.replicate (n - 1) .un) = .ret (.dat (.str z)) ρ') : NameAt P w K mg base (k + 1) := by
  obtain ⟨f, fd, hm, F, ns⟩ := D
  subst hn
  refine ⟨f, hm, F.kp, fun X p C dd x z pins σ H s Q hP hw hK hmg hB hx hC hz hxd hot hp hr I tH q => ?_⟩
  obtain ⟨oc, od, kV, doc, pm, an, cdv, ct, osl, rfl, lk, hcd⟩ := F.ex
  subst hP hw hK hmg hB
  refine run_hot (k := k) lk hcd S (fun us hl => hb _ _ _ _ _ _ us hl) I hot hp hr fun hr' => ?_
  obtain ⟨ρ', e⟩ := hval x z p.1 hx
  obtain ⟨xs, hxs, hxs2⟩ : ∃ xs : List (Addr × List (Str × V)), (∀ d, dd = some d → ∃ fs, (d, fs) ∈ xs) ∧ ∀ y ∈ xs, H y.1 = some (.xd y.2) := by
    cases dd with
    | none => exact ⟨[], (fun _ h => by cases h), fun _ h => by cases h⟩
    | some d =>
      obtain ⟨fs, ed⟩ := hxd d rfl
      exact ⟨[(d, fs)], (fun d' h => by cases h; exact ⟨fs, List.mem_singleton.mpr rfl⟩), fun y h => by rw [List.mem_singleton.mp h]; exact ed⟩
  have nt : ∀ y ∈ T.xds, y.1 ∉ (tA : List Addr) := fun y hy m => by
    obtain ⟨ps, e⟩ := tab_at tH m
    rw [tH.2 y hy] at e; cases e
  have tL := tH.2
  let T' : Tb := ⟨T.tabs, T.nd, xs⟩
  have tH' : @Tabl T' H := ⟨tH.1, hxs2⟩
  have A0 : @Abs T' X.K (hide H (· ∈ [] ++ @tA T')) ([] ++ @tA T') (fun _ => False) ([.pv (fun v => v = .ref p.1)] ++ List.replicate (N.length - 1) .un) (start N [.ref p.1]) H :=
    abs_start (args := [.pv (fun v => v = .ref p.1)]) (by have := congrArg List.length S.pre; rw [List.length_take] at this; simp at this ⊢; omega) rfl (fun i sl h => by
      cases i with
      | zero => cases h; exact ⟨rfl, .ref p.1, rfl, rfl⟩
      | succ i => simp at h) rfl (Nat.zero_le _) (fun _ h => by cases h) (fun _ h => h.elim) tH' (fun i j k l m h => by
      cases i with
      | zero => cases h
      | succ i => simp at h)
  refine hbody T' f cdv X.A X.stack s H p C dd (bsOf x) (CL.N x z C hx hC) hz hxs hot _ _ _ _ _ H _ A0 ?_
  rw [show ([.pv (fun v => v = .ref p.1)] ++ List.replicate (N.length - 1) .un : Rho) = .pv (fun v => v = .ref p.1) :: List.replicate (N.length - 1) .un from rfl, e]
  intro v σ' H' l' A' rv
  cases rv
  have grow : ∀ a o, a ∉ (tA : List Addr) → H a = some o → H' a = some o := fun a o n e2 => by
    have := A'.same a o (hide_eq.mpr ⟨by simpa using n, e2⟩)
    exact (hide_eq.mp this).2
  refine q H' grow ⟨A'.tab.1, fun y hy => ?_⟩
  exact grow _ _ (nt y hy) (tL y hy)
end R
namespace R
open PySem PySem.Spec L2
open PyProof.Rows hiding St
/-- an own exception class, by one word -/
def rclB (K : PySem.W.Frag) (x : Str) : Bool := match adr K x with
  | some C => PySem.W.excIn K C [.type "ValueError", .type "Exception", .type "BaseException", .type "object"] "ValueError.__new__" && (PySem.W.keepIn K (.ref C) && (decide (PySem.W.subIn K (.ref C) (.type "BaseException") = some true) && decide (PySem.W.typeIn K (.ref C) = some (.type "type"))))
  | none => false
theorem rcl_of {K : PySem.W.Frag} {h : Heap} {mg : Str → Option Value} {x : Str} (X : K.In h) (G : h.Ns mainGlobals mg) (e : rclB K x = true) : RCls K mg x := by
  unfold rclB at e
  cases eC : adr K x with
  | none => rw [eC] at e; cases e
  | some C =>
    rw [eC] at e
    simp only [Bool.and_eq_true, decide_eq_true_eq] at e
    exact ⟨C, adr_ok X G eC, e.1, e.2.1, e.2.2.1, e.2.2.2⟩
theorem bt_ValueError : bootBuiltins "ValueError" = some (.type "ValueError") := by decide +kernel
end R
namespace R
open PySem PySem.Spec L2
open PyProof.Rows hiding St
/-! ### the end, the law making lambdas -/
def isStr : Value → Bool
  | .str _ _ => true
  | _ => false
def isInt : Value → Bool
  | .int _ _ => true
  | _ => false
def isBool : Value → Bool
  | .bool _ => true
  | _ => false
/-- the code object at c, its table at P -/
def hdO (o : Obj) (vs : Array Value) (c P : Addr) : Bool := decide (o.cls = .type "code") && (decide (vs[11]? = some (.ref P)) && (decide (vs.getD 11 .none = .ref P) && (isStr (vs.getD 18 .none) && (isInt (vs.getD 7 .none) && (isBool (vs.getD 9 .none) && (isInt (vs.getD 10 .none) && decide (c ≠ P)))))))
theorem hd_of {K : PySem.W.Frag} {h : Heap} {c P : Addr} {e : Value} {dd : Option Addr} {vs : Array Value} {sl : Array (Option Value)} (X : K.In h) (l : K.lookup c = some ⟨e, dd, .fields vs, sl⟩) (q : hdO ⟨e, dd, .fields vs, sl⟩ vs c P = true) : PySem.W.CodeHd h c P := by
  unfold hdO at q
  simp only [Bool.and_eq_true, decide_eq_true_eq] at q
  obtain ⟨q1, q2, q3, q4, q5, q6, q7, q8⟩ := q
  obtain ⟨f, tf, e18⟩ : ∃ f t, vs.getD 18 .none = .str f t := by
    revert q4
    generalize vs.getD 18 .none = v
    intro q
    cases v <;> first | exact ⟨_, _, rfl⟩ | cases q
  obtain ⟨g, tg, e7⟩ : ∃ f t, vs.getD 7 .none = .int f t := by
    revert q5
    generalize vs.getD 7 .none = v
    intro q
    cases v <;> first | exact ⟨_, _, rfl⟩ | cases q
  obtain ⟨b, e9⟩ : ∃ f, vs.getD 9 .none = .bool f := by
    revert q6
    generalize vs.getD 9 .none = v
    intro q
    cases v <;> first | exact ⟨_, rfl⟩ | cases q
  obtain ⟨x, tx, e10⟩ : ∃ f t, vs.getD 10 .none = .int f t := by
    revert q7
    generalize vs.getD 10 .none = v
    intro q
    cases v <;> first | exact ⟨_, _, rfl⟩ | cases q
  exact ⟨_, vs, f, tf, g, tg, b, x, tx, X _ _ l, q1, rfl, q2, q3, e18, e7, e9, e10, q8⟩
abbrev lamQ (x : Str) : Str := x ++ ".<locals>." ++ "<lambda>"
theorem law_mkT {l : PySem.W.OpenLaw} {w : World} {K : PySem.W.Frag} {h : Heap} {mg : Str → Option Value} {fa f c P : Addr} {st : Stmt} {N : List Str} {k n : Nat} {fb : Rho → Ou} {oc : Value} {od an : Option Addr} {osl : Array (Option Value)} {kV doc pm ct : Value} {e : Value} {dd : Option Addr} {vs : Array Value} {sl : Array (Option Value)}
    (X : K.In h) (G : h.Ns mainGlobals mg) (hfa : mg "law" = some (.ref fa)) (own : LamX.OwnTab K fa h) (a0 : PySem.W.nsIn K mainGlobals "law" = some (some (.ref f)))
    (l0 : K.lookup f = some ⟨oc, od, .func (PySem.W.fnOf "law" "law" (defArgs st) (defBody st) (defScope st) .none kV doc pm an (.ref c) ct), osl⟩) (c0 : PySem.W.codeIn K (.ref c) "law" = true) (k0 : PySem.W.keepIn K (.ref f) = true)
    (lc : K.lookup c = some ⟨e, dd, .fields vs, sl⟩) (hP : vs[11]? = some (.ref P)) (nP : K.lookup P = none) (hq : hdO ⟨e, dd, .fields vs, sl⟩ vs c P = true)
    (S : FnScope N ["script"] (defScope st)) (hn : N.length = n) (hb : BindC "law" st ["script"]) (hg : ∀ ns : List Int, ns.length ≤ 63 → dFun n fb [.scr ns] = .ok (.dat (.bool true)) [])
    (hbody : ∀ (T : Tb) (base : Heap) (f : Addr) (A : Around) (outer : List Env) (s : Shared) (H : Hp) (E : XK), T.tabs = [(P, lamQ "law")] → LamX.TabB base mg c P → Room k (A.deeper (envOfC "law" (defScope st) s.heap.objs.size f (.ref c))) →
      SSs (bX l.prog w K mg base N "law" st f (.ref c) A outer s H E) (WofE E) (defBody st) fb) : LamX.LawAtS l w K (L2N.CX l.prog w) (k + 1) 63 "script" mg fa h := by
  have em := PySem.W.mg_of X G a0
  rw [hfa] at em
  cases em
  have F := fun_mk l0 c0 k0
  let T : Tb := ⟨[(P, lamQ "law")], by simp, []⟩
  subst hn
  refine ⟨_, [(c, P)], spLaw K, fun p hp => ?_, fun p hp => ?_, fun p hp => ?_, fun s v => .of_eq (hb kV doc pm an (.ref c) ct [v] rfl), fun H a ns hl _ hT hS => ⟨a, ns, rfl, hS, hl, ⟨fun p hp => ?_, fun _ h => by cases h⟩, fun _ => rfl⟩, fun base _ _ hTB => ?_⟩
  · rw [List.mem_singleton.mp hp]; exact own c P _ _ e dd vs sl l0 rfl rfl lc hP
  · rw [List.mem_singleton.mp hp]; exact nP
  · rw [List.mem_singleton.mp hp]; exact hd_of X lc hq
  · have : p = (P, lamQ "law") := List.mem_singleton.mp hp
    rw [this]
    exact .nil (hT (c, P) (List.mem_singleton.mpr rfl))
  · refine (fn_okC F S fun cdv A outer s H E hc hr => ?_).imp fun vs H Q E h => law_sp hg h
    obtain ⟨oc', od', kV', doc', pm', an', ct', osl', l'⟩ := hc
    rw [l0] at l'
    cases l'
    exact hbody T base fa A outer s H E rfl (hTB (c, P) (List.mem_singleton.mpr rfl)) hr
end R
namespace R
open PySem PySem.Spec L2
open PyProof.Rows hiding St
/-! ### raise TooMany(e) -/
structure LimC (P : Program) (w : World) (K : PySem.W.Frag) (mg : Str → Option Value) (base : Heap) : Prop where
  ex : ∃ (C fI : Addr) (fd : FuncData), mg "TooMany" = some (.ref C) ∧ OexC K C ∧ PySem.W.findIn K (.ref C) "__init__" = some (some (.ref fI)) ∧ PySem.W.typeIn K (.ref fI) = some (.type "function") ∧ PySem.W.findIn K (.ref C) "limit" = some none ∧
    FnOk P w K mg base (L2N.CX P w) 1 fI fd ["self", "limit"] (spLim K) ∧ Binds K fd ["self", "limit"] []
def dRaiseP (fe : Rho → Res Rv) (ρ : Rho) : Ou := (fe ρ).ou fun r ρ1 => match rd ρ1 r with
  | some (.int n) => .err ⟨"TooMany", some n⟩ ρ1
  | _ => .stuck
theorem lenOk_xd {K : PySem.W.Frag} {H : Hp} {d : Addr} {fs : List (Str × V)} (l : LenOk K H) : LenOk K (upd H d (.xd fs)) := by
  have key : ∀ a u, (∀ fs', u ≠ .xd fs') → Rd (upd H d (.xd fs)) a u → Rd H a u := fun a u nu h => by
    by_cases e : a = d
    · subst e
      rcases h with h | ⟨o, h⟩
      · rw [upd_same] at h; cases h; exact absurd rfl (nu _)
      · rw [upd_same] at h; cases h
    · rcases h with h | ⟨o, h⟩
      · rw [upd_ne e] at h; exact .inl h
      · rw [upd_ne e] at h; exact .inr ⟨o, h⟩
  refine ⟨fun a xs h => ?_, fun a xs h => ?_⟩
  · rcases h with h | h
    · exact l.1 a xs (.inl (key a _ (fun _ z => by cases z) h))
    · exact l.1 a xs (.inr h)
  · rcases h with h | h
    · exact l.2 a xs (.inl (key a _ (fun _ z => by cases z) h))
    · exact l.2 a xs (.inr h)
section
variable [Tb] {X : Cx} {W : WX} {pos : Pos}
theorem ss_raiseP {e : Expr} {fe : Rho → Res Rv} {p p3 : Pos} (hc : X.calm = true) (tk : L2N.Takes X W) (T : LimC X.prog X.w X.K X.mg X.base) (hr : Room 2 X.A) (hg : Gl X "TooMany") (he : SE X W e fe) (h1 : starEach [e] X.env = (false, eval e X.env) :: starEach [] X.env := by exact ste rfl) :
    SS X W (.Raise (some (.Call (.Name "TooMany" p) [e] [] p3)) none pos) (dRaiseP fe) := .mk fun Hb fx B ρ σ H D A q => by
  obtain ⟨C, fI, fd, hm, ox, iC, tI, hno, F1, hb⟩ := T.ex
  refine wp_ps (L2N.ps_raise hc tk (pmk_lim ox iC tI hno F1 hr hb hg hm pe_wp (by decide) h1)) ?_
  refine he Hb fx B ρ σ H _ A (q.of_ou.mono (fun r ρ1 z v H1 l1 A1 q1 => ?_) fun _ _ z => z)
  cases e1 : rd ρ1 r with
  | none => rw [e1] at z; exact z.elim
  | some d0 =>
    rw [e1] at z
    have dp := (q1.lo A1 e1).dp
    cases d0 with
    | int n =>
      cases dp
      exact ⟨n, rfl, fun d hd => z σ _ C (some d) (lenOk_xd l1) (A1.alloc hd) ⟨hm, upd_same⟩⟩
    | none => exact z.elim
    | bool _ => exact z.elim
    | str _ => exact z.elim
    | list _ => exact z.elim
    | tuple _ => exact z.elim
    | dict _ => exact z.elim
end
section
variable {w : Wn} {ρ : Rho}
@[simp ↓] theorem w_raiseP {fe : Rho → Res Rv} : WO w (dRaiseP fe ρ) = Pst (fun r ρ1 => onS (rd ρ1 r) fun d => onS (intD d) fun n => w.ex ⟨"TooMany", some n⟩ ρ1) w.ex (fe ρ) := by
  unfold dRaiseP
  simp only [w_ou]
  refine pst_ext fun r ρ1 => ?_
  cases rd ρ1 r with
  | none => rfl
  | some d => cases d <;> rfl
end
end R
namespace R
open PySem PySem.Spec L2
open PyProof.Rows hiding St
/-- what the written part says of the class that keeps a limit, and of its base -/
def oexB (K : PySem.W.Frag) (C : Addr) : Bool := match K.lookup C with
  | some ⟨.type "type", _, .cls cd, sl⟩ => (match cd.mro, sl.toList with
    | .ref C' :: bm, [_, _, _, _, some (.builtin n), _] => decide (C' = C) && (decide (n = "ValueError.__new__") && (!cd.hasDel && (cd.hasDict && PySem.HandSPX.refsVE bm)))
    | _, _ => false)
  | _ => false
def limB (K : PySem.W.Frag) (C B : Addr) : Bool := oexB K C && (decide (PySem.W.findIn K (.ref C) "__setattr__" = some (some (.builtin "object.__setattr__"))) && (decide (PySem.W.subIn K (.ref C) (.type "BaseException") = some true) && (decide (PySem.W.typeIn K (.ref C) = some (.type "type")) && (PySem.W.keepIn K (.ref C) &&
  (decide (PySem.W.findIn K (.ref C) "limit" = some none) && (PySem.W.readsIn K B (.type "type") && decide (PySem.W.specialIn K (.ref B) "__getattribute__" = some (some (.builtin "type.__getattribute__")))))))))
theorem oex_of {K : PySem.W.Frag} {C : Addr} (q : oexB K C = true) : ∃ nm qn N bs bm sn sub ab col dd k0 k1 k2 k3 k5, K.lookup C = some (PySem.excClassObj nm qn C N bs bm true sn sub ab col dd k0 k1 k2 k3 k5 "ValueError.__new__") ∧ PySem.HandSPX.refsVE bm = true := by
  unfold oexB at q
  split at q
  · rename_i dd cd sl ho
    split at q
    · rename_i C' bm k0 k1 k2 k3 n k5 hm hs
      simp only [Bool.and_eq_true, decide_eq_true_eq, Bool.not_eq_true'] at q
      obtain ⟨rfl, rfl, d1, d2, d3⟩ := q
      obtain ⟨nm, bs, mro, ns, qn, hd, sn, sub, ab, col, del⟩ := cd
      dsimp only at hm d1 d2
      subst hm d1 d2
      obtain ⟨l⟩ := sl
      have hs : l = [k0, k1, k2, k3, some (.builtin "ValueError.__new__"), k5] := hs
      subst hs
      exact ⟨nm, qn, ns, bs, bm, sn, sub, ab, col, dd, k0, k1, k2, k3, k5, ho, d3⟩
    · cases q
  · cases q
theorem limC_mk {P : Program} {w : World} {K : PySem.W.Frag} {mg : Str → Option Value} {h base : Heap} {st : Stmt} {f cM cR : Addr} {fd : FuncData} {a1 a2 a3 a4 a5 a6 a7 a8 a9 b1 : Pos} {j : Nat} {m : Str} (X : K.In h) (G : h.Ns mainGlobals mg)
    (aM : PySem.W.nsIn K mainGlobals "TooMany" = some (some (.ref cM))) (aR : PySem.W.nsIn K mainGlobals "RollcapError" = some (some (.ref cR))) (aI : PySem.W.findIn K (.ref cM) "__init__" = some (some (.ref f))) (tI : PySem.W.typeIn K (.ref f) = some (.type "function"))
    (fc : PySem.W.findCls K (.ref cR) (.type "type") "__init__" = some (.val (.builtin "ValueError.__init__"))) (q : limB K cM cR = true)
    (F : Fun K "__init__" "TooMany.__init__" st f fd) (S : FnScope ["self", "limit"] ["self", "limit"] (defScope st)) (hb : ∀ (kV doc pm : Value) (an : Option Addr) (cdv ct : Value) (us : List Value), us.length = 2 → bindArgs (PySem.W.fnOf "__init__" "TooMany.__init__" (defArgs st) (defBody st) (defScope st) .none kV doc pm an cdv ct) ⟨us, []⟩ = pure ((["self", "limit"] : List Str).zip us)) (ht : defBody st = iText a1 a2 a3 a4 a5 a6 a7 a8 a9 b1 j m)
    (l0 : (defScope st).names.lookup ("self" : Str) = some NameKind.local) (l1 : (defScope st).names.lookup ("limit" : Str) = some NameKind.local) (g0 : (defScope st).names.lookup ("RollcapError" : Str) = some NameKind.globalImplicit)
    (hc : ∀ (cdv : Value) (A : Around) (outer : List Env) (s : Shared) (H : Hp) (E : XK), ∃ pl : Sem Bool, eval (.Call (.Attribute (.Name "RollcapError" a1) "__init__" a2) [.Name "self" a3, .Constant (.str m) j a4] [] a5) (cxOf (L2N.CX P w) P w K mg base ["self", "limit"] "TooMany.__init__" (defScope st) f cdv A outer s H E).env =
      cinitS "RollcapError" a1 a2 a5 [.Name "self" a3, .Constant (.str m) j a4] (cxOf (L2N.CX P w) P w K mg base ["self", "limit"] "TooMany.__init__" (defScope st) f cdv A outer s H E).env pl) :
    LimC P w K mg base := by
  unfold limB at q
  simp only [Bool.and_eq_true, decide_eq_true_eq] at q
  obtain ⟨q1, q2, q3, q4, q5, q6, q7, q8⟩ := q
  have mM := PySem.W.mg_of X G aM
  have mR := PySem.W.mg_of X G aR
  have ox := oex_of q1
  have bb : Binds K fd ["self", "limit"] [] := F.binds hb
  have r : ClX.CRead K cR (.type "type") := ⟨q7, q8⟩
  have T : OexC K cM := ⟨ox, q2, q3, q4, q5⟩
  have L : FnOk P w K mg base (L2N.CX P w) 1 f fd ["self", "limit"] (spLim K) := lim_fn F S ht l0 l1 g0 mR r fc hc
  exact ⟨cM, f, fd, mM, T, aI, tI, q6, L, bb⟩
end R
namespace R
open PySem PySem.Spec L2
open PyProof.Rows hiding St
/-! ### for x in (f, g), defs of the text; x(..) -/
def dForFn (i : Nat) (fb : Rho → Ou) : List Str → Rho → Ou
  | [], ρ => .next ρ
  | x :: xs, ρ => match fb (ρ.set i (.fn x)) with
    | .next ρ2 => dForFn i fb xs ρ2
    | .cont ρ2 => dForFn i fb xs ρ2
    | .brk ρ2 => .next ρ2
    | o => o
def dCallV (i : Nat) (cs : List (Str × (List Sl → FRes))) (ms : List Bool) (fs : Rho → Res (List Rv)) (ρ : Rho) : Res Rv := match ρ[i]? with
  | some (.fn x) => match cs.lookup x with
    | some g => dCall g ms fs ρ
    | none => .stuck
  | _ => .stuck
theorem lk_nil {α : Type} {P : Str → α → Prop} : ∀ x g, ([] : List (Str × α)).lookup x = some g → P x g := fun _ _ h => by cases h
theorem lk_cons {α : Type} {P : Str → α → Prop} {a : Str} {ga : α} {cs : List (Str × α)} (h : P a ga) (k : ∀ x g, cs.lookup x = some g → P x g) : ∀ x g, ((a, ga) :: cs).lookup x = some g → P x g := fun x g e => by
  by_cases hx : x = a
  · subst hx
    have : ((x, ga) :: cs).lookup x = some ga := by simp [List.lookup]
    rw [this] at e; cases e; exact h
  · have e2 : (x == a) = false := by simpa using hx
    have : ((a, ga) :: cs).lookup x = cs.lookup x := by simp [List.lookup, e2]
    rw [this] at e; exact k x g e
theorem FnAt.at [Tb] {P : Program} {w : World} {K : PySem.W.Frag} {mg : Str → Option Value} {base : Heap} {x : Str} {ps : List Str} {k : Nat} {g : List Sl → FRes} (F : FnAt P w K mg base x ps k g) : ∃ f : Addr, mg x = some (.ref f) ∧ PySem.W.nsIn K mainGlobals x = some (some (.ref f)) := by
  obtain ⟨f, fd, hm, _, _, _, ns⟩ := F.ex
  exact ⟨f, hm, ns⟩
section
variable [Tb] {X : Cx} {W : WX} {pos p : Pos}
theorem se_callV {i k : Nat} {a : Str} {cs : List (Str × (List Sl → FRes))} {ms : List Bool} {e : Expr} {es : List Expr} {fs : Rho → Res (List Rv)} (hr : Room k X.A) (hN : X.N[i]? = some a) (hv : Vis X.env.scope a)
    (hF : ∀ x g, cs.lookup x = some g → ∃ ps j, FnAt X.prog X.w X.K X.mg X.base x ps j g ∧ j ≤ k ∧ (e :: es).length = ps.length) (tk : L2N.Takes X W) (hs : SA X W (e :: es) fs) (hlen : ∀ ρ rs ρ', fs ρ = .ok rs ρ' → rs.length = (e :: es).length)
    (hdb : (a == ("__debug__" : Str)) = false := by decide) (hcd : (a == ("__classdict__" : Str)) = false := by decide)
    (he : starEach (e :: es) X.env = (false, eval e X.env) :: starEach es X.env := by exact ste rfl) (hpl : (backTo pos (starEach es X.env)).any (·.1) = false := by rfl) :
    SE X W (.Call (.Name a p) (e :: es) [] pos) (dCallV i cs ms fs) := .mk fun Hb fx B ρ σ H Q A q => by
  unfold dCallV at q
  cases e1 : ρ[i]? with
  | none => rw [e1] at q; exact q.elim
  | some sl =>
    rw [e1] at q
    cases sl with
    | fn x =>
      dsimp only at q
      cases e2 : cs.lookup x with
      | none => rw [e2] at q; exact q.elim
      | some g =>
        rw [e2] at q
        dsimp only at q
        obtain ⟨ps, j, F, hj, hnp⟩ := hF x g e2
        obtain ⟨f, fd, hm, hk, hb, h, ns⟩ := F.ex
        obtain ⟨f', e3, e4⟩ := A.slot i _ e1
        rw [ns] at e4
        obtain rfl : f = f' := by cases e4; rfl
        refine wpE_len fun pins s I => ?_
        refine wpAny_Call_Name_kw (thn ((pe_var (pos := p) hN hv hdb hcd).run pins s σ H (fun v H1 => v = .ref f ∧ H1 = H) I ⟨.ref f, of_getD e3, rfl, rfl⟩) fun u s1 ⟨v, H1, I1, r1, q1⟩ => ?_)
        obtain ⟨ev, eH⟩ := q1
        rw [ev] at r1
        rw [eH] at I1
        obtain rfl : u = Value.ref f := r1
        refine PySem.W.callWith_K (h₀ := X.base) I1.ok.mod.kin hk (thn (call_run hs hnp hlen A q pos pins s1 I1) fun us s2 hh => ?_) he hpl
        obtain ⟨vs, H2, I2, r, q2⟩ := hh
        refine ⟨I2.kIn, ?_⟩
        exact run_fnS (E := WE W) h (hr.mono hj) hb (L2N.passAt tk σ) I2 r q2
    | _ => exact q.elim
theorem ss_forFn {i : Nat} {x f1 f2 : Str} {body : List Stmt} {fb : Rho → Ou} {k : Nat} {p1 p2 p3 p4 : Pos} (hp : PassesOwn (model X.prog X.w) X.A X.env X.xe) (hc : X.calm = true) (hN : X.N.Nodup) (hi : X.N[i]? = some x) (hx : Loc X.env.scope x) (g1 : Gl X f1) (g2 : Gl X f2)
    (n1 : ∃ f : Addr, X.mg f1 = some (.ref f) ∧ PySem.W.nsIn X.K mainGlobals f1 = some (some (.ref f))) (n2 : ∃ f : Addr, X.mg f2 = some (.ref f) ∧ PySem.W.nsIn X.K mainGlobals f2 = some (some (.ref f))) (hb : SSs X W body fb)
    (d1 : (f1 == ("__debug__" : Str)) = false := by decide) (d2 : (f2 == ("__debug__" : Str)) = false := by decide)
    (hf : X.fn x = true ∨ X.env.scope.names.lookup x = some .local := by first | exact .inl rfl | exact .inr rfl | assumption)
    (h1 : starEach [.Name f1 p2, .Name f2 p3] X.env = (false, eval (.Name f1 p2) X.env) :: starEach [.Name f2 p3] X.env := by exact ste rfl) (h2 : starEach [.Name f2 p3] X.env = (false, eval (.Name f2 p3) X.env) :: starEach [] X.env := by exact ste rfl)
    (hs : ∀ y, foldedSetIterable (.Tuple [.Name f1 p2, .Name f2 p3] k p4) X.env y = pure y := by intro _; rfl) : SS X W (.For (.Name x p1) (.Tuple [.Name f1 p2, .Name f2 p3] k p4) body [] pos) (dForFn i fb [f1, f2]) := .mk fun Hb fx B ρ σ H D A q => by
  obtain ⟨a1, m1, e1⟩ := n1
  obtain ⟨a2, m2, e2⟩ := n2
  have pt : PE X (.Tuple [.Name f1 p2, .Name f2 p3] k p4) _ := pe_tup (pa_cons (pe_glob (v := .ref a1) g1 m1 rfl d1) (pa_cons (pe_glob (v := .ref a2) g2 m2 rfl d2) pa_nil h2) h1)
  refine wpS_len (wp_ps (ps_for hp hc (pi_seq pt) (pg_name hN hi hx hf) pss_wp hs) ?_)
  refine ⟨by show 2 ≤ sizeLine; rw [sizeLine_eq]; decide, fun T hT => ⟨T, rfl, .inr ⟨[.ref a1, .ref a2], SqT.of upd_same, ?_⟩⟩⟩
  have A1 := A.alloc (o := .tup [.ref a1, .ref a2]) hT
  have nb : ¬ Hid fx ρ σ T := fun z => A.bad_there (B := B) (Bad.hid z) hT
  have at_ : ∀ (j : Nat) (x : V), ([V.ref a1, V.ref a2])[j]? = some x → ∃ y a, ([f1, f2])[j]? = some y ∧ x = .ref a ∧ PySem.W.nsIn X.K mainGlobals y = some (some (.ref a)) := fun j x h => by
    match j, h with
    | 0, h => cases h; exact ⟨f1, a1, rfl, rfl, e1⟩
    | 1, h => cases h; exact ⟨f2, a2, rfl, rfl, e2⟩
    | j + 2, h => simp at h
  have q1 : PostS X W (hide (upd H T (.tup [.ref a1, .ref a2])) (Hid fx ρ σ)) fx B D (dForFn i fb [f1, f2] ρ) := q.rebase (A1.same)
  refine for_it (walk_tup (K := X.K) (a := T) (xs := [.ref a1, .ref a2])) (fun j σ2 H2 => ∃ ρ2, Abs X.K (hide (upd H T (.tup [.ref a1, .ref a2])) (Hid fx ρ σ)) fx B ρ2 σ2 H2 ∧ PostS X W (hide (upd H T (.tup [.ref a1, .ref a2])) (Hid fx ρ σ)) fx B D (dForFn i fb (([f1, f2] : List Str).drop j) ρ2)) ⟨ρ, A1.here, by simpa using q1⟩ (fun j σ2 H2 _ ⟨ρ2, A2, _⟩ => ?_) (fun j x σ2 H2 H3 hj ⟨ρ2, A2, z2⟩ y => ?_) (fun σ2 H2 ⟨ρ2, A2, z2⟩ => ?_)
  · exact SqT.of (A2.base_keep (hide_eq.mpr ⟨nb, upd_same⟩))
  · obtain ⟨rfl, y2⟩ := y
    obtain ⟨nm, a, y3, rfl, y4⟩ := at_ j x y2
    rw [drop_cons y3] at z2
    unfold dForFn at z2
    have A3 : Abs X.K (hide (upd H T (.tup [.ref a1, .ref a2])) (Hid fx ρ σ)) fx B (ρ2.set i (.fn nm)) (σ2.set i (some (.ref a))) H3 := A2.put rfl ⟨a, rfl, y4⟩ (fun _ z => nomatch z) (fun _ z => nomatch z)
    refine wpSs_len (hb _ fx B _ _ H3 _ A3 ?_)
    cases e2 : fb (ρ2.set i (.fn nm)) with
    | next ρ4 => rw [e2] at z2; exact fun σ5 H5 l5 A5 _ => ⟨ρ4, A5, z2⟩
    | cont ρ4 => rw [e2] at z2; exact fun σ5 H5 l5 A5 _ => ⟨ρ4, A5, z2⟩
    | brk ρ4 => rw [e2] at z2; exact fun σ5 H5 l5 A5 _ _ => z2 σ5 H5 l5 A5
    | ret r ρ4 => rw [e2] at z2; exact fun v σ5 H5 l5 A5 r5 _ _ => z2 v σ5 H5 l5 A5 r5
    | err x ρ4 => rw [e2] at z2; exact z2
    | stuck => rw [e2] at z2; exact z2
  · exact fun l => z2 σ2 H2 l A2
end
section
variable {Pv : Rv → Rho → Prop} {E : Exn → Rho → Prop} {w : Wn} {ρ : Rho}
def fnS : Sl → Option Str
  | .fn x => some x
  | _ => none
@[simp] theorem fnS_f {x : Str} : fnS (.fn x) = some x := (rfl)
@[simp ↓] theorem w_callV {i : Nat} {cs : List (Str × (List Sl → FRes))} {ms : List Bool} {fs : Rho → Res (List Rv)} : Pst Pv E (dCallV i cs ms fs ρ) = onS ρ[i]? fun s => onS (fnS s) fun x => onS (cs.lookup x) fun g => Pst Pv E (dCall g ms fs ρ) := by
  unfold dCallV
  cases ρ[i]? with
  | none => rfl
  | some s =>
    cases s with
    | fn x => simp only [onS_some, fnS_f]; cases cs.lookup x <;> rfl
    | _ => rfl
@[simp ↓] theorem w_forFn0 {i : Nat} {fb : Rho → Ou} : WO w (dForFn i fb [] ρ) = w.nx ρ := (rfl)
@[simp ↓] theorem w_forFn1 {i : Nat} {fb : Rho → Ou} {x : Str} {xs : List Str} : WO w (dForFn i fb (x :: xs) ρ) = WO { w with nx := fun ρ1 => WO w (dForFn i fb xs ρ1), ct := fun ρ1 => WO w (dForFn i fb xs ρ1), bk := w.nx } (fb (ρ.set i (.fn x))) := by
  unfold dForFn
  cases fb (ρ.set i (.fn x)) <;> rfl
end
end R
namespace R
open PySem PySem.Spec L2
open PyProof.Rows hiding St
/-! ### sorted(set(t)), t a tuple of ints -/
def rSetTup (K : PySem.W.Frag) (w : World) : List V → Hp → VK → Prop := fun vs H Q => ∃ (l : Addr) (ns : List Int), vs = [.ref l] ∧ SqT K H l (ns.map V.int) ∧ ns.length < 64 ∧ ∀ p c, H p = none → c ≤ ns.length → Q (.ref p) (upd H p (SetO w p (fun j => decide (j ∈ ns)) c))
theorem cr_setTup {X : Cx} (hc : X.calm = true) : CallR X (.type "set") (rSetTup X.K X.w) := by
  intro pins s σ H vs us Q I r h
  obtain ⟨l, ns, rfl, hq, hz, q⟩ := h
  obtain rfl := Vals.ref1 r
  obtain ⟨its, rv, pt, _⟩ := I.tuple hq
  have hi : IntsAre its.toArray.toList ns := ints_of_vals rv
  refine call_set_tupI ns (I.ok.hd hc) (show s.heap.IsTuple l its.toArray from pt) hi (by unfold scanBound; omega) fun h' tk c R1 hcn k => ?_
  exact ⟨.ref _, _, I.laid (t' := tk) k (Nat.le_refl _) (setO_new R1), rfl, q _ c (I.hok.fresh (Nat.le_refl _)) hcn⟩
/-- the different ones, ascending -/
def sdI (ns : List Int) : List Int := srtI ns.eraseDups
theorem mem_sdI {k : Int} {ns : List Int} : k ∈ sdI ns ↔ k ∈ ns := by
  unfold sdI
  rw [(srtI_perm _).mem_iff, List.mem_eraseDups]
theorem sdI_asc (ns : List Int) : (sdI ns).Pairwise (· < ·) := by
  have h1 : (sdI ns).Pairwise (· ≤ ·) := srtI_le _
  have h2 : (sdI ns).Nodup := (srtI_perm _).nodup_iff.mpr (nodup_ed ns)
  exact (h1.and h2).imp fun {a b} x => by have := x.1; have := x.2; omega
where
  nodup_ed (l : List Int) : l.eraseDups.Nodup := by
    induction h : l.length using Nat.strongRecOn generalizing l with
    | _ n ih =>
      cases l with
      | nil => simp
      | cons a l =>
        rw [List.eraseDups_cons]
        refine List.nodup_cons.mpr ⟨fun m => ?_, ih _ ?_ _ rfl⟩
        · have := List.mem_eraseDups.mp m
          simp at this
        · have := List.length_filter_le (fun b => !b == a) l
          simp at h
          omega
theorem asc_uniq : ∀ {l m : List Int}, l.Pairwise (· < ·) → m.Pairwise (· < ·) → (∀ k, k ∈ l ↔ k ∈ m) → l = m
  | [], [], _, _, _ => rfl
  | [], b :: m, _, _, h => absurd ((h b).mpr List.mem_cons_self) (by simp)
  | a :: l, [], _, _, h => absurd ((h a).mp List.mem_cons_self) (by simp)
  | a :: l, b :: m, hl, hm, h => by
    have hl' := List.pairwise_cons.mp hl
    have hm' := List.pairwise_cons.mp hm
    have e : a = b := by
      rcases List.mem_cons.mp ((h a).mp List.mem_cons_self) with e | e
      · exact e
      · rcases List.mem_cons.mp ((h b).mpr List.mem_cons_self) with e2 | e2
        · exact e2.symm
        · have := hm'.1 a e
          have := hl'.1 b e2
          omega
    subst e
    rw [asc_uniq hl'.2 hm'.2 fun k => ⟨fun q => ?_, fun q => ?_⟩]
    · rcases List.mem_cons.mp ((h k).mp (List.mem_cons_of_mem _ q)) with e | e
      · have := hl'.1 k q; omega
      · exact e
    · rcases List.mem_cons.mp ((h k).mpr (List.mem_cons_of_mem _ q)) with e | e
      · have := hm'.1 k q; omega
      · exact e
def dSortSet (fe : Rho → Res Rv) (ρ : Rho) : Res Rv := (fe ρ).bind fun r ρ1 => match rd ρ1 r with
  | some (.tuple l) => match intsOf l with
    | some ns => if ns.length < 64 then .ok (.new ((sdI ns).map .int)) ρ1 else .stuck
    | none => .stuck
  | _ => .stuck
section
variable [Tb] {X : Cx} {W : WX} {pos : Pos}
theorem se_sortSet {e : Expr} {fe : Rho → Res Rv} {p p2 p3 : Pos} (hc : X.calm = true) (hg : Gl X "sorted") (hm : X.mg "sorted" = none) (hg2 : Gl X "set") (hm2 : X.mg "set" = none) (he : SE X W e fe)
    (h1 : starEach [e] X.env = (false, eval e X.env) :: starEach [] X.env := by exact ste rfl) (h2 : (backTo p3 (starEach [] X.env)).any (·.1) = false := by rfl)
    (h3 : starEach [.Call (.Name "set" p2) [e] [] p3] X.env = (false, eval (.Call (.Name "set" p2) [e] [] p3) X.env) :: starEach [] X.env := by exact ste rfl) (h4 : (backTo pos (starEach [] X.env)).any (·.1) = false := by rfl) :
    SE X W (.Call (.Name "sorted" p) [.Call (.Name "set" p2) [e] [] p3] [] pos) (dSortSet fe) := .mk fun Hb fx B ρ σ H Q A q => by
  have inner : PE X (.Call (.Name "set" p2) [e] [] p3) _ := pe_callTy (cr_setTup hc) hg2 hm2 PyProof.Rows.boot_set (pa_cons (pe_wp (e := e)) pa_nil h1) (by decide) (by decide) h1 h2
  refine wpE_len (wp_pe (pe_callB (cr_sortedSet hc) hg hm bt_sorted (pa_cons inner pa_nil h3) (by decide) (by decide) h3 h4) ?_)
  refine he Hb fx B ρ σ H _ A (q.of_bind.mono (fun r ρ1 z v H1 l1 A1 q1 => ?_) fun _ _ z => z)
  cases e1 : rd ρ1 r with
  | none => rw [e1] at z; exact z.elim
  | some d0 =>
    rw [e1] at z
    have lo := q1.lo A1 e1
    cases d0 with
    | tuple l =>
      dsimp only at z
      cases e2 : intsOf l with
      | none => rw [e2] at z; exact z.elim
      | some ns =>
        rw [e2] at z
        dsimp only at z
        by_cases hz : ns.length < 64
        · rw [if_pos hz] at z
          obtain ⟨a, vs, rfl, ha, da⟩ := lo.tuple
          rw [intsOf_eq e2] at da
          have ev := dpa_ints da
          subst ev
          refine ⟨a, ns, rfl, SqT.of (hide_sub _ _ ha), hz, fun p1 c np hcn => ?_⟩
          refine ⟨p1, _, c, rfl, upd_same, by omega, fun ns' p4 asc mem _ np4 l4 => ?_⟩
          have es : ns' = sdI ns := asc_uniq asc (sdI_asc ns) fun k => by rw [mem, mem_sdI]; exact decide_eq_true_iff
          subst es
          have A2 := A1.alloc (o := SetO X.w p1 (fun j => decide (j ∈ ns)) c) np
          have o : Outc (upd H1 p1 (SetO X.w p1 (fun j => decide (j ∈ ns)) c)) (Bad fx B ρ1 σ) (.new ((sdI ns).map .int)) (.ref p4) _ := .new np4 (ints_dpa (sdI ns))
          obtain ⟨A3, q3⟩ := o.ok A2
          exact z _ _ l4 A3 q3
        · rw [if_neg hz] at z; exact z.elim
    | none => exact z.elim
    | bool _ => exact z.elim
    | int _ => exact z.elim
    | str _ => exact z.elim
    | list _ => exact z.elim
    | dict _ => exact z.elim
end
section
variable {Pv : Rv → Rho → Prop} {E : Exn → Rho → Prop} {ρ : Rho}
def tupD : PyData → Option (List PyData)
  | .tuple l => some l
  | _ => none
@[simp] theorem tupD_t {l : List PyData} : tupD (.tuple l) = some l := (rfl)
@[simp ↓] theorem w_sortSet {fe : Rho → Res Rv} : Pst Pv E (dSortSet fe ρ) = Pst (fun r ρ1 => onS (rd ρ1 r) fun d => onS (tupD d) fun l => onS (intsOf l) fun ns => if ns.length < 64 then Pv (.new (inz (sdI ns))) ρ1 else False) E (fe ρ) := by
  unfold dSortSet
  simp only [w_bind]
  refine pst_ext fun r ρ1 => ?_
  cases rd ρ1 r with
  | none => rfl
  | some d =>
    cases d <;> try rfl
    rename_i l
    simp only [onS_some, tupD_t]
    cases intsOf l with
    | none => rfl
    | some ns => simp only [onS_some]; by_cases h : ns.length < 64 <;> simp [h, inz]
end
end R
namespace RC
open PySem R
def fuel : Nat := 2 ^ 40
def b__law_written : Rho → Ou := (dSeq (dSet false 0 (dDisp mkLst (dCons (dDisp mkTup dNil) (dCons (dDisp mkTup (dCons (dDisp mkTup (dCons (dC (.int 1)) (dCons (dC (.int 1)) dNil))) dNil)) (dCons (dDisp mkTup (dCons (dDisp mkTup (dCons (dC (.int 400)) (dCons (dOp2 gPow (dC (.int 10)) (dC (.int 6))) dNil))) dNil)) (dCons (dDisp mkTup (dCons (dDisp mkTup (dCons (dC (.int 401)) (dCons (dC (.int 1)) dNil))) dNil)) (dCons (dDisp mkTup (dCons (dDisp mkTup (dCons (dC (.int 1)) (dCons (dOp2 gAdd (dOp2 gPow (dC (.int 10)) (dC (.int 6))) (dC (.int 1))) dNil))) dNil)) (dCons (dDisp mkTup (dCons (dDisp mkTup (dCons (dC (.int 0)) (dCons (dC (.int 1)) dNil))) dNil)) (dCons (dDisp mkTup (dCons (dDisp mkTup (dCons (dC (.int 1)) (dCons (dC (.int 0)) dNil))) dNil)) (dCons (dDisp mkTup (dCons (dDisp mkTup (dCons (dC (.int 0)) (dCons (dC (.int 0)) dNil))) dNil)) (dCons (dC .none) dNil)))))))))))
  (dSeq (dSet false 0 (dOp2 gAdd (dVar 0) (dDisp mkLst (dCons (dDisp mkTup (dCons (dDisp mkTup (dCons (dC (.int 1)) (dCons (dC (.int 1)) dNil))) (dCons (dDisp mkTup (dCons (dC (.int 2)) (dCons (dC (.int 1)) dNil))) dNil))) (dCons (dDisp mkTup (dCons (dDisp mkTup (dCons (dC (.int 2)) (dCons (dC (.int 1)) dNil))) (dCons (dDisp mkTup (dCons (dC (.int 1)) (dCons (dC (.int 1)) dNil))) dNil))) (dCons (dDisp mkTup (dCons (dDisp mkTup (dCons (dC (.int 2)) (dCons (dC (.int 1)) dNil))) (dCons (dDisp mkTup (dCons (dC (.int 2)) (dCons (dC (.int 2)) dNil))) dNil))) (dCons (dDisp mkTup (dCons (dDisp mkTup (dCons (dOp2 gPow (dC (.int 10)) (dC (.int 9))) (dCons (dC (.int 1)) dNil))) dNil)) (dCons (dDisp mkTup (dCons (dDisp mkTup (dCons (dOp2 gAdd (dOp2 gPow (dC (.int 10)) (dC (.int 9))) (dC (.int 1))) (dCons (dC (.int 1)) dNil))) dNil)) (dCons (dC (.str "x")) (dCons (dC (.int 5)) dNil))))))))))
  (dSeq (dSet false 0 (dOp2 gAdd (dVar 0) (dDisp mkLst (dCons (dDisp mkLst (dCons (dDisp mkTup (dCons (dC (.int 1)) (dCons (dC (.int 1)) dNil))) dNil)) (dCons (dDisp mkTup (dCons (dDisp mkLst (dCons (dC (.int 1)) (dCons (dC (.int 1)) dNil))) dNil)) (dCons (dDisp mkTup (dCons (dDisp mkTup (dCons (dC (.int 1)) (dCons (dC (.int 1)) (dCons (dC (.int 1)) dNil)))) dNil)) (dCons (dDisp mkTup (dCons (dDisp mkTup (dCons (dC (.int 1)) dNil)) dNil)) (dCons (dDisp mkTup (dCons (dDisp mkTup (dCons (dC (.bool true)) (dCons (dC (.int 1)) dNil))) dNil)) (dCons (dDisp mkTup (dCons (dDisp mkTup (dCons (dC (.int 1)) (dCons (dC (.bool true)) dNil))) dNil)) (dCons (dDisp mkTup (dCons (dDisp mkTup (dCons (dC (.int 1)) (dCons (dC .none) dNil))) dNil)) (dCons (dDisp mkTup (dCons (dDisp mkTup (dCons (dNeg (dC (.int 1))) (dCons (dC (.int 1)) dNil))) dNil)) dNil)))))))))))
  (dSeq (dSet false 1 (dBlt gTuple (dCons (dLc [2] (dRng gRng2 (dCons (dC (.int 1)) (dCons (dC (.int 42)) dNil))) (tgN 2) dYes (dDisp mkTup (dCons (dVar 2) (dCons (dC (.int 1)) dNil)))) dNil)))
  (dRet (dOp2 gAdd (dVar 0) (dDisp mkLst (dCons (dSl (dVar 1) dPn (dPs (dC (.int 5)))) (dCons (dSl (dVar 1) dPn (dPs (dC (.int 6)))) (dCons (dSl (dVar 1) dPn (dPs (dC (.int 40)))) (dCons (dVar 1) (dCons (dOp2 gMul (dDisp mkTup (dCons (dDisp mkTup (dCons (dC (.int 3)) (dCons (dC (.int 4)) dNil))) dNil)) (dC (.int 40))) (dCons (dOp2 gMul (dDisp mkTup (dCons (dDisp mkTup (dCons (dC (.int 3)) (dCons (dC (.int 4)) dNil))) dNil)) (dC (.int 41))) (dCons (dDisp mkTup (dCons (dDisp mkTup (dCons (dC (.int 3)) (dCons (dC (.int 0)) dNil))) (dCons (dDisp mkTup (dCons (dC (.int 3)) (dCons (dC (.int 0)) dNil))) (dCons (dDisp mkTup (dCons (dC (.int 2)) (dCons (dC (.int 0)) dNil))) dNil)))) dNil))))))))))))))
def g__law_written : List Sl → FRes := dFun 3 b__law_written
def b__law_deck : Rho → Ou := (dSeq (dIfS (asB (dOp2 gGe (dVar 0) (dOp2 gPow (dC (.int 10)) (dC (.int 18)))))
  (dRet (dDisp mkLst (dCons (dOp2 gSub (dVar 0) (dOp2 gPow (dC (.int 10)) (dC (.int 18)))) (dCons (dOp2 gMod (dVar 0) (dC (.int 2147483579))) (dCons (dVar 1) dNil)))))
  Ou.next)
  (dRet (dDisp mkLst (dCons (dC (.int 0)) (dCons (dOp2 gMod (dVar 0) (dC (.int 2147483579))) (dCons (dVar 1) dNil))))))
def g__law_deck : List Sl → FRes := dFun 2 b__law_deck
def b__law_pick : Rho → Ou := (dSeq (dIfS (asB (dOp2 gGt (dOp2 gIx (dVar 0) (dC (.int 0))) (dC (.int 1))))
  (dSeq (dSet false 3 (dOp2 gMod (dOp2 gIx (dVar 0) (dC (.int 0))) (dVar 1)))
  (dSeq (dSetIx 0 (dC (.int 0)) (dOp2 gFdiv (dOp2 gIx (dVar 0) (dC (.int 0))) (dVar 1)))
  (dRet (dVar 3))))
  Ou.next)
  (dSeq (dSetIx 0 (dC (.int 2)) (dOp2 gAdd (dOp2 gIx (dVar 0) (dC (.int 2))) (dC (.int 1))))
  (dSeq (dSet false 2 (dOp2 gMod (dOp2 gPow (dOp2 gAdd (dOp2 gIx (dVar 0) (dC (.int 1))) (dOp2 gMul (dC (.int 15485867)) (dOp2 gIx (dVar 0) (dC (.int 2))))) (dC (.int 5))) (dC (.int 2147483647))))
  (dSeq (dSet false 3 (dOp2 gFdiv (dOp2 gMod (dOp2 gPow (dOp2 gAdd (dVar 2) (dOp2 gMul (dC (.int 7919)) (dOp2 gIx (dVar 0) (dC (.int 2))))) (dC (.int 3))) (dC (.int 2147483629))) (dC (.int 32))))
  (dSeq (dIfS (asB (dOp2 gGt (dVar 1) (dC (.int 1000000))))
  (dRet (dOp2 gMod (dOp2 gAdd (dOp2 gMul (dVar 3) (dC (.int 2147483563))) (dVar 2)) (dVar 1)))
  Ou.next)
  (dRet (dOp2 gMod (dVar 3) (dVar 1))))))))
def g__law_pick : List Sl → FRes := dFun 4 b__law_pick
def b__law_some : Rho → Ou := (dSeq (dSet true 4 dNewK)
  (dSeq (dFor (dRng gRng1 (dCons (dOp2 gMul (dC (.int 2)) (dVar 3)) dNil)) (tgN 5)
  (dIfS (asB (dOp2 gLt (dLenK 4) (dVar 3)))
  (dPutK 4 (dOp2 gAdd (dVar 1) (dCall g__law_pick [true, false] (dCons (dVar 0) (dCons (dOp2 gAdd (dOp2 gSub (dVar 2) (dVar 1)) (dC (.int 1))) dNil)))) (dC (.bool true)))
  Ou.next))
  (dRet (dSortK 4))))
def g__law_some : List Sl → FRes := dFun 6 b__law_some
def b__law_one : Rho → Ou := (dRet (dOp2 gIx (dVar 1) (dCall g__law_pick [true, false] (dCons (dVar 0) (dCons (dBlt gLen (dCons (dVar 1) dNil)) dNil)))))
def g__law_one : List Sl → FRes := dFun 2 b__law_one
def b__law_schedule : Rho → Ou := (dSeq (dSet true 3 (dDisp mkLst dNil))
  (dSeq (dFor (dSeqI (dCall g__law_some [true, false, false, false] (dCons (dVar 0) (dCons (dC (.int 1)) (dCons (dVar 2) (dCons (dOp2 gAdd (dC (.int 1)) (dCall g__law_pick [true, false] (dCons (dVar 0) (dCons (dVar 1) dNil)))) dNil)))))) (tgN 4)
  (dSeq (dSet false 5 (dCall g__law_one [true, false] (dCons (dVar 0) (dCons (dDisp mkLst (dCons (dC (.int 9)) (dCons (dOp2 gAdd (dOp2 gMul (dC (.int 4)) (dVar 4)) (dC (.int 1))) (dCons (dC (.int 60)) (dCons (dOp2 gPow (dC (.int 10)) (dC (.int 6))) dNil))))) dNil))))
  (dApp 3 (dDisp mkTup (dCons (dVar 4) (dCons (dBlt gMin (dCons (dOp2 gPow (dC (.int 10)) (dC (.int 6))) (dCons (dOp2 gAdd (dC (.int 1)) (dCall g__law_pick [true, false] (dCons (dVar 0) (dCons (dVar 5) dNil)))) dNil))) dNil))))))
  (dRet (dBlt gTuple (dCons (dVar 3) dNil)))))
def g__law_schedule : List Sl → FRes := dFun 6 b__law_schedule
def b__law_trips : Rho → Ou := (dSeq (dSet false 3 (dCall g__law_one [true, false] (dCons (dVar 0) (dCons (dDisp mkLst (dCons (dC (.int 0)) (dCons (dC (.int 0)) (dCons (dCall g__law_pick [true, false] (dCons (dVar 0) (dCons (dOp2 gSub (dOp2 gPow (dC (.int 10)) (dC (.int 9))) (dVar 2)) dNil))) dNil)))) dNil))))
  (dSeq (dSet false 4 (dBlt gSortI (dCons (dLc [6] (dRng gRng1 (dCons (dCall g__law_pick [true, false] (dCons (dVar 0) (dCons (dOp2 gAdd (dVar 1) (dC (.int 1))) dNil))) dNil)) (tgN 6) dYes (dOp2 gAdd (dVar 3) (dCall g__law_pick [true, false] (dCons (dVar 0) (dCons (dOp2 gAdd (dVar 2) (dC (.int 1))) dNil))))) dNil)))
  (dSeq (dSet false 5 (dCall g__law_one [true, false] (dCons (dVar 0) (dCons (dDisp mkLst (dCons (dC (.int 3)) (dCons (dC (.int 10)) (dCons (dC (.int 60)) (dCons (dOp2 gPow (dC (.int 10)) (dC (.int 6))) dNil))))) dNil))))
  (dRet (dBlt gTuple (dCons (dLc [7] (dSeqI (dVar 4)) (tgN 7) dYes (dDisp mkTup (dCons (dVar 7) (dCons (dCall g__law_pick [true, false] (dCons (dVar 0) (dCons (dOp2 gAdd (dVar 5) (dC (.int 1))) dNil))) dNil)))) dNil))))))
def g__law_trips : List Sl → FRes := dFun 8 b__law_trips
def b_is_from : Rho → Ou := (dRet (asV (dAnd (asB (dIsi (tbOf "int") (dVar 0))) (dAnd (dNot (asB (dIsi (tbOf "bool") (dVar 0)))) (asB (asV (dChain gLe gLe (dVar 1) (dVar 0) (dVar 2))))))))
def g_is_from : List Sl → FRes := dFun 3 b_is_from
def b_is_pair : Rho → Ou := (dSeq (dIfS (dOr (dNot (asB (dIsi (tbOf "tuple") (dVar 0)))) (asB (dOp2 gNe (dBlt gLen (dCons (dVar 0) dNil)) (dC (.int 2)))))
  (dRet (dC (.bool false)))
  Ou.next)
  (dRet (asV (dAnd (asB (dCall g_is_from [false, false, false] (dCons (dOp2 gIx (dVar 0) (dC (.int 0))) (dCons (dOp2 gIx (dVar 1) (dC (.int 0))) (dCons (dOp2 gIx (dVar 1) (dC (.int 1))) dNil))))) (asB (dCall g_is_from [false, false, false] (dCons (dOp2 gIx (dVar 0) (dC (.int 1))) (dCons (dOp2 gIx (dVar 2) (dC (.int 0))) (dCons (dOp2 gIx (dVar 2) (dC (.int 1))) dNil)))))))))
def g_is_pair : List Sl → FRes := dFun 3 b_is_pair
def b_is_schedule : Rho → Ou := (dSeq (dIfS (dOr (dNot (asB (dIsi (tbOf "tuple") (dVar 0)))) (dNot (dChain gLe gLe (dC (.int 1)) (dBlt gLen (dCons (dVar 0) dNil)) (dC (.int 5)))))
  (dRet (dC (.bool false)))
  Ou.next)
  (dSeq (dIfS (dNot (asB (dBlt gAll (dCons (dLc [1] (dSeqI (dVar 0)) (tgN 1) dYes (dCall g_is_pair [false, false, false] (dCons (dVar 1) (dCons (dDisp mkTup (dCons (dC (.int 1)) (dCons (dC (.int 400)) dNil))) (dCons (dDisp mkTup (dCons (dC (.int 1)) (dCons (dC (.int 1000000)) dNil))) dNil))))) dNil))))
  (dRet (dC (.bool false)))
  Ou.next)
  (dRet (dBlt gAll (dCons (dLc [1, 2] (dItr gZip (dCons (dVar 0) (dCons (dSl (dVar 0) (dPs (dC (.int 1))) dPn) dNil))) (tgTup 2 (tgCons (tgN 1) (tgCons (tgN 2) tgNil))) dYes (dOp2 gLt (dOp2 gIx (dVar 1) (dC (.int 0))) (dOp2 gIx (dVar 2) (dC (.int 0))))) dNil)))))
def g_is_schedule : List Sl → FRes := dFun 3 b_is_schedule
def b__law_whole : Rho → Ou := (dRet (asV (dAnd (asB (dIsi (tbOf "int") (dVar 0))) (dNot (asB (dIsi (tbOf "bool") (dVar 0)))))))
def g__law_whole : List Sl → FRes := dFun 1 b__law_whole
def b__law_is_pair : Rho → Ou := (dSeq (dIfS (dOr (dNot (asB (dIsi (tbOf "tuple") (dVar 0)))) (dOr (asB (dOp2 gNe (dBlt gLen (dCons (dVar 0) dNil)) (dC (.int 2)))) (dOr (dNot (asB (dCall g__law_whole [false] (dCons (dOp2 gIx (dVar 0) (dC (.int 0))) dNil)))) (dNot (asB (dCall g__law_whole [false] (dCons (dOp2 gIx (dVar 0) (dC (.int 1))) dNil)))))))
  (dRet (dC (.bool false)))
  Ou.next)
  (dRet (asV (dAnd (asB (asV (dChain gLe gLe (dOp2 gIx (dVar 1) (dC (.int 0))) (dOp2 gIx (dVar 0) (dC (.int 0))) (dOp2 gIx (dVar 1) (dC (.int 1)))))) (asB (asV (dChain gLe gLe (dOp2 gIx (dVar 2) (dC (.int 0))) (dOp2 gIx (dVar 0) (dC (.int 1))) (dOp2 gIx (dVar 2) (dC (.int 1))))))))))
def g__law_is_pair : List Sl → FRes := dFun 3 b__law_is_pair
def b__law_is_schedule : Rho → Ou := (dSeq (dIfS (dOr (dNot (asB (dIsi (tbOf "tuple") (dVar 0)))) (dNot (dChain gLe gLe (dC (.int 1)) (dBlt gLen (dCons (dVar 0) dNil)) (dC (.int 5)))))
  (dRet (dC (.bool false)))
  Ou.next)
  (dSeq (dIfS (asB (dOp2 gNe (dLc [2] (dSeqI (dVar 0)) (tgN 2) (dNot (asB (dCall g__law_is_pair [false, false, false] (dCons (dVar 2) (dCons (dDisp mkTup (dCons (dC (.int 1)) (dCons (dC (.int 400)) dNil))) (dCons (dDisp mkTup (dCons (dC (.int 1)) (dCons (dOp2 gPow (dC (.int 10)) (dC (.int 6))) dNil))) dNil)))))) (dVar 2)) (dDisp mkLst dNil)))
  (dRet (dC (.bool false)))
  Ou.next)
  (dSeq (dSet false 1 (dLc [2] (dSeqI (dVar 0)) (tgN 2) dYes (dOp2 gIx (dVar 2) (dC (.int 0)))))
  (dRet (dOp2 gEq (dVar 1) (dSortSet (dVar 1)))))))
def g__law_is_schedule : List Sl → FRes := dFun 3 b__law_is_schedule
def b_is_trip : Rho → Ou := (dRet (dCall g_is_pair [false, false, false] (dCons (dVar 0) (dCons (dDisp mkTup (dCons (dC (.int 0)) (dCons (dC (.int 1000000000)) dNil))) (dCons (dDisp mkTup (dCons (dC (.int 0)) (dCons (dC (.int 1000000)) dNil))) dNil)))))
def g_is_trip : List Sl → FRes := dFun 1 b_is_trip
def b_are_trips : Rho → Ou := (dSeq (dIfS (dOr (dNot (asB (dIsi (tbOf "tuple") (dVar 0)))) (dOr (asB (dOp2 gGt (dBlt gLen (dCons (dVar 0) dNil)) (dC (.int 40)))) (dNot (asB (dBlt gAll (dCons (dLc [1] (dSeqI (dVar 0)) (tgN 1) dYes (dCall g_is_trip [false] (dCons (dVar 1) dNil))) dNil))))))
  (dRet (dC (.bool false)))
  Ou.next)
  (dRet (dBlt gAll (dCons (dLc [1, 2] (dItr gZip (dCons (dVar 0) (dCons (dSl (dVar 0) (dPs (dC (.int 1))) dPn) dNil))) (tgTup 2 (tgCons (tgN 1) (tgCons (tgN 2) tgNil))) dYes (dOp2 gLe (dOp2 gIx (dVar 1) (dC (.int 0))) (dOp2 gIx (dVar 2) (dC (.int 0))))) dNil))))
def g_are_trips : List Sl → FRes := dFun 3 b_are_trips
def b__law_are_trips : Rho → Ou := (dSeq (dIfS (dOr (dNot (asB (dIsi (tbOf "tuple") (dVar 0)))) (asB (dOp2 gGt (dBlt gLen (dCons (dVar 0) dNil)) (dC (.int 40)))))
  (dRet (dC (.bool false)))
  Ou.next)
  (dSeq (dIfS (asB (dOp2 gNe (dLc [2] (dSeqI (dVar 0)) (tgN 2) (dNot (asB (dCall g__law_is_pair [false, false, false] (dCons (dVar 2) (dCons (dDisp mkTup (dCons (dC (.int 0)) (dCons (dOp2 gPow (dC (.int 10)) (dC (.int 9))) dNil))) (dCons (dDisp mkTup (dCons (dC (.int 0)) (dCons (dOp2 gPow (dC (.int 10)) (dC (.int 6))) dNil))) dNil)))))) (dVar 2)) (dDisp mkLst dNil)))
  (dRet (dC (.bool false)))
  Ou.next)
  (dSeq (dSet false 1 (dLc [2] (dSeqI (dVar 0)) (tgN 2) dYes (dOp2 gIx (dVar 2) (dC (.int 0)))))
  (dRet (dOp2 gEq (dVar 1) (dBlt gSortI (dCons (dVar 1) dNil)))))))
def g__law_are_trips : List Sl → FRes := dFun 3 b__law_are_trips
def b__law_spoilt (g : List Sl → FRes) : Rho → Ou := (dSeq (dIfS (dAnd (asB (dIsi (tbOf "tuple") (dVar 1))) (dAnd (asB (dOp2 gGt (dBlt gLen (dCons (dVar 1) dNil)) (dC (.int 0)))) (asB (dOp2 gGt (dCall g__law_pick [true, false] (dCons (dVar 0) (dCons (dC (.int 7)) dNil))) (dC (.int 0))))))
  (dSeq (dSet false 2 (dCall g__law_pick [true, false] (dCons (dVar 0) (dCons (dBlt gLen (dCons (dVar 1) dNil)) dNil))))
  (dRet (dOp2 gAdd (dOp2 gAdd (dSl (dVar 1) dPn (dPs (dVar 2))) (dDisp mkTup (dCons (dCall g [true, false] (dCons (dVar 0) (dCons (dOp2 gIx (dVar 1) (dVar 2)) dNil))) dNil))) (dSl (dVar 1) (dPs (dOp2 gAdd (dVar 2) (dC (.int 1)))) dPn))))
  Ou.next)
  (dSeq (dIfS (asB (dIsi (tbOf "tuple") (dVar 1)))
  (dRet (dOp2 gIx (dDisp mkLst (dCons (dBlt gList (dCons (dVar 1) dNil)) (dCons (dOp2 gAdd (dVar 1) (dSl (dVar 1) dPn (dPs (dC (.int 1))))) (dCons (dSl (dVar 1) (dPs (dC (.int 1))) dPn) (dCons dNo (dCons (dC .none) (dCons (dDisp mkTup dNil) (dCons (dDisp mkTup (dCons (dC (.int 1)) (dCons (dC (.int 1)) dNil))) (dCons (dC (.int 7)) dNil))))))))) (dCall g__law_pick [true, false] (dCons (dVar 0) (dCons (dC (.int 8)) dNil)))))
  Ou.next)
  (dSeq (dIfS (asB (dIsi (tbOf "int") (dVar 1)))
  (dSeq (dSet false 3 (dDisp mkLst (dCons (dOp2 gAdd (dVar 1) (dC (.int 1))) (dCons (dOp2 gSub (dVar 1) (dC (.int 1))) (dCons (dC (.bool true)) (dCons (dC .none) (dCons (dC (.int 0)) (dCons (dC (.int 400)) (dCons (dC (.int 401)) (dCons (dOp2 gPow (dC (.int 10)) (dC (.int 6))) (dCons (dOp2 gAdd (dOp2 gPow (dC (.int 10)) (dC (.int 6))) (dC (.int 1))) (dCons (dOp2 gPow (dC (.int 10)) (dC (.int 9))) (dCons (dC (.str "1")) (dCons (dNeg (dC (.int 1))) dNil))))))))))))))
  (dRet (dOp2 gIx (dVar 3) (dCall g__law_pick [true, false] (dCons (dVar 0) (dCons (dBlt gLen (dCons (dVar 3) dNil)) dNil))))))
  Ou.next)
  (dRet (dOp2 gIx (dDisp mkLst (dCons (dC .none) (dCons (dC (.int 7)) (dCons (dC (.str "")) (dCons (dDisp mkTup dNil) dNil))))) (dCall g__law_pick [true, false] (dCons (dVar 0) (dCons (dC (.int 4)) dNil))))))))
def gn__law_spoilt : Nat → List Sl → FRes
  | 0 => fun _ => .stuck
  | n + 1 => dFun 4 (b__law_spoilt (gn__law_spoilt n))
def g__law_spoilt : List Sl → FRes := gn__law_spoilt 8
def b_need_schedule : Rho → Ou := (dIfS (dNot (asB (dCall g_is_schedule [false] (dCons (dVar 0) dNil))))
  (dRaise "InvalidSchedule")
  Ou.next)
def g_need_schedule : List Sl → FRes := dFun 1 b_need_schedule
def b_need_trips : Rho → Ou := (dIfS (dNot (asB (dCall g_are_trips [false] (dCons (dVar 0) dNil))))
  (dRaise "InvalidTrips")
  Ou.next)
def g_need_trips : List Sl → FRes := dFun 1 b_need_trips
def b_need_both : Rho → Ou := (dSeq (dDrop (dCall g_need_schedule [false] (dCons (dVar 0) dNil)))
  (dDrop (dCall g_need_trips [false] (dCons (dVar 1) dNil))))
def g_need_both : List Sl → FRes := dFun 2 b_need_both
def b_room_at : Rho → Ou := (dSeq (dSet true 3 (dDisp mkLst dNil))
  (dSeq (dFor (dSeqI (dVar 0)) (tgTup 2 (tgCons (tgN 4) (tgCons (tgN 5) tgNil)))
  (dApp 3 (dOp2 gSub (dVar 5) (dBlt gSum (dCons (dLc [6, 7] (dSeqI (dVar 1)) (tgTup 2 (tgCons (tgN 6) (tgCons (tgN 7) tgNil))) (asB (dOp2 gGt (dVar 6) (dOp2 gSub (dVar 2) (dVar 4)))) (dVar 7)) dNil)))))
  (dRet (dBlt gMin (dCons (dVar 3) dNil)))))
def g_room_at : List Sl → FRes := dFun 8 b_room_at
def b_all_charges : Rho → Ou := (dSeq (dSet true 2 (dDisp mkLst dNil))
  (dSeq (dFor (dSeqI (dVar 1)) (tgTup 2 (tgCons (tgN 3) (tgCons (tgN 4) tgNil)))
  (dApp 2 (dDisp mkTup (dCons (dVar 3) (dCons (dBlt gMin (dCons (dVar 4) (dCons (dCall g_room_at [false, false, false] (dCons (dVar 0) (dCons (dVar 2) (dCons (dVar 3) dNil)))) dNil))) dNil)))))
  (dRet (dLc [3, 5] (dSeqI (dVar 2)) (tgTup 2 (tgCons (tgN 3) (tgCons (tgN 5) tgNil))) dYes (dVar 5)))))
def g_all_charges : List Sl → FRes := dFun 6 b_all_charges
def b_charges : Rho → Ou := (dSeq (dDrop (dCall g_need_both [false, false] (dCons (dVar 0) (dCons (dVar 1) dNil))))
  (dRet (dCall g_all_charges [false, false] (dCons (dVar 0) (dCons (dVar 1) dNil)))))
def g_charges : List Sl → FRes := dFun 2 b_charges
def b_law_k01 : Rho → Ou := (dSeq (dSet false 1 dNo)
  (dSeq (dFor (dSeqI (dSl (dAddS 0 (dDisp mkLst (dCons (dC (.int 0)) dNil))) dPn (dPs (dC (.int 10))))) (tgN 2)
  (dSeq (dSet true 4 (dCall g__law_deck [false, false] (dCons (dVar 2) (dCons (dC (.int 1)) dNil))))
  (dFor (dSeqI (dDisp mkTup (dCons (dCall g__law_schedule [true, false, false] (dCons (dVar 4) (dCons (dC (.int 5)) (dCons (dC (.int 400)) dNil)))) (dCons (dCall g__law_trips [true, false, false] (dCons (dVar 4) (dCons (dC (.int 40)) (dCons (dC (.int 300)) dNil)))) dNil)))) (tgN 5)
  (dSeq (dSet false 8 (dLc [9] (dRng gRng1 (dCons (dC (.int 6)) dNil)) (tgN 9) dYes (dCall g__law_spoilt [true, false] (dCons (dVar 4) (dCons (dVar 5) dNil)))))
  (dSet false 1 (dOp2 gAdd (dOp2 gAdd (dOp2 gAdd (dVar 1) (dDisp mkLst (dCons (dVar 5) (dCons (dBlt gList (dCons (dVar 5) dNil)) dNil)))) (dVar 8)) (dLc [10] (dSeqI (dVar 8)) (tgN 10) dYes (dCall g__law_spoilt [true, false] (dCons (dVar 4) (dCons (dVar 10) dNil))))))))))
  (dSeq (dFor (dSeqI (dVar 1)) (tgN 3)
  (dSeq (dPar false false 6 7 (dCall g_is_schedule [false] (dCons (dVar 3) dNil)) (dCall g__law_is_schedule [false] (dCons (dVar 3) dNil)))
  (dSeq (dIfS (dOr (dNot (asB (dIsi (tbOf "bool") (dVar 6)))) (asB (dOp2 gNe (dVar 6) (dVar 7))))
  (dRet (dC (.bool false)))
  Ou.next)
  (dSeq (dIfS (dAnd (dNot (asB (dVar 7))) (asB (dOp2 gNe (dTry (dCall g_charges [false, false] (dCons (dVar 3) (dCons (dC .none) dNil)))) (dC (.str "Schedule+")))))
  (dRet (dC (.bool false)))
  Ou.next)
  (dSeq (dPar false false 6 7 (dCall g_are_trips [false] (dCons (dVar 3) dNil)) (dCall g__law_are_trips [false] (dCons (dVar 3) dNil)))
  (dSeq (dIfS (dOr (dNot (asB (dIsi (tbOf "bool") (dVar 6)))) (asB (dOp2 gNe (dVar 6) (dVar 7))))
  (dRet (dC (.bool false)))
  Ou.next)
  (dIfS (dAnd (dNot (asB (dVar 7))) (asB (dOp2 gNe (dTry (dCall g_charges [false, false] (dCons (dDisp mkTup (dCons (dDisp mkTup (dCons (dC (.int 1)) (dCons (dC (.int 1)) dNil))) dNil)) (dCons (dVar 3) dNil)))) (dC (.str "Trips+")))))
  (dRet (dC (.bool false)))
  Ou.next)))))))
  (dRet (dC (.bool true))))))
def g_law_k01 : List Sl → FRes := dFun 11 b_law_k01
def b_total_of : Rho → Ou := (dRet (dBlt gSum (dCons (dCall g_all_charges [false, false] (dCons (dVar 0) (dCons (dVar 1) dNil))) dNil)))
def g_total_of : List Sl → FRes := dFun 2 b_total_of
def b_total : Rho → Ou := (dSeq (dDrop (dCall g_need_both [false, false] (dCons (dVar 0) (dCons (dVar 1) dNil))))
  (dRet (dCall g_total_of [false, false] (dCons (dVar 0) (dCons (dVar 1) dNil)))))
def g_total : List Sl → FRes := dFun 2 b_total
def b__law_charges : Rho → Ou := (dSeq (dSet true 2 (dDisp mkLst dNil))
  (dSeq (dFor (dItr gEnum (dCons (dVar 1) dNil)) (tgTup 2 (tgCons (tgN 3) (tgCons (tgTup 2 (tgCons (tgN 4) (tgCons (tgN 5) tgNil))) tgNil)))
  (dSeq (dSet true 6 (dDisp mkLst (dCons (dVar 5) dNil)))
  (dSeq (dFor (dSeqI (dVar 0)) (tgTup 2 (tgCons (tgN 7) (tgCons (tgN 8) tgNil)))
  (dApp 6 (dOp2 gSub (dVar 8) (dBlt gSum (dCons (dLc [9] (dRng gRng1 (dCons (dVar 3) dNil)) (tgN 9) (asB (dOp2 gGt (dOp2 gIx (dOp2 gIx (dVar 1) (dVar 9)) (dC (.int 0))) (dOp2 gSub (dVar 4) (dVar 7)))) (dOp2 gIx (dVar 2) (dVar 9))) dNil)))))
  (dApp 2 (dBlt gMin (dCons (dVar 6) dNil))))))
  (dRet (dVar 2))))
def g__law_charges : List Sl → FRes := dFun 10 b__law_charges
def b__law_sort : Rho → Ou := (dSeq (dIfS (asB (dIsi (tbOf "bool") (dVar 0)))
  (dRet (dC (.int 1)))
  Ou.next)
  (dSeq (dIfS (asB (dIsi (tbOf "int") (dVar 0)))
  (dRet (dC (.int 2)))
  Ou.next)
  (dSeq (dIfS (asB (dIsi (tbOf "str") (dVar 0)))
  (dRet (dC (.int 3)))
  Ou.next)
  (dSeq (dIfS (asB (dIsi (tbOf "list") (dVar 0)))
  (dRet (dC (.int 4)))
  Ou.next)
  (dRet (dIf (asB (dIsi (tbOf "tuple") (dVar 0))) (dC (.int 5)) (dC (.int 6))))))))
def g__law_sort : List Sl → FRes := dFun 1 b__law_sort
def b__law_same (g : List Sl → FRes) : Rho → Ou := (dSeq (dIfS (asB (dOp2 gNe (dCall g__law_sort [false] (dCons (dVar 0) dNil)) (dCall g__law_sort [false] (dCons (dVar 1) dNil))))
  (dRet (dC (.bool false)))
  Ou.next)
  (dSeq (dIfS (dAnd (asB (dOp2 gGt (dCall g__law_sort [false] (dCons (dVar 0) dNil)) (dC (.int 3)))) (asB (dOp2 gLt (dCall g__law_sort [false] (dCons (dVar 0) dNil)) (dC (.int 6)))))
  (dSeq (dIfS (asB (dOp2 gNe (dBlt gLen (dCons (dVar 0) dNil)) (dBlt gLen (dCons (dVar 1) dNil))))
  (dRet (dC (.bool false)))
  Ou.next)
  (dRet (dOp2 gEq (dLc [2, 3] (dItr gEnum (dCons (dVar 0) dNil)) (tgTup 2 (tgCons (tgN 2) (tgCons (tgN 3) tgNil))) (dNot (asB (dCall g [false, false] (dCons (dVar 3) (dCons (dOp2 gIx (dVar 1) (dVar 2)) dNil))))) (dVar 2)) (dDisp mkLst dNil))))
  Ou.next)
  (dRet (dOp2 gEq (dVar 0) (dVar 1)))))
def gn__law_same : Nat → List Sl → FRes
  | 0 => fun _ => .stuck
  | n + 1 => dFun 4 (b__law_same (gn__law_same n))
def g__law_same : List Sl → FRes := gn__law_same 8
def b_law_k02 : Rho → Ou := (dSeq (dFor (dSeqI (dSl (dAddS 0 (dDisp mkLst (dCons (dC (.int 0)) dNil))) dPn (dPs (dC (.int 8))))) (tgN 1)
  (dSeq (dSet true 2 (dCall g__law_deck [false, false] (dCons (dVar 1) (dCons (dC (.int 2)) dNil))))
  (dFor (dRng gRng1 (dCons (dC (.int 3)) dNil)) (tgN 3)
  (dSeq (dSet false 4 (dCall g__law_one [true, false] (dCons (dVar 2) (dCons (dDisp mkLst (dCons (dC (.int 10)) (dCons (dC (.int 60)) (dCons (dC (.int 500)) dNil)))) dNil))))
  (dSeq (dPar false false 5 6 (dCall g__law_schedule [true, false, false] (dCons (dVar 2) (dCons (dC (.int 5)) (dCons (dCall g__law_one [true, false] (dCons (dVar 2) (dCons (dDisp mkLst (dCons (dC (.int 8)) (dCons (dC (.int 40)) (dCons (dC (.int 400)) dNil)))) dNil))) dNil)))) (dCall g__law_trips [true, false, false] (dCons (dVar 2) (dCons (dC (.int 40)) (dCons (dVar 4) dNil)))))
  (dSeq (dPar false true 7 8 (dCall g__law_charges [false, false] (dCons (dVar 5) (dCons (dVar 6) dNil))) (dCall g_charges [false, false] (dCons (dVar 5) (dCons (dVar 6) dNil))))
  (dSeq (dIfS (dOr (dNot (asB (dCall g__law_same [false, false] (dCons (dVar 8) (dCons (dVar 7) dNil))))) (dNot (asB (dCall g__law_same [false, false] (dCons (dCall g_total [false, false] (dCons (dVar 5) (dCons (dVar 6) dNil))) (dCons (dBlt gSum (dCons (dVar 7) dNil)) dNil))))))
  (dRet (dC (.bool false)))
  Ou.next)
  (dSeq (dApp 8 (dC (.int 0)))
  (dSeq (dSet false 9 (dCall g__law_pick [true, false] (dCons (dVar 2) (dCons (dOp2 gAdd (dBlt gLen (dCons (dVar 6) dNil)) (dC (.int 1))) dNil))))
  (dIfS (dOr (asB (dOp2 gNe (dCall g_charges [false, false] (dCons (dVar 5) (dCons (dVar 6) dNil))) (dVar 7))) (asB (dOp2 gNe (dCall g_charges [false, false] (dCons (dVar 5) (dCons (dSl (dVar 6) dPn (dPs (dVar 9))) dNil))) (dSl (dVar 7) dPn (dPs (dVar 9))))))
  (dRet (dC (.bool false)))
  Ou.next))))))))))
  (dSeq (dIfS (asB (dOp2 gNe (dCall g_charges [false, false] (dCons (dDisp mkTup (dCons (dDisp mkTup (dCons (dC (.int 3)) (dCons (dC (.int 5)) dNil))) dNil)) (dCons (dDisp mkTup (dCons (dDisp mkTup (dCons (dC (.int 0)) (dCons (dC (.int 2)) dNil))) (dCons (dDisp mkTup (dCons (dC (.int 1)) (dCons (dC (.int 2)) dNil))) (dCons (dDisp mkTup (dCons (dC (.int 2)) (dCons (dC (.int 2)) dNil))) (dCons (dDisp mkTup (dCons (dC (.int 3)) (dCons (dC (.int 2)) dNil))) dNil))))) dNil))) (dDisp mkLst (dCons (dC (.int 2)) (dCons (dC (.int 2)) (dCons (dC (.int 1)) (dCons (dC (.int 2)) dNil)))))))
  (dRet (dC (.bool false)))
  Ou.next)
  (dRet (asV (dAnd (asB (dOp2 gEq (dCall g_charges [false, false] (dCons (dDisp mkTup (dCons (dDisp mkTup (dCons (dC (.int 3)) (dCons (dC (.int 5)) dNil))) (dCons (dDisp mkTup (dCons (dC (.int 9)) (dCons (dC (.int 6)) dNil))) dNil))) (dCons (dDisp mkTup (dCons (dDisp mkTup (dCons (dC (.int 0)) (dCons (dC (.int 4)) dNil))) (dCons (dDisp mkTup (dCons (dC (.int 2)) (dCons (dC (.int 4)) dNil))) (dCons (dDisp mkTup (dCons (dC (.int 3)) (dCons (dC (.int 4)) dNil))) (dCons (dDisp mkTup (dCons (dC (.int 9)) (dCons (dC (.int 9)) dNil))) dNil))))) dNil))) (dDisp mkLst (dCons (dC (.int 4)) (dCons (dC (.int 1)) (dCons (dC (.int 1)) (dCons (dC (.int 4)) dNil))))))) (asB (dOp2 gEq (dCall g_total [false, false] (dCons (dDisp mkTup (dCons (dDisp mkTup (dCons (dC (.int 1)) (dCons (dC (.int 1)) dNil))) dNil)) (dCons (dDisp mkTup dNil) dNil))) (dC (.int 0)))))))))
def g_law_k02 : List Sl → FRes := dFun 10 b_law_k02
def b__law_least : Rho → Ou := (dSeq (dSet true 2 (dOp2 gMul (dDisp mkLst (dCons (dC (.int 0)) dNil)) (dOp2 gAdd (dBlt gLen (dCons (dVar 1) dNil)) (dC (.int 1)))))
  (dSeq (dFor (dRng gRng3 (dCons (dOp2 gSub (dBlt gLen (dCons (dVar 1) dNil)) (dC (.int 1))) (dCons (dNeg (dC (.int 1))) (dCons (dNeg (dC (.int 1))) dNil)))) (tgN 3)
  (dSeq (dAsg (tgTup 2 (tgCons (tgN 4) (tgCons (tgN 5) tgNil))) (dOp2 gIx (dVar 1) (dVar 3)))
  (dSeq (dSet true 6 (dDisp mkLst (dCons (dOp2 gAdd (dVar 5) (dOp2 gIx (dVar 2) (dOp2 gAdd (dVar 3) (dC (.int 1))))) dNil)))
  (dSeq (dFor (dSeqI (dVar 0)) (tgTup 2 (tgCons (tgN 7) (tgCons (tgN 8) tgNil)))
  (dSeq (dSet false 9 (dOp2 gAdd (dLc [10] (dRng gRng1 (dCons (dBlt gLen (dCons (dVar 1) dNil)) dNil)) (tgN 10) (asB (dOp2 gGe (dOp2 gIx (dOp2 gIx (dVar 1) (dVar 10)) (dC (.int 0))) (dOp2 gAdd (dVar 4) (dVar 7)))) (dVar 10)) (dDisp mkLst (dCons (dBlt gLen (dCons (dVar 1) dNil)) dNil))))
  (dApp 6 (dOp2 gAdd (dVar 8) (dOp2 gIx (dVar 2) (dOp2 gIx (dVar 9) (dC (.int 0))))))))
  (dSetIx 2 (dVar 3) (dBlt gMin (dCons (dVar 6) dNil)))))))
  (dRet (dOp2 gIx (dVar 2) (dC (.int 0))))))
def g__law_least : List Sl → FRes := dFun 11 b__law_least
def b_law_k03 : Rho → Ou := (dSeq (dFor (dSeqI (dSl (dAddS 0 (dDisp mkLst (dCons (dC (.int 0)) dNil))) dPn (dPs (dC (.int 8))))) (tgN 1)
  (dSeq (dSet true 2 (dCall g__law_deck [false, false] (dCons (dVar 1) (dCons (dC (.int 3)) dNil))))
  (dFor (dRng gRng1 (dCons (dC (.int 2)) dNil)) (tgN 3)
  (dSeq (dSet false 4 (dCall g__law_one [true, false] (dCons (dVar 2) (dCons (dDisp mkLst (dCons (dC (.int 10)) (dCons (dC (.int 60)) (dCons (dC (.int 500)) dNil)))) dNil))))
  (dSeq (dPar false false 5 6 (dCall g__law_schedule [true, false, false] (dCons (dVar 2) (dCons (dC (.int 5)) (dCons (dCall g__law_one [true, false] (dCons (dVar 2) (dCons (dDisp mkLst (dCons (dC (.int 8)) (dCons (dC (.int 40)) (dCons (dC (.int 400)) dNil)))) dNil))) dNil)))) (dCall g__law_trips [true, false, false] (dCons (dVar 2) (dCons (dC (.int 40)) (dCons (dVar 4) dNil)))))
  (dSeq (dSet false 7 (dCall g_charges [false, false] (dCons (dVar 5) (dCons (dVar 6) dNil))))
  (dSeq (dFor (dRng gRng1 (dCons (dOp2 gAdd (dBlt gLen (dCons (dVar 6) dNil)) (dC (.int 1))) dNil)) (tgN 8)
  (dIfS (asB (dOp2 gNe (dBlt gSum (dCons (dSl (dVar 7) dPn (dPs (dVar 8))) dNil)) (dCall g__law_least [false, false] (dCons (dVar 5) (dCons (dSl (dVar 6) dPn (dPs (dVar 8))) dNil)))))
  (dRet (dC (.bool false)))
  Ou.next))
  (dIfS (asB (dOp2 gNe (dCall g_total [false, false] (dCons (dVar 5) (dCons (dVar 6) dNil))) (dBlt gSum (dCons (dVar 7) dNil))))
  (dRet (dC (.bool false)))
  Ou.next))))))))
  (dRet (dC (.bool true))))
def g_law_k03 : List Sl → FRes := dFun 9 b_law_k03
def b__law_subsets_k04 : Rho → Ou := (dSeq (dSet false 1 (dDisp mkLst (dCons (dDisp mkTup dNil) dNil)))
  (dSeq (dFor (dSeqI (dVar 0)) (tgN 2)
  (dSet false 1 (dOp2 gAdd (dVar 1) (dLc [3] (dSeqI (dVar 1)) (tgN 3) dYes (dOp2 gAdd (dVar 3) (dDisp mkTup (dCons (dVar 2) dNil)))))))
  (dRet (dVar 1))))
def g__law_subsets_k04 : List Sl → FRes := dFun 4 b__law_subsets_k04
def b__law_ascending : Rho → Ou := (dRet (dOp2 gEq (dLc [1] (dRng gRng1 (dCons (dOp2 gSub (dBlt gLen (dCons (dVar 0) dNil)) (dC (.int 1))) dNil)) (tgN 1) (dNot (asB (dOp2 gLt (dOp2 gIx (dVar 0) (dVar 1)) (dOp2 gIx (dVar 0) (dOp2 gAdd (dVar 1) (dC (.int 1))))))) (dVar 1)) (dDisp mkLst dNil)))
def g__law_ascending : List Sl → FRes := dFun 2 b__law_ascending
def b__law_cost : Rho → Ou := (dSeq (dIfS (dOr (dNot (asB (dIsi (tbOf "tuple") (dVar 2)))) (asB (dOp2 gNe (dBlt gLen (dCons (dVar 2) dNil)) (dC (.int 2)))))
  (dRet (dC .none))
  Ou.next)
  (dSeq (dIfS (dOr (dNot (asB (dIsi (tbOf "tuple") (dOp2 gIx (dVar 2) (dC (.int 0)))))) (dNot (asB (dIsi (tbOf "tuple") (dOp2 gIx (dVar 2) (dC (.int 1)))))))
  (dRet (dC .none))
  Ou.next)
  (dSeq (dAsg (tgTup 2 (tgCons (tgN 3) (tgCons (tgN 4) tgNil))) (dVar 2))
  (dSeq (dFor (dSeqI (dVar 3)) (tgN 5)
  (dSeq (dIfS (dOr (dNot (asB (dIsi (tbOf "tuple") (dVar 5)))) (dOr (asB (dOp2 gNe (dBlt gLen (dCons (dVar 5) dNil)) (dC (.int 2)))) (dOr (dNot (asB (dCall g__law_whole [false] (dCons (dOp2 gIx (dVar 5) (dC (.int 0))) dNil)))) (dNot (asB (dCall g__law_whole [false] (dCons (dOp2 gIx (dVar 5) (dC (.int 1))) dNil)))))))
  (dRet (dC .none))
  Ou.next)
  (dIfS (dOr (dNot (dChain gLe gLt (dC (.int 0)) (dOp2 gIx (dVar 5) (dC (.int 0))) (dBlt gLen (dCons (dVar 0) dNil)))) (dNot (dChain gLe gLt (dC (.int 0)) (dOp2 gIx (dVar 5) (dC (.int 1))) (dBlt gLen (dCons (dVar 1) dNil)))))
  (dRet (dC .none))
  Ou.next)))
  (dSeq (dIfS (asB (dOp2 gNe (dLc [5] (dSeqI (dVar 4)) (tgN 5) (dOr (dNot (asB (dCall g__law_whole [false] (dCons (dVar 5) dNil)))) (dNot (dChain gLe gLt (dC (.int 0)) (dVar 5) (dBlt gLen (dCons (dVar 1) dNil))))) (dVar 5)) (dDisp mkLst dNil)))
  (dRet (dC .none))
  Ou.next)
  (dSeq (dIfS (dOr (dNot (asB (dCall g__law_ascending [false] (dCons (dVar 3) dNil)))) (dNot (asB (dCall g__law_ascending [false] (dCons (dVar 4) dNil)))))
  (dRet (dC .none))
  Ou.next)
  (dSeq (dFor (dItr gEnum (dCons (dVar 1) dNil)) (tgTup 2 (tgCons (tgN 6) (tgCons (tgTup 2 (tgCons (tgN 7) (tgCons (tgN 8) tgNil))) tgNil)))
  (dSeq (dSet false 9 (dLc [11, 12] (dSeqI (dVar 3)) (tgTup 2 (tgCons (tgN 11) (tgCons (tgN 12) tgNil))) dYes (dDisp mkTup (dCons (dOp2 gIx (dOp2 gIx (dVar 1) (dVar 12)) (dC (.int 0))) (dCons (dOp2 gIx (dOp2 gIx (dVar 0) (dVar 11)) (dC (.int 0))) dNil)))))
  (dSeq (dSet false 10 (dLc [13, 14] (dSeqI (dVar 9)) (tgTup 2 (tgCons (tgN 13) (tgCons (tgN 14) tgNil))) (dChain gLe gLt (dVar 13) (dVar 7) (dOp2 gAdd (dVar 13) (dVar 14))) (dVar 13)))
  (dIfS (dAnd (asB (dOp2 gEq (dVar 10) (dDisp mkLst dNil))) (asB (dOp2 (gIn true) (dVar 6) (dVar 4))))
  (dRet (dC .none))
  Ou.next))))
  (dRet (dOp2 gAdd (dBlt gSum (dCons (dLc [11, 12] (dSeqI (dVar 3)) (tgTup 2 (tgCons (tgN 11) (tgCons (tgN 12) tgNil))) dYes (dOp2 gIx (dOp2 gIx (dVar 0) (dVar 11)) (dC (.int 1)))) dNil)) (dBlt gSum (dCons (dLc [6] (dSeqI (dVar 4)) (tgN 6) dYes (dOp2 gIx (dOp2 gIx (dVar 1) (dVar 6)) (dC (.int 1)))) dNil)))))))))))
def g__law_cost : List Sl → FRes := dFun 15 b__law_cost
def b_covered : Rho → Ou := (dSeq (dSet true 3 dNewK)
  (dSeq (dFor (dSeqI (dVar 2)) (tgTup 2 (tgCons (tgN 4) (tgCons (tgN 5) tgNil)))
  (dSeq (dSet false 6 (dOp2 gIx (dOp2 gIx (dVar 1) (dVar 5)) (dC (.int 0))))
  (dFor (dItr gEnum (dCons (dVar 1) dNil)) (tgTup 2 (tgCons (tgN 7) (tgCons (tgN 8) tgNil)))
  (dIfS (dChain gLe gLt (dVar 6) (dOp2 gIx (dVar 8) (dC (.int 0))) (dOp2 gAdd (dVar 6) (dOp2 gIx (dOp2 gIx (dVar 0) (dVar 4)) (dC (.int 0)))))
  (dPutK 3 (dVar 7) (dC (.bool true)))
  Ou.next))))
  (dRet (dVar 3))))
def g_covered : List Sl → FRes := dFun 9 b_covered
def b_is_plan : Rho → Ou := (dSeq (dIfS (dOr (dNot (asB (dIsi (tbOf "tuple") (dVar 2)))) (dOr (asB (dOp2 gNe (dBlt gLen (dCons (dVar 2) dNil)) (dC (.int 2)))) (dNot (asB (dBlt gAll (dCons (dLc [4] (dSeqI (dVar 2)) (tgN 4) dYes (dIsi (tbOf "tuple") (dVar 4))) dNil))))))
  (dRet (dC (.bool false)))
  Ou.next)
  (dSeq (dFor (dSeqI (dOp2 gIx (dVar 2) (dC (.int 0)))) (tgN 3)
  (dSeq (dIfS (dOr (dNot (asB (dIsi (tbOf "tuple") (dVar 3)))) (asB (dOp2 gNe (dBlt gLen (dCons (dVar 3) dNil)) (dC (.int 2)))))
  (dRet (dC (.bool false)))
  Ou.next)
  (dIfS (dOr (dNot (asB (dCall g_is_from [false, false, false] (dCons (dOp2 gIx (dVar 3) (dC (.int 0))) (dCons (dC (.int 0)) (dCons (dOp2 gSub (dBlt gLen (dCons (dVar 0) dNil)) (dC (.int 1))) dNil)))))) (dNot (asB (dCall g_is_from [false, false, false] (dCons (dOp2 gIx (dVar 3) (dC (.int 1))) (dCons (dC (.int 0)) (dCons (dOp2 gSub (dBlt gLen (dCons (dVar 1) dNil)) (dC (.int 1))) dNil)))))))
  (dRet (dC (.bool false)))
  Ou.next)))
  (dSeq (dIfS (dNot (asB (dBlt gAll (dCons (dLc [3] (dSeqI (dOp2 gIx (dVar 2) (dC (.int 1)))) (tgN 3) dYes (dCall g_is_from [false, false, false] (dCons (dVar 3) (dCons (dC (.int 0)) (dCons (dOp2 gSub (dBlt gLen (dCons (dVar 1) dNil)) (dC (.int 1))) dNil))))) dNil))))
  (dRet (dC (.bool false)))
  Ou.next)
  (dRet (dBlt gAll (dCons dNo dNil))))))
def g_is_plan : List Sl → FRes := dFun 6 b_is_plan
def b_plan_cost : Rho → Ou := (dSeq (dDrop (dCall g_need_both [false, false] (dCons (dVar 0) (dCons (dVar 1) dNil))))
  (dSeq (dIfS (dNot (asB (dCall g_is_plan [false, false, false] (dCons (dVar 0) (dCons (dVar 1) (dCons (dVar 2) dNil))))))
  (dRet (dC .none))
  Ou.next)
  (dSeq (dAsg (tgTup 2 (tgCons (tgN 3) (tgCons (tgN 4) tgNil))) (dVar 2))
  (dSeq (dSet false 5 (dCall g_covered [false, false, false] (dCons (dVar 0) (dCons (dVar 1) (dCons (dVar 3) dNil)))))
  (dSeq (dIfS (dNot (asB (dBlt gAll (dCons (dLc [6] (dRng gRng1 (dCons (dBlt gLen (dCons (dVar 1) dNil)) dNil)) (tgN 6) dYes (asV (dOr (asB (dOp2 (gIn false) (dVar 6) (dVar 5))) (asB (dOp2 (gIn false) (dVar 6) (dVar 4)))))) dNil))))
  (dRet (dC .none))
  Ou.next)
  (dRet (dOp2 gAdd (dBlt gSum (dCons (dLc [7, 8] (dSeqI (dVar 3)) (tgTup 2 (tgCons (tgN 7) (tgCons (tgN 8) tgNil))) dYes (dOp2 gIx (dOp2 gIx (dVar 0) (dVar 7)) (dC (.int 1)))) dNil)) (dBlt gSum (dCons (dLc [6] (dSeqI (dVar 4)) (tgN 6) dYes (dOp2 gIx (dOp2 gIx (dVar 1) (dVar 6)) (dC (.int 1)))) dNil)))))))))
def g_plan_cost : List Sl → FRes := dFun 9 b_plan_cost
def b_law_k04 : Rho → Ou := (dSeq (dFor (dSeqI (dSl (dAddS 0 (dDisp mkLst (dCons (dC (.int 0)) dNil))) dPn (dPs (dC (.int 6))))) (tgN 1)
  (dSeq (dSet true 2 (dCall g__law_deck [false, false] (dCons (dVar 1) (dCons (dC (.int 4)) dNil))))
  (dSeq (dPar false false 3 4 (dCall g__law_schedule [true, false, false] (dCons (dVar 2) (dCons (dC (.int 2)) (dCons (dC (.int 6)) dNil)))) (dCall g__law_trips [true, false, false] (dCons (dVar 2) (dCons (dC (.int 4)) (dCons (dC (.int 9)) dNil)))))
  (dSeq (dPar false true 5 6 (dDisp mkLst dNil) (dDisp mkLst dNil))
  (dSeq (dFor (dRng gRng1 (dCons (dBlt gLen (dCons (dVar 3) dNil)) dNil)) (tgN 7)
  (dSet false 5 (dOp2 gAdd (dVar 5) (dLc [11] (dRng gRng1 (dCons (dBlt gLen (dCons (dVar 4) dNil)) dNil)) (tgN 11) dYes (dDisp mkTup (dCons (dVar 7) (dCons (dVar 11) dNil)))))))
  (dSeq (dFor (dSeqI (dCall g__law_subsets_k04 [false] (dCons (dVar 5) dNil))) (tgN 8)
  (dFor (dSeqI (dCall g__law_subsets_k04 [false] (dCons dNo dNil))) (tgN 9)
  (dSeq (dSet false 10 (dCall g__law_cost [false, false, false] (dCons (dVar 3) (dCons (dVar 4) (dCons (dDisp mkTup (dCons (dVar 8) (dCons (dVar 9) dNil))) dNil)))))
  (dSeq (dIfS (asB (dOp2 gNe (dCall g_plan_cost [false, false, false] (dCons (dVar 3) (dCons (dVar 4) (dCons (dDisp mkTup (dCons (dVar 8) (dCons (dVar 9) dNil))) dNil)))) (dVar 10)))
  (dRet (dC (.bool false)))
  Ou.next)
  (dIfS (asB (dOp2 gIsNot (dVar 10) (dC .none)))
  (dApp 6 (dVar 10))
  Ou.next)))))
  (dIfS (asB (dOp2 gNe (dBlt gMin (dCons (dVar 6) dNil)) (dCall g_total [false, false] (dCons (dVar 3) (dCons (dVar 4) dNil)))))
  (dRet (dC (.bool false)))
  Ou.next)))))))
  (dRet (dC (.bool true))))
def g_law_k04 : List Sl → FRes := dFun 12 b_law_k04
def b_charged : Rho → Ou := (dRet (dLc [2, 3] (dItr gZip (dCons (dVar 1) (dCons (dCall g_all_charges [false, false] (dCons (dVar 0) (dCons (dVar 1) dNil))) dNil))) (tgTup 2 (tgCons (tgN 2) (tgCons (tgN 3) tgNil))) dYes (dDisp mkTup (dCons (dOp2 gIx (dVar 2) (dC (.int 0))) (dCons (dVar 3) dNil)))))
def g_charged : List Sl → FRes := dFun 4 b_charged
def b_full_window : Rho → Ou := (dSeq (dAsg (tgTup 2 (tgCons (tgN 4) (tgCons (tgN 5) tgNil))) (dOp2 gIx (dVar 0) (dVar 2)))
  (dSeq (dSet false 6 (dOp2 gIx (dOp2 gIx (dVar 1) (dVar 3)) (dC (.int 0))))
  (dSeq (dSet false 7 (dLc [8] (dRng gRng1 (dCons (dOp2 gAdd (dVar 3) (dC (.int 1))) dNil)) (tgN 8) (asB (dOp2 gGt (dOp2 gIx (dOp2 gIx (dVar 1) (dVar 8)) (dC (.int 0))) (dOp2 gSub (dVar 6) (dVar 4)))) (dVar 8)))
  (dRet (dIf (asB (dOp2 gEq (dBlt gSum (dCons (dLc [8] (dSeqI (dVar 7)) (tgN 8) dYes (dOp2 gIx (dOp2 gIx (dVar 1) (dVar 8)) (dC (.int 1)))) dNil)) (dVar 5))) (dOp2 gIx (dVar 7) (dC (.int 0))) (dC .none))))))
def g_full_window : List Sl → FRes := dFun 9 b_full_window
def b_step_back : Rho → Ou := (dSeq (dIfS (asB (dOp2 gEq (dOp2 gIx (dOp2 gIx (dVar 2) (dVar 3)) (dC (.int 1))) (dOp2 gIx (dOp2 gIx (dVar 1) (dVar 3)) (dC (.int 1)))))
  (dRet (dDisp mkTup (dCons (dC .none) (dCons (dVar 3) dNil))))
  Ou.next)
  (dSeq (dFor (dRng gRng1 (dCons (dBlt gLen (dCons (dVar 0) dNil)) dNil)) (tgN 4)
  (dSeq (dSet false 5 (dCall g_full_window [false, false, false, false] (dCons (dVar 0) (dCons (dVar 2) (dCons (dVar 4) (dCons (dVar 3) dNil))))))
  (dIfS (asB (dOp2 gIsNot (dVar 5) (dC .none)))
  (dRet (dDisp mkTup (dCons (dVar 4) (dCons (dVar 5) dNil))))
  Ou.next)))
  (dRet (dDisp mkTup (dCons (dC .none) (dCons (dVar 3) dNil))))))
def g_step_back : List Sl → FRes := dFun 6 b_step_back
def b_cheapest_plan : Rho → Ou := (dSeq (dDrop (dCall g_need_both [false, false] (dCons (dVar 0) (dCons (dVar 1) dNil))))
  (dSeq (dSet false 2 (dCall g_charged [false, false] (dCons (dVar 0) (dCons (dVar 1) dNil))))
  (dSeq (dPar true true 3 4 (dDisp mkLst dNil) (dDisp mkLst dNil))
  (dSeq (dSet false 5 (dOp2 gSub (dBlt gLen (dCons (dVar 1) dNil)) (dC (.int 1))))
  (dSeq (dWhile (asB (dOp2 gGe (dVar 5) (dC (.int 0))))
  (dSeq (dAsg (tgTup 2 (tgCons (tgN 6) (tgCons (tgN 7) tgNil))) (dCall g_step_back [false, false, false, false] (dCons (dVar 0) (dCons (dVar 1) (dCons (dVar 2) (dCons (dVar 5) dNil))))))
  (dSeq (dIfS (asB (dOp2 gIs (dVar 6) (dC .none)))
  (dApp 4 (dVar 5))
  (dApp 3 (dDisp mkTup (dCons (dVar 6) (dCons (dVar 7) dNil)))))
  (dSet false 5 (dOp2 gSub (dVar 7) (dC (.int 1)))))) fuel)
  (dRet (dDisp mkTup (dCons (dBlt gTuple (dCons (dBlt gSortI (dCons (dVar 3) dNil)) dNil)) (dCons (dBlt gTuple (dCons (dBlt gSortI (dCons (dVar 4) dNil)) dNil)) dNil)))))))))
def g_cheapest_plan : List Sl → FRes := dFun 8 b_cheapest_plan
def b__law_others : Rho → Ou := (dSeq (dAsg (tgTup 2 (tgCons (tgN 4) (tgCons (tgN 5) tgNil))) (dVar 3))
  (dSeq (dSet true 6 (dDisp mkLst (dCons (dVar 3) (dCons (dBlt gList (dCons (dVar 3) dNil)) (dCons (dDisp mkTup (dCons (dVar 5) (dCons (dVar 4) dNil))) (dCons (dDisp mkTup (dCons (dVar 4) dNil)) (dCons (dDisp mkTup (dCons (dVar 4) (dCons (dVar 5) (dCons (dDisp mkTup dNil) dNil)))) dNil)))))))
  (dSeq (dSet true 6 (dOp2 gAdd (dVar 6) (dDisp mkLst (dCons (dC .none) (dCons (dDisp mkTup dNil) (dCons (dDisp mkTup (dCons (dDisp mkTup dNil) (dCons (dDisp mkTup dNil) dNil))) dNil))))))
  (dSeq (dSet true 6 (dOp2 gAdd (dVar 6) (dDisp mkLst (dCons (dDisp mkTup (dCons (dBlt gList (dCons (dVar 4) dNil)) (dCons (dVar 5) dNil))) (dCons (dDisp mkTup (dCons (dVar 4) (dCons (dBlt gList (dCons (dVar 5) dNil)) dNil))) (dCons (dDisp mkTup (dCons (dOp2 gAdd (dVar 4) (dDisp mkTup (dCons (dDisp mkTup (dCons (dC (.int 0)) (dCons (dC (.int 0)) dNil))) dNil))) (dCons (dVar 5) dNil))) dNil))))))
  (dSeq (dIfS (asB (dOp2 gNe (dVar 4) (dDisp mkTup dNil)))
  (dSeq (dSet false 8 (dCall g__law_pick [true, false] (dCons (dVar 0) (dCons (dBlt gLen (dCons (dVar 4) dNil)) dNil))))
  (dSeq (dAsg (tgTup 2 (tgCons (tgN 9) (tgCons (tgN 10) tgNil))) (dOp2 gIx (dVar 4) (dVar 8)))
  (dSeq (dFor (dSeqI (dDisp mkLst (dCons (dDisp mkTup (dCons (dVar 9) (dCons (dOp2 gAdd (dVar 10) (dC (.int 1))) dNil))) (dCons (dDisp mkTup (dCons (dVar 9) (dCons (dOp2 gSub (dVar 10) (dC (.int 1))) dNil))) (dCons (dDisp mkTup (dCons (dOp2 gAdd (dVar 9) (dC (.int 1))) (dCons (dVar 10) dNil))) (dCons (dDisp mkTup (dCons (dVar 9) (dCons (dC (.bool true)) dNil))) (dCons (dDisp mkLst (dCons (dVar 9) (dCons (dVar 10) dNil))) (dCons (dDisp mkTup (dCons (dVar 9) dNil)) (dCons (dDisp mkTup (dCons (dVar 9) (dCons (dVar 10) (dCons (dC (.int 0)) dNil)))) (dCons (dC .none) dNil)))))))))) (tgN 11)
  (dApp 6 (dDisp mkTup (dCons (dOp2 gAdd (dOp2 gAdd (dSl (dVar 4) dPn (dPs (dVar 8))) (dDisp mkTup (dCons (dVar 11) dNil))) (dSl (dVar 4) (dPs (dOp2 gAdd (dVar 8) (dC (.int 1)))) dPn)) (dCons (dVar 5) dNil)))))
  (dSet true 6 (dOp2 gAdd (dVar 6) (dDisp mkLst (dCons (dDisp mkTup (dCons (dOp2 gAdd (dSl (dVar 4) dPn (dPs (dVar 8))) (dSl (dVar 4) (dPs (dOp2 gAdd (dVar 8) (dC (.int 1)))) dPn)) (dCons (dVar 5) dNil))) (dCons (dDisp mkTup (dCons dNo (dCons (dVar 5) dNil))) dNil))))))))
  Ou.next)
  (dSeq (dSet false 7 dNo)
  (dSeq (dSet true 6 (dOp2 gAdd (dVar 6) (dDisp mkLst (dCons (dDisp mkTup (dCons (dDisp mkTup dNil) (dCons (dVar 7) dNil))) (dCons (dDisp mkTup (dCons (dVar 4) (dCons (dVar 7) dNil))) (dCons (dDisp mkTup (dCons (dVar 4) (dCons (dOp2 gAdd (dVar 7) (dDisp mkTup (dCons (dBlt gLen (dCons (dVar 2) dNil)) dNil))) dNil))) dNil))))))
  (dSeq (dApp 6 (dDisp mkTup (dCons (dVar 4) (dCons (dSl (dVar 5) (dPs (dC (.int 1))) dPn) dNil))))
  (dRet (dOp2 gAdd (dVar 6) (dDisp mkLst (dCons (dDisp mkTup (dCons (dVar 4) (dCons (dOp2 gAdd (dVar 5) (dSl (dVar 5) (dPs (dNeg (dC (.int 1)))) dPn)) dNil))) (dCons (dDisp mkTup (dCons (dVar 4) (dCons (dOp2 gAdd (dDisp mkTup (dCons (dNeg (dC (.int 1))) dNil)) (dVar 5)) dNil))) (dCons (dDisp mkTup (dCons (dVar 4) (dCons (dDisp mkTup (dCons (dC .none) dNil)) dNil))) dNil))))))))))))))
def g__law_others : List Sl → FRes := dFun 12 b__law_others
def b_full_windows : Rho → Ou := (dSeq (dDrop (dCall g_need_both [false, false] (dCons (dVar 0) (dCons (dVar 1) dNil))))
  (dSeq (dSet false 2 (dCall g_charged [false, false] (dCons (dVar 0) (dCons (dVar 1) dNil))))
  (dSeq (dSet true 3 (dDisp mkLst dNil))
  (dSeq (dFor (dRng gRng1 (dCons (dBlt gLen (dCons (dVar 0) dNil)) dNil)) (tgN 4)
  (dExtL 3 (dLc [5] (dRng gRng1 (dCons (dBlt gLen (dCons (dVar 1) dNil)) dNil)) (tgN 5) (asB (dOp2 gIsNot (dCall g_full_window [false, false, false, false] (dCons (dVar 0) (dCons (dVar 2) (dCons (dVar 4) (dCons (dVar 5) dNil))))) (dC .none))) (dDisp mkTup (dCons (dVar 4) (dCons (dVar 5) dNil))))))
  (dRet (dVar 3))))))
def g_full_windows : List Sl → FRes := dFun 6 b_full_windows
def b__law_total : Rho → Ou := (dRet (dBlt gSum (dCons (dCall g__law_charges [false, false] (dCons (dVar 0) (dCons (dVar 1) dNil))) dNil)))
def g__law_total : List Sl → FRes := dFun 2 b__law_total
def b_law_k05 : Rho → Ou := (dSeq (dFor (dSeqI (dSl (dAddS 0 (dDisp mkLst (dCons (dC (.int 0)) dNil))) dPn (dPs (dC (.int 8))))) (tgN 1)
  (dSeq (dSet true 2 (dCall g__law_deck [false, false] (dCons (dVar 1) (dCons (dC (.int 5)) dNil))))
  (dSeq (dFor (dRng gRng1 (dCons (dC (.int 2)) dNil)) (tgN 3)
  (dSeq (dSet false 5 (dCall g__law_schedule [true, false, false] (dCons (dVar 2) (dCons (dC (.int 5)) (dCons (dCall g__law_one [true, false] (dCons (dVar 2) (dCons (dDisp mkLst (dCons (dC (.int 8)) (dCons (dC (.int 40)) (dCons (dC (.int 400)) dNil)))) dNil))) dNil)))))
  (dSeq (dSet false 6 (dCall g__law_trips [true, false, false] (dCons (dVar 2) (dCons (dC (.int 40)) (dCons (dCall g__law_one [true, false] (dCons (dVar 2) (dCons (dDisp mkLst (dCons (dC (.int 10)) (dCons (dC (.int 60)) (dCons (dC (.int 500)) dNil)))) dNil))) dNil)))))
  (dSeq (dSet false 7 (dCall g_cheapest_plan [false, false] (dCons (dVar 5) (dCons (dVar 6) dNil))))
  (dSeq (dIfS (asB (dOp2 gNe (dCall g__law_cost [false, false, false] (dCons (dVar 5) (dCons (dVar 6) (dCons (dVar 7) dNil)))) (dCall g__law_total [false, false] (dCons (dVar 5) (dCons (dVar 6) dNil)))))
  (dRet (dC (.bool false)))
  Ou.next)
  (dFor (dSeqI (dCall g__law_others [true, false, false, false] (dCons (dVar 2) (dCons (dVar 5) (dCons (dVar 6) (dCons (dVar 7) dNil)))))) (tgN 8)
  (dIfS (dNot (asB (dCall g__law_same [false, false] (dCons (dCall g_plan_cost [false, false, false] (dCons (dVar 5) (dCons (dVar 6) (dCons (dVar 8) dNil)))) (dCons (dCall g__law_cost [false, false, false] (dCons (dVar 5) (dCons (dVar 6) (dCons (dVar 8) dNil)))) dNil)))))
  (dRet (dC (.bool false)))
  Ou.next)))))))
  (dSeq (dForFn 4
  (dSeq (dIfS (asB (dOp2 gNe (dTry (dCallV 4 [("cheapest_plan", g_cheapest_plan), ("full_windows", g_full_windows)] [false, false] (dCons (dC .none) (dCons (dC .none) dNil)))) (dC (.str "Schedule+"))))
  (dRet (dC (.bool false)))
  Ou.next)
  (dIfS (asB (dOp2 gNe (dTry (dCallV 4 [("cheapest_plan", g_cheapest_plan), ("full_windows", g_full_windows)] [false, false] (dCons (dDisp mkTup (dCons (dDisp mkTup (dCons (dC (.int 1)) (dCons (dC (.int 1)) dNil))) dNil)) (dCons (dC (.int 7)) dNil)))) (dC (.str "Trips+"))))
  (dRet (dC (.bool false)))
  Ou.next)) ["cheapest_plan", "full_windows"])
  (dSeq (dIfS (asB (dOp2 gNe (dTry (dCall g_plan_cost [false, false, false] (dCons (dC .none) (dCons (dC .none) (dCons (dC .none) dNil))))) (dC (.str "Schedule+"))))
  (dRet (dC (.bool false)))
  Ou.next)
  (dIfS (asB (dOp2 gNe (dTry (dCall g_plan_cost [false, false, false] (dCons (dDisp mkTup (dCons (dDisp mkTup (dCons (dC (.int 1)) (dCons (dC (.int 1)) dNil))) dNil)) (dCons (dC .none) (dCons (dC .none) dNil))))) (dC (.str "Trips+"))))
  (dRet (dC (.bool false)))
  Ou.next))))))
  (dRet (dOp2 gEq (dCall g_cheapest_plan [false, false] (dCons (dDisp mkTup (dCons (dDisp mkTup (dCons (dC (.int 1)) (dCons (dC (.int 1)) dNil))) dNil)) (dCons (dDisp mkTup dNil) dNil))) (dDisp mkTup (dCons (dDisp mkTup dNil) (dCons (dDisp mkTup dNil) dNil))))))
def g_law_k05 : List Sl → FRes := dFun 9 b_law_k05
def b_are_charges : Rho → Ou := (dSeq (dDrop (dCall g_need_both [false, false] (dCons (dVar 0) (dCons (dVar 1) dNil))))
  (dSeq (dIfS (dOr (dNot (asB (dIsi (tbOf "list") (dVar 2)))) (asB (dOp2 gNe (dBlt gLen (dCons (dVar 2) dNil)) (dBlt gLen (dCons (dVar 1) dNil)))))
  (dRet (dC (.bool false)))
  Ou.next)
  (dSeq (dIfS (dNot (asB (dBlt gAll (dCons (dLc [5, 4] (dItr gZip (dCons (dVar 2) (dCons (dVar 1) dNil))) (tgTup 2 (tgCons (tgN 5) (tgCons (tgN 4) tgNil))) dYes (dCall g_is_from [false, false, false] (dCons (dVar 5) (dCons (dC (.int 0)) (dCons (dOp2 gIx (dVar 4) (dC (.int 1))) dNil))))) dNil))))
  (dRet (dC (.bool false)))
  Ou.next)
  (dSeq (dSet true 3 (dDisp mkLst dNil))
  (dSeq (dFor (dItr gZip (dCons (dVar 1) (dCons (dVar 2) dNil))) (tgTup 2 (tgCons (tgN 4) (tgCons (tgN 5) tgNil)))
  (dSeq (dIfS (asB (dOp2 gGt (dVar 5) (dCall g_room_at [false, false, false] (dCons (dVar 0) (dCons (dVar 3) (dCons (dOp2 gIx (dVar 4) (dC (.int 0))) dNil))))))
  (dRet (dC (.bool false)))
  Ou.next)
  (dApp 3 (dDisp mkTup (dCons (dOp2 gIx (dVar 4) (dC (.int 0))) (dCons (dVar 5) dNil))))))
  (dRet (dC (.bool true))))))))
def g_are_charges : List Sl → FRes := dFun 6 b_are_charges
def b__law_keep : Rho → Ou := (dSeq (dIfS (dOr (dNot (asB (dIsi (tbOf "list") (dVar 2)))) (asB (dOp2 gNe (dBlt gLen (dCons (dVar 2) dNil)) (dBlt gLen (dCons (dVar 1) dNil)))))
  (dRet (dC (.bool false)))
  Ou.next)
  (dSeq (dIfS (asB (dOp2 gNe (dLc [8, 9] (dItr gEnum (dCons (dVar 2) dNil)) (tgTup 2 (tgCons (tgN 8) (tgCons (tgN 9) tgNil))) (dOr (dNot (asB (dCall g__law_whole [false] (dCons (dVar 9) dNil)))) (dNot (dChain gLe gLe (dC (.int 0)) (dVar 9) (dOp2 gIx (dOp2 gIx (dVar 1) (dVar 8)) (dC (.int 1)))))) (dVar 8)) (dDisp mkLst dNil)))
  (dRet (dC (.bool false)))
  Ou.next)
  (dSeq (dFor (dItr gEnum (dCons (dVar 1) dNil)) (tgTup 2 (tgCons (tgN 3) (tgCons (tgTup 2 (tgCons (tgN 4) (tgCons (tgN 5) tgNil))) tgNil)))
  (dFor (dSeqI (dVar 0)) (tgTup 2 (tgCons (tgN 6) (tgCons (tgN 7) tgNil)))
  (dIfS (asB (dOp2 gGt (dBlt gSum (dCons (dLc [8] (dRng gRng1 (dCons (dOp2 gAdd (dVar 3) (dC (.int 1))) dNil)) (tgN 8) (asB (dOp2 gGt (dOp2 gIx (dOp2 gIx (dVar 1) (dVar 8)) (dC (.int 0))) (dOp2 gSub (dVar 4) (dVar 6)))) (dOp2 gIx (dVar 2) (dVar 8))) dNil)) (dVar 7)))
  (dRet (dC (.bool false)))
  Ou.next)))
  (dRet (dC (.bool true))))))
def g__law_keep : List Sl → FRes := dFun 10 b__law_keep
def b_law_k06 : Rho → Ou := (dSeq (dFor (dSeqI (dSl (dAddS 0 (dDisp mkLst (dCons (dC (.int 0)) dNil))) dPn (dPs (dC (.int 8))))) (tgN 1)
  (dSeq (dSet true 2 (dCall g__law_deck [false, false] (dCons (dVar 1) (dCons (dC (.int 6)) dNil))))
  (dSeq (dSet false 3 (dCall g__law_schedule [true, false, false] (dCons (dVar 2) (dCons (dC (.int 5)) (dCons (dCall g__law_one [true, false] (dCons (dVar 2) (dCons (dDisp mkLst (dCons (dC (.int 8)) (dCons (dC (.int 40)) (dCons (dC (.int 400)) dNil)))) dNil))) dNil)))))
  (dSeq (dSet false 4 (dCall g__law_trips [true, false, false] (dCons (dVar 2) (dCons (dC (.int 40)) (dCons (dCall g__law_one [true, false] (dCons (dVar 2) (dCons (dDisp mkLst (dCons (dC (.int 10)) (dCons (dC (.int 60)) (dCons (dC (.int 500)) dNil)))) dNil))) dNil)))))
  (dSeq (dPar false false 5 6 (dCall g__law_charges [false, false] (dCons (dVar 3) (dCons (dVar 4) dNil))) (dCall g__law_total [false, false] (dCons (dVar 3) (dCons (dVar 4) dNil))))
  (dSeq (dSet true 7 (dDisp mkLst (dCons (dVar 5) (dCons (dBlt gTuple (dCons (dVar 5) dNil)) (dCons (dSl (dVar 5) (dPs (dC (.int 1))) dPn) (dCons (dOp2 gAdd (dVar 5) (dDisp mkLst (dCons (dC (.int 0)) dNil))) (dCons (dOp2 gMul (dDisp mkLst (dCons (dC (.int 0)) dNil)) (dBlt gLen (dCons (dVar 5) dNil))) (dCons (dC .none) (dCons (dDisp mkTup dNil) (dCons (dDisp mkLst dNil) dNil))))))))))
  (dSeq (dApp 7 (dLc [15, 16] (dSeqI (dVar 4)) (tgTup 2 (tgCons (tgN 15) (tgCons (tgN 16) tgNil))) dYes (dVar 16)))
  (dSeq (dFor (dRng gRng1 (dCons (dC (.int 8)) dNil)) (tgN 8)
  (dSeq (dApp 7 (dLc [15, 16] (dSeqI (dVar 4)) (tgTup 2 (tgCons (tgN 15) (tgCons (tgN 16) tgNil))) dYes (dCall g__law_pick [true, false] (dCons (dVar 2) (dCons (dOp2 gAdd (dVar 16) (dC (.int 1))) dNil)))))
  (dSeq (dSet false 10 (dLc [17] (dSeqI (dVar 5)) (tgN 17) dYes (dBlt gMax (dCons (dC (.int 0)) (dCons (dOp2 gSub (dVar 17) (dCall g__law_pick [true, false] (dCons (dVar 2) (dCons (dC (.int 3)) dNil)))) dNil)))))
  (dSeq (dApp 7 (dVar 10))
  (dIfS (asB (dOp2 gNe (dVar 5) (dDisp mkLst dNil)))
  (dSeq (dSet false 13 (dCall g__law_pick [true, false] (dCons (dVar 2) (dCons (dBlt gLen (dCons (dVar 5) dNil)) dNil))))
  (dFor (dSeqI (dDisp mkLst (dCons (dOp2 gAdd (dOp2 gIx (dVar 5) (dVar 13)) (dC (.int 1))) (dCons (dOp2 gSub (dOp2 gIx (dVar 5) (dVar 13)) (dC (.int 1))) (dCons (dC (.int 0)) (dCons (dC (.bool true)) (dCons (dC .none) (dCons (dOp2 gIx (dOp2 gIx (dVar 4) (dVar 13)) (dC (.int 1))) dNil)))))))) (tgN 14)
  (dSet true 7 (dOp2 gAdd (dVar 7) (dDisp mkLst (dCons (dOp2 gAdd (dOp2 gAdd (dSl (dVar 5) dPn (dPs (dVar 13))) (dDisp mkLst (dCons (dVar 14) dNil))) (dSl (dVar 5) (dPs (dOp2 gAdd (dVar 13) (dC (.int 1)))) dPn)) (dCons (dOp2 gAdd (dOp2 gAdd (dSl (dVar 10) dPn (dPs (dVar 13))) (dDisp mkLst (dCons (dVar 14) dNil))) (dSl (dVar 10) (dPs (dOp2 gAdd (dVar 13) (dC (.int 1)))) dPn)) dNil)))))))
  Ou.next)))))
  (dSeq (dFor (dSeqI (dVar 7)) (tgN 9)
  (dSeq (dPar false false 11 12 (dCall g__law_keep [false, false, false] (dCons (dVar 3) (dCons (dVar 4) (dCons (dVar 9) dNil)))) (dCall g_are_charges [false, false, false] (dCons (dVar 3) (dCons (dVar 4) (dCons (dVar 9) dNil)))))
  (dIfS (dOr (dNot (asB (dIsi (tbOf "bool") (dVar 12)))) (dOr (asB (dOp2 gNe (dVar 12) (dVar 11))) (dAnd (asB (dVar 11)) (asB (dOp2 gGt (dBlt gSum (dCons (dVar 9) dNil)) (dVar 6))))))
  (dRet (dC (.bool false)))
  Ou.next)))
  (dSeq (dIfS (asB (dOp2 gNe (dTry (dCall g_are_charges [false, false, false] (dCons (dC .none) (dCons (dC .none) (dCons (dC .none) dNil))))) (dC (.str "Schedule+"))))
  (dRet (dC (.bool false)))
  Ou.next)
  (dIfS (asB (dOp2 gNe (dTry (dCall g_are_charges [false, false, false] (dCons (dVar 3) (dCons (dC .none) (dCons (dC .none) dNil))))) (dC (.str "Trips+"))))
  (dRet (dC (.bool false)))
  Ou.next)))))))))))
  (dRet (dOp2 gIs (dCall g_are_charges [false, false, false] (dCons (dDisp mkTup (dCons (dDisp mkTup (dCons (dC (.int 3)) (dCons (dC (.int 5)) dNil))) dNil)) (dCons (dDisp mkTup (dCons (dDisp mkTup (dCons (dC (.int 0)) (dCons (dC (.int 2)) dNil))) (dCons (dDisp mkTup (dCons (dC (.int 1)) (dCons (dC (.int 2)) dNil))) (dCons (dDisp mkTup (dCons (dC (.int 2)) (dCons (dC (.int 2)) dNil))) (dCons (dDisp mkTup (dCons (dC (.int 3)) (dCons (dC (.int 2)) dNil))) dNil))))) (dCons (dDisp mkLst (dCons (dC (.int 2)) (dCons (dC (.int 2)) (dCons (dC (.int 2)) (dCons (dC (.int 0)) dNil))))) dNil)))) (dC (.bool false)))))
def g_law_k06 : List Sl → FRes := dFun 18 b_law_k06
def b_last_time : Rho → Ou := (dRet (dIf (asB (dOp2 gNe (dVar 0) (dDisp mkTup dNil))) (dOp2 gIx (dOp2 gIx (dVar 0) (dNeg (dC (.int 1)))) (dC (.int 0))) (dC (.int 0))))
def g_last_time : List Sl → FRes := dFun 1 b_last_time
def b_free_until : Rho → Ou := (dSeq (dDrop (dCall g_need_both [false, false] (dCons (dVar 0) (dCons (dVar 1) dNil))))
  (dSeq (dSet false 2 (dCall g_charged [false, false] (dCons (dVar 0) (dCons (dVar 1) dNil))))
  (dSeq (dSet false 3 (dCall g_last_time [false] (dCons (dVar 1) dNil)))
  (dSeq (dWhile (asB (dOp2 gEq (dCall g_room_at [false, false, false] (dCons (dVar 0) (dCons (dVar 2) (dCons (dVar 3) dNil)))) (dC (.int 0))))
  (dAug 3 aAdd (dC (.int 1))) fuel)
  (dRet (dVar 3))))))
def g_free_until : List Sl → FRes := dFun 4 b_free_until
def b_headroom : Rho → Ou := (dSeq (dDrop (dCall g_need_both [false, false] (dCons (dVar 0) (dCons (dVar 1) dNil))))
  (dSeq (dIfS (dNot (asB (dCall g_is_from [false, false, false] (dCons (dVar 2) (dCons (dCall g_last_time [false] (dCons (dVar 1) dNil)) (dCons (dC (.int 1000000000)) dNil))))))
  (dRaise "InvalidTime")
  Ou.next)
  (dRet (dCall g_room_at [false, false, false] (dCons (dVar 0) (dCons (dCall g_charged [false, false] (dCons (dVar 0) (dCons (dVar 1) dNil))) (dCons (dVar 2) dNil)))))))
def g_headroom : List Sl → FRes := dFun 3 b_headroom
def b__law_room : Rho → Ou := (dRet (dOp2 gIx (dCall g__law_charges [false, false] (dCons (dVar 0) (dCons (dOp2 gAdd (dVar 1) (dDisp mkTup (dCons (dDisp mkTup (dCons (dVar 2) (dCons (dOp2 gPow (dC (.int 10)) (dC (.int 9))) dNil))) dNil))) dNil))) (dNeg (dC (.int 1)))))
def g__law_room : List Sl → FRes := dFun 3 b__law_room
def b_law_k07 : Rho → Ou := (dSeq (dFor (dSeqI (dSl (dAddS 0 (dDisp mkLst (dCons (dC (.int 0)) dNil))) dPn (dPs (dC (.int 8))))) (tgN 1)
  (dSeq (dSet true 3 (dCall g__law_deck [false, false] (dCons (dVar 1) (dCons (dC (.int 7)) dNil))))
  (dSeq (dSet false 4 (dCall g__law_schedule [true, false, false] (dCons (dVar 3) (dCons (dC (.int 5)) (dCons (dCall g__law_one [true, false] (dCons (dVar 3) (dCons (dDisp mkLst (dCons (dC (.int 8)) (dCons (dC (.int 40)) (dCons (dC (.int 400)) dNil)))) dNil))) dNil)))))
  (dSeq (dSet false 5 (dCall g__law_trips [true, false, false] (dCons (dVar 3) (dCons (dC (.int 39)) (dCons (dCall g__law_one [true, false] (dCons (dVar 3) (dCons (dDisp mkLst (dCons (dC (.int 10)) (dCons (dC (.int 60)) (dCons (dC (.int 500)) dNil)))) dNil))) dNil)))))
  (dSeq (dSet false 6 (dIf (asB (dOp2 gNe (dVar 5) (dDisp mkTup dNil))) (dOp2 gIx (dOp2 gIx (dVar 5) (dNeg (dC (.int 1)))) (dC (.int 0))) (dC (.int 0))))
  (dSeq (dFor (dSeqI (dDisp mkLst (dCons (dC (.int 0)) (dCons (dC (.int 1)) (dCons (dCall g__law_pick [true, false] (dCons (dVar 3) (dCons (dC (.int 10)) dNil))) (dCons (dCall g__law_pick [true, false] (dCons (dVar 3) (dCons (dC (.int 400)) dNil))) (dCons (dC (.int 1000)) dNil))))))) (tgN 7)
  (dIfS (asB (dOp2 gLe (dOp2 gAdd (dVar 6) (dVar 7)) (dOp2 gPow (dC (.int 10)) (dC (.int 9)))))
  (dSeq (dSet false 11 (dCall g__law_room [false, false, false] (dCons (dVar 4) (dCons (dVar 5) (dCons (dOp2 gAdd (dVar 6) (dVar 7)) dNil)))))
  (dIfS (dNot (asB (dCall g__law_same [false, false] (dCons (dCall g_headroom [false, false, false] (dCons (dVar 4) (dCons (dVar 5) (dCons (dOp2 gAdd (dVar 6) (dVar 7)) dNil)))) (dCons (dVar 11) dNil)))))
  (dRet (dC (.bool false)))
  Ou.next))
  Ou.next))
  (dSeq (dSet false 8 (dCall g_free_until [false, false] (dCons (dVar 4) (dCons (dVar 5) dNil))))
  (dSeq (dIfS (dOr (dNot (asB (dCall g__law_whole [false] (dCons (dVar 8) dNil)))) (dOr (asB (dOp2 gLt (dVar 8) (dVar 6))) (asB (dOp2 gLt (dCall g__law_room [false, false, false] (dCons (dVar 4) (dCons (dVar 5) (dCons (dVar 8) dNil)))) (dC (.int 1))))))
  (dRet (dC (.bool false)))
  Ou.next)
  (dSeq (dFor (dSeqI (dDisp mkLst (dCons (dVar 6) (dCons (dOp2 gSub (dVar 8) (dC (.int 1))) (dCons (dOp2 gFdiv (dOp2 gAdd (dVar 6) (dVar 8)) (dC (.int 2))) (dCons (dOp2 gAdd (dVar 6) (dCall g__law_pick [true, false] (dCons (dVar 3) (dCons (dBlt gMax (dCons (dC (.int 1)) (dCons (dOp2 gSub (dVar 8) (dVar 6)) dNil))) dNil)))) dNil)))))) (tgN 9)
  (dIfS (dAnd (dChain gLe gLt (dVar 6) (dVar 9) (dVar 8)) (asB (dOp2 gNe (dCall g__law_room [false, false, false] (dCons (dVar 4) (dCons (dVar 5) (dCons (dVar 9) dNil)))) (dC (.int 0)))))
  (dRet (dC (.bool false)))
  Ou.next))
  (dSeq (dFor (dSeqI (dOp2 gAdd (dDisp mkLst (dCons (dC .none) (dCons (dC (.bool true)) (dCons (dNeg (dC (.int 1))) (dCons (dOp2 gAdd (dOp2 gPow (dC (.int 10)) (dC (.int 9))) (dC (.int 1))) (dCons (dC (.str "1")) dNil)))))) (dOp2 gMul (dDisp mkLst (dCons (dOp2 gSub (dVar 6) (dC (.int 1))) dNil)) (dBlt gInt (dCons (dOp2 gGt (dVar 6) (dC (.int 0))) dNil))))) (tgN 10)
  (dIfS (asB (dOp2 gNe (dTry (dCall g_headroom [false, false, false] (dCons (dVar 4) (dCons (dVar 5) (dCons (dVar 10) dNil))))) (dC (.str "Time+"))))
  (dRet (dC (.bool false)))
  Ou.next))
  (dSeq (dIfS (asB (dOp2 gNe (dTry (dCall g_headroom [false, false, false] (dCons (dC .none) (dCons (dC .none) (dCons (dC .none) dNil))))) (dC (.str "Schedule+"))))
  (dRet (dC (.bool false)))
  Ou.next)
  (dSeq (dIfS (asB (dOp2 gNe (dTry (dCall g_headroom [false, false, false] (dCons (dVar 4) (dCons (dC .none) (dCons (dC .none) dNil))))) (dC (.str "Trips+"))))
  (dRet (dC (.bool false)))
  Ou.next)
  (dIfS (asB (dOp2 gNe (dTry (dCall g_free_until [false, false] (dCons (dVar 4) (dCons (dC .none) dNil)))) (dC (.str "Trips+"))))
  (dRet (dC (.bool false)))
  Ou.next)))))))))))))
  (dSeq (dSet false 2 (dDisp mkTup (dCons (dDisp mkTup (dCons (dOp2 gPow (dC (.int 10)) (dC (.int 9))) (dCons (dC (.int 9)) dNil))) dNil)))
  (dSeq (dIfS (dOr (asB (dOp2 gNe (dCall g_free_until [false, false] (dCons (dDisp mkTup (dCons (dDisp mkTup (dCons (dC (.int 400)) (dCons (dC (.int 9)) dNil))) dNil)) (dCons (dVar 2) dNil))) (dOp2 gAdd (dOp2 gPow (dC (.int 10)) (dC (.int 9))) (dC (.int 400))))) (asB (dOp2 gNe (dCall g_headroom [false, false, false] (dCons (dDisp mkTup (dCons (dDisp mkTup (dCons (dC (.int 400)) (dCons (dC (.int 9)) dNil))) dNil)) (dCons (dVar 2) (dCons (dOp2 gPow (dC (.int 10)) (dC (.int 9))) dNil)))) (dC (.int 0)))))
  (dRet (dC (.bool false)))
  Ou.next)
  (dRet (asV (dAnd (asB (dOp2 gEq (dCall g_free_until [false, false] (dCons (dDisp mkTup (dCons (dDisp mkTup (dCons (dC (.int 3)) (dCons (dC (.int 5)) dNil))) dNil)) (dCons (dDisp mkTup dNil) dNil))) (dC (.int 0)))) (asB (dOp2 gEq (dCall g_headroom [false, false, false] (dCons (dDisp mkTup (dCons (dDisp mkTup (dCons (dC (.int 3)) (dCons (dC (.int 5)) dNil))) (dCons (dDisp mkTup (dCons (dC (.int 7)) (dCons (dC (.int 4)) dNil))) dNil))) (dCons (dDisp mkTup dNil) (dCons (dOp2 gPow (dC (.int 10)) (dC (.int 9))) dNil)))) (dC (.int 4))))))))))
def g_law_k07 : List Sl → FRes := dFun 12 b_law_k07
def b_law_k08 : Rho → Ou := (dSeq (dFor (dSeqI (dSl (dAddS 0 (dDisp mkLst (dCons (dC (.int 0)) dNil))) dPn (dPs (dC (.int 8))))) (tgN 1)
  (dSeq (dSet true 2 (dCall g__law_deck [false, false] (dCons (dVar 1) (dCons (dC (.int 8)) dNil))))
  (dFor (dRng gRng1 (dCons (dC (.int 2)) dNil)) (tgN 3)
  (dSeq (dSet false 4 (dCall g__law_schedule [true, false, false] (dCons (dVar 2) (dCons (dC (.int 5)) (dCons (dCall g__law_one [true, false] (dCons (dVar 2) (dCons (dDisp mkLst (dCons (dC (.int 8)) (dCons (dC (.int 40)) (dCons (dC (.int 400)) dNil)))) dNil))) dNil)))))
  (dSeq (dSet false 5 (dCall g__law_trips [true, false, false] (dCons (dVar 2) (dCons (dC (.int 40)) (dCons (dCall g__law_one [true, false] (dCons (dVar 2) (dCons (dDisp mkLst (dCons (dC (.int 10)) (dCons (dC (.int 60)) (dCons (dC (.int 500)) dNil)))) dNil))) dNil)))))
  (dSeq (dPar false true 6 7 (dCall g__law_charges [false, false] (dCons (dVar 4) (dCons (dVar 5) dNil))) (dDisp mkLst dNil))
  (dSeq (dFor (dItr gEnum (dCons (dVar 4) dNil)) (tgTup 2 (tgCons (tgN 8) (tgCons (tgTup 2 (tgCons (tgN 9) (tgCons (tgN 10) tgNil))) tgNil)))
  (dFor (dItr gEnum (dCons (dVar 5) dNil)) (tgTup 2 (tgCons (tgN 13) (tgCons (tgTup 2 (tgCons (tgN 14) (tgCons (tgN 15) tgNil))) tgNil)))
  (dIfS (asB (dOp2 gEq (dBlt gSum (dCons (dLc [16] (dRng gRng1 (dCons (dOp2 gAdd (dVar 13) (dC (.int 1))) dNil)) (tgN 16) (asB (dOp2 gGt (dOp2 gIx (dOp2 gIx (dVar 5) (dVar 16)) (dC (.int 0))) (dOp2 gSub (dVar 14) (dVar 9)))) (dOp2 gIx (dVar 6) (dVar 16))) dNil)) (dVar 10)))
  (dApp 7 (dDisp mkTup (dCons (dVar 8) (dCons (dVar 13) dNil))))
  Ou.next)))
  (dSeq (dSet true 11 (dCall g_full_windows [false, false] (dCons (dVar 4) (dCons (dVar 5) dNil))))
  (dSeq (dIfS (dNot (asB (dCall g__law_same [false, false] (dCons (dVar 11) (dCons (dVar 7) dNil)))))
  (dRet (dC (.bool false)))
  Ou.next)
  (dSeq (dApp 11 (dC (.int 0)))
  (dSeq (dIfS (asB (dOp2 gNe (dCall g_full_windows [false, false] (dCons (dVar 4) (dCons (dVar 5) dNil))) (dVar 7)))
  (dRet (dC (.bool false)))
  Ou.next)
  (dSeq (dSet false 12 (dLc [8, 13] (dSeqI (dVar 7)) (tgTup 2 (tgCons (tgN 8) (tgCons (tgN 13) tgNil))) dYes (dVar 13)))
  (dFor (dItr gEnum (dCons (dVar 5) dNil)) (tgTup 2 (tgCons (tgN 13) (tgCons (tgTup 2 (tgCons (tgN 14) (tgCons (tgN 15) tgNil))) tgNil)))
  (dIfS (dAnd (asB (dOp2 gLt (dOp2 gIx (dVar 6) (dVar 13)) (dVar 15))) (asB (dOp2 (gIn true) (dVar 13) (dVar 12))))
  (dRet (dC (.bool false)))
  Ou.next))))))))))))))
  (dRet (dOp2 gEq (dCall g_full_windows [false, false] (dCons (dDisp mkTup (dCons (dDisp mkTup (dCons (dC (.int 3)) (dCons (dC (.int 5)) dNil))) dNil)) (dCons (dDisp mkTup (dCons (dDisp mkTup (dCons (dC (.int 0)) (dCons (dC (.int 2)) dNil))) (dCons (dDisp mkTup (dCons (dC (.int 1)) (dCons (dC (.int 2)) dNil))) (dCons (dDisp mkTup (dCons (dC (.int 2)) (dCons (dC (.int 2)) dNil))) (dCons (dDisp mkTup (dCons (dC (.int 3)) (dCons (dC (.int 2)) dNil))) dNil))))) dNil))) (dDisp mkLst (dCons (dDisp mkTup (dCons (dC (.int 0)) (dCons (dC (.int 2)) dNil))) (dCons (dDisp mkTup (dCons (dC (.int 0)) (dCons (dC (.int 3)) dNil))) dNil))))))
def g_law_k08 : List Sl → FRes := dFun 17 b_law_k08
def b_place_of : Rho → Ou := (dRet (dBlt gLen (dCons (dLc [2] (dSeqI (dVar 0)) (tgN 2) (asB (dOp2 gLe (dOp2 gIx (dVar 2) (dC (.int 0))) (dVar 1))) (dVar 2)) dNil)))
def g_place_of : List Sl → FRes := dFun 3 b_place_of
def b_with_trip : Rho → Ou := (dSeq (dSet false 2 (dCall g_place_of [false, false] (dCons (dVar 0) (dCons (dOp2 gIx (dVar 1) (dC (.int 0))) dNil))))
  (dRet (dOp2 gAdd (dOp2 gAdd (dSl (dVar 0) dPn (dPs (dVar 2))) (dDisp mkTup (dCons (dVar 1) dNil))) (dSl (dVar 0) (dPs (dVar 2)) dPn))))
def g_with_trip : List Sl → FRes := dFun 3 b_with_trip
def b_late_trip : Rho → Ou := (dSeq (dDrop (dCall g_need_both [false, false] (dCons (dVar 0) (dCons (dVar 1) dNil))))
  (dSeq (dIfS (dNot (asB (dCall g_is_trip [false] (dCons (dVar 2) dNil))))
  (dRaise "InvalidTrip")
  Ou.next)
  (dSeq (dIfS (asB (dOp2 gEq (dBlt gLen (dCons (dVar 1) dNil)) (dC (.int 40))))
  (dRaiseP (dC (.int 40)))
  Ou.next)
  (dSeq (dPar false false 3 4 (dCall g_all_charges [false, false] (dCons (dVar 0) (dCons (dVar 1) dNil))) (dCall g_all_charges [false, false] (dCons (dVar 0) (dCons (dCall g_with_trip [false, false] (dCons (dVar 1) (dCons (dVar 2) dNil))) dNil))))
  (dSeq (dSet true 5 (dSl (dVar 4) dPn dPn))
  (dSeq dNoS
  (dRet (dDisp mkTup (dCons (dOp2 gSub (dBlt gSum (dCons (dVar 4) dNil)) (dBlt gSum (dCons (dVar 3) dNil))) (dCons (dLc [6] (dRng gRng1 (dCons (dBlt gLen (dCons (dVar 3) dNil)) dNil)) (tgN 6) (asB (dOp2 gNe (dOp2 gIx (dVar 3) (dVar 6)) (dOp2 gIx (dVar 5) (dVar 6)))) (dVar 6)) dNil))))))))))
def g_late_trip : List Sl → FRes := dFun 7 b_late_trip
def b_need_index : Rho → Ou := (dIfS (dNot (asB (dCall g_is_from [false, false, false] (dCons (dVar 1) (dCons (dC (.int 0)) (dCons (dOp2 gSub (dBlt gLen (dCons (dVar 0) dNil)) (dC (.int 1))) dNil))))))
  (dRaise "InvalidIndex")
  Ou.next)
def g_need_index : List Sl → FRes := dFun 2 b_need_index
def b_without_trip : Rho → Ou := (dRet (dOp2 gAdd (dSl (dVar 0) dPn (dPs (dVar 1))) (dSl (dVar 0) (dPs (dOp2 gAdd (dVar 1) (dC (.int 1)))) dPn)))
def g_without_trip : List Sl → FRes := dFun 2 b_without_trip
def b_refund : Rho → Ou := (dSeq (dDrop (dCall g_need_both [false, false] (dCons (dVar 0) (dCons (dVar 1) dNil))))
  (dSeq (dDrop (dCall g_need_index [false, false] (dCons (dVar 1) (dCons (dVar 2) dNil))))
  (dSeq (dPar false false 3 4 (dCall g_all_charges [false, false] (dCons (dVar 0) (dCons (dVar 1) dNil))) (dCall g_all_charges [false, false] (dCons (dVar 0) (dCons (dCall g_without_trip [false, false] (dCons (dVar 1) (dCons (dVar 2) dNil))) dNil))))
  (dSeq (dSet false 5 (dOp2 gAdd (dOp2 gAdd (dSl (dVar 4) dPn (dPs (dVar 2))) (dDisp mkLst (dCons (dOp2 gIx (dVar 3) (dVar 2)) dNil))) (dSl (dVar 4) (dPs (dVar 2)) dPn)))
  (dRet (dDisp mkTup (dCons (dOp2 gSub (dBlt gSum (dCons (dVar 3) dNil)) (dBlt gSum (dCons (dVar 4) dNil))) (dCons (dLc [6] (dRng gRng1 (dCons (dBlt gLen (dCons (dVar 3) dNil)) dNil)) (tgN 6) (asB (dOp2 gNe (dOp2 gIx (dVar 3) (dVar 6)) (dOp2 gIx (dVar 5) (dVar 6)))) (dVar 6)) dNil))))))))
def g_refund : List Sl → FRes := dFun 7 b_refund
def b__law_at : Rho → Ou := (dRet (dBlt gLen (dCons (dLc [2] (dSeqI (dVar 0)) (tgN 2) (asB (dOp2 gLe (dOp2 gIx (dVar 2) (dC (.int 0))) (dVar 1))) (dVar 2)) dNil)))
def g__law_at : List Sl → FRes := dFun 3 b__law_at
def b__law_late_right : Rho → Ou := (dSeq (dSet false 3 (dCall g__law_at [false, false] (dCons (dVar 1) (dCons (dOp2 gIx (dVar 2) (dC (.int 0))) dNil))))
  (dSeq (dSet false 4 (dOp2 gAdd (dOp2 gAdd (dSl (dVar 1) dPn (dPs (dVar 3))) (dDisp mkTup (dCons (dVar 2) dNil))) (dSl (dVar 1) (dPs (dVar 3)) dPn)))
  (dSeq (dPar false false 5 6 (dCall g__law_charges [false, false] (dCons (dVar 0) (dCons (dVar 1) dNil))) (dCall g__law_charges [false, false] (dCons (dVar 0) (dCons (dVar 4) dNil))))
  (dSeq (dPar false false 7 8 (dOp2 gSub (dBlt gSum (dCons (dVar 6) dNil)) (dBlt gSum (dCons (dVar 5) dNil))) (dOp2 gAdd (dSl (dVar 6) dPn (dPs (dVar 3))) (dSl (dVar 6) (dPs (dOp2 gAdd (dVar 3) (dC (.int 1)))) dPn)))
  (dSeq (dSet false 9 (dDisp mkTup (dCons (dVar 7) (dCons (dLc [11] (dRng gRng1 (dCons (dBlt gLen (dCons (dVar 5) dNil)) dNil)) (tgN 11) (asB (dOp2 gNe (dOp2 gIx (dVar 5) (dVar 11)) (dOp2 gIx (dVar 8) (dVar 11)))) (dVar 11)) dNil))))
  (dSeq (dIfS (dOr (dNot (asB (dCall g__law_same [false, false] (dCons (dCall g_late_trip [false, false, false] (dCons (dVar 0) (dCons (dVar 1) (dCons (dVar 2) dNil)))) (dCons (dVar 9) dNil))))) (dNot (dChain gLe gLe (dC (.int 0)) (dVar 7) (dOp2 gIx (dVar 2) (dC (.int 1))))))
  (dRet (dC (.bool false)))
  Ou.next)
  (dSeq (dSet false 10 (dDisp mkTup (dCons (dVar 7) (dCons (dLc [11] (dSeqI (dOp2 gIx (dVar 9) (dC (.int 1)))) (tgN 11) dYes (dOp2 gAdd (dVar 11) (dBlt gInt (dCons (dOp2 gGe (dVar 11) (dVar 3)) dNil)))) dNil))))
  (dRet (asV (dOr (asB (dOp2 gGt (dBlt gLen (dCons (dVar 4) dNil)) (dC (.int 40)))) (asB (dOp2 gEq (dCall g_refund [false, false, false] (dCons (dVar 0) (dCons (dVar 4) (dCons (dVar 3) dNil)))) (dVar 10)))))))))))))
def g__law_late_right : List Sl → FRes := dFun 12 b__law_late_right
def b__law_refund_right : Rho → Ou := (dSeq (dPar false false 3 4 (dCall g__law_charges [false, false] (dCons (dVar 0) (dCons (dVar 1) dNil))) (dCall g__law_charges [false, false] (dCons (dVar 0) (dCons (dOp2 gAdd (dSl (dVar 1) dPn (dPs (dVar 2))) (dSl (dVar 1) (dPs (dOp2 gAdd (dVar 2) (dC (.int 1)))) dPn)) dNil))))
  (dSeq (dPar false true 5 6 (dOp2 gSub (dBlt gSum (dCons (dVar 3) dNil)) (dBlt gSum (dCons (dVar 4) dNil))) (dDisp mkLst dNil))
  (dSeq (dFor (dRng gRng1 (dCons (dBlt gLen (dCons (dVar 3) dNil)) dNil)) (tgN 7)
  (dIfS (dAnd (asB (dOp2 gNe (dVar 7) (dVar 2))) (asB (dOp2 gNe (dOp2 gIx (dVar 3) (dVar 7)) (dOp2 gIx (dVar 4) (dIf (asB (dOp2 gLt (dVar 7) (dVar 2))) (dVar 7) (dOp2 gSub (dVar 7) (dC (.int 1))))))))
  (dApp 6 (dVar 7))
  Ou.next))
  (dRet (asV (dAnd (asB (dCall g__law_same [false, false] (dCons (dCall g_refund [false, false, false] (dCons (dVar 0) (dCons (dVar 1) (dCons (dVar 2) dNil)))) (dCons (dDisp mkTup (dCons (dVar 5) (dCons (dVar 6) dNil))) dNil)))) (asB (asV (dChain gLe gLe (dC (.int 0)) (dVar 5) (dOp2 gIx (dOp2 gIx (dVar 1) (dVar 2)) (dC (.int 1))))))))))))
def g__law_refund_right : List Sl → FRes := dFun 8 b__law_refund_right
def b_law_k09 : Rho → Ou := (dSeq (dFor (dSeqI (dSl (dAddS 0 (dDisp mkLst (dCons (dC (.int 0)) dNil))) dPn (dPs (dC (.int 8))))) (tgN 1)
  (dSeq (dSet true 3 (dCall g__law_deck [false, false] (dCons (dVar 1) (dCons (dC (.int 9)) dNil))))
  (dSeq (dSet false 4 (dCall g__law_schedule [true, false, false] (dCons (dVar 3) (dCons (dC (.int 5)) (dCons (dCall g__law_one [true, false] (dCons (dVar 3) (dCons (dDisp mkLst (dCons (dC (.int 8)) (dCons (dC (.int 40)) (dCons (dC (.int 400)) dNil)))) dNil))) dNil)))))
  (dSeq (dSet false 5 (dCall g__law_trips [true, false, false] (dCons (dVar 3) (dCons (dC (.int 24)) (dCons (dCall g__law_one [true, false] (dCons (dVar 3) (dCons (dDisp mkLst (dCons (dC (.int 10)) (dCons (dC (.int 60)) (dCons (dC (.int 500)) dNil)))) dNil))) dNil)))))
  (dSeq (dSet false 6 (dOp2 gAdd (dDisp mkLst (dCons (dC (.int 0)) (dCons (dOp2 gPow (dC (.int 10)) (dC (.int 9))) (dCons (dCall g__law_pick [true, false] (dCons (dVar 3) (dCons (dC (.int 60)) dNil))) dNil)))) (dSl (dLc [7, 12] (dSeqI (dVar 5)) (tgTup 2 (tgCons (tgN 7) (tgCons (tgN 12) tgNil))) dYes (dVar 7)) dPn (dPs (dC (.int 9))))))
  (dSeq (dFor (dSeqI (dVar 6)) (tgN 7)
  (dSeq (dSet false 11 (dBlt gMin (dCons (dOp2 gPow (dC (.int 10)) (dC (.int 9))) (dCons (dBlt gMax (dCons (dC (.int 0)) (dCons (dOp2 gSub (dOp2 gAdd (dVar 7) (dCall g__law_pick [true, false] (dCons (dVar 3) (dCons (dC (.int 3)) dNil)))) (dC (.int 1))) dNil))) dNil))))
  (dSeq (dSet false 12 (dCall g__law_pick [true, false] (dCons (dVar 3) (dCons (dCall g__law_one [true, false] (dCons (dVar 3) (dCons (dDisp mkLst (dCons (dC (.int 4)) (dCons (dC (.int 60)) (dCons (dOp2 gPow (dC (.int 10)) (dC (.int 6))) dNil)))) dNil))) dNil))))
  (dIfS (dNot (asB (dCall g__law_late_right [false, false, false] (dCons (dVar 4) (dCons (dVar 5) (dCons (dDisp mkTup (dCons (dVar 11) (dCons (dVar 12) dNil))) dNil))))))
  (dRet (dC (.bool false)))
  Ou.next))))
  (dSeq (dFor (dRng gRng1 (dCons (dBlt gLen (dCons (dVar 5) dNil)) dNil)) (tgN 8)
  (dIfS (dNot (asB (dCall g__law_refund_right [false, false, false] (dCons (dVar 4) (dCons (dVar 5) (dCons (dVar 8) dNil))))))
  (dRet (dC (.bool false)))
  Ou.next))
  (dSeq (dFor (dSeqI (dDisp mkLst (dCons (dC .none) (dCons (dDisp mkTup (dCons (dC (.int 1)) dNil)) (dCons (dDisp mkTup (dCons (dC (.int 1)) (dCons (dNeg (dC (.int 1))) dNil))) (dCons (dDisp mkLst (dCons (dC (.int 1)) (dCons (dC (.int 1)) dNil))) (dCons (dDisp mkTup (dCons (dOp2 gAdd (dOp2 gPow (dC (.int 10)) (dC (.int 9))) (dC (.int 1))) (dCons (dC (.int 1)) dNil))) (dCons (dDisp mkTup (dCons (dC (.int 1)) (dCons (dOp2 gAdd (dOp2 gPow (dC (.int 10)) (dC (.int 6))) (dC (.int 1))) dNil))) (dCons (dDisp mkTup (dCons (dC (.bool true)) (dCons (dC (.int 1)) dNil))) dNil))))))))) (tgN 9)
  (dIfS (asB (dOp2 gNe (dTry (dCall g_late_trip [false, false, false] (dCons (dVar 4) (dCons (dVar 5) (dCons (dVar 9) dNil))))) (dC (.str "Trip+"))))
  (dRet (dC (.bool false)))
  Ou.next))
  (dSeq (dFor (dSeqI (dDisp mkLst (dCons (dC .none) (dCons (dC (.bool true)) (dCons (dNeg (dC (.int 1))) (dCons (dBlt gLen (dCons (dVar 5) dNil)) dNil)))))) (tgN 9)
  (dIfS (asB (dOp2 gNe (dTry (dCall g_refund [false, false, false] (dCons (dVar 4) (dCons (dVar 5) (dCons (dVar 9) dNil))))) (dC (.str "Index+"))))
  (dRet (dC (.bool false)))
  Ou.next))
  (dForFn 10
  (dSeq (dIfS (asB (dOp2 gNe (dTry (dCallV 10 [("late_trip", g_late_trip), ("refund", g_refund)] [false, false, false] (dCons (dC .none) (dCons (dC .none) (dCons (dC .none) dNil))))) (dC (.str "Schedule+"))))
  (dRet (dC (.bool false)))
  Ou.next)
  (dIfS (asB (dOp2 gNe (dTry (dCallV 10 [("late_trip", g_late_trip), ("refund", g_refund)] [false, false, false] (dCons (dVar 4) (dCons (dC .none) (dCons (dC .none) dNil))))) (dC (.str "Trips+"))))
  (dRet (dC (.bool false)))
  Ou.next)) ["late_trip", "refund"]))))))))))
  (dSeq (dSet false 2 (dOp2 gMul (dDisp mkTup (dCons (dDisp mkTup (dCons (dC (.int 5)) (dCons (dC (.int 1)) dNil))) dNil)) (dC (.int 40))))
  (dSeq (dIfS (asB (dOp2 gNe (dTry (dCall g_late_trip [false, false, false] (dCons (dDisp mkTup (dCons (dDisp mkTup (dCons (dC (.int 3)) (dCons (dC (.int 5)) dNil))) dNil)) (dCons (dVar 2) (dCons (dDisp mkTup (dCons (dC (.int 5)) (dCons (dC (.int 1)) dNil))) dNil))))) (dC (.str "Many+40"))))
  (dRet (dC (.bool false)))
  Ou.next)
  (dRet (dOp2 gEq (dCall g_late_trip [false, false, false] (dCons (dDisp mkTup (dCons (dDisp mkTup (dCons (dC (.int 3)) (dCons (dC (.int 5)) dNil))) dNil)) (dCons (dDisp mkTup (dCons (dDisp mkTup (dCons (dC (.int 0)) (dCons (dC (.int 2)) dNil))) (dCons (dDisp mkTup (dCons (dC (.int 1)) (dCons (dC (.int 2)) dNil))) (dCons (dDisp mkTup (dCons (dC (.int 2)) (dCons (dC (.int 2)) dNil))) (dCons (dDisp mkTup (dCons (dC (.int 3)) (dCons (dC (.int 2)) dNil))) dNil))))) (dCons (dDisp mkTup (dCons (dC (.int 1)) (dCons (dC (.int 1)) dNil))) dNil)))) (dDisp mkTup (dCons (dC (.int 0)) (dCons (dDisp mkLst (dCons (dC (.int 2)) dNil)) dNil))))))))
def g_law_k09 : List Sl → FRes := dFun 13 b_law_k09
def b_merge_saving : Rho → Ou := (dSeq (dDrop (dCall g_need_both [false, false] (dCons (dVar 0) (dCons (dVar 1) dNil))))
  (dSeq (dDrop (dCall g_need_trips [false] (dCons (dVar 2) dNil)))
  (dSeq (dIfS (asB (dOp2 gGt (dOp2 gAdd (dBlt gLen (dCons (dVar 1) dNil)) (dBlt gLen (dCons (dVar 2) dNil))) (dC (.int 40))))
  (dRaiseP (dC (.int 40)))
  Ou.next)
  (dSeq (dSet false 3 (dBlt gTuple (dCons (dBlt gSortI (dCons (dOp2 gAdd (dVar 1) (dVar 2)) dNil)) dNil)))
  (dRet (dOp2 gSub (dOp2 gAdd (dCall g_total_of [false, false] (dCons (dVar 0) (dCons (dVar 1) dNil))) (dCall g_total_of [false, false] (dCons (dVar 0) (dCons (dVar 2) dNil)))) (dCall g_total_of [false, false] (dCons (dVar 0) (dCons (dVar 3) dNil)))))))))
def g_merge_saving : List Sl → FRes := dFun 4 b_merge_saving
def b__law_other_order : Rho → Ou := (dRet (dBlt gTuple (dCons dNo dNil)))
def g__law_other_order : List Sl → FRes := dFun 1 b__law_other_order
def b_law_k10 : Rho → Ou := (dSeq (dFor (dSeqI (dSl (dAddS 0 (dDisp mkLst (dCons (dC (.int 0)) dNil))) dPn (dPs (dC (.int 8))))) (tgN 1)
  (dSeq (dSet true 2 (dCall g__law_deck [false, false] (dCons (dVar 1) (dCons (dC (.int 10)) dNil))))
  (dSeq (dSet false 3 (dCall g__law_schedule [true, false, false] (dCons (dVar 2) (dCons (dC (.int 5)) (dCons (dCall g__law_one [true, false] (dCons (dVar 2) (dCons (dDisp mkLst (dCons (dC (.int 8)) (dCons (dC (.int 40)) (dCons (dC (.int 400)) dNil)))) dNil))) dNil)))))
  (dSeq (dSet false 4 (dCall g__law_one [true, false] (dCons (dVar 2) (dCons (dDisp mkLst (dCons (dC (.int 6)) (dCons (dC (.int 30)) (dCons (dC (.int 300)) dNil)))) dNil))))
  (dSeq (dFor (dRng gRng1 (dCons (dC (.int 3)) dNil)) (tgN 5)
  (dSeq (dSet false 7 (dBlt gTuple (dCons (dBlt gSortI (dCons (dLc [11] (dRng gRng1 (dCons (dCall g__law_pick [true, false] (dCons (dVar 2) (dCons (dC (.int 21)) dNil))) dNil)) (tgN 11) dYes (dDisp mkTup (dCons (dCall g__law_pick [true, false] (dCons (dVar 2) (dCons (dVar 4) dNil))) (dCons (dCall g__law_pick [true, false] (dCons (dVar 2) (dCons (dC (.int 9)) dNil))) dNil)))) dNil)) dNil)))
  (dSeq (dSet false 8 (dBlt gTuple (dCons (dBlt gSortI (dCons (dLc [11] (dRng gRng1 (dCons (dCall g__law_pick [true, false] (dCons (dVar 2) (dCons (dC (.int 21)) dNil))) dNil)) (tgN 11) dYes (dDisp mkTup (dCons (dCall g__law_pick [true, false] (dCons (dVar 2) (dCons (dVar 4) dNil))) (dCons (dCall g__law_pick [true, false] (dCons (dVar 2) (dCons (dC (.int 30)) dNil))) dNil)))) dNil)) dNil)))
  (dSeq (dSet false 9 (dBlt gTuple (dCons (dBlt gSortI (dCons (dOp2 gAdd (dVar 7) (dVar 8)) dNil)) dNil)))
  (dSeq (dSet false 10 (dOp2 gSub (dOp2 gAdd (dCall g__law_total [false, false] (dCons (dVar 3) (dCons (dVar 7) dNil))) (dCall g__law_total [false, false] (dCons (dVar 3) (dCons (dVar 8) dNil)))) (dCall g__law_total [false, false] (dCons (dVar 3) (dCons (dVar 9) dNil)))))
  (dSeq (dIfS (dOr (dNot (asB (dCall g__law_same [false, false] (dCons (dCall g_merge_saving [false, false, false] (dCons (dVar 3) (dCons (dVar 7) (dCons (dVar 8) dNil)))) (dCons (dVar 10) dNil))))) (asB (dOp2 gLt (dVar 10) (dC (.int 0)))))
  (dRet (dC (.bool false)))
  Ou.next)
  (dSeq (dIfS (asB (dOp2 gNe (dCall g_merge_saving [false, false, false] (dCons (dVar 3) (dCons (dVar 8) (dCons (dVar 7) dNil)))) (dVar 10)))
  (dRet (dC (.bool false)))
  Ou.next)
  (dIfS (asB (dOp2 gNe (dCall g_total [false, false] (dCons (dVar 3) (dCons (dCall g__law_other_order [false] (dCons (dVar 9) dNil)) dNil))) (dCall g_total [false, false] (dCons (dVar 3) (dCons (dVar 9) dNil)))))
  (dRet (dC (.bool false)))
  Ou.next))))))))
  (dSeq (dIfS (asB (dOp2 gNe (dTry (dCall g_merge_saving [false, false, false] (dCons (dC .none) (dCons (dC .none) (dCons (dC .none) dNil))))) (dC (.str "Schedule+"))))
  (dRet (dC (.bool false)))
  Ou.next)
  (dFor (dSeqI (dDisp mkLst (dCons (dC .none) (dCons (dDisp mkTup (dCons (dDisp mkTup (dCons (dC (.int 2)) (dCons (dC (.int 1)) dNil))) (dCons (dDisp mkTup (dCons (dC (.int 1)) (dCons (dC (.int 1)) dNil))) dNil))) (dCons (dDisp mkLst dNil) (dCons (dDisp mkTup (dCons (dDisp mkTup (dCons (dC (.int 1)) (dCons (dNeg (dC (.int 1))) dNil))) dNil)) dNil)))))) (tgN 6)
  (dSeq (dIfS (asB (dOp2 gNe (dTry (dCall g_merge_saving [false, false, false] (dCons (dVar 3) (dCons (dVar 6) (dCons (dC .none) dNil))))) (dC (.str "Trips+"))))
  (dRet (dC (.bool false)))
  Ou.next)
  (dIfS (asB (dOp2 gNe (dTry (dCall g_merge_saving [false, false, false] (dCons (dVar 3) (dCons (dOp2 gMul (dDisp mkTup (dCons (dDisp mkTup (dCons (dC (.int 3)) (dCons (dC (.int 3)) dNil))) dNil)) (dC (.int 40))) (dCons (dVar 6) dNil))))) (dC (.str "Trips+"))))
  (dRet (dC (.bool false)))
  Ou.next)))))))))
  (dSeq (dIfS (asB (dOp2 gNe (dTry (dCall g_merge_saving [false, false, false] (dCons (dDisp mkTup (dCons (dDisp mkTup (dCons (dC (.int 3)) (dCons (dC (.int 5)) dNil))) dNil)) (dCons (dOp2 gMul (dDisp mkTup (dCons (dDisp mkTup (dCons (dC (.int 3)) (dCons (dC (.int 3)) dNil))) dNil)) (dC (.int 40))) (dCons (dDisp mkTup (dCons (dDisp mkTup (dCons (dC (.int 3)) (dCons (dC (.int 3)) dNil))) dNil)) dNil))))) (dC (.str "Many+40"))))
  (dRet (dC (.bool false)))
  Ou.next)
  (dRet (dOp2 gEq (dCall g_merge_saving [false, false, false] (dCons (dDisp mkTup (dCons (dDisp mkTup (dCons (dC (.int 3)) (dCons (dC (.int 5)) dNil))) dNil)) (dCons (dDisp mkTup (dCons (dDisp mkTup (dCons (dC (.int 0)) (dCons (dC (.int 2)) dNil))) (dCons (dDisp mkTup (dCons (dC (.int 1)) (dCons (dC (.int 2)) dNil))) dNil))) (dCons (dDisp mkTup (dCons (dDisp mkTup (dCons (dC (.int 2)) (dCons (dC (.int 2)) dNil))) dNil)) dNil)))) (dC (.int 1))))))
def g_law_k10 : List Sl → FRes := dFun 12 b_law_k10
def b_law_k11 : Rho → Ou := (dSeq (dFor (dSeqI (dSl (dAddS 0 (dDisp mkLst (dCons (dC (.int 0)) dNil))) dPn (dPs (dC (.int 8))))) (tgN 1)
  (dSeq (dSet true 2 (dCall g__law_deck [false, false] (dCons (dVar 1) (dCons (dC (.int 11)) dNil))))
  (dSeq (dSet false 3 (dBlt gTuple (dCons (dLc [21, 22] (dSeqI (dCall g__law_schedule [true, false, false] (dCons (dVar 2) (dCons (dC (.int 4)) (dCons (dC (.int 60)) dNil))))) (tgTup 2 (tgCons (tgN 21) (tgCons (tgN 22) tgNil))) dYes (dDisp mkTup (dCons (dVar 21) (dCons (dBlt gMin (dCons (dVar 22) (dCons (dOp2 gPow (dC (.int 10)) (dC (.int 4))) dNil))) dNil)))) dNil)))
  (dSeq (dSet false 4 (dBlt gTuple (dCons (dLc [18, 19] (dSeqI (dCall g__law_trips [true, false, false] (dCons (dVar 2) (dCons (dC (.int 30)) (dCons (dC (.int 200)) dNil))))) (tgTup 2 (tgCons (tgN 18) (tgCons (tgN 19) tgNil))) dYes (dDisp mkTup (dCons (dOp2 gMod (dVar 18) (dOp2 gPow (dC (.int 10)) (dC (.int 6)))) (dCons (dOp2 gMod (dVar 19) (dOp2 gPow (dC (.int 10)) (dC (.int 4)))) dNil)))) dNil)))
  (dSeq (dSet false 4 (dBlt gTuple (dCons dNo dNil)))
  (dSeq (dSet false 5 (dCall g_charges [false, false] (dCons (dVar 3) (dCons (dVar 4) dNil))))
  (dSeq (dPar false false 6 7 (dCall g__law_pick [true, false] (dCons (dVar 2) (dCons (dOp2 gPow (dC (.int 10)) (dC (.int 8))) dNil))) (dOp2 gAdd (dC (.int 1)) (dCall g__law_pick [true, false] (dCons (dVar 2) (dCons (dC (.int 100)) dNil)))))
  (dSeq (dSet false 8 (dBlt gTuple (dCons (dLc [18, 19] (dSeqI (dVar 4)) (tgTup 2 (tgCons (tgN 18) (tgCons (tgN 19) tgNil))) dYes (dDisp mkTup (dCons (dOp2 gAdd (dVar 18) (dVar 6)) (dCons (dVar 19) dNil)))) dNil)))
  (dSeq (dIfS (asB (dOp2 gNe (dCall g_charges [false, false] (dCons (dVar 3) (dCons (dVar 8) dNil))) (dVar 5)))
  (dRet (dC (.bool false)))
  Ou.next)
  (dSeq (dSet false 9 (dBlt gTuple (dCons (dLc [21, 22] (dSeqI (dVar 3)) (tgTup 2 (tgCons (tgN 21) (tgCons (tgN 22) tgNil))) dYes (dDisp mkTup (dCons (dVar 21) (dCons (dOp2 gMul (dVar 22) (dVar 7)) dNil)))) dNil)))
  (dSeq (dSet false 10 (dBlt gTuple (dCons (dLc [18, 19] (dSeqI (dVar 4)) (tgTup 2 (tgCons (tgN 18) (tgCons (tgN 19) tgNil))) dYes (dDisp mkTup (dCons (dVar 18) (dCons (dOp2 gMul (dVar 19) (dVar 7)) dNil)))) dNil)))
  (dSeq (dIfS (asB (dOp2 gNe (dCall g_charges [false, false] (dCons (dVar 9) (dCons (dVar 10) dNil))) (dLc [23] (dSeqI (dVar 5)) (tgN 23) dYes (dOp2 gMul (dVar 23) (dVar 7)))))
  (dRet (dC (.bool false)))
  Ou.next)
  (dSeq (dPar false false 11 12 (dCall g__law_pick [true, false] (dCons (dVar 2) (dCons (dBlt gLen (dCons (dVar 3) dNil)) dNil))) (dCall g__law_pick [true, false] (dCons (dVar 2) (dCons (dC (.int 20)) dNil))))
  (dSeq (dSet false 13 (dDisp mkTup (dCons (dOp2 gIx (dOp2 gIx (dVar 3) (dVar 11)) (dC (.int 0))) (dCons (dOp2 gAdd (dOp2 gIx (dOp2 gIx (dVar 3) (dVar 11)) (dC (.int 1))) (dVar 12)) dNil))))
  (dSeq (dSet false 14 (dOp2 gAdd (dOp2 gAdd (dSl (dVar 3) dPn (dPs (dVar 11))) (dDisp mkTup (dCons (dVar 13) dNil))) (dSl (dVar 3) (dPs (dOp2 gAdd (dVar 11) (dC (.int 1)))) dPn)))
  (dSeq (dSet false 15 (dBlt gSum (dCons (dLc [18, 19] (dSeqI (dVar 4)) (tgTup 2 (tgCons (tgN 18) (tgCons (tgN 19) tgNil))) dYes (dVar 19)) dNil)))
  (dSeq (dIfS (dNot (dChain gLe gLe (dBlt gSum (dCons (dVar 5) dNil)) (dCall g_total [false, false] (dCons (dVar 14) (dCons (dVar 4) dNil))) (dVar 15)))
  (dRet (dC (.bool false)))
  Ou.next)
  (dSeq (dSet true 16 dNo)
  (dSeq (dSetIx 16 (dOp2 gAdd (dC (.int 61)) (dCall g__law_pick [true, false] (dCons (dVar 2) (dCons (dC (.int 9)) dNil)))) (dOp2 gAdd (dC (.int 1)) (dCall g__law_pick [true, false] (dCons (dVar 2) (dCons (dC (.int 60)) dNil)))))
  (dSeq (dIfS (asB (dOp2 gGt (dCall g_total [false, false] (dCons (dBlt gTuple (dCons (dBlt gSortI (dCons dNo dNil)) dNil)) (dCons (dVar 4) dNil))) (dBlt gSum (dCons (dVar 5) dNil))))
  (dRet (dC (.bool false)))
  Ou.next)
  (dFor (dItr gEnum (dCons (dSl (dVar 4) dPn (dPs (dC (.int 9)))) dNil)) (tgTup 2 (tgCons (tgN 17) (tgCons (tgTup 2 (tgCons (tgN 18) (tgCons (tgN 19) tgNil))) tgNil)))
  (dSeq (dSet false 20 (dOp2 gAdd (dOp2 gAdd (dSl (dVar 4) dPn (dPs (dVar 17))) (dDisp mkTup (dCons (dDisp mkTup (dCons (dVar 18) (dCons (dOp2 gAdd (dVar 19) (dVar 12)) dNil))) dNil))) (dSl (dVar 4) (dPs (dOp2 gAdd (dVar 17) (dC (.int 1)))) dPn)))
  (dIfS (dNot (dChain gLe gLe (dBlt gSum (dCons (dVar 5) dNil)) (dCall g_total [false, false] (dCons (dVar 3) (dCons (dVar 20) dNil))) (dOp2 gAdd (dBlt gSum (dCons (dVar 5) dNil)) (dVar 12))))
  (dRet (dC (.bool false)))
  Ou.next)))))))))))))))))))))))
  (dRet (dOp2 gEq (dCall g_total [false, false] (dCons (dDisp mkTup (dCons (dDisp mkTup (dCons (dC (.int 400)) (dCons (dC (.int 1)) dNil))) dNil)) (dCons (dDisp mkTup (dCons (dDisp mkTup (dCons (dC (.int 0)) (dCons (dOp2 gPow (dC (.int 10)) (dC (.int 6))) dNil))) (dCons (dDisp mkTup (dCons (dC (.int 399)) (dCons (dOp2 gPow (dC (.int 10)) (dC (.int 6))) dNil))) dNil))) dNil))) (dC (.int 1)))))
def g_law_k11 : List Sl → FRes := dFun 24 b_law_k11
def b__law_span_k12 : Rho → Ou := (dSeq (dSet true 2 (dOp2 gAdd (dDisp mkLst (dCons (dC (.int 0)) dNil)) (dOp2 gMul (dDisp mkLst (dCons (dOp2 gPow (dC (.int 10)) (dC (.int 15))) dNil)) (dVar 1))))
  (dSeq (dFor (dSeqI (dVar 0)) (tgTup 2 (tgCons (tgN 3) (tgCons (tgN 4) tgNil)))
  (dFor (dRng gRng2 (dCons (dC (.int 1)) (dCons (dOp2 gAdd (dVar 1) (dC (.int 1))) dNil))) (tgN 5)
  (dSetIx 2 (dVar 5) (dBlt gMin (dCons (dOp2 gIx (dVar 2) (dVar 5)) (dCons (dOp2 gAdd (dOp2 gIx (dVar 2) (dBlt gMax (dCons (dC (.int 0)) (dCons (dOp2 gSub (dVar 5) (dVar 3)) dNil)))) (dVar 4)) dNil))))))
  (dSeq (dFor (dRng gRng3 (dCons (dOp2 gSub (dVar 1) (dC (.int 1))) (dCons (dC (.int 0)) (dCons (dNeg (dC (.int 1))) dNil)))) (tgN 5)
  (dSetIx 2 (dVar 5) (dBlt gMin (dCons (dOp2 gIx (dVar 2) (dVar 5)) (dCons (dOp2 gIx (dVar 2) (dOp2 gAdd (dVar 5) (dC (.int 1)))) dNil)))))
  (dRet (dVar 2)))))
def g__law_span_k12 : List Sl → FRes := dFun 6 b__law_span_k12
def b_span_prices : Rho → Ou := (dSeq (dSet true 2 (dDisp mkLst (dCons (dC (.int 0)) dNil)))
  (dSeq (dFor (dRng gRng2 (dCons (dC (.int 1)) (dCons (dOp2 gAdd (dVar 1) (dC (.int 1))) dNil))) (tgN 3)
  (dApp 2 (dBlt gMin (dCons (dLc [4, 5] (dSeqI (dVar 0)) (tgTup 2 (tgCons (tgN 4) (tgCons (tgN 5) tgNil))) dYes (dOp2 gAdd (dVar 5) (dOp2 gIx (dVar 2) (dBlt gMax (dCons (dC (.int 0)) (dCons (dOp2 gSub (dVar 3) (dVar 4)) dNil)))))) dNil))))
  (dRet (dVar 2))))
def g_span_prices : List Sl → FRes := dFun 6 b_span_prices
def b_span_price : Rho → Ou := (dSeq (dDrop (dCall g_need_schedule [false] (dCons (dVar 0) dNil)))
  (dSeq (dIfS (dNot (asB (dCall g_is_from [false, false, false] (dCons (dVar 1) (dCons (dC (.int 1)) (dCons (dC (.int 2000)) dNil))))))
  (dRaise "InvalidLength")
  Ou.next)
  (dRet (dOp2 gIx (dCall g_span_prices [false, false] (dCons (dVar 0) (dCons (dVar 1) dNil))) (dVar 1)))))
def g_span_price : List Sl → FRes := dFun 2 b_span_price
def b_law_k12 : Rho → Ou := (dSeq (dFor (dSeqI (dSl (dAddS 0 (dDisp mkLst (dCons (dC (.int 0)) dNil))) dPn (dPs (dC (.int 8))))) (tgN 1)
  (dSeq (dSet true 2 (dCall g__law_deck [false, false] (dCons (dVar 1) (dCons (dC (.int 12)) dNil))))
  (dSeq (dSet false 3 (dCall g__law_schedule [true, false, false] (dCons (dVar 2) (dCons (dC (.int 5)) (dCons (dCall g__law_one [true, false] (dCons (dVar 2) (dCons (dDisp mkLst (dCons (dC (.int 8)) (dCons (dC (.int 40)) (dCons (dC (.int 400)) dNil)))) dNil))) dNil)))))
  (dSeq (dSet false 4 (dCall g__law_span_k12 [false, false] (dCons (dVar 3) (dCons (dC (.int 2000)) dNil))))
  (dSeq (dSet false 5 (dDisp mkLst (dCons (dC (.int 1)) (dCons (dC (.int 2)) (dCons (dC (.int 2000)) (dCons (dC (.int 1999)) (dCons (dOp2 gAdd (dC (.int 1)) (dCall g__law_pick [true, false] (dCons (dVar 2) (dCons (dC (.int 400)) dNil)))) (dCons (dOp2 gAdd (dC (.int 1)) (dCall g__law_pick [true, false] (dCons (dVar 2) (dCons (dC (.int 2000)) dNil)))) dNil))))))))
  (dSeq (dFor (dSeqI (dOp2 gAdd (dVar 5) (dLc [8] (dSeqI (dVar 3)) (tgN 8) dYes (dOp2 gIx (dVar 8) (dC (.int 0)))))) (tgN 6)
  (dIfS (dNot (asB (dCall g__law_same [false, false] (dCons (dCall g_span_price [false, false] (dCons (dVar 3) (dCons (dVar 6) dNil))) (dCons (dOp2 gIx (dVar 4) (dVar 6)) dNil)))))
  (dRet (dC (.bool false)))
  Ou.next))
  (dSeq (dFor (dSeqI (dDisp mkLst (dCons (dC .none) (dCons (dC (.bool true)) (dCons (dC (.int 0)) (dCons (dC (.int 2001)) (dCons (dC (.str "1")) dNil))))))) (tgN 7)
  (dIfS (asB (dOp2 gNe (dTry (dCall g_span_price [false, false] (dCons (dVar 3) (dCons (dVar 7) dNil)))) (dC (.str "Length+"))))
  (dRet (dC (.bool false)))
  Ou.next))
  (dIfS (asB (dOp2 gNe (dTry (dCall g_span_price [false, false] (dCons (dC .none) (dCons (dC .none) dNil)))) (dC (.str "Schedule+"))))
  (dRet (dC (.bool false)))
  Ou.next))))))))
  (dRet (asV (dAnd (asB (dOp2 gEq (dCall g_span_price [false, false] (dCons (dDisp mkTup (dCons (dDisp mkTup (dCons (dC (.int 2)) (dCons (dC (.int 2)) dNil))) (dCons (dDisp mkTup (dCons (dC (.int 10)) (dCons (dC (.int 6)) dNil))) dNil))) (dCons (dC (.int 5)) dNil))) (dC (.int 6)))) (asB (dOp2 gEq (dCall g_span_price [false, false] (dCons (dDisp mkTup (dCons (dDisp mkTup (dCons (dC (.int 400)) (dCons (dOp2 gPow (dC (.int 10)) (dC (.int 6))) dNil))) dNil)) (dCons (dC (.int 2000)) dNil))) (dOp2 gMul (dC (.int 5)) (dOp2 gPow (dC (.int 10)) (dC (.int 6))))))))))
def g_law_k12 : List Sl → FRes := dFun 9 b_law_k12
def b_is_useless : Rho → Ou := (dSeq (dAsg (tgTup 2 (tgCons (tgN 2) (tgCons (tgN 3) tgNil))) (dOp2 gIx (dVar 0) (dVar 1)))
  (dSeq (dSet false 4 (dOp2 gAdd (dSl (dVar 0) dPn (dPs (dVar 1))) (dSl (dVar 0) (dPs (dOp2 gAdd (dVar 1) (dC (.int 1)))) dPn)))
  (dRet (asV (dAnd (asB (dOp2 gNe (dVar 4) (dDisp mkTup dNil))) (asB (dOp2 gLe (dOp2 gIx (dCall g_span_prices [false, false] (dCons (dVar 4) (dCons (dVar 2) dNil))) (dVar 2)) (dVar 3))))))))
def g_is_useless : List Sl → FRes := dFun 5 b_is_useless
def b_useless_kinds : Rho → Ou := (dSeq (dDrop (dCall g_need_schedule [false] (dCons (dVar 0) dNil)))
  (dRet (dBlt gTuple (dCons (dLc [1] (dRng gRng1 (dCons (dBlt gLen (dCons (dVar 0) dNil)) dNil)) (tgN 1) (asB (dCall g_is_useless [false, false] (dCons (dVar 0) (dCons (dVar 1) dNil)))) (dVar 1)) dNil))))
def g_useless_kinds : List Sl → FRes := dFun 2 b_useless_kinds
def b_essential_schedule : Rho → Ou := (dSeq (dSet false 1 (dCall g_useless_kinds [false] (dCons (dVar 0) dNil)))
  (dRet (dBlt gTuple (dCons (dLc [2, 3] (dItr gEnum (dCons (dVar 0) dNil)) (tgTup 2 (tgCons (tgN 2) (tgCons (tgN 3) tgNil))) (asB (dOp2 (gIn true) (dVar 2) (dVar 1))) (dVar 3)) dNil))))
def g_essential_schedule : List Sl → FRes := dFun 4 b_essential_schedule
def b_law_k13 : Rho → Ou := (dSeq (dFor (dSeqI (dSl (dAddS 0 (dDisp mkLst (dCons (dC (.int 0)) dNil))) dPn (dPs (dC (.int 8))))) (tgN 1)
  (dSeq (dSet true 2 (dCall g__law_deck [false, false] (dCons (dVar 1) (dCons (dC (.int 13)) dNil))))
  (dSeq (dFor (dRng gRng1 (dCons (dC (.int 2)) dNil)) (tgN 3)
  (dSeq (dSet false 5 (dCall g__law_schedule [true, false, false] (dCons (dVar 2) (dCons (dC (.int 5)) (dCons (dCall g__law_one [true, false] (dCons (dVar 2) (dCons (dDisp mkLst (dCons (dC (.int 8)) (dCons (dC (.int 39)) dNil))) dNil))) dNil)))))
  (dSeq (dSet false 5 (dBlt gTuple (dCons (dLc [11, 12] (dSeqI (dVar 5)) (tgTup 2 (tgCons (tgN 11) (tgCons (tgN 12) tgNil))) dYes (dDisp mkTup (dCons (dVar 11) (dCons (dBlt gMin (dCons (dVar 12) (dCons (dC (.int 5000)) dNil))) dNil)))) dNil)))
  (dSeq (dSet false 6 (dCall g_useless_kinds [false] (dCons (dVar 5) dNil)))
  (dSeq (dIfS (dOr (dNot (asB (dIsi (tbOf "tuple") (dVar 6)))) (asB (dOp2 gNe (dBlt gList (dCons (dVar 6) dNil)) (dSortSet (dVar 6)))))
  (dRet (dC (.bool false)))
  Ou.next)
  (dSeq (dSet false 7 (dBlt gTuple (dCons (dLc [10, 17] (dItr gEnum (dCons (dVar 5) dNil)) (tgTup 2 (tgCons (tgN 10) (tgCons (tgN 17) tgNil))) (asB (dOp2 (gIn true) (dVar 10) (dVar 6))) (dVar 17)) dNil)))
  (dSeq (dIfS (dOr (dNot (asB (dCall g__law_same [false, false] (dCons (dCall g_essential_schedule [false] (dCons (dVar 5) dNil)) (dCons (dVar 7) dNil))))) (dOr (asB (dOp2 gEq (dVar 7) (dDisp mkTup dNil))) (asB (dOp2 gNe (dCall g_useless_kinds [false] (dCons (dVar 7) dNil)) (dDisp mkTup dNil)))))
  (dRet (dC (.bool false)))
  Ou.next)
  (dSeq (dSet false 8 (dDisp mkLst (dCons (dCall g__law_trips [true, false, false] (dCons (dVar 2) (dCons (dC (.int 20)) (dCons (dC (.int 60)) dNil)))) (dCons (dCall g__law_trips [true, false, false] (dCons (dVar 2) (dCons (dC (.int 30)) (dCons (dC (.int 30)) dNil)))) (dCons (dBlt gTuple (dCons (dLc [10] (dRng gRng1 (dCons (dC (.int 40)) dNil)) (tgN 10) dYes (dDisp mkTup (dCons (dVar 10) (dCons (dOp2 gPow (dC (.int 10)) (dC (.int 6))) dNil)))) dNil)) dNil)))))
  (dSeq (dFor (dSeqI (dVar 8)) (tgN 9)
  (dIfS (asB (dOp2 gNe (dCall g__law_total [false, false] (dCons (dVar 5) (dCons (dVar 9) dNil))) (dCall g__law_total [false, false] (dCons (dVar 7) (dCons (dVar 9) dNil)))))
  (dRet (dC (.bool false)))
  Ou.next))
  (dFor (dItr gEnum (dCons (dVar 5) dNil)) (tgTup 2 (tgCons (tgN 10) (tgCons (tgTup 2 (tgCons (tgN 11) (tgCons (tgN 12) tgNil))) tgNil)))
  (dSeq (dSet false 14 (dOp2 gAdd (dSl (dVar 5) dPn (dPs (dVar 10))) (dSl (dVar 5) (dPs (dOp2 gAdd (dVar 10) (dC (.int 1)))) dPn)))
  (dSeq (dSet false 15 (dBlt gTuple (dCons (dLc [18] (dRng gRng1 (dCons (dVar 11) dNil)) (tgN 18) dYes (dDisp mkTup (dCons (dVar 18) (dCons (dOp2 gPow (dC (.int 10)) (dC (.int 6))) dNil)))) dNil)))
  (dSeq (dSet false 16 (asV (dAnd (asB (dOp2 gNe (dVar 14) (dDisp mkTup dNil))) (asB (dOp2 gEq (dCall g__law_total [false, false] (dCons (dVar 14) (dCons (dVar 15) dNil))) (dCall g__law_total [false, false] (dCons (dVar 5) (dCons (dVar 15) dNil))))))))
  (dIfS (asB (dOp2 gNe (dVar 16) (dOp2 (gIn false) (dVar 10) (dVar 6))))
  (dRet (dC (.bool false)))
  Ou.next))))))))))))))
  (dForFn 4
  (dFor (dSeqI (dDisp mkLst (dCons (dC .none) (dCons (dDisp mkTup dNil) (dCons (dBlt gList (dCons (dVar 5) dNil)) (dCons (dDisp mkTup (dCons (dDisp mkTup (dCons (dC (.int 2)) (dCons (dC (.int 1)) dNil))) (dCons (dDisp mkTup (dCons (dC (.int 1)) (dCons (dC (.int 1)) dNil))) dNil))) dNil)))))) (tgN 13)
  (dIfS (asB (dOp2 gNe (dTry (dCallV 4 [("useless_kinds", g_useless_kinds), ("essential_schedule", g_essential_schedule)] [false] (dCons (dVar 13) dNil))) (dC (.str "Schedule+"))))
  (dRet (dC (.bool false)))
  Ou.next)) ["useless_kinds", "essential_schedule"]))))
  (dSeq (dIfS (dOr (asB (dOp2 gNe (dCall g_useless_kinds [false] (dCons (dDisp mkTup (dCons (dDisp mkTup (dCons (dC (.int 5)) (dCons (dC (.int 9)) dNil))) dNil)) dNil)) (dDisp mkTup dNil))) (asB (dOp2 gNe (dCall g_useless_kinds [false] (dCons (dDisp mkTup (dCons (dDisp mkTup (dCons (dC (.int 2)) (dCons (dC (.int 3)) dNil))) (dCons (dDisp mkTup (dCons (dC (.int 3)) (dCons (dC (.int 3)) dNil))) (dCons (dDisp mkTup (dCons (dC (.int 6)) (dCons (dC (.int 7)) dNil))) dNil)))) dNil)) (dDisp mkTup (dCons (dC (.int 0)) (dCons (dC (.int 2)) dNil))))))
  (dRet (dC (.bool false)))
  Ou.next)
  (dSeq (dIfS (dOr (asB (dOp2 gNe (dCall g_useless_kinds [false] (dCons (dDisp mkTup (dCons (dDisp mkTup (dCons (dC (.int 2)) (dCons (dC (.int 3)) dNil))) (dCons (dDisp mkTup (dCons (dC (.int 3)) (dCons (dC (.int 4)) dNil))) (dCons (dDisp mkTup (dCons (dC (.int 5)) (dCons (dC (.int 7)) dNil))) dNil)))) dNil)) (dDisp mkTup (dCons (dC (.int 2)) dNil)))) (asB (dOp2 gNe (dCall g_useless_kinds [false] (dCons (dDisp mkTup (dCons (dDisp mkTup (dCons (dC (.int 2)) (dCons (dC (.int 3)) dNil))) (dCons (dDisp mkTup (dCons (dC (.int 3)) (dCons (dC (.int 4)) dNil))) (dCons (dDisp mkTup (dCons (dC (.int 5)) (dCons (dC (.int 6)) dNil))) dNil)))) dNil)) (dDisp mkTup dNil))))
  (dRet (dC (.bool false)))
  Ou.next)
  (dRet (asV (dAnd (asB (dOp2 gEq (dCall g_useless_kinds [false] (dCons (dDisp mkTup (dCons (dDisp mkTup (dCons (dC (.int 200)) (dCons (dC (.int 5)) dNil))) (dCons (dDisp mkTup (dCons (dC (.int 400)) (dCons (dC (.int 10)) dNil))) dNil))) dNil)) (dDisp mkTup (dCons (dC (.int 1)) dNil)))) (asB (dOp2 gEq (dCall g_useless_kinds [false] (dCons (dDisp mkTup (dCons (dDisp mkTup (dCons (dC (.int 200)) (dCons (dC (.int 5)) dNil))) (dCons (dDisp mkTup (dCons (dC (.int 400)) (dCons (dC (.int 9)) dNil))) dNil))) dNil)) (dDisp mkTup dNil)))))))))
def g_law_k13 : List Sl → FRes := dFun 19 b_law_k13
def b_first_difference : Rho → Ou := (dSeq (dDrop (dCall g_need_schedule [false] (dCons (dVar 0) dNil)))
  (dSeq (dDrop (dCall g_need_schedule [false] (dCons (dVar 1) dNil)))
  (dSeq (dSet false 2 (dBlt gMax (dCons (dOp2 gIx (dOp2 gIx (dVar 0) (dNeg (dC (.int 1)))) (dC (.int 0))) (dCons (dOp2 gIx (dOp2 gIx (dVar 1) (dNeg (dC (.int 1)))) (dC (.int 0))) dNil))))
  (dSeq (dPar false false 3 4 (dCall g_span_prices [false, false] (dCons (dVar 0) (dCons (dVar 2) dNil))) (dCall g_span_prices [false, false] (dCons (dVar 1) (dCons (dVar 2) dNil))))
  (dSeq (dFor (dRng gRng2 (dCons (dC (.int 1)) (dCons (dOp2 gAdd (dVar 2) (dC (.int 1))) dNil))) (tgN 5)
  (dIfS (asB (dOp2 gNe (dOp2 gIx (dVar 3) (dVar 5)) (dOp2 gIx (dVar 4) (dVar 5))))
  (dRet (dVar 5))
  Ou.next))
  (dRet (dC .none)))))))
def g_first_difference : List Sl → FRes := dFun 6 b_first_difference
def b__law_twin : Rho → Ou := (dSeq (dSet true 2 dNo)
  (dSeq (dSet false 3 (dCall g__law_pick [true, false] (dCons (dVar 0) (dCons (dC (.int 4)) dNil))))
  (dSeq (dSet false 4 (dCall g__law_one [true, false] (dCons (dVar 0) (dCons (dBlt gSortI (dCons (dVar 2) dNil)) dNil))))
  (dSeq (dIfS (asB (dOp2 gEq (dVar 3) (dC (.int 0))))
  (dSetIx 2 (dVar 4) (dBlt gMax (dCons (dC (.int 1)) (dCons (dOp2 gSub (dOp2 gAdd (dOp2 gIx (dVar 2) (dVar 4)) (dCall g__law_pick [true, false] (dCons (dVar 0) (dCons (dC (.int 3)) dNil)))) (dC (.int 1))) dNil))))
  (dIfS (dAnd (asB (dOp2 gEq (dVar 3) (dC (.int 1)))) (asB (dOp2 gGt (dVar 4) (dC (.int 1)))))
  dNoS
  (dIfS (dAnd (asB (dOp2 gEq (dVar 3) (dC (.int 2)))) (asB (dOp2 gGt (dBlt gLen (dCons (dVar 2) dNil)) (dC (.int 1)))))
  dNoS
  (dSetIx 2 (dBlt gMin (dCons (dC (.int 39)) (dCons (dOp2 gMul (dC (.int 2)) (dVar 4)) dNil))) (dOp2 gAdd (dOp2 gMul (dC (.int 2)) (dOp2 gIx (dVar 2) (dVar 4))) (dCall g__law_pick [true, false] (dCons (dVar 0) (dCons (dC (.int 2)) dNil))))))))
  (dRet (dBlt gTuple (dCons (dSl (dBlt gSortI (dCons dNo dNil)) dPn (dPs (dC (.int 5)))) dNil)))))))
def g__law_twin : List Sl → FRes := dFun 5 b__law_twin
def b__law_span_k14 : Rho → Ou := (dSeq (dSet true 2 (dDisp mkLst (dCons (dC (.int 0)) dNil)))
  (dSeq (dFor (dRng gRng2 (dCons (dC (.int 1)) (dCons (dOp2 gAdd (dVar 1) (dC (.int 1))) dNil))) (tgN 3)
  (dApp 2 (dBlt gMin (dCons (dLc [4, 5] (dSeqI (dVar 0)) (tgTup 2 (tgCons (tgN 4) (tgCons (tgN 5) tgNil))) dYes (dOp2 gAdd (dVar 5) (dOp2 gIx (dVar 2) (dBlt gMax (dCons (dC (.int 0)) (dCons (dOp2 gSub (dVar 3) (dVar 4)) dNil)))))) dNil))))
  (dRet (dVar 2))))
def g__law_span_k14 : List Sl → FRes := dFun 6 b__law_span_k14
def b_law_k14 : Rho → Ou := (dSeq (dFor (dSeqI (dSl (dAddS 0 (dDisp mkLst (dCons (dC (.int 0)) dNil))) dPn (dPs (dC (.int 8))))) (tgN 1)
  (dSeq (dSet true 2 (dCall g__law_deck [false, false] (dCons (dVar 1) (dCons (dC (.int 14)) dNil))))
  (dSeq (dSet false 3 (dBlt gTuple (dCons (dLc [12, 13] (dSeqI (dCall g__law_schedule [true, false, false] (dCons (dVar 2) (dCons (dC (.int 4)) (dCons (dCall g__law_one [true, false] (dCons (dVar 2) (dCons (dDisp mkLst (dCons (dC (.int 8)) (dCons (dC (.int 39)) dNil))) dNil))) dNil))))) (tgTup 2 (tgCons (tgN 12) (tgCons (tgN 13) tgNil))) dYes (dDisp mkTup (dCons (dVar 12) (dCons (dBlt gMin (dCons (dVar 13) (dCons (dC (.int 5000)) dNil))) dNil)))) dNil)))
  (dSeq (dFor (dSeqI (dDisp mkLst (dCons (dVar 3) (dCons (dCall g__law_twin [true, false] (dCons (dVar 2) (dCons (dVar 3) dNil))) (dCons (dCall g__law_twin [true, false] (dCons (dVar 2) (dCons (dVar 3) dNil))) (dCons (dCall g__law_twin [true, false] (dCons (dVar 2) (dCons (dCall g__law_twin [true, false] (dCons (dVar 2) (dCons (dVar 3) dNil))) dNil))) dNil)))))) (tgN 4)
  (dSeq (dPar false false 6 7 (dCall g__law_span_k14 [false, false] (dCons (dVar 3) (dCons (dC (.int 200)) dNil))) (dCall g__law_span_k14 [false, false] (dCons (dVar 4) (dCons (dC (.int 200)) dNil))))
  (dSeq (dSet false 8 (dOp2 gAdd (dLc [12] (dRng gRng1 (dCons (dC (.int 201)) dNil)) (tgN 12) (asB (dOp2 gNe (dOp2 gIx (dVar 6) (dVar 12)) (dOp2 gIx (dVar 7) (dVar 12)))) (dVar 12)) (dDisp mkLst (dCons (dC .none) dNil))))
  (dSeq (dSet false 9 (dCall g_first_difference [false, false] (dCons (dVar 3) (dCons (dVar 4) dNil))))
  (dSeq (dIfS (dOr (dNot (asB (dCall g__law_same [false, false] (dCons (dVar 9) (dCons (dOp2 gIx (dVar 8) (dC (.int 0))) dNil))))) (asB (dOp2 gNe (dCall g_first_difference [false, false] (dCons (dVar 4) (dCons (dVar 3) dNil))) (dVar 9))))
  (dRet (dC (.bool false)))
  Ou.next)
  (dIfS (asB (dOp2 gIs (dVar 9) (dC .none)))
  (dFor (dSeqI (dDisp mkLst (dCons (dCall g__law_trips [true, false, false] (dCons (dVar 2) (dCons (dC (.int 20)) (dCons (dC (.int 60)) dNil)))) (dCons (dBlt gTuple (dCons (dLc [14] (dRng gRng1 (dCons (dC (.int 40)) dNil)) (tgN 14) dYes (dDisp mkTup (dCons (dVar 14) (dCons (dOp2 gPow (dC (.int 10)) (dC (.int 6))) dNil)))) dNil)) dNil)))) (tgN 10)
  (dIfS (asB (dOp2 gNe (dCall g__law_total [false, false] (dCons (dVar 3) (dCons (dVar 10) dNil))) (dCall g__law_total [false, false] (dCons (dVar 4) (dCons (dVar 10) dNil)))))
  (dRet (dC (.bool false)))
  Ou.next))
  (dIfS (asB (dOp2 gLt (dVar 9) (dC (.int 41))))
  (dSeq (dSet false 11 (dBlt gTuple (dCons (dLc [15] (dRng gRng1 (dCons (dVar 9) dNil)) (tgN 15) dYes (dDisp mkTup (dCons (dVar 15) (dCons (dOp2 gPow (dC (.int 10)) (dC (.int 6))) dNil)))) dNil)))
  (dIfS (asB (dOp2 gEq (dCall g__law_total [false, false] (dCons (dVar 3) (dCons (dVar 11) dNil))) (dCall g__law_total [false, false] (dCons (dVar 4) (dCons (dVar 11) dNil)))))
  (dRet (dC (.bool false)))
  Ou.next))
  Ou.next)))))))
  (dFor (dSeqI (dDisp mkLst (dCons (dC .none) (dCons (dDisp mkTup dNil) (dCons (dBlt gList (dCons (dVar 3) dNil)) dNil))))) (tgN 5)
  (dSeq (dIfS (asB (dOp2 gNe (dTry (dCall g_first_difference [false, false] (dCons (dVar 5) (dCons (dC .none) dNil)))) (dC (.str "Schedule+"))))
  (dRet (dC (.bool false)))
  Ou.next)
  (dIfS (asB (dOp2 gNe (dTry (dCall g_first_difference [false, false] (dCons (dVar 3) (dCons (dVar 5) dNil)))) (dC (.str "Schedule+"))))
  (dRet (dC (.bool false)))
  Ou.next)))))))
  (dSeq (dIfS (asB (dOp2 gNe (dCall g_first_difference [false, false] (dCons (dDisp mkTup (dCons (dDisp mkTup (dCons (dC (.int 400)) (dCons (dC (.int 9)) dNil))) dNil)) (dCons (dDisp mkTup (dCons (dDisp mkTup (dCons (dC (.int 399)) (dCons (dC (.int 9)) dNil))) dNil)) dNil))) (dC (.int 400))))
  (dRet (dC (.bool false)))
  Ou.next)
  (dRet (dOp2 gEq (dCall g_first_difference [false, false] (dCons (dDisp mkTup (dCons (dDisp mkTup (dCons (dC (.int 2)) (dCons (dC (.int 2)) dNil))) (dCons (dDisp mkTup (dCons (dC (.int 10)) (dCons (dC (.int 5)) dNil))) dNil))) (dCons (dDisp mkTup (dCons (dDisp mkTup (dCons (dC (.int 2)) (dCons (dC (.int 2)) dNil))) (dCons (dDisp mkTup (dCons (dC (.int 10)) (dCons (dC (.int 6)) dNil))) dNil))) dNil))) (dC (.int 5))))))
def g_law_k14 : List Sl → FRes := dFun 16 b_law_k14
def b__law_with_fare : Rho → Ou := (dRet (dCall g__law_total [false, false] (dCons (dVar 0) (dCons (dOp2 gAdd (dOp2 gAdd (dSl (dVar 1) dPn (dPs (dVar 2))) (dDisp mkTup (dCons (dDisp mkTup (dCons (dOp2 gIx (dOp2 gIx (dVar 1) (dVar 2)) (dC (.int 0))) (dCons (dVar 3) dNil))) dNil))) (dSl (dVar 1) (dPs (dOp2 gAdd (dVar 2) (dC (.int 1)))) dPn)) dNil))))
def g__law_with_fare : List Sl → FRes := dFun 4 b__law_with_fare
def b_need_amount : Rho → Ou := (dIfS (dNot (asB (dCall g_is_from [false, false, false] (dCons (dVar 0) (dCons (dC (.int 0)) (dCons (dC (.int 1000000000)) dNil))))))
  (dRaise "InvalidAmount")
  Ou.next)
def g_need_amount : List Sl → FRes := dFun 1 b_need_amount
def b_total_with_fare : Rho → Ou := (dRet (dCall g_total_of [false, false] (dCons (dVar 0) (dCons (dOp2 gAdd (dOp2 gAdd (dSl (dVar 1) dPn (dPs (dVar 2))) (dDisp mkTup (dCons (dDisp mkTup (dCons (dOp2 gIx (dOp2 gIx (dVar 1) (dVar 2)) (dC (.int 0))) (dCons (dVar 3) dNil))) dNil))) (dSl (dVar 1) (dPs (dOp2 gAdd (dVar 2) (dC (.int 1)))) dPn)) dNil))))
def g_total_with_fare : List Sl → FRes := dFun 4 b_total_with_fare
def b_fares_for : Rho → Ou := (dSeq (dDrop (dCall g_need_both [false, false] (dCons (dVar 0) (dCons (dVar 1) dNil))))
  (dSeq (dDrop (dCall g_need_index [false, false] (dCons (dVar 1) (dCons (dVar 2) dNil))))
  (dSeq (dDrop (dCall g_need_amount [false] (dCons (dVar 3) dNil)))
  (dSeq (dSet false 4 (dCall g_total_with_fare [false, false, false, false] (dCons (dVar 0) (dCons (dVar 1) (dCons (dVar 2) (dCons (dC (.int 0)) dNil))))))
  (dSeq (dSet false 5 (dCall g_total_with_fare [false, false, false, false] (dCons (dVar 0) (dCons (dVar 1) (dCons (dVar 2) (dCons (dC (.int 1000000000)) dNil))))))
  (dSeq (dIfS (dNot (dChain gLe gLe (dVar 4) (dVar 3) (dVar 5)))
  (dRet (dC .none))
  Ou.next)
  (dRet (dDisp mkTup (dCons (dOp2 gSub (dVar 3) (dVar 4)) (dCons (dIf (asB (dOp2 gEq (dVar 3) (dVar 5))) (dC .none) (dOp2 gSub (dVar 3) (dVar 4))) dNil))))))))))
def g_fares_for : List Sl → FRes := dFun 6 b_fares_for
def b__law_right_k15 : Rho → Ou := (dSeq (dSet false 4 (dCall g_fares_for [false, false, false, false] (dCons (dVar 0) (dCons (dVar 1) (dCons (dVar 2) (dCons (dVar 3) dNil))))))
  (dSeq (dIfS (dAnd (asB (dOp2 gIsNot (dVar 4) (dC .none))) (dOr (dNot (asB (dIsi (tbOf "tuple") (dVar 4)))) (dOr (asB (dOp2 gNe (dBlt gLen (dCons (dVar 4) dNil)) (dC (.int 2)))) (dNot (asB (dCall g__law_whole [false] (dCons (dOp2 gIx (dVar 4) (dC (.int 0))) dNil)))))))
  (dRet (dC (.bool false)))
  Ou.next)
  (dSeq (dPar false false 5 6 (dCall g__law_with_fare [false, false, false, false] (dCons (dVar 0) (dCons (dVar 1) (dCons (dVar 2) (dCons (dC (.int 0)) dNil))))) (dCall g__law_with_fare [false, false, false, false] (dCons (dVar 0) (dCons (dVar 1) (dCons (dVar 2) (dCons (dOp2 gPow (dC (.int 10)) (dC (.int 12))) dNil))))))
  (dSeq (dFor (dSeqI (dDisp mkLst (dCons (dC (.int 0)) (dCons (dC (.int 1)) (dCons (dC (.int 2)) (dCons (dOp2 gSub (dVar 3) (dVar 5)) (dCons (dOp2 gAdd (dOp2 gSub (dVar 3) (dVar 5)) (dC (.int 1))) (dCons (dOp2 gSub (dOp2 gSub (dVar 3) (dVar 5)) (dC (.int 1))) (dCons (dOp2 gSub (dVar 6) (dVar 5)) (dCons (dOp2 gAdd (dOp2 gSub (dVar 6) (dVar 5)) (dC (.int 1))) (dCons (dOp2 gPow (dC (.int 10)) (dC (.int 12))) dNil))))))))))) (tgN 7)
  (dIfS (asB (dOp2 gGe (dVar 7) (dC (.int 0))))
  (dSeq (dSet false 8 (asV (dAnd (asB (dOp2 gIsNot (dVar 4) (dC .none))) (dAnd (asB (dOp2 gLe (dOp2 gIx (dVar 4) (dC (.int 0))) (dVar 7))) (dOr (asB (dOp2 gIs (dOp2 gIx (dVar 4) (dC (.int 1))) (dC .none))) (asB (dOp2 gLe (dVar 7) (dOp2 gIx (dVar 4) (dC (.int 1))))))))))
  (dIfS (asB (dOp2 gNe (dVar 8) (dOp2 gEq (dCall g__law_with_fare [false, false, false, false] (dCons (dVar 0) (dCons (dVar 1) (dCons (dVar 2) (dCons (dVar 7) dNil))))) (dVar 3))))
  (dRet (dC (.bool false)))
  Ou.next))
  Ou.next))
  (dRet (asV (dOr (asB (dOp2 gIs (dVar 4) (dC .none))) (dAnd (asB (dOp2 gGe (dOp2 gIx (dVar 4) (dC (.int 0))) (dC (.int 0)))) (dOr (asB (dOp2 gIs (dOp2 gIx (dVar 4) (dC (.int 1))) (dC .none))) (dAnd (asB (dCall g__law_whole [false] (dCons (dOp2 gIx (dVar 4) (dC (.int 1))) dNil))) (asB (dOp2 gLe (dOp2 gIx (dVar 4) (dC (.int 0))) (dOp2 gIx (dVar 4) (dC (.int 1)))))))))))))))
def g__law_right_k15 : List Sl → FRes := dFun 9 b__law_right_k15
def b_law_k15 : Rho → Ou := (dSeq (dFor (dSeqI (dSl (dAddS 0 (dDisp mkLst (dCons (dC (.int 0)) dNil))) dPn (dPs (dC (.int 8))))) (tgN 1)
  (dSeq (dSet true 3 (dCall g__law_deck [false, false] (dCons (dVar 1) (dCons (dC (.int 15)) dNil))))
  (dSeq (dSet false 4 (dCall g__law_schedule [true, false, false] (dCons (dVar 3) (dCons (dC (.int 5)) (dCons (dCall g__law_one [true, false] (dCons (dVar 3) (dCons (dDisp mkLst (dCons (dC (.int 8)) (dCons (dC (.int 40)) (dCons (dC (.int 400)) dNil)))) dNil))) dNil)))))
  (dSeq (dSet false 2 (dCall g__law_trips [true, false, false] (dCons (dVar 3) (dCons (dC (.int 20)) (dCons (dCall g__law_one [true, false] (dCons (dVar 3) (dCons (dDisp mkLst (dCons (dC (.int 10)) (dCons (dC (.int 60)) (dCons (dC (.int 500)) dNil)))) dNil))) dNil)))))
  (dSeq (dFor (dRng gRng1 (dCons (dBlt gLen (dCons (dVar 2) dNil)) dNil)) (tgN 5)
  (dSeq (dSet false 8 (dCall g__law_with_fare [false, false, false, false] (dCons (dVar 4) (dCons (dVar 2) (dCons (dVar 5) (dCons (dC (.int 0)) dNil))))))
  (dSeq (dSet false 9 (dCall g__law_with_fare [false, false, false, false] (dCons (dVar 4) (dCons (dVar 2) (dCons (dVar 5) (dCons (dOp2 gPow (dC (.int 10)) (dC (.int 12))) dNil))))))
  (dSeq (dFor (dSeqI (dDisp mkLst (dCons (dVar 8) (dCons (dOp2 gSub (dVar 8) (dC (.int 1))) (dCons (dOp2 gAdd (dVar 8) (dC (.int 1))) (dCons (dVar 9) (dCons (dOp2 gSub (dVar 9) (dC (.int 1))) (dCons (dOp2 gAdd (dVar 9) (dC (.int 1))) (dCons (dC (.int 0)) (dCons (dOp2 gPow (dC (.int 10)) (dC (.int 9))) (dCons (dOp2 gAdd (dVar 8) (dCall g__law_pick [true, false] (dCons (dVar 3) (dCons (dC (.int 60)) dNil)))) dNil))))))))))) (tgN 10)
  (dIfS (dAnd (dChain gLe gLe (dC (.int 0)) (dVar 10) (dOp2 gPow (dC (.int 10)) (dC (.int 9)))) (dNot (asB (dCall g__law_right_k15 [false, false, false, false] (dCons (dVar 4) (dCons (dVar 2) (dCons (dVar 5) (dCons (dVar 10) dNil))))))))
  (dRet (dC (.bool false)))
  Ou.next))
  (dSeq (dSet false 11 (dOp2 gAdd (dOp2 gAdd (dSl (dVar 2) dPn (dPs (dVar 5))) (dDisp mkTup (dCons (dDisp mkTup (dCons (dOp2 gIx (dOp2 gIx (dVar 2) (dVar 5)) (dC (.int 0))) (dCons (dC (.int 3)) dNil))) dNil))) (dSl (dVar 2) (dPs (dOp2 gAdd (dVar 5) (dC (.int 1)))) dPn)))
  (dIfS (dNot (asB (dCall g__law_same [false, false] (dCons (dCall g_fares_for [false, false, false, false] (dCons (dVar 4) (dCons (dVar 11) (dCons (dVar 5) (dCons (dVar 8) dNil))))) (dCons (dCall g_fares_for [false, false, false, false] (dCons (dVar 4) (dCons (dVar 2) (dCons (dVar 5) (dCons (dVar 8) dNil))))) dNil)))))
  (dRet (dC (.bool false)))
  Ou.next))))))
  (dSeq (dSet false 6 (dDisp mkTup (dCons (dDisp mkTup (dCons (dC (.int 1)) (dCons (dC (.int 1)) dNil))) (dCons (dDisp mkTup (dCons (dC (.int 2)) (dCons (dC (.int 1)) dNil))) dNil))))
  (dSeq (dFor (dSeqI (dDisp mkLst (dCons (dC .none) (dCons (dC (.bool true)) (dCons (dNeg (dC (.int 1))) (dCons (dC (.int 2)) dNil)))))) (tgN 7)
  (dIfS (asB (dOp2 gNe (dTry (dCall g_fares_for [false, false, false, false] (dCons (dVar 4) (dCons (dVar 6) (dCons (dVar 7) (dCons (dC .none) dNil)))))) (dC (.str "Index+"))))
  (dRet (dC (.bool false)))
  Ou.next))
  (dSeq (dFor (dSeqI (dDisp mkLst (dCons (dC .none) (dCons (dC (.bool true)) (dCons (dNeg (dC (.int 1))) (dCons (dOp2 gAdd (dOp2 gPow (dC (.int 10)) (dC (.int 9))) (dC (.int 1))) dNil)))))) (tgN 7)
  (dIfS (asB (dOp2 gNe (dTry (dCall g_fares_for [false, false, false, false] (dCons (dVar 4) (dCons (dVar 6) (dCons (dC (.int 0)) (dCons (dVar 7) dNil)))))) (dC (.str "Amount+"))))
  (dRet (dC (.bool false)))
  Ou.next))
  (dSeq (dIfS (asB (dOp2 gNe (dTry (dCall g_fares_for [false, false, false, false] (dCons (dC .none) (dCons (dC .none) (dCons (dC .none) (dCons (dC .none) dNil)))))) (dC (.str "Schedule+"))))
  (dRet (dC (.bool false)))
  Ou.next)
  (dSeq (dIfS (asB (dOp2 gNe (dTry (dCall g_fares_for [false, false, false, false] (dCons (dVar 4) (dCons (dC .none) (dCons (dC .none) (dCons (dC .none) dNil)))))) (dC (.str "Trips+"))))
  (dRet (dC (.bool false)))
  Ou.next)
  (dIfS (asB (dOp2 gNe (dTry (dCall g_fares_for [false, false, false, false] (dCons (dVar 4) (dCons (dDisp mkTup dNil) (dCons (dC (.int 0)) (dCons (dC (.int 0)) dNil)))))) (dC (.str "Index+"))))
  (dRet (dC (.bool false)))
  Ou.next)))))))))))
  (dSeq (dSet false 2 (dDisp mkTup (dCons (dDisp mkTup (dCons (dC (.int 0)) (dCons (dC (.int 2)) dNil))) (dCons (dDisp mkTup (dCons (dC (.int 1)) (dCons (dC (.int 2)) dNil))) (dCons (dDisp mkTup (dCons (dC (.int 2)) (dCons (dC (.int 2)) dNil))) (dCons (dDisp mkTup (dCons (dC (.int 3)) (dCons (dC (.int 2)) dNil))) dNil))))))
  (dRet (dOp2 gEq (dLc [10] (dSeqI (dDisp mkTup (dCons (dC (.int 5)) (dCons (dC (.int 6)) (dCons (dC (.int 7)) (dCons (dC (.int 8)) dNil)))))) (tgN 10) dYes (dCall g_fares_for [false, false, false, false] (dCons (dDisp mkTup (dCons (dDisp mkTup (dCons (dC (.int 3)) (dCons (dC (.int 5)) dNil))) dNil)) (dCons (dVar 2) (dCons (dC (.int 1)) (dCons (dVar 10) dNil)))))) (dDisp mkLst (dCons (dC .none) (dCons (dDisp mkTup (dCons (dC (.int 0)) (dCons (dC (.int 0)) dNil))) (dCons (dDisp mkTup (dCons (dC (.int 1)) (dCons (dC .none) dNil))) (dCons (dC .none) dNil)))))))))
def g_law_k15 : List Sl → FRes := dFun 12 b_law_k15
def b_total_with_price : Rho → Ou := (dRet (dCall g_total_of [false, false] (dCons (dOp2 gAdd (dOp2 gAdd (dSl (dVar 0) dPn (dPs (dVar 2))) (dDisp mkTup (dCons (dDisp mkTup (dCons (dOp2 gIx (dOp2 gIx (dVar 0) (dVar 2)) (dC (.int 0))) (dCons (dVar 3) dNil))) dNil))) (dSl (dVar 0) (dPs (dOp2 gAdd (dVar 2) (dC (.int 1)))) dPn)) (dCons (dVar 1) dNil))))
def g_total_with_price : List Sl → FRes := dFun 4 b_total_with_price
def b_first_price : Rho → Ou := (dSeq (dPar false false 4 5 (dC (.int 1)) (dOp2 gAdd (dC (.int 1000000)) (dC (.int 1))))
  (dSeq (dWhile (asB (dOp2 gLt (dVar 4) (dVar 5)))
  (dSeq (dSet false 6 (dOp2 gFdiv (dOp2 gAdd (dVar 4) (dVar 5)) (dC (.int 2))))
  (dIfS (asB (dOp2 gGe (dCall g_total_with_price [false, false, false, false] (dCons (dVar 0) (dCons (dVar 1) (dCons (dVar 2) (dCons (dVar 6) dNil))))) (dVar 3)))
  (dSet false 5 (dVar 6))
  (dSet false 4 (dOp2 gAdd (dVar 6) (dC (.int 1)))))) fuel)
  (dRet (dVar 4))))
def g_first_price : List Sl → FRes := dFun 7 b_first_price
def b_prices_for : Rho → Ou := (dSeq (dDrop (dCall g_need_both [false, false] (dCons (dVar 0) (dCons (dVar 1) dNil))))
  (dSeq (dDrop (dCall g_need_index [false, false] (dCons (dVar 0) (dCons (dVar 2) dNil))))
  (dSeq (dDrop (dCall g_need_amount [false] (dCons (dVar 3) dNil)))
  (dSeq (dSet false 4 (dCall g_first_price [false, false, false, false] (dCons (dVar 0) (dCons (dVar 1) (dCons (dVar 2) (dCons (dVar 3) dNil))))))
  (dSeq (dSet false 5 (dCall g_first_price [false, false, false, false] (dCons (dVar 0) (dCons (dVar 1) (dCons (dVar 2) (dCons (dOp2 gAdd (dVar 3) (dC (.int 1))) dNil))))))
  (dRet (dIf (asB (dOp2 gLt (dVar 4) (dVar 5))) (dDisp mkTup (dCons (dVar 4) (dCons (dOp2 gSub (dVar 5) (dC (.int 1))) dNil))) (dC .none))))))))
def g_prices_for : List Sl → FRes := dFun 6 b_prices_for
def b_highest_price : Rho → Ou := (dSeq (dDrop (dCall g_need_both [false, false] (dCons (dVar 0) (dCons (dVar 1) dNil))))
  (dSeq (dDrop (dCall g_need_index [false, false] (dCons (dVar 0) (dCons (dVar 2) dNil))))
  (dSeq (dSet false 3 (dOp2 gAdd (dSl (dVar 0) dPn (dPs (dVar 2))) (dSl (dVar 0) (dPs (dOp2 gAdd (dVar 2) (dC (.int 1)))) dPn)))
  (dSeq (dSet false 4 (dIf (asB (dOp2 gNe (dVar 3) (dDisp mkTup dNil))) (dCall g_total_of [false, false] (dCons (dVar 3) (dCons (dVar 1) dNil))) (dBlt gSum (dCons (dLc [6] (dSeqI (dVar 1)) (tgN 6) dYes (dOp2 gIx (dVar 6) (dC (.int 1)))) dNil))))
  (dSeq (dSet false 5 (dOp2 gSub (dCall g_first_price [false, false, false, false] (dCons (dVar 0) (dCons (dVar 1) (dCons (dVar 2) (dCons (dVar 4) dNil))))) (dC (.int 1))))
  (dRet (dIf (asB (dOp2 gGt (dVar 5) (dC (.int 0)))) (dVar 5) (dC .none))))))))
def g_highest_price : List Sl → FRes := dFun 7 b_highest_price
def b__law_with_price : Rho → Ou := (dRet (dOp2 gAdd (dOp2 gAdd (dSl (dVar 0) dPn (dPs (dVar 1))) (dDisp mkTup (dCons (dDisp mkTup (dCons (dOp2 gIx (dOp2 gIx (dVar 0) (dVar 1)) (dC (.int 0))) (dCons (dVar 2) dNil))) dNil))) (dSl (dVar 0) (dPs (dOp2 gAdd (dVar 1) (dC (.int 1)))) dPn)))
def g__law_with_price : List Sl → FRes := dFun 3 b__law_with_price
def b__law_highest_right : Rho → Ou := (dSeq (dSet false 3 (dOp2 gAdd (dSl (dVar 0) dPn (dPs (dVar 2))) (dSl (dVar 0) (dPs (dOp2 gAdd (dVar 2) (dC (.int 1)))) dPn)))
  (dSeq (dSet false 4 (dIf (asB (dOp2 gNe (dVar 3) (dDisp mkTup dNil))) (dCall g__law_total [false, false] (dCons (dVar 3) (dCons (dVar 1) dNil))) (dBlt gSum (dCons (dLc [6, 7] (dSeqI (dVar 1)) (tgTup 2 (tgCons (tgN 6) (tgCons (tgN 7) tgNil))) dYes (dVar 7)) dNil))))
  (dSeq (dSet false 5 (dCall g_highest_price [false, false, false] (dCons (dVar 0) (dCons (dVar 1) (dCons (dVar 2) dNil)))))
  (dSeq (dIfS (asB (dOp2 gIs (dVar 5) (dC .none)))
  (dRet (dOp2 gGe (dCall g__law_total [false, false] (dCons (dCall g__law_with_price [false, false, false] (dCons (dVar 0) (dCons (dVar 2) (dCons (dC (.int 1)) dNil)))) (dCons (dVar 1) dNil))) (dVar 4)))
  Ou.next)
  (dSeq (dIfS (dOr (dNot (asB (dCall g__law_whole [false] (dCons (dVar 5) dNil)))) (dNot (dChain gLe gLe (dC (.int 1)) (dVar 5) (dOp2 gPow (dC (.int 10)) (dC (.int 6))))))
  (dRet (dC (.bool false)))
  Ou.next)
  (dSeq (dIfS (asB (dOp2 gGe (dCall g__law_total [false, false] (dCons (dCall g__law_with_price [false, false, false] (dCons (dVar 0) (dCons (dVar 2) (dCons (dVar 5) dNil)))) (dCons (dVar 1) dNil))) (dVar 4)))
  (dRet (dC (.bool false)))
  Ou.next)
  (dSeq (dIfS (asB (dOp2 gEq (dVar 5) (dOp2 gPow (dC (.int 10)) (dC (.int 6)))))
  (dRet (dC (.bool true)))
  Ou.next)
  (dRet (dOp2 gGe (dCall g__law_total [false, false] (dCons (dCall g__law_with_price [false, false, false] (dCons (dVar 0) (dCons (dVar 2) (dCons (dOp2 gAdd (dVar 5) (dC (.int 1))) dNil)))) (dCons (dVar 1) dNil))) (dVar 4))))))))))
def g__law_highest_right : List Sl → FRes := dFun 8 b__law_highest_right
def b__law_right_k16 : Rho → Ou := (dSeq (dSet false 5 (dCall g_prices_for [false, false, false, false] (dCons (dVar 1) (dCons (dVar 2) (dCons (dVar 3) (dCons (dVar 4) dNil))))))
  (dSeq (dSet false 6 (dDisp mkLst (dCons (dC (.int 1)) (dCons (dC (.int 2)) (dCons (dOp2 gPow (dC (.int 10)) (dC (.int 6))) (dCons (dOp2 gIx (dOp2 gIx (dVar 1) (dVar 3)) (dC (.int 1))) (dCons (dOp2 gAdd (dC (.int 1)) (dCall g__law_pick [true, false] (dCons (dVar 0) (dCons (dC (.int 60)) dNil)))) (dCons (dOp2 gAdd (dC (.int 1)) (dCall g__law_pick [true, false] (dCons (dVar 0) (dCons (dOp2 gPow (dC (.int 10)) (dC (.int 6))) dNil)))) dNil))))))))
  (dSeq (dIfS (asB (dOp2 gIsNot (dVar 5) (dC .none)))
  (dSeq (dIfS (dOr (dNot (asB (dIsi (tbOf "tuple") (dVar 5)))) (dOr (asB (dOp2 gNe (dBlt gLen (dCons (dVar 5) dNil)) (dC (.int 2)))) (dOr (dNot (asB (dCall g__law_whole [false] (dCons (dOp2 gIx (dVar 5) (dC (.int 0))) dNil)))) (dNot (asB (dCall g__law_whole [false] (dCons (dOp2 gIx (dVar 5) (dC (.int 1))) dNil)))))))
  (dRet (dC (.bool false)))
  Ou.next)
  (dSeq (dIfS (dNot (dChain3 gLe gLe gLe (dC (.int 1)) (dOp2 gIx (dVar 5) (dC (.int 0))) (dOp2 gIx (dVar 5) (dC (.int 1))) (dOp2 gPow (dC (.int 10)) (dC (.int 6)))))
  (dRet (dC (.bool false)))
  Ou.next)
  (dSet false 6 (dOp2 gAdd (dVar 6) (dDisp mkLst (dCons (dOp2 gIx (dVar 5) (dC (.int 0))) (dCons (dOp2 gIx (dVar 5) (dC (.int 1))) (dCons (dOp2 gSub (dOp2 gIx (dVar 5) (dC (.int 0))) (dC (.int 1))) (dCons (dOp2 gAdd (dOp2 gIx (dVar 5) (dC (.int 1))) (dC (.int 1))) (dCons (dOp2 gFdiv (dOp2 gAdd (dOp2 gIx (dVar 5) (dC (.int 0))) (dOp2 gIx (dVar 5) (dC (.int 1)))) (dC (.int 2))) dNil))))))))))
  Ou.next)
  (dSeq (dFor (dSeqI (dVar 6)) (tgN 7)
  (dIfS (dChain gLe gLe (dC (.int 1)) (dVar 7) (dOp2 gPow (dC (.int 10)) (dC (.int 6))))
  (dSeq (dSet false 8 (asV (dAnd (asB (dOp2 gIsNot (dVar 5) (dC .none))) (asB (asV (dChain gLe gLe (dOp2 gIx (dVar 5) (dC (.int 0))) (dVar 7) (dOp2 gIx (dVar 5) (dC (.int 1)))))))))
  (dIfS (asB (dOp2 gNe (dVar 8) (dOp2 gEq (dCall g__law_total [false, false] (dCons (dCall g__law_with_price [false, false, false] (dCons (dVar 1) (dCons (dVar 3) (dCons (dVar 7) dNil)))) (dCons (dVar 2) dNil))) (dVar 4))))
  (dRet (dC (.bool false)))
  Ou.next))
  Ou.next))
  (dRet (dC (.bool true)))))))
def g__law_right_k16 : List Sl → FRes := dFun 9 b__law_right_k16
def b_law_k16 : Rho → Ou := (dSeq (dFor (dSeqI (dSl (dAddS 0 (dDisp mkLst (dCons (dC (.int 0)) dNil))) dPn (dPs (dC (.int 6))))) (tgN 1)
  (dSeq (dSet true 3 (dCall g__law_deck [false, false] (dCons (dVar 1) (dCons (dC (.int 16)) dNil))))
  (dSeq (dSet false 4 (dCall g__law_schedule [true, false, false] (dCons (dVar 3) (dCons (dC (.int 4)) (dCons (dCall g__law_one [true, false] (dCons (dVar 3) (dCons (dDisp mkLst (dCons (dC (.int 8)) (dCons (dC (.int 40)) (dCons (dC (.int 400)) dNil)))) dNil))) dNil)))))
  (dSeq (dSet false 2 (dCall g__law_trips [true, false, false] (dCons (dVar 3) (dCons (dC (.int 20)) (dCons (dCall g__law_one [true, false] (dCons (dVar 3) (dCons (dDisp mkLst (dCons (dC (.int 10)) (dCons (dC (.int 60)) (dCons (dC (.int 500)) dNil)))) dNil))) dNil)))))
  (dSeq (dFor (dRng gRng1 (dCons (dBlt gLen (dCons (dVar 4) dNil)) dNil)) (tgN 5)
  (dSeq (dFor (dSeqI (dDisp mkLst (dCons (dC (.int 1)) (dCons (dC (.int 2)) (dCons (dOp2 gAdd (dC (.int 1)) (dCall g__law_pick [true, false] (dCons (dVar 3) (dCons (dC (.int 9)) dNil)))) (dCons (dOp2 gAdd (dC (.int 1)) (dCall g__law_pick [true, false] (dCons (dVar 3) (dCons (dC (.int 60)) dNil)))) (dCons (dOp2 gPow (dC (.int 10)) (dC (.int 6))) dNil))))))) (tgN 7)
  (dSeq (dSet false 8 (dCall g__law_total [false, false] (dCons (dCall g__law_with_price [false, false, false] (dCons (dVar 4) (dCons (dVar 5) (dCons (dVar 7) dNil)))) (dCons (dVar 2) dNil))))
  (dFor (dSeqI (dDisp mkLst (dCons (dVar 8) (dCons (dBlt gMax (dCons (dC (.int 0)) (dCons (dOp2 gSub (dVar 8) (dC (.int 1))) dNil))) (dCons (dOp2 gAdd (dVar 8) (dC (.int 1))) dNil))))) (tgN 9)
  (dIfS (dNot (asB (dCall g__law_right_k16 [true, false, false, false, false] (dCons (dVar 3) (dCons (dVar 4) (dCons (dVar 2) (dCons (dVar 5) (dCons (dVar 9) dNil))))))))
  (dRet (dC (.bool false)))
  Ou.next))))
  (dIfS (dNot (asB (dCall g__law_highest_right [false, false, false] (dCons (dVar 4) (dCons (dVar 2) (dCons (dVar 5) dNil))))))
  (dRet (dC (.bool false)))
  Ou.next)))
  (dSeq (dFor (dSeqI (dDisp mkLst (dCons (dC .none) (dCons (dC (.bool true)) (dCons (dNeg (dC (.int 1))) (dCons (dBlt gLen (dCons (dVar 4) dNil)) dNil)))))) (tgN 6)
  (dSeq (dIfS (asB (dOp2 gNe (dTry (dCall g_prices_for [false, false, false, false] (dCons (dVar 4) (dCons (dVar 2) (dCons (dVar 6) (dCons (dC .none) dNil)))))) (dC (.str "Index+"))))
  (dRet (dC (.bool false)))
  Ou.next)
  (dIfS (asB (dOp2 gNe (dTry (dCall g_highest_price [false, false, false] (dCons (dVar 4) (dCons (dVar 2) (dCons (dVar 6) dNil))))) (dC (.str "Index+"))))
  (dRet (dC (.bool false)))
  Ou.next)))
  (dSeq (dIfS (asB (dOp2 gNe (dTry (dCall g_prices_for [false, false, false, false] (dCons (dVar 4) (dCons (dVar 2) (dCons (dC (.int 0)) (dCons (dNeg (dC (.int 1))) dNil)))))) (dC (.str "Amount+"))))
  (dRet (dC (.bool false)))
  Ou.next)
  (dSeq (dIfS (asB (dOp2 gNe (dTry (dCall g_highest_price [false, false, false] (dCons (dVar 4) (dCons (dC .none) (dCons (dC .none) dNil))))) (dC (.str "Trips+"))))
  (dRet (dC (.bool false)))
  Ou.next)
  (dIfS (asB (dOp2 gNe (dTry (dCall g_prices_for [false, false, false, false] (dCons (dC .none) (dCons (dC .none) (dCons (dC .none) (dCons (dC .none) dNil)))))) (dC (.str "Schedule+"))))
  (dRet (dC (.bool false)))
  Ou.next)))))))))
  (dSeq (dSet false 2 (dDisp mkTup (dCons (dDisp mkTup (dCons (dC (.int 0)) (dCons (dC (.int 2)) dNil))) (dCons (dDisp mkTup (dCons (dC (.int 1)) (dCons (dC (.int 2)) dNil))) (dCons (dDisp mkTup (dCons (dC (.int 2)) (dCons (dC (.int 2)) dNil))) (dCons (dDisp mkTup (dCons (dC (.int 3)) (dCons (dC (.int 2)) dNil))) dNil))))))
  (dSeq (dIfS (asB (dOp2 gNe (dCall g_prices_for [false, false, false, false] (dCons (dDisp mkTup (dCons (dDisp mkTup (dCons (dC (.int 3)) (dCons (dC (.int 5)) dNil))) dNil)) (dCons (dVar 2) (dCons (dC (.int 0)) (dCons (dC (.int 7)) dNil))))) (dDisp mkTup (dCons (dC (.int 5)) (dCons (dC (.int 5)) dNil)))))
  (dRet (dC (.bool false)))
  Ou.next)
  (dSeq (dIfS (asB (dOp2 gNe (dCall g_prices_for [false, false, false, false] (dCons (dDisp mkTup (dCons (dDisp mkTup (dCons (dC (.int 3)) (dCons (dC (.int 5)) dNil))) dNil)) (dCons (dVar 2) (dCons (dC (.int 0)) (dCons (dC (.int 8)) dNil))))) (dDisp mkTup (dCons (dC (.int 6)) (dCons (dOp2 gPow (dC (.int 10)) (dC (.int 6))) dNil)))))
  (dRet (dC (.bool false)))
  Ou.next)
  (dRet (asV (dAnd (asB (dOp2 gEq (dCall g_highest_price [false, false, false] (dCons (dDisp mkTup (dCons (dDisp mkTup (dCons (dC (.int 3)) (dCons (dC (.int 5)) dNil))) dNil)) (dCons (dVar 2) (dCons (dC (.int 0)) dNil)))) (dC (.int 5)))) (asB (dOp2 gIs (dCall g_highest_price [false, false, false] (dCons (dDisp mkTup (dCons (dDisp mkTup (dCons (dC (.int 3)) (dCons (dC (.int 5)) dNil))) dNil)) (dCons (dDisp mkTup dNil) (dCons (dC (.int 0)) dNil)))) (dC .none))))))))))
def g_law_k16 : List Sl → FRes := dFun 10 b_law_k16
def b_times_for : Rho → Ou := (dSeq (dDrop (dCall g_need_both [false, false] (dCons (dVar 0) (dCons (dVar 1) dNil))))
  (dSeq (dDrop (dCall g_need_index [false, false] (dCons (dVar 1) (dCons (dVar 2) dNil))))
  (dSeq (dDrop (dCall g_need_amount [false] (dCons (dVar 3) dNil)))
  (dSeq (dIfS (dOr (dNot (asB (dCall g_is_from [false, false, false] (dCons (dVar 4) (dCons (dC (.int 0)) (dCons (dC (.int 1000000000)) dNil)))))) (dOr (dNot (asB (dCall g_is_from [false, false, false] (dCons (dVar 5) (dCons (dVar 4) (dCons (dC (.int 1000000000)) dNil)))))) (asB (dOp2 gGt (dOp2 gSub (dVar 5) (dVar 4)) (dC (.int 200))))))
  (dRaise "InvalidRange")
  Ou.next)
  (dSeq (dPar false false 6 7 (dCall g_without_trip [false, false] (dCons (dVar 1) (dCons (dVar 2) dNil))) (dOp2 gIx (dOp2 gIx (dVar 1) (dVar 2)) (dC (.int 1))))
  (dRet (dLc [8] (dRng gRng2 (dCons (dVar 4) (dCons (dOp2 gAdd (dVar 5) (dC (.int 1))) dNil))) (tgN 8) (asB (dOp2 gEq (dCall g_total_of [false, false] (dCons (dVar 0) (dCons (dCall g_with_trip [false, false] (dCons (dVar 6) (dCons (dDisp mkTup (dCons (dVar 8) (dCons (dVar 7) dNil))) dNil))) dNil))) (dVar 3))) (dVar 8))))))))
def g_times_for : List Sl → FRes := dFun 9 b_times_for
def b__law_with_time : Rho → Ou := (dSeq (dSet false 3 (dLc [4, 5] (dItr gEnum (dCons (dVar 0) dNil)) (tgTup 2 (tgCons (tgN 4) (tgCons (tgN 5) tgNil))) (asB (dOp2 gNe (dVar 4) (dVar 1))) (dVar 5)))
  (dRet (dBlt gTuple (dCons dNo dNil))))
def g__law_with_time : List Sl → FRes := dFun 6 b__law_with_time
def b_law_k17 : Rho → Ou := (dSeq (dFor (dSeqI (dSl (dAddS 0 (dDisp mkLst (dCons (dC (.int 0)) dNil))) dPn (dPs (dC (.int 8))))) (tgN 1)
  (dSeq (dSet true 2 (dCall g__law_deck [false, false] (dCons (dVar 1) (dCons (dC (.int 17)) dNil))))
  (dSeq (dSet false 3 (dCall g__law_schedule [true, false, false] (dCons (dVar 2) (dCons (dC (.int 4)) (dCons (dCall g__law_one [true, false] (dCons (dVar 2) (dCons (dDisp mkLst (dCons (dC (.int 8)) (dCons (dC (.int 40)) (dCons (dC (.int 100)) dNil)))) dNil))) dNil)))))
  (dSeq (dSet false 4 (dCall g__law_trips [true, false, false] (dCons (dVar 2) (dCons (dC (.int 12)) (dCons (dCall g__law_one [true, false] (dCons (dVar 2) (dCons (dDisp mkLst (dCons (dC (.int 10)) (dCons (dC (.int 60)) (dCons (dC (.int 150)) dNil)))) dNil))) dNil)))))
  (dSeq (dFor (dRng gRng1 (dCons (dBlt gMin (dCons (dC (.int 4)) (dCons (dBlt gLen (dCons (dVar 4) dNil)) dNil))) dNil)) (tgN 5)
  (dSeq (dSet false 7 (dBlt gMax (dCons (dC (.int 0)) (dCons (dBlt gMin (dCons (dOp2 gSub (dOp2 gPow (dC (.int 10)) (dC (.int 9))) (dC (.int 200))) (dCons (dOp2 gSub (dOp2 gAdd (dOp2 gIx (dOp2 gIx (dVar 4) (dC (.int 0))) (dC (.int 0))) (dCall g__law_pick [true, false] (dCons (dVar 2) (dCons (dC (.int 60)) dNil)))) (dC (.int 30))) dNil))) dNil))))
  (dSeq (dSet false 8 (dOp2 gAdd (dVar 7) (dCall g__law_one [true, false] (dCons (dVar 2) (dCons (dDisp mkLst (dCons (dC (.int 0)) (dCons (dC (.int 20)) (dCons (dC (.int 60)) (dCons (dCall g__law_pick [true, false] (dCons (dVar 2) (dCons (dC (.int 201)) dNil))) dNil))))) dNil)))))
  (dSeq (dSet false 9 (dLc [13] (dRng gRng2 (dCons (dVar 7) (dCons (dOp2 gAdd (dVar 8) (dC (.int 1))) dNil))) (tgN 13) dYes (dCall g__law_total [false, false] (dCons (dVar 3) (dCons (dCall g__law_with_time [false, false, false] (dCons (dVar 4) (dCons (dVar 5) (dCons (dVar 13) dNil)))) dNil)))))
  (dFor (dSeqI (dDisp mkLst (dCons (dOp2 gIx (dVar 9) (dC (.int 0))) (dCons (dCall g__law_one [true, false] (dCons (dVar 2) (dCons (dVar 9) dNil))) (dCons (dBlt gMin (dCons (dVar 9) dNil)) (dCons (dOp2 gAdd (dBlt gMax (dCons (dVar 9) dNil)) (dC (.int 1))) dNil)))))) (tgN 10)
  (dSeq (dSet false 11 (dLc [14, 15] (dItr gEnum (dCons (dVar 9) dNil)) (tgTup 2 (tgCons (tgN 14) (tgCons (tgN 15) tgNil))) (asB (dOp2 gEq (dVar 15) (dVar 10))) (dOp2 gAdd (dVar 7) (dVar 14))))
  (dSeq (dSet true 12 (dCall g_times_for [false, false, false, false, false, false] (dCons (dVar 3) (dCons (dVar 4) (dCons (dVar 5) (dCons (dVar 10) (dCons (dVar 7) (dCons (dVar 8) dNil))))))))
  (dSeq (dIfS (dNot (asB (dCall g__law_same [false, false] (dCons (dVar 12) (dCons (dVar 11) dNil)))))
  (dRet (dC (.bool false)))
  Ou.next)
  (dSeq (dApp 12 (dC (.int 0)))
  (dIfS (asB (dOp2 gNe (dCall g_times_for [false, false, false, false, false, false] (dCons (dVar 3) (dCons (dVar 4) (dCons (dVar 5) (dCons (dVar 10) (dCons (dVar 7) (dCons (dVar 8) dNil))))))) (dVar 11)))
  (dRet (dC (.bool false)))
  Ou.next))))))))))
  (dSeq (dSet false 6 (dDisp mkTup (dCons (dDisp mkTup (dCons (dC (.int 1)) (dCons (dC (.int 1)) dNil))) (dCons (dDisp mkTup (dCons (dC (.int 2)) (dCons (dC (.int 1)) dNil))) dNil))))
  (dSeq (dFor (dSeqI (dDisp mkLst (dCons (dDisp mkTup (dCons (dC .none) (dCons (dC (.int 1)) dNil))) (dCons (dDisp mkTup (dCons (dC (.int 0)) (dCons (dC .none) dNil))) (dCons (dDisp mkTup (dCons (dNeg (dC (.int 1))) (dCons (dC (.int 5)) dNil))) (dCons (dDisp mkTup (dCons (dC (.int 5)) (dCons (dC (.int 4)) dNil))) (dCons (dDisp mkTup (dCons (dC (.int 0)) (dCons (dC (.int 201)) dNil))) (dCons (dDisp mkTup (dCons (dC (.bool true)) (dCons (dC (.int 5)) dNil))) (dCons (dDisp mkTup (dCons (dC (.int 0)) (dCons (dOp2 gAdd (dOp2 gPow (dC (.int 10)) (dC (.int 9))) (dC (.int 1))) dNil))) (dCons (dDisp mkTup (dCons (dC (.int 1)) (dCons (dC (.bool true)) dNil))) dNil)))))))))) (tgTup 2 (tgCons (tgN 7) (tgCons (tgN 8) tgNil)))
  (dIfS (asB (dOp2 gNe (dTry (dCall g_times_for [false, false, false, false, false, false] (dCons (dVar 3) (dCons (dVar 6) (dCons (dC (.int 0)) (dCons (dC (.int 0)) (dCons (dVar 7) (dCons (dVar 8) dNil)))))))) (dC (.str "Range+"))))
  (dRet (dC (.bool false)))
  Ou.next))
  (dSeq (dIfS (asB (dOp2 gNe (dTry (dCall g_times_for [false, false, false, false, false, false] (dCons (dVar 3) (dCons (dVar 6) (dCons (dC (.int 2)) (dCons (dC .none) (dCons (dC .none) (dCons (dC .none) dNil)))))))) (dC (.str "Index+"))))
  (dRet (dC (.bool false)))
  Ou.next)
  (dSeq (dIfS (asB (dOp2 gNe (dTry (dCall g_times_for [false, false, false, false, false, false] (dCons (dVar 3) (dCons (dVar 6) (dCons (dC (.int 0)) (dCons (dNeg (dC (.int 1))) (dCons (dC .none) (dCons (dC .none) dNil)))))))) (dC (.str "Amount+"))))
  (dRet (dC (.bool false)))
  Ou.next)
  (dSeq (dIfS (asB (dOp2 gNe (dTry (dCall g_times_for [false, false, false, false, false, false] (dCons (dVar 3) (dCons (dC .none) (dCons (dC .none) (dCons (dC .none) (dCons (dC .none) (dCons (dC .none) dNil)))))))) (dC (.str "Trips+"))))
  (dRet (dC (.bool false)))
  Ou.next)
  (dIfS (asB (dOp2 gNe (dTry (dCall g_times_for [false, false, false, false, false, false] (dCons (dC .none) (dCons (dC .none) (dCons (dC .none) (dCons (dC .none) (dCons (dC .none) (dCons (dC .none) dNil)))))))) (dC (.str "Schedule+"))))
  (dRet (dC (.bool false)))
  Ou.next)))))))))))
  (dSeq (dIfS (asB (dOp2 gNe (dCall g_times_for [false, false, false, false, false, false] (dCons (dDisp mkTup (dCons (dDisp mkTup (dCons (dC (.int 3)) (dCons (dC (.int 5)) dNil))) dNil)) (dCons (dDisp mkTup (dCons (dDisp mkTup (dCons (dC (.int 0)) (dCons (dC (.int 2)) dNil))) (dCons (dDisp mkTup (dCons (dC (.int 1)) (dCons (dC (.int 2)) dNil))) (dCons (dDisp mkTup (dCons (dC (.int 2)) (dCons (dC (.int 2)) dNil))) (dCons (dDisp mkTup (dCons (dC (.int 3)) (dCons (dC (.int 2)) dNil))) dNil))))) (dCons (dC (.int 3)) (dCons (dC (.int 7)) (dCons (dC (.int 0)) (dCons (dC (.int 5)) dNil))))))) (dDisp mkLst (dCons (dC (.int 3)) (dCons (dC (.int 4)) (dCons (dC (.int 5)) dNil))))))
  (dRet (dC (.bool false)))
  Ou.next)
  (dRet (dOp2 gEq (dBlt gLen (dCons (dCall g_times_for [false, false, false, false, false, false] (dCons (dDisp mkTup (dCons (dDisp mkTup (dCons (dC (.int 3)) (dCons (dC (.int 5)) dNil))) dNil)) (dCons (dDisp mkTup (dCons (dDisp mkTup (dCons (dC (.int 9)) (dCons (dC (.int 1)) dNil))) dNil)) (dCons (dC (.int 0)) (dCons (dC (.int 1)) (dCons (dOp2 gSub (dOp2 gPow (dC (.int 10)) (dC (.int 9))) (dC (.int 200))) (dCons (dOp2 gPow (dC (.int 10)) (dC (.int 9))) dNil))))))) dNil)) (dC (.int 201))))))
def g_law_k17 : List Sl → FRes := dFun 16 b_law_k17
def b__law_case : Rho → Ou := (dSeq (dSet false 1 (dCall g__law_one [true, false] (dCons (dVar 0) (dCons (dDisp mkLst (dCons (dC (.int 1)) (dCons (dC (.int 2)) (dCons (dC (.int 5)) (dCons (dC (.int 5)) (dCons (dC (.int 24)) (dCons (dC (.int 70)) dNil))))))) dNil))))
  (dSeq (dSet false 2 (dBlt gSortI (dCons (dLc [5] (dRng gRng1 (dCons (dOp2 gAdd (dC (.int 1)) (dCall g__law_pick [true, false] (dCons (dVar 0) (dCons (dC (.int 4)) dNil)))) dNil)) (tgN 5) dYes (dCall g__law_pick [true, false] (dCons (dVar 0) (dCons (dVar 1) dNil)))) dNil)))
  (dSeq (dSet false 3 (dBlt gTuple (dCons (dLc [6] (dSeqI (dVar 2)) (tgN 6) dYes (dDisp mkTup (dCons (dVar 6) (dCons (dCall g__law_pick [true, false] (dCons (dVar 0) (dCons (dCall g__law_one [true, false] (dCons (dVar 0) (dCons (dDisp mkLst (dCons (dC (.int 4)) (dCons (dC (.int 10)) (dCons (dC (.int 60)) dNil)))) dNil))) dNil))) dNil)))) dNil)))
  (dSeq (dSet false 4 (dCall g__law_schedule [true, false, false] (dCons (dVar 0) (dCons (dC (.int 4)) (dCons (dBlt gMin (dCons (dC (.int 400)) (dCons (dOp2 gMul (dC (.int 6)) (dVar 1)) dNil))) dNil)))))
  (dRet (dDisp mkTup (dCons (dVar 4) (dCons (dVar 3) (dCons (dVar 1) dNil)))))))))
def g__law_case : List Sl → FRes := dFun 7 b__law_case
def b_need_pattern : Rho → Ou := (dSeq (dDrop (dCall g_need_schedule [false] (dCons (dVar 0) dNil)))
  (dSeq (dIfS (dOr (dNot (asB (dCall g_are_trips [false] (dCons (dVar 1) dNil)))) (dNot (dChain gLe gLe (dC (.int 1)) (dBlt gLen (dCons (dVar 1) dNil)) (dC (.int 4)))))
  (dRaise "InvalidTrips")
  Ou.next)
  (dIfS (dOr (dNot (asB (dCall g_is_from [false, false, false] (dCons (dVar 2) (dCons (dOp2 gAdd (dOp2 gIx (dOp2 gIx (dVar 1) (dNeg (dC (.int 1)))) (dC (.int 0))) (dC (.int 1))) (dCons (dC (.int 1000)) dNil)))))) (asB (dOp2 gGt (dOp2 gIx (dOp2 gIx (dVar 0) (dNeg (dC (.int 1)))) (dC (.int 0))) (dOp2 gMul (dC (.int 6)) (dVar 2)))))
  (dRaise "InvalidPeriod")
  Ou.next)))
def g_need_pattern : List Sl → FRes := dFun 3 b_need_pattern
def b_moves_from : Rho → Ou := (dSeq (dAsg (tgTup 2 (tgCons (tgN 4) (tgCons (tgN 5) tgNil))) (dOp2 gIx (dVar 1) (dVar 3)))
  (dSeq (dSet true 6 (dDisp mkLst (dCons (dDisp mkTup (dCons (dC (.int 1)) (dCons (dVar 5) dNil))) dNil)))
  (dSeq (dSet false 7 (dBlt gLen (dCons (dVar 1) dNil)))
  (dSeq (dFor (dSeqI (dVar 0)) (tgTup 2 (tgCons (tgN 8) (tgCons (tgN 9) tgNil)))
  (dSeq (dPar false false 10 11 (dOp2 gAdd (dVar 4) (dVar 8)) (dC (.int 1)))
  (dSeq (dWhile (asB (dOp2 gLt (dOp2 gAdd (dOp2 gMul (dOp2 gFdiv (dOp2 gAdd (dVar 3) (dVar 11)) (dVar 7)) (dVar 2)) (dOp2 gIx (dOp2 gIx (dVar 1) (dOp2 gMod (dOp2 gAdd (dVar 3) (dVar 11)) (dVar 7))) (dC (.int 0)))) (dVar 10)))
  (dAug 11 aAdd (dC (.int 1))) fuel)
  (dApp 6 (dDisp mkTup (dCons (dVar 11) (dCons (dVar 9) dNil)))))))
  (dRet (dVar 6))))))
def g_moves_from : List Sl → FRes := dFun 12 b_moves_from
def b_one_period : Rho → Ou := (dSeq (dSet false 3 (dBlt gLen (dCons (dVar 1) dNil)))
  (dSeq (dSet false 4 (dOp2 gAdd (dOp2 gMul (dVar 3) (dOp2 gAdd (dC (.int 6)) (dC (.int 1)))) (dC (.int 1))))
  (dSeq (dSet false 5 (dLc [9] (dRng gRng1 (dCons (dVar 3) dNil)) (tgN 9) dYes (dCall g_moves_from [false, false, false, false] (dCons (dVar 0) (dCons (dVar 1) (dCons (dVar 2) (dCons (dVar 9) dNil)))))))
  (dSeq (dSet true 6 (dDisp mkLst dNil))
  (dSeq (dFor (dRng gRng1 (dCons (dVar 4) dNil)) (tgN 7)
  (dSeq (dSet true 8 dNo)
  (dSeq (dFor (dRng gRng1 (dCons (dVar 3) dNil)) (tgN 9)
  (dIfS (asB (dOp2 (gIn false) (dVar 9) (dVar 8)))
  (dFor (dSeqI (dOp2 gIx (dVar 5) (dVar 9))) (tgTup 2 (tgCons (tgN 10) (tgCons (tgN 11) tgNil)))
  (dSeq (dSet false 12 (dOp2 gAdd dNo (dVar 11)))
  (dIfS (dOr (asB (dOp2 (gIn true) (dOp2 gAdd (dVar 9) (dVar 10)) (dVar 8))) (asB (dOp2 gLt (dVar 12) dNo)))
  (dPutK 8 (dOp2 gAdd (dVar 9) (dVar 10)) (dVar 12))
  Ou.next)))
  Ou.next))
  (dApp 6 (dLc [13] (dRng gRng1 (dCons (dVar 4) dNil)) (tgN 13) dYes dNo)))))
  (dRet (dVar 6)))))))
def g_one_period : List Sl → FRes := dFun 14 b_one_period
def b_combined_row : Rho → Ou := (dSeq (dSet true 2 (dDisp mkLst dNil))
  (dSeq (dFor (dRng gRng1 (dCons (dBlt gLen (dCons (dVar 1) dNil)) dNil)) (tgN 3)
  (dSeq (dSet true 4 (dDisp mkLst dNil))
  (dSeq (dFor (dItr gEnum (dCons (dVar 0) dNil)) (tgTup 2 (tgCons (tgN 5) (tgCons (tgN 6) tgNil)))
  (dIfS (dAnd (asB (dOp2 gIsNot (dVar 6) (dC .none))) (asB (dOp2 gIsNot (dOp2 gIx (dOp2 gIx (dVar 1) (dVar 5)) (dVar 3)) (dC .none))))
  (dApp 4 (dOp2 gAdd (dVar 6) (dOp2 gIx (dOp2 gIx (dVar 1) (dVar 5)) (dVar 3))))
  Ou.next))
  (dApp 2 (dIf (asB (dOp2 gNe (dVar 4) (dDisp mkLst dNil))) (dBlt gMin (dCons (dVar 4) dNil)) (dC .none))))))
  (dRet (dVar 2))))
def g_combined_row : List Sl → FRes := dFun 7 b_combined_row
def b_combined : Rho → Ou := (dRet (dLc [2] (dSeqI (dVar 0)) (tgN 2) dYes (dCall g_combined_row [false, false] (dCons (dVar 2) (dCons (dVar 1) dNil)))))
def g_combined : List Sl → FRes := dFun 3 b_combined
def b_repeated_total : Rho → Ou := (dSeq (dDrop (dCall g_need_pattern [false, false, false] (dCons (dVar 0) (dCons (dVar 1) (dCons (dVar 2) dNil)))))
  (dSeq (dIfS (dNot (asB (dCall g_is_from [false, false, false] (dCons (dVar 3) (dCons (dC (.int 0)) (dCons (dC (.int 1000000000000000)) dNil))))))
  (dRaise "InvalidCount")
  Ou.next)
  (dSeq (dSet false 4 (dCall g_one_period [false, false, false] (dCons (dVar 0) (dCons (dVar 1) (dCons (dVar 2) dNil)))))
  (dSeq (dSet false 5 (dOp2 gAdd (dDisp mkLst (dCons (dC (.int 0)) dNil)) (dOp2 gMul (dDisp mkLst (dCons (dC .none) dNil)) (dOp2 gSub (dBlt gLen (dCons (dVar 4) dNil)) (dC (.int 1))))))
  (dSeq (dWhile (asB (dOp2 gGt (dVar 3) (dC (.int 0))))
  (dSeq (dIfS (asB (dOp2 gEq (dOp2 gMod (dVar 3) (dC (.int 2))) (dC (.int 1))))
  (dSet false 5 (dCall g_combined_row [false, false] (dCons (dVar 5) (dCons (dVar 4) dNil))))
  Ou.next)
  (dSeq (dSet false 4 (dIf (asB (dOp2 gGt (dVar 3) (dC (.int 1)))) (dCall g_combined [false, false] (dCons (dVar 4) (dCons (dVar 4) dNil))) (dVar 4)))
  (dSet false 3 (dOp2 gFdiv (dVar 3) (dC (.int 2)))))) fuel)
  (dRet (dBlt gMin (dCons (dLc [6] (dSeqI (dVar 5)) (tgN 6) (asB (dOp2 gIsNot (dVar 6) (dC .none))) (dVar 6)) dNil))))))))
def g_repeated_total : List Sl → FRes := dFun 7 b_repeated_total
def b__law_repeat : Rho → Ou := (dSeq (dSet false 3 (dDisp mkTup dNil))
  (dSeq (dFor (dRng gRng1 (dCons (dVar 2) dNil)) (tgN 4)
  (dSet false 3 (dOp2 gAdd (dVar 3) (dBlt gTuple (dCons (dLc [5, 6] (dSeqI (dVar 0)) (tgTup 2 (tgCons (tgN 5) (tgCons (tgN 6) tgNil))) dYes (dDisp mkTup (dCons (dOp2 gAdd (dVar 5) (dOp2 gMul (dVar 4) (dVar 1))) (dCons (dVar 6) dNil)))) dNil)))))
  (dRet (dVar 3))))
def g__law_repeat : List Sl → FRes := dFun 7 b__law_repeat
def b_lowest_terms : Rho → Ou := (dSeq (dPar false false 2 3 (dVar 0) (dVar 1))
  (dSeq (dWhile (asB (dOp2 gGt (dVar 3) (dC (.int 0))))
  (dPar false false 2 3 (dVar 3) (dOp2 gMod (dVar 2) (dVar 3))) fuel)
  (dRet (dDisp mkTup (dCons (dOp2 gFdiv (dVar 0) (dVar 2)) (dCons (dOp2 gFdiv (dVar 1) (dVar 2)) dNil))))))
def g_lowest_terms : List Sl → FRes := dFun 4 b_lowest_terms
def b_loops_from (g : List Sl → FRes) : Rho → Ou := (dSeq (dAsg (tgTup 4 (tgCons (tgN 4) (tgCons (tgN 5) (tgCons (tgN 6) (tgCons (tgN 7) tgNil))))) (dVar 3))
  (dSeq (dSet true 8 (dDisp mkLst dNil))
  (dSeq (dFor (dSeqI (dOp2 gIx (dVar 0) (dVar 4))) (tgTup 2 (tgCons (tgN 9) (tgCons (tgN 10) tgNil)))
  (dSeq (dSet false 11 (dOp2 gMod (dOp2 gAdd (dVar 4) (dVar 9)) (dVar 1)))
  (dIfS (asB (dOp2 gEq (dVar 11) (dVar 2)))
  (dApp 8 (dDisp mkTup (dCons (dOp2 gAdd (dVar 5) (dVar 10)) (dCons (dOp2 gAdd (dVar 6) (dVar 9)) dNil))))
  (dIfS (dAnd (asB (dOp2 gGt (dVar 11) (dVar 2))) (asB (dOp2 (gIn true) (dVar 11) (dVar 7))))
  (dExtL 8 (dCall g [false, false, false, false] (dCons (dVar 0) (dCons (dVar 1) (dCons (dVar 2) (dCons (dDisp mkTup (dCons (dVar 11) (dCons (dOp2 gAdd (dVar 5) (dVar 10)) (dCons (dOp2 gAdd (dVar 6) (dVar 9)) (dCons (dOp2 gAdd (dVar 7) (dDisp mkTup (dCons (dVar 11) dNil))) dNil))))) dNil))))))
  Ou.next))))
  (dRet (dVar 8)))))
def gn_loops_from : Nat → List Sl → FRes
  | 0 => fun _ => .stuck
  | n + 1 => dFun 12 (b_loops_from (gn_loops_from n))
def g_loops_from : List Sl → FRes := gn_loops_from 8
def b_mean_total : Rho → Ou := (dSeq (dDrop (dCall g_need_pattern [false, false, false] (dCons (dVar 0) (dCons (dVar 1) (dCons (dVar 2) dNil)))))
  (dSeq (dSet false 3 (dBlt gLen (dCons (dVar 1) dNil)))
  (dSeq (dSet false 4 (dLc [9] (dRng gRng1 (dCons (dVar 3) dNil)) (tgN 9) dYes (dCall g_moves_from [false, false, false, false] (dCons (dVar 0) (dCons (dVar 1) (dCons (dVar 2) (dCons (dVar 9) dNil)))))))
  (dSeq (dSet false 5 (dC .none))
  (dSeq (dFor (dRng gRng1 (dCons (dVar 3) dNil)) (tgN 6)
  (dFor (dSeqI (dCall g_loops_from [false, false, false, false] (dCons (dVar 4) (dCons (dVar 3) (dCons (dVar 6) (dCons (dDisp mkTup (dCons (dVar 6) (dCons (dC (.int 0)) (dCons (dC (.int 0)) (dCons (dDisp mkTup (dCons (dVar 6) dNil)) dNil))))) dNil)))))) (tgTup 2 (tgCons (tgN 7) (tgCons (tgN 8) tgNil)))
  (dIfS (dOr (asB (dOp2 gIs (dVar 5) (dC .none))) (asB (dOp2 gLt (dOp2 gMul (dVar 7) (dOp2 gIx (dVar 5) (dC (.int 1)))) (dOp2 gMul (dOp2 gIx (dVar 5) (dC (.int 0))) (dVar 8)))))
  (dSet false 5 (dDisp mkTup (dCons (dVar 7) (dCons (dVar 8) dNil))))
  Ou.next)))
  (dRet (dCall g_lowest_terms [false, false] (dCons (dOp2 gMul (dOp2 gIx (dVar 5) (dC (.int 0))) (dVar 3)) (dCons (dOp2 gIx (dVar 5) (dC (.int 1))) dNil)))))))))
def g_mean_total : List Sl → FRes := dFun 10 b_mean_total
def b_law_k18 : Rho → Ou := (dSeq (dFor (dSeqI (dSl (dAddS 0 (dDisp mkLst (dCons (dC (.int 0)) dNil))) dPn (dPs (dC (.int 6))))) (tgN 1)
  (dSeq (dSet true 2 (dCall g__law_deck [false, false] (dCons (dVar 1) (dCons (dC (.int 18)) dNil))))
  (dSeq (dFor (dRng gRng1 (dCons (dC (.int 2)) dNil)) (tgN 3)
  (dSeq (dAsg (tgTup 3 (tgCons (tgN 5) (tgCons (tgN 6) (tgCons (tgN 7) tgNil)))) (dCall g__law_case [true] (dCons (dVar 2) dNil)))
  (dFor (dSeqI (dDisp mkLst (dCons (dC (.int 0)) (dCons (dC (.int 1)) (dCons (dC (.int 2)) (dCons (dC (.int 3)) (dCons (dC (.int 7)) (dCons (dOp2 gAdd (dC (.int 1)) (dCall g__law_pick [true, false] (dCons (dVar 2) (dCons (dC (.int 60)) dNil)))) dNil)))))))) (tgN 8)
  (dSeq (dSet false 10 (dCall g__law_least [false, false] (dCons (dVar 5) (dCons (dCall g__law_repeat [false, false, false] (dCons (dVar 6) (dCons (dVar 7) (dCons (dVar 8) dNil)))) dNil))))
  (dIfS (dNot (asB (dCall g__law_same [false, false] (dCons (dCall g_repeated_total [false, false, false, false] (dCons (dVar 5) (dCons (dVar 6) (dCons (dVar 7) (dCons (dVar 8) dNil))))) (dCons (dVar 10) dNil)))))
  (dRet (dC (.bool false)))
  Ou.next)))))
  (dSeq (dFor (dSeqI (dDisp mkLst (dCons (dC .none) (dCons (dDisp mkTup dNil) (dCons (dOp2 gMul (dDisp mkTup (dCons (dDisp mkTup (dCons (dC (.int 1)) (dCons (dC (.int 1)) dNil))) dNil)) (dC (.int 5))) (dCons (dDisp mkTup (dCons (dDisp mkTup (dCons (dC (.int 2)) (dCons (dC (.int 1)) dNil))) (dCons (dDisp mkTup (dCons (dC (.int 1)) (dCons (dC (.int 1)) dNil))) dNil))) (dCons (dDisp mkLst (dCons (dDisp mkTup (dCons (dC (.int 1)) (dCons (dC (.int 1)) dNil))) dNil)) (dCons (dDisp mkTup (dCons (dDisp mkTup (dCons (dC (.int 1)) (dCons (dNeg (dC (.int 1))) dNil))) dNil)) dNil)))))))) (tgN 4)
  (dFor (dSeqI (dDisp mkTup (dCons dNo (dCons dNo dNil)))) (tgN 9)
  (dSeq (dIfS (asB (dOp2 gNe dNo (dC (.str "Trips+"))))
  (dRet (dC (.bool false)))
  Ou.next)
  (dIfS (asB (dOp2 gNe dNo (dC (.str "Schedule+"))))
  (dRet (dC (.bool false)))
  Ou.next))))
  (dSeq (dFor (dSeqI (dDisp mkLst (dCons (dC .none) (dCons (dC (.bool true)) (dCons (dC (.int 0)) (dCons (dNeg (dC (.int 1))) (dCons (dC (.int 1001)) (dCons (dC (.int 7)) (dCons (dC (.str "1")) dNil))))))))) (tgN 4)
  (dSeq (dIfS (asB (dOp2 gNe (dTry (dCall g_repeated_total [false, false, false, false] (dCons (dDisp mkTup (dCons (dDisp mkTup (dCons (dC (.int 6)) (dCons (dC (.int 1)) dNil))) dNil)) (dCons (dDisp mkTup (dCons (dDisp mkTup (dCons (dC (.int 7)) (dCons (dC (.int 1)) dNil))) dNil)) (dCons (dVar 4) (dCons (dC .none) dNil)))))) (dC (.str "Period+"))))
  (dRet (dC (.bool false)))
  Ou.next)
  (dIfS (asB (dOp2 gNe (dTry (dCall g_mean_total [false, false, false] (dCons (dDisp mkTup (dCons (dDisp mkTup (dCons (dC (.int 6)) (dCons (dC (.int 1)) dNil))) dNil)) (dCons (dDisp mkTup (dCons (dDisp mkTup (dCons (dC (.int 7)) (dCons (dC (.int 1)) dNil))) dNil)) (dCons (dVar 4) dNil))))) (dC (.str "Period+"))))
  (dRet (dC (.bool false)))
  Ou.next)))
  (dSeq (dIfS (asB (dOp2 gNe (dTry (dCall g_repeated_total [false, false, false, false] (dCons (dDisp mkTup (dCons (dDisp mkTup (dCons (dC (.int 61)) (dCons (dC (.int 1)) dNil))) dNil)) (dCons (dDisp mkTup (dCons (dDisp mkTup (dCons (dC (.int 7)) (dCons (dC (.int 1)) dNil))) dNil)) (dCons (dC (.int 10)) (dCons (dC (.int 1)) dNil)))))) (dC (.str "Period+"))))
  (dRet (dC (.bool false)))
  Ou.next)
  (dFor (dSeqI (dDisp mkLst (dCons (dC .none) (dCons (dC (.bool true)) (dCons (dNeg (dC (.int 1))) (dCons (dOp2 gAdd (dOp2 gPow (dC (.int 10)) (dC (.int 15))) (dC (.int 1))) dNil)))))) (tgN 4)
  (dIfS (asB (dOp2 gNe (dTry (dCall g_repeated_total [false, false, false, false] (dCons (dDisp mkTup (dCons (dDisp mkTup (dCons (dC (.int 60)) (dCons (dC (.int 1)) dNil))) dNil)) (dCons (dDisp mkTup (dCons (dDisp mkTup (dCons (dC (.int 7)) (dCons (dC (.int 1)) dNil))) dNil)) (dCons (dC (.int 10)) (dCons (dVar 4) dNil)))))) (dC (.str "Count+"))))
  (dRet (dC (.bool false)))
  Ou.next))))))))
  (dRet (asV (dAnd (asB (dOp2 gEq (dCall g_repeated_total [false, false, false, false] (dCons (dDisp mkTup (dCons (dDisp mkTup (dCons (dC (.int 3)) (dCons (dC (.int 5)) dNil))) dNil)) (dCons (dDisp mkTup (dCons (dDisp mkTup (dCons (dC (.int 0)) (dCons (dC (.int 2)) dNil))) dNil)) (dCons (dC (.int 1)) (dCons (dC (.int 10)) dNil))))) (dC (.int 17)))) (asB (dOp2 gEq (dCall g_repeated_total [false, false, false, false] (dCons (dDisp mkTup (dCons (dDisp mkTup (dCons (dC (.int 3)) (dCons (dC (.int 5)) dNil))) dNil)) (dCons (dDisp mkTup (dCons (dDisp mkTup (dCons (dC (.int 0)) (dCons (dC (.int 2)) dNil))) dNil)) (dCons (dC (.int 1)) (dCons (dC (.int 0)) dNil))))) (dC (.int 0))))))))
def g_law_k18 : List Sl → FRes := dFun 11 b_law_k18
def b__law_moves : Rho → Ou := (dSeq (dAsg (tgTup 2 (tgCons (tgN 4) (tgCons (tgN 5) tgNil))) (dOp2 gIx (dVar 1) (dVar 3)))
  (dSeq (dPar false true 6 7 (dDisp mkLst dNil) (dDisp mkLst (dCons (dDisp mkTup (dCons (dOp2 gAdd (dVar 3) (dC (.int 1))) (dCons (dVar 5) dNil))) dNil)))
  (dSeq (dFor (dRng gRng1 (dCons (dC (.int 9)) dNil)) (tgN 8)
  (dSet false 6 (dOp2 gAdd (dVar 6) (dLc [11, 12] (dItr gEnum (dCons (dVar 1) dNil)) (tgTup 2 (tgCons (tgN 11) (tgCons (tgN 12) tgNil))) dYes (dDisp mkTup (dCons (dOp2 gAdd (dOp2 gMul (dVar 8) (dVar 2)) (dOp2 gIx (dVar 12) (dC (.int 0)))) (dCons (dOp2 gAdd (dOp2 gMul (dVar 8) (dBlt gLen (dCons (dVar 1) dNil))) (dVar 11)) dNil)))))))
  (dSeq (dFor (dSeqI (dVar 0)) (tgTup 2 (tgCons (tgN 9) (tgCons (tgN 10) tgNil)))
  (dApp 7 (dDisp mkTup (dCons (dBlt gMin (dCons (dLc [13, 11] (dSeqI (dVar 6)) (tgTup 2 (tgCons (tgN 13) (tgCons (tgN 11) tgNil))) (dAnd (asB (dOp2 gGe (dVar 13) (dOp2 gAdd (dVar 4) (dVar 9)))) (asB (dOp2 gGt (dVar 11) (dVar 3)))) (dVar 11)) dNil)) (dCons (dVar 10) dNil)))))
  (dRet (dVar 7))))))
def g__law_moves : List Sl → FRes := dFun 14 b__law_moves
def b__law_mean : Rho → Ou := (dSeq (dPar false false 3 4 (dBlt gLen (dCons (dVar 1) dNil)) (dC .none))
  (dSeq (dSet false 5 (dLc [10] (dRng gRng1 (dCons (dVar 3) dNil)) (tgN 10) dYes (dCall g__law_moves [false, false, false, false] (dCons (dVar 0) (dCons (dVar 1) (dCons (dVar 2) (dCons (dVar 10) dNil)))))))
  (dSeq (dFor (dRng gRng1 (dCons (dVar 3) dNil)) (tgN 6)
  (dSeq (dSet false 7 dNo)
  (dFor (dRng gRng1 (dCons (dVar 3) dNil)) (tgN 8)
  (dSeq (dSet true 9 dNewK)
  (dSeq (dFor (dSeqI dNo) (tgTup 2 (tgCons (tgTup 2 (tgCons (tgN 10) (tgCons (tgN 11) tgNil))) (tgCons (tgN 12) tgNil)))
  (dFor (dSeqI (dOp2 gIx (dVar 5) (dVar 10))) (tgTup 2 (tgCons (tgN 13) (tgCons (tgN 14) tgNil)))
  (dSeq (dSet false 15 (dDisp mkTup (dCons (dOp2 gMod (dVar 13) (dVar 3)) (dCons (dOp2 gSub (dOp2 gAdd (dVar 11) (dVar 13)) (dVar 10)) dNil))))
  (dPutK 9 (dVar 15) (dBlt gMin (dCons dNo (dCons (dOp2 gAdd (dVar 12) (dVar 14)) dNil)))))))
  (dSeq (dSet false 7 (dVar 9))
  (dFor (dSeqI dNo) (tgTup 2 (tgCons (tgTup 2 (tgCons (tgN 10) (tgCons (tgN 11) tgNil))) (tgCons (tgN 12) tgNil)))
  (dIfS (dAnd (asB (dOp2 gEq (dVar 10) (dVar 6))) (dOr (asB (dOp2 gIs (dVar 4) (dC .none))) (asB (dOp2 gLt (dOp2 gMul (dVar 12) (dOp2 gIx (dVar 4) (dC (.int 1)))) (dOp2 gMul (dOp2 gIx (dVar 4) (dC (.int 0))) (dVar 11))))))
  (dSet false 4 (dDisp mkTup (dCons (dVar 12) (dCons (dVar 11) dNil))))
  Ou.next))))))))
  (dRet (dDisp mkTup (dCons (dOp2 gMul (dOp2 gIx (dVar 4) (dC (.int 0))) (dVar 3)) (dCons (dOp2 gIx (dVar 4) (dC (.int 1))) dNil)))))))
def g__law_mean : List Sl → FRes := dFun 16 b__law_mean
def b_law_k19 : Rho → Ou := (dSeq (dFor (dSeqI (dSl (dAddS 0 (dDisp mkLst (dCons (dC (.int 0)) dNil))) dPn (dPs (dC (.int 6))))) (tgN 1)
  (dSeq (dSet true 2 (dCall g__law_deck [false, false] (dCons (dVar 1) (dCons (dC (.int 19)) dNil))))
  (dSeq (dAsg (tgTup 3 (tgCons (tgN 3) (tgCons (tgN 4) (tgCons (tgN 5) tgNil)))) (dCall g__law_case [true] (dCons (dVar 2) dNil)))
  (dSeq (dAsg (tgTup 2 (tgCons (tgN 6) (tgCons (tgN 7) tgNil))) (dCall g_mean_total [false, false, false] (dCons (dVar 3) (dCons (dVar 4) (dCons (dVar 5) dNil)))))
  (dSeq (dSet false 8 (dCall g__law_mean [false, false, false] (dCons (dVar 3) (dCons (dVar 4) (dCons (dVar 5) dNil)))))
  (dSeq (dIfS (dOr (asB (dOp2 gNe (dOp2 gMul (dVar 6) (dOp2 gIx (dVar 8) (dC (.int 1)))) (dOp2 gMul (dOp2 gIx (dVar 8) (dC (.int 0))) (dVar 7)))) (asB (dOp2 gLt (dVar 7) (dC (.int 1)))))
  (dRet (dC (.bool false)))
  Ou.next)
  (dSeq (dIfS (asB (dOp2 gNe (dLc [15] (dRng gRng2 (dCons (dC (.int 2)) (dCons (dC (.int 200)) dNil))) (tgN 15) (dChain gEq gEq (dOp2 gMod (dVar 6) (dVar 15)) (dC (.int 0)) (dOp2 gMod (dVar 7) (dVar 15))) (dVar 15)) (dDisp mkLst dNil)))
  (dRet (dC (.bool false)))
  Ou.next)
  (dSeq (dSet false 9 (dOp2 gMul (dC (.int 60)) (dOp2 gAdd (dOp2 gAdd (dBlt gMax (dCons (dLc [16, 17] (dSeqI (dVar 3)) (tgTup 2 (tgCons (tgN 16) (tgCons (tgN 17) tgNil))) dYes (dVar 17)) dNil)) (dBlt gSum (dCons (dLc [18, 19] (dSeqI (dVar 4)) (tgTup 2 (tgCons (tgN 18) (tgCons (tgN 19) tgNil))) dYes (dVar 19)) dNil))) (dC (.int 1)))))
  (dFor (dSeqI (dDisp mkLst (dCons (dOp2 gPow (dC (.int 10)) (dC (.int 15))) (dCons (dOp2 gSub (dOp2 gPow (dC (.int 10)) (dC (.int 15))) (dC (.int 1))) (dCons (dOp2 gAdd (dC (.int 1)) (dCall g__law_pick [true, false] (dCons (dVar 2) (dCons (dOp2 gPow (dC (.int 10)) (dC (.int 15))) dNil)))) (dCons (dOp2 gAdd (dC (.int 1)) (dCall g__law_pick [true, false] (dCons (dVar 2) (dCons (dOp2 gPow (dC (.int 10)) (dC (.int 6))) dNil)))) dNil)))))) (tgN 10)
  (dSeq (dSet false 11 (dCall g_repeated_total [false, false, false, false] (dCons (dVar 3) (dCons (dVar 4) (dCons (dVar 5) (dCons (dVar 10) dNil))))))
  (dSeq (dIfS (asB (dOp2 gGt (dBlt gAbs (dCons (dOp2 gSub (dOp2 gMul (dVar 11) (dVar 7)) (dOp2 gMul (dVar 6) (dVar 10))) dNil)) (dOp2 gMul (dVar 9) (dVar 7))))
  (dRet (dC (.bool false)))
  Ou.next)
  (dSeq (dSet false 12 (dCall g__law_pick [true, false] (dCons (dVar 2) (dCons (dOp2 gAdd (dVar 10) (dC (.int 1))) dNil))))
  (dSeq (dSet false 13 (dCall g_repeated_total [false, false, false, false] (dCons (dVar 3) (dCons (dVar 4) (dCons (dVar 5) (dCons (dVar 12) dNil))))))
  (dSeq (dSet false 14 (dCall g_repeated_total [false, false, false, false] (dCons (dVar 3) (dCons (dVar 4) (dCons (dVar 5) (dCons (dOp2 gSub (dVar 10) (dVar 12)) dNil))))))
  (dIfS (dOr (dNot (dChain gLe gLe (dVar 13) (dVar 11) (dOp2 gAdd (dVar 13) (dVar 14)))) (dOr (asB (dOp2 gLt (dVar 11) (dVar 14))) (asB (dOp2 gGt (dOp2 gAdd (dVar 13) (dVar 14)) (dOp2 gAdd (dVar 11) (dVar 9))))))
  (dRet (dC (.bool false)))
  Ou.next)))))))))))))))
  (dSeq (dIfS (dOr (asB (dOp2 gNe (dCall g_mean_total [false, false, false] (dCons (dDisp mkTup (dCons (dDisp mkTup (dCons (dC (.int 3)) (dCons (dC (.int 5)) dNil))) dNil)) (dCons (dDisp mkTup (dCons (dDisp mkTup (dCons (dC (.int 0)) (dCons (dC (.int 2)) dNil))) dNil)) (dCons (dC (.int 1)) dNil)))) (dDisp mkTup (dCons (dC (.int 5)) (dCons (dC (.int 3)) dNil))))) (asB (dOp2 gNe (dCall g_mean_total [false, false, false] (dCons (dDisp mkTup (dCons (dDisp mkTup (dCons (dC (.int 3)) (dCons (dC (.int 7)) dNil))) dNil)) (dCons (dDisp mkTup (dCons (dDisp mkTup (dCons (dC (.int 0)) (dCons (dC (.int 2)) dNil))) dNil)) (dCons (dC (.int 1)) dNil)))) (dDisp mkTup (dCons (dC (.int 2)) (dCons (dC (.int 1)) dNil))))))
  (dRet (dC (.bool false)))
  Ou.next)
  (dSeq (dIfS (asB (dOp2 gNe (dCall g_mean_total [false, false, false] (dCons (dDisp mkTup (dCons (dDisp mkTup (dCons (dC (.int 6)) (dCons (dC (.int 1)) dNil))) dNil)) (dCons (dDisp mkTup (dCons (dDisp mkTup (dCons (dC (.int 0)) (dCons (dC (.int 0)) dNil))) dNil)) (dCons (dC (.int 1)) dNil)))) (dDisp mkTup (dCons (dC (.int 0)) (dCons (dC (.int 1)) dNil)))))
  (dRet (dC (.bool false)))
  Ou.next)
  (dRet (dOp2 gEq (dCall g_repeated_total [false, false, false, false] (dCons (dDisp mkTup (dCons (dDisp mkTup (dCons (dC (.int 3)) (dCons (dC (.int 5)) dNil))) dNil)) (dCons (dDisp mkTup (dCons (dDisp mkTup (dCons (dC (.int 0)) (dCons (dC (.int 2)) dNil))) dNil)) (dCons (dC (.int 1)) (dCons (dOp2 gMul (dC (.int 3)) (dOp2 gPow (dC (.int 10)) (dC (.int 14)))) dNil))))) (dOp2 gMul (dC (.int 5)) (dOp2 gPow (dC (.int 10)) (dC (.int 14)))))))))
def g_law_k19 : List Sl → FRes := dFun 20 b_law_k19
def b__law_subsets_k20 : Rho → Ou := (dSeq (dSet false 1 (dDisp mkLst (dCons (dDisp mkTup dNil) dNil)))
  (dSeq (dFor (dRng gRng1 (dCons (dVar 0) dNil)) (tgN 2)
  (dSet false 1 (dOp2 gAdd (dVar 1) (dLc [4] (dSeqI (dVar 1)) (tgN 4) dYes (dOp2 gAdd (dVar 4) (dDisp mkTup (dCons (dVar 2) dNil)))))))
  (dRet (dLc [3, 4] (dSeqI (dBlt gSortI (dCons (dLc [4] (dSeqI (dVar 1)) (tgN 4) dYes (dDisp mkTup (dCons (dBlt gLen (dCons (dVar 4) dNil)) (dCons (dVar 4) dNil)))) dNil))) (tgTup 2 (tgCons (tgN 3) (tgCons (tgN 4) tgNil))) dYes (dVar 4)))))
def g__law_subsets_k20 : List Sl → FRes := dFun 5 b__law_subsets_k20
def b_lots : Rho → Ou := (dSeq (dSet false 2 (dDisp mkLst (dCons (dDisp mkTup dNil) dNil)))
  (dSeq (dFor (dRng gRng1 (dCons (dVar 1) dNil)) (tgN 3)
  (dSeq (dSet true 4 (dDisp mkLst dNil))
  (dSeq (dFor (dSeqI (dVar 2)) (tgN 5)
  (dExtL 4 (dLc [6] (dRng gRng2 (dCons (dIf (asB (dOp2 gNe (dVar 5) (dDisp mkTup dNil))) (dOp2 gAdd (dOp2 gIx (dVar 5) (dNeg (dC (.int 1)))) (dC (.int 1))) (dC (.int 0))) (dCons (dVar 0) dNil))) (tgN 6) dYes (dOp2 gAdd (dVar 5) (dDisp mkTup (dCons (dVar 6) dNil))))))
  (dSet false 2 (dVar 4)))))
  (dRet (dVar 2))))
def g_lots : List Sl → FRes := dFun 7 b_lots
def b_most_trips : Rho → Ou := (dSeq (dDrop (dCall g_need_both [false, false] (dCons (dVar 0) (dCons (dVar 1) dNil))))
  (dSeq (dDrop (dCall g_need_amount [false] (dCons (dVar 2) dNil)))
  (dSeq (dIfS (asB (dOp2 gGt (dBlt gLen (dCons (dVar 1) dNil)) (dC (.int 10))))
  (dRaiseP (dC (.int 10)))
  Ou.next)
  (dSeq (dFor (dRng gRng3 (dCons (dBlt gLen (dCons (dVar 1) dNil)) (dCons (dC (.int 0)) (dCons (dNeg (dC (.int 1))) dNil)))) (tgN 3)
  (dFor (dSeqI (dCall g_lots [false, false] (dCons (dBlt gLen (dCons (dVar 1) dNil)) (dCons (dVar 3) dNil)))) (tgN 4)
  (dIfS (asB (dOp2 gLe (dCall g_total_of [false, false] (dCons (dVar 0) (dCons (dBlt gTuple (dCons (dLc [5] (dSeqI (dVar 4)) (tgN 5) dYes (dOp2 gIx (dVar 1) (dVar 5))) dNil)) dNil))) (dVar 2)))
  (dRet (dVar 4))
  Ou.next)))
  (dRet (dDisp mkTup dNil))))))
def g_most_trips : List Sl → FRes := dFun 6 b_most_trips
def b_law_k20 : Rho → Ou := (dSeq (dFor (dSeqI (dSl (dAddS 0 (dDisp mkLst (dCons (dC (.int 0)) dNil))) dPn (dPs (dC (.int 6))))) (tgN 1)
  (dSeq (dSet true 2 (dCall g__law_deck [false, false] (dCons (dVar 1) (dCons (dC (.int 20)) dNil))))
  (dSeq (dSet false 3 (dCall g__law_schedule [true, false, false] (dCons (dVar 2) (dCons (dC (.int 4)) (dCons (dCall g__law_one [true, false] (dCons (dVar 2) (dCons (dDisp mkLst (dCons (dC (.int 8)) (dCons (dC (.int 40)) dNil))) dNil))) dNil)))))
  (dSeq (dSet false 4 (dCall g__law_trips [true, false, false] (dCons (dVar 2) (dCons (dC (.int 8)) (dCons (dCall g__law_one [true, false] (dCons (dVar 2) (dCons (dDisp mkLst (dCons (dC (.int 10)) (dCons (dC (.int 60)) dNil))) dNil))) dNil)))))
  (dSeq (dSet true 5 (dDisp mkLst dNil))
  (dSeq (dFor (dSeqI (dCall g__law_subsets_k20 [false] (dCons (dBlt gLen (dCons (dVar 4) dNil)) dNil))) (tgN 6)
  (dApp 5 (dDisp mkTup (dCons (dVar 6) (dCons (dCall g__law_total [false, false] (dCons (dVar 3) (dCons (dBlt gTuple (dCons (dLc [13] (dSeqI (dVar 6)) (tgN 13) dYes (dOp2 gIx (dVar 4) (dVar 13))) dNil)) dNil))) dNil)))))
  (dSeq (dSet false 7 (dOp2 gIx (dOp2 gIx (dVar 5) (dNeg (dC (.int 1)))) (dC (.int 1))))
  (dSeq (dFor (dSeqI (dDisp mkLst (dCons (dC (.int 0)) (dCons (dC (.int 1)) (dCons (dVar 7) (dCons (dBlt gMax (dCons (dC (.int 0)) (dCons (dOp2 gSub (dVar 7) (dC (.int 1))) dNil))) (dCons (dOp2 gFdiv (dVar 7) (dC (.int 2))) (dCons (dCall g__law_pick [true, false] (dCons (dVar 2) (dCons (dOp2 gAdd (dVar 7) (dC (.int 2))) dNil))) (dCons (dOp2 gPow (dC (.int 10)) (dC (.int 9))) dNil))))))))) (tgN 8)
  (dSeq (dSet false 10 (dLc [6, 12] (dSeqI (dVar 5)) (tgTup 2 (tgCons (tgN 6) (tgCons (tgN 12) tgNil))) (asB (dOp2 gLe (dVar 12) (dVar 8))) (dVar 6)))
  (dSeq (dSet false 11 (dOp2 gIx (dLc [6] (dSeqI (dVar 10)) (tgN 6) (asB (dOp2 gEq (dBlt gLen (dCons (dVar 6) dNil)) (dBlt gLen (dCons (dOp2 gIx (dVar 10) (dNeg (dC (.int 1)))) dNil)))) (dVar 6)) (dC (.int 0))))
  (dIfS (dNot (asB (dCall g__law_same [false, false] (dCons (dCall g_most_trips [false, false, false] (dCons (dVar 3) (dCons (dVar 4) (dCons (dVar 8) dNil)))) (dCons (dVar 11) dNil)))))
  (dRet (dC (.bool false)))
  Ou.next))))
  (dSeq (dFor (dSeqI (dDisp mkLst (dCons (dC .none) (dCons (dC (.bool true)) (dCons (dNeg (dC (.int 1))) (dCons (dOp2 gAdd (dOp2 gPow (dC (.int 10)) (dC (.int 9))) (dC (.int 1))) dNil)))))) (tgN 9)
  (dIfS (asB (dOp2 gNe (dTry (dCall g_most_trips [false, false, false] (dCons (dVar 3) (dCons (dOp2 gMul (dDisp mkTup (dCons (dDisp mkTup (dCons (dC (.int 1)) (dCons (dC (.int 1)) dNil))) dNil)) (dC (.int 11))) (dCons (dVar 9) dNil))))) (dC (.str "Amount+"))))
  (dRet (dC (.bool false)))
  Ou.next))
  (dSeq (dIfS (asB (dOp2 gNe (dTry (dCall g_most_trips [false, false, false] (dCons (dVar 3) (dCons (dOp2 gMul (dDisp mkTup (dCons (dDisp mkTup (dCons (dC (.int 1)) (dCons (dC (.int 1)) dNil))) dNil)) (dC (.int 11))) (dCons (dC (.int 5)) dNil))))) (dC (.str "Many+10"))))
  (dRet (dC (.bool false)))
  Ou.next)
  (dSeq (dIfS (asB (dOp2 gNe (dTry (dCall g_most_trips [false, false, false] (dCons (dC .none) (dCons (dC .none) (dCons (dC .none) dNil))))) (dC (.str "Schedule+"))))
  (dRet (dC (.bool false)))
  Ou.next)
  (dIfS (asB (dOp2 gNe (dTry (dCall g_most_trips [false, false, false] (dCons (dVar 3) (dCons (dC .none) (dCons (dC .none) dNil))))) (dC (.str "Trips+"))))
  (dRet (dC (.bool false)))
  Ou.next))))))))))))
  (dRet (dOp2 gEq (dCall g_most_trips [false, false, false] (dCons (dDisp mkTup (dCons (dDisp mkTup (dCons (dC (.int 3)) (dCons (dC (.int 5)) dNil))) dNil)) (dCons (dDisp mkTup (dCons (dDisp mkTup (dCons (dC (.int 0)) (dCons (dC (.int 2)) dNil))) (dCons (dDisp mkTup (dCons (dC (.int 1)) (dCons (dC (.int 2)) dNil))) (dCons (dDisp mkTup (dCons (dC (.int 2)) (dCons (dC (.int 2)) dNil))) (dCons (dDisp mkTup (dCons (dC (.int 3)) (dCons (dC (.int 2)) dNil))) dNil))))) (dCons (dC (.int 5)) dNil)))) (dDisp mkTup (dCons (dC (.int 0)) (dCons (dC (.int 1)) (dCons (dC (.int 2)) dNil)))))))
def g_law_k20 : List Sl → FRes := dFun 14 b_law_k20
def b__law_deed : Rho → Ou := (dSeq (dSet false 2 (dIf (asB (dOp2 gNe (dVar 1) (dDisp mkTup dNil))) (dOp2 gIx (dOp2 gIx (dVar 1) (dNeg (dC (.int 1)))) (dC (.int 0))) (dC (.int 0))))
  (dSeq (dPar false false 3 4 (dCall g__law_pick [true, false] (dCons (dVar 0) (dCons (dC (.int 12)) dNil))) (dCall g__law_pick [true, false] (dCons (dVar 0) (dCons (dCall g__law_one [true, false] (dCons (dVar 0) (dCons (dDisp mkLst (dCons (dC (.int 4)) (dCons (dC (.int 10)) (dCons (dC (.int 60)) dNil)))) dNil))) dNil))))
  (dSeq (dIfS (asB (dOp2 gLt (dVar 3) (dC (.int 5))))
  (dSeq (dSet false 5 (dDisp mkLst (dCons (dVar 2) (dCons (dOp2 gAdd (dVar 2) (dC (.int 1))) (dCons (dOp2 gAdd (dOp2 gAdd (dVar 2) (dC (.int 1))) (dCall g__law_pick [true, false] (dCons (dVar 0) (dCons (dC (.int 9)) dNil)))) (dCons (dOp2 gAdd (dOp2 gAdd (dVar 2) (dC (.int 1))) (dCall g__law_pick [true, false] (dCons (dVar 0) (dCons (dC (.int 60)) dNil)))) dNil))))))
  (dSeq (dSet false 6 (dCall g__law_one [true, false] (dCons (dVar 0) (dCons (dOp2 gAdd (dOp2 gMul (dVar 5) (dC (.int 3))) (dDisp mkLst (dCons (dOp2 gSub (dVar 2) (dC (.int 1))) (dCons (dC .none) (dCons (dC (.bool true)) (dCons (dNeg (dC (.int 1))) (dCons (dOp2 gAdd (dOp2 gPow (dC (.int 10)) (dC (.int 9))) (dC (.int 1))) dNil))))))) dNil))))
  (dRet (dDisp mkTup (dCons (dC (.str "ride")) (dCons (dVar 6) (dCons (dCall g__law_one [true, false] (dCons (dVar 0) (dCons (dOp2 gAdd (dOp2 gMul (dDisp mkLst (dCons (dVar 4) dNil)) (dC (.int 9))) (dDisp mkLst (dCons (dNeg (dC (.int 1))) dNil))) dNil))) dNil)))))))
  Ou.next)
  (dSeq (dIfS (asB (dOp2 gLt (dVar 3) (dC (.int 8))))
  (dSeq (dSet false 6 (dCall g__law_one [true, false] (dCons (dVar 0) (dCons (dOp2 gAdd (dOp2 gMul (dDisp mkLst (dCons (dCall g__law_pick [true, false] (dCons (dVar 0) (dCons (dOp2 gAdd (dVar 2) (dC (.int 2))) dNil))) dNil)) (dC (.int 9))) (dDisp mkLst (dCons (dC .none) (dCons (dNeg (dC (.int 1))) dNil)))) dNil))))
  (dRet (dDisp mkTup (dCons (dC (.str "late")) (dCons (dVar 6) (dCons (dCall g__law_one [true, false] (dCons (dVar 0) (dCons (dOp2 gAdd (dOp2 gMul (dDisp mkLst (dCons (dVar 4) dNil)) (dC (.int 9))) (dDisp mkLst (dCons (dC .none) dNil))) dNil))) dNil))))))
  Ou.next)
  (dSeq (dIfS (asB (dOp2 gLt (dVar 3) (dC (.int 10))))
  (dRet (dDisp mkTup (dCons (dC (.str "refund")) (dCons (dCall g__law_one [true, false] (dCons (dVar 0) (dCons (dOp2 gAdd (dOp2 gMul dNo (dC (.int 2))) (dDisp mkLst (dCons (dNeg (dC (.int 1))) (dCons (dBlt gLen (dCons (dVar 1) dNil)) (dCons (dC .none) (dCons (dC (.bool true)) dNil)))))) dNil))) (dCons (dC .none) dNil)))))
  Ou.next)
  (dRet (dDisp mkTup (dCons (dC (.str "undo")) (dCons (dC .none) (dCons (dC .none) dNil))))))))))
def g__law_deed : List Sl → FRes := dFun 7 b__law_deed
def b__law_is_trip : Rho → Ou := (dSeq (dIfS (dOr (dNot (asB (dCall g__law_whole [false] (dCons (dVar 0) dNil)))) (dNot (asB (dCall g__law_whole [false] (dCons (dVar 1) dNil)))))
  (dRet (dC (.bool false)))
  Ou.next)
  (dRet (asV (dAnd (asB (asV (dChain gLe gLe (dC (.int 0)) (dVar 0) (dOp2 gPow (dC (.int 10)) (dC (.int 9)))))) (asB (asV (dChain gLe gLe (dC (.int 0)) (dVar 1) (dOp2 gPow (dC (.int 10)) (dC (.int 6))))))))))
def g__law_is_trip : List Sl → FRes := dFun 2 b__law_is_trip
def b__law_after : Rho → Ou := (dSeq (dAsg (tgTup 3 (tgCons (tgN 3) (tgCons (tgN 4) (tgCons (tgN 5) tgNil)))) (dVar 2))
  (dSeq (dIfS (asB (dOp2 gEq (dVar 3) (dC (.str "refund"))))
  (dSeq (dIfS (dOr (dNot (asB (dCall g__law_whole [false] (dCons (dVar 4) dNil)))) (dNot (dChain gLe gLt (dC (.int 0)) (dVar 4) (dBlt gLen (dCons (dVar 1) dNil)))))
  (dRet (dC (.str "Index+")))
  Ou.next)
  (dSeq (dSet false 7 (dOp2 gAdd (dSl (dVar 1) dPn (dPs (dVar 4))) (dSl (dVar 1) (dPs (dOp2 gAdd (dVar 4) (dC (.int 1)))) dPn)))
  (dRet (dDisp mkTup (dCons (dVar 7) (dCons (dOp2 gSub (dCall g__law_total [false, false] (dCons (dVar 0) (dCons (dVar 1) dNil))) (dCall g__law_total [false, false] (dCons (dVar 0) (dCons (dVar 7) dNil)))) dNil))))))
  Ou.next)
  (dSeq (dIfS (dNot (asB (dCall g__law_is_trip [false, false] (dCons (dVar 4) (dCons (dVar 5) dNil)))))
  (dRet (dC (.str "Trip+")))
  Ou.next)
  (dSeq (dIfS (dAnd (asB (dOp2 gEq (dVar 3) (dC (.str "ride")))) (dAnd (asB (dOp2 gNe (dVar 1) (dDisp mkTup dNil))) (asB (dOp2 gLt (dVar 4) (dOp2 gIx (dOp2 gIx (dVar 1) (dNeg (dC (.int 1)))) (dC (.int 0)))))))
  (dRet (dC (.str "Time+")))
  Ou.next)
  (dSeq (dIfS (asB (dOp2 gEq (dBlt gLen (dCons (dVar 1) dNil)) (dC (.int 40))))
  (dRet (dC (.str "Many+40")))
  Ou.next)
  (dSeq (dSet false 6 (dBlt gLen (dCons (dLc [8] (dSeqI (dVar 1)) (tgN 8) (asB (dOp2 gLe (dOp2 gIx (dVar 8) (dC (.int 0))) (dVar 4))) (dVar 8)) dNil)))
  (dSeq (dSet false 7 (dOp2 gAdd (dOp2 gAdd (dSl (dVar 1) dPn (dPs (dVar 6))) (dDisp mkTup (dCons (dDisp mkTup (dCons (dVar 4) (dCons (dVar 5) dNil))) dNil))) (dSl (dVar 1) (dPs (dVar 6)) dPn)))
  (dRet (dDisp mkTup (dCons (dVar 7) (dCons (dOp2 gSub (dCall g__law_total [false, false] (dCons (dVar 0) (dCons (dVar 7) dNil))) (dCall g__law_total [false, false] (dCons (dVar 0) (dCons (dVar 1) dNil)))) dNil)))))))))))
def g__law_after : List Sl → FRes := dFun 9 b__law_after
def b__law_step : Rho → Ou := (dSeq (dIfS (asB (dOp2 gEq (dOp2 gIx (dVar 2) (dC (.int 0))) (dC (.str "undo"))))
  (dSeq (dIfS (asB (dOp2 gEq (dBlt gLen (dCons (dVar 1) dNil)) (dC (.int 1))))
  (dRet (dC (.str "Undo+")))
  Ou.next)
  (dSeq dNoS
  (dRet (dDisp mkTup (dCons (dC (.str "told")) (dCons (dC .none) dNil))))))
  Ou.next)
  (dSeq (dSet false 3 (dCall g__law_after [false, false, false] (dCons (dVar 0) (dCons (dOp2 gIx (dVar 1) (dNeg (dC (.int 1)))) (dCons (dVar 2) dNil)))))
  (dSeq (dIfS (asB (dIsi (tbOf "str") (dVar 3)))
  (dRet (dVar 3))
  Ou.next)
  (dSeq (dApp 1 (dOp2 gIx (dVar 3) (dC (.int 0))))
  (dRet (dDisp mkTup (dCons (dC (.str "told")) (dCons (dOp2 gIx (dVar 3) (dC (.int 1))) dNil))))))))
def g__law_step : List Sl → FRes := dFun 4 b__law_step
def b__law_do : Rho → Ou := (dSeq (dAsg (tgTup 3 (tgCons (tgN 2) (tgCons (tgN 3) (tgCons (tgN 4) tgNil)))) (dVar 1))
  (dSeq (dIfS (asB (dOp2 gEq (dVar 2) (dC (.str "ride"))))
  (dRet dNo)
  Ou.next)
  (dSeq (dIfS (asB (dOp2 gEq (dVar 2) (dC (.str "late"))))
  (dRet dNo)
  Ou.next)
  (dSeq (dIfS (asB (dOp2 gEq (dVar 2) (dC (.str "refund"))))
  (dRet dNo)
  Ou.next)
  (dRet dNo)))))
def g__law_do : List Sl → FRes := dFun 5 b__law_do
def b__law_right_k21 : Rho → Ou := (dSeq (dSet false 3 (dIf (asB (dOp2 gNe (dVar 2) (dDisp mkTup dNil))) (dOp2 gIx (dOp2 gIx (dVar 2) (dNeg (dC (.int 1)))) (dC (.int 0))) (dC (.int 0))))
  (dSeq (dSet false 4 (dDisp mkLst (dCons dNo (dCons dNo (dCons dNo (dCons (dBlt gLen (dCons (dVar 1) dNil)) (dCons dNo dNil)))))))
  (dSeq (dSet false 5 (dOp2 gIx (dCall g__law_charges [false, false] (dCons (dVar 0) (dCons (dOp2 gAdd (dVar 2) (dDisp mkTup (dCons (dDisp mkTup (dCons (dVar 3) (dCons (dOp2 gPow (dC (.int 10)) (dC (.int 9))) dNil))) dNil))) dNil))) (dNeg (dC (.int 1)))))
  (dSeq (dSet false 6 (dDisp mkLst (dCons (dVar 2) (dCons (dCall g__law_charges [false, false] (dCons (dVar 0) (dCons (dVar 2) dNil))) (dCons (dCall g__law_total [false, false] (dCons (dVar 0) (dCons (dVar 2) dNil))) (dCons (dBlt gLen (dCons (dVar 2) dNil)) (dCons (dVar 5) dNil)))))))
  (dSeq (dIfS (dNot (asB (dCall g__law_same [false, false] (dCons (dVar 4) (dCons (dVar 6) dNil)))))
  (dRet (dC (.bool false)))
  Ou.next)
  (dSeq dNoS
  (dRet (asV (dAnd (asB (dOp2 gEq dNo (dOp2 gIx (dVar 6) (dC (.int 1))))) (dOr (asB (dOp2 gEq (dVar 3) (dC (.int 0)))) (asB (dOp2 gEq dNo (dC (.str "Time+"))))))))))))))
def g__law_right_k21 : List Sl → FRes := dFun 7 b__law_right_k21
def b_law_k21 : Rho → Ou := (dSeq (dFor (dSeqI (dSl (dAddS 0 (dDisp mkLst (dCons (dC (.int 0)) dNil))) dPn (dPs (dC (.int 6))))) (tgN 1)
  (dSeq (dSet true 2 (dCall g__law_deck [false, false] (dCons (dVar 1) (dCons (dC (.int 21)) dNil))))
  (dSeq (dSet false 3 (dCall g__law_schedule [true, false, false] (dCons (dVar 2) (dCons (dC (.int 4)) (dCons (dCall g__law_one [true, false] (dCons (dVar 2) (dCons (dDisp mkLst (dCons (dC (.int 8)) (dCons (dC (.int 40)) (dCons (dC (.int 400)) dNil)))) dNil))) dNil)))))
  (dSeq dNoS
  (dSeq (dFor (dRng gRng1 (dCons (dC (.int 60)) dNil)) (tgN 7)
  (dSeq (dSet false 9 (dCall g__law_deed [true, false] (dCons (dVar 2) (dCons (dOp2 gIx (dVar 6) (dNeg (dC (.int 1)))) dNil))))
  (dSeq (dSet false 10 (dCall g__law_step [false, true, false] (dCons (dVar 3) (dCons (dVar 6) (dCons (dVar 9) dNil)))))
  (dSeq (dIfS (dNot (asB (dCall g__law_same [false, false] (dCons (dCall g__law_do [false, false] (dCons (dVar 4) (dCons (dVar 9) dNil))) (dCons (dVar 10) dNil)))))
  (dRet (dC (.bool false)))
  Ou.next)
  (dSeq (dIfS (asB (dIsi (tbOf "tuple") (dVar 10)))
  (dSeq (dIfS (asB (dOp2 gEq (dVar 4) (dVar 5)))
  (dRet (dC (.bool false)))
  Ou.next)
  (dDrop (dCall g__law_do [false, false] (dCons (dVar 5) (dCons (dVar 9) dNil)))))
  Ou.next)
  (dSeq (dIfS (dOr (dNot (asB (dOp2 gEq (dVar 4) (dVar 5)))) (asB (dOp2 gEq (dVar 4) (dOp2 gIx (dVar 6) (dNeg (dC (.int 1)))))))
  (dRet (dC (.bool false)))
  Ou.next)
  (dIfS (dNot (asB (dCall g__law_right_k21 [false, false, false] (dCons (dVar 3) (dCons (dVar 4) (dCons (dOp2 gIx (dVar 6) (dNeg (dC (.int 1)))) dNil))))))
  (dRet (dC (.bool false)))
  Ou.next)))))))
  (dSeq (dWhile (asB (dOp2 gGt (dBlt gLen (dCons (dVar 6) dNil)) (dC (.int 1))))
  (dSeq dNoS
  dNoS) fuel)
  (dSeq (dIfS (dOr (asB (dOp2 gNe (dVar 4) dNo)) (asB (dOp2 gNe dNo (dC (.str "Undo+")))))
  (dRet (dC (.bool false)))
  Ou.next)
  (dSeq (dSet false 8 (dIf (asB (dOp2 gEq (dVar 3) (dDisp mkTup (dCons (dDisp mkTup (dCons (dC (.int 1)) (dCons (dC (.int 1)) dNil))) dNil)))) (dDisp mkTup (dCons (dDisp mkTup (dCons (dC (.int 1)) (dCons (dC (.int 2)) dNil))) dNil)) (dDisp mkTup (dCons (dDisp mkTup (dCons (dC (.int 1)) (dCons (dC (.int 1)) dNil))) dNil))))
  (dIfS (dOr (asB (dOp2 gEq (dVar 4) dNo)) (asB (dOp2 gNe dNo (dC (.str "Schedule+")))))
  (dRet (dC (.bool false)))
  Ou.next)))))))))
  (dRet (dC (.bool true))))
def g_law_k21 : List Sl → FRes := dFun 11 b_law_k21
def b__law_made_right : Rho → Ou := (dSeq (dSet false 0 dNo)
  (dSeq (dIfS (dOr (asB (dOp2 gNe dNo (dC (.int 7)))) (dOr (dNot (asB dNo)) (dNot (asB dNo))))
  (dRet (dC (.bool false)))
  Ou.next)
  (dSeq (dSet false 1 (dDisp mkLst (dCons dNo (dCons dNo (dCons dNo (dCons dNo (dCons dNo (dCons (dVar 0) dNil))))))))
  (dSeq (dSet false 1 (dOp2 gAdd (dVar 1) (dDisp mkLst (dCons dNo (dCons dNo (dCons dNo (dCons dNo (dCons dNo dNil))))))))
  (dSeq (dSet false 2 (dLc [4] (dSeqI (dOp2 gAdd (dVar 1) (dDisp mkLst (dCons dNo dNil)))) (tgN 4) dYes dNo))
  (dSeq (dSet false 3 (dC (.str "Schedule+ Trips+ Trip+ Time+ Index+ Many+ Amount+ Range+ Length+ Period+ Count+ Undo+")))
  (dRet (asV (dAnd (asB (dOp2 gEq (dVar 2) dNo)) (asB (dOp2 gEq (dLc [4] (dSeqI (dVar 1)) (tgN 4) (dNot (asB dNo)) (dVar 4)) (dDisp mkLst dNil))))))))))))
def g__law_made_right : List Sl → FRes := dFun 5 b__law_made_right
def b__law_kinds_right : Rho → Ou := (dSeq (dSet true 1 (dDisp mkLst (dCons dNo dNil)))
  (dSeq (dApp 1 dNo)
  (dSeq (dApp 1 dNo)
  (dSeq (dApp 1 dNo)
  (dSeq (dApp 1 dNo)
  (dSeq (dApp 1 dNo)
  (dSeq (dApp 1 dNo)
  (dRet (dOp2 gEq (dLc [2] (dSeqI (dVar 1)) (tgN 2) (asB (dOp2 gNe dNo (dC (.str "Schedule+")))) (dVar 2)) (dDisp mkLst dNil))))))))))
def g__law_kinds_right : List Sl → FRes := dFun 3 b__law_kinds_right
def b__law_doors : Rho → Ou := (dSeq (dSet true 2 (dDisp mkLst (dCons dNo dNil)))
  (dSeq (dApp 2 dNo)
  (dSeq (dApp 2 dNo)
  (dSeq (dApp 2 dNo)
  (dSeq (dApp 2 dNo)
  (dSeq (dApp 2 dNo)
  (dSeq (dApp 2 dNo)
  (dSeq (dApp 2 dNo)
  (dSeq (dApp 2 dNo)
  (dSeq (dApp 2 dNo)
  (dSeq (dApp 2 dNo)
  (dSeq (dApp 2 dNo)
  (dSeq (dApp 2 dNo)
  (dSeq (dApp 2 dNo)
  (dSeq (dApp 2 dNo)
  (dSeq (dApp 2 dNo)
  (dRet (dVar 2))))))))))))))))))
def g__law_doors : List Sl → FRes := dFun 3 b__law_doors
def b_law_k22 : Rho → Ou := (dSeq (dFor (dSeqI (dSl (dAddS 0 (dDisp mkLst (dCons (dC (.int 0)) dNil))) dPn (dPs (dC (.int 4))))) (tgN 1)
  (dSeq (dSet true 2 (dCall g__law_deck [false, false] (dCons (dVar 1) (dCons (dC (.int 22)) dNil))))
  (dSeq (dSet false 3 (dCall g__law_schedule [true, false, false] (dCons (dVar 2) (dCons (dC (.int 4)) (dCons (dC (.int 40)) dNil)))))
  (dSeq (dSet false 4 (dOp2 gAdd (dDisp mkTup (dCons (dDisp mkTup (dCons (dC (.int 5)) (dCons (dC (.int 1)) dNil))) dNil)) (dBlt gTuple (dCons (dLc [7, 8] (dSeqI (dCall g__law_trips [true, false, false] (dCons (dVar 2) (dCons (dC (.int 1)) (dCons (dC (.int 9)) dNil))))) (tgTup 2 (tgCons (tgN 7) (tgCons (tgN 8) tgNil))) dYes (dDisp mkTup (dCons (dOp2 gAdd (dC (.int 5)) (dOp2 gMod (dVar 7) (dC (.int 100)))) (dCons (dVar 8) dNil)))) dNil))))
  (dSeq (dIfS (asB (dOp2 gNe (dLc [6] (dSeqI (dCall g__law_doors [false, false] (dCons (dVar 3) (dCons (dVar 4) dNil)))) (tgN 6) (asB (dIsi (tbOf "str") dNo)) (dVar 6)) (dDisp mkLst dNil)))
  (dRet (dC (.bool false)))
  Ou.next)
  (dSeq (dSet false 5 (dCall g__law_one [true, false] (dCons (dVar 2) (dCons (dDisp mkLst (dCons (dC .none) (dCons (dDisp mkTup dNil) (dCons (dDisp mkTup (dCons (dDisp mkTup (dCons (dC (.int 2)) (dCons (dC (.int 1)) dNil))) (dCons (dDisp mkTup (dCons (dC (.int 1)) (dCons (dC (.int 1)) dNil))) dNil))) (dCons (dDisp mkTup (dCons (dDisp mkTup (dCons (dC (.int 0)) (dCons (dC (.int 1)) dNil))) dNil)) (dCons (dBlt gList (dCons (dVar 3) dNil)) (dCons (dC (.int 7)) (dCons (dDisp mkTup (dCons (dDisp mkTup (dCons (dC (.int 1)) (dCons (dC (.int 1)) dNil))) (dCons (dDisp mkTup (dCons (dC (.int 1)) (dCons (dC (.int 2)) dNil))) dNil))) dNil)))))))) dNil))))
  (dSeq (dIfS (dOr (asB (dOp2 gNe (dLc [6] (dSeqI (dCall g__law_doors [false, false] (dCons (dVar 5) (dCons (dC .none) dNil)))) (tgN 6) (asB (dOp2 gNe dNo (dC (.str "Schedule+")))) (dVar 6)) (dDisp mkLst dNil))) (dNot (asB (dCall g__law_kinds_right [false] (dCons (dVar 5) dNil)))))
  (dRet (dC (.bool false)))
  Ou.next)
  (dSeq (dSet false 5 (dCall g__law_one [true, false] (dCons (dVar 2) (dCons (dDisp mkLst (dCons (dC .none) (dCons (dDisp mkLst dNil) (dCons (dDisp mkTup (dCons (dDisp mkTup (dCons (dC (.int 2)) (dCons (dC (.int 1)) dNil))) (dCons (dDisp mkTup (dCons (dC (.int 1)) (dCons (dC (.int 1)) dNil))) dNil))) (dCons (dDisp mkTup (dCons (dDisp mkTup (dCons (dNeg (dC (.int 1))) (dCons (dC (.int 1)) dNil))) dNil)) (dCons (dBlt gList (dCons (dVar 4) dNil)) (dCons (dC (.int 7)) (dCons (dDisp mkTup (dCons (dDisp mkTup (dCons (dC (.int 1)) (dCons (dC (.int 1)) dNil))) (dCons (dDisp mkTup (dCons (dC (.int 1)) dNil)) dNil))) dNil)))))))) dNil))))
  (dIfS (asB (dOp2 gNe (dLc [6] (dSeqI (dCall g__law_doors [false, false] (dCons (dVar 3) (dCons (dVar 5) dNil)))) (tgN 6) (asB (dOp2 gNe dNo (dC (.str "Trips+")))) (dVar 6)) (dDisp mkLst dNil)))
  (dRet (dC (.bool false)))
  Ou.next)))))))))
  (dRet dNo))
def g_law_k22 : List Sl → FRes := dFun 9 b_law_k22
def b__law_two_kinds_right : Rho → Ou := (dSeq (dPar false false 2 3 (dDisp mkTup (dCons (dDisp mkTup (dCons (dC (.int 3)) (dCons (dOp2 gMul (dC (.int 5)) (dVar 1)) dNil))) (dCons (dDisp mkTup (dCons (dC (.int 9)) (dCons (dOp2 gMul (dC (.int 8)) (dVar 1)) dNil))) dNil))) (dDisp mkTup dNil))
  (dSeq (dFor (dSeqI (dDisp mkLst (dCons (dDisp mkTup (dCons (dC (.int 0)) (dCons (dC (.int 3)) dNil))) (dCons (dDisp mkTup (dCons (dC (.int 1)) (dCons (dC (.int 3)) dNil))) (dCons (dDisp mkTup (dCons (dC (.int 4)) (dCons (dC (.int 3)) dNil))) (dCons (dDisp mkTup (dCons (dC (.int 5)) (dCons (dC (.int 3)) dNil))) (dCons (dDisp mkTup (dCons (dC (.int 8)) (dCons (dC (.int 3)) dNil))) (dCons (dDisp mkTup (dCons (dC (.int 9)) (dCons (dC (.int 3)) dNil))) dNil)))))))) (tgTup 2 (tgCons (tgN 4) (tgCons (tgN 5) tgNil)))
  (dSet false 3 (dOp2 gAdd (dVar 3) (dDisp mkTup (dCons (dDisp mkTup (dCons (dOp2 gAdd (dVar 0) (dVar 4)) (dCons (dOp2 gMul (dVar 5) (dVar 1)) dNil))) dNil)))))
  (dSeq (dIfS (dOr (asB (dOp2 gNe (dCall g_charges [false, false] (dCons (dVar 2) (dCons (dVar 3) dNil))) (dDisp mkLst (dCons (dOp2 gMul (dC (.int 3)) (dVar 1)) (dCons (dOp2 gMul (dC (.int 2)) (dVar 1)) (dCons (dOp2 gMul (dC (.int 3)) (dVar 1)) (dCons (dC (.int 0)) (dCons (dC (.int 0)) (dCons (dOp2 gMul (dC (.int 3)) (dVar 1)) dNil))))))))) (asB (dOp2 gNe (dCall g_total [false, false] (dCons (dVar 2) (dCons (dVar 3) dNil))) (dOp2 gMul (dC (.int 11)) (dVar 1)))))
  (dRet (dC (.bool false)))
  Ou.next)
  (dSeq (dIfS (asB (dOp2 gNe (dCall g_full_windows [false, false] (dCons (dVar 2) (dCons (dVar 3) dNil))) (dDisp mkLst (dCons (dDisp mkTup (dCons (dC (.int 0)) (dCons (dC (.int 1)) dNil))) (dCons (dDisp mkTup (dCons (dC (.int 1)) (dCons (dC (.int 2)) dNil))) (dCons (dDisp mkTup (dCons (dC (.int 1)) (dCons (dC (.int 3)) dNil))) (dCons (dDisp mkTup (dCons (dC (.int 1)) (dCons (dC (.int 4)) dNil))) (dCons (dDisp mkTup (dCons (dC (.int 1)) (dCons (dC (.int 5)) dNil))) dNil))))))))
  (dRet (dC (.bool false)))
  Ou.next)
  (dSeq (dIfS (asB (dOp2 gNe (dCall g_plan_cost [false, false, false] (dCons (dVar 2) (dCons (dVar 3) (dCons (dDisp mkTup (dCons (dDisp mkTup (dCons (dDisp mkTup (dCons (dC (.int 1)) (dCons (dC (.int 0)) dNil))) dNil)) (dCons (dDisp mkTup (dCons (dC (.int 5)) dNil)) dNil))) dNil)))) (dOp2 gMul (dC (.int 11)) (dVar 1))))
  (dRet (dC (.bool false)))
  Ou.next)
  (dSeq (dIfS (asB (dOp2 gIsNot (dCall g_plan_cost [false, false, false] (dCons (dVar 2) (dCons (dVar 3) (dCons (dDisp mkTup (dCons (dDisp mkTup (dCons (dDisp mkTup (dCons (dC (.int 1)) (dCons (dC (.int 0)) dNil))) dNil)) (dCons (dDisp mkTup dNil) dNil))) dNil)))) (dC .none)))
  (dRet (dC (.bool false)))
  Ou.next)
  (dSeq (dIfS (asB (dOp2 gNe (dCall g_plan_cost [false, false, false] (dCons (dVar 2) (dCons (dVar 3) (dCons (dDisp mkTup (dCons (dDisp mkTup (dCons (dDisp mkTup (dCons (dC (.int 0)) (dCons (dC (.int 0)) dNil))) (dCons (dDisp mkTup (dCons (dC (.int 0)) (dCons (dC (.int 2)) dNil))) dNil))) (dCons (dDisp mkTup (dCons (dC (.int 4)) (dCons (dC (.int 5)) dNil))) dNil))) dNil)))) (dOp2 gMul (dC (.int 16)) (dVar 1))))
  (dRet (dC (.bool false)))
  Ou.next)
  (dSeq (dIfS (dOr (asB (dOp2 gNe (dCall g_headroom [false, false, false] (dCons (dVar 2) (dCons (dVar 3) (dCons (dOp2 gAdd (dVar 0) (dC (.int 9))) dNil)))) (dC (.int 0)))) (asB (dOp2 gNe (dCall g_headroom [false, false, false] (dCons (dVar 2) (dCons (dVar 3) (dCons (dOp2 gAdd (dVar 0) (dC (.int 10))) dNil)))) (dOp2 gMul (dC (.int 2)) (dVar 1)))))
  (dRet (dC (.bool false)))
  Ou.next)
  (dSeq (dIfS (dOr (asB (dOp2 gNe (dCall g_free_until [false, false] (dCons (dVar 2) (dCons (dVar 3) dNil))) (dOp2 gAdd (dVar 0) (dC (.int 10))))) (asB (dOp2 gNe (dCall g_free_until [false, false] (dCons (dVar 2) (dCons (dSl (dVar 3) dPn (dPs (dC (.int 5)))) dNil))) (dOp2 gAdd (dVar 0) (dC (.int 9))))))
  (dRet (dC (.bool false)))
  Ou.next)
  (dSeq (dIfS (dOr (asB (dOp2 gNe (dCall g_late_trip [false, false, false] (dCons (dVar 2) (dCons (dVar 3) (dCons (dDisp mkTup (dCons (dOp2 gAdd (dVar 0) (dC (.int 2))) (dCons (dVar 1) dNil))) dNil)))) (dDisp mkTup (dCons (dC (.int 0)) (dCons (dDisp mkLst dNil) dNil))))) (asB (dOp2 gNe (dCall g_refund [false, false, false] (dCons (dVar 2) (dCons (dVar 3) (dCons (dC (.int 1)) dNil)))) (dDisp mkTup (dCons (dC (.int 0)) (dCons (dDisp mkLst (dCons (dC (.int 3)) dNil)) dNil))))))
  (dRet (dC (.bool false)))
  Ou.next)
  (dRet (dOp2 gEq (dCall g_merge_saving [false, false, false] (dCons (dVar 2) (dCons (dSl (dVar 3) dPn (dPs (dC (.int 3)))) (dCons (dSl (dVar 3) (dPs (dC (.int 3))) dPn) dNil)))) (dOp2 gMul (dC (.int 5)) (dVar 1))))))))))))))
def g__law_two_kinds_right : List Sl → FRes := dFun 6 b__law_two_kinds_right
def b__law_unknown_right : Rho → Ou := (dSeq (dPar false false 2 3 (dDisp mkTup (dCons (dDisp mkTup (dCons (dC (.int 3)) (dCons (dOp2 gMul (dC (.int 5)) (dVar 1)) dNil))) dNil)) (dDisp mkTup (dCons (dDisp mkTup (dCons (dVar 0) (dCons (dOp2 gMul (dC (.int 2)) (dVar 1)) dNil))) (dCons (dDisp mkTup (dCons (dOp2 gAdd (dVar 0) (dC (.int 1))) (dCons (dOp2 gMul (dC (.int 2)) (dVar 1)) dNil))) (dCons (dDisp mkTup (dCons (dOp2 gAdd (dVar 0) (dC (.int 7))) (dCons (dVar 1) dNil))) dNil)))))
  (dSeq (dIfS (asB (dOp2 gNe (dCall g_fares_for [false, false, false, false] (dCons (dVar 2) (dCons (dVar 3) (dCons (dC (.int 2)) (dCons (dOp2 gAdd (dOp2 gMul (dC (.int 4)) (dVar 1)) (dC (.int 1))) dNil))))) (dDisp mkTup (dCons (dC (.int 1)) (dCons (dC (.int 1)) dNil)))))
  (dRet (dC (.bool false)))
  Ou.next)
  (dSeq (dIfS (asB (dOp2 gNe (dCall g_fares_for [false, false, false, false] (dCons (dVar 2) (dCons (dVar 3) (dCons (dC (.int 2)) (dCons (dOp2 gMul (dC (.int 9)) (dVar 1)) dNil))))) (dDisp mkTup (dCons (dOp2 gMul (dC (.int 5)) (dVar 1)) (dCons (dC .none) dNil)))))
  (dRet (dC (.bool false)))
  Ou.next)
  (dSeq (dIfS (asB (dOp2 gNe (dCall g_fares_for [false, false, false, false] (dCons (dVar 2) (dCons (dVar 3) (dCons (dC (.int 0)) (dCons (dOp2 gMul (dC (.int 6)) (dVar 1)) dNil))))) (dDisp mkTup (dCons (dOp2 gMul (dC (.int 3)) (dVar 1)) (dCons (dC .none) dNil)))))
  (dRet (dC (.bool false)))
  Ou.next)
  (dSeq (dIfS (asB (dOp2 gIsNot (dCall g_fares_for [false, false, false, false] (dCons (dVar 2) (dCons (dVar 3) (dCons (dC (.int 0)) (dCons (dOp2 gAdd (dOp2 gMul (dC (.int 6)) (dVar 1)) (dC (.int 1))) dNil))))) (dC .none)))
  (dRet (dC (.bool false)))
  Ou.next)
  (dSeq (dIfS (asB (dOp2 gNe (dCall g_prices_for [false, false, false, false] (dCons (dVar 2) (dCons (dVar 3) (dCons (dC (.int 0)) (dCons (dOp2 gMul (dC (.int 5)) (dVar 1)) dNil))))) (dDisp mkTup (dCons (dOp2 gMul (dC (.int 4)) (dVar 1)) (dCons (dOp2 gPow (dC (.int 10)) (dC (.int 6))) dNil)))))
  (dRet (dC (.bool false)))
  Ou.next)
  (dSeq (dIfS (asB (dOp2 gNe (dCall g_highest_price [false, false, false] (dCons (dVar 2) (dCons (dVar 3) (dCons (dC (.int 0)) dNil)))) (dOp2 gSub (dOp2 gMul (dC (.int 4)) (dVar 1)) (dC (.int 1)))))
  (dRet (dC (.bool false)))
  Ou.next)
  (dRet (dOp2 gEq (dCall g_times_for [false, false, false, false, false, false] (dCons (dVar 2) (dCons (dVar 3) (dCons (dC (.int 2)) (dCons (dOp2 gMul (dC (.int 5)) (dVar 1)) (dCons (dVar 0) (dCons (dOp2 gAdd (dVar 0) (dC (.int 9))) dNil))))))) dNo)))))))))
def g__law_unknown_right : List Sl → FRes := dFun 4 b__law_unknown_right
def b__law_rest_right : Rho → Ou := (dSeq (dSet false 1 (dLc [3] (dSeqI (dDisp mkTup (dCons (dC (.int 1)) (dCons (dC (.int 2)) (dCons (dC (.int 3)) (dCons (dC (.int 5)) (dCons (dC (.int 6)) (dCons (dC (.int 7)) dNil)))))))) (tgN 3) dYes (dCall g_span_price [false, false] (dCons (dDisp mkTup (dCons (dDisp mkTup (dCons (dC (.int 2)) (dCons (dOp2 gMul (dC (.int 3)) (dVar 0)) dNil))) (dCons (dDisp mkTup (dCons (dC (.int 5)) (dCons (dOp2 gMul (dC (.int 6)) (dVar 0)) dNil))) dNil))) (dCons (dVar 3) dNil)))))
  (dSeq (dIfS (asB (dOp2 gNe (dVar 1) (dDisp mkLst (dCons (dOp2 gMul (dC (.int 3)) (dVar 0)) (dCons (dOp2 gMul (dC (.int 3)) (dVar 0)) (dCons (dOp2 gMul (dC (.int 6)) (dVar 0)) (dCons (dOp2 gMul (dC (.int 6)) (dVar 0)) (dCons (dOp2 gMul (dC (.int 9)) (dVar 0)) (dCons (dOp2 gMul (dC (.int 9)) (dVar 0)) dNil)))))))))
  (dRet (dC (.bool false)))
  Ou.next)
  (dSeq (dIfS (asB (dOp2 gNe (dCall g_useless_kinds [false] (dCons (dDisp mkTup (dCons (dDisp mkTup (dCons (dC (.int 2)) (dCons (dOp2 gMul (dC (.int 3)) (dVar 0)) dNil))) (dCons (dDisp mkTup (dCons (dC (.int 3)) (dCons (dOp2 gMul (dC (.int 6)) (dVar 0)) dNil))) (dCons (dDisp mkTup (dCons (dC (.int 5)) (dCons (dOp2 gMul (dC (.int 6)) (dVar 0)) dNil))) dNil)))) dNil)) (dDisp mkTup (dCons (dC (.int 1)) dNil))))
  (dRet (dC (.bool false)))
  Ou.next)
  (dSeq (dIfS (asB (dOp2 gIsNot (dCall g_first_difference [false, false] (dCons (dDisp mkTup (dCons (dDisp mkTup (dCons (dC (.int 2)) (dCons (dVar 0) dNil))) dNil)) (dCons (dDisp mkTup (dCons (dDisp mkTup (dCons (dC (.int 2)) (dCons (dVar 0) dNil))) (dCons (dDisp mkTup (dCons (dC (.int 4)) (dCons (dOp2 gMul (dC (.int 2)) (dVar 0)) dNil))) dNil))) dNil))) (dC .none)))
  (dRet (dC (.bool false)))
  Ou.next)
  (dSeq (dIfS (asB (dOp2 gNe (dCall g_first_difference [false, false] (dCons (dDisp mkTup (dCons (dDisp mkTup (dCons (dC (.int 2)) (dCons (dOp2 gMul (dC (.int 2)) (dVar 0)) dNil))) dNil)) (dCons (dDisp mkTup (dCons (dDisp mkTup (dCons (dC (.int 2)) (dCons (dOp2 gMul (dC (.int 2)) (dVar 0)) dNil))) (dCons (dDisp mkTup (dCons (dC (.int 4)) (dCons (dOp2 gMul (dC (.int 3)) (dVar 0)) dNil))) dNil))) dNil))) (dC (.int 3))))
  (dRet (dC (.bool false)))
  Ou.next)
  (dSeq (dSet false 2 (dDisp mkTup (dCons (dDisp mkTup (dCons (dC (.int 0)) (dCons (dOp2 gMul (dC (.int 2)) (dVar 0)) dNil))) (dCons (dDisp mkTup (dCons (dC (.int 1)) (dCons (dVar 0) dNil))) dNil))))
  (dSeq (dIfS (dOr (asB (dOp2 gNe (dCall g_repeated_total [false, false, false, false] (dCons (dDisp mkTup (dCons (dDisp mkTup (dCons (dC (.int 3)) (dCons (dOp2 gMul (dC (.int 4)) (dVar 0)) dNil))) dNil)) (dCons (dVar 2) (dCons (dC (.int 2)) (dCons (dC (.int 3)) dNil))))) (dOp2 gMul (dC (.int 8)) (dVar 0)))) (asB (dOp2 gNe (dCall g_mean_total [false, false, false] (dCons (dDisp mkTup (dCons (dDisp mkTup (dCons (dC (.int 3)) (dCons (dOp2 gMul (dC (.int 4)) (dVar 0)) dNil))) dNil)) (dCons (dVar 2) (dCons (dC (.int 2)) dNil)))) (dDisp mkTup (dCons (dOp2 gMul (dC (.int 5)) (dVar 0)) (dCons (dC (.int 2)) dNil))))))
  (dRet (dC (.bool false)))
  Ou.next)
  (dRet (dOp2 gEq (dCall g_most_trips [false, false, false] (dCons (dDisp mkTup (dCons (dDisp mkTup (dCons (dC (.int 2)) (dCons (dOp2 gMul (dC (.int 3)) (dVar 0)) dNil))) dNil)) (dCons (dDisp mkTup (dCons (dDisp mkTup (dCons (dC (.int 0)) (dCons (dOp2 gMul (dC (.int 2)) (dVar 0)) dNil))) (dCons (dDisp mkTup (dCons (dC (.int 1)) (dCons (dOp2 gMul (dC (.int 2)) (dVar 0)) dNil))) (dCons (dDisp mkTup (dCons (dC (.int 5)) (dCons (dOp2 gMul (dC (.int 9)) (dVar 0)) dNil))) dNil)))) (dCons (dOp2 gMul (dC (.int 3)) (dVar 0)) dNil)))) (dDisp mkTup (dCons (dC (.int 0)) (dCons (dC (.int 1)) dNil))))))))))))
def g__law_rest_right : List Sl → FRes := dFun 4 b__law_rest_right
def b_law_k23 : Rho → Ou := (dSeq (dFor (dSeqI (dSl (dAddS 0 (dDisp mkLst (dCons (dC (.int 0)) dNil))) dPn (dPs (dC (.int 4))))) (tgN 1)
  (dSeq (dSet true 2 (dCall g__law_deck [false, false] (dCons (dVar 1) (dCons (dC (.int 23)) dNil))))
  (dSeq (dPar false false 3 4 (dCall g__law_pick [true, false] (dCons (dVar 2) (dCons (dOp2 gPow (dC (.int 10)) (dC (.int 8))) dNil))) (dOp2 gAdd (dC (.int 1)) (dOp2 gMul (dC (.int 2)) (dCall g__law_pick [true, false] (dCons (dVar 2) (dCons (dC (.int 50)) dNil))))))
  (dSeq (dIfS (dOr (dNot (asB (dCall g__law_two_kinds_right [false, false] (dCons (dVar 3) (dCons (dVar 4) dNil))))) (dOr (dNot (asB (dCall g__law_unknown_right [false, false] (dCons (dVar 3) (dCons (dVar 4) dNil))))) (dNot (asB (dCall g__law_rest_right [false] (dCons (dVar 4) dNil))))))
  (dRet (dC (.bool false)))
  Ou.next)
  (dSeq (dSet false 5 dNo)
  (dSeq (dIfS (asB (dOp2 gNe (dDisp mkLst (dCons dNo (dCons dNo (dCons dNo dNil)))) (dDisp mkLst (dCons (dOp2 gMul (dC (.int 2)) (dVar 4)) (dCons (dOp2 gMul (dC (.int 2)) (dVar 4)) (dCons (dVar 4) dNil))))))
  (dRet (dC (.bool false)))
  Ou.next)
  (dSeq (dIfS (dOr (asB (dOp2 gNe dNo (dDisp mkLst (dCons (dOp2 gMul (dC (.int 2)) (dVar 4)) (dCons (dOp2 gMul (dC (.int 2)) (dVar 4)) (dCons (dVar 4) dNil)))))) (dOr (asB (dOp2 gNe dNo (dVar 4))) (asB (dOp2 gNe dNo (dVar 4)))))
  (dRet (dC (.bool false)))
  Ou.next)
  (dIfS (asB (dOp2 gNe (dCall g_cheapest_plan [false, false] (dCons (dDisp mkTup (dCons (dDisp mkTup (dCons (dC (.int 3)) (dCons (dOp2 gMul (dC (.int 5)) (dVar 4)) dNil))) dNil)) (dCons dNo dNil))) (dDisp mkTup (dCons (dDisp mkTup dNil) (dCons (dDisp mkTup (dCons (dC (.int 0)) (dCons (dC (.int 1)) dNil))) dNil)))))
  (dRet (dC (.bool false)))
  Ou.next))))))))
  (dRet (dC (.bool true))))
def g_law_k23 : List Sl → FRes := dFun 6 b_law_k23
def b__law_full_right : Rho → Ou := (dSeq (dSet false 1 dNo)
  (dSeq (dFor (dRng gRng1 (dCons (dC (.int 40)) dNil)) (tgN 2)
  (dIfS (asB (dOp2 gNe dNo (dC (.int 1))))
  (dRet (dC (.bool false)))
  Ou.next))
  (dSeq (dSet true 3 (dDisp mkLst (dCons dNo dNil)))
  (dSeq (dApp 3 dNo)
  (dSeq (dApp 3 dNo)
  (dSeq (dApp 3 dNo)
  (dSeq (dApp 3 dNo)
  (dSeq (dIfS (dOr (asB (dOp2 gNe (dVar 3) (dDisp mkLst (dCons (dC (.str "Many+40")) (dCons (dC (.str "Trip+")) (dCons (dC (.str "Time+")) (dCons (dC (.str "Many+40")) (dCons (dC (.str "Trip+")) dNil)))))))) (asB (dOp2 gNe (dBlt gLen (dCons (dVar 1) dNil)) (dC (.int 40)))))
  (dRet (dC (.bool false)))
  Ou.next)
  (dRet (dOp2 gEq (dTry (dCall g_late_trip [false, false, false] (dCons (dDisp mkTup (dCons (dDisp mkTup (dCons (dC (.int 3)) (dCons (dC (.int 5)) dNil))) dNil)) (dCons dNo (dCons (dDisp mkTup (dCons (dC (.int 1)) (dCons (dNeg (dC (.int 1))) dNil))) dNil))))) (dC (.str "Trip+"))))))))))))
def g__law_full_right : List Sl → FRes := dFun 4 b__law_full_right
def b__law_histories_right : Rho → Ou := (dSeq (dPar false false 1 2 dNo dNo)
  (dSeq dNoS
  (dSeq dNoS
  (dSeq dNoS
  (dSeq dNoS
  (dSeq (dIfS (dOr (dNot (asB (dOp2 gEq (dVar 1) (dVar 2)))) (asB (dOp2 gNe (dBlt gLen (dCons (dVar 1) dNil)) (dC (.int 1)))))
  (dRet (dC (.bool false)))
  Ou.next)
  (dSeq dNoS
  (dSeq (dIfS (dOr (asB (dOp2 gEq (dVar 1) (dVar 2))) (asB (dOp2 gNe (dVar 1) dNo)))
  (dRet (dC (.bool false)))
  Ou.next)
  (dSeq dNoS
  (dRet (asV (dAnd (asB (dOp2 gEq (dVar 1) (dVar 2))) (asB (dOp2 gEq dNo (dC (.str "Undo+"))))))))))))))))
def g__law_histories_right : List Sl → FRes := dFun 3 b__law_histories_right
def b__law_lists_right : Rho → Ou := (dSeq (dPar false false 1 2 (dDisp mkTup (dCons (dDisp mkTup (dCons (dC (.int 3)) (dCons (dC (.int 5)) dNil))) dNil)) (dDisp mkTup (dCons (dDisp mkTup (dCons (dVar 0) (dCons (dC (.int 2)) dNil))) (dCons (dDisp mkTup (dCons (dOp2 gAdd (dVar 0) (dC (.int 1))) (dCons (dC (.int 2)) dNil))) (dCons (dDisp mkTup (dCons (dOp2 gAdd (dVar 0) (dC (.int 2))) (dCons (dC (.int 2)) dNil))) (dCons (dDisp mkTup (dCons (dOp2 gAdd (dVar 0) (dC (.int 3))) (dCons (dC (.int 2)) dNil))) dNil))))))
  (dSeq dNoS
  (dSeq dNoS
  (dSeq (dIfS (dOr (asB (dOp2 gNe (dCall g_late_trip [false, false, false] (dCons (dVar 1) (dCons (dVar 2) (dCons (dDisp mkTup (dCons (dOp2 gAdd (dVar 0) (dC (.int 1))) (dCons (dC (.int 1)) dNil))) dNil)))) (dDisp mkTup (dCons (dC (.int 0)) (dCons (dDisp mkLst (dCons (dC (.int 2)) dNil)) dNil))))) (asB (dOp2 gNe (dCall g_refund [false, false, false] (dCons (dVar 1) (dCons (dVar 2) (dCons (dC (.int 0)) dNil)))) (dDisp mkTup (dCons (dC (.int 2)) (dCons (dDisp mkLst (dCons (dC (.int 2)) (dCons (dC (.int 3)) dNil))) dNil))))))
  (dRet (dC (.bool false)))
  Ou.next)
  (dSeq dNoS
  (dRet (asV (dAnd (asB (dOp2 gEq (dCall g_times_for [false, false, false, false, false, false] (dCons (dVar 1) (dCons (dDisp mkTup (dCons (dDisp mkTup (dCons (dVar 0) (dCons (dC (.int 2)) dNil))) dNil)) (dCons (dC (.int 0)) (dCons (dC (.int 9)) (dCons (dC (.int 0)) (dCons (dC (.int 3)) dNil))))))) (dDisp mkLst dNil))) (asB (dOp2 gIs (dCall g_are_charges [false, false, false] (dCons (dVar 1) (dCons (dDisp mkTup dNil) (dCons (dDisp mkLst dNil) dNil)))) (dC (.bool true))))))))))))
def g__law_lists_right : List Sl → FRes := dFun 3 b__law_lists_right
def b__law_bounds_right : Rho → Ou := (dSeq (dSet false 1 (dDisp mkTup (dCons (dDisp mkTup (dCons (dVar 0) (dCons (dC (.int 2)) dNil))) (dCons (dDisp mkTup (dCons (dVar 0) (dCons (dC (.int 2)) dNil))) dNil))))
  (dSeq (dIfS (dOr (asB (dOp2 gNe (dCall g_plan_cost [false, false, false] (dCons (dDisp mkTup (dCons (dDisp mkTup (dCons (dC (.int 3)) (dCons (dC (.int 5)) dNil))) dNil)) (dCons (dVar 1) (dCons (dDisp mkTup (dCons (dDisp mkTup (dCons (dDisp mkTup (dCons (dC (.int 0)) (dCons (dC (.int 1)) dNil))) dNil)) (dCons (dDisp mkTup dNil) dNil))) dNil)))) (dC (.int 5)))) (asB (dOp2 gNe (dCall g_plan_cost [false, false, false] (dCons (dDisp mkTup (dCons (dDisp mkTup (dCons (dC (.int 3)) (dCons (dC (.int 5)) dNil))) dNil)) (dCons (dVar 1) (dCons (dDisp mkTup (dCons (dDisp mkTup (dCons (dDisp mkTup (dCons (dC (.int 0)) (dCons (dC (.int 0)) dNil))) (dCons (dDisp mkTup (dCons (dC (.int 0)) (dCons (dC (.int 1)) dNil))) dNil))) (dCons (dDisp mkTup dNil) dNil))) dNil)))) (dC (.int 10)))))
  (dRet (dC (.bool false)))
  Ou.next)
  (dSeq (dIfS (asB (dOp2 gNe (dCall g_most_trips [false, false, false] (dCons (dDisp mkTup (dCons (dDisp mkTup (dCons (dC (.int 3)) (dCons (dC (.int 5)) dNil))) dNil)) (dCons (dBlt gTuple (dCons (dLc [2] (dRng gRng1 (dCons (dC (.int 10)) dNil)) (tgN 2) dYes (dDisp mkTup (dCons (dOp2 gAdd (dVar 0) (dVar 2)) (dCons (dC (.int 1)) dNil)))) dNil)) (dCons (dC (.int 10)) dNil)))) dNo))
  (dRet (dC (.bool false)))
  Ou.next)
  (dSeq (dIfS (asB (dOp2 gNe (dCall g_fares_for [false, false, false, false] (dCons (dDisp mkTup (dCons (dDisp mkTup (dCons (dC (.int 1)) (dCons (dOp2 gPow (dC (.int 10)) (dC (.int 6))) dNil))) dNil)) (dCons (dDisp mkTup (dCons (dDisp mkTup (dCons (dVar 0) (dCons (dC (.int 5)) dNil))) dNil)) (dCons (dC (.int 0)) (dCons (dOp2 gPow (dC (.int 10)) (dC (.int 6))) dNil))))) (dDisp mkTup (dCons (dOp2 gPow (dC (.int 10)) (dC (.int 6))) (dCons (dC .none) dNil)))))
  (dRet (dC (.bool false)))
  Ou.next)
  (dSeq (dIfS (dOr (asB (dOp2 gNe (dCall g_prices_for [false, false, false, false] (dCons (dDisp mkTup (dCons (dDisp mkTup (dCons (dC (.int 3)) (dCons (dC (.int 5)) dNil))) dNil)) (dCons (dDisp mkTup (dCons (dDisp mkTup (dCons (dVar 0) (dCons (dC (.int 0)) dNil))) dNil)) (dCons (dC (.int 0)) (dCons (dC (.int 0)) dNil))))) (dDisp mkTup (dCons (dC (.int 1)) (dCons (dOp2 gPow (dC (.int 10)) (dC (.int 6))) dNil))))) (asB (dOp2 gIsNot (dCall g_highest_price [false, false, false] (dCons (dDisp mkTup (dCons (dDisp mkTup (dCons (dC (.int 3)) (dCons (dC (.int 5)) dNil))) dNil)) (dCons (dDisp mkTup (dCons (dDisp mkTup (dCons (dVar 0) (dCons (dC (.int 0)) dNil))) dNil)) (dCons (dC (.int 0)) dNil)))) (dC .none))))
  (dRet (dC (.bool false)))
  Ou.next)
  (dSeq (dIfS (asB (dOp2 gNe (dCall g_repeated_total [false, false, false, false] (dCons (dDisp mkTup (dCons (dDisp mkTup (dCons (dC (.int 400)) (dCons (dC (.int 7)) dNil))) dNil)) (dCons (dDisp mkTup (dCons (dDisp mkTup (dCons (dC (.int 999)) (dCons (dC (.int 3)) dNil))) dNil)) (dCons (dC (.int 1000)) (dCons (dOp2 gPow (dC (.int 10)) (dC (.int 15))) dNil))))) (dOp2 gMul (dC (.int 3)) (dOp2 gPow (dC (.int 10)) (dC (.int 15))))))
  (dRet (dC (.bool false)))
  Ou.next)
  (dRet (asV (dAnd (asB (dOp2 gEq (dCall g_repeated_total [false, false, false, false] (dCons (dDisp mkTup (dCons (dDisp mkTup (dCons (dC (.int 60)) (dCons (dC (.int 1)) dNil))) dNil)) (dCons (dDisp mkTup (dCons (dDisp mkTup (dCons (dC (.int 9)) (dCons (dC (.int 2)) dNil))) dNil)) (dCons (dC (.int 10)) (dCons (dC (.int 1)) dNil))))) (dC (.int 1)))) (asB (dOp2 gEq (dCall g_mean_total [false, false, false] (dCons (dDisp mkTup (dCons (dDisp mkTup (dCons (dC (.int 60)) (dCons (dC (.int 1)) dNil))) dNil)) (dCons (dDisp mkTup (dCons (dDisp mkTup (dCons (dC (.int 9)) (dCons (dC (.int 2)) dNil))) dNil)) (dCons (dC (.int 10)) dNil)))) (dDisp mkTup (dCons (dC (.int 1)) (dCons (dC (.int 6)) dNil))))))))))))))
def g__law_bounds_right : List Sl → FRes := dFun 3 b__law_bounds_right
def b_law_k24 : Rho → Ou := (dSeq (dFor (dSeqI (dSl (dAddS 0 (dDisp mkLst (dCons (dC (.int 0)) dNil))) dPn (dPs (dC (.int 4))))) (tgN 1)
  (dSeq (dSet false 2 (dCall g__law_pick [true, false] (dCons (dCall g__law_deck [false, false] (dCons (dVar 1) (dCons (dC (.int 24)) dNil))) (dCons (dOp2 gPow (dC (.int 10)) (dC (.int 8))) dNil))))
  (dSeq (dIfS (dOr (dNot (asB (dCall g__law_full_right [false] (dCons (dVar 2) dNil)))) (dNot (asB (dCall g__law_histories_right [false] (dCons (dVar 2) dNil)))))
  (dRet (dC (.bool false)))
  Ou.next)
  (dIfS (dOr (dNot (asB (dCall g__law_lists_right [false] (dCons (dVar 2) dNil)))) (dNot (asB (dCall g__law_bounds_right [false] (dCons (dVar 2) dNil)))))
  (dRet (dC (.bool false)))
  Ou.next))))
  (dRet (dOp2 gEq (dCall g_total [false, false] (dCons (dDisp mkTup (dCons (dDisp mkTup (dCons (dC (.int 400)) (dCons (dOp2 gPow (dC (.int 10)) (dC (.int 6))) dNil))) dNil)) (dCons (dOp2 gMul (dDisp mkTup (dCons (dDisp mkTup (dCons (dC (.int 0)) (dCons (dOp2 gPow (dC (.int 10)) (dC (.int 6))) dNil))) dNil)) (dC (.int 40))) dNil))) (dOp2 gPow (dC (.int 10)) (dC (.int 6))))))
def g_law_k24 : List Sl → FRes := dFun 3 b_law_k24
noncomputable def b__law_name_of (a : Addr) (bs : Str → Bool) : Rho → Ou := (dSeq (dSet false 1 (dDisp mkLst (dCons (dIsE 0 a (bs "InvalidSchedule")) (dCons (dIsE 0 a (bs "InvalidTrips")) (dCons (dIsE 0 a (bs "InvalidTrip")) dNil)))))
  (dSeq (dSet false 1 (dOp2 gAdd (dVar 1) (dDisp mkLst (dCons (dIsE 0 a (bs "InvalidTime")) (dCons (dIsE 0 a (bs "InvalidIndex")) (dCons (dIsE 0 a (bs "InvalidAmount")) dNil))))))
  (dSeq (dSet false 1 (dOp2 gAdd (dVar 1) (dDisp mkLst (dCons (dIsE 0 a (bs "InvalidRange")) (dCons (dIsE 0 a (bs "InvalidLength")) (dCons (dIsE 0 a (bs "InvalidPeriod")) dNil))))))
  (dSeq (dSet false 1 (dOp2 gAdd (dVar 1) (dDisp mkLst (dCons (dIsE 0 a (bs "InvalidCount")) (dCons (dIsE 0 a (bs "NothingToUndo")) (dCons (dIsE 0 a (bs "TooMany")) dNil))))))
  (dSeq (dSet false 2 (dDisp mkLst (dCons (dC (.str "Schedule")) (dCons (dC (.str "Trips")) (dCons (dC (.str "Trip")) (dCons (dC (.str "Time")) (dCons (dC (.str "Index")) (dCons (dC (.str "Amount")) (dCons (dC (.str "Range")) (dCons (dC (.str "Length")) (dCons (dC (.str "Period")) dNil)))))))))))
  (dSeq (dSet false 2 (dOp2 gAdd (dVar 2) (dDisp mkLst (dCons (dC (.str "Count")) (dCons (dC (.str "Undo")) (dCons (dC (.str "Many")) dNil))))))
  (dRet (dJoin "" (dLc [3, 4] (dItr gZipL (dCons (dOp2 gAdd (dVar 2) (dDisp mkLst (dCons (dC (.str "+")) dNil))) (dCons (dOp2 gAdd (dVar 1) (dDisp mkLst (dCons (dIsE 0 a (bs "ValueError")) dNil))) dNil))) (tgTup 2 (tgCons (tgN 3) (tgCons (tgN 4) tgNil))) (asB (dVar 4)) (dVar 3))))))))))
end RC

namespace RP
open PySem PySem.Spec L2 R RC
/-! the doors, for data of any kind -/
def fromB (lo hi : Int) : PyData → Bool
  | .int v => decide (lo ≤ v ∧ v ≤ hi)
  | _ => false
@[simp] theorem fromB_i {lo hi v : Int} : fromB lo hi (.int v) = decide (lo ≤ v ∧ v ≤ hi) := rfl
theorem is_from_any {n : Nat} (d : PyData) (h : pl n d = true) (lo hi : Int) : g_is_from [.dat d, .dat (.int lo), .dat (.int hi)] = .ok (.dat (.bool (fromB lo hi d))) [] := by
  apply fun_ok
  cases d with
  | int v =>
    simp [b_is_from, tbOf]
    by_cases h1 : lo ≤ v
    · by_cases h2 : v ≤ hi <;> simp [h1, h2]
    · simp [h1]
  | dict _ => cases n <;> simp [pl] at h
  | _ => simp [b_is_from, tbOf, fromB]
theorem is_from_int (v lo hi : Int) : g_is_from [.dat (.int v), .dat (.int lo), .dat (.int hi)] = .ok (.dat (.bool (decide (lo ≤ v ∧ v ≤ hi)))) [] := is_from_any (n := 0) (.int v) rfl lo hi
def pairB (l h : Int × Int) : PyData → Bool
  | .tuple [a, b] => fromB l.1 l.2 a && fromB h.1 h.2 b
  | _ => false
@[simp] theorem pairB_p {l h p : Int × Int} : pairB l h (pr p) = decide ((l.1 ≤ p.1 ∧ p.1 ≤ l.2) ∧ (h.1 ≤ p.2 ∧ p.2 ≤ h.2)) := by simp [pr, pairB]
theorem is_pair_any {n : Nat} (d : PyData) (hd : pl (n + 1) d = true) (l h : Int × Int) : g_is_pair [.dat d, .dat (pr l), .dat (pr h)] = .ok (.dat (.bool (pairB l h d))) [] := by
  apply fun_ok
  cases d with
  | dict _ => simp [pl] at hd
  | tuple xs =>
    match xs, hd with
    | [], _ => simp [b_is_pair, tbOf, pairB]
    | [a], _ => simp [b_is_pair, tbOf, pairB]
    | [a, b], hd =>
      have h1 : pl n a = true := by simp [pl, plA] at hd; exact hd.1
      have h2 : pl n b = true := by simp [pl, plA] at hd; exact hd.2
      have e1 := is_from_any a h1 l.1 l.2
      have e2 := is_from_any b h2 h.1 h.2
      simp [b_is_pair, tbOf, pr, e1, e2, pairB]
      by_cases h3 : fromB l.1 l.2 a = true <;> simp [h3]
    | a :: b :: c :: r, _ =>
      have e : ¬ ((r.length : Int) + 1 + 1 + 1 = 2) := by omega
      simp [b_is_pair, tbOf, pairB, e]
  | _ => simp [b_is_pair, tbOf, pairB]
def minL : List Int → Int
  | [] => 0
  | a :: r => mnL a r
theorem gMin_inz {l : List Int} (h : l ≠ []) : gMin [.list (inz l)] = some (.dat (.int (minL l))) := by
  cases l with
  | nil => exact absurd rfl h
  | cons a r => exact gMin_l
def roomL (past : List (Int × Int)) (t : Int) (p : Int × Int) : Int := p.2 - ((past.filter fun q => decide (t - p.1 < q.1)).map (·.2)).sum
def room (s past : List (Int × Int)) (t : Int) : Int := minL (s.map (roomL past t))
/-- what a comprehension over pairs gives, as inz -/
theorem fm_prs (c : Int × Int → Bool) (f : Int × Int → Int) (F : PyData → Option PyData) (h : ∀ p, F (pr p) = if c p then some (.int (f p)) else none) : ∀ l : List (Int × Int), (prs l).filterMap F = inz ((l.filter c).map f)
  | [] => rfl
  | p :: r => by
    rw [prs_cons, List.filterMap_cons, h, List.filter_cons]
    by_cases e : c p = true
    · simp [e, fm_prs c f F h r, inz_cons]
    · simp [e, fm_prs c f F h r]
def onPr (f : Int → Int → Option PyData) : PyData → Option PyData
  | .tuple [.int a, .int b] => f a b
  | _ => none
theorem mem_prs {d : PyData} {l : List (Int × Int)} (h : d ∈ prs l) : ∃ p ∈ l, d = pr p := by
  obtain ⟨p, m, e⟩ := List.mem_map.mp h
  exact ⟨p, m, e.symm⟩
theorem room_at_ok (s past : List (Int × Int)) (t : Int) (hs : s ≠ []) (hz : s.length < 1000) : g_room_at [.dat (.tuple (prs s)), .dat (.list (prs past)), .dat (.int t)] = .ok (.dat (.int (room s past t))) [] := by
  apply fun_ok
  simp [b_room_at]
  refine loop_w (fun rest ρ => ∃ done todo x y, s = done ++ todo ∧ rest = prs todo ∧ ρ = [.dat (.tuple (prs s)), .dat (.list (prs past)), .dat (.int t), .ls (inz (done.map (roomL past t))), lv x, lv y, .un, .un]) ?_ ?_ _ _ ⟨[], s, none, none, rfl, rfl, rfl⟩
  · rintro d rest ρ ⟨done, todo, x, y, e1, e2, rfl⟩
    cases todo with
    | nil => cases e2
    | cons p todo =>
      cases e2
      simp [pr]
      refine post_of (comp_map (f := onPr fun w c => if t - p.1 < w then some (.int c) else none) ?_) ?_
      · intro d hd
        obtain ⟨q, _, rfl⟩ := mem_prs hd
        simp [pr, onPr]
      · rw [fm_prs (fun q => decide (t - p.1 < q.1)) (·.2) _ (fun q => by simp [pr, onPr])]
        have e : s.length = done.length + (todo.length + 1) := by rw [e1]; simp
        simp
        exact ⟨by omega, done ++ [p], todo, by simp [e1], rfl, by simp [roomL], ⟨some _, rfl⟩, ⟨some _, rfl⟩⟩
  · rintro ρ ⟨done, todo, x, y, e1, e2, rfl⟩
    cases todo with
    | cons p todo => cases e2
    | nil =>
      have e1 : s = done := by simpa using e1
      subst e1
      have : (s.map (roomL past t)) ≠ [] := by simpa using hs
      simp [gMin_inz this, room]
def chG (s : List (Int × Int)) : List (Int × Int) → List (Int × Int) → List (Int × Int)
  | past, [] => past
  | past, p :: r => chG s (past ++ [(p.1, min p.2 (room s past p.1))]) r
def chs (s trips : List (Int × Int)) : List Int := (chG s [] trips).map (·.2)
theorem chG_len (s : List (Int × Int)) : ∀ (trips past : List (Int × Int)), (chG s past trips).length = past.length + trips.length
  | [], past => by simp [chG]
  | p :: r, past => by rw [chG, chG_len s r]; simp; omega
theorem all_charges_ok (s trips : List (Int × Int)) (hs : s ≠ []) (hz : s.length < 1000) (ht : trips.length < 1000) : g_all_charges [.dat (.tuple (prs s)), .dat (.tuple (prs trips))] = .ok (.new (inz (chs s trips))) [] := by
  apply fun_ok
  simp [b_all_charges]
  refine loop_w (fun rest ρ => ∃ past todo x y, chG s [] trips = chG s past todo ∧ past.length + todo.length = trips.length ∧ rest = prs todo ∧ ρ = [.dat (.tuple (prs s)), .dat (.tuple (prs trips)), .ls (prs past), lv x, lv y, .un]) ?_ ?_ _ _ ⟨[], trips, none, none, rfl, by simp, rfl, rfl⟩
  · rintro d rest ρ ⟨past, todo, x, y, e1, e2, e3, rfl⟩
    cases todo with
    | nil => cases e3
    | cons p todo =>
      cases e3
      have hl : past.length < 16777216 := by simp at e2; omega
      simp [pr, room_at_ok _ _ _ hs hz, hl]
      simp at e2
      exact ⟨past ++ [(p.1, min p.2 (room s past p.1))], todo, e1, by simp; omega, rfl, rfl, ⟨some _, rfl⟩, ⟨some _, rfl⟩⟩
  · rintro ρ ⟨past, todo, x, y, e1, e2, e3, rfl⟩
    cases todo with
    | cons p todo => cases e3
    | nil =>
      simp
      refine post_of (comp_map (f := onPr fun w c => some (.int c)) ?_) ?_
      · intro d hd
        obtain ⟨q, _, rfl⟩ := mem_prs hd
        simp [pr, onPr]
      · rw [fm_prs (fun q => true) (·.2) _ (fun q => by simp [pr, onPr])]
        have ft : past.filter (fun _ => true) = past := List.filter_eq_self.mpr (by simp)
        simp only [ft]
        cases x <;> simp [chs, e1, chG]
def bls (l : List Bool) : List PyData := l.map .bool
@[simp] theorem gAll_bls {l : List Bool} : gAll [.list (bls l)] = some (.dat (.bool (l.all id))) := gAll_b
theorem fm_bls {α : Type} (f : α → PyData) (c : α → Bool) (F : PyData → Option PyData) (h : ∀ p, F (f p) = some (.bool (c p))) : ∀ l : List α, (l.map f).filterMap F = bls (l.map c)
  | [] => rfl
  | p :: r => by
    rw [List.map_cons, List.filterMap_cons, h, fm_bls f c F h r]
    rfl
@[simp] theorem gIx_p0 {p : Int × Int} : gIx (pr p) (.int 0) = some (.dat (.int p.1)) := by simp [pr]
@[simp] theorem gIx_p1 {p : Int × Int} : gIx (pr p) (.int 1) = some (.dat (.int p.2)) := by simp [pr]
@[simp] theorem tg_p {g : List PyData → Rho → Option Rho} {p : Int × Int} {ρ : Rho} : tgTup 2 g (pr p) ρ = g [.int p.1, .int p.2] ρ := by simp [pr]
def pp (x : (Int × Int) × (Int × Int)) : PyData := .tuple [pr x.1, pr x.2]
theorem zip_prs : ∀ s t : List (Int × Int), zipD (prs s) (prs t) = (s.zip t).map pp
  | [], _ => rfl
  | _ :: _, [] => rfl
  | a :: s, b :: t => by
    have := zip_prs s t
    unfold zipD prs at this ⊢
    simp [this, pp]
@[simp] theorem cut_prs1 {s : List (Int × Int)} : cut (prs s) (some 1) none = prs (s.drop 1) := by
  unfold prs
  rw [cut_map]
  exact congrArg _ (cut_drop (n := 1))
theorem is_pairN {n : Nat} (d : PyData) (hd : pl (n + 1) d = true) (l1 h1 l2 h2 : Int) : g_is_pair [.dat d, .dat (.tuple [.int l1, .int h1]), .dat (.tuple [.int l2, .int h2])] = .ok (.dat (.bool (pairB (l1, h1) (l2, h2) d))) [] := is_pair_any d hd (l1, h1) (l2, h2)
theorem is_pair2 (p : Int × Int) (l1 h1 l2 h2 : Int) : g_is_pair [.dat (pr p), .dat (.tuple [.int l1, .int h1]), .dat (.tuple [.int l2, .int h2])] = .ok (.dat (.bool (decide ((l1 ≤ p.1 ∧ p.1 ≤ h1) ∧ (l2 ≤ p.2 ∧ p.2 ≤ h2))))) [] := by
  rw [is_pairN (n := 0) _ (pl_pr _ p), pairB_p]
def inB (l h : Int × Int) (p : Int × Int) : Bool := decide ((l.1 ≤ p.1 ∧ p.1 ≤ l.2) ∧ (h.1 ≤ p.2 ∧ p.2 ≤ h.2))
def schB (s : List (Int × Int)) : Bool := decide (1 ≤ s.length ∧ s.length ≤ 5) && s.all (inB (1, 400) (1, 1000000)) && (s.zip (s.drop 1)).all fun x => decide (x.1.1 < x.2.1)
def trpB (s : List (Int × Int)) : Bool := decide (s.length ≤ 40) && s.all (inB (0, 1000000000) (0, 1000000)) && (s.zip (s.drop 1)).all fun x => decide (x.1.1 ≤ x.2.1)
theorem fb_prs (c : Int × Int → Bool) (F : PyData → Option PyData) (h : ∀ p, F (pr p) = some (.bool (c p))) (l : List (Int × Int)) : (prs l).filterMap F = bls (l.map c) := fm_bls pr c F h l
theorem fb_pps (c : (Int × Int) × (Int × Int) → Bool) (F : PyData → Option PyData) (h : ∀ p, F (pp p) = some (.bool (c p))) (l m : List (Int × Int)) : (zipD (prs l) (prs m)).filterMap F = bls ((l.zip m).map c) := by rw [zip_prs]; exact fm_bls pp c F h _
theorem mem_pps {d : PyData} {l m : List (Int × Int)} (h : d ∈ zipD (prs l) (prs m)) : ∃ x ∈ l.zip m, d = pp x := by
  rw [zip_prs] at h
  obtain ⟨p, q, e⟩ := List.mem_map.mp h
  exact ⟨p, q, e.symm⟩
def unB (c : Int → Int → Bool) : PyData → Option PyData
  | .tuple [.int a, .int b] => some (.bool (c a b))
  | _ => none
def unP (c : Int → Int → Bool) : PyData → Option PyData
  | .tuple [.tuple [.int a, .int _], .tuple [.int b, .int _]] => some (.bool (c a b))
  | _ => none
@[simp] theorem unB_p {c : Int → Int → Bool} {p : Int × Int} : unB c (pr p) = some (.bool (c p.1 p.2)) := rfl
@[simp] theorem unP_p {c : Int → Int → Bool} {p : (Int × Int) × (Int × Int)} : unP c (pp p) = some (.bool (c p.1.1 p.2.1)) := rfl
theorem fm_all {f : PyData → Bool} : ∀ l : List PyData, l.filterMap (fun d => some (PyData.bool (f d))) = bls (l.map f)
  | [] => rfl
  | d :: r => by simp [fm_all r, bls]
theorem pl_mem {n : Nat} : ∀ {l : List PyData} {d : PyData}, plA n l = true → d ∈ l → pl n d = true
  | [], _, _, h => by cases h
  | x :: r, d, p, h => by
    simp [plA] at p
    rcases List.mem_cons.mp h with rfl | h
    · exact p.1
    · exact pl_mem p.2 h
theorem pairs_of {l h : Int × Int} : ∀ {xs : List PyData}, xs.all (pairB l h) = true → ∃ s, xs = prs s ∧ s.all (inB l h) = true
  | [], _ => ⟨[], rfl, rfl⟩
  | d :: r, e => by
    simp only [List.all_cons, Bool.and_eq_true] at e
    obtain ⟨s, rfl, e2⟩ := pairs_of e.2
    have e1 := e.1
    unfold pairB at e1
    split at e1
    · rename_i a b
      simp only [Bool.and_eq_true] at e1
      cases a <;> simp [fromB] at e1
      cases b <;> simp at e1
      rename_i a b
      refine ⟨(a, b) :: s, rfl, ?_⟩
      rw [List.all_cons, e2, Bool.and_true]
      exact decide_eq_true e1
    · cases e1
theorem all_prs {l h : Int × Int} : ∀ s : List (Int × Int), (prs s).all (pairB l h) = s.all (inB l h)
  | [] => rfl
  | p :: r => by rw [prs_cons, List.all_cons, List.all_cons, all_prs r, pairB_p]; rfl
def unpr : PyData → Option (Int × Int)
  | .tuple [.int a, .int b] => some (a, b)
  | _ => none
def unprs : List PyData → Option (List (Int × Int))
  | [] => some []
  | d :: r => match unpr d, unprs r with
    | some p, some s => some (p :: s)
    | _, _ => none
theorem unpr_eq {d : PyData} {p : Int × Int} (h : unpr d = some p) : d = pr p := by
  unfold unpr at h
  split at h
  · cases h; rfl
  · cases h
theorem unprs_eq : ∀ {xs : List PyData} {s : List (Int × Int)}, unprs xs = some s → xs = prs s
  | [], s, h => by cases h; rfl
  | d :: r, s, h => by
    unfold unprs at h
    split at h
    · rename_i p s' e1 e2
      cases h
      rw [unpr_eq e1, unprs_eq e2]; rfl
    · cases h
@[simp] theorem unprs_prs : ∀ s : List (Int × Int), unprs (prs s) = some s
  | [] => rfl
  | p :: r => by
    have := unprs_prs r
    rw [prs_cons, unprs, this]; rfl
def trD (f : List (Int × Int) → Bool) : PyData → Bool
  | .tuple xs => match unprs xs with
    | some s => f s
    | none => false
  | _ => false
def schD : PyData → Bool := trD schB
def trpD : PyData → Bool := trD trpB
@[simp] theorem schD_p {s : List (Int × Int)} : schD (.tuple (prs s)) = schB s := by simp [schD, trD]
@[simp] theorem trpD_p {s : List (Int × Int)} : trpD (.tuple (prs s)) = trpB s := by simp [trpD, trD]
theorem trD_not {f : List (Int × Int) → Bool} {xs : List PyData} (h : ∀ s, xs = prs s → f s = false) : trD f (.tuple xs) = false := by
  show (match unprs xs with | some s => f s | none => false) = false
  cases e : unprs xs with
  | none => rfl
  | some s => exact h s (unprs_eq e)
theorem schD_is {d : PyData} (h : schD d = true) : ∃ s, d = .tuple (prs s) ∧ schB s = true := by
  unfold schD trD at h
  split at h
  · split at h
    · rename_i xs s e; exact ⟨s, by rw [unprs_eq e], h⟩
    · cases h
  · cases h
theorem trpD_is {d : PyData} (h : trpD d = true) : ∃ s, d = .tuple (prs s) ∧ trpB s = true := by
  unfold trpD trD at h
  split at h
  · split at h
    · rename_i xs s e; exact ⟨s, by rw [unprs_eq e], h⟩
    · cases h
  · cases h
theorem is_schedule_any {n : Nat} (d : PyData) (hd : pl (n + 2) d = true) : g_is_schedule [.dat d] = .ok (.dat (.bool (schD d))) [] := by
  apply fun_ok
  cases d with
  | dict _ => simp [pl] at hd
  | tuple xs =>
    have hp : plA (n + 1) xs = true := by simpa [pl] using hd
    by_cases h1 : (1 : Int) ≤ (xs.length : Int) ∧ (xs.length : Int) ≤ 5
    · simp [b_is_schedule, tbOf, h1.1, h1.2]
      refine post_of (comp_map (f := fun d => some (.bool (pairB (1, 400) (1, 1000000) d))) ?_) ?_
      · intro d hd
        simp [is_pairN d (pl_mem hp hd)]
      · rw [fm_all]
        by_cases h2 : xs.all (pairB (1, 400) (1, 1000000)) = true
        · obtain ⟨s, rfl, h3⟩ := pairs_of h2
          have h4 : (bls ((prs s).map (pairB (1, 400) (1, 1000000)))) = bls (List.map (fun _ => true) s) := by
            unfold bls
            congr 1
            rw [prs, List.map_map]
            refine List.map_congr_left fun p m => ?_
            rw [Function.comp_apply, pairB_p]
            exact List.all_eq_true.mp h3 p m
          rw [h4]
          simp
          refine post_of (comp_map (f := unP fun a b => decide (a < b)) ?_) ?_
          · intro d hd
            obtain ⟨q, _, rfl⟩ := mem_pps hd
            simp [pp]
            rfl
          · rw [fb_pps (fun x => decide (x.1.1 < x.2.1)) _ fun q => rfl]
            have h5 : decide (1 ≤ s.length ∧ s.length ≤ 5) = true := decide_eq_true (by simp at h1; omega)
            simp [schB, h3, h5]
        · have h3 : schD (.tuple xs) = false := trD_not fun s e => by
            subst e
            rw [all_prs] at h2
            simp [schB, h2]
          rw [h3]
          simp [h2]
    · have h3 : schD (.tuple xs) = false := trD_not fun s e => by
        subst e
        simp at h1
        simp [schB]
        intros; omega
      rw [h3]
      simp [b_is_schedule, tbOf]
      by_cases h2 : (1 : Int) ≤ (xs.length : Int)
      · have h4 : ¬ (xs.length : Int) ≤ 5 := fun z => h1 ⟨h2, z⟩
        simp [h2, h4]
      · simp [h2]
  | _ => simp [b_is_schedule, tbOf, schD, trD]
theorem is_schedule_ok (s : List (Int × Int)) (hz : s.length < 1000) : g_is_schedule [.dat (.tuple (prs s))] = .ok (.dat (.bool (schB s))) [] := by
  rw [is_schedule_any (n := 0) _ (by simp only [pl]; exact plA_map (pl_pr _) s), schD_p]
theorem is_trip_any {n : Nat} (d : PyData) (hd : pl (n + 1) d = true) : g_is_trip [.dat d] = .ok (.dat (.bool (pairB (0, 1000000000) (0, 1000000) d))) [] := by
  apply fun_ok
  simp [b_is_trip, is_pairN d hd]
theorem is_trip_ok (p : Int × Int) : g_is_trip [.dat (pr p)] = .ok (.dat (.bool (inB (0, 1000000000) (0, 1000000) p))) [] := by
  rw [is_trip_any (n := 0) _ (pl_pr _ p), pairB_p]; rfl
theorem are_trips_any {n : Nat} (d : PyData) (hd : pl (n + 2) d = true) : g_are_trips [.dat d] = .ok (.dat (.bool (trpD d))) [] := by
  apply fun_ok
  cases d with
  | dict _ => simp [pl] at hd
  | tuple xs =>
    have hp : plA (n + 1) xs = true := by simpa [pl] using hd
    by_cases h1 : (40 : Int) < (xs.length : Int)
    · have h3 : trpD (.tuple xs) = false := trD_not fun s e => by
        subst e
        simp at h1
        simp [trpB]
        intros; omega
      rw [h3]
      simp [b_are_trips, tbOf, h1]
    · simp [b_are_trips, tbOf, h1]
      refine post_of (comp_map (f := fun d => some (.bool (pairB (0, 1000000000) (0, 1000000) d))) ?_) ?_
      · intro d hd
        simp [is_trip_any d (pl_mem hp hd)]
      · rw [fm_all]
        by_cases h2 : xs.all (pairB (0, 1000000000) (0, 1000000)) = true
        · obtain ⟨s, rfl, h3⟩ := pairs_of h2
          have h4 : (bls ((prs s).map (pairB (0, 1000000000) (0, 1000000)))) = bls (List.map (fun _ => true) s) := by
            unfold bls
            congr 1
            rw [prs, List.map_map]
            refine List.map_congr_left fun p m => ?_
            rw [Function.comp_apply, pairB_p]
            exact List.all_eq_true.mp h3 p m
          rw [h4]
          simp
          refine post_of (comp_map (f := unP fun a b => decide (a ≤ b)) ?_) ?_
          · intro d hd
            obtain ⟨q, _, rfl⟩ := mem_pps hd
            simp [pp]
            rfl
          · rw [fb_pps (fun x => decide (x.1.1 ≤ x.2.1)) _ fun q => rfl]
            have h5 : decide (s.length ≤ 40) = true := decide_eq_true (by simp at h1; omega)
            simp [trpB, h3, h5]
        · have h3 : trpD (.tuple xs) = false := trD_not fun s e => by
            subst e
            rw [all_prs] at h2
            simp [trpB, h2]
          rw [h3]
          simp [h2]
  | _ => simp [b_are_trips, tbOf, trpD, trD]
theorem are_trips_ok (s : List (Int × Int)) (hz : s.length < 1000) : g_are_trips [.dat (.tuple (prs s))] = .ok (.dat (.bool (trpB s))) [] := by
  rw [are_trips_any (n := 0) _ (by simp only [pl]; exact plA_map (pl_pr _) s), trpD_p]
theorem need_schedule_ok (s : List (Int × Int)) (h : schB s = true) : g_need_schedule [.dat (.tuple (prs s))] = .ok (.dat .none) [] := by
  have hz : s.length < 1000 := by simp [schB] at h; omega
  apply fun_ok
  simp [b_need_schedule, is_schedule_ok s hz, h]
theorem need_trips_ok (s : List (Int × Int)) (h : trpB s = true) : g_need_trips [.dat (.tuple (prs s))] = .ok (.dat .none) [] := by
  have hz : s.length < 1000 := by simp [trpB] at h; omega
  apply fun_ok
  simp [b_need_trips, are_trips_ok s hz, h]
theorem need_both_ok (s t : List (Int × Int)) (h : schB s = true) (h2 : trpB t = true) : g_need_both [.dat (.tuple (prs s)), .dat (.tuple (prs t))] = .ok (.dat .none) [] := by
  apply fun_ok
  simp [b_need_both, need_schedule_ok s h, need_trips_ok t h2]
theorem sch_ne {s : List (Int × Int)} (h : schB s = true) : s ≠ [] := fun e => by subst e; simp [schB] at h
theorem sch_len {s : List (Int × Int)} (h : schB s = true) : s.length < 1000 := by simp [schB] at h; omega
theorem trp_len {s : List (Int × Int)} (h : trpB s = true) : s.length < 1000 := by simp [trpB] at h; omega
theorem charges_ok (s t : List (Int × Int)) (h : schB s = true) (h2 : trpB t = true) : g_charges [.dat (.tuple (prs s)), .dat (.tuple (prs t))] = .ok (.new (inz (chs s t))) [] := by
  apply fun_ok
  simp [b_charges, need_both_ok s t h h2, all_charges_ok s t (sch_ne h) (sch_len h) (trp_len h2)]
theorem total_of_ok (s t : List (Int × Int)) (hs : s ≠ []) (hz : s.length < 1000) (ht : t.length < 1000) : g_total_of [.dat (.tuple (prs s)), .dat (.tuple (prs t))] = .ok (.dat (.int (chs s t).sum)) [] := by
  apply fun_ok
  simp [b_total_of, all_charges_ok s t hs hz ht]
theorem total_ok (s t : List (Int × Int)) (h : schB s = true) (h2 : trpB t = true) : g_total [.dat (.tuple (prs s)), .dat (.tuple (prs t))] = .ok (.dat (.int (chs s t).sum)) [] := by
  apply fun_ok
  simp [b_total, need_both_ok s t h h2, total_of_ok s t (sch_ne h) (sch_len h) (trp_len h2)]
/-! the law's own random numbers -/
def dkL (d : Int × Int × Int) : List PyData := [.int d.1, .int d.2.1, .int d.2.2]
structure DkOk (m : Nat) (d : Int × Int × Int) : Prop where
  b0 : 0 ≤ d.2.1
  b1 : d.2.1 < 2147483579
  c0 : 0 ≤ d.2.2
  c1 : d.2.2 ≤ m
theorem DkOk.mono {m n : Nat} {d : Int × Int × Int} (h : DkOk m d) (l : m ≤ n) : DkOk n d := ⟨h.b0, h.b1, h.c0, by have := h.c1; omega⟩
theorem deck_ok (c : Int) (t : Int) (h0 : 0 ≤ t) (m : Nat) (h1 : t ≤ m) : ∃ d, g__law_deck [.dat (.int c), .dat (.int t)] = .ok (.new (dkL d)) [] ∧ DkOk m d := by
  refine ⟨if 1000000000000000000 ≤ c then (c - 1000000000000000000, c % 2147483579, t) else (0, c % 2147483579, t), ?_, ?_⟩
  · apply fun_ok
    simp [b__law_deck, gPow_i, gMod_i]
    split <;> simp [dkL, gPow_i, gMod_i, *]
  · split <;> exact ⟨by dsimp only; omega, by dsimp only; omega, h0, h1⟩
theorem pick_ok {m : Nat} {d : Int × Int × Int} (h : DkOk m d) (hm : m < 2 ^ 30) {n : Int} (h0 : 0 < n) (h1 : n < 2 ^ 64) : ∃ r d', g__law_pick [.rf 0 (dkL d), .dat (.int n)] = .ok (.dat (.int r)) (dkL d') ∧ DkOk (m + 1) d' ∧ 0 ≤ r ∧ r < n := by
  obtain ⟨a, b, c⟩ := d
  obtain ⟨b0, b1, c0, c1⟩ := h
  dsimp only at b0 b1 c0 c1
  by_cases ha : 1 < a
  · refine ⟨a % n, (a / n, b, c), ?_, ⟨b0, b1, c0, by dsimp only; omega⟩, Int.emod_nonneg _ (by omega), Int.emod_lt_of_pos _ h0⟩
    apply fun_ok
    simp [b__law_pick, dkL, ha, gMod_i h0, gFdiv_i h0 h1, ixN]
  · have hb : (0 : Int) ≤ 5 ∧ (5 : Int) ≤ 1000 ∧ -(2 ^ 63) < b + 15485867 * (c + 1) ∧ b + 15485867 * (c + 1) < 2 ^ 63 := by refine ⟨by omega, by omega, ?_, ?_⟩ <;> omega
    have e1 : gPow (.int (b + 15485867 * (c + 1))) (.int 5) = some (.dat (.int ((b + 15485867 * (c + 1)) ^ 5))) := gPow_i hb
    have p0 : 0 ≤ ((b + 15485867 * (c + 1)) ^ 5) % 2147483647 := Int.emod_nonneg _ (by omega)
    have p1 : ((b + 15485867 * (c + 1)) ^ 5) % 2147483647 < 2147483647 := Int.emod_lt_of_pos _ (by omega)
    have e2 := gMod_i (a := (b + 15485867 * (c + 1)) ^ 5) (b := 2147483647) (by omega)
    generalize ((b + 15485867 * (c + 1)) ^ 5) % 2147483647 = nm at p0 p1 e2
    have hb2 : (0 : Int) ≤ 3 ∧ (3 : Int) ≤ 1000 ∧ -(2 ^ 63) < nm + 7919 * (c + 1) ∧ nm + 7919 * (c + 1) < 2 ^ 63 := by refine ⟨by omega, by omega, ?_, ?_⟩ <;> omega
    have e3 : gPow (.int (nm + 7919 * (c + 1))) (.int 3) = some (.dat (.int ((nm + 7919 * (c + 1)) ^ 3))) := gPow_i hb2
    have e4 := gMod_i (a := (nm + 7919 * (c + 1)) ^ 3) (b := 2147483629) (by omega)
    generalize ((nm + 7919 * (c + 1)) ^ 3) % 2147483629 = f0 at e4
    have e5 := gFdiv_i (a := f0) (b := 32) (by omega) (by omega)
    generalize f0 / 32 = f1 at e5
    have m1 : gMul (.int 15485867) (.int (c + 1)) = _ := gMul_i (.inl ⟨by decide, by decide⟩)
    have m2 : gMul (.int 7919) (.int (c + 1)) = _ := gMul_i (.inl ⟨by decide, by decide⟩)
    have m3 : gMul (.int f1) (.int 2147483563) = _ := gMul_i (.inr ⟨by decide, by decide⟩)
    refine ⟨if 1000000 < n then (f1 * 2147483563 + nm) % n else f1 % n, (a, b, c + 1), ?_, ⟨b0, b1, by dsimp only; omega, by dsimp only; omega⟩, ?_, ?_⟩
    · apply fun_ok
      simp [b__law_pick, dkL, ha, ixN, m1, m2, m3, e1, e2, e3, e4, e5, gMod_i h0]
      split <;> (intro h; omega)
    · split <;> exact Int.emod_nonneg _ (by omega)
    · split <;> exact Int.emod_lt_of_pos _ h0
theorem one_ok {m : Nat} {d : Int × Int × Int} (h : DkOk m d) (hm : m < 2 ^ 30) {L : List PyData} (h0 : L ≠ []) (h1 : L.length < 2 ^ 30) : ∃ x d', x ∈ L ∧ g__law_one [.rf 0 (dkL d), .dat (.list L)] = .ok (.dat x) (dkL d') ∧ DkOk (m + 1) d' := by
  have hl : 0 < L.length := List.length_pos_iff.mpr h0
  obtain ⟨r, d', e, k, r0, r1⟩ := pick_ok h hm (n := (L.length : Int)) (by omega) (by omega)
  have hr : r.toNat < L.length := by omega
  have hx : atI L r = some L[r.toNat] := by
    have e2 : atI L ((r.toNat : Nat) : Int) = some L[r.toNat] := by rw [atI_n]; simp [hr]
    rwa [show ((r.toNat : Nat) : Int) = r by omega] at e2
  refine ⟨L[r.toNat], d', List.getElem_mem hr, ?_, k⟩
  apply fun_ok
  simp [b__law_one, e, hx]
def sortN : PyData → Int
  | .bool _ => 1
  | .int _ => 2
  | .str _ => 3
  | .list _ => 4
  | .tuple _ => 5
  | _ => 6
theorem sort_ok (n : Nat) (d : PyData) (h : pl n d = true) : g__law_sort [.dat d] = .ok (.dat (.int (sortN d))) [] := by
  cases d with
  | dict _ => cases n <;> simp [pl] at h
  | _ => apply fun_ok; simp [b__law_sort, tbOf, sortN]
theorem enum_mem {d : PyData} : ∀ {l : List PyData} {n : Nat}, d ∈ enumD n l → ∃ i x, l[i]? = some x ∧ d = .tuple [.int ((n + i : Nat) : Int), x]
  | [], _, h => by cases h
  | x :: r, n, h => by
    rcases List.mem_cons.mp h with h | h
    · exact ⟨0, x, rfl, by simpa using h⟩
    · obtain ⟨i, y, e1, e2⟩ := enum_mem h
      exact ⟨i + 1, y, e1, by rw [e2]; congr 4; omega⟩
theorem plA_at {n : Nat} : ∀ {l : List PyData} {i : Nat} {x : PyData}, plA n l = true → l[i]? = some x → pl n x = true
  | [], _, _, _, h => by cases h
  | y :: r, 0, x, p, h => by simp [plA] at p; cases h; exact p.1
  | y :: r, i + 1, x, p, h => by simp [plA] at p; exact plA_at p.2 h
@[simp] theorem dkL_flat {d : Int × Int × Int} : (dkL d).all flatD = true := by simp [dkL]
theorem fm_none {f : PyData → Option PyData} : ∀ {l : List PyData}, (∀ d ∈ l, f d = none) → l.filterMap f = []
  | [], _ => rfl
  | d :: r, h => by rw [List.filterMap_cons, h d List.mem_cons_self]; exact fm_none fun d' m => h d' (List.mem_cons_of_mem _ m)
theorem seq_same (g : List Sl → FRes) (l : List PyData) (hg : ∀ x ∈ l, g [.dat x, .dat x] = .ok (.dat (.bool true)) []) (d : PyData) (hd : seqD d = some l) (hsort : g__law_sort [.dat d] = .ok (.dat (.int (sortN d))) []) (h4 : 3 < sortN d ∧ sortN d < 6) (hix : ∀ a : Int, gIx d (.int a) = (atI l a).map .dat) (hln : gLen [d] = some (.dat (.int (l.length : Int)))) :
    dFun 4 (b__law_same g) [.dat d, .dat d] = .ok (.dat (.bool true)) [] := by
  apply fun_ok
  simp [b__law_same, hsort, h4, hln, hd]
  refine post_of (comp_map (f := fun _ => none) ?_) ?_
  · intro x hx
    obtain ⟨i, y, e1, rfl⟩ := enum_mem hx
    have hy : y ∈ l := List.mem_of_getElem? e1
    have hy2 : atI l ((0 + i : Nat) : Int) = some y := by rw [atI_n]; simpa using e1
    simp at hy2
    simp [hix, hy2, hg y hy]
  · rw [fm_none fun _ _ => rfl]
    simp
    rw [gEq_of (sh_pl (by simp [pl, plA])) (sh_pl (by simp [pl, plA]))]
    simp [PyData.eqv, PyData.eqvAll]
theorem same_refl : ∀ (n : Nat) (d : PyData), pl n d = true → gn__law_same (n + 1) [.dat d, .dat d] = .ok (.dat (.bool true)) []
  | n, .list l, h => by
    cases n with
    | zero => simp [pl] at h
    | succ n =>
      exact seq_same _ l (fun x m => same_refl n x (by
        obtain ⟨i, hi, e⟩ := List.getElem_of_mem m
        exact plA_at (by simpa [pl] using h) (by rw [List.getElem?_eq_getElem hi, e]))) _ rfl (sort_ok _ _ h) (by simp [sortN]) (fun _ => rfl) rfl
  | n, .tuple l, h => by
    cases n with
    | zero => simp [pl] at h
    | succ n =>
      exact seq_same _ l (fun x m => same_refl n x (by
        obtain ⟨i, hi, e⟩ := List.getElem_of_mem m
        exact plA_at (by simpa [pl] using h) (by rw [List.getElem?_eq_getElem hi, e]))) _ rfl (sort_ok _ _ h) (by simp [sortN]) (fun _ => rfl) rfl
  | n, .int a, h => by
    apply fun_ok
    simp [b__law_same, sort_ok n _ h, sortN]
  | n, .bool a, h => by
    apply fun_ok
    simp [b__law_same, sort_ok n _ h, sortN, gEq_of, PyData.eqv]
  | n, .none, h => by
    apply fun_ok
    simp [b__law_same, sort_ok n _ h, sortN, gEq_of, PyData.eqv]
  | n, .str x, h => by
    have hs : SeqAt.shaped (.str x) = true := sh_pl (by cases n <;> simpa [pl] using h)
    apply fun_ok
    simp [b__law_same, sort_ok n _ h, sortN, gEq_of hs hs, PyData.eqv]
  | n, .dict _, h => by cases n <;> simp [pl] at h
theorem same_mono (n : Nat) (d : PyData) (h : pl 7 d = true) : g__law_same [.dat d, .dat d] = .ok (.dat (.bool true)) [] := same_refl 7 d h
end RP
namespace R
open PySem PySem.Spec L2
def isPv (a : Addr) : Sl → Prop
  | .pv P => ∀ v, P v → v = .ref a
  | _ => False
@[simp] theorem isPv_a {a : Addr} : isPv a (.pv fun v => v = .ref a) = True := eq_true fun _ h => h
@[simp ↓] theorem w_isE {Pv : Rv → Rho → Prop} {E : Exn → Rho → Prop} {ρ : Rho} {i : Nat} {a : Addr} {b : Bool} : Pst Pv E (dIsE i a b ρ) = onS ρ[i]? fun s => isPv a s ∧ Pv (.dat (.bool b)) ρ := by
  unfold dIsE
  cases e : ρ[i]? with
  | none => rfl
  | some s =>
    cases s with
    | pv P =>
      simp only [onS_some, isPv]
      split
      · rename_i h
        exact propext ⟨fun q => ⟨h, q⟩, fun q => q.2⟩
      · rename_i h
        exact propext ⟨fun q => q.elim, fun q => h q.1⟩
    | _ => simp [isPv]
@[simp ↓] theorem w_join {Pv : Rv → Rho → Prop} {E : Exn → Rho → Prop} {ρ : Rho} {a : Str} {f : Rho → Res Rv} : Pst Pv E (dJoin a f ρ) = Pst (fun r ρ1 => onS (rd ρ1 r) fun d => onS (lstD d) fun l => onS (strsOf l) fun ys => if (ys.map (·.length)).sum + ys.length * a.length ≤ 16777216 then Pv (.dat (.str (Txt.join a ys))) ρ1 else False) E (f ρ) := by
  unfold dJoin
  simp only [w_bind]
  refine pst_ext fun r ρ1 => ?_
  cases rd ρ1 r with
  | none => rfl
  | some d =>
    cases d <;> try rfl
    rename_i l
    simp only [onS_some, lstD_i]
    cases strsOf l with
    | none => rfl
    | some ys => simp only [onS_some]; by_cases h : (ys.map (·.length)).sum + ys.length * a.length ≤ 16777216 <;> simp [h]
theorem wo_ret {o : Ou} {R : Rv} (h : WO { rt := fun r _ => r = R } o) : ∃ ρ', o = .ret R ρ' := by
  cases o with
  | ret r ρ => exact ⟨ρ, by rw [show r = R from h]⟩
  | _ => exact h.elim
end R
namespace RP
open PySem PySem.Spec L2 R RC
def nmW : PyData → Option PyData
  | .tuple [.str w, .bool b] => if b then some (.str w) else none
  | _ => none
def nmL (bs : Str → Bool) : List (Str × Bool) := [("Schedule", bs "InvalidSchedule"), ("Trips", bs "InvalidTrips"), ("Trip", bs "InvalidTrip"), ("Time", bs "InvalidTime"), ("Index", bs "InvalidIndex"), ("Amount", bs "InvalidAmount"), ("Range", bs "InvalidRange"), ("Length", bs "InvalidLength"), ("Period", bs "InvalidPeriod"),
  ("Count", bs "InvalidCount"), ("Undo", bs "NothingToUndo"), ("Many", bs "TooMany"), ("+", bs "ValueError")]
theorem nm_str : ∀ l : List (Str × Bool), strsOf ((l.map fun p => PyData.tuple [.str p.1, .bool p.2]).filterMap nmW) = some ((l.filter (·.2)).map (·.1))
  | [] => rfl
  | (w, b) :: l => by
    have := nm_str l
    rw [List.map_cons, List.filterMap_cons, List.filter_cons]
    cases b
    · exact this
    · show (strsOf (((l.map fun p => PyData.tuple [.str p.1, .bool p.2])).filterMap nmW)).map (w :: ·) = _
      rw [this]; rfl
theorem name_gen (a : Addr) (bs : Str → Bool) (z : Str) (hz : Txt.join "" (((nmL bs).filter (·.2)).map (·.1)) = z) (hl : ((((nmL bs).filter (·.2)).map (·.1)).map (·.length)).sum + (((nmL bs).filter (·.2)).map (·.1)).length * (("" : Str)).length ≤ 16777216) :
    ∃ ρ', b__law_name_of a bs (.pv (fun v => v = .ref a) :: List.replicate (5 - 1) .un) = .ret (.dat (.str z)) ρ' := by
  refine wo_ret ?_
  have gad : ∀ l m : List PyData, l.length + m.length ≤ 16777216 → gAdd (.list l) (.list m) = some (.new (l ++ m)) := fun l m h => by
    show (if _ then _ else _) = _
    rw [if_pos (by simpa using h)]
  simp [b__law_name_of, gad, gZipL, zipD]
  refine post_of (comp_map (ds := (nmL bs).map fun p => PyData.tuple [.str p.1, .bool p.2]) (f := nmW) ?_) ?_
  · intro d hd
    obtain ⟨p, _, rfl⟩ := List.mem_map.mp hd
    obtain ⟨w, b⟩ := p
    cases b <;> simp [nmW]
  · rw [rd_n, onS_some, lstD_i, onS_some, nm_str, onS_some, if_pos hl, hz]
theorem name_val (x z : Str) (a : Addr) (h : nmA x = some z) : ∃ ρ', b__law_name_of a (bsOf x) (.pv (fun v => v = .ref a) :: List.replicate (5 - 1) .un) = .ret (.dat (.str z)) ρ' := by
  by_cases hx : x = ("TooMany" : Str)
  · subst hx
    rw [nmA_M] at h
    cases h
    exact name_gen a _ _ (by decide +kernel) (by decide +kernel)
  · unfold nmA at h
    rw [if_neg hx] at h
    have hm := PySem.mem_of_lookup h
    simp only [List.mem_cons, Prod.mk.injEq, List.not_mem_nil, or_false] at hm
    rcases hm with ⟨rfl, rfl⟩ | ⟨rfl, rfl⟩ | ⟨rfl, rfl⟩ | ⟨rfl, rfl⟩ | ⟨rfl, rfl⟩ | ⟨rfl, rfl⟩ | ⟨rfl, rfl⟩ | ⟨rfl, rfl⟩ | ⟨rfl, rfl⟩ | ⟨rfl, rfl⟩ | ⟨rfl, rfl⟩ <;> exact name_gen a _ _ (by decide +kernel) (by decide +kernel)
end RP
namespace R
open PySem PySem.Spec L2
def toldX : Exn → Option Str
  | ⟨x, none⟩ => nmT x
  | ⟨x, some n⟩ => if x = ("TooMany" : Str) ∧ 0 ≤ n ∧ n ≤ 1000 then some (toldM n) else none
@[simp ↓] theorem w_try {Pv : Rv → Rho → Prop} {E : Exn → Rho → Prop} {ρ : Rho} {f : Rho → Res Rv} : Pst Pv E (dTry f ρ) = Pst (fun r ρ1 => onS (frz r ρ1) fun x => Pv (.dat (.tuple [.str "told", x.1])) x.2) (fun x ρ1 => onS (toldX x) fun z => Pv (.dat (.str z)) ρ1) (f ρ) := by
  unfold dTry
  cases f ρ with
  | stuck => rfl
  | ok r ρ1 =>
    simp only [w_ok]
    cases frz r ρ1 with
    | none => rfl
    | some y => rfl
  | err x ρ1 =>
    obtain ⟨nm, pl⟩ := x
    cases pl with
    | some n =>
      simp only [w_er, toldX]
      by_cases h : nm = ("TooMany" : Str) ∧ 0 ≤ n ∧ n ≤ 1000
      · rw [if_pos h, if_pos h]; rfl
      · rw [if_neg h, if_neg h]; rfl
    | none =>
      simp only [w_er, toldX]
      cases nmT nm with
      | none => rfl
      | some z => rfl
@[simp] theorem toldX_n {x : Str} : toldX ⟨x, none⟩ = nmT x := rfl
theorem toldX_40 : toldX ⟨"TooMany", some 40⟩ = some "Many+40" := by decide +kernel
theorem toldX_10 : toldX ⟨"TooMany", some 10⟩ = some "Many+10" := by decide +kernel
@[simp] theorem nm_Undo : nmT "NothingToUndo" = some "Undo+" := by decide +kernel
@[simp] theorem nm_Schedule : nmT "InvalidSchedule" = some "Schedule+" := by decide +kernel
@[simp] theorem nm_Trips : nmT "InvalidTrips" = some "Trips+" := by decide +kernel
@[simp] theorem nm_Trip : nmT "InvalidTrip" = some "Trip+" := by decide +kernel
@[simp] theorem nm_Time : nmT "InvalidTime" = some "Time+" := by decide +kernel
@[simp] theorem nm_Index : nmT "InvalidIndex" = some "Index+" := by decide +kernel
@[simp] theorem nm_Amount : nmT "InvalidAmount" = some "Amount+" := by decide +kernel
@[simp] theorem nm_Range : nmT "InvalidRange" = some "Range+" := by decide +kernel
@[simp] theorem nm_Length : nmT "InvalidLength" = some "Length+" := by decide +kernel
@[simp] theorem nm_Period : nmT "InvalidPeriod" = some "Period+" := by decide +kernel
@[simp] theorem nm_Count : nmT "InvalidCount" = some "Count+" := by decide +kernel
theorem sh_str {x : Str} (h : PyData.canLay0 (.str x) = true) : SeqAt.shaped (.str x) = true := sh_pl (by simpa [pl] using h)
theorem gNe_ss {x : Str} (h : PyData.canLay0 (.str x) = true) : gNe (.str x) (.str x) = some (.dat (.bool false)) := by
  rw [gNe_of (sh_str h) (sh_str h)]; simp [PyData.eqv]
end R
namespace RP
open PySem PySem.Spec L2 R RC
theorem need_schedule_err {n : Nat} (d : PyData) (hd : pl (n + 2) d = true) (h : schD d = false) : g_need_schedule [.dat d] = .err ⟨"InvalidSchedule", none⟩ [] := by
  apply fun_er
  simp [b_need_schedule, is_schedule_any d hd, h]
theorem need_trips_err {n : Nat} (d : PyData) (hd : pl (n + 2) d = true) (h : trpD d = false) : g_need_trips [.dat d] = .err ⟨"InvalidTrips", none⟩ [] := by
  apply fun_er
  simp [b_need_trips, are_trips_any d hd, h]
theorem need_both_err1 {n : Nat} (d e : PyData) (hd : pl (n + 2) d = true) (h : schD d = false) : g_need_both [.dat d, .dat e] = .err ⟨"InvalidSchedule", none⟩ [] := by
  apply fun_er
  simp [b_need_both, need_schedule_err d hd h]
theorem need_both_err2 {n : Nat} (s : List (Int × Int)) (hs : schB s = true) (e : PyData) (hd : pl (n + 2) e = true) (h : trpD e = false) : g_need_both [.dat (.tuple (prs s)), .dat e] = .err ⟨"InvalidTrips", none⟩ [] := by
  apply fun_er
  simp [b_need_both, need_schedule_ok s hs, need_trips_err e hd h]
end RP
namespace Lk13
open PySem PySem.Spec L2 R RC
open PyProof.Rows hiding St
def top (i : Nat) : Stmt := PySem.Challenge.pw_rollcap_k13_whole_useless_kinds.main.body.getD i (.Pass ⟨0, 0, 0, 0⟩)
structure Facts (K : PySem.W.Frag) (mg : Str → Option Value) : Prop where
  b_ValueError : mg "ValueError" = none
  b_all : mg "all" = none
  b_bool : mg "bool" = none
  b_enumerate : mg "enumerate" = none
  b_int : mg "int" = none
  b_isinstance : mg "isinstance" = none
  b_len : mg "len" = none
  b_list : mg "list" = none
  b_max : mg "max" = none
  b_min : mg "min" = none
  b_range : mg "range" = none
  b_set : mg "set" = none
  b_sorted : mg "sorted" = none
  b_str : mg "str" = none
  b_sum : mg "sum" = none
  b_tuple : mg "tuple" = none
  b_zip : mg "zip" = none
  c_HIGHEST : ∃ t, mg "HIGHEST" = some (.int 1000000 t)
  c_LONGEST : ∃ t, mg "LONGEST" = some (.int 400 t)
  c_MOST_KINDS : ∃ t, mg "MOST_KINDS" = some (.int 5 t)
  r_InvalidSchedule : RCls K mg "InvalidSchedule"
  cls : ClsA K mg
section
variable [Tb] {P : Program} {w : World} {K : PySem.W.Frag} {mg : Str → Option Value} {base : Heap}
/-! _law_name_of -/
def N__law_name_of : List Str := ["e", "matching", "words", "word", "good"]
omit [Tb] in
theorem nd__law_name_of : N__law_name_of.Nodup := by decide +kernel
omit [Tb] in
theorem sc__law_name_of : FnScope N__law_name_of ["e"] (defScope (top 31)) := ⟨rfl, rfl, rfl, nd__law_name_of, rfl, by decide +kernel, by decide +kernel⟩
omit [Tb] in
theorem bd__law_name_of : BindC "_law_name_of" (top 31) ["e"] := fun _ _ _ _ _ _ us hl => match us, hl with | [_], _ => rfl
theorem body__law_name_of (B : Facts K mg) (f : Addr) (cdv : Value) (A : Around) (outer : List Env) (s : Shared) (H : Hp) (p : Addr × Obj) (C : Addr) (dd : Option Addr) (bs : Str → Bool) (T : NmF K mg C bs) (hz : L2N.Zn (.ref C) dd p.2) (hd : ∀ d, dd = some d → ∃ fs, (d, fs) ∈ Tb.xds) (h1 : L2H.Hot1 A p) :
    SSs (L2H.cxH L2.CX0 P w K mg base N__law_name_of "_law_name_of" (defScope (top 31)) f cdv A outer s H L2.E0 p) W0 (defBody (top 31)) (b__law_name_of p.1 bs) := by
  have hp : (p.1, p.2) ∈ (L2H.cxH L2.CX0 P w K mg base N__law_name_of "_law_name_of" (defScope (top 31)) f cdv A outer s H L2.E0 p).pn := List.mem_singleton.mpr rfl
  have hf : ∃ vs, p.2.data = .fields vs := by obtain ⟨_, vs, e, _⟩ := h1; exact ⟨vs, e⟩
  have hot := hot_of (X := L2H.cxH L2.CX0 P w K mg base N__law_name_of "_law_name_of" (defScope (top 31)) f cdv A outer s H L2.E0 p) (p := p) h1 (List.mem_singleton.mpr rfl)
  obtain ⟨C_InvalidSchedule, m_InvalidSchedule, k_InvalidSchedule⟩ := T.own "InvalidSchedule" (by decide +kernel)
  obtain ⟨C_InvalidTrips, m_InvalidTrips, k_InvalidTrips⟩ := T.own "InvalidTrips" (by decide +kernel)
  obtain ⟨C_InvalidTrip, m_InvalidTrip, k_InvalidTrip⟩ := T.own "InvalidTrip" (by decide +kernel)
  obtain ⟨C_InvalidTime, m_InvalidTime, k_InvalidTime⟩ := T.own "InvalidTime" (by decide +kernel)
  obtain ⟨C_InvalidIndex, m_InvalidIndex, k_InvalidIndex⟩ := T.own "InvalidIndex" (by decide +kernel)
  obtain ⟨C_InvalidAmount, m_InvalidAmount, k_InvalidAmount⟩ := T.own "InvalidAmount" (by decide +kernel)
  obtain ⟨C_InvalidRange, m_InvalidRange, k_InvalidRange⟩ := T.own "InvalidRange" (by decide +kernel)
  obtain ⟨C_InvalidLength, m_InvalidLength, k_InvalidLength⟩ := T.own "InvalidLength" (by decide +kernel)
  obtain ⟨C_InvalidPeriod, m_InvalidPeriod, k_InvalidPeriod⟩ := T.own "InvalidPeriod" (by decide +kernel)
  obtain ⟨C_InvalidCount, m_InvalidCount, k_InvalidCount⟩ := T.own "InvalidCount" (by decide +kernel)
  obtain ⟨C_NothingToUndo, m_NothingToUndo, k_NothingToUndo⟩ := T.own "NothingToUndo" (by decide +kernel)
  obtain ⟨C_TooMany, m_TooMany, k_TooMany⟩ := T.own "TooMany" (by decide +kernel)
  exact (sss_cons (ss_set (m := false) (i := 1) nd__law_name_of rfl (by first | exact Or.inl rfl | exact Or.inr rfl) (se_lst (sa_cons (se_isE T.T hp hz.zc hd hf (pv 0) (cV := .ref C_InvalidSchedule) (fun _ q => q) (pe_glob rfl m_InvalidSchedule rfl) k_InvalidSchedule rfl B.b_isinstance) (sa_cons (se_isE T.T hp hz.zc hd hf (pv 0) (cV := .ref C_InvalidTrips) (fun _ q => q) (pe_glob rfl m_InvalidTrips rfl) k_InvalidTrips rfl B.b_isinstance) (sa_cons (se_isE T.T hp hz.zc hd hf (pv 0) (cV := .ref C_InvalidTrip) (fun _ q => q) (pe_glob rfl m_InvalidTrip rfl) k_InvalidTrip rfl B.b_isinstance) sa_nil)))))
  (sss_cons (ss_set (m := false) (i := 1) nd__law_name_of rfl (by first | exact Or.inl rfl | exact Or.inr rfl) (se_op op_addA ok_add (se_pv (pv 1)) (se_lst (sa_cons (se_isE T.T hp hz.zc hd hf (pv 0) (cV := .ref C_InvalidTime) (fun _ q => q) (pe_glob rfl m_InvalidTime rfl) k_InvalidTime rfl B.b_isinstance) (sa_cons (se_isE T.T hp hz.zc hd hf (pv 0) (cV := .ref C_InvalidIndex) (fun _ q => q) (pe_glob rfl m_InvalidIndex rfl) k_InvalidIndex rfl B.b_isinstance) (sa_cons (se_isE T.T hp hz.zc hd hf (pv 0) (cV := .ref C_InvalidAmount) (fun _ q => q) (pe_glob rfl m_InvalidAmount rfl) k_InvalidAmount rfl B.b_isinstance) sa_nil))))))
  (sss_cons (ss_set (m := false) (i := 1) nd__law_name_of rfl (by first | exact Or.inl rfl | exact Or.inr rfl) (se_op op_addA ok_add (se_pv (pv 1)) (se_lst (sa_cons (se_isE T.T hp hz.zc hd hf (pv 0) (cV := .ref C_InvalidRange) (fun _ q => q) (pe_glob rfl m_InvalidRange rfl) k_InvalidRange rfl B.b_isinstance) (sa_cons (se_isE T.T hp hz.zc hd hf (pv 0) (cV := .ref C_InvalidLength) (fun _ q => q) (pe_glob rfl m_InvalidLength rfl) k_InvalidLength rfl B.b_isinstance) (sa_cons (se_isE T.T hp hz.zc hd hf (pv 0) (cV := .ref C_InvalidPeriod) (fun _ q => q) (pe_glob rfl m_InvalidPeriod rfl) k_InvalidPeriod rfl B.b_isinstance) sa_nil))))))
  (sss_cons (ss_set (m := false) (i := 1) nd__law_name_of rfl (by first | exact Or.inl rfl | exact Or.inr rfl) (se_op op_addA ok_add (se_pv (pv 1)) (se_lst (sa_cons (se_isE T.T hp hz.zc hd hf (pv 0) (cV := .ref C_InvalidCount) (fun _ q => q) (pe_glob rfl m_InvalidCount rfl) k_InvalidCount rfl B.b_isinstance) (sa_cons (se_isE T.T hp hz.zc hd hf (pv 0) (cV := .ref C_NothingToUndo) (fun _ q => q) (pe_glob rfl m_NothingToUndo rfl) k_NothingToUndo rfl B.b_isinstance) (sa_cons (se_isE T.T hp hz.zc hd hf (pv 0) (cV := .ref C_TooMany) (fun _ q => q) (pe_glob rfl m_TooMany rfl) k_TooMany rfl B.b_isinstance) sa_nil))))))
  (sss_cons (ss_set (m := false) (i := 2) nd__law_name_of rfl (by first | exact Or.inl rfl | exact Or.inr rfl) (se_lst (sa_cons se_str (sa_cons se_str (sa_cons se_str (sa_cons se_str (sa_cons se_str (sa_cons se_str (sa_cons se_str (sa_cons se_str (sa_cons se_str sa_nil)))))))))))
  (sss_cons (ss_set (m := false) (i := 2) nd__law_name_of rfl (by first | exact Or.inl rfl | exact Or.inr rfl) (se_op op_addA ok_add (se_pv (pv 2)) (se_lst (sa_cons se_str (sa_cons se_str (sa_cons se_str sa_nil))))))
  (sss_one (ss_ret (se_join (se_lcX (own := [("word", 3), ("good", 4)]) hot nd__law_name_of rfl B.b_zip (sa_cons (se_op op_addA ok_add (se_pv (pv 2)) (se_lst (sa_cons se_str sa_nil))) (sa_cons (se_op op_addA ok_add (se_pv (pv 1)) (se_lst (sa_cons (se_isE T.T hp hz.zc hd hf (pv 0) (cV := .ty "ValueError") (fun _ q => q) (pe_bltn rfl B.b_ValueError bt_ValueError rfl) T.ve rfl B.b_isinstance) sa_nil))) sa_nil)) (blkOk_by (N := N__law_name_of) (sc := defScope (top 31)) (by decide +kernel)) (by decide) (fun _ _ _ _ _ hx => (sg_tupX hx (sgs_cons (sg_name nd__law_name_of rfl (by first | exact Or.inl rfl | exact Or.inr rfl)) (sgs_cons (sg_name nd__law_name_of rfl (by first | exact Or.inl rfl | exact Or.inr rfl)) sgs_nil)))) (fun _ _ _ _ _ => (sts_one (st_val (se_pv (pv 4))))) (fun _ _ _ _ _ => (se_pv (pv 3)))))))))))))
theorem nm_at (D : FnDef K mg "_law_name_of" (top 31)) (B : Facts K mg) : NameAt P w K mg base 1 := name_at (k := 0) D sc__law_name_of rfl bd__law_name_of B.cls (fun T' => letI : Tb := T'; body__law_name_of B) RP.name_val
/-! _law_try -/
omit [Tb] in
theorem sc__law_try : FnScope NTry ["door"] (defScope (top 32)) := ⟨rfl, rfl, rfl, by decide +kernel, rfl, by decide +kernel, by decide +kernel⟩
omit [Tb] in
theorem bd__law_try : BindC "_law_try" (top 32) ["door"] := fun _ _ _ _ _ _ us hl => match us, hl with | [_], _ => rfl
/-! _law_deck -/
def N__law_deck : List Str := ["cell", "turn"]
omit [Tb] in
theorem nd__law_deck : N__law_deck.Nodup := by decide +kernel
omit [Tb] in
theorem sc__law_deck : FnScope N__law_deck ["cell", "turn"] (defScope (top 28)) := ⟨rfl, rfl, rfl, nd__law_deck, rfl, by decide +kernel, by decide +kernel⟩
omit [Tb] in
theorem bd__law_deck : BindC "_law_deck" (top 28) ["cell", "turn"] := fun _ _ _ _ _ _ us hl => match us, hl with | [_, _], _ => rfl
theorem body__law_deck (B : Facts K mg)  (f : Addr) (cdv : Value) (A : Around) (outer : List Env) (s : Shared) (H : Hp) (E : XK) (hr : Room 0 (A.deeper (envOfC "_law_deck" (defScope (top 28)) s.heap.objs.size f cdv))) :
    SSs (bX P w K mg base N__law_deck "_law_deck" (top 28) f cdv A outer s H E) (WofE E) (defBody (top 28)) b__law_deck := by
  have tk : L2N.Takes (bX P w K mg base N__law_deck "_law_deck" (top 28) f cdv A outer s H E) (WofE E) := L2N.takes_of rfl rfl rfl rfl
  have po : PassesOwn (model P w) (A.deeper (envOfC "_law_deck" (defScope (top 28)) s.heap.objs.size f cdv)) (bX P w K mg base N__law_deck "_law_deck" (top 28) f cdv A outer s H E).env (bX P w K mg base N__law_deck "_law_deck" (top 28) f cdv A outer s H E).xe := passes_of rfl
  exact (sss_cons (ss_if (st_cmp op_ge ok_ge (se_pv (pv 0)) (se_op op_pow ok_pow se_int se_int) rfl)
  (sss_one (ss_ret (se_lst (sa_cons (se_op op_sub ok_sub (se_pv (pv 0)) (se_op op_pow ok_pow se_int se_int)) (sa_cons (se_op op_mod ok_mod (se_pv (pv 0)) se_int) (sa_cons (se_pv (pv 1)) sa_nil))))))
  ss_nil)
  (sss_one (ss_ret (se_lst (sa_cons se_int (sa_cons (se_op op_mod ok_mod (se_pv (pv 0)) se_int) (sa_cons (se_pv (pv 1)) sa_nil)))))))
theorem at__law_deck (D : FnDef K mg "_law_deck" (top 28)) (B : Facts K mg)  : FnAt P w K mg base "_law_deck" ["cell", "turn"] 1 g__law_deck := fn_at D sc__law_deck rfl bd__law_deck (body__law_deck B )
/-! _law_pick -/
def N__law_pick : List Str := ["deck", "limit", "number", "found"]
omit [Tb] in
theorem nd__law_pick : N__law_pick.Nodup := by decide +kernel
omit [Tb] in
theorem sc__law_pick : FnScope N__law_pick ["deck", "limit"] (defScope (top 29)) := ⟨rfl, rfl, rfl, nd__law_pick, rfl, by decide +kernel, by decide +kernel⟩
omit [Tb] in
theorem bd__law_pick : BindC "_law_pick" (top 29) ["deck", "limit"] := fun _ _ _ _ _ _ us hl => match us, hl with | [_, _], _ => rfl
theorem body__law_pick (B : Facts K mg)  (f : Addr) (cdv : Value) (A : Around) (outer : List Env) (s : Shared) (H : Hp) (E : XK) (hr : Room 0 (A.deeper (envOfC "_law_pick" (defScope (top 29)) s.heap.objs.size f cdv))) :
    SSs (bX P w K mg base N__law_pick "_law_pick" (top 29) f cdv A outer s H E) (WofE E) (defBody (top 29)) b__law_pick := by
  have tk : L2N.Takes (bX P w K mg base N__law_pick "_law_pick" (top 29) f cdv A outer s H E) (WofE E) := L2N.takes_of rfl rfl rfl rfl
  have po : PassesOwn (model P w) (A.deeper (envOfC "_law_pick" (defScope (top 29)) s.heap.objs.size f cdv)) (bX P w K mg base N__law_pick "_law_pick" (top 29) f cdv A outer s H E).env (bX P w K mg base N__law_pick "_law_pick" (top 29) f cdv A outer s H E).xe := passes_of rfl
  exact (sss_cons (ss_if (st_cmp op_gt ok_gt (se_ix (se_pv (pv 0)) se_int fun _ _ => rfl) se_int rfl)
  (sss_cons (ss_set (m := false) (i := 3) nd__law_pick rfl (by first | exact Or.inl rfl | exact Or.inr rfl) (se_op op_mod ok_mod (se_ix (se_pv (pv 0)) se_int fun _ _ => rfl) (se_pv (pv 1))))
  (sss_cons (ss_setIx (pv 0) se_int (se_op op_fdivW ok_fdiv (se_ix (se_pv (pv 0)) se_int fun _ _ => rfl) (se_pv (pv 1))))
  (sss_one (ss_ret (se_pv (pv 3))))))
  ss_nil)
  (sss_cons (ss_setIx (pv 0) se_int (se_op op_addA ok_add (se_ix (se_pv (pv 0)) se_int fun _ _ => rfl) se_int))
  (sss_cons (ss_set (m := false) (i := 2) nd__law_pick rfl (by first | exact Or.inl rfl | exact Or.inr rfl) (se_op op_mod ok_mod (se_op op_pow ok_pow (se_op op_addA ok_add (se_ix (se_pv (pv 0)) se_int fun _ _ => rfl) (se_op op_mulA ok_mul se_int (se_ix (se_pv (pv 0)) se_int fun _ _ => rfl))) se_int) se_int))
  (sss_cons (ss_set (m := false) (i := 3) nd__law_pick rfl (by first | exact Or.inl rfl | exact Or.inr rfl) (se_op op_fdivW ok_fdiv (se_op op_mod ok_mod (se_op op_pow ok_pow (se_op op_addA ok_add (se_pv (pv 2)) (se_op op_mulA ok_mul se_int (se_ix (se_pv (pv 0)) se_int fun _ _ => rfl))) se_int) se_int) se_int))
  (sss_cons (ss_if (st_cmp op_gt ok_gt (se_pv (pv 1)) se_int rfl)
  (sss_one (ss_ret (se_op op_mod ok_mod (se_op op_addA ok_add (se_op op_mulA ok_mul (se_pv (pv 3)) se_int) (se_pv (pv 2))) (se_pv (pv 1)))))
  ss_nil)
  (sss_one (ss_ret (se_op op_mod ok_mod (se_pv (pv 3)) (se_pv (pv 1))))))))))
theorem at__law_pick (D : FnDef K mg "_law_pick" (top 29)) (B : Facts K mg)  : FnAt P w K mg base "_law_pick" ["deck", "limit"] 1 g__law_pick := fn_at D sc__law_pick rfl bd__law_pick (body__law_pick B )
/-! _law_some -/
def N__law_some : List Str := ["deck", "low", "high", "many", "found", "turn"]
omit [Tb] in
theorem nd__law_some : N__law_some.Nodup := by decide +kernel
omit [Tb] in
theorem sc__law_some : FnScope N__law_some ["deck", "low", "high", "many"] (defScope (top 36)) := ⟨rfl, rfl, rfl, nd__law_some, rfl, by decide +kernel, by decide +kernel⟩
omit [Tb] in
theorem bd__law_some : BindC "_law_some" (top 36) ["deck", "low", "high", "many"] := fun _ _ _ _ _ _ us hl => match us, hl with | [_, _, _, _], _ => rfl
theorem body__law_some (B : Facts K mg) (h__law_pick : FnAt P w K mg base "_law_pick" ["deck", "limit"] 1 g__law_pick) (f : Addr) (cdv : Value) (A : Around) (outer : List Env) (s : Shared) (H : Hp) (E : XK) (hr : Room 1 (A.deeper (envOfC "_law_some" (defScope (top 36)) s.heap.objs.size f cdv))) :
    SSs (bX P w K mg base N__law_some "_law_some" (top 36) f cdv A outer s H E) (WofE E) (defBody (top 36)) b__law_some := by
  have tk : L2N.Takes (bX P w K mg base N__law_some "_law_some" (top 36) f cdv A outer s H E) (WofE E) := L2N.takes_of rfl rfl rfl rfl
  have po : PassesOwn (model P w) (A.deeper (envOfC "_law_some" (defScope (top 36)) s.heap.objs.size f cdv)) (bX P w K mg base N__law_some "_law_some" (top 36) f cdv A outer s H E).env (bX P w K mg base N__law_some "_law_some" (top 36) f cdv A outer s H E).xe := passes_of rfl
  exact (sss_cons (ss_set (m := true) (i := 4) nd__law_some rfl (by first | exact Or.inl rfl | exact Or.inr rfl) se_newK)
  (sss_cons (ss_for po rfl (si_range1 rfl B.b_range (sa_cons (se_op op_mulA ok_mul se_int (se_pv (pv 3))) sa_nil)) (sg_name nd__law_some rfl (by first | exact Or.inl rfl | exact Or.inr rfl))
  (sss_one (ss_if (st_cmp (op_ltA hr.units0) ok_lt (se_lenK rfl B.b_len (pv 4)) (se_pv (pv 3)) rfl)
  (sss_one (ss_putK (hu_of hr) (pv 4) (se_op op_addA ok_add (se_pv (pv 1)) (se_fn h__law_pick hr rfl tk (sa_cons (se_pv (pv 0)) (sa_cons (se_op op_addA ok_add (se_op op_sub ok_sub (se_pv (pv 2)) (se_pv (pv 1))) se_int) sa_nil)) (len_cons (len_cons len_nil)))) se_bl))
  ss_nil)))
  (sss_one (ss_ret (se_sortK rfl rfl B.b_sorted (pv 4))))))
theorem at__law_some (D : FnDef K mg "_law_some" (top 36)) (B : Facts K mg) (h__law_pick : FnAt P w K mg base "_law_pick" ["deck", "limit"] 1 g__law_pick) : FnAt P w K mg base "_law_some" ["deck", "low", "high", "many"] 2 g__law_some := fn_at D sc__law_some rfl bd__law_some (body__law_some B h__law_pick)
/-! _law_one -/
def N__law_one : List Str := ["deck", "some"]
omit [Tb] in
theorem nd__law_one : N__law_one.Nodup := by decide +kernel
omit [Tb] in
theorem sc__law_one : FnScope N__law_one ["deck", "some"] (defScope (top 33)) := ⟨rfl, rfl, rfl, nd__law_one, rfl, by decide +kernel, by decide +kernel⟩
omit [Tb] in
theorem bd__law_one : BindC "_law_one" (top 33) ["deck", "some"] := fun _ _ _ _ _ _ us hl => match us, hl with | [_, _], _ => rfl
theorem body__law_one (B : Facts K mg) (h__law_pick : FnAt P w K mg base "_law_pick" ["deck", "limit"] 1 g__law_pick) (f : Addr) (cdv : Value) (A : Around) (outer : List Env) (s : Shared) (H : Hp) (E : XK) (hr : Room 1 (A.deeper (envOfC "_law_one" (defScope (top 33)) s.heap.objs.size f cdv))) :
    SSs (bX P w K mg base N__law_one "_law_one" (top 33) f cdv A outer s H E) (WofE E) (defBody (top 33)) b__law_one := by
  have tk : L2N.Takes (bX P w K mg base N__law_one "_law_one" (top 33) f cdv A outer s H E) (WofE E) := L2N.takes_of rfl rfl rfl rfl
  have po : PassesOwn (model P w) (A.deeper (envOfC "_law_one" (defScope (top 33)) s.heap.objs.size f cdv)) (bX P w K mg base N__law_one "_law_one" (top 33) f cdv A outer s H E).env (bX P w K mg base N__law_one "_law_one" (top 33) f cdv A outer s H E).xe := passes_of rfl
  exact (sss_one (ss_ret (se_ix (se_pv (pv 1)) (se_fn h__law_pick hr rfl tk (sa_cons (se_pv (pv 0)) (sa_cons (se_len rfl B.b_len (sa_cons (se_pv (pv 1)) sa_nil)) sa_nil)) (len_cons (len_cons len_nil))) fun _ _ => rfl)))
theorem at__law_one (D : FnDef K mg "_law_one" (top 33)) (B : Facts K mg) (h__law_pick : FnAt P w K mg base "_law_pick" ["deck", "limit"] 1 g__law_pick) : FnAt P w K mg base "_law_one" ["deck", "some"] 2 g__law_one := fn_at D sc__law_one rfl bd__law_one (body__law_one B h__law_pick)
/-! _law_schedule -/
def N__law_schedule : List Str := ["deck", "many", "longest", "found", "length", "top"]
omit [Tb] in
theorem nd__law_schedule : N__law_schedule.Nodup := by decide +kernel
omit [Tb] in
theorem sc__law_schedule : FnScope N__law_schedule ["deck", "many", "longest"] (defScope (top 37)) := ⟨rfl, rfl, rfl, nd__law_schedule, rfl, by decide +kernel, by decide +kernel⟩
omit [Tb] in
theorem bd__law_schedule : BindC "_law_schedule" (top 37) ["deck", "many", "longest"] := fun _ _ _ _ _ _ us hl => match us, hl with | [_, _, _], _ => rfl
theorem body__law_schedule (B : Facts K mg) (h__law_pick : FnAt P w K mg base "_law_pick" ["deck", "limit"] 1 g__law_pick) (h__law_some : FnAt P w K mg base "_law_some" ["deck", "low", "high", "many"] 2 g__law_some) (h__law_one : FnAt P w K mg base "_law_one" ["deck", "some"] 2 g__law_one) (f : Addr) (cdv : Value) (A : Around) (outer : List Env) (s : Shared) (H : Hp) (E : XK) (hr : Room 2 (A.deeper (envOfC "_law_schedule" (defScope (top 37)) s.heap.objs.size f cdv))) :
    SSs (bX P w K mg base N__law_schedule "_law_schedule" (top 37) f cdv A outer s H E) (WofE E) (defBody (top 37)) b__law_schedule := by
  have tk : L2N.Takes (bX P w K mg base N__law_schedule "_law_schedule" (top 37) f cdv A outer s H E) (WofE E) := L2N.takes_of rfl rfl rfl rfl
  have po : PassesOwn (model P w) (A.deeper (envOfC "_law_schedule" (defScope (top 37)) s.heap.objs.size f cdv)) (bX P w K mg base N__law_schedule "_law_schedule" (top 37) f cdv A outer s H E).env (bX P w K mg base N__law_schedule "_law_schedule" (top 37) f cdv A outer s H E).xe := passes_of rfl
  exact (sss_cons (ss_set (m := true) (i := 3) nd__law_schedule rfl (by first | exact Or.inl rfl | exact Or.inr rfl) (se_lst sa_nil))
  (sss_cons (ss_for po rfl (si_seq (se_fn h__law_some hr rfl tk (sa_cons (se_pv (pv 0)) (sa_cons se_int (sa_cons (se_pv (pv 2)) (sa_cons (se_op op_addA ok_add se_int (se_fn h__law_pick hr rfl tk (sa_cons (se_pv (pv 0)) (sa_cons (se_pv (pv 1)) sa_nil)) (len_cons (len_cons len_nil)))) sa_nil)))) (len_cons (len_cons (len_cons (len_cons len_nil)))))) (sg_name nd__law_schedule rfl (by first | exact Or.inl rfl | exact Or.inr rfl))
  (sss_cons (ss_set (m := false) (i := 5) nd__law_schedule rfl (by first | exact Or.inl rfl | exact Or.inr rfl) (se_fn h__law_one hr rfl tk (sa_cons (se_pv (pv 0)) (sa_cons (se_lst (sa_cons se_int (sa_cons (se_op op_addA ok_add (se_op op_mulA ok_mul se_int (se_pv (pv 4))) se_int) (sa_cons se_int (sa_cons (se_op op_pow ok_pow se_int se_int) sa_nil))))) sa_nil)) (len_cons (len_cons len_nil))))
  (sss_one (ss_app (pv 3) (se_tup (sa_cons (se_pv (pv 4)) (sa_cons (se_min rfl rfl B.b_min (sa_cons (se_op op_pow ok_pow se_int se_int) (sa_cons (se_op op_addA ok_add se_int (se_fn h__law_pick hr rfl tk (sa_cons (se_pv (pv 0)) (sa_cons (se_pv (pv 5)) sa_nil)) (len_cons (len_cons len_nil)))) sa_nil))) sa_nil))) fun ho ha => pe_bm PySem.F.plainAttrs_list PySem.F.slot_list_append PySem.F.type_list_append mt_append ho ha))))
  (sss_one (ss_ret (se_tuple rfl B.b_tuple (sa_cons (se_pv (pv 3)) sa_nil))))))
theorem at__law_schedule (D : FnDef K mg "_law_schedule" (top 37)) (B : Facts K mg) (h__law_pick : FnAt P w K mg base "_law_pick" ["deck", "limit"] 1 g__law_pick) (h__law_some : FnAt P w K mg base "_law_some" ["deck", "low", "high", "many"] 2 g__law_some) (h__law_one : FnAt P w K mg base "_law_one" ["deck", "some"] 2 g__law_one) : FnAt P w K mg base "_law_schedule" ["deck", "many", "longest"] 3 g__law_schedule := fn_at D sc__law_schedule rfl bd__law_schedule (body__law_schedule B h__law_pick h__law_some h__law_one)
/-! is_from -/
def N_is_from : List Str := ["value", "low", "high"]
omit [Tb] in
theorem nd_is_from : N_is_from.Nodup := by decide +kernel
omit [Tb] in
theorem sc_is_from : FnScope N_is_from ["value", "low", "high"] (defScope (top 18)) := ⟨rfl, rfl, rfl, nd_is_from, rfl, by decide +kernel, by decide +kernel⟩
omit [Tb] in
theorem bd_is_from : BindC "is_from" (top 18) ["value", "low", "high"] := fun _ _ _ _ _ _ us hl => match us, hl with | [_, _, _], _ => rfl
theorem body_is_from (B : Facts K mg)  (f : Addr) (cdv : Value) (A : Around) (outer : List Env) (s : Shared) (H : Hp) (E : XK) (hr : Room 0 (A.deeper (envOfC "is_from" (defScope (top 18)) s.heap.objs.size f cdv))) :
    SSs (bX P w K mg base N_is_from "is_from" (top 18) f cdv A outer s H E) (WofE E) (defBody (top 18)) b_is_from := by
  have tk : L2N.Takes (bX P w K mg base N_is_from "is_from" (top 18) f cdv A outer s H E) (WofE E) := L2N.takes_of rfl rfl rfl rfl
  have po : PassesOwn (model P w) (A.deeper (envOfC "is_from" (defScope (top 18)) s.heap.objs.size f cdv)) (bX P w K mg base N_is_from "is_from" (top 18) f cdv A outer s H E).env (bX P w K mg base N_is_from "is_from" (top 18) f cdv A outer s H E).xe := passes_of rfl
  exact (sss_one (ss_ret (se_v (sv_and (sv_of (se_isi (y := "int") rfl B.b_isinstance bt_isinstance rfl B.b_int bt_int tb_int (se_pv (pv 0)))) (sv_and (sv_not (sv_of (se_isi (y := "bool") rfl B.b_isinstance bt_isinstance rfl B.b_bool bt_bool tb_bool (se_pv (pv 0))))) (sv_one (sv_of (se_chain op_le op_le ok_le ok_le (se_pv (pv 1)) (se_pv (pv 0)) (se_pv (pv 2))))))))))
theorem at_is_from (D : FnDef K mg "is_from" (top 18)) (B : Facts K mg)  : FnAt P w K mg base "is_from" ["value", "low", "high"] 1 g_is_from := fn_at D sc_is_from rfl bd_is_from (body_is_from B )
/-! is_pair -/
def N_is_pair : List Str := ["value", "first", "second"]
omit [Tb] in
theorem nd_is_pair : N_is_pair.Nodup := by decide +kernel
omit [Tb] in
theorem sc_is_pair : FnScope N_is_pair ["value", "first", "second"] (defScope (top 19)) := ⟨rfl, rfl, rfl, nd_is_pair, rfl, by decide +kernel, by decide +kernel⟩
omit [Tb] in
theorem bd_is_pair : BindC "is_pair" (top 19) ["value", "first", "second"] := fun _ _ _ _ _ _ us hl => match us, hl with | [_, _, _], _ => rfl
theorem body_is_pair (B : Facts K mg) (h_is_from : FnAt P w K mg base "is_from" ["value", "low", "high"] 1 g_is_from) (f : Addr) (cdv : Value) (A : Around) (outer : List Env) (s : Shared) (H : Hp) (E : XK) (hr : Room 1 (A.deeper (envOfC "is_pair" (defScope (top 19)) s.heap.objs.size f cdv))) :
    SSs (bX P w K mg base N_is_pair "is_pair" (top 19) f cdv A outer s H E) (WofE E) (defBody (top 19)) b_is_pair := by
  have tk : L2N.Takes (bX P w K mg base N_is_pair "is_pair" (top 19) f cdv A outer s H E) (WofE E) := L2N.takes_of rfl rfl rfl rfl
  have po : PassesOwn (model P w) (A.deeper (envOfC "is_pair" (defScope (top 19)) s.heap.objs.size f cdv)) (bX P w K mg base N_is_pair "is_pair" (top 19) f cdv A outer s H E).env (bX P w K mg base N_is_pair "is_pair" (top 19) f cdv A outer s H E).xe := passes_of rfl
  exact (sss_cons (ss_if (st_w (sw_or (st_notD (st_val (se_isi (y := "tuple") rfl B.b_isinstance bt_isinstance rfl B.b_tuple bt_tuple tb_tuple (se_pv (pv 0))))) (sw_or1 (st_cmp (op_neD hr.units) ok_ne (se_len rfl B.b_len (sa_cons (se_pv (pv 0)) sa_nil)) se_int rfl))))
  (sss_one (ss_ret se_bl))
  ss_nil)
  (sss_one (ss_ret (se_v (sv_and (sv_of (se_fn h_is_from hr rfl tk (sa_cons (se_ix (se_pv (pv 0)) se_int fun _ _ => rfl) (sa_cons (se_ix (se_pv (pv 1)) se_int fun _ _ => rfl) (sa_cons (se_ix (se_pv (pv 1)) se_int fun _ _ => rfl) sa_nil))) (len_cons (len_cons (len_cons len_nil))))) (sv_one (sv_of (se_fn h_is_from hr rfl tk (sa_cons (se_ix (se_pv (pv 0)) se_int fun _ _ => rfl) (sa_cons (se_ix (se_pv (pv 2)) se_int fun _ _ => rfl) (sa_cons (se_ix (se_pv (pv 2)) se_int fun _ _ => rfl) sa_nil))) (len_cons (len_cons (len_cons len_nil)))))))))))
theorem at_is_pair (D : FnDef K mg "is_pair" (top 19)) (B : Facts K mg) (h_is_from : FnAt P w K mg base "is_from" ["value", "low", "high"] 1 g_is_from) : FnAt P w K mg base "is_pair" ["value", "first", "second"] 2 g_is_pair := fn_at D sc_is_pair rfl bd_is_pair (body_is_pair B h_is_from)
/-! is_schedule -/
def N_is_schedule : List Str := ["value", "one", "other"]
omit [Tb] in
theorem nd_is_schedule : N_is_schedule.Nodup := by decide +kernel
omit [Tb] in
theorem sc_is_schedule : FnScope N_is_schedule ["value"] (defScope (top 20)) := ⟨rfl, rfl, rfl, nd_is_schedule, rfl, by decide +kernel, by decide +kernel⟩
omit [Tb] in
theorem bd_is_schedule : BindC "is_schedule" (top 20) ["value"] := fun _ _ _ _ _ _ us hl => match us, hl with | [_], _ => rfl
theorem body_is_schedule (B : Facts K mg) (h_is_pair : FnAt P w K mg base "is_pair" ["value", "first", "second"] 2 g_is_pair) (f : Addr) (cdv : Value) (A : Around) (outer : List Env) (s : Shared) (H : Hp) (E : XK) (hr : Room 2 (A.deeper (envOfC "is_schedule" (defScope (top 20)) s.heap.objs.size f cdv))) :
    SSs (bX P w K mg base N_is_schedule "is_schedule" (top 20) f cdv A outer s H E) (WofE E) (defBody (top 20)) b_is_schedule := by
  have tk : L2N.Takes (bX P w K mg base N_is_schedule "is_schedule" (top 20) f cdv A outer s H E) (WofE E) := L2N.takes_of rfl rfl rfl rfl
  have po : PassesOwn (model P w) (A.deeper (envOfC "is_schedule" (defScope (top 20)) s.heap.objs.size f cdv)) (bX P w K mg base N_is_schedule "is_schedule" (top 20) f cdv A outer s H E).env (bX P w K mg base N_is_schedule "is_schedule" (top 20) f cdv A outer s H E).xe := passes_of rfl
  obtain ⟨t_HIGHEST, c_HIGHEST⟩ := B.c_HIGHEST
  obtain ⟨t_LONGEST, c_LONGEST⟩ := B.c_LONGEST
  obtain ⟨t_MOST_KINDS, c_MOST_KINDS⟩ := B.c_MOST_KINDS
  exact (sss_cons (ss_if (st_w (sw_or (st_notD (st_val (se_isi (y := "tuple") rfl B.b_isinstance bt_isinstance rfl B.b_tuple bt_tuple tb_tuple (se_pv (pv 0))))) (sw_or1 (st_notD (st_chain op_le op_le ok_le ok_le se_int (se_len rfl B.b_len (sa_cons (se_pv (pv 0)) sa_nil)) (se_glob rfl c_MOST_KINDS))))))
  (sss_one (ss_ret se_bl))
  ss_nil)
  (sss_cons (ss_if (st_notD (st_val (se_all rfl rfl B.b_all (sa_cons (se_lc (own := [("one", 1)]) rfl nd_is_schedule (si_seq (se_pv (pv 0))) (blkOk_by (N := N_is_schedule) (sc := defScope (top 20)) (by decide +kernel)) (by decide) (fun _ _ _ _ _ => (sg_name nd_is_schedule rfl (by first | exact Or.inl rfl | exact Or.inr rfl))) (fun _ _ _ _ _ => sts_nil) (fun _ _ _ _ _ => (se_fn h_is_pair hr rfl takes0N (sa_cons (se_pv (pv 1)) (sa_cons (se_tup (sa_cons se_int (sa_cons (se_glob rfl c_LONGEST) sa_nil))) (sa_cons (se_tup (sa_cons se_int (sa_cons (se_glob rfl c_HIGHEST) sa_nil))) sa_nil))) (len_cons (len_cons (len_cons len_nil)))))) sa_nil))))
  (sss_one (ss_ret se_bl))
  ss_nil)
  (sss_one (ss_ret (se_all rfl rfl B.b_all (sa_cons (se_lc (own := [("one", 1), ("other", 2)]) rfl nd_is_schedule (si_zip rfl B.b_zip (sa_cons (se_pv (pv 0)) (sa_cons (se_sl (se_pv (pv 0)) (so_some se_int) so_none) sa_nil))) (blkOk_by (N := N_is_schedule) (sc := defScope (top 20)) (by decide +kernel)) (by decide) (fun _ _ _ _ _ => (sg_tup rfl (sgs_cons (sg_name nd_is_schedule rfl (by first | exact Or.inl rfl | exact Or.inr rfl)) (sgs_cons (sg_name nd_is_schedule rfl (by first | exact Or.inl rfl | exact Or.inr rfl)) sgs_nil)))) (fun _ _ _ _ _ => sts_nil) (fun _ _ _ _ _ => (se_cmp (op_ltA hr.units0) ok_lt (se_ix (se_pv (pv 1)) se_int fun _ _ => rfl) (se_ix (se_pv (pv 2)) se_int fun _ _ => rfl) rfl))) sa_nil))))))
theorem at_is_schedule (D : FnDef K mg "is_schedule" (top 20)) (B : Facts K mg) (h_is_pair : FnAt P w K mg base "is_pair" ["value", "first", "second"] 2 g_is_pair) : FnAt P w K mg base "is_schedule" ["value"] 3 g_is_schedule := fn_at D sc_is_schedule rfl bd_is_schedule (body_is_schedule B h_is_pair)
/-! need_schedule -/
def N_need_schedule : List Str := ["schedule"]
omit [Tb] in
theorem nd_need_schedule : N_need_schedule.Nodup := by decide +kernel
omit [Tb] in
theorem sc_need_schedule : FnScope N_need_schedule ["schedule"] (defScope (top 21)) := ⟨rfl, rfl, rfl, nd_need_schedule, rfl, by decide +kernel, by decide +kernel⟩
omit [Tb] in
theorem bd_need_schedule : BindC "need_schedule" (top 21) ["schedule"] := fun _ _ _ _ _ _ us hl => match us, hl with | [_], _ => rfl
theorem body_need_schedule (B : Facts K mg) (h_is_schedule : FnAt P w K mg base "is_schedule" ["value"] 3 g_is_schedule) (f : Addr) (cdv : Value) (A : Around) (outer : List Env) (s : Shared) (H : Hp) (E : XK) (hr : Room 3 (A.deeper (envOfC "need_schedule" (defScope (top 21)) s.heap.objs.size f cdv))) :
    SSs (bX P w K mg base N_need_schedule "need_schedule" (top 21) f cdv A outer s H E) (WofE E) (defBody (top 21)) b_need_schedule := by
  have tk : L2N.Takes (bX P w K mg base N_need_schedule "need_schedule" (top 21) f cdv A outer s H E) (WofE E) := L2N.takes_of rfl rfl rfl rfl
  have po : PassesOwn (model P w) (A.deeper (envOfC "need_schedule" (defScope (top 21)) s.heap.objs.size f cdv)) (bX P w K mg base N_need_schedule "need_schedule" (top 21) f cdv A outer s H E).env (bX P w K mg base N_need_schedule "need_schedule" (top 21) f cdv A outer s H E).xe := passes_of rfl
  exact (sss_one (ss_if (st_notD (st_val (se_fn h_is_schedule hr rfl tk (sa_cons (se_pv (pv 0)) sa_nil) (len_cons len_nil))))
  (sss_one (ss_raise rfl tk B.r_InvalidSchedule rfl))
  ss_nil))
theorem at_need_schedule (D : FnDef K mg "need_schedule" (top 21)) (B : Facts K mg) (h_is_schedule : FnAt P w K mg base "is_schedule" ["value"] 3 g_is_schedule) : FnAt P w K mg base "need_schedule" ["schedule"] 4 g_need_schedule := fn_at D sc_need_schedule rfl bd_need_schedule (body_need_schedule B h_is_schedule)
/-! span_prices -/
def N_span_prices : List Str := ["schedule", "length", "found", "size", "long", "price"]
omit [Tb] in
theorem nd_span_prices : N_span_prices.Nodup := by decide +kernel
omit [Tb] in
theorem sc_span_prices : FnScope N_span_prices ["schedule", "length"] (defScope (top 23)) := ⟨rfl, rfl, rfl, nd_span_prices, rfl, by decide +kernel, by decide +kernel⟩
omit [Tb] in
theorem bd_span_prices : BindC "span_prices" (top 23) ["schedule", "length"] := fun _ _ _ _ _ _ us hl => match us, hl with | [_, _], _ => rfl
theorem body_span_prices (B : Facts K mg)  (f : Addr) (cdv : Value) (A : Around) (outer : List Env) (s : Shared) (H : Hp) (E : XK) (hr : Room 0 (A.deeper (envOfC "span_prices" (defScope (top 23)) s.heap.objs.size f cdv))) :
    SSs (bX P w K mg base N_span_prices "span_prices" (top 23) f cdv A outer s H E) (WofE E) (defBody (top 23)) b_span_prices := by
  have tk : L2N.Takes (bX P w K mg base N_span_prices "span_prices" (top 23) f cdv A outer s H E) (WofE E) := L2N.takes_of rfl rfl rfl rfl
  have po : PassesOwn (model P w) (A.deeper (envOfC "span_prices" (defScope (top 23)) s.heap.objs.size f cdv)) (bX P w K mg base N_span_prices "span_prices" (top 23) f cdv A outer s H E).env (bX P w K mg base N_span_prices "span_prices" (top 23) f cdv A outer s H E).xe := passes_of rfl
  exact (sss_cons (ss_set (m := true) (i := 2) nd_span_prices rfl (by first | exact Or.inl rfl | exact Or.inr rfl) (se_lst (sa_cons se_int sa_nil)))
  (sss_cons (ss_for po rfl (si_range2 rfl B.b_range (sa_cons se_int (sa_cons (se_op op_addA ok_add (se_pv (pv 1)) se_int) sa_nil))) (sg_name nd_span_prices rfl (by first | exact Or.inl rfl | exact Or.inr rfl))
  (sss_one (ss_app (pv 2) (se_min rfl rfl B.b_min (sa_cons (se_lc (own := [("long", 4), ("price", 5)]) rfl nd_span_prices (si_seq (se_pv (pv 0))) (blkOk_by (N := N_span_prices) (sc := defScope (top 23)) (by decide +kernel)) (by decide) (fun _ _ _ _ _ => (sg_tup rfl (sgs_cons (sg_name nd_span_prices rfl (by first | exact Or.inl rfl | exact Or.inr rfl)) (sgs_cons (sg_name nd_span_prices rfl (by first | exact Or.inl rfl | exact Or.inr rfl)) sgs_nil)))) (fun _ _ _ _ _ => sts_nil) (fun _ _ _ _ _ => (se_op op_addA ok_add (se_pv (pv 5)) (se_ix (se_pv (pv 2)) (se_max rfl rfl B.b_max (sa_cons se_int (sa_cons (se_op op_sub ok_sub (se_pv (pv 3)) (se_pv (pv 4))) sa_nil))) fun _ _ => rfl)))) sa_nil)) fun ho ha => pe_bm PySem.F.plainAttrs_list PySem.F.slot_list_append PySem.F.type_list_append mt_append ho ha)))
  (sss_one (ss_ret (se_pv (pv 2))))))
theorem at_span_prices (D : FnDef K mg "span_prices" (top 23)) (B : Facts K mg)  : FnAt P w K mg base "span_prices" ["schedule", "length"] 1 g_span_prices := fn_at D sc_span_prices rfl bd_span_prices (body_span_prices B )
/-! is_useless -/
def N_is_useless : List Str := ["schedule", "number", "length", "price", "others"]
omit [Tb] in
theorem nd_is_useless : N_is_useless.Nodup := by decide +kernel
omit [Tb] in
theorem sc_is_useless : FnScope N_is_useless ["schedule", "number"] (defScope (top 24)) := ⟨rfl, rfl, rfl, nd_is_useless, rfl, by decide +kernel, by decide +kernel⟩
omit [Tb] in
theorem bd_is_useless : BindC "is_useless" (top 24) ["schedule", "number"] := fun _ _ _ _ _ _ us hl => match us, hl with | [_, _], _ => rfl
theorem body_is_useless (B : Facts K mg) (h_span_prices : FnAt P w K mg base "span_prices" ["schedule", "length"] 1 g_span_prices) (f : Addr) (cdv : Value) (A : Around) (outer : List Env) (s : Shared) (H : Hp) (E : XK) (hr : Room 1 (A.deeper (envOfC "is_useless" (defScope (top 24)) s.heap.objs.size f cdv))) :
    SSs (bX P w K mg base N_is_useless "is_useless" (top 24) f cdv A outer s H E) (WofE E) (defBody (top 24)) b_is_useless := by
  have tk : L2N.Takes (bX P w K mg base N_is_useless "is_useless" (top 24) f cdv A outer s H E) (WofE E) := L2N.takes_of rfl rfl rfl rfl
  have po : PassesOwn (model P w) (A.deeper (envOfC "is_useless" (defScope (top 24)) s.heap.objs.size f cdv)) (bX P w K mg base N_is_useless "is_useless" (top 24) f cdv A outer s H E).env (bX P w K mg base N_is_useless "is_useless" (top 24) f cdv A outer s H E).xe := passes_of rfl
  exact (sss_cons (ss_asg (se_ix (se_pv (pv 0)) (se_pv (pv 1)) fun _ _ => rfl) (sg_tup rfl (sgs_cons (sg_name nd_is_useless rfl (by first | exact Or.inl rfl | exact Or.inr rfl)) (sgs_cons (sg_name nd_is_useless rfl (by first | exact Or.inl rfl | exact Or.inr rfl)) sgs_nil))))
  (sss_cons (ss_set (m := false) (i := 4) nd_is_useless rfl (by first | exact Or.inl rfl | exact Or.inr rfl) (se_op op_addA ok_add (se_sl (se_pv (pv 0)) so_none (so_some (se_pv (pv 1)))) (se_sl (se_pv (pv 0)) (so_some (se_op op_addA ok_add (se_pv (pv 1)) se_int)) so_none)))
  (sss_one (ss_ret (se_v (sv_and (sv_of (se_cmp (op_neD hr.units) ok_ne (se_pv (pv 4)) (se_tup sa_nil) rfl)) (sv_one (sv_of (se_cmp op_le ok_le (se_ix (se_fn h_span_prices hr rfl tk (sa_cons (se_pv (pv 4)) (sa_cons (se_pv (pv 2)) sa_nil)) (len_cons (len_cons len_nil))) (se_pv (pv 2)) fun _ _ => rfl) (se_pv (pv 3)) rfl)))))))))
theorem at_is_useless (D : FnDef K mg "is_useless" (top 24)) (B : Facts K mg) (h_span_prices : FnAt P w K mg base "span_prices" ["schedule", "length"] 1 g_span_prices) : FnAt P w K mg base "is_useless" ["schedule", "number"] 2 g_is_useless := fn_at D sc_is_useless rfl bd_is_useless (body_is_useless B h_span_prices)
/-! useless_kinds -/
def N_useless_kinds : List Str := ["schedule", "number"]
omit [Tb] in
theorem nd_useless_kinds : N_useless_kinds.Nodup := by decide +kernel
omit [Tb] in
theorem sc_useless_kinds : FnScope N_useless_kinds ["schedule"] (defScope (top 25)) := ⟨rfl, rfl, rfl, nd_useless_kinds, rfl, by decide +kernel, by decide +kernel⟩
omit [Tb] in
theorem bd_useless_kinds : BindC "useless_kinds" (top 25) ["schedule"] := fun _ _ _ _ _ _ us hl => match us, hl with | [_], _ => rfl
theorem body_useless_kinds (B : Facts K mg) (h_is_useless : FnAt P w K mg base "is_useless" ["schedule", "number"] 2 g_is_useless) (h_need_schedule : FnAt P w K mg base "need_schedule" ["schedule"] 4 g_need_schedule) (f : Addr) (cdv : Value) (A : Around) (outer : List Env) (s : Shared) (H : Hp) (E : XK) (hr : Room 4 (A.deeper (envOfC "useless_kinds" (defScope (top 25)) s.heap.objs.size f cdv))) :
    SSs (bX P w K mg base N_useless_kinds "useless_kinds" (top 25) f cdv A outer s H E) (WofE E) (defBody (top 25)) b_useless_kinds := by
  have tk : L2N.Takes (bX P w K mg base N_useless_kinds "useless_kinds" (top 25) f cdv A outer s H E) (WofE E) := L2N.takes_of rfl rfl rfl rfl
  have po : PassesOwn (model P w) (A.deeper (envOfC "useless_kinds" (defScope (top 25)) s.heap.objs.size f cdv)) (bX P w K mg base N_useless_kinds "useless_kinds" (top 25) f cdv A outer s H E).env (bX P w K mg base N_useless_kinds "useless_kinds" (top 25) f cdv A outer s H E).xe := passes_of rfl
  exact (sss_cons (ss_drop (se_fn h_need_schedule hr rfl tk (sa_cons (se_pv (pv 0)) sa_nil) (len_cons len_nil)))
  (sss_one (ss_ret (se_tuple rfl B.b_tuple (sa_cons (se_lc (own := [("number", 1)]) rfl nd_useless_kinds (si_range1 rfl B.b_range (sa_cons (se_len rfl B.b_len (sa_cons (se_pv (pv 0)) sa_nil)) sa_nil)) (blkOk_by (N := N_useless_kinds) (sc := defScope (top 25)) (by decide +kernel)) (by decide) (fun _ _ _ _ _ => (sg_name nd_useless_kinds rfl (by first | exact Or.inl rfl | exact Or.inr rfl))) (fun _ _ _ _ _ => (sts_one (st_val (se_fn h_is_useless hr rfl takes0N (sa_cons (se_pv (pv 0)) (sa_cons (se_pv (pv 1)) sa_nil)) (len_cons (len_cons len_nil)))))) (fun _ _ _ _ _ => (se_pv (pv 1)))) sa_nil)))))
theorem at_useless_kinds (D : FnDef K mg "useless_kinds" (top 25)) (B : Facts K mg) (h_is_useless : FnAt P w K mg base "is_useless" ["schedule", "number"] 2 g_is_useless) (h_need_schedule : FnAt P w K mg base "need_schedule" ["schedule"] 4 g_need_schedule) : FnAt P w K mg base "useless_kinds" ["schedule"] 5 g_useless_kinds := fn_at D sc_useless_kinds rfl bd_useless_kinds (body_useless_kinds B h_is_useless h_need_schedule)
/-! essential_schedule -/
def N_essential_schedule : List Str := ["schedule", "useless", "number", "one"]
omit [Tb] in
theorem nd_essential_schedule : N_essential_schedule.Nodup := by decide +kernel
omit [Tb] in
theorem sc_essential_schedule : FnScope N_essential_schedule ["schedule"] (defScope (top 26)) := ⟨rfl, rfl, rfl, nd_essential_schedule, rfl, by decide +kernel, by decide +kernel⟩
omit [Tb] in
theorem bd_essential_schedule : BindC "essential_schedule" (top 26) ["schedule"] := fun _ _ _ _ _ _ us hl => match us, hl with | [_], _ => rfl
theorem body_essential_schedule (B : Facts K mg) (h_useless_kinds : FnAt P w K mg base "useless_kinds" ["schedule"] 5 g_useless_kinds) (f : Addr) (cdv : Value) (A : Around) (outer : List Env) (s : Shared) (H : Hp) (E : XK) (hr : Room 5 (A.deeper (envOfC "essential_schedule" (defScope (top 26)) s.heap.objs.size f cdv))) :
    SSs (bX P w K mg base N_essential_schedule "essential_schedule" (top 26) f cdv A outer s H E) (WofE E) (defBody (top 26)) b_essential_schedule := by
  have tk : L2N.Takes (bX P w K mg base N_essential_schedule "essential_schedule" (top 26) f cdv A outer s H E) (WofE E) := L2N.takes_of rfl rfl rfl rfl
  have po : PassesOwn (model P w) (A.deeper (envOfC "essential_schedule" (defScope (top 26)) s.heap.objs.size f cdv)) (bX P w K mg base N_essential_schedule "essential_schedule" (top 26) f cdv A outer s H E).env (bX P w K mg base N_essential_schedule "essential_schedule" (top 26) f cdv A outer s H E).xe := passes_of rfl
  exact (sss_cons (ss_set (m := false) (i := 1) nd_essential_schedule rfl (by first | exact Or.inl rfl | exact Or.inr rfl) (se_fn h_useless_kinds hr rfl tk (sa_cons (se_pv (pv 0)) sa_nil) (len_cons len_nil)))
  (sss_one (ss_ret (se_tuple rfl B.b_tuple (sa_cons (se_lc (own := [("number", 2), ("one", 3)]) rfl nd_essential_schedule (si_enum rfl B.b_enumerate (sa_cons (se_pv (pv 0)) sa_nil)) (blkOk_by (N := N_essential_schedule) (sc := defScope (top 26)) (by decide +kernel)) (by decide) (fun _ _ _ _ _ => (sg_tup rfl (sgs_cons (sg_name nd_essential_schedule rfl (by first | exact Or.inl rfl | exact Or.inr rfl)) (sgs_cons (sg_name nd_essential_schedule rfl (by first | exact Or.inl rfl | exact Or.inr rfl)) sgs_nil)))) (fun _ _ _ _ _ => (sts_one (st_cmp op_notIn_seq ok_in (se_pv (pv 2)) (se_pv (pv 1)) rfl))) (fun _ _ _ _ _ => (se_pv (pv 3)))) sa_nil)))))
theorem at_essential_schedule (D : FnDef K mg "essential_schedule" (top 26)) (B : Facts K mg) (h_useless_kinds : FnAt P w K mg base "useless_kinds" ["schedule"] 5 g_useless_kinds) : FnAt P w K mg base "essential_schedule" ["schedule"] 6 g_essential_schedule := fn_at D sc_essential_schedule rfl bd_essential_schedule (body_essential_schedule B h_useless_kinds)
/-! _law_trips -/
def N__law_trips : List Str := ["deck", "many", "span", "begun", "times", "top", "k", "time"]
omit [Tb] in
theorem nd__law_trips : N__law_trips.Nodup := by decide +kernel
omit [Tb] in
theorem sc__law_trips : FnScope N__law_trips ["deck", "many", "span"] (defScope (top 38)) := ⟨rfl, rfl, rfl, nd__law_trips, rfl, by decide +kernel, by decide +kernel⟩
omit [Tb] in
theorem bd__law_trips : BindC "_law_trips" (top 38) ["deck", "many", "span"] := fun _ _ _ _ _ _ us hl => match us, hl with | [_, _, _], _ => rfl
theorem body__law_trips (B : Facts K mg) (h__law_pick : FnAt P w K mg base "_law_pick" ["deck", "limit"] 1 g__law_pick) (h__law_one : FnAt P w K mg base "_law_one" ["deck", "some"] 2 g__law_one) (f : Addr) (cdv : Value) (A : Around) (outer : List Env) (s : Shared) (H : Hp) (E : XK) (hr : Room 2 (A.deeper (envOfC "_law_trips" (defScope (top 38)) s.heap.objs.size f cdv))) :
    SSs (bX P w K mg base N__law_trips "_law_trips" (top 38) f cdv A outer s H E) (WofE E) (defBody (top 38)) b__law_trips := by
  have tk : L2N.Takes (bX P w K mg base N__law_trips "_law_trips" (top 38) f cdv A outer s H E) (WofE E) := L2N.takes_of rfl rfl rfl rfl
  have po : PassesOwn (model P w) (A.deeper (envOfC "_law_trips" (defScope (top 38)) s.heap.objs.size f cdv)) (bX P w K mg base N__law_trips "_law_trips" (top 38) f cdv A outer s H E).env (bX P w K mg base N__law_trips "_law_trips" (top 38) f cdv A outer s H E).xe := passes_of rfl
  exact (sss_cons (ss_set (m := false) (i := 3) nd__law_trips rfl (by first | exact Or.inl rfl | exact Or.inr rfl) (se_fn h__law_one hr rfl tk (sa_cons (se_pv (pv 0)) (sa_cons (se_lst (sa_cons se_int (sa_cons se_int (sa_cons (se_fn h__law_pick hr rfl tk (sa_cons (se_pv (pv 0)) (sa_cons (se_op op_sub ok_sub (se_op op_pow ok_pow se_int se_int) (se_pv (pv 2))) sa_nil)) (len_cons (len_cons len_nil))) sa_nil)))) sa_nil)) (len_cons (len_cons len_nil))))
  (sss_cons (ss_set (m := false) (i := 4) nd__law_trips rfl (by first | exact Or.inl rfl | exact Or.inr rfl) (se_sorted rfl B.b_sorted (sa_cons (se_lc (own := [("k", 6)]) rfl nd__law_trips (si_range1 rfl B.b_range (sa_cons (se_fn h__law_pick hr rfl tk (sa_cons (se_pv (pv 0)) (sa_cons (se_op op_addA ok_add (se_pv (pv 1)) se_int) sa_nil)) (len_cons (len_cons len_nil))) sa_nil)) (blkOk_by (N := N__law_trips) (sc := defScope (top 38)) (by decide +kernel)) (by decide) (fun _ _ _ _ _ => (sg_name nd__law_trips rfl (by first | exact Or.inl rfl | exact Or.inr rfl))) (fun _ _ _ _ _ => sts_nil) (fun _ _ _ _ _ => (se_op op_addA ok_add (se_pv (pv 3)) (se_fn h__law_pick hr rfl takes0N (sa_cons (se_pv (pv 0)) (sa_cons (se_op op_addA ok_add (se_pv (pv 2)) se_int) sa_nil)) (len_cons (len_cons len_nil)))))) sa_nil)))
  (sss_cons (ss_set (m := false) (i := 5) nd__law_trips rfl (by first | exact Or.inl rfl | exact Or.inr rfl) (se_fn h__law_one hr rfl tk (sa_cons (se_pv (pv 0)) (sa_cons (se_lst (sa_cons se_int (sa_cons se_int (sa_cons se_int (sa_cons (se_op op_pow ok_pow se_int se_int) sa_nil))))) sa_nil)) (len_cons (len_cons len_nil))))
  (sss_one (ss_ret (se_tuple rfl B.b_tuple (sa_cons (se_lc (own := [("time", 7)]) rfl nd__law_trips (si_seq (se_pv (pv 4))) (blkOk_by (N := N__law_trips) (sc := defScope (top 38)) (by decide +kernel)) (by decide) (fun _ _ _ _ _ => (sg_name nd__law_trips rfl (by first | exact Or.inl rfl | exact Or.inr rfl))) (fun _ _ _ _ _ => sts_nil) (fun _ _ _ _ _ => (se_tup (sa_cons (se_pv (pv 7)) (sa_cons (se_fn h__law_pick hr rfl takes0N (sa_cons (se_pv (pv 0)) (sa_cons (se_op op_addA ok_add (se_pv (pv 5)) se_int) sa_nil)) (len_cons (len_cons len_nil))) sa_nil))))) sa_nil)))))))
theorem at__law_trips (D : FnDef K mg "_law_trips" (top 38)) (B : Facts K mg) (h__law_pick : FnAt P w K mg base "_law_pick" ["deck", "limit"] 1 g__law_pick) (h__law_one : FnAt P w K mg base "_law_one" ["deck", "some"] 2 g__law_one) : FnAt P w K mg base "_law_trips" ["deck", "many", "span"] 3 g__law_trips := fn_at D sc__law_trips rfl bd__law_trips (body__law_trips B h__law_pick h__law_one)
/-! _law_sort -/
def N__law_sort : List Str := ["thing"]
omit [Tb] in
theorem nd__law_sort : N__law_sort.Nodup := by decide +kernel
omit [Tb] in
theorem sc__law_sort : FnScope N__law_sort ["thing"] (defScope (top 34)) := ⟨rfl, rfl, rfl, nd__law_sort, rfl, by decide +kernel, by decide +kernel⟩
omit [Tb] in
theorem bd__law_sort : BindC "_law_sort" (top 34) ["thing"] := fun _ _ _ _ _ _ us hl => match us, hl with | [_], _ => rfl
theorem body__law_sort (B : Facts K mg)  (f : Addr) (cdv : Value) (A : Around) (outer : List Env) (s : Shared) (H : Hp) (E : XK) (hr : Room 0 (A.deeper (envOfC "_law_sort" (defScope (top 34)) s.heap.objs.size f cdv))) :
    SSs (bX P w K mg base N__law_sort "_law_sort" (top 34) f cdv A outer s H E) (WofE E) (defBody (top 34)) b__law_sort := by
  have tk : L2N.Takes (bX P w K mg base N__law_sort "_law_sort" (top 34) f cdv A outer s H E) (WofE E) := L2N.takes_of rfl rfl rfl rfl
  have po : PassesOwn (model P w) (A.deeper (envOfC "_law_sort" (defScope (top 34)) s.heap.objs.size f cdv)) (bX P w K mg base N__law_sort "_law_sort" (top 34) f cdv A outer s H E).env (bX P w K mg base N__law_sort "_law_sort" (top 34) f cdv A outer s H E).xe := passes_of rfl
  exact (sss_cons (ss_if (st_val (se_isi (y := "bool") rfl B.b_isinstance bt_isinstance rfl B.b_bool bt_bool tb_bool (se_pv (pv 0))))
  (sss_one (ss_ret se_int))
  ss_nil)
  (sss_cons (ss_if (st_val (se_isi (y := "int") rfl B.b_isinstance bt_isinstance rfl B.b_int bt_int tb_int (se_pv (pv 0))))
  (sss_one (ss_ret se_int))
  ss_nil)
  (sss_cons (ss_if (st_val (se_isi (y := "str") rfl B.b_isinstance bt_isinstance rfl B.b_str bt_str tb_str (se_pv (pv 0))))
  (sss_one (ss_ret se_int))
  ss_nil)
  (sss_cons (ss_if (st_val (se_isi (y := "list") rfl B.b_isinstance bt_isinstance rfl B.b_list bt_list tb_list (se_pv (pv 0))))
  (sss_one (ss_ret se_int))
  ss_nil)
  (sss_one (ss_ret (se_if (st_val (se_isi (y := "tuple") rfl B.b_isinstance bt_isinstance rfl B.b_tuple bt_tuple tb_tuple (se_pv (pv 0)))) se_int se_int)))))))
theorem at__law_sort (D : FnDef K mg "_law_sort" (top 34)) (B : Facts K mg)  : FnAt P w K mg base "_law_sort" ["thing"] 1 g__law_sort := fn_at D sc__law_sort rfl bd__law_sort (body__law_sort B )
/-! _law_same -/
def N__law_same : List Str := ["told", "due", "k", "part"]
omit [Tb] in
theorem nd__law_same : N__law_same.Nodup := by decide +kernel
omit [Tb] in
theorem sc__law_same : FnScope N__law_same ["told", "due"] (defScope (top 35)) := ⟨rfl, rfl, rfl, nd__law_same, rfl, by decide +kernel, by decide +kernel⟩
omit [Tb] in
theorem bd__law_same : BindC "_law_same" (top 35) ["told", "due"] := fun _ _ _ _ _ _ us hl => match us, hl with | [_, _], _ => rfl
theorem body__law_same (B : Facts K mg) (h__law_sort : FnAt P w K mg base "_law_sort" ["thing"] 1 g__law_sort) {g : List Sl → FRes} {k : Nat} (h__law_same : FnAt P w K mg base "_law_same" ["told", "due"] k g) (hk : 1 ≤ k) (f : Addr) (cdv : Value) (A : Around) (outer : List Env) (s : Shared) (H : Hp) (E : XK) (hr : Room k (A.deeper (envOfC "_law_same" (defScope (top 35)) s.heap.objs.size f cdv))) :
    SSs (bX P w K mg base N__law_same "_law_same" (top 35) f cdv A outer s H E) (WofE E) (defBody (top 35)) (b__law_same g) := by
  have tk : L2N.Takes (bX P w K mg base N__law_same "_law_same" (top 35) f cdv A outer s H E) (WofE E) := L2N.takes_of rfl rfl rfl rfl
  have po : PassesOwn (model P w) (A.deeper (envOfC "_law_same" (defScope (top 35)) s.heap.objs.size f cdv)) (bX P w K mg base N__law_same "_law_same" (top 35) f cdv A outer s H E).env (bX P w K mg base N__law_same "_law_same" (top 35) f cdv A outer s H E).xe := passes_of rfl
  exact (sss_cons (ss_if (st_cmp (op_neD hr.units) ok_ne (se_fn h__law_sort hr rfl tk (sa_cons (se_pv (pv 0)) sa_nil) (len_cons len_nil) (hj := Nat.le_trans (by decide) hk)) (se_fn h__law_sort hr rfl tk (sa_cons (se_pv (pv 1)) sa_nil) (len_cons len_nil) (hj := Nat.le_trans (by decide) hk)) rfl)
  (sss_one (ss_ret se_bl))
  ss_nil)
  (sss_cons (ss_if (st_w (sw_and (st_cmp op_gt ok_gt (se_fn h__law_sort hr rfl tk (sa_cons (se_pv (pv 0)) sa_nil) (len_cons len_nil) (hj := Nat.le_trans (by decide) hk)) se_int rfl) (sw_and1 (st_cmp (op_ltA hr.units0) ok_lt (se_fn h__law_sort hr rfl tk (sa_cons (se_pv (pv 0)) sa_nil) (len_cons len_nil) (hj := Nat.le_trans (by decide) hk)) se_int rfl))))
  (sss_cons (ss_if (st_cmp (op_neD hr.units) ok_ne (se_len rfl B.b_len (sa_cons (se_pv (pv 0)) sa_nil)) (se_len rfl B.b_len (sa_cons (se_pv (pv 1)) sa_nil)) rfl)
  (sss_one (ss_ret se_bl))
  ss_nil)
  (sss_one (ss_ret (se_cmp (op_eqD hr.units) ok_eq (se_lc (own := [("k", 2), ("part", 3)]) rfl nd__law_same (si_enum rfl B.b_enumerate (sa_cons (se_pv (pv 0)) sa_nil)) (blkOk_by (N := N__law_same) (sc := defScope (top 35)) (by decide +kernel)) (by decide) (fun _ _ _ _ _ => (sg_tup rfl (sgs_cons (sg_name nd__law_same rfl (by first | exact Or.inl rfl | exact Or.inr rfl)) (sgs_cons (sg_name nd__law_same rfl (by first | exact Or.inl rfl | exact Or.inr rfl)) sgs_nil)))) (fun _ _ _ _ _ => (sts_one (st_notD (st_val (se_fn h__law_same hr rfl takes0N (sa_cons (se_pv (pv 3)) (sa_cons (se_ix (se_pv (pv 1)) (se_pv (pv 2)) fun _ _ => rfl) sa_nil)) (len_cons (len_cons len_nil)) (hj := Nat.le_refl _)))))) (fun _ _ _ _ _ => (se_pv (pv 2)))) (se_lst sa_nil) rfl))))
  ss_nil)
  (sss_one (ss_ret (se_cmp (op_eqD hr.units) ok_eq (se_pv (pv 0)) (se_pv (pv 1)) rfl)))))
theorem an__law_same (D : FnDef K mg "_law_same" (top 35)) (B : Facts K mg) (h__law_sort : FnAt P w K mg base "_law_sort" ["thing"] 1 g__law_sort) : ∀ n : Nat, FnAt P w K mg base "_law_same" ["told", "due"] (2 + n) (gn__law_same n)
  | 0 => fn_any D bd__law_same
  | n + 1 => fn_at (k := 2 + n) D sc__law_same rfl bd__law_same (body__law_same B h__law_sort (an__law_same D B h__law_sort n) (by omega))
theorem at__law_same (D : FnDef K mg "_law_same" (top 35)) (B : Facts K mg) (h__law_sort : FnAt P w K mg base "_law_sort" ["thing"] 1 g__law_sort) : FnAt P w K mg base "_law_same" ["told", "due"] 10 g__law_same := an__law_same D B h__law_sort 8
/-! _law_charges -/
def N__law_charges : List Str := ["schedule", "trips_so", "found", "at", "time", "fare", "rooms", "length", "price", "k"]
omit [Tb] in
theorem nd__law_charges : N__law_charges.Nodup := by decide +kernel
omit [Tb] in
theorem sc__law_charges : FnScope N__law_charges ["schedule", "trips_so"] (defScope (top 39)) := ⟨rfl, rfl, rfl, nd__law_charges, rfl, by decide +kernel, by decide +kernel⟩
omit [Tb] in
theorem bd__law_charges : BindC "_law_charges" (top 39) ["schedule", "trips_so"] := fun _ _ _ _ _ _ us hl => match us, hl with | [_, _], _ => rfl
theorem body__law_charges (B : Facts K mg)  (f : Addr) (cdv : Value) (A : Around) (outer : List Env) (s : Shared) (H : Hp) (E : XK) (hr : Room 0 (A.deeper (envOfC "_law_charges" (defScope (top 39)) s.heap.objs.size f cdv))) :
    SSs (bX P w K mg base N__law_charges "_law_charges" (top 39) f cdv A outer s H E) (WofE E) (defBody (top 39)) b__law_charges := by
  have tk : L2N.Takes (bX P w K mg base N__law_charges "_law_charges" (top 39) f cdv A outer s H E) (WofE E) := L2N.takes_of rfl rfl rfl rfl
  have po : PassesOwn (model P w) (A.deeper (envOfC "_law_charges" (defScope (top 39)) s.heap.objs.size f cdv)) (bX P w K mg base N__law_charges "_law_charges" (top 39) f cdv A outer s H E).env (bX P w K mg base N__law_charges "_law_charges" (top 39) f cdv A outer s H E).xe := passes_of rfl
  exact (sss_cons (ss_set (m := true) (i := 2) nd__law_charges rfl (by first | exact Or.inl rfl | exact Or.inr rfl) (se_lst sa_nil))
  (sss_cons (ss_for po rfl (si_enum rfl B.b_enumerate (sa_cons (se_pv (pv 1)) sa_nil)) (sg_tup rfl (sgs_cons (sg_name nd__law_charges rfl (by first | exact Or.inl rfl | exact Or.inr rfl)) (sgs_cons (sg_tup rfl (sgs_cons (sg_name nd__law_charges rfl (by first | exact Or.inl rfl | exact Or.inr rfl)) (sgs_cons (sg_name nd__law_charges rfl (by first | exact Or.inl rfl | exact Or.inr rfl)) sgs_nil))) sgs_nil)))
  (sss_cons (ss_set (m := true) (i := 6) nd__law_charges rfl (by first | exact Or.inl rfl | exact Or.inr rfl) (se_lst (sa_cons (se_pv (pv 5)) sa_nil)))
  (sss_cons (ss_for po rfl (si_seq (se_pv (pv 0))) (sg_tup rfl (sgs_cons (sg_name nd__law_charges rfl (by first | exact Or.inl rfl | exact Or.inr rfl)) (sgs_cons (sg_name nd__law_charges rfl (by first | exact Or.inl rfl | exact Or.inr rfl)) sgs_nil)))
  (sss_one (ss_app (pv 6) (se_op op_sub ok_sub (se_pv (pv 8)) (se_sum rfl rfl B.b_sum (sa_cons (se_lc (own := [("k", 9)]) rfl nd__law_charges (si_range1 rfl B.b_range (sa_cons (se_pv (pv 3)) sa_nil)) (blkOk_by (N := N__law_charges) (sc := defScope (top 39)) (by decide +kernel)) (by decide) (fun _ _ _ _ _ => (sg_name nd__law_charges rfl (by first | exact Or.inl rfl | exact Or.inr rfl))) (fun _ _ _ _ _ => (sts_one (st_cmp op_gt ok_gt (se_ix (se_ix (se_pv (pv 1)) (se_pv (pv 9)) fun _ _ => rfl) se_int fun _ _ => rfl) (se_op op_sub ok_sub (se_pv (pv 4)) (se_pv (pv 7))) rfl))) (fun _ _ _ _ _ => (se_ix (se_pv (pv 2)) (se_pv (pv 9)) fun _ _ => rfl))) sa_nil))) fun ho ha => pe_bm PySem.F.plainAttrs_list PySem.F.slot_list_append PySem.F.type_list_append mt_append ho ha)))
  (sss_one (ss_app (pv 2) (se_min rfl rfl B.b_min (sa_cons (se_pv (pv 6)) sa_nil)) fun ho ha => pe_bm PySem.F.plainAttrs_list PySem.F.slot_list_append PySem.F.type_list_append mt_append ho ha)))))
  (sss_one (ss_ret (se_pv (pv 2))))))
theorem at__law_charges (D : FnDef K mg "_law_charges" (top 39)) (B : Facts K mg)  : FnAt P w K mg base "_law_charges" ["schedule", "trips_so"] 1 g__law_charges := fn_at D sc__law_charges rfl bd__law_charges (body__law_charges B )
/-! _law_total -/
def N__law_total : List Str := ["schedule", "trips_so"]
omit [Tb] in
theorem nd__law_total : N__law_total.Nodup := by decide +kernel
omit [Tb] in
theorem sc__law_total : FnScope N__law_total ["schedule", "trips_so"] (defScope (top 40)) := ⟨rfl, rfl, rfl, nd__law_total, rfl, by decide +kernel, by decide +kernel⟩
omit [Tb] in
theorem bd__law_total : BindC "_law_total" (top 40) ["schedule", "trips_so"] := fun _ _ _ _ _ _ us hl => match us, hl with | [_, _], _ => rfl
theorem body__law_total (B : Facts K mg) (h__law_charges : FnAt P w K mg base "_law_charges" ["schedule", "trips_so"] 1 g__law_charges) (f : Addr) (cdv : Value) (A : Around) (outer : List Env) (s : Shared) (H : Hp) (E : XK) (hr : Room 1 (A.deeper (envOfC "_law_total" (defScope (top 40)) s.heap.objs.size f cdv))) :
    SSs (bX P w K mg base N__law_total "_law_total" (top 40) f cdv A outer s H E) (WofE E) (defBody (top 40)) b__law_total := by
  have tk : L2N.Takes (bX P w K mg base N__law_total "_law_total" (top 40) f cdv A outer s H E) (WofE E) := L2N.takes_of rfl rfl rfl rfl
  have po : PassesOwn (model P w) (A.deeper (envOfC "_law_total" (defScope (top 40)) s.heap.objs.size f cdv)) (bX P w K mg base N__law_total "_law_total" (top 40) f cdv A outer s H E).env (bX P w K mg base N__law_total "_law_total" (top 40) f cdv A outer s H E).xe := passes_of rfl
  exact (sss_one (ss_ret (se_sum rfl rfl B.b_sum (sa_cons (se_fn h__law_charges hr rfl tk (sa_cons (se_pv (pv 0)) (sa_cons (se_pv (pv 1)) sa_nil)) (len_cons (len_cons len_nil))) sa_nil))))
theorem at__law_total (D : FnDef K mg "_law_total" (top 40)) (B : Facts K mg) (h__law_charges : FnAt P w K mg base "_law_charges" ["schedule", "trips_so"] 1 g__law_charges) : FnAt P w K mg base "_law_total" ["schedule", "trips_so"] 2 g__law_total := fn_at D sc__law_total rfl bd__law_total (body__law_total B h__law_charges)
/-! law -/
def N_law : List Str := ["script", "cell", "deck", "turn", "door", "schedule", "told", "rest", "some", "trips_so", "k", "length", "price", "odd", "others", "row", "alike_so", "one", "time"]
omit [Tb] in
theorem nd_law : N_law.Nodup := by decide +kernel
omit [Tb] in
theorem sc_law : FnScope N_law ["script"] (defScope (top 41)) := ⟨rfl, rfl, rfl, nd_law, rfl, by decide +kernel, by decide +kernel⟩
omit [Tb] in
theorem bd_law : BindC "law" (top 41) ["script"] := fun _ _ _ _ _ _ us hl => match us, hl with | [_], _ => rfl
theorem body_law (B : Facts K mg) (h_useless_kinds : FnAt P w K mg base "useless_kinds" ["schedule"] 5 g_useless_kinds) (h_essential_schedule : FnAt P w K mg base "essential_schedule" ["schedule"] 6 g_essential_schedule) (h__law_total : FnAt P w K mg base "_law_total" ["schedule", "trips_so"] 2 g__law_total) (h__law_trips : FnAt P w K mg base "_law_trips" ["deck", "many", "span"] 3 g__law_trips) (h__law_same : FnAt P w K mg base "_law_same" ["told", "due"] 10 g__law_same) (h__law_one : FnAt P w K mg base "_law_one" ["deck", "some"] 2 g__law_one) (h__law_schedule : FnAt P w K mg base "_law_schedule" ["deck", "many", "longest"] 3 g__law_schedule) (h__law_deck : FnAt P w K mg base "_law_deck" ["cell", "turn"] 1 g__law_deck) (NM : NameAt P w K mg base 1) (D_try : FnDef K mg "_law_try" (top 32)) {cC P0 : Addr} (TB : LamX.TabB base mg cC P0) (tm : (P0, lamQ "law") ∈ Tb.tabs) (f : Addr) (A : Around) (outer : List Env) (s : Shared) (H : Hp) (E : XK) (hr : Room 10 (A.deeper (envOfC "law" (defScope (top 41)) s.heap.objs.size f (.ref cC)))) :
    SSs (bX P w K mg base N_law "law" (top 41) f (.ref cC) A outer s H E) (WofE E) (defBody (top 41)) b_law_k13 := by
  have tk : L2N.Takes (bX P w K mg base N_law "law" (top 41) f (.ref cC) A outer s H E) (WofE E) := L2N.takes_of rfl rfl rfl rfl
  have po : PassesOwn (model P w) (A.deeper (envOfC "law" (defScope (top 41)) s.heap.objs.size f (.ref cC))) (bX P w K mg base N_law "law" (top 41) f (.ref cC) A outer s H E).env (bX P w K mg base N_law "law" (top 41) f (.ref cC) A outer s H E).xe := passes_of rfl
  exact (sss_cons (ss_for po rfl (si_seq (se_sl (se_addS (se_lst (sa_cons se_int sa_nil)) (pv 0)) so_none (so_some se_int))) (sg_name nd_law rfl (by first | exact Or.inl rfl | exact Or.inr rfl))
  (sss_cons (ss_set (m := true) (i := 2) nd_law rfl (by first | exact Or.inl rfl | exact Or.inr rfl) (se_fn h__law_deck hr rfl tk (sa_cons (se_pv (pv 1)) (sa_cons se_int sa_nil)) (len_cons (len_cons len_nil))))
  (sss_cons (ss_for po rfl (si_range1 rfl B.b_range (sa_cons se_int sa_nil)) (sg_name nd_law rfl (by first | exact Or.inl rfl | exact Or.inr rfl))
  (sss_cons (ss_set (m := false) (i := 5) nd_law rfl (by first | exact Or.inl rfl | exact Or.inr rfl) (se_fn h__law_schedule hr rfl tk (sa_cons (se_pv (pv 2)) (sa_cons se_int (sa_cons (se_fn h__law_one hr rfl tk (sa_cons (se_pv (pv 2)) (sa_cons (se_lst (sa_cons se_int (sa_cons se_int sa_nil))) sa_nil)) (len_cons (len_cons len_nil))) sa_nil))) (len_cons (len_cons (len_cons len_nil)))))
  (sss_cons (ss_set (m := false) (i := 5) nd_law rfl (by first | exact Or.inl rfl | exact Or.inr rfl) (se_tuple rfl B.b_tuple (sa_cons (se_lc (own := [("length", 11), ("price", 12)]) rfl nd_law (si_seq (se_pv (pv 5))) (blkOk_by (N := N_law) (sc := defScope (top 41)) (by decide +kernel)) (by decide) (fun _ _ _ _ _ => (sg_tup rfl (sgs_cons (sg_name nd_law rfl (by first | exact Or.inl rfl | exact Or.inr rfl)) (sgs_cons (sg_name nd_law rfl (by first | exact Or.inl rfl | exact Or.inr rfl)) sgs_nil)))) (fun _ _ _ _ _ => sts_nil) (fun _ _ _ _ _ => (se_tup (sa_cons (se_pv (pv 11)) (sa_cons (se_min rfl rfl B.b_min (sa_cons (se_pv (pv 12)) (sa_cons se_int sa_nil))) sa_nil))))) sa_nil)))
  (sss_cons (ss_set (m := false) (i := 6) nd_law rfl (by first | exact Or.inl rfl | exact Or.inr rfl) (se_fn h_useless_kinds hr rfl tk (sa_cons (se_pv (pv 5)) sa_nil) (len_cons len_nil)))
  (sss_cons (ss_if (st_w (sw_or (st_notD (st_val (se_isi (y := "tuple") rfl B.b_isinstance bt_isinstance rfl B.b_tuple bt_tuple tb_tuple (se_pv (pv 6))))) (sw_or1 (st_cmp (op_neD hr.units) ok_ne (se_list rfl B.b_list (sa_cons (se_pv (pv 6)) sa_nil)) (se_sortSet rfl rfl B.b_sorted rfl B.b_set (se_pv (pv 6))) rfl))))
  (sss_one (ss_ret se_bl))
  ss_nil)
  (sss_cons (ss_set (m := false) (i := 7) nd_law rfl (by first | exact Or.inl rfl | exact Or.inr rfl) (se_tuple rfl B.b_tuple (sa_cons (se_lc (own := [("k", 10), ("one", 17)]) rfl nd_law (si_enum rfl B.b_enumerate (sa_cons (se_pv (pv 5)) sa_nil)) (blkOk_by (N := N_law) (sc := defScope (top 41)) (by decide +kernel)) (by decide) (fun _ _ _ _ _ => (sg_tup rfl (sgs_cons (sg_name nd_law rfl (by first | exact Or.inl rfl | exact Or.inr rfl)) (sgs_cons (sg_name nd_law rfl (by first | exact Or.inl rfl | exact Or.inr rfl)) sgs_nil)))) (fun _ _ _ _ _ => (sts_one (st_cmp op_notIn_seq ok_in (se_pv (pv 10)) (se_pv (pv 6)) rfl))) (fun _ _ _ _ _ => (se_pv (pv 17)))) sa_nil)))
  (sss_cons (ss_if (st_w (sw_or (st_notD (st_val (se_fn h__law_same hr rfl tk (sa_cons (se_fn h_essential_schedule hr rfl tk (sa_cons (se_pv (pv 5)) sa_nil) (len_cons len_nil)) (sa_cons (se_pv (pv 7)) sa_nil)) (len_cons (len_cons len_nil))))) (sw_or (st_cmp (op_eqD hr.units) ok_eq (se_pv (pv 7)) (se_tup sa_nil) rfl) (sw_or1 (st_cmp (op_neD hr.units) ok_ne (se_fn h_useless_kinds hr rfl tk (sa_cons (se_pv (pv 7)) sa_nil) (len_cons len_nil)) (se_tup sa_nil) rfl)))))
  (sss_one (ss_ret se_bl))
  ss_nil)
  (sss_cons (ss_set (m := false) (i := 8) nd_law rfl (by first | exact Or.inl rfl | exact Or.inr rfl) (se_lst (sa_cons (se_fn h__law_trips hr rfl tk (sa_cons (se_pv (pv 2)) (sa_cons se_int (sa_cons se_int sa_nil))) (len_cons (len_cons (len_cons len_nil)))) (sa_cons (se_fn h__law_trips hr rfl tk (sa_cons (se_pv (pv 2)) (sa_cons se_int (sa_cons se_int sa_nil))) (len_cons (len_cons (len_cons len_nil)))) (sa_cons (se_tuple rfl B.b_tuple (sa_cons (se_lc (own := [("k", 10)]) rfl nd_law (si_range1 rfl B.b_range (sa_cons se_int sa_nil)) (blkOk_by (N := N_law) (sc := defScope (top 41)) (by decide +kernel)) (by decide) (fun _ _ _ _ _ => (sg_name nd_law rfl (by first | exact Or.inl rfl | exact Or.inr rfl))) (fun _ _ _ _ _ => sts_nil) (fun _ _ _ _ _ => (se_tup (sa_cons (se_pv (pv 10)) (sa_cons (se_op op_pow ok_pow se_int se_int) sa_nil))))) sa_nil)) sa_nil)))))
  (sss_cons (ss_for po rfl (si_seq (se_pv (pv 8))) (sg_name nd_law rfl (by first | exact Or.inl rfl | exact Or.inr rfl))
  (sss_one (ss_if (st_cmp (op_neD hr.units) ok_ne (se_fn h__law_total hr rfl tk (sa_cons (se_pv (pv 5)) (sa_cons (se_pv (pv 9)) sa_nil)) (len_cons (len_cons len_nil))) (se_fn h__law_total hr rfl tk (sa_cons (se_pv (pv 7)) (sa_cons (se_pv (pv 9)) sa_nil)) (len_cons (len_cons len_nil))) rfl)
  (sss_one (ss_ret se_bl))
  ss_nil)))
  (sss_one (ss_for po rfl (si_enum rfl B.b_enumerate (sa_cons (se_pv (pv 5)) sa_nil)) (sg_tup rfl (sgs_cons (sg_name nd_law rfl (by first | exact Or.inl rfl | exact Or.inr rfl)) (sgs_cons (sg_tup rfl (sgs_cons (sg_name nd_law rfl (by first | exact Or.inl rfl | exact Or.inr rfl)) (sgs_cons (sg_name nd_law rfl (by first | exact Or.inl rfl | exact Or.inr rfl)) sgs_nil))) sgs_nil)))
  (sss_cons (ss_set (m := false) (i := 14) nd_law rfl (by first | exact Or.inl rfl | exact Or.inr rfl) (se_op op_addA ok_add (se_sl (se_pv (pv 5)) so_none (so_some (se_pv (pv 10)))) (se_sl (se_pv (pv 5)) (so_some (se_op op_addA ok_add (se_pv (pv 10)) se_int)) so_none)))
  (sss_cons (ss_set (m := false) (i := 15) nd_law rfl (by first | exact Or.inl rfl | exact Or.inr rfl) (se_tuple rfl B.b_tuple (sa_cons (se_lc (own := [("time", 18)]) rfl nd_law (si_range1 rfl B.b_range (sa_cons (se_pv (pv 11)) sa_nil)) (blkOk_by (N := N_law) (sc := defScope (top 41)) (by decide +kernel)) (by decide) (fun _ _ _ _ _ => (sg_name nd_law rfl (by first | exact Or.inl rfl | exact Or.inr rfl))) (fun _ _ _ _ _ => sts_nil) (fun _ _ _ _ _ => (se_tup (sa_cons (se_pv (pv 18)) (sa_cons (se_op op_pow ok_pow se_int se_int) sa_nil))))) sa_nil)))
  (sss_cons (ss_set (m := false) (i := 16) nd_law rfl (by first | exact Or.inl rfl | exact Or.inr rfl) (se_v (sv_and (sv_of (se_cmp (op_neD hr.units) ok_ne (se_pv (pv 14)) (se_tup sa_nil) rfl)) (sv_one (sv_of (se_cmp (op_eqD hr.units) ok_eq (se_fn h__law_total hr rfl tk (sa_cons (se_pv (pv 14)) (sa_cons (se_pv (pv 15)) sa_nil)) (len_cons (len_cons len_nil))) (se_fn h__law_total hr rfl tk (sa_cons (se_pv (pv 5)) (sa_cons (se_pv (pv 15)) sa_nil)) (len_cons (len_cons len_nil))) rfl))))))
  (sss_one (ss_if (st_cmp (op_neD hr.units) ok_ne (se_pv (pv 16)) (se_cmp op_in_seq ok_in (se_pv (pv 10)) (se_pv (pv 6)) rfl) rfl)
  (sss_one (ss_ret se_bl))
  ss_nil))))))))))))))))
  (sss_one (ss_forFn (i := 4) po rfl nd_law rfl (by first | exact Or.inl rfl | exact Or.inr rfl) rfl rfl h_useless_kinds.at h_essential_schedule.at
  (sss_one (ss_for po rfl (si_seq (se_lst (sa_cons se_non (sa_cons (se_tup sa_nil) (sa_cons (se_list rfl B.b_list (sa_cons (se_pv (pv 5)) sa_nil)) (sa_cons (se_tup (sa_cons (se_tup (sa_cons se_int (sa_cons se_int sa_nil))) (sa_cons (se_tup (sa_cons se_int (sa_cons se_int sa_nil))) sa_nil))) sa_nil)))))) (sg_name nd_law rfl (by first | exact Or.inl rfl | exact Or.inr rfl))
  (sss_one (ss_if (st_cmp (op_neD hr.units) ok_ne (se_try (k := 8) D_try rfl sc__law_try bd__law_try NM B.cls.F rfl rfl rfl rfl rfl rfl rfl rfl TB rfl tm (hr.mono (by decide)) (by decide) (LamX.lamS_by (sc := defScope (top 41)) (by decide +kernel)) rfl (fun _ _ _ _ _ => rfl) (fun _ _ _ _ _ _ _ hr => (se_callV (i := 4) hr rfl (by first | exact Or.inl rfl | exact Or.inr (Or.inl rfl) | exact Or.inr (Or.inr rfl)) (lk_cons ⟨_, _, h_useless_kinds, (by decide), rfl⟩ (lk_cons ⟨_, _, h_essential_schedule, (by decide), rfl⟩ lk_nil)) (L2N.takes_of rfl rfl rfl rfl) (sa_cons (se_pv (pv 13)) sa_nil) (len_cons len_nil)))) se_str rfl)
  (sss_one (ss_ret se_bl))
  ss_nil)))))))))
  (sss_cons (ss_if (st_w (sw_or (st_cmp (op_neD hr.units) ok_ne (se_fn h_useless_kinds hr rfl tk (sa_cons (se_tup (sa_cons (se_tup (sa_cons se_int (sa_cons se_int sa_nil))) sa_nil)) sa_nil) (len_cons len_nil)) (se_tup sa_nil) rfl) (sw_or1 (st_cmp (op_neD hr.units) ok_ne (se_fn h_useless_kinds hr rfl tk (sa_cons (se_tup (sa_cons (se_tup (sa_cons se_int (sa_cons se_int sa_nil))) (sa_cons (se_tup (sa_cons se_int (sa_cons se_int sa_nil))) (sa_cons (se_tup (sa_cons se_int (sa_cons se_int sa_nil))) sa_nil)))) sa_nil) (len_cons len_nil)) (se_tup (sa_cons se_int (sa_cons se_int sa_nil))) rfl))))
  (sss_one (ss_ret se_bl))
  ss_nil)
  (sss_cons (ss_if (st_w (sw_or (st_cmp (op_neD hr.units) ok_ne (se_fn h_useless_kinds hr rfl tk (sa_cons (se_tup (sa_cons (se_tup (sa_cons se_int (sa_cons se_int sa_nil))) (sa_cons (se_tup (sa_cons se_int (sa_cons se_int sa_nil))) (sa_cons (se_tup (sa_cons se_int (sa_cons se_int sa_nil))) sa_nil)))) sa_nil) (len_cons len_nil)) (se_tup (sa_cons se_int sa_nil)) rfl) (sw_or1 (st_cmp (op_neD hr.units) ok_ne (se_fn h_useless_kinds hr rfl tk (sa_cons (se_tup (sa_cons (se_tup (sa_cons se_int (sa_cons se_int sa_nil))) (sa_cons (se_tup (sa_cons se_int (sa_cons se_int sa_nil))) (sa_cons (se_tup (sa_cons se_int (sa_cons se_int sa_nil))) sa_nil)))) sa_nil) (len_cons len_nil)) (se_tup sa_nil) rfl))))
  (sss_one (ss_ret se_bl))
  ss_nil)
  (sss_one (ss_ret (se_v (sv_and (sv_of (se_cmp (op_eqD hr.units) ok_eq (se_fn h_useless_kinds hr rfl tk (sa_cons (se_tup (sa_cons (se_tup (sa_cons se_int (sa_cons se_int sa_nil))) (sa_cons (se_tup (sa_cons se_int (sa_cons se_int sa_nil))) sa_nil))) sa_nil) (len_cons len_nil)) (se_tup (sa_cons se_int sa_nil)) rfl)) (sv_one (sv_of (se_cmp (op_eqD hr.units) ok_eq (se_fn h_useless_kinds hr rfl tk (sa_cons (se_tup (sa_cons (se_tup (sa_cons se_int (sa_cons se_int sa_nil))) (sa_cons (se_tup (sa_cons se_int (sa_cons se_int sa_nil))) sa_nil))) sa_nil) (len_cons len_nil)) (se_tup sa_nil) rfl))))))))))
end
end Lk13
namespace RP
open PySem PySem.Spec L2 R RC
def kd (ks : List Int) : List (Key × PyData) := ks.map fun k => (Sum.inl k, PyData.bool true)
theorem kd_any {k : Int} : ∀ ks : List Int, ((kd ks).any fun kv => decide (kv.1 = (Sum.inl k : Key))) = decide (k ∈ ks)
  | [] => by simp [kd]
  | a :: r => by
    have := kd_any (k := k) r
    unfold kd at this ⊢
    rw [List.map_cons, List.any_cons, this]
    by_cases h : a = k
    · simp [h]
    · have h2 : ¬ k = a := fun z => h z.symm
      simp [h, h2]
theorem kd_rep {k : Int} : ∀ ks : List Int, ((kd ks).map fun kv => if kv.1 = (Sum.inl k : Key) then (kv.1, PyData.bool true) else kv) = kd ks
  | [] => rfl
  | a :: r => by
    have := kd_rep (k := k) r
    unfold kd at this ⊢
    rw [List.map_cons, List.map_cons, this]
    by_cases h : a = k <;> simp [h]
theorem kd_in {k : Int} {ks : List Int} (h : k ∈ ks) : putD (kd ks) (.inl k) (.bool true) = kd ks := by
  unfold putD
  rw [kd_any, decide_eq_true h, if_pos rfl, kd_rep]
theorem kd_out {k : Int} {ks : List Int} (h : k ∉ ks) : putD (kd ks) (.inl k) (.bool true) = kd (ks ++ [k]) := by
  unfold putD
  rw [kd_any, decide_eq_false h, if_neg (by decide)]
  simp [kd]
theorem kd_keys : ∀ ks : List Int, keysI (kd ks) = some ks
  | [] => rfl
  | a :: r => by
    show (keysI (kd r)).map (a :: ·) = _
    rw [kd_keys r]; rfl
@[simp] theorem kd_len {ks : List Int} : (kd ks).length = ks.length := by simp [kd]
theorem asc_of {l : List Int} (h : l.Pairwise (· ≤ ·)) (n : l.Nodup) : l.Pairwise (· < ·) := by
  have := h.and n
  exact this.imp fun {a b} x => by have := x.1; have := x.2; omega
theorem some_ok {m : Nat} {d : Int × Int × Int} (h : DkOk m d) {low high many : Int} (h1 : low ≤ high) (h2 : high - low < 2 ^ 40) (h3 : 0 < many) (h4 : many ≤ 1000) (hm : m + 2 * many.toNat < 2 ^ 30) :
    ∃ l d', g__law_some [.rf 0 (dkL d), .dat (.int low), .dat (.int high), .dat (.int many)] = .ok (.new (inz l)) (dkL d') ∧ DkOk (m + 2 * many.toNat) d' ∧ l.Pairwise (· < ·) ∧ (∀ k ∈ l, low ≤ k ∧ k ≤ high) ∧ l ≠ [] ∧ (l.length : Int) ≤ many := by
  have hmul : gMul (.int 2) (.int many) = _ := gMul_i (.inl ⟨by decide, by decide⟩)
  have hrg : gRng1 [.int (2 * many)] = _ := gRng1_i (by omega) (by omega)
  obtain ⟨Q, hQ⟩ : ∃ Q : Rv → List PyData → Prop, ∀ r l', Q r l' ↔ ∃ l d', r = .new (inz l) ∧ l' = dkL d' ∧ DkOk (m + 2 * many.toNat) d' ∧ l.Pairwise (· < ·) ∧ (∀ k ∈ l, low ≤ k ∧ k ≤ high) ∧ l ≠ [] ∧ (l.length : Int) ≤ many := ⟨_, fun _ _ => Iff.rfl⟩
  have key := fun_ex (n := 6) (fb := b__law_some) (args := [.rf 0 (dkL d), .dat (.int low), .dat (.int high), .dat (.int many)]) (Q := Q) ?_
  · obtain ⟨r, l', e, q⟩ := key
    obtain ⟨l, d', rfl, rfl, q2⟩ := (hQ _ _).mp q
    exact ⟨l, d', e, q2⟩
  simp [b__law_some, hmul, hrg]
  obtain ⟨I, hI⟩ : ∃ I : List PyData → Rho → Prop, ∀ rest ρ, I rest ρ ↔ ∃ ks d x, ρ = [.rf 0 (dkL d), .dat (.int low), .dat (.int high), .dat (.int many), .dk (kd ks), lv x] ∧ rest.length ≤ 2 * many.toNat ∧ DkOk (m + (2 * many.toNat - rest.length)) d ∧ ks.Nodup ∧ (∀ k ∈ ks, low ≤ k ∧ k ≤ high) ∧ (ks.length : Int) ≤ many ∧ (rest.length < 2 * many.toNat → ks ≠ []) := ⟨_, fun _ _ => Iff.rfl⟩
  refine loop_w I ?_ ?_ _ _ ((hI _ _).mpr ⟨[], d, none, rfl, ?_, ?_, .nil, by simp, by simp; omega, ?_⟩)
  · intro e rest ρ hi
    obtain ⟨ks, d, x, rfl, e1, e2, e3, e4, e5, e6⟩ := (hI _ _).mp hi
    simp at e1 e2
    simp
    split
    · rename_i hlt
      obtain ⟨r, d', g1, g2, g3, g4⟩ := pick_ok e2 (by omega) (n := high - low + 1) (by omega) (by omega)
      have hks : ks.length < 16777216 := by omega
      simp [g1, keyD, hks]
      by_cases hk : low + r ∈ ks
      · rw [kd_in hk]
        exact (hI _ _).mpr ⟨ks, d', some e, rfl, by omega, g2.mono (by omega), e3, e4, e5, fun _ => List.ne_nil_of_mem hk⟩
      · rw [kd_out hk]
        refine (hI _ _).mpr ⟨ks ++ [low + r], d', some e, rfl, by omega, g2.mono (by omega), ?_, ?_, by simp; omega, by simp⟩
        · rw [List.nodup_append]
          exact ⟨e3, by simp, fun a ha b hb => by
            rw [List.mem_singleton] at hb
            rintro rfl
            exact hk (hb ▸ ha)⟩
        · intro k hk
          rcases List.mem_append.mp hk with hk | hk
          · exact e4 k hk
          · rw [List.mem_singleton] at hk
            omega
    · rename_i hlt
      refine (hI _ _).mpr ⟨ks, d, some e, rfl, by omega, e2.mono (by omega), e3, e4, e5, fun _ z => ?_⟩
      subst z
      simp at hlt
      omega
  · intro ρ hi
    obtain ⟨ks, d, x, rfl, e1, e2, e3, e4, e5, e6⟩ := (hI _ _).mp hi
    simp [kd_keys]
    have hp := srtI_perm ks
    refine (hQ _ _).mpr ⟨srtI ks, d, rfl, rfl, by simpa using e2, asc_of (srtI_le ks) (hp.nodup_iff.mpr e3), fun k hk => e4 k (hp.mem_iff.mp hk), fun z => ?_, by rw [hp.length_eq]; exact e5⟩
    rw [z] at hp
    exact e6 (by simp; omega) hp.symm.eq_nil
  · simp; omega
  · exact h.mono (by omega)
  · simp; omega
theorem asc_sch {s : List (Int × Int)} {a b : Int} (h : (s.map (·.1)).Pairwise (· < ·)) : (s.zip (s.drop 1)).all (fun x => decide (x.1.1 < x.2.1)) = true := by
  rw [List.all_eq_true]
  intro x hx
  obtain ⟨i, hi, e⟩ := List.getElem_of_mem hx
  have hi' := hi
  simp at hi
  rw [List.getElem_zip] at e
  subst e
  have := List.pairwise_iff_getElem.mp h i (i + 1) (by simp; omega) (by simp; omega) (by omega)
  simpa using this
theorem le_trp {s : List (Int × Int)} (h : (s.map (·.1)).Pairwise (· ≤ ·)) : (s.zip (s.drop 1)).all (fun x => decide (x.1.1 ≤ x.2.1)) = true := by
  rw [List.all_eq_true]
  intro x hx
  obtain ⟨i, hi, e⟩ := List.getElem_of_mem hx
  have hi' := hi
  simp at hi
  rw [List.getElem_zip] at e
  subst e
  have := List.pairwise_iff_getElem.mp h i (i + 1) (by simp; omega) (by simp; omega) (by omega)
  simpa using this
theorem schedule_ok {m : Nat} {d : Int × Int × Int} (h : DkOk m d) {many longest : Int} (h1 : 1 ≤ many) (h2 : many ≤ 5) (h3 : 1 ≤ longest) (h4 : longest ≤ 400) (hm : m + 100 < 2 ^ 30) :
    ∃ s d', g__law_schedule [.rf 0 (dkL d), .dat (.int many), .dat (.int longest)] = .ok (.dat (.tuple (prs s))) (dkL d') ∧ DkOk (m + 100) d' ∧ schB s = true ∧ (s.length : Int) ≤ many ∧ ∀ p ∈ s, p.1 ≤ longest := by
  obtain ⟨Q, hQ⟩ : ∃ Q : Rv → List PyData → Prop, ∀ r l', Q r l' ↔ ∃ s d', r = .dat (.tuple (prs s)) ∧ l' = dkL d' ∧ DkOk (m + 100) d' ∧ schB s = true ∧ (s.length : Int) ≤ many ∧ ∀ p ∈ s, p.1 ≤ longest := ⟨_, fun _ _ => Iff.rfl⟩
  have key := fun_ex (n := 6) (fb := b__law_schedule) (args := [.rf 0 (dkL d), .dat (.int many), .dat (.int longest)]) (Q := Q) ?_
  · obtain ⟨r, l', e, q⟩ := key
    obtain ⟨s, d', rfl, rfl, q2⟩ := (hQ _ _).mp q
    exact ⟨s, d', e, q2⟩
  obtain ⟨r, d1, g1, g2, g3, g4⟩ := pick_ok h (by omega) (n := many) (by omega) (by omega)
  obtain ⟨ls, d2, k1, k2, k3, k4, k5, k6⟩ := some_ok g2 (low := 1) (high := longest) (many := 1 + r) h3 (by omega) (by omega) (by omega) (by omega)
  simp [b__law_schedule, g1, k1]
  obtain ⟨I, hI⟩ : ∃ I : List PyData → Rho → Prop, ∀ rest ρ, I rest ρ ↔ ∃ s todo d x y, rest = inz todo ∧ ρ = [.rf 0 (dkL d), .dat (.int many), .dat (.int longest), .ls (prs s), lv x, lv y] ∧ s.map (·.1) ++ todo = ls ∧ (∀ p ∈ s, 1 ≤ p.2 ∧ p.2 ≤ 1000000) ∧ DkOk (m + 100 - 2 * todo.length) d := ⟨_, fun _ _ => Iff.rfl⟩
  refine loop_w I ?_ ?_ _ _ ((hI _ _).mpr ⟨[], ls, d2, none, none, rfl, rfl, by simp, by simp, k2.mono (by omega)⟩)
  · intro e rest ρ hi
    obtain ⟨s, todo, d, x, y, e1, rfl, e2, e3, e4⟩ := (hI _ _).mp hi
    cases todo with
    | nil => cases e1
    | cons a todo =>
      cases e1
      have hs : s.length < 16777216 := by
        have := congrArg List.length e2
        simp at this
        omega
      have ha : a ∈ ls := by rw [← e2]; simp
      have ha2 := k4 a ha
      have hl2 : todo.length + 1 ≤ 5 := by
        have := congrArg List.length e2
        simp at this
        omega
      simp at e4
      obtain ⟨v, d3, m1, m2, m3⟩ := one_ok e4 (by omega) (L := [.int 9, .int (4 * a + 1), .int 60, .int 1000000]) (by simp) (by simp)
      have hv : ∃ n : Int, v = .int n ∧ 1 ≤ n ∧ n ≤ 1000000 := by
        simp at m1
        rcases m1 with rfl | rfl | rfl | rfl
        · exact ⟨_, rfl, by omega, by omega⟩
        · exact ⟨_, rfl, by omega, by omega⟩
        · exact ⟨_, rfl, by omega, by omega⟩
        · exact ⟨_, rfl, by omega, by omega⟩
      obtain ⟨n, rfl, n1, n2⟩ := hv
      obtain ⟨q, d4, q1, q2, q3, q4⟩ := pick_ok m3 (by omega) (n := n) (by omega) (by omega)
      have hmul : gMul (.int 4) (.int a) = _ := gMul_i (.inl ⟨by decide, by decide⟩)
      have hpow : gPow (.int 10) (.int 6) = some (.dat (.int 1000000)) := gPow_i (by decide)
      simp [hmul, hpow, m2, q1, hs]
      exact (hI _ _).mpr ⟨s ++ [(a, min 1000000 (1 + q))], todo, d4, some _, some _, rfl, rfl, by simpa using e2, fun p hp => by
        rcases List.mem_append.mp hp with hp | hp
        · exact e3 p hp
        · rw [List.mem_singleton] at hp
          subst hp
          dsimp only
          omega, q2.mono (by omega)⟩
  · intro ρ hi
    obtain ⟨s, todo, d, x, y, e1, rfl, e2, e3, e4⟩ := (hI _ _).mp hi
    cases todo with
    | cons a todo => cases e1
    | nil =>
      simp
      have e2 : s.map (·.1) = ls := by simpa using e2
      have hlen : s.length = ls.length := by rw [← e2]; simp
      have hls : 0 < ls.length := List.length_pos_iff.mpr k5
      refine (hQ _ _).mpr ⟨s, d, rfl, rfl, by simpa using e4, ?_, by omega, fun p hp => (k4 p.1 (by rw [← e2]; exact List.mem_map.mpr ⟨p, hp, rfl⟩)).2⟩
      unfold schB
      rw [asc_sch (a := 0) (b := 0) (by rw [e2]; exact k3)]
      have ha : s.all (inB (1, 400) (1, 1000000)) = true := by
        rw [List.all_eq_true]
        intro p hp
        have h1 := k4 p.1 (by rw [← e2]; exact List.mem_map.mpr ⟨p, hp, rfl⟩)
        have h2 := e3 p hp
        exact decide_eq_true (by dsimp only; omega)
      rw [ha, decide_eq_true (by omega)]
      rfl
end RP
namespace RP
open PySem PySem.Spec L2 R RC
theorem trips_ok {m : Nat} {d : Int × Int × Int} (h : DkOk m d) {many span : Int} (h1 : 0 ≤ many) (h2 : many ≤ 40) (h3 : 0 ≤ span) (h4 : span < 1000000000) (hm : m + 100 < 2 ^ 30) :
    ∃ s d', g__law_trips [.rf 0 (dkL d), .dat (.int many), .dat (.int span)] = .ok (.dat (.tuple (prs s))) (dkL d') ∧ DkOk (m + 100) d' ∧ trpB s = true ∧ (s.length : Int) ≤ many := by
  obtain ⟨Q, hQ⟩ : ∃ Q : Rv → List PyData → Prop, ∀ r l', Q r l' ↔ ∃ s d', r = .dat (.tuple (prs s)) ∧ l' = dkL d' ∧ DkOk (m + 100) d' ∧ trpB s = true ∧ (s.length : Int) ≤ many := ⟨_, fun _ _ => Iff.rfl⟩
  have key := fun_ex (n := 8) (fb := b__law_trips) (args := [.rf 0 (dkL d), .dat (.int many), .dat (.int span)]) (Q := Q) ?_
  · obtain ⟨r, l', e, q⟩ := key
    obtain ⟨s, d', rfl, rfl, q2⟩ := (hQ _ _).mp q
    exact ⟨s, d', e, q2⟩
  have hpow : gPow (.int 10) (.int 9) = some (.dat (.int 1000000000)) := gPow_i (by decide)
  have hpow6 : gPow (.int 10) (.int 6) = some (.dat (.int 1000000)) := gPow_i (by decide)
  obtain ⟨r, d1, g1, g2, g3, g4⟩ := pick_ok h (by omega) (n := 1000000000 - span) (by omega) (by omega)
  obtain ⟨v, d2, m1, m2, m3⟩ := one_ok g2 (by omega) (L := [.int 0, .int 0, .int r]) (by simp) (by simp)
  have hv : ∃ n : Int, v = .int n ∧ 0 ≤ n ∧ n + span ≤ 1000000000 := by
    simp at m1
    rcases m1 with rfl | rfl
    · exact ⟨_, rfl, by omega, by omega⟩
    · exact ⟨_, rfl, by omega, by omega⟩
  obtain ⟨b, rfl, b1, b2⟩ := hv
  obtain ⟨c, d3, c1, c2, c3, c4⟩ := pick_ok m3 (by omega) (n := many + 1) (by omega) (by omega)
  have hrg : gRng1 [.int c] = _ := gRng1_i (by omega) c3
  simp [b__law_trips, g1, hpow, m2, c1, hrg]
  obtain ⟨I, hI⟩ : ∃ I : List PyData → List PyData → Rho → Prop, ∀ rest acc ρ, I rest acc ρ ↔ ∃ ts d, acc = inz ts ∧ ρ = [.rf 0 (dkL d), .dat (.int many), .dat (.int span), .dat (.int b), .un, .un, .un, .un] ∧ ts.length + rest.length = c.toNat ∧ (∀ t ∈ ts, 0 ≤ t ∧ t ≤ 1000000000) ∧ DkOk (m + 3 + ts.length) d := ⟨_, fun _ _ _ => Iff.rfl⟩
  have c1' := comp_w (E := fun _ _ => False) (vs := [6]) (g := tgN 6) (t := dYes) (e := dOp2 gAdd (dVar 3) (dCall g__law_pick [true, false] (dCons (dVar 0) (dCons (dOp2 gAdd (dVar 2) (dC (.int 1))) dNil)))) I ?_ _ [] _ ((hI ((List.range c.toNat).map fun (i : Nat) => PyData.int (i : Int)) _ _).mpr ⟨[], d3, rfl, rfl, by simp, by simp, c2.mono (by simp)⟩)
  · refine c1'.mono (fun l ρ' q => ?_) fun _ _ q => q.elim
    obtain ⟨ts, d4, e1, rfl, e2, e3, e4⟩ := (hI _ _ _).mp q
    have e1 : l = inz ts := e1
    subst e1
    have e2 : ts.length = c.toNat := by simpa using e2
    obtain ⟨v, d5, m1, m2, m3⟩ := one_ok e4 (by omega) (L := [.int 3, .int 10, .int 60, .int 1000000]) (by simp) (by simp)
    have hv : ∃ n : Int, v = .int n ∧ 0 ≤ n ∧ n ≤ 1000000 := by
      simp at m1
      rcases m1 with rfl | rfl | rfl | rfl <;> exact ⟨_, rfl, by omega, by omega⟩
    obtain ⟨top, rfl, t1, t2⟩ := hv
    simp [hpow6, m2]
    obtain ⟨J, hJ⟩ : ∃ J : List PyData → List PyData → Rho → Prop, ∀ rest acc ρ, J rest acc ρ ↔ ∃ s todo d, acc = prs s ∧ rest = inz todo ∧ ρ = [.rf 0 (dkL d), .dat (.int many), .dat (.int span), .dat (.int b), .dat (.list (inz (srtI ts))), .dat (.int top), .un, .un] ∧ s.map (·.1) ++ todo = srtI ts ∧ (∀ p ∈ s, 0 ≤ p.2 ∧ p.2 ≤ 1000000) ∧ DkOk (m + 5 + ts.length + s.length) d := ⟨_, fun _ _ _ => Iff.rfl⟩
    have c2' := comp_w (E := fun _ _ => False) (vs := [7]) (g := tgN 7) (t := dYes) (e := dDisp mkTup (dCons (dVar 7) (dCons (dCall g__law_pick [true, false] (dCons (dVar 0) (dCons (dOp2 gAdd (dVar 5) (dC (.int 1))) dNil))) dNil))) J ?_ _ [] _ ((hJ _ _ _).mpr ⟨[], srtI ts, d5, rfl, rfl, rfl, by simp, by simp, m3.mono (by simp; omega)⟩)
    · refine c2'.mono (fun l ρ' q => ?_) fun _ _ q => q.elim
      obtain ⟨s, todo, d6, f1, f2, rfl, f3, f4, f5⟩ := (hJ _ _ _).mp q
      have f1 : l = prs s := f1
      subst f1
      cases todo with
      | cons a todo => cases f2
      | nil =>
        have f3 : s.map (·.1) = srtI ts := by simpa using f3
        have hp := srtI_perm ts
        have hl : s.length = ts.length := by
          have := congrArg List.length f3
          rw [hp.length_eq] at this
          simpa using this
        simp
        refine (hQ _ _).mpr ⟨s, d6, rfl, rfl, f5.mono (by omega), ?_, by omega⟩
        unfold trpB
        rw [le_trp (by rw [f3]; exact srtI_le ts)]
        have ha : s.all (inB (0, 1000000000) (0, 1000000)) = true := by
          rw [List.all_eq_true]
          intro p hp'
          have h1 := e3 p.1 (hp.mem_iff.mp (by rw [← f3]; exact List.mem_map.mpr ⟨p, hp', rfl⟩))
          have h2 := f4 p hp'
          exact decide_eq_true (by dsimp only; omega)
        rw [ha, decide_eq_true (by omega)]
        rfl
    · intro x rest acc ρ hi
      obtain ⟨s, todo, d6, rfl, f2, rfl, f3, f4, f5⟩ := (hJ _ _ _).mp hi
      cases todo with
      | nil => cases f2
      | cons a todo =>
        cases f2
        have hp := srtI_perm ts
        have hl : s.length + todo.length + 1 = ts.length := by
          have := congrArg List.length f3
          rw [hp.length_eq] at this
          simp at this
          omega
        obtain ⟨q, d7, q1, q2, q3, q4⟩ := pick_ok f5 (by omega) (n := top + 1) (by omega) (by omega)
        simp [q1]
        exact (hJ _ _ _).mpr ⟨s ++ [(a, q)], todo, d7, rfl, rfl, rfl, by simpa using f3, fun p hp => by
          rcases List.mem_append.mp hp with hp | hp
          · exact f4 p hp
          · rw [List.mem_singleton] at hp
            subst hp
            dsimp only
            omega, q2.mono (by simp; omega)⟩
  · intro x rest acc ρ hi
    obtain ⟨ts, d4, rfl, rfl, e2, e3, e4⟩ := (hI _ _ _).mp hi
    simp at e2
    obtain ⟨q, d7, q1, q2, q3, q4⟩ := pick_ok e4 (by omega) (n := span + 1) (by omega) (by omega)
    simp [q1]
    exact (hI _ _ _).mpr ⟨ts ++ [b + q], d7, rfl, rfl, by simp; omega, fun p hp => by
      rcases List.mem_append.mp hp with hp | hp
      · exact e3 p hp
      · rw [List.mem_singleton] at hp
        omega, q2.mono (by simp; omega)⟩
end RP
namespace RP
open PySem PySem.Spec L2 R RC
theorem foldl_min : ∀ (l : List Int) (a b : Int), l.foldl min (min a b) = min a (l.foldl min b)
  | [], a, b => rfl
  | x :: r, a, b => by
    show r.foldl min (min (min a b) x) = min a (r.foldl min (min b x))
    rw [← foldl_min r a (min b x)]
    congr 1
    omega
theorem mn_cons {f : Int} {l : List Int} (h : l ≠ []) : mnL f l = min f (minL l) := by
  cases l with
  | nil => exact absurd rfl h
  | cons a r => exact foldl_min r f a
def lw : Option (List PyData) → Sl
  | some d => .ls d
  | none => .un
@[simp] theorem lw_s {d : List PyData} : lw (some d) = .ls d := rfl
@[simp] theorem lw_n : lw none = .un := rfl
@[simp] theorem outOf_lw {o : Option (List PyData)} {r : Rho} : outOf (lw o :: r) = outOf r := by cases o <;> rfl
theorem range_fm {α β : Type} {l : List α} {h : α → Option β} : ∀ n : Nat, n ≤ l.length → (List.range n).filterMap (fun i => (l[i]?).bind h) = (l.take n).filterMap h
  | 0, _ => by simp
  | n + 1, hn => by
    rw [List.range_succ, List.filterMap_append, range_fm n (by omega), List.take_add_one, List.filterMap_append]
    congr 1
    have e0 : l[n]? = some l[n] := by simp
    have e1 : (l[n]?).toList = [l[n]] := by rw [e0]; rfl
    rw [e1]
    simp only [List.filterMap_cons, e0, Option.bind_some, List.filterMap_nil]
def unI (h : Nat → Option PyData) : PyData → Option PyData
  | .int k => h k.toNat
  | _ => none
theorem fm_past {c : Int × Int → Bool} : ∀ past : List (Int × Int), past.filterMap (fun q => if c q = true then some (PyData.int q.2) else none) = inz ((past.filter c).map (·.2))
  | [] => rfl
  | q :: r => by
    rw [List.filterMap_cons, List.filter_cons]
    by_cases h : c q = true
    · simp [h, fm_past r, inz_cons]
    · simp [h, fm_past r]
theorem range_prs {past : List (Int × Int)} {c : Int × Int → Bool} : ((List.range past.length).map fun (i : Nat) => PyData.int (i : Int)).filterMap (unI fun i => (past[i]?).bind fun q => if c q then some (.int q.2) else none) = inz ((past.filter c).map (·.2)) := by
  rw [List.filterMap_map]
  have e : (unI (fun i => (past[i]?).bind fun q => if c q then some (.int q.2) else none)) ∘ (fun (i : Nat) => PyData.int (i : Int)) = fun i => (past[i]?).bind fun q => if c q then some (.int q.2) else none := by
    funext i
    simp [unI]
  rw [e, range_fm past.length (Nat.le_refl _), List.take_length, fm_past]
theorem law_charges_ok (s trips : List (Int × Int)) (hs : s ≠ []) (hz : s.length < 1000) (ht : trips.length < 1000) : g__law_charges [.dat (.tuple (prs s)), .dat (.tuple (prs trips))] = .ok (.new (inz (chs s trips))) [] := by
  apply fun_ok
  simp [b__law_charges]
  obtain ⟨I, hI⟩ : ∃ I : List PyData → Rho → Prop, ∀ rest ρ, I rest ρ ↔ ∃ past todo x y z rm l p, rest = enumD past.length (prs todo) ∧ ρ = [.dat (.tuple (prs s)), .dat (.tuple (prs trips)), .ls (inz (past.map (·.2))), lv x, lv y, lv z, lw rm, lv l, lv p, .un] ∧ chG s [] trips = chG s past todo ∧ past.map (·.1) ++ todo.map (·.1) = trips.map (·.1) := ⟨_, fun _ _ => Iff.rfl⟩
  refine loop_w I ?_ ?_ _ _ ((hI _ _).mpr ⟨[], trips, none, none, none, none, none, none, rfl, rfl, rfl, by simp⟩)
  · intro d rest ρ hi
    obtain ⟨past, todo, x, y, z, rm, l, p, e1, rfl, e2, e3⟩ := (hI _ _).mp hi
    cases todo with
    | nil => cases e1
    | cons q todo =>
      cases e1
      have hlen : past.length + (todo.length + 1) = trips.length := by
        have := congrArg List.length e3
        simpa using this
      simp
      obtain ⟨J, hJ⟩ : ∃ J : List PyData → Rho → Prop, ∀ rest ρ, J rest ρ ↔ ∃ done todo2 l p, s = done ++ todo2 ∧ rest = prs todo2 ∧ ρ = [.dat (.tuple (prs s)), .dat (.tuple (prs trips)), .ls (inz (past.map (·.2))), .dat (.int (past.length : Int)), .dat (.int q.1), .dat (.int q.2), .ls (.int q.2 :: inz (done.map (roomL past q.1))), lv l, lv p, .un] := ⟨_, fun _ _ => Iff.rfl⟩
      refine loop_w J ?_ ?_ _ _ ((hJ _ _).mpr ⟨[], s, l, p, rfl, rfl, rfl⟩)
      · intro d rest ρ hj
        obtain ⟨done, todo2, l, p, f1, f2, rfl⟩ := (hJ _ _).mp hj
        cases todo2 with
        | nil => cases f2
        | cons k todo2 =>
          cases f2
          have hrg : gRng1 [.int (past.length : Int)] = some ((List.range past.length).map fun (i : Nat) => PyData.int (i : Int)) := gRng1_i (by omega) (by omega)
          simp [hrg]
          refine post_of (comp_map (f := unI fun i => (past[i]?).bind fun w => if decide (q.1 - k.1 < w.1) then some (.int w.2) else none) ?_) ?_
          · intro d hd
            obtain ⟨i, hi, rfl⟩ := List.mem_map.mp hd
            rw [List.mem_range] at hi
            have hti : i < trips.length := by omega
            have e5 : past[i].1 = trips[i].1 := by
              have h1 : (past.map (·.1) ++ (q :: todo).map (·.1))[i]? = (trips.map (·.1))[i]? := by rw [e3]
              rw [List.getElem?_append_left (by simpa using hi)] at h1
              simp [hi, hti] at h1
              exact h1
            have a1 : atI (prs trips) (i : Int) = some (pr trips[i]) := by rw [atI_n, prs_get]; simp [hti]
            have a2 : atI (inz (past.map (·.2))) (i : Int) = some (.int past[i].2) := by rw [atI_n, inz_get]; simp [hi]
            simp [a1, a2, unI, hi, e5]
          · rw [range_prs]
            have fs : done.length + (todo2.length + 1) = s.length := by rw [f1]; simp
            simp
            refine ⟨by omega, (hJ _ _).mpr ⟨done ++ [k], todo2, some (.int k.1), some (.int k.2), by simp [f1], rfl, ?_⟩⟩
            simp [roomL, inz_cons]
      · intro ρ hj
        obtain ⟨done, todo2, l, p, f1, f2, rfl⟩ := (hJ _ _).mp hj
        cases todo2 with
        | cons k todo2 => cases f2
        | nil =>
          have f1 : s = done := by simpa using f1
          subst f1
          have hm : (s.map (roomL past q.1)) ≠ [] := by simpa using hs
          have hl : past.length < 16777216 := by omega
          simp [hl, mn_cons hm]
          refine (hI _ _).mpr ⟨past ++ [(q.1, min q.2 (room s past q.1))], todo, some (.int (past.length : Int)), some (.int q.1), some (.int q.2), some (.int q.2 :: inz (s.map (roomL past q.1))), l, p, ?_, ?_, e2, ?_⟩
          · simp; rfl
          · simp [room]
          · simpa using e3
  · intro ρ hi
    obtain ⟨past, todo, x, y, z, rm, l, p, e1, rfl, e2, e3⟩ := (hI _ _).mp hi
    cases todo with
    | cons q todo => cases e1
    | nil => simp [chs, e2, chG]
theorem chG_take (s : List (Int × Int)) : ∀ (trips past : List (Int × Int)) (n : Nat), chG s past (trips.take n) = (chG s past trips).take (past.length + n)
  | [], past, n => by simp [chG, List.take_of_length_le]
  | p :: r, past, 0 => by
    simp [chG]
    have := chG_take s r (past ++ [(p.1, min p.2 (room s past p.1))]) 0
    simp [chG] at this
    have h2 := congrArg (List.take past.length) this
    rw [List.take_take, Nat.min_eq_left (by simp)] at h2
    simpa using h2
  | p :: r, past, n + 1 => by
    simp only [List.take_succ_cons, chG]
    rw [chG_take s r]
    congr 1
    simp
    omega
theorem chs_take (s trips : List (Int × Int)) (n : Nat) : chs s (trips.take n) = (chs s trips).take n := by
  unfold chs
  rw [chG_take]
  simp [List.map_take]
theorem trp_take {t : List (Int × Int)} (h : trpB t = true) (n : Nat) : trpB (t.take n) = true := by
  unfold trpB at h ⊢
  simp only [Bool.and_eq_true, decide_eq_true_eq] at h ⊢
  obtain ⟨⟨h1, h2⟩, h3⟩ := h
  refine ⟨⟨by simp; omega, ?_⟩, ?_⟩
  · rw [List.all_eq_true] at h2 ⊢
    exact fun x hx => h2 x (List.mem_of_mem_take hx)
  · rw [List.all_eq_true] at h3 ⊢
    intro x hx
    refine h3 x ?_
    obtain ⟨i, hi, e⟩ := List.getElem_of_mem hx
    have hi' := hi
    simp at hi
    rw [List.getElem_zip] at e
    simp at e
    rw [List.mem_iff_getElem]
    exact ⟨i, by simp; omega, by rw [List.getElem_zip]; simpa using e⟩
theorem cut_prs {t : List (Int × Int)} {r : Int} (h : 0 ≤ r) : cut (prs t) none (some r) = prs (t.take r.toNat) := by
  unfold prs
  rw [cut_map]
  have := cut_take (l := t) (n := r.toNat)
  rw [show ((r.toNat : Nat) : Int) = r by omega] at this
  rw [this]
theorem cut_inz {t : List Int} {r : Int} (h : 0 ≤ r) : cut (inz t) none (some r) = inz (t.take r.toNat) := by
  unfold inz
  rw [cut_map]
  have := cut_take (l := t) (n := r.toNat)
  rw [show ((r.toNat : Nat) : Int) = r by omega] at this
  rw [this]
theorem pl_li (n : Nat) (l : List Int) : pl (n + 1) (.list (inz l)) = true := by simp only [pl]; exact plA_map (fun x => by simp [pl]) l
theorem pl_i (n : Nat) (i : Int) : pl n (.int i) = true := by cases n <;> rfl
theorem gNe_li {l m : List Int} : gNe (.list (inz l)) (.list (inz m)) = some (.dat (.bool (!decide (l = m)))) := by rw [gNe_of sh_li sh_li, eqv_li]
theorem gEq_li {l m : List Int} : gEq (.list (inz l)) (.list (inz m)) = some (.dat (.bool (decide (l = m)))) := by rw [gEq_of sh_li sh_li, eqv_li]
end RP
namespace RP
open PySem R
/-! ### the mathematics: passes, what they cover, what is left; the total is the least cost -/
abbrev Pr := Int × Int
/-- the amounts at the times c -/
def sq : List Pr → (Int → Bool) → Int
  | [], _ => 0
  | a :: l, c => (if c a.1 = true then a.2 else 0) + sq l c
theorem sq_nil {c : Int → Bool} : sq [] c = 0 := rfl
theorem sq_cons {c : Int → Bool} (a : Pr) (l : List Pr) : sq (a :: l) c = (if c a.1 = true then a.2 else 0) + sq l c := rfl
def yes : Int → Bool := fun _ => true
theorem sq_eq {c : Int → Bool} : ∀ l : List Pr, sq l c = ((l.filter fun q => c q.1).map (·.2)).sum
  | [] => rfl
  | a :: l => by
    rw [sq_cons, sq_eq l, List.filter_cons]
    by_cases h : c a.1 = true
    · rw [if_pos h, if_pos h]; simp
    · rw [if_neg h, if_neg h]; simp
section
variable {c c' c1 c2 : Int → Bool} {l m : List Pr}
def Nn (l : List Pr) : Prop := ∀ a ∈ l, 0 ≤ a.2
theorem Nn.tail {a : Pr} (h : Nn (a :: l)) : Nn l := fun b m => h b (List.mem_cons_of_mem _ m)
theorem Nn.head {a : Pr} (h : Nn (a :: l)) : 0 ≤ a.2 := h a List.mem_cons_self
theorem sq_app : ∀ l m : List Pr, sq (l ++ m) c = sq l c + sq m c
  | [], m => by simp [sq_nil]
  | a :: l, m => by rw [List.cons_append, sq_cons, sq_cons, sq_app l m]; omega
theorem sq_le : ∀ {l : List Pr}, Nn l → (∀ a ∈ l, c a.1 = true → c' a.1 = true) → sq l c ≤ sq l c'
  | [], _, _ => Int.le_refl _
  | a :: l, h, hc => by
    rw [sq_cons, sq_cons]
    have i := sq_le (l := l) h.tail (fun b m => hc b (List.mem_cons_of_mem _ m))
    have h1 := h.head
    have h2 := hc a List.mem_cons_self
    by_cases e : c a.1 = true
    · rw [if_pos e, if_pos (h2 e)]; omega
    · rw [if_neg e]
      split <;> omega
theorem sq_congr : ∀ {l : List Pr}, (∀ a ∈ l, c a.1 = c' a.1) → sq l c = sq l c'
  | [], _ => rfl
  | a :: l, hc => by
    rw [sq_cons, sq_cons, sq_congr (l := l) (fun b m => hc b (List.mem_cons_of_mem _ m)), hc a List.mem_cons_self]
theorem sq_nn : ∀ {l : List Pr}, Nn l → 0 ≤ sq l c
  | [], _ => Int.le_refl _
  | a :: l, h => by
    rw [sq_cons]
    have i := sq_nn (l := l) h.tail
    have h1 := h.head
    split <;> omega
theorem sq_zero : ∀ {l : List Pr}, (∀ a ∈ l, c a.1 = false) → sq l c = 0
  | [], _ => rfl
  | a :: l, hc => by
    rw [sq_cons, sq_zero (l := l) (fun b m => hc b (List.mem_cons_of_mem _ m)), if_neg (by rw [hc a List.mem_cons_self]; decide)]; rfl
theorem sq_split : ∀ l : List Pr, sq l c + sq l (fun t => !c t) = sq l yes
  | [] => rfl
  | a :: l => by
    have := sq_split l
    rw [sq_cons, sq_cons, sq_cons]
    have : yes a.1 = true := rfl
    rw [if_pos this]
    cases h : c a.1 <;> simp <;> omega
theorem sq_or : ∀ {l : List Pr}, Nn l → sq l (fun t => c1 t || c2 t) ≤ sq l c1 + sq l c2
  | [], _ => Int.le_refl _
  | a :: l, h => by
    rw [sq_cons, sq_cons, sq_cons]
    have i := sq_or (l := l) h.tail
    have h1 := h.head
    cases h2 : c1 a.1 <;> cases h3 : c2 a.1 <;> simp <;> omega
theorem sq_filter {d : Int → Bool} : ∀ l : List Pr, sq (l.filter fun q => d q.1) c = sq l (fun t => c t && d t)
  | [] => rfl
  | a :: l => by
    rw [List.filter_cons]
    have := sq_filter (d := d) l
    by_cases h : d a.1 = true
    · rw [if_pos h, sq_cons, sq_cons, this, h, Bool.and_true]
    · rw [if_neg h, sq_cons, this]
      have : d a.1 = false := by simpa using h
      rw [this, Bool.and_false, if_neg (by decide)]; omega
theorem sq_perm (h : l.Perm m) : sq l c = sq m c := by
  induction h with
  | nil => rfl
  | cons a _ ih => rw [sq_cons, sq_cons, ih]
  | swap a b l => rw [sq_cons, sq_cons, sq_cons, sq_cons]; omega
  | trans _ _ i j => exact i.trans j
theorem sq_sub (h : l.Sublist m) : Nn m → sq l c ≤ sq m c := by
  induction h with
  | slnil => intro _; exact Int.le_refl _
  | cons a h ih =>
    intro hf
    have := ih hf.tail
    have h1 := hf.head
    rw [sq_cons]
    split <;> omega
  | cons_cons a h ih =>
    intro hf
    have := ih hf.tail
    rw [sq_cons, sq_cons]
    omega
theorem sq_yes : ∀ l : List Pr, sq l yes = (l.map (·.2)).sum
  | [] => rfl
  | a :: l => by rw [sq_cons, sq_yes l, List.map_cons, List.sum_cons, if_pos (show yes a.1 = true from rfl)]
end
/-- a pass: its beginning, its kind -/
abbrev Ps := Int × Pr
def inP (q : Ps) (t : Int) : Bool := decide (q.1 ≤ t ∧ t < q.1 + q.2.1)
theorem inP_t {q : Ps} {t : Int} : inP q t = true ↔ q.1 ≤ t ∧ t < q.1 + q.2.1 := by simp [inP]
theorem inP_f {q : Ps} {t : Int} : inP q t = false ↔ ¬ (q.1 ≤ t ∧ t < q.1 + q.2.1) := by unfold inP; exact decide_eq_false_iff_not
def cov (ps : List Ps) (t : Int) : Bool := ps.any fun q => inP q t
def unc (ps : List Ps) (t : Int) : Bool := !cov ps t
def pric (ps : List Ps) : Int := (ps.map fun q => q.2.2).sum
theorem pric_cons (q : Ps) (ps : List Ps) : pric (q :: ps) = q.2.2 + pric ps := by simp [pric]
def cost (ps : List Ps) (l : List Pr) : Int := pric ps + sq l (unc ps)
def Vl (s : List Pr) (ps : List Ps) : Prop := ∀ q ∈ ps, q.2 ∈ s
theorem cov_cons {q : Ps} {ps : List Ps} {t : Int} : cov (q :: ps) t = (inP q t || cov ps t) := rfl
theorem unc_cons {q : Ps} {ps : List Ps} {t : Int} : unc (q :: ps) t = (!inP q t && unc ps t) := by unfold unc; rw [cov_cons]; cases inP q t <;> rfl
/-- v is the least cost of the trips l -/
structure IsT (s : List Pr) (l : List Pr) (v : Int) : Prop where
  ub : ∃ ps, Vl s ps ∧ cost ps l ≤ v
  lb : ∀ ps, Vl s ps → v ≤ cost ps l
theorem IsT.eq {s l : List Pr} {v v' : Int} (h : IsT s l v) (h' : IsT s l v') : v = v' := by
  obtain ⟨p1, a1, b1⟩ := h.ub
  obtain ⟨p2, a2, b2⟩ := h'.ub
  have := h.lb p2 a2
  have := h'.lb p1 a1
  omega
/-- a schedule and trips as they should be -/
structure Sok (s : List Pr) : Prop where
  ne : s ≠ []
  len : ∀ k ∈ s, 1 ≤ k.1
  pr : ∀ k ∈ s, 0 ≤ k.2
structure Tr (l : List Pr) : Prop where
  fare : Nn l
  asc : l.Pairwise fun p q => p.1 ≤ q.1
theorem Tr.tail {q : Pr} {l : List Pr} (h : Tr (q :: l)) : Tr l := ⟨h.fare.tail, (List.pairwise_cons.mp h.asc).2⟩
theorem Tr.sub {l m : List Pr} (h : Tr l) (k : m.Sublist l) : Tr m := ⟨fun x n => h.fare x (k.subset n), h.asc.sublist k⟩
/-! rooms -/
theorem minL_le {l : List Int} {x : Int} (h : x ∈ l) : minL l ≤ x := by
  cases l with
  | nil => cases h
  | cons a r =>
    rcases List.mem_cons.mp h with rfl | h
    · exact (mnL_le r x).1
    · exact (mnL_le r a).2 x h
theorem minL_mem {l : List Int} (h : l ≠ []) : minL l ∈ l := by
  cases l with
  | nil => exact absurd rfl h
  | cons a r => exact mnL_mem r a
theorem minL_eq {l : List Int} {v : Int} (h : v ∈ l) (k : ∀ x ∈ l, v ≤ x) : minL l = v := by
  have h1 := minL_le h
  have h2 := k _ (minL_mem (l := l) (fun e => by rw [e] at h; cases h))
  omega
def win (q : List Pr) (t L : Int) : Int := sq q fun x => decide (t - L < x)
theorem roomL_win {q : List Pr} {t : Int} {k : Pr} : roomL q t k = k.2 - win q t k.1 := by unfold roomL win; rw [sq_eq]
theorem room_le {s q : List Pr} {t : Int} {k : Pr} (h : k ∈ s) : room s q t ≤ k.2 - win q t k.1 := by rw [← roomL_win]; exact minL_le (List.mem_map.mpr ⟨k, h, rfl⟩)
theorem room_mem {s q : List Pr} {t : Int} (h : s ≠ []) : ∃ k ∈ s, room s q t = k.2 - win q t k.1 := by
  obtain ⟨k, m, e⟩ := List.mem_map.mp (minL_mem (l := s.map (roomL q t)) (by simpa using h))
  exact ⟨k, m, by rw [← roomL_win]; exact e.symm⟩
theorem chG_snoc (s : List Pr) : ∀ (l past : List Pr) (p : Pr), chG s past (l ++ [p]) = chG s past l ++ [(p.1, min p.2 (room s (chG s past l) p.1))]
  | [], past, p => rfl
  | x :: l, past, p => by rw [List.cons_append, chG, chG_snoc s l, chG]
/-- what is true of the charges q of the trips l -/
structure Chg (s l q : List Pr) : Prop where
  tm : q.map (·.1) = l.map (·.1)
  nn : Nn q
  cap : ∀ k ∈ s, ∀ x : Int, sq q (inP (x, k)) ≤ k.2
  fare : ∀ c : Int → Bool, sq q c ≤ sq l c
  ub : ∀ y : Int, ∃ ps, Vl s ps ∧ cost ps (l.filter fun x => decide (x.1 ≤ y)) ≤ sq q fun t => decide (t ≤ y)
theorem snoc_ind {α : Type} {P : List α → Prop} (h0 : P []) (hs : ∀ l a, P l → P (l ++ [a])) (l : List α) : P l := by
  have : ∀ m : List α, P m.reverse := fun m => by
    induction m with
    | nil => exact h0
    | cons a m ih => rw [List.reverse_cons]; exact hs _ _ ih
  have := this l.reverse
  rwa [List.reverse_reverse] at this
theorem cost_le {ps : List Ps} {l m : List Pr} (h : l.Sublist m) (hf : Nn m) : cost ps l ≤ cost ps m := by
  have := sq_sub (c := unc ps) h hf
  unfold cost
  omega
theorem chg_ok {s : List Pr} (hs : Sok s) : ∀ l : List Pr, Tr l → Chg s l (chG s [] l) := by
  refine snoc_ind (fun _ => ⟨rfl, fun _ h => (by cases h), fun k hk x => hs.pr k hk, fun c => Int.le_refl _, fun y => ⟨[], fun _ h => (by cases h), Int.le_refl _⟩⟩) fun l p ih ht => ?_
  have hl : Tr l := ht.sub (List.sublist_append_left _ _)
  have I := ih hl
  have last : ∀ x ∈ l, x.1 ≤ p.1 := fun x m => (List.pairwise_append.mp ht.asc).2.2 x m p List.mem_cons_self
  have fp : 0 ≤ p.2 := ht.fare p (by simp)
  rw [chG_snoc]
  generalize chG s [] l = q at I
  have lastq : ∀ x ∈ q, x.1 ≤ p.1 := fun x m => by
    have : x.1 ∈ q.map (·.1) := List.mem_map.mpr ⟨x, m, rfl⟩
    rw [I.tm] at this
    obtain ⟨y, my, e⟩ := List.mem_map.mp this
    rw [← e]; exact last y my
  -- windows are within the caps
  have wcap : ∀ k ∈ s, win q p.1 k.1 ≤ k.2 := fun k hk => by
    refine Int.le_trans (Int.le_of_eq ?_) (I.cap k hk (p.1 - k.1 + 1))
    refine sq_congr fun x m => ?_
    have := lastq x m
    unfold inP
    exact decide_eq_decide.mpr (by dsimp only; omega)
  have r0 : 0 ≤ room s q p.1 := by
    obtain ⟨k, hk, e⟩ := room_mem (q := q) (t := p.1) hs.ne
    have := wcap k hk
    omega
  obtain ⟨c, hc⟩ : ∃ c, c = min p.2 (room s q p.1) := ⟨_, rfl⟩
  rw [← hc]
  have c0 : 0 ≤ c := by omega
  have c1 : c ≤ p.2 := by omega
  have c2 : c ≤ room s q p.1 := by omega
  have nn' : Nn (q ++ [(p.1, c)]) := fun x m => by
    rcases List.mem_append.mp m with m | m
    · exact I.nn x m
    · rw [List.mem_singleton.mp m]; exact c0
  refine ⟨by simp [I.tm], nn', fun k hk x => ?_, fun d => ?_, fun y => ?_⟩
  · rw [sq_app, sq_cons, sq_nil]
    by_cases h1 : inP (x, k) p.1 = true
    · have h2 := inP_t.mp h1
      dsimp only at h1 h2 ⊢
      rw [if_pos h1]
      have h3 : sq q (inP (x, k)) ≤ win q p.1 k.1 := sq_le I.nn fun a m h => by
        have := inP_t.mp h
        dsimp only at this
        exact decide_eq_true (by omega)
      have h4 := room_le (q := q) (t := p.1) hk
      omega
    · dsimp only at h1 ⊢
      rw [if_neg h1]
      have := I.cap k hk x
      omega
  · rw [sq_app, sq_app, sq_cons, sq_nil, sq_cons, sq_nil]
    have := I.fare d
    dsimp only
    split <;> omega
  · by_cases hy : p.1 ≤ y
    · have e1 : ((l ++ [p]).filter fun x => decide (x.1 ≤ y)) = l ++ [p] := List.filter_eq_self.mpr fun x m => by
        rcases List.mem_append.mp m with m | m
        · have := last x m; exact decide_eq_true (by omega)
        · rw [List.mem_singleton.mp m]; exact decide_eq_true hy
      have e2 : sq (q ++ [(p.1, c)]) (fun t => decide (t ≤ y)) = sq q yes + c := by
        rw [sq_app, sq_cons, sq_nil]
        dsimp only
        rw [if_pos (decide_eq_true hy), sq_congr (c' := yes) fun x m => by have := lastq x m; exact decide_eq_true (by omega)]
        omega
      rw [e1, e2]
      by_cases hm : p.2 ≤ room s q p.1
      · -- paid singly
        obtain ⟨ps, v, h⟩ := I.ub p.1
        rw [List.filter_eq_self.mpr fun x m => decide_eq_true (last x m), sq_congr (c' := yes) fun x m => decide_eq_true (lastq x m)] at h
        refine ⟨ps, v, ?_⟩
        unfold cost at h ⊢
        rw [sq_app, sq_cons, sq_nil]
        split <;> omega
      · -- the cap of a kind is reached
        obtain ⟨k, hk, e⟩ := room_mem (q := q) (t := p.1) hs.ne
        obtain ⟨ps, v, h⟩ := I.ub (p.1 - k.1)
        refine ⟨(p.1 - k.1 + 1, k) :: ps, fun x m => by
          rcases List.mem_cons.mp m with rfl | m
          · exact hk
          · exact v x m, ?_⟩
        have h1 : sq (l ++ [p]) (unc ((p.1 - k.1 + 1, k) :: ps)) ≤ sq (l.filter fun x => decide (x.1 ≤ p.1 - k.1)) (unc ps) := by
          rw [sq_app, sq_cons, sq_nil, sq_filter (d := fun t => decide (t ≤ p.1 - k.1))]
          have hk1 := hs.len k hk
          have : inP (p.1 - k.1 + 1, k) p.1 = true := inP_t.mpr (by dsimp only; omega)
          rw [if_neg (by rw [unc_cons, this]; simp)]
          have := sq_le (l := l) (c := unc ((p.1 - k.1 + 1, k) :: ps)) (c' := fun t => unc ps t && decide (t ≤ p.1 - k.1)) hl.fare fun a m h => by
            rw [unc_cons] at h
            have h' : inP (p.1 - k.1 + 1, k) a.1 = false ∧ unc ps a.1 = true := by simpa using h
            have h2 := last a m
            have h3 := inP_f.mp h'.1
            dsimp only at h3
            rw [h'.2, decide_eq_true (by omega)]; rfl
          omega
        have h2 : win q p.1 k.1 + sq q (fun t => decide (t ≤ p.1 - k.1)) = sq q yes := by
          rw [← sq_split (c := fun x => decide (p.1 - k.1 < x))]
          refine congrArg _ (sq_congr fun x _ => ?_)
          by_cases h : p.1 - k.1 < x.1
          · rw [decide_eq_true h, decide_eq_false (by omega)]; rfl
          · rw [decide_eq_false h, decide_eq_true (by omega)]; rfl
        unfold cost at h ⊢
        rw [pric_cons]
        dsimp only
        omega
    · -- not yet
      have hy : y < p.1 := by omega
      obtain ⟨ps, v, h⟩ := I.ub y
      refine ⟨ps, v, ?_⟩
      have e1 : ((l ++ [p]).filter fun x => decide (x.1 ≤ y)) = l.filter fun x => decide (x.1 ≤ y) := by
        rw [List.filter_append, List.filter_cons, if_neg (by simp; omega)]; simp
      have e2 : sq (q ++ [(p.1, c)]) (fun t => decide (t ≤ y)) = sq q (fun t => decide (t ≤ y)) := by
        rw [sq_app, sq_cons, sq_nil, if_neg (by simp; omega)]; omega
      rw [e1, e2]
      exact h
def tot (s l : List Pr) : Int := (chs s l).sum
theorem tot_sq (s l : List Pr) : tot s l = sq (chG s [] l) yes := (sq_yes _).symm
/-- what passes cover is within their prices -/
theorem cov_pric {s l q : List Pr} (h : Chg s l q) : ∀ ps : List Ps, Vl s ps → sq q (cov ps) ≤ pric ps
  | [], _ => by rw [sq_zero (c := cov []) (fun _ _ => rfl)]; exact Int.le_refl _
  | p :: ps, v => by
    have ih := cov_pric h ps fun x m => v x (List.mem_cons_of_mem _ m)
    have h1 := sq_or (l := q) (c1 := inP p) (c2 := cov ps) h.nn
    have h2 := h.cap p.2 (v p List.mem_cons_self) p.1
    rw [pric_cons]
    exact Int.le_trans h1 (Int.add_le_add h2 ih)
theorem tot_lb {s l : List Pr} (hs : Sok s) (hl : Tr l) {ps : List Ps} (v : Vl s ps) : tot s l ≤ cost ps l := by
  have I := chg_ok hs l hl
  rw [tot_sq]
  generalize chG s [] l = q at I
  rw [← sq_split (c := cov ps)]
  have h1 := cov_pric I ps v
  have h2 := I.fare (unc ps)
  exact Int.add_le_add h1 h2
theorem late (l : List Pr) : ∃ y : Int, ∀ x ∈ l, x.1 ≤ y := by
  induction l with
  | nil => exact ⟨0, fun _ h => by cases h⟩
  | cons a l ih =>
    obtain ⟨y, h⟩ := ih
    refine ⟨max a.1 y, fun x m => ?_⟩
    rcases List.mem_cons.mp m with rfl | m
    · omega
    · have := h x m; omega
theorem tot_is {s l : List Pr} (hs : Sok s) (hl : Tr l) : IsT s l (tot s l) := by
  refine ⟨?_, fun ps v => tot_lb hs hl v⟩
  have I := chg_ok hs l hl
  obtain ⟨y, hy⟩ := late l
  obtain ⟨ps, v, h⟩ := I.ub y
  refine ⟨ps, v, ?_⟩
  rw [tot_sq]
  rw [List.filter_eq_self.mpr fun x m => decide_eq_true (hy x m)] at h
  exact Int.le_trans h (sq_le I.nn fun _ _ _ => rfl)
end RP
namespace RP
open PySem PySem.Spec L2 R RC
/-! ### _law_least: the least cost, from the last trip to the first -/
def fstI (l : List Pr) (y : Int) : Nat := l.findIdx fun q => decide (y ≤ q.1)
def dpl (s : List Pr) : List Pr → List Int
  | [] => [0]
  | x :: r => minL ((x.2 + (dpl s r).getD 0 0) :: s.map fun k => k.2 + (dpl s r).getD (fstI r (x.1 + k.1)) 0) :: dpl s r
def dpv (s l : List Pr) : Int := (dpl s l).getD 0 0
theorem dpl_len (s : List Pr) : ∀ l : List Pr, (dpl s l).length = l.length + 1
  | [] => rfl
  | x :: r => by simp [dpl, dpl_len s r]
theorem dpl_at (s : List Pr) : ∀ (l : List Pr) (i : Nat), i ≤ l.length → (dpl s l).getD i 0 = dpv s (l.drop i)
  | l, 0, _ => rfl
  | [], i + 1, h => by simp at h
  | x :: r, i + 1, h => by
    rw [List.drop_succ_cons, ← dpl_at s r i (by simpa using h)]
    rfl
theorem fstI_le (l : List Pr) (y : Int) : fstI l y ≤ l.length := List.findIdx_le_length
theorem dpv_cons (s : List Pr) (x : Pr) (r : List Pr) : dpv s (x :: r) = minL ((x.2 + dpv s r) :: s.map fun k => k.2 + dpv s (r.drop (fstI r (x.1 + k.1)))) := by
  have e : (s.map fun k => k.2 + dpv s (r.drop (fstI r (x.1 + k.1)))) = s.map fun k => k.2 + (dpl s r).getD (fstI r (x.1 + k.1)) 0 := List.map_congr_left fun k _ => by rw [dpl_at s r _ (fstI_le _ _)]
  rw [e]
  rfl
/-- behind the pass that begins at the first trip -/
theorem dp_is {s : List Pr} (hs : Sok s) : ∀ l : List Pr, Tr l → IsT s l (dpv s l) := by
  have main : ∀ (n : Nat) (l : List Pr), l.length ≤ n → Tr l → IsT s l (dpv s l) := fun n => by
    induction n with
    | zero =>
      intro l hl ht
      have : l = [] := List.length_eq_zero_iff.mp (by omega)
      subst this
      refine ⟨⟨[], fun _ h => (by cases h), Int.le_refl _⟩, fun ps v => ?_⟩
      show 0 ≤ pric ps + 0
      have : ∀ ps : List Ps, Vl s ps → 0 ≤ pric ps := fun ps => by
        induction ps with
        | nil => intro _; exact Int.le_refl _
        | cons q ps ih =>
          intro v
          rw [pric_cons]
          have := ih fun x m => v x (List.mem_cons_of_mem _ m)
          have := hs.pr _ (v q List.mem_cons_self)
          omega
      have := this ps v
      omega
    | succ n ih =>
      intro l hl ht
      cases l with
      | nil => exact ih [] (by simp) ht
      | cons x r =>
        have hr : r.length ≤ n := by simp at hl; omega
        have I0 := ih r hr ht.tail
        have Ik : ∀ k : Nat, IsT s (r.drop k) (dpv s (r.drop k)) := fun k => ih _ (by simp; omega) (ht.tail.sub (List.drop_sublist _ _))
        have first : ∀ y ∈ r, x.1 ≤ y.1 := (List.pairwise_cons.mp ht.asc).1
        -- the trips behind a pass
        have behind : ∀ y : Int, ∀ q ∈ r.take (fstI r y), q.1 < y := fun y q m => by
          obtain ⟨i, hi, e⟩ := List.getElem_of_mem m
          simp only [List.length_take] at hi
          rw [List.getElem_take] at e
          have h := List.not_of_lt_findIdx (p := fun q : Pr => decide (y ≤ q.1)) (xs := r) (i := i) (show i < fstI r y by omega)
          have h : ¬ y ≤ (r[i]).1 := by simpa using h
          rw [e] at h
          omega
        have ahead : ∀ y : Int, ∀ q ∈ r.drop (fstI r y), y ≤ q.1 := fun y q m => by
          by_cases hlt : fstI r y < r.length
          · have h := List.findIdx_getElem (p := fun q : Pr => decide (y ≤ q.1)) (xs := r) (w := hlt)
            have h : y ≤ (r[fstI r y]).1 := of_decide_eq_true h
            obtain ⟨i, hi, e⟩ := List.getElem_of_mem m
            rw [List.getElem_drop] at e
            by_cases h0 : i = 0
            · subst h0
              simp at e
              rw [← e]; exact h
            · have := List.pairwise_iff_getElem.mp ht.tail.asc (fstI r y) (fstI r y + i) hlt (by simp at hi; omega) (by omega)
              rw [e] at this
              omega
          · rw [List.drop_of_length_le (by omega)] at m
            cases m
        rw [dpv_cons]
        refine ⟨?_, fun ps v => ?_⟩
        · rcases List.mem_cons.mp (minL_mem (l := (x.2 + dpv s r) :: s.map fun k => k.2 + dpv s (r.drop (fstI r (x.1 + k.1)))) (by simp)) with e | m
          · rw [e]
            obtain ⟨ps, v, h⟩ := I0.ub
            refine ⟨ps, v, ?_⟩
            unfold cost at h ⊢
            rw [sq_cons]
            have := ht.fare.head
            split <;> omega
          · obtain ⟨k, hk, e⟩ := List.mem_map.mp m
            rw [← e]
            obtain ⟨ps, v, h⟩ := (Ik (fstI r (x.1 + k.1))).ub
            refine ⟨(x.1, k) :: ps, fun q m => by
              rcases List.mem_cons.mp m with rfl | m
              · exact hk
              · exact v q m, ?_⟩
            have hk1 := hs.len k hk
            have h1 : sq (x :: r) (unc ((x.1, k) :: ps)) ≤ sq (r.drop (fstI r (x.1 + k.1))) (unc ps) := by
              have e0 : inP (x.1, k) x.1 = true := inP_t.mpr (by dsimp only; omega)
              rw [sq_cons, if_neg (by rw [unc_cons, e0]; simp)]
              have e1 : r = r.take (fstI r (x.1 + k.1)) ++ r.drop (fstI r (x.1 + k.1)) := (List.take_append_drop _ _).symm
              have e2 : sq r (unc ((x.1, k) :: ps)) = sq (r.take (fstI r (x.1 + k.1))) (unc ((x.1, k) :: ps)) + sq (r.drop (fstI r (x.1 + k.1))) (unc ((x.1, k) :: ps)) := by
                rw [← sq_app, ← e1]
              have e3 : sq (r.take (fstI r (x.1 + k.1))) (unc ((x.1, k) :: ps)) = 0 := sq_zero fun q m => by
                have a1 := behind _ q m
                have a2 := first q (List.mem_of_mem_take m)
                have : inP (x.1, k) q.1 = true := inP_t.mpr (by dsimp only; omega)
                rw [unc_cons, this]; rfl
              have e4 : sq (r.drop (fstI r (x.1 + k.1))) (unc ((x.1, k) :: ps)) ≤ sq (r.drop (fstI r (x.1 + k.1))) (unc ps) := sq_le (fun q m => ht.fare.tail q (List.mem_of_mem_drop m)) fun q m h => by
                rw [unc_cons] at h
                exact ((Bool.and_eq_true _ _).mp h).2
              omega
            unfold cost at h ⊢
            rw [pric_cons]
            dsimp only
            omega
        · by_cases hc : cov ps x.1 = true
          · -- a pass covers the first trip
            unfold cov at hc
            obtain ⟨q, mq, hq⟩ := List.any_eq_true.mp hc
            obtain ⟨a, b, rfl⟩ := List.append_of_mem mq
            have hq := inP_t.mp hq
            have vb : Vl s (a ++ b) := fun z m => v z (by
              rcases List.mem_append.mp m with m | m
              · exact List.mem_append_left _ m
              · exact List.mem_append_right _ (List.mem_cons_of_mem _ m))
            have h1 := (Ik (fstI r (x.1 + q.2.1))).lb (a ++ b) vb
            have h2 : minL ((x.2 + dpv s r) :: s.map fun k => k.2 + dpv s (r.drop (fstI r (x.1 + k.1)))) ≤ q.2.2 + dpv s (r.drop (fstI r (x.1 + q.2.1))) :=
              minL_le (List.mem_cons_of_mem _ (List.mem_map.mpr ⟨q.2, v q mq, rfl⟩))
            have h3 : pric (a ++ q :: b) = q.2.2 + pric (a ++ b) := by simp [pric]; omega
            have h4 : sq (r.drop (fstI r (x.1 + q.2.1))) (unc (a ++ b)) ≤ sq (x :: r) (unc (a ++ q :: b)) := by
              refine Int.le_trans (Int.le_of_eq (sq_congr (c' := unc (a ++ q :: b)) fun z m => ?_)) (sq_sub (List.Sublist.cons _ (List.drop_sublist _ _)) ht.fare)
              have := ahead _ z m
              have e : inP q z.1 = false := inP_f.mpr (by omega)
              unfold unc cov
              simp [e]
            unfold cost at h1 ⊢
            omega
          · have h1 := I0.lb ps v
            have h2 : minL ((x.2 + dpv s r) :: s.map fun k => k.2 + dpv s (r.drop (fstI r (x.1 + k.1)))) ≤ x.2 + dpv s r := minL_le List.mem_cons_self
            unfold cost at h1 ⊢
            rw [sq_cons, if_pos (by unfold unc; simp [hc])]
            omega
  exact fun l => main l.length l (Nat.le_refl _)
theorem tot_dp {s l : List Pr} (hs : Sok s) (hl : Tr l) : tot s l = dpv s l := (tot_is hs hl).eq (dp_is hs l hl)
theorem sok {s : List Pr} (h : schB s = true) : Sok s := by
  unfold schB at h
  simp only [Bool.and_eq_true] at h
  obtain ⟨⟨h1, h2⟩, h3⟩ := h
  refine ⟨fun e => ?_, fun k m => ?_, fun k m => ?_⟩
  · subst e; simp at h1
  · have := List.all_eq_true.mp h2 k m
    simp [inB] at this
    omega
  · have := List.all_eq_true.mp h2 k m
    simp [inB] at this
    omega
theorem tr {t : List Pr} (h : trpB t = true) : Tr t := by
  unfold trpB at h
  simp only [Bool.and_eq_true] at h
  obtain ⟨⟨h1, h2⟩, h3⟩ := h
  refine ⟨fun k m => ?_, ?_⟩
  · have := List.all_eq_true.mp h2 k m
    simp [inB] at this
    omega
  · have step : ∀ (l : List Pr), ((l.zip (l.drop 1)).all fun x => decide (x.1.1 ≤ x.2.1)) = true → l.Pairwise fun p q => p.1 ≤ q.1 := fun l => by
      induction l with
      | nil => intro _; exact .nil
      | cons a l ih =>
        intro h
        cases l with
        | nil => simp
        | cons b l =>
          simp only [List.drop_succ_cons, List.drop_zero, List.zip_cons_cons, List.all_cons, Bool.and_eq_true, decide_eq_true_eq] at h
          have h2 := ih (by simpa using h.2)
          refine List.pairwise_cons.mpr ⟨fun c m => ?_, h2⟩
          rcases List.mem_cons.mp m with rfl | m
          · exact h.1
          · have := (List.pairwise_cons.mp h2).1 c m
            omega
    exact step t h3
end RP
namespace RP
open PySem PySem.Spec L2 R RC
theorem range_fI {c : Nat → Bool} (n : Nat) : ((List.range n).map fun (i : Nat) => PyData.int (i : Int)).filterMap (unI fun i => if c i then some (.int (i : Int)) else none) = inz (((List.range n).filter c).map fun (i : Nat) => (i : Int)) := by
  rw [List.filterMap_map]
  induction (List.range n) with
  | nil => rfl
  | cons a l ih =>
    rw [List.filterMap_cons, List.filter_cons]
    by_cases h : c a = true
    · simp [unI, h, inz_cons]
      simpa using ih
    · simp [unI, h]
      simpa using ih
theorem first_ix {c : Nat → Bool} {n m : Nat} (h1 : m ≤ n) (h2 : ∀ j, j < m → c j = false) (h3 : m < n → c m = true) : ((List.range n).filter c ++ [n])[0]? = some m := by
  have e : List.range n = List.range m ++ (List.range (n - m)).map (m + ·) := by
    rw [← List.range_add, show m + (n - m) = n by omega]
  rw [e, List.filter_append]
  have e1 : (List.range m).filter c = [] := List.filter_eq_nil_iff.mpr fun j hj => by rw [h2 j (List.mem_range.mp hj)]; decide
  rw [e1, List.nil_append]
  by_cases h : m < n
  · obtain ⟨d, hd⟩ : ∃ d, n - m = d + 1 := ⟨n - m - 1, by omega⟩
    rw [hd, List.range_succ_eq_map, List.map_cons, List.filter_cons]
    rw [if_pos (by rw [Nat.add_zero]; exact h3 h)]
    simp
  · have : m = n := by omega
    subst this
    simp
theorem atI_z {α : Type} {l : List α} : atI l 0 = l[0]? := atI_n (i := 0)
theorem gRng3_dn {n : Nat} (h : n < 1000) : gRng3 [.int ((n : Int) - 1), .int (-1), .int (-1)] = some (downTo ((n : Int) - 1) n) := by
  show (if _ then _ else _) = _
  rw [if_pos (by omega), show ((n : Int) - 1 - -1).toNat = n by omega]
theorem gRng3_dn' {n : Nat} (h : n < 1000) : gRng3 [.int ((n : Int) + -1), .int (-1), .int (-1)] = some (downTo ((n : Int) - 1) n) := gRng3_dn h
def dns : Nat → List PyData
  | 0 => []
  | n + 1 => .int (n : Int) :: dns n
theorem downTo_dns : ∀ n : Nat, downTo ((n : Int) - 1) n = dns n
  | 0 => rfl
  | n + 1 => by
    show _ = PyData.int (n : Int) :: dns n
    rw [← downTo_dns n]
    unfold downTo
    rw [List.range_succ_eq_map, List.map_cons, List.map_map]
    congr 1
    · simp
    · refine List.map_congr_left fun i _ => ?_
      simp only [Function.comp_apply]
      congr 1
      omega
theorem ixN_n {n i : Nat} (h : i < n) : ixN n (i : Int) = some i := by
  unfold ixN
  rw [if_pos (by omega), if_pos (by omega)]; simp
theorem getD_inz {l : List Int} {i : Nat} (h : i < l.length) : (inz l)[i]? = some (.int (l.getD i 0)) := by
  rw [inz_get, List.getD_eq_getElem?_getD, List.getElem?_eq_getElem h]; rfl
theorem gMul_l {a : List PyData} {k : Int} (h : k ≤ 100000 ∧ a.length * k.toNat ≤ 16777216 ∧ -100000 ≤ k) : gMul (.list a) (.int k) = some (.new (List.replicate k.toNat a).flatten) := by
  unfold gMul
  dsimp only
  rw [if_pos h]
theorem rep_one {a : PyData} : ∀ n : Nat, (List.replicate n [a]).flatten = List.replicate n a
  | 0 => rfl
  | n + 1 => by rw [List.replicate_succ, List.replicate_succ, List.flatten_cons, rep_one n]; rfl
/-- the costs while the trips behind n are done -/
def cst (s t : List Pr) (n : Nat) : List Int := List.replicate n 0 ++ dpl s (t.drop n)
theorem cst_len {s t : List Pr} {n : Nat} (h : n ≤ t.length) : (cst s t n).length = t.length + 1 := by
  unfold cst
  rw [List.length_append, List.length_replicate, dpl_len, List.length_drop]
  omega
theorem cst_at {s t : List Pr} {n i : Nat} (h : n ≤ i) : (cst s t n).getD i 0 = (dpl s (t.drop n)).getD (i - n) 0 := by
  unfold cst
  rw [List.getD_eq_getElem?_getD, List.getElem?_append_right (by simpa using h), List.length_replicate, ← List.getD_eq_getElem?_getD]
def tmA (t : List Pr) (i : Nat) : Int := (t.getD i (0, 0)).1
theorem tmA_at {t : List Pr} {i : Nat} (h : i < t.length) : tmA t i = (t[i]).1 := by unfold tmA; rw [List.getD_eq_getElem?_getD, List.getElem?_eq_getElem h]; rfl
def dpB (s r : List Pr) (y : Int) : Int := dpv s (r.drop (fstI r y))
theorem least_ok (s t : List Pr) (hs : Sok s) (ht : Tr t) (hz : s.length < 1000) (hl : t.length < 1000) : g__law_least [.dat (.tuple (prs s)), .dat (.tuple (prs t))] = .ok (.dat (.int (dpv s t))) [] := by
  apply fun_ok
  have hmul : gMul (.list [.int 0]) (.int ((t.length : Int) + 1)) = some (.new (inz (cst s t t.length))) := by
    rw [gMul_l (by simp; omega), rep_one, show ((t.length : Int) + 1).toNat = t.length + 1 by omega]
    unfold cst inz
    rw [List.drop_length]
    show _ = some (Rv.new ((List.replicate t.length (0 : Int) ++ [0]).map PyData.int))
    rw [← List.replicate_succ', List.map_replicate]
  have hrg := gRng3_dn hl
  rw [downTo_dns] at hrg
  simp [b__law_least, hmul, hrg]
  obtain ⟨I, hI⟩ : ∃ I : List PyData → Rho → Prop, ∀ rest ρ, I rest ρ ↔ ∃ n x3 x4 x5 x6 x7 x8 x9, rest = dns n ∧ n ≤ t.length ∧ ρ = [.dat (.tuple (prs s)), .dat (.tuple (prs t)), .ls (inz (cst s t n)), lv x3, lv x4, lv x5, lw x6, lv x7, lv x8, lv x9, .un] := ⟨_, fun _ _ => Iff.rfl⟩
  refine loop_w I ?_ ?_ _ _ ((hI _ _).mpr ⟨t.length, none, none, none, none, none, none, none, rfl, Nat.le_refl _, rfl⟩)
  · intro d rest ρ hi
    obtain ⟨n, x3, x4, x5, x6, x7, x8, x9, e1, e2, rfl⟩ := (hI _ _).mp hi
    cases n with
    | zero => cases e1
    | succ n =>
      cases e1
      have hn : n < t.length := by omega
      obtain ⟨q, hq⟩ : ∃ q, q = t[n] := ⟨_, rfl⟩
      have a1 : atI (prs t) (n : Int) = some (pr q) := by rw [atI_n, prs_get, List.getElem?_eq_getElem hn, hq]; rfl
      have hd : t.drop n = q :: t.drop (n + 1) := by rw [List.drop_eq_getElem_cons hn, hq]
      have clen : (cst s t (n + 1)).length = t.length + 1 := cst_len (by omega)
      have a2 : atI (inz (cst s t (n + 1))) ((n : Int) + 1) = some (.int (dpv s (t.drop (n + 1)))) := by
        rw [show ((n : Int) + 1) = ((n + 1 : Nat) : Int) by omega, atI_n, getD_inz (by omega), cst_at (Nat.le_refl _), Nat.sub_self]; rfl
      simp [a1, a2]
      obtain ⟨J, hJ⟩ : ∃ J : List PyData → Rho → Prop, ∀ rest ρ, J rest ρ ↔ ∃ done todo x7 x8 x9, s = done ++ todo ∧ rest = prs todo ∧ ρ = [.dat (.tuple (prs s)), .dat (.tuple (prs t)), .ls (inz (cst s t (n + 1))), .dat (.int (n : Int)), .dat (.int q.1), .dat (.int q.2), .ls (.int (q.2 + dpv s (t.drop (n + 1))) :: inz (done.map fun k => k.2 + dpB s (t.drop (n + 1)) (q.1 + k.1))), lv x7, lv x8, lv x9, .un] := ⟨_, fun _ _ => Iff.rfl⟩
      refine loop_w J ?_ ?_ _ _ ((hJ _ _).mpr ⟨[], s, x7, x8, x9, rfl, rfl, rfl⟩)
      · intro d rest ρ hj
        obtain ⟨done, todo, x7, x8, x9, f1, f2, rfl⟩ := (hJ _ _).mp hj
        cases todo with
        | nil => cases f2
        | cons k todo =>
          cases f2
          have hrg : gRng1 [.int (t.length : Int)] = some ((List.range t.length).map fun (i : Nat) => PyData.int (i : Int)) := gRng1_i (by omega) (by omega)
          simp [hrg]
          refine post_of (comp_map (f := unI fun i => if decide (q.1 + k.1 ≤ tmA t i) then some (.int (i : Int)) else none) ?_) ?_
          · intro d hd
            obtain ⟨i, hi, rfl⟩ := List.mem_map.mp hd
            rw [List.mem_range] at hi
            have a3 : atI (prs t) (i : Int) = some (pr t[i]) := by rw [atI_n, prs_get, List.getElem?_eq_getElem hi]; rfl
            simp [a3, unI, tmA_at hi]
          · rw [range_fI (c := fun i => decide (q.1 + k.1 ≤ tmA t i))]
            have hk1 : 1 ≤ k.1 := hs.len k (by rw [f1]; simp)
            obtain ⟨m, hm⟩ : ∃ m, m = n + 1 + fstI (t.drop (n + 1)) (q.1 + k.1) := ⟨_, rfl⟩
            have hfl := fstI_le (t.drop (n + 1)) (q.1 + k.1)
            rw [List.length_drop] at hfl
            have fi : ((List.range t.length).filter (fun i => decide (q.1 + k.1 ≤ tmA t i)) ++ [t.length])[0]? = some m := by
              refine first_ix (by omega) (fun j hj => ?_) fun hm2 => ?_
              · refine decide_eq_false ?_
                have hjt : j < t.length := by omega
                rw [tmA_at hjt]
                by_cases h0 : j ≤ n
                · have : (t[j]).1 ≤ q.1 := by
                    rw [hq]
                    by_cases h1 : j = n
                    · subst h1; omega
                    · exact List.pairwise_iff_getElem.mp ht.asc j n hjt hn (by omega)
                  omega
                · have h := List.not_of_lt_findIdx (p := fun z : Pr => decide (q.1 + k.1 ≤ z.1)) (xs := t.drop (n + 1)) (i := j - (n + 1)) (show j - (n + 1) < fstI (t.drop (n + 1)) (q.1 + k.1) by omega)
                  rw [List.getElem_drop] at h
                  have e : n + 1 + (j - (n + 1)) = j := by omega
                  simp only [e] at h
                  simpa using h
              · refine decide_eq_true ?_
                rw [tmA_at hm2]
                have h := List.findIdx_getElem (p := fun z : Pr => decide (q.1 + k.1 ≤ z.1)) (xs := t.drop (n + 1)) (w := by rw [List.length_drop]; show fstI (t.drop (n + 1)) (q.1 + k.1) < _; omega)
                have h := of_decide_eq_true h
                rw [List.getElem_drop] at h
                have e : n + 1 + List.findIdx (fun z : Pr => decide (q.1 + k.1 ≤ z.1)) (t.drop (n + 1)) = m := by rw [hm]; rfl
                simp only [e] at h
                exact h
            have a4 : atI (inz (((List.range t.length).filter (fun i => decide (q.1 + k.1 ≤ tmA t i))).map fun (i : Nat) => (i : Int)) ++ [.int (t.length : Int)]) 0 = some (.int (m : Int)) := by
              have e : inz (((List.range t.length).filter (fun i => decide (q.1 + k.1 ≤ tmA t i))).map fun (i : Nat) => (i : Int)) ++ [.int (t.length : Int)] = inz (((List.range t.length).filter (fun i => decide (q.1 + k.1 ≤ tmA t i)) ++ [t.length]).map fun (i : Nat) => (i : Int)) := by simp [inz]
              rw [e, atI_z, inz_get, List.getElem?_map, fi]; rfl
            have a5 : atI (inz (cst s t (n + 1))) (m : Int) = some (.int (dpB s (t.drop (n + 1)) (q.1 + k.1))) := by
              rw [atI_n, getD_inz (by omega), cst_at (by omega), show m - (n + 1) = fstI (t.drop (n + 1)) (q.1 + k.1) by omega, dpl_at _ _ _ (fstI_le _ _)]; rfl
            have hsz : ((List.range t.length).filter (fun i => decide (q.1 + k.1 ≤ tmA t i))).length + 1 ≤ 16777216 := by
              have := List.length_filter_le (fun i => decide (q.1 + k.1 ≤ tmA t i)) (List.range t.length)
              rw [List.length_range] at this
              omega
            have gad : gAdd (.list (inz (((List.range t.length).filter (fun i => decide (q.1 + k.1 ≤ tmA t i))).map fun (i : Nat) => (i : Int)))) (.list [.int (t.length : Int)]) = some (.new (inz (((List.range t.length).filter (fun i => decide (q.1 + k.1 ≤ tmA t i))).map fun (i : Nat) => (i : Int)) ++ [.int (t.length : Int)])) := by
              show (if _ then _ else _) = _
              rw [if_pos (by simpa using hsz)]
            have hl2 : s.length = done.length + (todo.length + 1) := by rw [f1]; simp
            simp only [inz_snoc] at gad a4
            simp [gad, a4, a5]
            refine ⟨by omega, (hJ _ _).mpr ⟨done ++ [k], todo, some _, some _, some _, by simp [f1], rfl, by rw [List.map_append]; rfl⟩⟩
      · intro ρ hj
        obtain ⟨done, todo, x7, x8, x9, f1, f2, rfl⟩ := (hJ _ _).mp hj
        cases todo with
        | cons k todo => cases f2
        | nil =>
          have f1 : s = done := by simpa using f1
          subst f1
          have hx : ixN (t.length + 1) (n : Int) = some n := ixN_n (by omega)
          simp [clen, hx]
          have es : (inz (cst s t (n + 1))).set n (.int (mnL (q.2 + dpv s (t.drop (n + 1))) (s.map fun k => k.2 + dpB s (t.drop (n + 1)) (q.1 + k.1)))) = inz (cst s t n) := ?_
          · rw [es]
            exact (hI _ _).mpr ⟨n, some _, some _, some _, some _, x7, x8, x9, rfl, by omega, rfl⟩
          have e1 : cst s t n = List.replicate n 0 ++ dpl s (q :: t.drop (n + 1)) := by unfold cst; rw [hd]
          have e2 : cst s t (n + 1) = List.replicate n 0 ++ (0 :: dpl s (t.drop (n + 1))) := by
            unfold cst
            rw [List.replicate_succ', List.append_assoc]; rfl
          have e3 : dpl s (q :: t.drop (n + 1)) = dpv s (q :: t.drop (n + 1)) :: dpl s (t.drop (n + 1)) := rfl
          rw [e1, e2, e3, dpv_cons]
          unfold dpB
          unfold inz
          rw [List.map_append, List.map_append, List.set_append_right _ _ (by simp)]
          simp
          rfl
  · intro ρ hi
    obtain ⟨n, x3, x4, x5, x6, x7, x8, x9, e1, e2, rfl⟩ := (hI _ _).mp hi
    cases n with
    | succ n => cases e1
    | zero =>
      have a : atI (inz (cst s t 0)) 0 = some (.int (dpv s t)) := by
        rw [atI_z, getD_inz (by rw [cst_len (by omega)]; omega), cst_at (Nat.le_refl _)]; rfl
      simp [a]
end RP
namespace RP
open PySem PySem.Spec L2 R RC
/-! full windows -/
def at0 (q : List Pr) (i : Nat) : Pr := q.getD i (0, 0)
theorem at0_at {q : List Pr} {i : Nat} (h : i < q.length) : at0 q i = q[i] := by unfold at0; rw [List.getD_eq_getElem?_getD, List.getElem?_eq_getElem h]; rfl
theorem atI_prs {q : List Pr} {i : Nat} (h : i < q.length) : atI (prs q) (i : Int) = some (pr (at0 q i)) := by rw [atI_n, prs_get, List.getElem?_eq_getElem h, at0_at h]; rfl
theorem at0_tm {q : List Pr} {i : Nat} : (at0 q i).1 = tmA q i := rfl
def inW (q : List Pr) (t L : Int) (n : Nat) : List Nat := (List.range n).filter fun i => decide (t - L < (at0 q i).1)
theorem inW_sum {q : List Pr} {t L : Int} : ∀ n : Nat, n ≤ q.length → ((inW q t L n).map fun i => (at0 q i).2).sum = win (q.take n) t L
  | 0, _ => rfl
  | n + 1, h => by
    have ih := inW_sum (q := q) (t := t) (L := L) n (by omega)
    unfold inW win at *
    rw [List.range_succ, List.filter_append, List.map_append, List.sum_append, ih, List.take_add_one, List.getElem?_eq_getElem (show n < q.length by omega), sq_app]
    congr 1
    rw [List.filter_cons]
    have e := at0_at (q := q) (i := n) (by omega)
    rw [e]
    show _ = sq [q[n]] _
    rw [sq_cons, sq_nil]
    split <;> simp_all
theorem zip_pi : ∀ (t : List Pr) (c : List Int), zipD (prs t) (inz c) = (t.zip c).map fun x => PyData.tuple [pr x.1, .int x.2]
  | [], _ => rfl
  | _ :: _, [] => rfl
  | a :: t, b :: c => by
    have := zip_pi t c
    unfold zipD prs inz at this ⊢
    simp [this]
theorem zip_back : ∀ (t c : List Pr), c.map (·.1) = t.map (·.1) → (t.zip (c.map (·.2))).map (fun x => (x.1.1, x.2)) = c
  | [], [], _ => rfl
  | [], _ :: _, h => by simp at h
  | _ :: _, [], h => by simp at h
  | a :: t, b :: c, h => by
    simp at h
    have := zip_back t c h.2
    simp [this, h.1.symm]
theorem chG_fst (s : List Pr) : ∀ l past : List Pr, (chG s past l).map (·.1) = past.map (·.1) ++ l.map (·.1)
  | [], past => by simp [chG]
  | p :: r, past => by rw [chG, chG_fst s r]; simp
def unTF : PyData → Option PyData
  | .tuple [.tuple [.int a, .int _], .int c] => some (.tuple [.int a, .int c])
  | _ => none
theorem fm_tf : ∀ z : List (Pr × Int), (z.map fun x => PyData.tuple [pr x.1, .int x.2]).filterMap unTF = prs (z.map fun x => (x.1.1, x.2))
  | [] => rfl
  | a :: z => by
    rw [List.map_cons, List.filterMap_cons, fm_tf z]
    rfl
theorem charged_ok (s t : List Pr) (hs : s ≠ []) (hz : s.length < 1000) (ht : t.length < 1000) : g_charged [.dat (.tuple (prs s)), .dat (.tuple (prs t))] = .ok (.new (prs (chG s [] t))) [] := by
  apply fun_ok
  have hg : gZip [.tuple (prs t), .list (inz (chs s t))] = some (zipD (prs t) (inz (chs s t))) := rfl
  simp [b_charged, all_charges_ok s t hs hz ht, hg]
  rw [zip_pi]
  refine post_of (comp_map (f := unTF) ?_) ?_
  · intro d hd
    obtain ⟨x, _, rfl⟩ := List.mem_map.mp hd
    simp [pr, unTF]
  · rw [fm_tf]
    have e : (t.zip (chs s t)).map (fun x => (x.1.1, x.2)) = chG s [] t := zip_back t _ (by rw [chG_fst]; rfl)
    rw [e]
    simp
theorem fm_ix {q : List Pr} : ∀ l : List Nat, (inz (l.map fun (i : Nat) => (i : Int))).filterMap (unI fun i => some (.int (at0 q i).2)) = inz (l.map fun i => (at0 q i).2)
  | [] => rfl
  | a :: l => by
    have := fm_ix (q := q) l
    simp [inz_cons, unI] at this ⊢
    exact this
/-- the kind k, a window that ends at i -/
def fullB (q : List Pr) (k : Pr) (i : Nat) : Bool := decide (win (q.take (i + 1)) (at0 q i).1 k.1 = k.2)
def fstW (q : List Pr) (k : Pr) (i : Nat) : Nat := (inW q (at0 q i).1 k.1 (i + 1)).getD 0 0
theorem full_window_ok (s q : List Pr) (n i : Nat) (hn : n < s.length) (hi : i < q.length) (hz : q.length < 1000) (hl : 1 ≤ (at0 s n).1) : g_full_window [.dat (.tuple (prs s)), .dat (.list (prs q)), .dat (.int (n : Int)), .dat (.int (i : Int))] = .ok (.dat (if fullB q (at0 s n) i then .int (fstW q (at0 s n) i : Int) else .none)) [] := by
  apply fun_ok
  have hrg : gRng1 [.int ((i : Int) + 1)] = some ((List.range (i + 1)).map fun (j : Nat) => .int (j : Int)) := by
    rw [gRng1_i (by omega) (by omega), show ((i : Int) + 1).toNat = i + 1 by omega]
  simp [b_full_window, atI_prs hn, atI_prs hi, hrg]
  refine post_of (comp_map (f := unI fun j => if decide ((at0 q i).1 - (at0 s n).1 < (at0 q j).1) then some (.int (j : Int)) else none) ?_) ?_
  · intro d hd
    obtain ⟨j, hj, rfl⟩ := List.mem_map.mp hd
    rw [List.mem_range] at hj
    simp [atI_prs (show j < q.length by omega), unI]
  · rw [range_fI (c := fun j => decide ((at0 q i).1 - (at0 s n).1 < (at0 q j).1))]
    simp
    refine post_of (comp_map (f := unI fun j => some (.int (at0 q j).2)) ?_) ?_
    · intro d hd
      obtain ⟨j0, hj0, rfl⟩ := List.mem_map.mp hd
      obtain ⟨j, hj1, rfl⟩ := List.mem_map.mp hj0
      have hj := List.mem_range.mp (List.mem_filter.mp hj1).1
      simp [atI_prs (show j < q.length by omega), unI]
    · rw [fm_ix]
      have hw := inW_sum (q := q) (t := (at0 q i).1) (L := (at0 s n).1) (i + 1) (by omega)
      unfold inW at hw
      simp [hw]
      by_cases hf : win (q.take (i + 1)) (at0 q i).1 (at0 s n).1 = (at0 s n).2
      · have hm : i ∈ inW q (at0 q i).1 (at0 s n).1 (i + 1) := List.mem_filter.mpr ⟨List.mem_range.mpr (by omega), decide_eq_true (by omega)⟩
        have h0 : atI (inz ((inW q (at0 q i).1 (at0 s n).1 (i + 1)).map fun (j : Nat) => (j : Int))) 0 = some (.int (fstW q (at0 s n) i : Int)) := by
          unfold fstW
          cases e : inW q (at0 q i).1 (at0 s n).1 (i + 1) with
          | nil => rw [e] at hm; cases hm
          | cons a l => rw [List.map_cons, inz_cons, atI_0]; rfl
        unfold inW at h0
        simp [hf, fullB, h0]
      · simp [hf, fullB]
/-- all full windows, in their order -/
def fullL (s t : List Pr) : List Pr := (List.range s.length).flatMap fun n => ((List.range t.length).filter fun i => fullB (chG s [] t) (at0 s n) i).map fun (i : Nat) => ((n : Int), (i : Int))
theorem fm_rp {a : Int} {c : Nat → Bool} : ∀ l : List Nat, (l.map fun (i : Nat) => PyData.int (i : Int)).filterMap (unI fun i => if c i then some (.tuple [.int a, .int (i : Int)]) else none) = prs ((l.filter c).map fun (i : Nat) => (a, (i : Int)))
  | [] => rfl
  | i :: l => by
    have ih := fm_rp (a := a) (c := c) l
    rw [List.map_cons, List.filterMap_cons, ih, List.filter_cons]
    by_cases h : c i = true <;> simp [unI, h, prs_cons, pr]
theorem flat_len (s t : List Pr) (n : Nat) : ((List.range n).flatMap fun n => ((List.range t.length).filter fun i => fullB (chG s [] t) (at0 s n) i).map fun (i : Nat) => ((n : Int), (i : Int))).length ≤ n * t.length := by
  induction n with
  | zero => simp
  | succ n ih =>
    rw [List.range_succ, List.flatMap_append, List.length_append]
    have : ((List.range t.length).filter fun i => fullB (chG s [] t) (at0 s n) i).length ≤ t.length := by
      have := List.length_filter_le (fun i => fullB (chG s [] t) (at0 s n) i) (List.range t.length)
      simpa using this
    simp
    rw [Nat.add_mul]
    simp at ih
    omega
theorem full_windows_ok (s t : List Pr) (h : schB s = true) (h2 : trpB t = true) : g_full_windows [.dat (.tuple (prs s)), .dat (.tuple (prs t))] = .ok (.new (prs (fullL s t))) [] := by
  have hz := sch_len h
  have hy := trp_len h2
  have hso := sok h
  apply fun_ok
  have hrg : gRng1 [.int (s.length : Int)] = some ((List.range s.length).map fun (j : Nat) => .int (j : Int)) := gRng1_i (by omega) (by omega)
  have hrg2 : gRng1 [.int (t.length : Int)] = some ((List.range t.length).map fun (j : Nat) => .int (j : Int)) := gRng1_i (by omega) (by omega)
  simp [b_full_windows, need_both_ok s t h h2, charged_ok s t (sch_ne h) hz hy, hrg]
  have ql : (chG s [] t).length = t.length := by rw [chG_len]; simp
  obtain ⟨I, hI⟩ : ∃ I : List PyData → Rho → Prop, ∀ rest ρ, I rest ρ ↔ ∃ (n m : Nat) (x4 : Option PyData), rest = (List.range' n m).map (fun (j : Nat) => .int (j : Int)) ∧ n + m = s.length ∧ ρ = [.dat (.tuple (prs s)), .dat (.tuple (prs t)), .dat (.list (prs (chG s [] t))), .ls (prs ((List.range n).flatMap fun n => ((List.range t.length).filter fun i => fullB (chG s [] t) (at0 s n) i).map fun (i : Nat) => ((n : Int), (i : Int)))), lv x4, .un] := ⟨_, fun _ _ => Iff.rfl⟩
  refine loop_w I ?_ ?_ _ _ ((hI _ _).mpr ⟨0, s.length, none, by rw [List.range_eq_range'], by omega, rfl⟩)
  · intro d rest ρ hi
    obtain ⟨n, m, x4, e1, e2, rfl⟩ := (hI _ _).mp hi
    cases m with
    | zero => cases e1
    | succ m =>
      rw [List.range'_succ, List.map_cons] at e1
      cases e1
      simp [hrg2]
      refine post_of (comp_map (f := unI fun i => if fullB (chG s [] t) (at0 s n) i then some (.tuple [.int (n : Int), .int (i : Int)]) else none) ?_) ?_
      · intro d hd
        obtain ⟨j, hj, rfl⟩ := List.mem_map.mp hd
        rw [List.mem_range] at hj
        have hl : 1 ≤ (at0 s n).1 := by rw [at0_at (show n < s.length by omega)]; exact hso.len _ (List.getElem_mem _)
        have hf := full_window_ok s (chG s [] t) n j (by omega) (by omega) (by omega) hl
        simp [hf]
        by_cases hb : fullB (chG s [] t) (at0 s n) j = true <;> simp [hb, gIsNot, isNone, unI]
      · rw [fm_rp]
        have hlen := flat_len s t n
        have hlen2 : ((List.range t.length).filter fun i => fullB (chG s [] t) (at0 s n) i).length ≤ t.length := by
          have := List.length_filter_le (fun i => fullB (chG s [] t) (at0 s n) i) (List.range t.length)
          simpa using this
        have hlen3 : ((List.range t.length).filter (fullB (chG s [] t) (at0 s n))).length ≤ t.length := hlen2
        have hm : n * t.length ≤ 1000 * 1000 := Nat.mul_le_mul (by omega) (by omega)
        simp [-List.length_flatMap]
        refine ⟨by omega, (hI _ _).mpr ⟨n + 1, m, some (.int n), rfl, by omega, ?_⟩⟩
        rw [List.range_succ, List.flatMap_append]
        simp
  · intro ρ hi
    obtain ⟨n, m, x4, e1, e2, rfl⟩ := (hI _ _).mp hi
    cases m with
    | succ m => rw [List.range'_succ] at e1; cases e1
    | zero =>
      have : n = s.length := by omega
      subst this
      simp
      rfl
end RP
namespace RP
open PySem PySem.Spec L2 R RC
theorem chG_at (s t : List Pr) {i : Nat} (h : i < t.length) : (chG s [] t).take (i + 1) = chG s [] (t.take i) ++ [((at0 t i).1, min (at0 t i).2 (room s (chG s [] (t.take i)) (at0 t i).1))] := by
  have := chG_take s t [] (i + 1)
  simp at this
  rw [← this, List.take_add_one, List.getElem?_eq_getElem h]
  show chG s [] (t.take i ++ [t[i]]) = _
  rw [chG_snoc, at0_at h]
theorem at0_chG (s t : List Pr) {i : Nat} (h : i < t.length) : at0 (chG s [] t) i = ((at0 t i).1, min (at0 t i).2 (room s (chG s [] (t.take i)) (at0 t i).1)) := by
  have e := chG_at s t h
  have hl : i < (chG s [] t).length := by rw [chG_len]; simpa using h
  have h1 : ((chG s [] t).take (i + 1))[i]? = (chG s [] t)[i]? := by rw [List.getElem?_take, if_pos (by omega)]
  rw [e, List.getElem?_append_right (by rw [chG_len]; simp; omega)] at h1
  have h2 : i - (chG s [] (t.take i)).length = 0 := by rw [chG_len]; simp; omega
  rw [h2] at h1
  unfold at0
  rw [List.getD_eq_getElem?_getD, ← h1]
  rfl
theorem full_less {s t : List Pr} (hs : Sok s) {i : Nat} (h : i < t.length) (hc : (at0 (chG s [] t) i).2 < (at0 t i).2) : ∃ n, n < s.length ∧ fullB (chG s [] t) (at0 s n) i = true := by
  rw [at0_chG s t h] at hc
  dsimp only at hc
  obtain ⟨k, hk, e⟩ := room_mem (s := s) (q := chG s [] (t.take i)) (t := (at0 t i).1) hs.ne
  obtain ⟨n, hn, rfl⟩ := List.getElem_of_mem hk
  refine ⟨n, hn, decide_eq_true ?_⟩
  rw [at0_at hn, at0_chG s t h, chG_at s t h]
  dsimp only
  have h1 := hs.len _ hk
  have : win (chG s [] (t.take i) ++ [((at0 t i).1, min (at0 t i).2 (room s (chG s [] (t.take i)) (at0 t i).1))]) (at0 t i).1 s[n].1 = win (chG s [] (t.take i)) (at0 t i).1 s[n].1 + min (at0 t i).2 (room s (chG s [] (t.take i)) (at0 t i).1) := by
    unfold win
    rw [sq_app, sq_cons, sq_nil, if_pos (by exact decide_eq_true (by dsimp only; omega))]
    dsimp only
    omega
  rw [this]
  omega
theorem mem_full {s t : List Pr} {n i : Nat} (hn : n < s.length) (hi : i < t.length) (h : fullB (chG s [] t) (at0 s n) i = true) : ((n : Int), (i : Int)) ∈ fullL s t := by
  unfold fullL
  rw [List.mem_flatMap]
  exact ⟨n, List.mem_range.mpr hn, List.mem_map.mpr ⟨i, List.mem_filter.mpr ⟨List.mem_range.mpr hi, h⟩, rfl⟩⟩
theorem range_fG {c : Nat → Bool} {f : Nat → Int} : ∀ l : List Nat, (l.map fun (i : Nat) => PyData.int (i : Int)).filterMap (unI fun i => if c i then some (.int (f i)) else none) = inz ((l.filter c).map f)
  | [] => rfl
  | a :: l => by
    have ih := range_fG (c := c) (f := f) l
    rw [List.map_cons, List.filterMap_cons, ih, List.filter_cons]
    by_cases h : c a = true <;> simp [unI, h, inz_cons]
theorem inD_i {a : Int} : ∀ l : List Int, inD (.int a) (inz l) = decide (a ∈ l)
  | [] => by simp [inD]
  | b :: l => by
    have ih := inD_i (a := a) l
    unfold inD at ih ⊢
    rw [inz_cons, List.any_cons, ih]
    simp
    congr 1
    exact decide_eq_decide.mpr ⟨Eq.symm, Eq.symm⟩
@[simp] theorem gIn_l {neg : Bool} {a : Int} {l : List Int} : gIn neg (.int a) (.list (inz l)) = some (.dat (.bool (if neg then !decide (a ∈ l) else decide (a ∈ l)))) := by
  unfold gIn
  simp [seqD, inD_i, flatD]
end RP
namespace RP
open PySem PySem.Spec L2 R RC
/-! headroom, free_until -/
def lastT (t : List Pr) : Int := (t.getLast?.map (·.1)).getD 0
theorem lastT_nil : lastT [] = 0 := rfl
theorem lastT_snoc (t : List Pr) (p : Pr) : lastT (t ++ [p]) = p.1 := by simp [lastT]
theorem atI_last {α : Type} (l : List α) (x : α) : atI (l ++ [x]) (-1) = some x := by
  unfold atI ixN
  rw [if_neg (by omega), if_pos (by simp; omega)]
  have e : (-1 + ((l.length : Int) + 1)).toNat = l.length := by omega
  simp
  rw [e]
  simp
theorem prs_ne {t : List Pr} (h : t ≠ []) : ∃ u p, t = u ++ [p] := by
  refine ⟨t.dropLast, t.getLast h, (List.dropLast_concat_getLast h).symm⟩
theorem gNe_tp {t : List Pr} : gNe (.tuple (prs t)) (.tuple []) = some (.dat (.bool (!decide (t = [])))) := by
  have := eqv_tp (l := t) (m := [])
  rw [gNe_of sh_tp (sh_pl (by simp [pl, plA]))]
  rw [show (PyData.tuple [] : PyData) = .tuple (prs []) from rfl, this]
theorem last_time_ok (t : List Pr) : g_last_time [.dat (.tuple (prs t))] = .ok (.dat (.int (lastT t))) [] := by
  apply fun_ok
  by_cases h : t = []
  · subst h
    have := gNe_tp (t := [])
    simp at this
    simp [b_last_time, this, lastT]
  · obtain ⟨u, p, rfl⟩ := prs_ne h
    have e : atI (prs (u ++ [p])) (-1) = some (pr p) := by
      rw [← prs_snoc]; exact atI_last _ _
    simp [b_last_time, gNe_tp, lastT_snoc, e]
theorem room_big {s q : List Pr} (hs : Sok s) (hp : ∀ k ∈ s, k.2 ≤ 1000000) (hq : Nn q) (t : Int) : room s q t ≤ 1000000 := by
  obtain ⟨k, hk, e⟩ := room_mem (q := q) (t := t) hs.ne
  have h1 := hp k hk
  have h2 : 0 ≤ win q t k.1 := sq_nn hq
  omega
theorem sch_pr {s : List Pr} (h : schB s = true) : ∀ k ∈ s, 1 ≤ k.1 ∧ k.1 ≤ 400 ∧ 1 ≤ k.2 ∧ k.2 ≤ 1000000 := fun k hk => by
  unfold schB at h
  simp only [Bool.and_eq_true] at h
  have := List.all_eq_true.mp h.1.2 k hk
  simp [inB] at this
  omega
theorem trp_40 {t : List Pr} (h : trpB t = true) : t.length ≤ 40 := by simp [trpB] at h; omega
theorem law_room_ok (s t : List Pr) (h : schB s = true) (ht : trpB t = true) (x : Int) : g__law_room [.dat (.tuple (prs s)), .dat (.tuple (prs t)), .dat (.int x)] = .ok (.dat (.int (room s (chG s [] t) x))) [] := by
  apply fun_ok
  have hz := sch_len h
  have hy := trp_len ht
  have hpow : gPow (.int 10) (.int 9) = some (.dat (.int 1000000000)) := gPow_i (by decide)
  have gad : gAdd (.tuple (prs t)) (.tuple [.tuple [.int x, .int 1000000000]]) = some (.dat (.tuple (prs (t ++ [(x, 1000000000)])))) := by
    unfold gAdd
    dsimp only
    rw [if_pos (by simp; omega), ← prs_app]; rfl
  have h40 := trp_40 ht
  have lc := law_charges_ok s (t ++ [(x, 1000000000)]) (sch_ne h) hz (by simp; omega)
  have e : chs s (t ++ [(x, 1000000000)]) = chs s t ++ [room s (chG s [] t) x] := by
    unfold chs
    rw [chG_snoc, List.map_append]
    have := room_big (sok h) (fun k hk => (sch_pr h k hk).2.2.2) (chg_ok (sok h) t (tr ht)).nn x
    simp
    omega
  have a1 : atI (inz (chs s t ++ [room s (chG s [] t) x])) (-1) = some (.int (room s (chG s [] t) x)) := by
    rw [← inz_snoc]; exact atI_last _ _
  rw [e] at lc
  simp [b__law_room, hpow, gad, lc, a1]
theorem headroom_ok (s t : List Pr) (h : schB s = true) (ht : trpB t = true) (x : Int) (h1 : lastT t ≤ x) (h2 : x ≤ 1000000000) : g_headroom [.dat (.tuple (prs s)), .dat (.tuple (prs t)), .dat (.int x)] = .ok (.dat (.int (room s (chG s [] t) x))) [] := by
  apply fun_ok
  have hz := sch_len h
  have hy := trp_len ht
  have ql : (chG s [] t).length = t.length := by rw [chG_len]; simp
  have rm := room_at_ok s (chG s [] t) x (sch_ne h) hz
  simp [b_headroom, need_both_ok s t h ht, last_time_ok, is_from_int, h1, h2, charged_ok s t (sch_ne h) hz hy, rm]
theorem headroom_err1 (d e f : PyData) (hd : pl 5 d = true) (h : schD d = false) : g_headroom [.dat d, .dat e, .dat f] = .err ⟨"InvalidSchedule", none⟩ [] := by
  apply fun_er
  simp [b_headroom, need_both_err1 d e hd h]
theorem headroom_err2 (s : List Pr) (h : schB s = true) (e f : PyData) (hd : pl 5 e = true) (h2 : trpD e = false) : g_headroom [.dat (.tuple (prs s)), .dat e, .dat f] = .err ⟨"InvalidTrips", none⟩ [] := by
  apply fun_er
  simp [b_headroom, need_both_err2 s h e hd h2]
theorem headroom_err3 (s t : List Pr) (h : schB s = true) (ht : trpB t = true) (f : PyData) (hd : pl 5 f = true) (h2 : fromB (lastT t) 1000000000 f = false) : g_headroom [.dat (.tuple (prs s)), .dat (.tuple (prs t)), .dat f] = .err ⟨"InvalidTime", none⟩ [] := by
  apply fun_er
  simp [b_headroom, need_both_ok s t h ht, last_time_ok, is_from_any f hd, h2]
theorem free_until_err (s : List Pr) (h : schB s = true) (e : PyData) (hd : pl 5 e = true) (h2 : trpD e = false) : g_free_until [.dat (.tuple (prs s)), .dat e] = .err ⟨"InvalidTrips", none⟩ [] := by
  apply fun_er
  simp [b_free_until, need_both_err2 s h e hd h2]
end RP
namespace RP
open PySem PySem.Spec L2 R RC
theorem le_last {t : List Pr} (ht : Tr t) : ∀ p ∈ t, p.1 ≤ lastT t := fun p hp => by
  obtain ⟨u, x, rfl⟩ := prs_ne (t := t) (fun e => by rw [e] at hp; cases hp)
  rw [lastT_snoc]
  rcases List.mem_append.mp hp with h | h
  · exact (List.pairwise_append.mp ht.asc).2.2 p h x List.mem_cons_self
  · rw [List.mem_singleton.mp h]; exact Int.le_refl _
theorem room_far {s t : List Pr} (h : schB s = true) (ht : trpB t = true) {x : Int} (hx : lastT t + 400 ≤ x) : 1 ≤ room s (chG s [] t) x := by
  obtain ⟨k, hk, e⟩ := room_mem (q := chG s [] t) (t := x) (sok h).ne
  have hp := sch_pr h k hk
  have h0 : win (chG s [] t) x k.1 = 0 := sq_zero fun a m => by
    have : a.1 ∈ (chG s [] t).map (·.1) := List.mem_map.mpr ⟨a, m, rfl⟩
    rw [chG_fst] at this
    obtain ⟨b, mb, eb⟩ := List.mem_map.mp (show a.1 ∈ t.map (·.1) by simpa using this)
    have := le_last (tr ht) b mb
    exact decide_eq_false (by omega)
  omega
theorem room_nn {s t : List Pr} (h : schB s = true) (ht : trpB t = true) {x : Int} (hx : lastT t ≤ x) : 0 ≤ room s (chG s [] t) x := by
  have C := chg_ok (sok h) t (tr ht)
  obtain ⟨k, hk, e⟩ := room_mem (q := chG s [] t) (t := x) (sok h).ne
  have hc := C.cap k hk (x - k.1 + 1)
  have : win (chG s [] t) x k.1 = sq (chG s [] t) (inP (x - k.1 + 1, k)) := sq_congr fun a m => by
    have : a.1 ∈ (chG s [] t).map (·.1) := List.mem_map.mpr ⟨a, m, rfl⟩
    rw [chG_fst] at this
    obtain ⟨b, mb, eb⟩ := List.mem_map.mp (show a.1 ∈ t.map (·.1) by simpa using this)
    have := le_last (tr ht) b mb
    unfold inP
    exact decide_eq_decide.mpr (by dsimp only; omega)
  omega
theorem free_until_ok (s t : List Pr) (h : schB s = true) (ht : trpB t = true) : ∃ u : Int, g_free_until [.dat (.tuple (prs s)), .dat (.tuple (prs t))] = .ok (.dat (.int u)) [] ∧ lastT t ≤ u ∧ u ≤ lastT t + 400 ∧ 1 ≤ room s (chG s [] t) u ∧ ∀ y, lastT t ≤ y → y < u → room s (chG s [] t) y = 0 := by
  have hz := sch_len h
  have hy := trp_len ht
  obtain ⟨Q, hQ⟩ : ∃ Q : Rv → List PyData → Prop, ∀ r l', Q r l' ↔ ∃ u : Int, r = .dat (.int u) ∧ l' = [] ∧ lastT t ≤ u ∧ u ≤ lastT t + 400 ∧ 1 ≤ room s (chG s [] t) u ∧ ∀ y, lastT t ≤ y → y < u → room s (chG s [] t) y = 0 := ⟨_, fun _ _ => Iff.rfl⟩
  have key := fun_ex (n := 4) (fb := b_free_until) (args := [.dat (.tuple (prs s)), .dat (.tuple (prs t))]) (Q := Q) ?_
  · obtain ⟨r, l', e, q⟩ := key
    obtain ⟨u, rfl, rfl, q2⟩ := (hQ _ _).mp q
    exact ⟨u, e, q2⟩
  simp [b_free_until, need_both_ok s t h ht, last_time_ok, charged_ok s t (sch_ne h) hz hy]
  obtain ⟨I, hI⟩ : ∃ I : Nat → Rho → Prop, ∀ m ρ, I m ρ ↔ ∃ x : Int, ρ = [.dat (.tuple (prs s)), .dat (.tuple (prs t)), .dat (.list (prs (chG s [] t))), .dat (.int x)] ∧ lastT t ≤ x ∧ x + (m : Int) = lastT t + 400 ∧ ∀ y, lastT t ≤ y → y < x → room s (chG s [] t) y = 0 := ⟨_, fun _ _ => Iff.rfl⟩
  refine while_w I ?_ _ 400 _ (by unfold fuel; omega) ((hI _ _).mpr ⟨lastT t, rfl, Int.le_refl _, rfl, fun y h1 h2 => by omega⟩)
  intro m ρ hi
  obtain ⟨x, rfl, e1, e2, e3⟩ := (hI _ _).mp hi
  have rm := room_at_ok s (chG s [] t) x (sch_ne h) hz
  have r0 := room_nn h ht e1
  simp [rm]
  by_cases hr : room s (chG s [] t) x = 0
  · simp [hr]
    cases m with
    | zero =>
      have := room_far h ht (x := x) (by omega)
      omega
    | succ m =>
      refine ⟨m, rfl, ?_⟩
      simp [aAdd]
      refine (hI _ _).mpr ⟨x + 1, rfl, by omega, by omega, fun y h1 h2 => ?_⟩
      by_cases e : y = x
      · rw [e]; exact hr
      · exact e3 y h1 (by omega)
  · simp [hr]
    exact (hQ _ _).mpr ⟨x, rfl, rfl, e1, by omega, by omega, e3⟩
theorem trp_in {t : List Pr} (h : trpB t = true) : ∀ p ∈ t, 0 ≤ p.1 ∧ p.1 ≤ 1000000000 ∧ 0 ≤ p.2 ∧ p.2 ≤ 1000000 := fun p hp => by
  unfold trpB at h
  simp only [Bool.and_eq_true] at h
  have := List.all_eq_true.mp h.1.2 p hp
  simp [inB] at this
  omega
theorem last_in {t : List Pr} (h : trpB t = true) : 0 ≤ lastT t ∧ lastT t ≤ 1000000000 := by
  by_cases e : t = []
  · subst e; simp [lastT]
  · obtain ⟨v, x, rfl⟩ := prs_ne e
    rw [lastT_snoc]
    have := trp_in h x (by simp)
    omega
/-- trips[-1][0] if trips != () else 0 -/
theorem w_lastE (t : List Pr) {Pv : Rv → Rho → Prop} {E : Exn → Rho → Prop} {ρ : Rho} (h : ρ[5]? = some (.dat (.tuple (prs t)))) : Pst Pv E (dIf (asB (dOp2 gNe (dVar 5) (dDisp mkTup dNil))) (dOp2 gIx (dOp2 gIx (dVar 5) (dNeg (dC (.int 1)))) (dC (.int 0))) (dC (.int 0)) ρ) = Pv (.dat (.int (lastT t))) ρ := by
  by_cases e : t = []
  · subst e
    have := gNe_tp (t := [])
    simp at this
    simp at h
    simp [h, this, lastT]
  · obtain ⟨v, x, rfl⟩ := prs_ne e
    have e2 : atI (prs (v ++ [x])) (-1) = some (pr x) := by
      rw [← prs_snoc]; exact atI_last _ _
    simp [h, gNe_tp, lastT_snoc, e2]
end RP
namespace RP
open PySem PySem.Spec L2 R RC
/-! another fare of a trip -/
def swF (t : List Pr) (i : Nat) (f : Int) : List Pr := t.take i ++ ((t.getD i (0, 0)).1, f) :: t.drop (i + 1)
theorem swF_fst {t : List Pr} {i : Nat} (h : i < t.length) (f : Int) : (swF t i f).map (·.1) = t.map (·.1) := by
  have e : t = t.take i ++ t[i] :: t.drop (i + 1) := by rw [← List.drop_eq_getElem_cons h, List.take_append_drop]
  conv => rhs; rw [e]
  unfold swF
  rw [List.getD_eq_getElem?_getD, List.getElem?_eq_getElem h]
  simp only [List.map_append, List.map_cons, Option.getD_some]
theorem swF_len {t : List Pr} {i : Nat} (h : i < t.length) (f : Int) : (swF t i f).length = t.length := by
  have := congrArg List.length (swF_fst h f)
  simpa using this
theorem swF_tr {t : List Pr} (ht : Tr t) {i : Nat} (h : i < t.length) {f : Int} (hf : 0 ≤ f) : Tr (swF t i f) := by
  refine ⟨fun x m => ?_, ?_⟩
  · unfold swF at m
    rcases List.mem_append.mp m with m | m
    · exact ht.fare x (List.mem_of_mem_take m)
    · rcases List.mem_cons.mp m with rfl | m
      · exact hf
      · exact ht.fare x (List.mem_of_mem_drop m)
  · have h1 : (t.map (·.1)).Pairwise (· ≤ ·) := List.pairwise_map.mpr ht.asc
    rw [← swF_fst h f] at h1
    exact List.pairwise_map.mp h1
theorem swF_cost (t : List Pr) (i : Nat) (f : Int) (ps : List Ps) : cost ps (swF t i f) = cost ps (swF t i 0) + if unc ps (t.getD i (0, 0)).1 = true then f else 0 := by
  unfold cost swF
  rw [sq_app, sq_app, sq_cons, sq_cons]
  dsimp only
  split <;> omega
/-- the total by the fare of a trip: up to a bound, one for one -/
theorem fare_law {s t : List Pr} (hs : Sok s) (hp : ∀ k ∈ s, k.2 ≤ 1000000) (ht : Tr t) {i : Nat} (h : i < t.length) :
    ∃ C : Int, tot s (swF t i 0) ≤ C ∧ C ≤ tot s (swF t i 0) + 1000000 ∧ ∀ f : Int, 0 ≤ f → tot s (swF t i f) = min (tot s (swF t i 0) + f) C := by
  have T := fun (f : Int) (hf : 0 ≤ f) => tot_is hs (swF_tr ht h hf)
  generalize hx : (t.getD i (0, 0)).1 = x
  have hc := fun f ps => swF_cost t i f ps
  rw [hx] at hc
  have h0 := T 0 (Int.le_refl _)
  have big : ∀ f : Int, 0 ≤ f → tot s (swF t i f) ≤ tot s (swF t i 0) + 1000000 := fun f hf => by
    obtain ⟨ps, v, e⟩ := h0.ub
    obtain ⟨k, hk⟩ := List.exists_mem_of_ne_nil _ hs.ne
    have v2 : Vl s ((x, k) :: ps) := fun q m => by
      rcases List.mem_cons.mp m with rfl | m
      · exact hk
      · exact v q m
    have l1 := (T f hf).lb _ v2
    have hk1 := hs.len k hk
    have hk2 := hp k hk
    have : inP (x, k) x = true := inP_t.mpr (by dsimp only; omega)
    rw [hc f, unc_cons, this, if_neg (by simp)] at l1
    have l2 : cost ((x, k) :: ps) (swF t i 0) ≤ k.2 + cost ps (swF t i 0) := by
      unfold cost
      rw [pric_cons]
      have := sq_le (l := swF t i 0) (c := unc ((x, k) :: ps)) (c' := unc ps) (swF_tr ht h (Int.le_refl _)).fare fun a _ e => by
        rw [unc_cons] at e
        simp at e
        exact e.2
      dsimp only
      omega
    omega
  have B := T 1000001 (by omega)
  refine ⟨tot s (swF t i 1000001), ?_, big _ (by omega), fun f hf => ?_⟩
  · obtain ⟨ps, v, e⟩ := B.ub
    have := h0.lb ps v
    rw [hc 1000001] at e
    split at e <;> omega
  · have F := T f hf
    have u1 : tot s (swF t i f) ≤ tot s (swF t i 0) + f := by
      obtain ⟨ps, v, e⟩ := h0.ub
      have := F.lb ps v
      rw [hc f] at this
      split at this <;> omega
    have u2 : tot s (swF t i f) ≤ tot s (swF t i 1000001) := by
      obtain ⟨ps, v, e⟩ := B.ub
      have l1 := F.lb ps v
      have l2 := h0.lb ps v
      have l3 := big 1000001 (by omega)
      rw [hc 1000001] at e
      rw [hc f] at l1
      by_cases hu : unc ps x = true
      · rw [if_pos hu] at e; omega
      · rw [if_neg hu] at e l1; omega
    obtain ⟨ps, v, e⟩ := F.ub
    have l1 := h0.lb ps v
    have l2 := B.lb ps v
    rw [hc f] at e
    rw [hc 1000001] at l2
    by_cases hu : unc ps x = true
    · rw [if_pos hu] at e l2; omega
    · rw [if_neg hu] at e l2; omega
end RP
namespace RP
open PySem PySem.Spec L2 R RC
/-! doors for an index and an amount; fares_for -/
theorem need_index_ok (t : List Pr) (d : PyData) (hd : pl 5 d = true) (h : fromB 0 ((t.length : Int) - 1) d = true) : g_need_index [.dat (.tuple (prs t)), .dat d] = .ok (.dat .none) [] := by
  apply fun_ok
  simp [b_need_index, is_from_any d hd, h]
theorem need_index_err (t : List Pr) (d : PyData) (hd : pl 5 d = true) (h : fromB 0 ((t.length : Int) - 1) d = false) : g_need_index [.dat (.tuple (prs t)), .dat d] = .err ⟨"InvalidIndex", none⟩ [] := by
  apply fun_er
  simp [b_need_index, is_from_any d hd, h]
theorem need_amount_ok (d : PyData) (hd : pl 5 d = true) (h : fromB 0 1000000000 d = true) : g_need_amount [.dat d] = .ok (.dat .none) [] := by
  apply fun_ok
  simp [b_need_amount, is_from_any d hd, h]
theorem need_amount_err (d : PyData) (hd : pl 5 d = true) (h : fromB 0 1000000000 d = false) : g_need_amount [.dat d] = .err ⟨"InvalidAmount", none⟩ [] := by
  apply fun_er
  simp [b_need_amount, is_from_any d hd, h]
theorem law_total_ok (s t : List Pr) (hs : s ≠ []) (hz : s.length < 1000) (ht : t.length < 1000) : g__law_total [.dat (.tuple (prs s)), .dat (.tuple (prs t))] = .ok (.dat (.int (tot s t))) [] := by
  apply fun_ok
  simp [b__law_total, law_charges_ok s t hs hz ht, tot]
theorem cut_ft {t : List Pr} {i : Nat} : cut (prs t) none (some (i : Int)) = prs (t.take i) := by
  unfold prs; rw [cut_map, cut_take]
theorem cut_fd {t : List Pr} {i : Nat} : cut (prs t) (some ((i : Int) + 1)) none = prs (t.drop (i + 1)) := by
  unfold prs; rw [cut_map]
  exact congrArg _ (cut_drop (n := i + 1))
theorem gAdd_tp {a b : List Pr} (h : a.length + b.length ≤ 1000) : gAdd (.tuple (prs a)) (.tuple (prs b)) = some (.dat (.tuple (prs (a ++ b)))) := by
  unfold gAdd
  dsimp only
  rw [if_pos (by simp; omega), ← prs_app]
theorem gAdd_t1 {a : List Pr} {x f : Int} (h : a.length ≤ 999) : gAdd (.tuple (prs a)) (.tuple [.tuple [.int x, .int f]]) = some (.dat (.tuple (prs (a ++ [(x, f)])))) := gAdd_tp (b := [(x, f)]) (by simp; omega)
theorem with_fare_ok (s t : List Pr) (hs : s ≠ []) (hz : s.length < 1000) (ht : t.length < 500) {i : Nat} (h : i < t.length) (f : Int) : g__law_with_fare [.dat (.tuple (prs s)), .dat (.tuple (prs t)), .dat (.int (i : Int)), .dat (.int f)] = .ok (.dat (.int (tot s (swF t i f)))) [] := by
  apply fun_ok
  have a1 := atI_prs h
  have g1 := gAdd_t1 (a := t.take i) (x := (at0 t i).1) (f := f) (by simp; omega)
  have g2 := gAdd_tp (a := t.take i ++ [((at0 t i).1, f)]) (b := t.drop (i + 1)) (by simp; omega)
  have e : t.take i ++ [((at0 t i).1, f)] ++ t.drop (i + 1) = swF t i f := by simp [swF, at0]
  rw [e] at g2
  have lt := law_total_ok s (swF t i f) hs hz (by rw [swF_len h]; omega)
  simp [b__law_with_fare, a1, g1, g2, lt, cut_ft, cut_fd]
theorem total_with_fare_ok (s t : List Pr) (hs : s ≠ []) (hz : s.length < 1000) (ht : t.length < 500) {i : Nat} (h : i < t.length) (f : Int) : g_total_with_fare [.dat (.tuple (prs s)), .dat (.tuple (prs t)), .dat (.int (i : Int)), .dat (.int f)] = .ok (.dat (.int (tot s (swF t i f)))) [] := by
  apply fun_ok
  have a1 := atI_prs h
  have g1 := gAdd_t1 (a := t.take i) (x := (at0 t i).1) (f := f) (by simp; omega)
  have g2 := gAdd_tp (a := t.take i ++ [((at0 t i).1, f)]) (b := t.drop (i + 1)) (by simp; omega)
  have e : t.take i ++ [((at0 t i).1, f)] ++ t.drop (i + 1) = swF t i f := by simp [swF, at0]
  rw [e] at g2
  have lt := total_of_ok s (swF t i f) hs hz (by rw [swF_len h]; omega)
  simp [b_total_with_fare, a1, g1, g2, lt, cut_ft, cut_fd, tot]
theorem whole_int (v : Int) : g__law_whole [.dat (.int v)] = .ok (.dat (.bool true)) [] := fun_ok (by simp [b__law_whole, tbOf])
/-- what fares_for answers, by the totals at both ends -/
def fareA (lo hi a : Int) : PyData := if lo ≤ a ∧ a ≤ hi then .tuple [.int (a - lo), if a = hi then .none else .int (a - lo)] else .none
theorem fares_for_ok (s t : List Pr) (h : schB s = true) (ht : trpB t = true) {i : Nat} (hi : i < t.length) {a : Int} (a0 : 0 ≤ a) (a1 : a ≤ 1000000000) :
    g_fares_for [.dat (.tuple (prs s)), .dat (.tuple (prs t)), .dat (.int (i : Int)), .dat (.int a)] = .ok (.dat (fareA (tot s (swF t i 0)) (tot s (swF t i 1000000000)) a)) [] := by
  apply fun_ok
  have h40 := trp_40 ht
  have n1 := need_index_ok t (.int (i : Int)) (pl_i _ _) (by simp; omega)
  have n2 := need_amount_ok (.int a) (pl_i _ _) (by simp; omega)
  have t0 := total_with_fare_ok s t (sch_ne h) (sch_len h) (by omega) hi 0
  have t1 := total_with_fare_ok s t (sch_ne h) (sch_len h) (by omega) hi 1000000000
  generalize tot s (swF t i 0) = lo at t0
  generalize tot s (swF t i 1000000000) = hi at t1
  simp [b_fares_for, need_both_ok s t h ht, n1, n2, t0, t1, fareA]
  by_cases k1 : lo ≤ a
  · by_cases k2 : a ≤ hi
    · by_cases k3 : a = hi
      · simp [k1, k2, k3]
      · simp [k1, k2, k3]
    · simp [k1, k2]
  · simp [k1]
theorem fares_for_err1 (d e f g : PyData) (hd : pl 5 d = true) (h : schD d = false) : g_fares_for [.dat d, .dat e, .dat f, .dat g] = .err ⟨"InvalidSchedule", none⟩ [] := by
  apply fun_er
  simp [b_fares_for, need_both_err1 d e hd h]
theorem fares_for_err2 (s : List Pr) (h : schB s = true) (e f g : PyData) (hd : pl 5 e = true) (h2 : trpD e = false) : g_fares_for [.dat (.tuple (prs s)), .dat e, .dat f, .dat g] = .err ⟨"InvalidTrips", none⟩ [] := by
  apply fun_er
  simp [b_fares_for, need_both_err2 s h e hd h2]
theorem fares_for_err3 (s t : List Pr) (h : schB s = true) (ht : trpB t = true) (f g : PyData) (hd : pl 5 f = true) (h2 : fromB 0 ((t.length : Int) - 1) f = false) : g_fares_for [.dat (.tuple (prs s)), .dat (.tuple (prs t)), .dat f, .dat g] = .err ⟨"InvalidIndex", none⟩ [] := by
  apply fun_er
  simp [b_fares_for, need_both_ok s t h ht, need_index_err t f hd h2]
theorem fares_for_err4 (s t : List Pr) (h : schB s = true) (ht : trpB t = true) (f g : PyData) (hd : pl 5 f = true) (h2 : fromB 0 ((t.length : Int) - 1) f = true) (hg : pl 5 g = true) (h3 : fromB 0 1000000000 g = false) : g_fares_for [.dat (.tuple (prs s)), .dat (.tuple (prs t)), .dat f, .dat g] = .err ⟨"InvalidAmount", none⟩ [] := by
  apply fun_er
  simp [b_fares_for, need_both_ok s t h ht, need_index_ok t f hd h2, need_amount_err g hg h3]
/-- the law's own look at it -/
theorem law_right15_ok (s t : List Pr) (h : schB s = true) (ht : trpB t = true) {i : Nat} (hi : i < t.length) {a : Int} (a0 : 0 ≤ a) (a1 : a ≤ 1000000000) :
    g__law_right_k15 [.dat (.tuple (prs s)), .dat (.tuple (prs t)), .dat (.int (i : Int)), .dat (.int a)] = .ok (.dat (.bool true)) [] := by
  apply fun_ok
  have h40 := trp_40 ht
  have ff := fares_for_ok s t h ht hi a0 a1
  have wf := fun f => with_fare_ok s t (sch_ne h) (sch_len h) (by omega) hi f
  obtain ⟨C, c1, c2, c3⟩ := fare_law (sok h) (fun k hk => (sch_pr h k hk).2.2.2) (tr ht) hi
  have L0 : 0 ≤ tot s (swF t i 0) := by
    rw [tot_sq]
    exact sq_nn (chg_ok (sok h) _ (swF_tr (tr ht) hi (Int.le_refl _))).nn
  have e1 : tot s (swF t i 1000000000) = C := by
    have := c3 1000000000 (by omega)
    omega
  have e2 : tot s (swF t i 1000000000000) = C := by
    have := c3 1000000000000 (by omega)
    omega
  have w0 := wf 0
  have w1 := wf 1000000000000
  rw [e2] at w1
  rw [e1] at ff
  have p12 : gPow (.int 10) (.int 12) = some (.dat (.int 1000000000000)) := gPow_i (by decide)
  generalize tot s (swF t i 0) = L at *
  have gNb : ∀ x y : Bool, gNe (.bool x) (.bool y) = some (.dat (.bool (!decide (x = y)))) := fun x y => by rw [gNe_of sh_b sh_b]; cases x <;> cases y <;> rfl
  obtain ⟨told, et⟩ : ∃ told, told = fareA L C a := ⟨_, rfl⟩
  rw [← et] at ff
  have cs : (told = .none ∧ ¬ (L ≤ a ∧ a ≤ C)) ∨ (told = .tuple [.int (a - L), .none] ∧ L ≤ a ∧ a = C) ∨ (told = .tuple [.int (a - L), .int (a - L)] ∧ L ≤ a ∧ a < C) := by
    unfold fareA at et
    by_cases k1 : L ≤ a ∧ a ≤ C
    · rw [if_pos k1] at et
      by_cases k2 : a = C
      · rw [if_pos k2] at et; exact .inr (.inl ⟨et, k1.1, k2⟩)
      · rw [if_neg k2] at et; exact .inr (.inr ⟨et, k1.1, by omega⟩)
    · rw [if_neg k1] at et; exact .inl ⟨et, k1⟩
  obtain ⟨J, hJ⟩ : ∃ J : List PyData → Rho → Prop, ∀ rest ρ, J rest ρ ↔ ∃ (x7 x8 : Option PyData) (todo : List Int), rest = inz todo ∧ ρ = [.dat (.tuple (prs s)), .dat (.tuple (prs t)), .dat (.int (i : Int)), .dat (.int a), .dat told, .dat (.int L), .dat (.int C), lv x7, lv x8] := ⟨_, fun _ _ => Iff.rfl⟩
  have wi := fun v => whole_int v
  rcases cs with ⟨rfl, k⟩ | ⟨rfl, k, k2⟩ | ⟨rfl, k, k2⟩
  all_goals
    simp [b__law_right_k15, ff, w0, w1, p12, gIsNot, gIs, isNone, tbOf, wi]
    refine loop_w J ?_ ?_ _ _ ((hJ _ _).mpr ⟨none, none, [0, 1, 2, a - L, a - L + 1, a - L - 1, C - L, C - L + 1, 1000000000000], rfl, rfl⟩)
    · intro d rest ρ hi
      obtain ⟨x7, x8, todo, e1, rfl⟩ := (hJ _ _).mp hi
      cases todo with
      | nil => cases e1
      | cons f todo =>
        cases e1
        by_cases hf : 0 ≤ f
        · have e3 := c3 f hf
          have w3 := wf f
          generalize tot s (swF t i f) = T at *
          simp [hf, w3, gIsNot, gIs, isNone, gNb]
          first
            | exact ⟨by omega, (hJ _ _).mpr ⟨some _, some _, todo, rfl, rfl⟩⟩
            | (split <;> exact ⟨by omega, (hJ _ _).mpr ⟨some _, some _, todo, rfl, rfl⟩⟩)
        · simp [hf]
          exact (hJ _ _).mpr ⟨some _, x8, todo, rfl, rfl⟩
    · intro ρ hi
      obtain ⟨x7, x8, todo, e1, rfl⟩ := (hJ _ _).mp hi
      simp [gIsNot, gIs, isNone, wi]
      try exact k
end RP
namespace RP
open PySem PySem.Spec L2 R RC
/-! helpers -/
theorem comp_r {vs : List Nat} {g : PyData → Rho → Option Rho} {t : Rho → Res Bool} {e : Rho → Res Rv} {E : Exn → Rho → Prop} {P : List PyData → Rho → Prop} {ds : List PyData} {ρ : Rho} (I : List PyData → List PyData → Rho → Prop)
    (step : ∀ d rest acc ρ, I (d :: rest) acc ρ → onS (g d ρ) fun ρ1 => Pst (fun b ρ2 => if b = true then Pst (fun r ρ3 => onS (frz r ρ3) fun x => I rest (acc ++ [x.1]) (wipeR x.2 vs)) NoE (e ρ2) else I rest acc (wipeR ρ2 vs)) NoE (t ρ1))
    (h0 : I ds [] ρ) (fin : ∀ l ρ', I [] l ρ' → P l ρ') : Pst P E (dComp vs g t e ds ρ) := by
  have := comp_w (E := E) I step ds [] ρ h0
  exact this.mono (fun l ρ' q => fin l ρ' (by simpa using q)) fun _ _ q => q
theorem gNe_bb {x y : Bool} : gNe (.bool x) (.bool y) = some (.dat (.bool (!decide (x = y)))) := by rw [gNe_of sh_b sh_b]; cases x <;> cases y <;> rfl
theorem gEq_bb {x y : Bool} : gEq (.bool x) (.bool y) = some (.dat (.bool (decide (x = y)))) := by rw [gEq_of sh_b sh_b]; cases x <;> cases y <;> rfl
theorem nx_Schedule : gNe (.str "Schedule+") (.str "Schedule+") = some (.dat (.bool false)) := gNe_ss (by decide +kernel)
theorem nx_Trips : gNe (.str "Trips+") (.str "Trips+") = some (.dat (.bool false)) := gNe_ss (by decide +kernel)
theorem nx_Trip : gNe (.str "Trip+") (.str "Trip+") = some (.dat (.bool false)) := gNe_ss (by decide +kernel)
theorem nx_Time : gNe (.str "Time+") (.str "Time+") = some (.dat (.bool false)) := gNe_ss (by decide +kernel)
theorem nx_Index : gNe (.str "Index+") (.str "Index+") = some (.dat (.bool false)) := gNe_ss (by decide +kernel)
theorem nx_Amount : gNe (.str "Amount+") (.str "Amount+") = some (.dat (.bool false)) := gNe_ss (by decide +kernel)
theorem nx_Range : gNe (.str "Range+") (.str "Range+") = some (.dat (.bool false)) := gNe_ss (by decide +kernel)
theorem nx_Period : gNe (.str "Period+") (.str "Period+") = some (.dat (.bool false)) := gNe_ss (by decide +kernel)
theorem nx_Count : gNe (.str "Count+") (.str "Count+") = some (.dat (.bool false)) := gNe_ss (by decide +kernel)
theorem pow9 : gPow (.int 10) (.int 9) = some (.dat (.int 1000000000)) := gPow_i (by decide)
theorem pow6 : gPow (.int 10) (.int 6) = some (.dat (.int 1000000)) := gPow_i (by decide)
theorem pow12 : gPow (.int 10) (.int 12) = some (.dat (.int 1000000000000)) := gPow_i (by decide)
theorem scr_out {ns : List Int} : outOf [.scr ns] = none := rfl
theorem sq_big : ∀ {l : List Pr}, (∀ p ∈ l, p.2 ≤ 1000000) → sq l yes ≤ (l.length : Int) * 1000000
  | [], _ => by simp [sq_nil]
  | p :: l, h => by
    have h1 := sq_big (l := l) fun q m => h q (List.mem_cons_of_mem _ m)
    have h2 := h p List.mem_cons_self
    rw [sq_cons, if_pos (show yes _ = true from rfl), List.length_cons]
    omega
theorem tot_le {s t : List Pr} (hs : Sok s) (ht : Tr t) : tot s t ≤ sq t yes := by
  have h1 := tot_lb hs ht (ps := []) (fun _ m => by cases m)
  have h4 : cost [] t = sq t yes := by
    unfold cost
    rw [show pric [] = 0 from rfl, Int.zero_add]; rfl
  omega
theorem tot_nn {s t : List Pr} (hs : Sok s) (ht : Tr t) : 0 ≤ tot s t := by
  rw [tot_sq]
  exact sq_nn (chg_ok hs _ ht).nn
theorem tot_big {s t : List Pr} (h : schB s = true) (ht : trpB t = true) : tot s t ≤ 40000000 := by
  have h1 := tot_le (sok h) (tr ht)
  have h2 := sq_big (l := t) fun p m => (trp_in ht p m).2.2.2
  have h3 := trp_40 ht
  omega
theorem ints_of_pl {n : Nat} {l : List Int} : plA n (inz l) = true := plA_map (fun x => pl_i _ _) l
theorem pl_ti (n : Nat) (l : List Int) : pl (n + 1) (.tuple (inz l)) = true := by simp only [pl]; exact ints_of_pl
theorem pl_tp (n : Nat) (l : List Pr) : pl (n + 2) (.tuple (prs l)) = true := by simp only [pl]; exact plA_map (pl_pr _) l
theorem pl_lp (n : Nat) (l : List Pr) : pl (n + 2) (.list (prs l)) = true := by simp only [pl]; exact plA_map (pl_pr _) l
theorem cut_inz1 {l : List Int} : cut (inz l) (some 1) none = inz (l.drop 1) := by
  unfold inz; rw [cut_map]; exact congrArg _ (cut_drop (n := 1))
theorem cut_it {l : List Int} {i : Nat} : cut (inz l) none (some (i : Int)) = inz (l.take i) := by
  unfold inz; rw [cut_map, cut_take]
theorem cut_id {l : List Int} {i : Nat} : cut (inz l) (some ((i : Int) + 1)) none = inz (l.drop (i + 1)) := by
  unfold inz; rw [cut_map]; exact congrArg _ (cut_drop (n := i + 1))
theorem gAdd_ll {a b : List PyData} (h : a.length + b.length ≤ 16777216) : gAdd (.list a) (.list b) = some (.new (a ++ b)) := by
  unfold gAdd
  dsimp only
  rw [if_pos h]
theorem plA_app {n : Nat} : ∀ {a b : List PyData}, plA n a = true → plA n b = true → plA n (a ++ b) = true
  | [], _, _, h => h
  | x :: a, b, h, k => by
    simp only [plA, Bool.and_eq_true] at h
    simp [plA, h.1, plA_app h.2 k]
end RP
namespace RP
open PySem PySem.Spec L2 R RC
def lf : Option Str → Sl
  | some x => .fn x
  | none => .un
@[simp] theorem lf_s {x : Str} : lf (some x) = .fn x := rfl
@[simp] theorem lf_n : lf none = .un := rfl
@[simp] theorem outOf_lf {o : Option Str} {r : Rho} : outOf (lf o :: r) = outOf r := by cases o <;> rfl
@[simp] theorem outOf_fn {x : Str} {r : Rho} : outOf (.fn x :: r) = outOf r := rfl
theorem fm_pp (f : Pr → Pr) (F : PyData → Option PyData) (h : ∀ p, F (pr p) = some (pr (f p))) : ∀ l : List Pr, (prs l).filterMap F = prs (l.map f)
  | [] => rfl
  | p :: r => by rw [prs_cons, List.filterMap_cons, h, fm_pp f F h r]; rfl
theorem gEq_tp0 {t : List Pr} : gEq (.tuple (prs t)) (.tuple []) = some (.dat (.bool (decide (t = [])))) := by
  have := eqv_tp (l := t) (m := [])
  rw [gEq_of sh_tp (sh_pl (by simp [pl, plA]))]
  rw [show (PyData.tuple [] : PyData) = .tuple (prs []) from rfl, this]
theorem gEq_ti {l m : List Int} : gEq (.tuple (inz l)) (.tuple (inz m)) = some (.dat (.bool (decide (l = m)))) := by rw [gEq_of sh_ti sh_ti, eqv_ti]
theorem gNe_ti {l m : List Int} : gNe (.tuple (inz l)) (.tuple (inz m)) = some (.dat (.bool (!decide (l = m)))) := by rw [gNe_of sh_ti sh_ti, eqv_ti]
theorem intsOf_inz {l : List Int} : intsOf (inz l) = some l := intsOf_map l
/-- range(n), each by f -/
theorem range_pp (f : Nat → Pr) (n : Nat) : ((List.range n).map fun (i : Nat) => PyData.int (i : Int)).filterMap (RP.unI fun i => some (pr (f i))) = prs ((List.range n).map f) := by
  generalize List.range n = l
  induction l with
  | nil => rfl
  | cons a l ih =>
    rw [List.map_cons, List.filterMap_cons, ih]
    simp [RP.unI, prs_cons]
end RP
namespace RP
open PySem PySem.Spec L2 R RC
/-! schedules beside each other -/
theorem dom_plan {s s' : List Pr} (h : ∀ k' ∈ s', ∃ k ∈ s, k'.1 ≤ k.1 ∧ k.2 ≤ k'.2) : ∀ ps : List Ps, Vl s' ps → ∃ qs : List Ps, Vl s qs ∧ pric qs ≤ pric ps ∧ ∀ t, cov ps t = true → cov qs t = true
  | [], _ => ⟨[], (fun _ m => by cases m), Int.le_refl _, fun _ h => h⟩
  | p :: ps, v => by
    obtain ⟨qs, a, b, c⟩ := dom_plan h ps fun x m => v x (List.mem_cons_of_mem _ m)
    obtain ⟨k, hk, k1, k2⟩ := h p.2 (v p List.mem_cons_self)
    refine ⟨(p.1, k) :: qs, fun x m => ?_, ?_, fun t e => ?_⟩
    · rcases List.mem_cons.mp m with rfl | m
      · exact hk
      · exact a x m
    · rw [pric_cons, pric_cons]; dsimp only; omega
    · rw [cov_cons, Bool.or_eq_true] at e ⊢
      rcases e with e | e
      · refine .inl (inP_t.mpr ?_)
        have := inP_t.mp e
        dsimp only
        omega
      · exact .inr (c t e)
theorem tot_dom {s s' t : List Pr} (hs : Sok s) (hs' : Sok s') (ht : Tr t) (h : ∀ k' ∈ s', ∃ k ∈ s, k'.1 ≤ k.1 ∧ k.2 ≤ k'.2) : tot s t ≤ tot s' t := by
  obtain ⟨ps, v, e⟩ := (tot_is hs' ht).ub
  obtain ⟨qs, a, b, c⟩ := dom_plan h ps v
  have l := tot_lb hs ht a
  have : sq t (unc qs) ≤ sq t (unc ps) := sq_le ht.fare fun x _ e => by
    unfold unc at e ⊢
    cases hc : cov ps x.1 with
    | false => rfl
    | true => rw [c x.1 hc] at e; cases e
  unfold cost at l e
  omega
theorem swF_mem {s : List Pr} {n : Nat} {p : Int} {k : Pr} (hn : n < s.length) (h : k ∈ swF s n p) : (k.1 = (s.getD n (0, 0)).1 ∧ k.2 = p) ∨ k ∈ s.take n ++ s.drop (n + 1) := by
  unfold swF at h
  rcases List.mem_append.mp h with m | m
  · exact .inr (List.mem_append_left _ m)
  · rcases List.mem_cons.mp m with rfl | m
    · exact .inl ⟨rfl, rfl⟩
    · exact .inr (List.mem_append_right _ m)
theorem rest_mem {s : List Pr} {n : Nat} {k : Pr} (h : k ∈ s.take n ++ s.drop (n + 1)) : k ∈ s := by
  rcases List.mem_append.mp h with m | m
  · exact List.mem_of_mem_take m
  · exact List.mem_of_mem_drop m
theorem mem_swF {s : List Pr} {n : Nat} {p : Int} {k : Pr} (h : k ∈ s.take n ++ s.drop (n + 1)) : k ∈ swF s n p := by
  unfold swF
  rcases List.mem_append.mp h with m | m
  · exact List.mem_append_left _ m
  · exact List.mem_append_right _ (List.mem_cons_of_mem _ m)
theorem swF_it {s : List Pr} {n : Nat} {p : Int} : ((s.getD n (0, 0)).1, p) ∈ swF s n p := by
  unfold swF; simp
theorem getD_mem {s : List Pr} {n : Nat} (h : n < s.length) : s.getD n (0, 0) ∈ s := by
  rw [List.getD_eq_getElem?_getD, List.getElem?_eq_getElem h]; exact List.getElem_mem h
theorem swF_sok {s : List Pr} (hs : Sok s) {n : Nat} (hn : n < s.length) {p : Int} (hp : 0 ≤ p) : Sok (swF s n p) := by
  refine ⟨fun e => ?_, fun k hk => ?_, fun k hk => ?_⟩
  · have := swF_it (s := s) (n := n) (p := p); rw [e] at this; cases this
  · rcases swF_mem hn hk with ⟨e, _⟩ | m
    · rw [e]; exact hs.len _ (getD_mem hn)
    · exact hs.len _ (rest_mem m)
  · rcases swF_mem hn hk with ⟨_, e⟩ | m
    · omega
    · exact hs.pr _ (rest_mem m)
theorem price_mono {s t : List Pr} (hs : Sok s) (ht : Tr t) {n : Nat} (hn : n < s.length) {p q : Int} (hp : 0 ≤ p) (h : p ≤ q) : tot (swF s n p) t ≤ tot (swF s n q) t := by
  refine tot_dom (swF_sok hs hn hp) (swF_sok hs hn (by omega)) ht fun k hk => ?_
  rcases swF_mem hn hk with ⟨e1, e2⟩ | m
  · exact ⟨_, swF_it, by dsimp only; omega, by dsimp only; omega⟩
  · exact ⟨k, mem_swF m, Int.le_refl _, Int.le_refl _⟩
/-- the least price with at least a total -/
structure FP (s t : List Pr) (n : Nat) (a r : Int) : Prop where
  lo : 1 ≤ r
  hi : r ≤ 1000001
  less : ∀ p, 1 ≤ p → p < r → tot (swF s n p) t < a
  more : ∀ p, r ≤ p → p ≤ 1000000 → a ≤ tot (swF s n p) t
end RP
namespace RP
open PySem PySem.Spec L2 R RC
/-! span prices -/
def spL (s : List Pr) : Nat → List Int
  | 0 => [0]
  | n + 1 => spL s n ++ [minL (s.map fun k => k.2 + (spL s n).getD (n + 1 - k.1.toNat) 0)]
def spv (s : List Pr) (n : Nat) : Int := (spL s n).getD n 0
theorem spL_len (s : List Pr) : ∀ n, (spL s n).length = n + 1
  | 0 => rfl
  | n + 1 => by simp [spL, spL_len s n]
theorem spL_at (s : List Pr) : ∀ n i, i ≤ n → (spL s n).getD i 0 = spv s i
  | 0, i, h => by
    have : i = 0 := by omega
    subst this; rfl
  | n + 1, i, h => by
    by_cases e : i = n + 1
    · subst e; rfl
    · rw [← spL_at s n i (by omega)]
      unfold spL
      rw [List.getD_eq_getElem?_getD, List.getElem?_append_left (by rw [spL_len]; omega), ← List.getD_eq_getElem?_getD]
      rw [spL.eq_def]
theorem spv_zero (s : List Pr) : spv s 0 = 0 := rfl
theorem spv_succ (s : List Pr) (hs : Sok s) (n : Nat) : spv s (n + 1) = minL (s.map fun k => k.2 + spv s (n + 1 - k.1.toNat)) := by
  have e : (s.map fun k => k.2 + (spL s n).getD (n + 1 - k.1.toNat) 0) = s.map fun k => k.2 + spv s (n + 1 - k.1.toNat) := List.map_congr_left fun k hk => by
    rw [spL_at s n _ (by have := hs.len k hk; omega)]
  unfold spv
  rw [spL, List.getD_eq_getElem?_getD, List.getElem?_append_right (by rw [spL_len]; omega), spL_len, Nat.sub_self, e]
  rfl
theorem spv_le {s : List Pr} (hs : Sok s) {k : Pr} (hk : k ∈ s) (n : Nat) : spv s n ≤ k.2 + spv s (n - k.1.toNat) := by
  cases n with
  | zero =>
    rw [Nat.zero_sub, spv_zero]
    have := hs.pr k hk
    omega
  | succ n =>
    rw [spv_succ s hs]
    exact minL_le (List.mem_map.mpr ⟨k, hk, rfl⟩)
theorem spv_is {s : List Pr} (hs : Sok s) {n : Nat} (hn : 0 < n) : ∃ k ∈ s, spv s n = k.2 + spv s (n - k.1.toNat) := by
  cases n with
  | zero => omega
  | succ n =>
    rw [spv_succ s hs]
    obtain ⟨k, hk, e⟩ := List.mem_map.mp (minL_mem (l := s.map fun k => k.2 + spv s (n + 1 - k.1.toNat)) (by simpa using hs.ne))
    exact ⟨k, hk, e.symm⟩
theorem spv_nn {s : List Pr} (hs : Sok s) : ∀ n, 0 ≤ spv s n := fun n => by
  induction n using Nat.strongRecOn with
  | ind n ih =>
    by_cases hn : 0 < n
    · obtain ⟨k, hk, e⟩ := spv_is hs hn
      have h1 := hs.len k hk
      have h2 := hs.pr k hk
      have := ih (n - k.1.toNat) (by omega)
      omega
    · have : n = 0 := by omega
      subst this
      rw [spv_zero]; omega
theorem spv_mono {s : List Pr} (hs : Sok s) : ∀ n, spv s n ≤ spv s (n + 1) := fun n => by
  induction n using Nat.strongRecOn with
  | ind n ih =>
    have up : ∀ m, m ≤ n → ∀ d, m + d ≤ n → spv s m ≤ spv s (m + d) := fun m hm d => by
      induction d with
      | zero => intro _; exact Int.le_refl _
      | succ d ihd =>
        intro h
        have h1 := ihd (by omega)
        have h2 := ih (m + d) (by omega)
        rw [show m + (d + 1) = m + d + 1 by omega]
        omega
    obtain ⟨k, hk, e⟩ := spv_is hs (n := n + 1) (by omega)
    have h1 := hs.len k hk
    have h2 := spv_le hs hk n
    have h3 := up (n - k.1.toNat) (by omega) (n + 1 - k.1.toNat - (n - k.1.toNat)) (by omega)
    rw [show n - k.1.toNat + (n + 1 - k.1.toNat - (n - k.1.toNat)) = n + 1 - k.1.toNat by omega] at h3
    omega
theorem spv_big {s : List Pr} (hs : Sok s) (h : ∀ k ∈ s, k.2 ≤ 1000000) : ∀ n : Nat, spv s n ≤ (n : Int) * 1000000 := fun n => by
  induction n using Nat.strongRecOn with
  | ind n ih =>
    by_cases hn : 0 < n
    · obtain ⟨k, hk, e⟩ := spv_is hs hn
      have h1 := hs.len k hk
      have h2 := h k hk
      have := ih (n - k.1.toNat) (by omega)
      omega
    · have : n = 0 := by omega
      subst this
      rw [spv_zero]; omega
/-- some passes, kinds of their own: their lengths together, their prices together -/
def lnP (ks : List Pr) : Nat := (ks.map fun k => k.1.toNat).sum
def pcP (ks : List Pr) : Int := (ks.map (·.2)).sum
theorem spv_wit {s : List Pr} (hs : Sok s) : ∀ n, ∃ ks : List Pr, (∀ k ∈ ks, k ∈ s) ∧ n ≤ lnP ks ∧ pcP ks = spv s n := fun n => by
  induction n using Nat.strongRecOn with
  | ind n ih =>
    by_cases hn : 0 < n
    · obtain ⟨k, hk, e⟩ := spv_is hs hn
      have h1 := hs.len k hk
      obtain ⟨ks, a, b, c⟩ := ih (n - k.1.toNat) (by omega)
      refine ⟨k :: ks, fun x hx => ?_, ?_, ?_⟩
      · rcases List.mem_cons.mp hx with rfl | hx
        · exact hk
        · exact a x hx
      · simp [lnP] at b ⊢; omega
      · simp [pcP] at c ⊢; omega
    · have : n = 0 := by omega
      subst this
      exact ⟨[], fun _ h => (by cases h), Nat.zero_le _, rfl⟩
theorem spv_lb {s : List Pr} (hs : Sok s) : ∀ (ks : List Pr) (n : Nat), (∀ k ∈ ks, k ∈ s) → n ≤ lnP ks → spv s n ≤ pcP ks
  | [], n, _, h => by
    have : n = 0 := by simp [lnP] at h; omega
    subst this
    exact Int.le_refl _
  | k :: ks, n, a, h => by
    have h1 := spv_le hs (a k List.mem_cons_self) n
    have h2 := spv_lb hs ks (n - k.1.toNat) (fun x m => a x (List.mem_cons_of_mem _ m)) (by simp [lnP] at h ⊢; omega)
    simp [pcP] at h2 ⊢
    omega
theorem span_prices_ok (s : List Pr) (hs : Sok s) (hz : s.length < 1000) (n : Nat) (hn : n ≤ 100000) : g_span_prices [.dat (.tuple (prs s)), .dat (.int (n : Int))] = .ok (.new (inz (spL s n))) [] := by
  apply fun_ok
  have hrg : gRng2 [.int 1, .int ((n : Int) + 1)] = some ((List.range' 1 n).map fun (i : Nat) => .int (i : Int)) := by
    unfold gRng2
    dsimp only
    rw [if_pos (by omega), show ((n : Int) + 1 - 1).toNat = n by omega]
    unfold R.upTo
    rw [List.range'_eq_map_range, List.map_map]
    exact congrArg some (List.map_congr_left fun i _ => rfl)
  simp [b_span_prices, hrg]
  obtain ⟨I, hI⟩ : ∃ I : List PyData → Rho → Prop, ∀ rest ρ, I rest ρ ↔ ∃ (i m : Nat) (x3 x4 x5 : Option PyData), rest = (List.range' (i + 1) m).map (fun (j : Nat) => .int (j : Int)) ∧ i + m = n ∧ ρ = [.dat (.tuple (prs s)), .dat (.int (n : Int)), .ls (inz (spL s i)), lv x3, .un, .un] := ⟨_, fun _ _ => Iff.rfl⟩
  refine loop_w I ?_ ?_ _ _ ((hI _ _).mpr ⟨0, n, none, none, none, rfl, by omega, rfl⟩)
  · intro d rest ρ hi
    obtain ⟨i, m, x3, x4, x5, e1, e2, rfl⟩ := (hI _ _).mp hi
    cases m with
    | zero => cases e1
    | succ m =>
      rw [List.range'_succ, List.map_cons] at e1
      cases e1
      have hlen := spL_len s i
      simp
      refine post_of (comp_map (f := onPr fun l p => some (.int (p + spv s (i + 1 - l.toNat)))) ?_) ?_
      · intro d hd
        obtain ⟨k, hk, rfl⟩ := mem_prs hd
        have h1 := hs.len k hk
        have a1 : atI (inz (spL s i)) (max 0 ((i : Int) + 1 - k.1)) = some (.int (spv s (i + 1 - k.1.toNat))) := by
          rw [show max 0 ((i : Int) + 1 - k.1) = ((i + 1 - k.1.toNat : Nat) : Int) by omega, atI_n, getD_inz (by omega), spL_at s i _ (by omega)]
        simp [pr, a1, onPr]
      · rw [fm_prs (fun _ => true) (fun k => k.2 + spv s (i + 1 - k.1.toNat)) _ (fun q => by simp [pr, onPr])]
        have ft : s.filter (fun _ => true) = s := List.filter_eq_self.mpr (by simp)
        have hne : (s.map fun k => k.2 + spv s (i + 1 - k.1.toNat)) ≠ [] := by simpa using hs.ne
        have hz2 : (spL s i).length < 16777216 := by rw [hlen]; omega
        simp [ft, gMin_inz hne, hz2]
        refine (hI _ _).mpr ⟨i + 1, m, some (.int ((i + 1 : Nat) : Int)), none, none, rfl, by omega, ?_⟩
        have e3 : spL s (i + 1) = spL s i ++ [minL (s.map fun k => k.2 + spv s (i + 1 - k.1.toNat))] := by
          have e0 : (s.map fun k => k.2 + (spL s i).getD (i + 1 - k.1.toNat) 0) = s.map fun k => k.2 + spv s (i + 1 - k.1.toNat) := List.map_congr_left fun k hk => by rw [spL_at s i _ (by have := hs.len k hk; omega)]
          rw [spL, e0]
        rw [e3]
        simp
  · intro ρ hi
    obtain ⟨i, m, x3, x4, x5, e1, e2, rfl⟩ := (hI _ _).mp hi
    cases m with
    | succ m => rw [List.range'_succ] at e1; cases e1
    | zero =>
      have : i = n := by omega
      subst this
      simp
theorem span_price_ok (s : List Pr) (h : schB s = true) (n : Nat) (h1 : 1 ≤ n) (h2 : n ≤ 2000) : g_span_price [.dat (.tuple (prs s)), .dat (.int (n : Int))] = .ok (.dat (.int (spv s n))) [] := by
  apply fun_ok
  have a1 : atI (inz (spL s n)) (n : Int) = some (.int (spv s n)) := by
    rw [atI_n, getD_inz (by rw [spL_len]; omega)]; rfl
  have h3 : (1 : Int) ≤ (n : Int) ∧ (n : Int) ≤ 2000 := by omega
  simp [b_span_price, need_schedule_ok s h, is_from_int, h3, span_prices_ok s (sok h) (sch_len h) n (by omega), a1]
theorem span_price_err1 (d e : PyData) (hd : pl 5 d = true) (h : schD d = false) : g_span_price [.dat d, .dat e] = .err ⟨"InvalidSchedule", none⟩ [] := by
  apply fun_er
  simp [b_span_price, need_schedule_err d hd h]
theorem span_price_err2 (s : List Pr) (h : schB s = true) (e : PyData) (hd : pl 5 e = true) (h2 : fromB 1 2000 e = false) : g_span_price [.dat (.tuple (prs s)), .dat e] = .err ⟨"InvalidLength", none⟩ [] := by
  apply fun_er
  simp [b_span_price, need_schedule_ok s h, is_from_any e hd, h2]
end RP
namespace RP
open PySem PySem.Spec L2 R RC
/-! the law's own span prices, kind by kind -/
/-- what is true of the costs, the kinds of done being looked at, of k too for sizes below m -/
structure SpC (s done : List Pr) (k : Option Pr) (m n : Nat) (c : List Int) : Prop where
  len : c.length = n + 1
  sub : ∀ x ∈ done, x ∈ s
  kin : ∀ x, some x = k → x ∈ s
  lo : ∀ i, i ≤ n → spv s i ≤ c.getD i 0
  hi : ∀ i, i ≤ n → ∀ ks : List Pr, (∀ x ∈ ks, x ∈ done ∨ (i < m ∧ some x = k)) → i ≤ lnP ks → c.getD i 0 ≤ pcP ks
theorem lnP_perm {a b : List Pr} (h : a.Perm b) : lnP a = lnP b := by
  induction h with
  | nil => rfl
  | cons x _ ih => simp [lnP] at ih ⊢; omega
  | swap x y l => simp [lnP]; omega
  | trans _ _ i j => exact i.trans j
theorem pcP_perm {a b : List Pr} (h : a.Perm b) : pcP a = pcP b := by
  induction h with
  | nil => rfl
  | cons x _ ih => simp [pcP] at ih ⊢; omega
  | swap x y l => simp [pcP]; omega
  | trans _ _ i j => exact i.trans j
theorem set_getD {c : List Int} {i j : Nat} {v : Int} (h : i < c.length) : (c.set i v).getD j 0 = if j = i then v else c.getD j 0 := by
  rw [List.getD_eq_getElem?_getD, List.getElem?_set]
  by_cases e : i = j
  · subst e
    simp [h]
  · have e2 : ¬ j = i := fun z => e z.symm
    simp [e, e2]
theorem pcP_nn {s ks : List Pr} (hs : Sok s) (h : ∀ x ∈ ks, x ∈ s) : 0 ≤ pcP ks := by
  induction ks with
  | nil => exact Int.le_refl _
  | cons x ks ih =>
    have h1 := ih fun y m => h y (List.mem_cons_of_mem _ m)
    have h2 := hs.pr x (h x List.mem_cons_self)
    simp [pcP] at h1 ⊢
    omega
theorem SpC.init {s : List Pr} (hs : Sok s) (h : ∀ k ∈ s, k.2 ≤ 1000000) {n : Nat} (hn : n ≤ 2000) : SpC s [] none 0 n (0 :: List.replicate n 1000000000000000) := by
  refine ⟨by simp, (fun _ h => by cases h), (fun _ h => by cases h), fun i hi => ?_, fun i hi ks hk hl => ?_⟩
  · cases i with
    | zero => exact Int.le_refl _
    | succ i =>
      have := spv_big hs h (i + 1)
      rw [List.getD_cons_succ, List.getD_eq_getElem?_getD, List.getElem?_replicate, if_pos (by omega)]
      simp only [Option.getD_some]
      omega
  · cases ks with
    | nil =>
      have : i = 0 := by simp [lnP] at hl; omega
      subst this
      exact Int.le_refl _
    | cons x ks =>
      rcases hk x List.mem_cons_self with h | h
      · cases h
      · have := h.2; cases this
/-- one kind more -/
theorem SpC.begin {s done : List Pr} {n : Nat} {c : List Int} (hs : Sok s) {k : Pr} (hk : k ∈ s) (h : SpC s done none 0 n c) : SpC s done (some k) 1 n c := by
  refine ⟨h.len, h.sub, (fun x e => by cases e; exact hk), h.lo, fun i hi ks ha hl => ?_⟩
  by_cases e : i = 0
  · subst e
    have h0 : c.getD 0 0 ≤ 0 := h.hi 0 (Nat.zero_le _) [] (fun _ h => by cases h) (Nat.zero_le _)
    have := pcP_nn hs (ks := ks) fun x m => (ha x m).elim (h.sub x) fun z => by cases z.2; exact hk
    omega
  · exact h.hi i hi ks (fun x m => (ha x m).elim .inl fun z => by omega) hl
theorem SpC.step {s done : List Pr} {n m : Nat} {c : List Int} (hs : Sok s) {k : Pr} (h : SpC s done (some k) m n c) (h1 : 1 ≤ m) (h2 : m ≤ n) :
    SpC s done (some k) (m + 1) n (c.set m (min (c.getD m 0) (c.getD (m - k.1.toNat) 0 + k.2))) := by
  have hk := h.kin k rfl
  have l1 := hs.len k hk
  have hm : m < c.length := by rw [h.len]; omega
  refine ⟨by rw [List.length_set]; exact h.len, h.sub, h.kin, fun i hi => ?_, fun i hi ks ha hl => ?_⟩
  · rw [set_getD hm]
    split
    · rename_i e
      subst e
      have a1 := h.lo i hi
      have a2 := h.lo (i - k.1.toNat) (by omega)
      have a3 := spv_le hs hk i
      omega
    · exact h.lo i hi
  · rw [set_getD hm]
    split
    · rename_i e
      subst e
      by_cases hm2 : k ∈ ks
      · have p := List.perm_cons_erase hm2
        have p1 := lnP_perm p
        have p2 := pcP_perm p
        have := h.hi (i - k.1.toNat) (by omega) (ks.erase k) (fun x m => (ha x (List.mem_of_mem_erase m)).elim .inl fun z => .inr ⟨by omega, z.2⟩) (by simp [lnP] at p1 hl ⊢; omega)
        simp [pcP] at p2 this ⊢
        omega
      · have := h.hi i hi ks (fun x m => (ha x m).elim .inl fun z => by cases z.2; exact absurd m hm2) hl
        omega
    · rename_i e
      exact h.hi i hi ks (fun x m => (ha x m).elim .inl fun z => .inr ⟨by omega, z.2⟩) hl
theorem SpC.done {s d : List Pr} {n : Nat} {c : List Int} {k : Pr} (h : SpC s d (some k) (n + 1) n c) : SpC s (d ++ [k]) none 0 n c := by
  refine ⟨h.len, fun x m => ?_, (fun _ e => by cases e), h.lo, fun i hi ks ha hl => h.hi i hi ks (fun x m => ?_) hl⟩
  · rcases List.mem_append.mp m with m | m
    · exact h.sub x m
    · exact h.kin x (by rw [List.mem_singleton.mp m])
  · rcases ha x m with z | z
    · rcases List.mem_append.mp z with z | z
      · exact .inl z
      · exact .inr ⟨by omega, by rw [List.mem_singleton.mp z]⟩
    · omega
theorem SpC.all {s : List Pr} {n : Nat} {c : List Int} (hs : Sok s) (h : SpC s s none 0 n c) {i : Nat} (hi : i ≤ n) : c.getD i 0 = spv s i := by
  obtain ⟨ks, a, b, e⟩ := spv_wit hs i
  have h1 := h.lo i hi
  have h2 := h.hi i hi ks (fun x m => .inl (a x m)) b
  omega
theorem law_span_ok (s : List Pr) (h : schB s = true) (n : Nat) (h1 : 1 ≤ n) (h2 : n ≤ 2000) : ∃ c : List Int, g__law_span_k12 [.dat (.tuple (prs s)), .dat (.int (n : Int))] = .ok (.new (inz c)) [] ∧ c.length = n + 1 ∧ ∀ i, i ≤ n → c.getD i 0 = spv s i := by
  have hs := sok h
  have hz := sch_len h
  have hpr : ∀ k ∈ s, k.2 ≤ 1000000 := fun k hk => by
    unfold schB at h
    simp only [Bool.and_eq_true] at h
    have := List.all_eq_true.mp h.1.2 k hk
    simp [inB] at this
    omega
  obtain ⟨Q, hQ⟩ : ∃ Q : Rv → List PyData → Prop, ∀ r l', Q r l' ↔ ∃ c : List Int, r = .new (inz c) ∧ l' = [] ∧ c.length = n + 1 ∧ ∀ i, i ≤ n → c.getD i 0 = spv s i := ⟨_, fun _ _ => Iff.rfl⟩
  have key := fun_ex (n := 6) (fb := b__law_span_k12) (args := [.dat (.tuple (prs s)), .dat (.int (n : Int))]) (Q := Q) ?_
  · obtain ⟨r, l', e, q⟩ := key
    obtain ⟨c, rfl, rfl, q2⟩ := (hQ _ _).mp q
    exact ⟨c, e, q2⟩
  have hpow : gPow (.int 10) (.int 15) = some (.dat (.int 1000000000000000)) := gPow_i (by decide)
  have hmul : gMul (.list [.int 1000000000000000]) (.int (n : Int)) = some (.new (inz (List.replicate n 1000000000000000))) := by
    rw [gMul_l (by simp; omega), rep_one, Int.toNat_natCast]
    unfold inz
    rw [List.map_replicate]
  have gad : gAdd (.list [.int 0]) (.list (inz (List.replicate n 1000000000000000))) = some (.new (inz (0 :: List.replicate n 1000000000000000))) := by
    unfold gAdd
    dsimp only
    rw [if_pos (by simp; omega)]
    rfl
  have hrg : gRng2 [.int 1, .int ((n : Int) + 1)] = some ((List.range' 1 n).map fun (i : Nat) => .int (i : Int)) := by
    unfold gRng2
    dsimp only
    rw [if_pos (by omega), show ((n : Int) + 1 - 1).toNat = n by omega]
    unfold R.upTo
    rw [List.range'_eq_map_range, List.map_map]
    exact congrArg some (List.map_congr_left fun i _ => rfl)
  simp [b__law_span_k12, hpow, hmul, gad]
  obtain ⟨I, hI⟩ : ∃ I : List PyData → Rho → Prop, ∀ rest ρ, I rest ρ ↔ ∃ (done todo : List Pr) (c : List Int) (x3 x4 x5 : Option PyData), rest = prs todo ∧ s = done ++ todo ∧ SpC s done none 0 n c ∧ ρ = [.dat (.tuple (prs s)), .dat (.int (n : Int)), .ls (inz c), lv x3, lv x4, lv x5] := ⟨_, fun _ _ => Iff.rfl⟩
  refine loop_w I ?_ ?_ _ _ ((hI _ _).mpr ⟨[], s, _, none, none, none, rfl, rfl, SpC.init hs hpr h2, rfl⟩)
  · intro d rest ρ hi
    obtain ⟨done, todo, c, x3, x4, x5, e1, e2, e3, rfl⟩ := (hI _ _).mp hi
    cases todo with
    | nil => cases e1
    | cons k todo =>
      cases e1
      have hk : k ∈ s := by rw [e2]; simp
      have l1 := hs.len k hk
      simp [hrg]
      obtain ⟨J, hJ⟩ : ∃ J : List PyData → Rho → Prop, ∀ rest ρ, J rest ρ ↔ ∃ (m r : Nat) (c : List Int) (x5 : Option PyData), rest = (List.range' m r).map (fun (i : Nat) => .int (i : Int)) ∧ 1 ≤ m ∧ m + r = n + 1 ∧ SpC s done (some k) m n c ∧ ρ = [.dat (.tuple (prs s)), .dat (.int (n : Int)), .ls (inz c), .dat (.int k.1), .dat (.int k.2), lv x5] := ⟨_, fun _ _ => Iff.rfl⟩
      refine loop_w J ?_ ?_ _ _ ((hJ _ _).mpr ⟨1, n, c, x5, rfl, Nat.le_refl _, by omega, e3.begin hs hk, rfl⟩)
      · intro d rest ρ hj
        obtain ⟨m, r, c, x5, f1, f2, f3, f4, rfl⟩ := (hJ _ _).mp hj
        cases r with
        | zero => cases f1
        | succ r =>
          rw [List.range'_succ, List.map_cons] at f1
          cases f1
          have hl := f4.len
          have a1 : atI (inz c) (m : Int) = some (.int (c.getD m 0)) := by rw [atI_n, getD_inz (by omega)]
          have a2 : atI (inz c) (max 0 ((m : Int) - k.1)) = some (.int (c.getD (m - k.1.toNat) 0)) := by
            rw [show max 0 ((m : Int) - k.1) = ((m - k.1.toNat : Nat) : Int) by omega, atI_n, getD_inz (by omega)]
          have hx : ixN c.length (m : Int) = some m := ixN_n (by omega)
          simp [a1, a2, hx]
          have es : ∀ v : Int, (inz c).set m (.int v) = inz (c.set m v) := fun v => by unfold inz; rw [List.map_set]
          rw [es]
          exact (hJ _ _).mpr ⟨m + 1, r, _, some (.int (m : Int)), rfl, by omega, by omega, f4.step hs f2 (by omega), rfl⟩
      · intro ρ hj
        obtain ⟨m, r, c, x5, f1, f2, f3, f4, rfl⟩ := (hJ _ _).mp hj
        cases r with
        | succ r => rw [List.range'_succ] at f1; cases f1
        | zero =>
          have : m = n + 1 := by omega
          subst this
          exact (hI _ _).mpr ⟨done ++ [k], todo, c, some (.int k.1), some (.int k.2), x5, rfl, by simp [e2], f4.done, rfl⟩
  · intro ρ hi
    obtain ⟨done, todo, c, x3, x4, x5, e1, e2, e3, rfl⟩ := (hI _ _).mp hi
    cases todo with
    | cons p todo => cases e1
    | nil =>
      have e2 : s = done := by simpa using e2
      rw [← e2] at e3
      have hrg3 : gRng3 [.int ((n : Int) - 1), .int 0, .int (-1)] = some (downTo ((n : Int) - 1) (n - 1)) := by
        unfold gRng3
        dsimp only
        rw [if_pos (by omega), show ((n : Int) - 1 - 0).toNat = n - 1 by omega]
      simp [hrg3]
      obtain ⟨J, hJ⟩ : ∃ J : List PyData → Rho → Prop, ∀ rest ρ, J rest ρ ↔ ∃ (is : List Int) (c : List Int) (x5 : Option PyData), rest = inz is ∧ (∀ i ∈ is, 1 ≤ i ∧ i < (n : Int)) ∧ c.length = n + 1 ∧ (∀ i, i ≤ n → c.getD i 0 = spv s i) ∧ ρ = [.dat (.tuple (prs s)), .dat (.int (n : Int)), .ls (inz c), lv x3, lv x4, lv x5] := ⟨_, fun _ _ => Iff.rfl⟩
      have ed : downTo ((n : Int) - 1) (n - 1) = inz ((List.range (n - 1)).map fun (i : Nat) => (n : Int) - 1 - (i : Int)) := by
        unfold downTo inz
        rw [List.map_map]; rfl
      rw [ed]
      refine loop_w J ?_ ?_ _ _ ((hJ _ _).mpr ⟨_, c, x5, rfl, fun i hi => ?_, e3.len, fun i hi => e3.all hs hi, rfl⟩)
      · intro d rest ρ hj
        obtain ⟨is, c, x5, f1, f2, f3, f4, rfl⟩ := (hJ _ _).mp hj
        cases is with
        | nil => cases f1
        | cons i is =>
          cases f1
          have hi := f2 i List.mem_cons_self
          obtain ⟨j, rfl⟩ : ∃ j : Nat, i = (j : Int) := ⟨i.toNat, by omega⟩
          have a1 : atI (inz c) (j : Int) = some (.int (spv s j)) := by rw [atI_n, getD_inz (by omega), f4 j (by omega)]
          have a2 : atI (inz c) ((j : Int) + 1) = some (.int (spv s (j + 1))) := by
            rw [show (j : Int) + 1 = ((j + 1 : Nat) : Int) by omega, atI_n, getD_inz (by omega), f4 (j + 1) (by omega)]
          have hx : ixN c.length (j : Int) = some j := ixN_n (by omega)
          simp [a1, a2, f3]
          rw [← f3, hx]
          have es : ∀ v : Int, (inz c).set j (.int v) = inz (c.set j v) := fun v => by unfold inz; rw [List.map_set]
          simp only [onS_some]
          rw [es]
          refine (hJ _ _).mpr ⟨is, _, some (.int (j : Int)), rfl, fun x m => f2 x (List.mem_cons_of_mem _ m), by rw [List.length_set]; exact f3, fun x hx2 => ?_, rfl⟩
          rw [set_getD (by omega)]
          split
          · rename_i e
            subst e
            have := spv_mono hs x
            omega
          · exact f4 x hx2
      · intro ρ hj
        obtain ⟨is, c, x5, f1, f2, f3, f4, rfl⟩ := (hJ _ _).mp hj
        simp
        exact (hQ _ _).mpr ⟨c, rfl, rfl, f3, f4⟩
      · obtain ⟨j, hj, rfl⟩ := List.mem_map.mp hi
        rw [List.mem_range] at hj
        omega
end RP
namespace RP
open PySem PySem.Spec L2 R RC
/-! passes in place of a pass; useless kinds -/
def lay (x : Int) : List Pr → List Ps
  | [] => []
  | k :: ks => (x, k) :: lay (x + k.1) ks
theorem lay_vl {s : List Pr} : ∀ {ks : List Pr} (x : Int), (∀ k ∈ ks, k ∈ s) → Vl s (lay x ks)
  | [], _, _ => fun _ m => by cases m
  | k :: ks, x, h => fun q m => by
    rcases List.mem_cons.mp m with rfl | m
    · exact h k List.mem_cons_self
    · exact lay_vl (x + k.1) (fun k m => h k (List.mem_cons_of_mem _ m)) q m
theorem lay_pric : ∀ (ks : List Pr) (x : Int), pric (lay x ks) = pcP ks
  | [], _ => rfl
  | k :: ks, x => by
    show pric ((x, k) :: lay (x + k.1) ks) = _
    rw [pric_cons, lay_pric ks]; simp [pcP]
theorem lay_cov : ∀ (ks : List Pr) (x t : Int), (∀ k ∈ ks, 0 ≤ k.1) → x ≤ t → t < x + (lnP ks : Int) → cov (lay x ks) t = true
  | [], x, t, _, h1, h2 => by simp [lnP] at h2; omega
  | k :: ks, x, t, h, h1, h2 => by
    have hk := h k List.mem_cons_self
    show cov ((x, k) :: lay (x + k.1) ks) t = true
    rw [cov_cons, Bool.or_eq_true]
    by_cases c : t < x + k.1
    · exact .inl (inP_t.mpr ⟨h1, c⟩)
    · refine .inr (lay_cov ks _ t (fun k m => h k (List.mem_cons_of_mem _ m)) (by omega) ?_)
      simp [lnP] at h2 ⊢
      omega
theorem cov_app (a b : List Ps) (t : Int) : cov (a ++ b) t = (cov a t || cov b t) := by unfold cov; rw [List.any_append]
theorem pric_app (a b : List Ps) : pric (a ++ b) = pric a + pric b := by unfold pric; rw [List.map_append, List.sum_append]
theorem unc_less {ps qs : List Ps} {l : List Pr} (hl : Nn l) (h : ∀ t, cov ps t = true → cov qs t = true) : sq l (unc qs) ≤ sq l (unc ps) := sq_le hl fun x _ e => by
  unfold unc at e ⊢
  cases hc : cov ps x.1 with
  | false => rfl
  | true => rw [h x.1 hc] at e; cases e
/-- what a kind is replaced by -/
def Rep (s : List Pr) (k : Pr) : Prop := ∃ ks : List Pr, (∀ x ∈ ks, x ∈ s) ∧ k.1.toNat ≤ lnP ks ∧ pcP ks ≤ k.2
theorem rep_plan {s s' : List Pr} (hs : Sok s) (h : ∀ k ∈ s', Rep s k) : ∀ ps : List Ps, Vl s' ps → ∃ qs : List Ps, Vl s qs ∧ pric qs ≤ pric ps ∧ ∀ t, cov ps t = true → cov qs t = true
  | [], _ => ⟨[], (fun _ m => by cases m), Int.le_refl _, fun _ h => h⟩
  | p :: ps, v => by
    obtain ⟨qs, a, b, c⟩ := rep_plan hs h ps fun x m => v x (List.mem_cons_of_mem _ m)
    obtain ⟨ks, k1, k2, k3⟩ := h p.2 (v p List.mem_cons_self)
    refine ⟨lay p.1 ks ++ qs, fun x m => ?_, ?_, fun t e => ?_⟩
    · rcases List.mem_append.mp m with m | m
      · exact lay_vl _ k1 x m
      · exact a x m
    · rw [pric_app, lay_pric, pric_cons]; omega
    · rw [cov_cons, Bool.or_eq_true] at e
      rw [cov_app, Bool.or_eq_true]
      rcases e with e | e
      · have := inP_t.mp e
        exact .inl (lay_cov ks _ t (fun k m => by have := hs.len k (k1 k m); omega) (by omega) (by omega))
      · exact .inr (c t e)
theorem tot_rep {s s' t : List Pr} (hs : Sok s) (hs' : Sok s') (ht : Tr t) (h : ∀ k ∈ s', Rep s k) : tot s t ≤ tot s' t := by
  obtain ⟨ps, v, e⟩ := (tot_is hs' ht).ub
  obtain ⟨qs, a, b, c⟩ := rep_plan hs h ps v
  have l := tot_lb hs ht a
  have := unc_less ht.fare c
  unfold cost at l e
  omega
theorem pcP_app (a b : List Pr) : pcP (a ++ b) = pcP a + pcP b := by unfold pcP; rw [List.map_append, List.sum_append]
theorem lnP_app (a b : List Pr) : lnP (a ++ b) = lnP a + lnP b := by unfold lnP; rw [List.map_append, List.sum_append]
/-- replaced one by one -/
theorem rep_all {s : List Pr} : ∀ ks : List Pr, (∀ k ∈ ks, Rep s k) → ∃ ms : List Pr, (∀ x ∈ ms, x ∈ s) ∧ lnP ks ≤ lnP ms ∧ pcP ms ≤ pcP ks
  | [], _ => ⟨[], (fun _ m => by cases m), Nat.le_refl _, Int.le_refl _⟩
  | k :: ks, h => by
    obtain ⟨ms, a, b, c⟩ := rep_all ks fun x m => h x (List.mem_cons_of_mem _ m)
    obtain ⟨ns, a2, b2, c2⟩ := h k List.mem_cons_self
    refine ⟨ns ++ ms, fun x m => (List.mem_append.mp m).elim (a2 x) (a x), ?_, ?_⟩
    · rw [lnP_app]; simp [lnP] at b b2 ⊢; omega
    · rw [pcP_app]; simp [pcP] at c c2 ⊢; omega
theorem adj_asc : ∀ s : List Pr, ((s.zip (s.drop 1)).all fun x => decide (x.1.1 < x.2.1)) = true → s.Pairwise fun p q => p.1 < q.1
  | [], _ => .nil
  | [a], _ => by simp
  | a :: b :: l, h => by
    simp only [List.drop_succ_cons, List.drop_zero, List.zip_cons_cons, List.all_cons, Bool.and_eq_true, decide_eq_true_eq] at h
    have ih := adj_asc (b :: l) (by simpa using h.2)
    refine List.pairwise_cons.mpr ⟨fun x m => ?_, ih⟩
    rcases List.mem_cons.mp m with rfl | m
    · exact h.1
    · have := (List.pairwise_cons.mp ih).1 x m; omega
theorem sch_asc {s : List Pr} (h : schB s = true) : s.Pairwise fun p q => p.1 < q.1 := by
  unfold schB at h
  simp only [Bool.and_eq_true] at h
  exact adj_asc s h.2
theorem nodup_lt : ∀ (m : Nat) (l : List Nat), l.Nodup → (∀ i ∈ l, i < m) → l.length ≤ m
  | 0, [], _, _ => Nat.le_refl _
  | 0, a :: l, _, h => absurd (h a List.mem_cons_self) (Nat.not_lt_zero _)
  | m + 1, l, nd, h => by
    by_cases c : m ∈ l
    · have ih := nodup_lt m (l.erase m) (nd.erase m) fun i mi => by
        have := h i (List.mem_of_mem_erase mi)
        have ne : i ≠ m := fun z => by
          subst z
          exact (List.Nodup.not_mem_erase nd) mi
        omega
      rw [List.length_erase_of_mem c] at ih
      have := List.length_pos_iff.mpr (List.ne_nil_of_mem c)
      omega
    · have := nodup_lt m l nd fun i mi => by
        have := h i mi
        have ne : i ≠ m := fun z => c (by rw [← z]; exact mi)
        omega
      omega
def othK (s : List Pr) (i : Nat) : List Pr := s.take i ++ s.drop (i + 1)
theorem oth_mem {s : List Pr} {i : Nat} {k : Pr} (h : k ∈ othK s i) : k ∈ s := rest_mem h
theorem oth_ne {s : List Pr} (h : s.Pairwise fun p q => p.1 < q.1) {i : Nat} (hi : i < s.length) {k : Pr} (m : k ∈ othK s i) : k.1 ≠ s[i].1 := by
  have hp := List.pairwise_iff_getElem.mp h
  rcases List.mem_append.mp m with m | m
  · obtain ⟨j, hj, e⟩ := List.getElem_of_mem m
    rw [List.getElem_take] at e
    simp at hj
    have := hp j i (by omega) hi (by omega)
    rw [← e]; omega
  · obtain ⟨j, hj, e⟩ := List.getElem_of_mem m
    rw [List.getElem_drop] at e
    simp at hj
    have := hp i (i + 1 + j) hi (by omega) (by omega)
    rw [← e]; omega
theorem mem_oth {s : List Pr} {i : Nat} (hi : i < s.length) {k : Pr} (m : k ∈ s) (hne : k ≠ s[i]) : k ∈ othK s i := by
  obtain ⟨j, hj, e⟩ := List.getElem_of_mem m
  unfold othK
  by_cases c : j < i
  · exact List.mem_append_left _ (List.mem_take_iff_getElem.mpr ⟨j, by omega, e⟩)
  · have : j ≠ i := fun z => hne (by subst z; exact e.symm)
    refine List.mem_append_right _ (List.mem_drop_iff_getElem.mpr ⟨j - (i + 1), by omega, ?_⟩)
    rw [← e]
    congr 1
    omega
theorem oth_sok {s : List Pr} (hs : Sok s) {i : Nat} (h : othK s i ≠ []) : Sok (othK s i) := ⟨h, fun k m => hs.len k (oth_mem m), fun k m => hs.pr k (oth_mem m)⟩
def usB (s : List Pr) (i : Nat) : Bool := !decide (othK s i = []) && decide (spv (othK s i) (s.getD i (0, 0)).1.toNat ≤ (s.getD i (0, 0)).2)
def essL (s : List Pr) : List Pr := ((List.range s.length).filter fun i => !usB s i).map fun i => s.getD i (0, 0)
theorem ess_mem {s : List Pr} {k : Pr} : k ∈ essL s ↔ ∃ i, ∃ h : i < s.length, usB s i = false ∧ s[i] = k := by
  unfold essL
  rw [List.mem_map]
  constructor
  · rintro ⟨i, m, e⟩
    rw [List.mem_filter, List.mem_range] at m
    refine ⟨i, m.1, by simpa using m.2, ?_⟩
    rw [← e, List.getD_eq_getElem?_getD, List.getElem?_eq_getElem m.1]; rfl
  · rintro ⟨i, h, u, e⟩
    refine ⟨i, List.mem_filter.mpr ⟨List.mem_range.mpr h, by simp [u]⟩, ?_⟩
    rw [List.getD_eq_getElem?_getD, List.getElem?_eq_getElem h, ← e]; rfl
theorem ess_sub {s : List Pr} {k : Pr} (h : k ∈ essL s) : k ∈ s := by
  obtain ⟨i, hi, _, e⟩ := ess_mem.mp h
  rw [← e]; exact List.getElem_mem hi
theorem pcP_ge {s ks : List Pr} (hs : Sok s) (h : ∀ x ∈ ks, x ∈ s) {x : Pr} (m : x ∈ ks) : x.2 ≤ pcP ks := by
  have p := pcP_perm (List.perm_cons_erase m)
  have := pcP_nn (ks := ks.erase x) hs fun y n => h y (List.mem_of_mem_erase n)
  simp [pcP] at p this ⊢
  omega
theorem usB_not {s : List Pr} (h : schB s = true) {i : Nat} (hi : i < s.length) (u : usB s i = true) : ∃ ks : List Pr, (∀ x ∈ ks, x ∈ othK s i) ∧ s[i].1.toNat ≤ lnP ks ∧ pcP ks ≤ s[i].2 := by
  have eg : s.getD i (0, 0) = s[i] := by rw [List.getD_eq_getElem?_getD, List.getElem?_eq_getElem hi]; rfl
  unfold usB at u
  simp only [Bool.and_eq_true, Bool.not_eq_true', decide_eq_false_iff_not, decide_eq_true_eq] at u
  rw [eg] at u
  obtain ⟨ks, a, b, c⟩ := spv_wit (oth_sok (sok h) u.1) s[i].1.toNat
  exact ⟨ks, a, b, by omega⟩
/-- every kind is replaced by essential ones -/
theorem ess_rep {s : List Pr} (h : schB s = true) (hp : ∀ k ∈ s, 1 ≤ k.1 ∧ k.1 ≤ 400 ∧ 1 ≤ k.2) : ∀ (m : Nat) (k : Pr), k ∈ s → k.2.toNat * 1000 + (1000 - k.1.toNat) < m → Rep (essL s) k
  | 0, _, _, hm => by omega
  | m + 1, k, hk, hm => by
    obtain ⟨i, hi, e⟩ := List.getElem_of_mem hk
    cases u : usB s i with
    | false => exact ⟨[k], fun x n => by rw [List.mem_singleton.mp n]; exact ess_mem.mpr ⟨i, hi, u, e⟩, by simp [lnP], by simp [pcP]⟩
    | true =>
      obtain ⟨ks, a, b, c⟩ := usB_not h hi u
      rw [e] at b c
      have hk1 := hp k hk
      have each : ∀ x ∈ ks, Rep (essL s) x := fun x n => by
        have xs := oth_mem (a x n)
        have hx1 := hp x xs
        refine ess_rep h hp m x xs ?_
        have ge := pcP_ge (sok h) (fun y q => oth_mem (a y q)) n
        have ne := oth_ne (sch_asc h) hi (a x n)
        rw [e] at ne
        by_cases hlt : x.2 < k.2
        · omega
        · -- a single pass of the same price: a longer one
          have p1 := pcP_perm (List.perm_cons_erase n)
          have p2 := lnP_perm (List.perm_cons_erase n)
          have : ks.erase x = [] := by
            cases er : ks.erase x with
            | nil => rfl
            | cons y r =>
              have my : y ∈ ks := List.mem_of_mem_erase (by rw [er]; exact List.mem_cons_self)
              have hy := hp y (oth_mem (a y my))
              have := pcP_nn (ks := r) (sok h) fun z q => oth_mem (a z (List.mem_of_mem_erase (by rw [er]; exact List.mem_cons_of_mem _ q)))
              rw [er] at p1
              simp [pcP] at p1 this c
              omega
          rw [this] at p1 p2
          simp [pcP] at p1 c
          simp [lnP] at p2 b
          omega
      obtain ⟨ms, a2, b2, c2⟩ := rep_all ks each
      exact ⟨ms, a2, by omega, by omega⟩
theorem ess_ok {s : List Pr} (h : schB s = true) (hp : ∀ k ∈ s, 1 ≤ k.1 ∧ k.1 ≤ 400 ∧ 1 ≤ k.2) : ∀ k ∈ s, Rep (essL s) k := fun k hk => ess_rep h hp _ k hk (Nat.lt_succ_self _)
theorem ess_ne {s : List Pr} (h : schB s = true) (hp : ∀ k ∈ s, 1 ≤ k.1 ∧ k.1 ≤ 400 ∧ 1 ≤ k.2) : essL s ≠ [] := fun e => by
  obtain ⟨k, hk⟩ := List.exists_mem_of_ne_nil _ (sok h).ne
  obtain ⟨ks, a, b, c⟩ := ess_ok h hp k hk
  have := hp k hk
  cases ks with
  | nil => simp [lnP] at b; omega
  | cons x ks => have := a x List.mem_cons_self; rw [e] at this; cases this
theorem ess_sok {s : List Pr} (h : schB s = true) (hp : ∀ k ∈ s, 1 ≤ k.1 ∧ k.1 ≤ 400 ∧ 1 ≤ k.2) : Sok (essL s) := ⟨ess_ne h hp, fun k m => (sok h).len k (ess_sub m), fun k m => (sok h).pr k (ess_sub m)⟩
theorem rep_self {s : List Pr} {k : Pr} (h : k ∈ s) : Rep s k := ⟨[k], (fun x m => by rw [List.mem_singleton.mp m]; exact h), by simp [lnP], by simp [pcP]⟩
theorem ess_tot {s t : List Pr} (h : schB s = true) (hp : ∀ k ∈ s, 1 ≤ k.1 ∧ k.1 ≤ 400 ∧ 1 ≤ k.2) (ht : Tr t) : tot s t = tot (essL s) t := by
  have h1 := tot_rep (ess_sok h hp) (sok h) ht (ess_ok h hp)
  have h2 := tot_rep (sok h) (ess_sok h hp) ht fun k m => rep_self (ess_sub m)
  omega
/-- one trip per time unit, dear -/
def row (n : Nat) : List Pr := (List.range n).map fun (i : Nat) => ((i : Int), (1000000 : Int))
theorem row_tr (n : Nat) : Tr (row n) := by
  refine ⟨fun x m => ?_, ?_⟩
  · obtain ⟨i, _, rfl⟩ := List.mem_map.mp m
    show (0 : Int) ≤ 1000000
    decide
  · unfold row
    rw [List.pairwise_map]
    exact List.pairwise_lt_range.imp fun h => by dsimp only; omega
theorem cov_count (ps : List Ps) : ∀ n : Nat, (∀ q ∈ ps, 0 ≤ q.2.1) → (∀ i : Nat, i < n → cov ps (i : Int) = true) → n ≤ lnP (ps.map (·.2)) := by
  intro n h0 hc
  -- the covered times below n, pass by pass
  have key : ∀ (ps : List Ps), (∀ q ∈ ps, 0 ≤ q.2.1) → ((List.range n).filter fun (i : Nat) => cov ps (i : Int)).length ≤ lnP (ps.map (·.2)) := fun ps => by
    induction ps with
    | nil => intro _; simp [cov, lnP]
    | cons q ps ih =>
      intro h0
      have ih := ih fun x m => h0 x (List.mem_cons_of_mem _ m)
      have hq := h0 q List.mem_cons_self
      have le : ((List.range n).filter fun (i : Nat) => cov (q :: ps) (i : Int)).length ≤ ((List.range n).filter fun (i : Nat) => inP q (i : Int)).length + ((List.range n).filter fun (i : Nat) => cov ps (i : Int)).length := by
        generalize List.range n = l
        induction l with
        | nil => simp
        | cons a l ih =>
          rw [List.filter_cons, List.filter_cons, List.filter_cons, cov_cons]
          cases h1 : inP q (a : Int) <;> cases h2 : cov ps (a : Int) <;> simp <;> omega
      have one : ((List.range n).filter fun (i : Nat) => inP q (i : Int)).length ≤ q.2.1.toNat := by
        have nd : ((List.range n).filter fun (i : Nat) => inP q (i : Int)).Nodup := List.Pairwise.filter _ List.nodup_range
        have sub : ∀ i ∈ ((List.range n).filter fun (i : Nat) => inP q (i : Int)).map fun (i : Nat) => ((i : Int) - q.1).toNat, i < q.2.1.toNat := fun i m => by
          obtain ⟨j, hj, rfl⟩ := List.mem_map.mp m
          have := inP_t.mp (List.mem_filter.mp hj).2
          omega
        have nd2 : (((List.range n).filter fun (i : Nat) => inP q (i : Int)).map fun (i : Nat) => ((i : Int) - q.1).toNat).Nodup := by
          unfold List.Nodup
          rw [List.pairwise_map]
          refine List.Pairwise.imp_of_mem ?_ nd
          intro a b ma mb hab
          have h1 := inP_t.mp (List.mem_filter.mp ma).2
          have h2 := inP_t.mp (List.mem_filter.mp mb).2
          omega
        have := nodup_lt _ _ nd2 sub
        simpa using this
      simp [lnP] at ih ⊢
      omega
  have := key ps h0
  rw [List.filter_eq_self.mpr (fun i m => hc i (List.mem_range.mp m)), List.length_range] at this
  exact this
theorem spv_sub {a b : List Pr} (ha : Sok a) (hb : Sok b) (h : ∀ k ∈ a, k ∈ b) (n : Nat) : spv b n ≤ spv a n := by
  obtain ⟨ks, x, y, z⟩ := spv_wit ha n
  have := spv_lb hb ks n (fun k m => h k (x k m)) y
  omega
/-- one trip per time unit: the span's price -/
theorem row_tot {s : List Pr} (hs : Sok s) (hp : ∀ k ∈ s, k.2 ≤ 5000) {n : Nat} (hn : n ≤ 100) : tot s (row n) = spv s n := by
  obtain ⟨ks, a, b, c⟩ := spv_wit hs n
  have big : spv s n ≤ (n : Int) * 5000 := by
    clear b c a
    have : ∀ n, spv s n ≤ (n : Int) * 5000 := fun n => by
      induction n using Nat.strongRecOn with
      | _ n ih =>
        cases n with
        | zero => rw [spv_zero]; omega
        | succ n =>
          obtain ⟨k, hk⟩ := List.exists_mem_of_ne_nil _ hs.ne
          have h1 := spv_le hs hk (n + 1)
          have h2 := hs.len k hk
          have h3 := ih (n + 1 - k.1.toNat) (by omega)
          have h4 := hp k hk
          have h5 : ((n + 1 - k.1.toNat : Nat) : Int) ≤ (n : Int) := by omega
          omega
    exact this n
  have T := tot_is hs (row_tr n)
  have ub : tot s (row n) ≤ spv s n := by
    have l := T.lb (lay 0 ks) (lay_vl 0 a)
    have z : sq (row n) (unc (lay 0 ks)) = 0 := sq_zero fun x m => by
      obtain ⟨i, hi, rfl⟩ := List.mem_map.mp m
      rw [List.mem_range] at hi
      unfold unc
      dsimp only
      rw [lay_cov ks 0 (i : Int) (fun k m => by have := hs.len k (a k m); omega) (by omega) (by omega)]; rfl
    unfold cost at l
    rw [z, lay_pric] at l
    omega
  obtain ⟨ps, v, e⟩ := T.ub
  by_cases hc : ∀ i : Nat, i < n → cov ps (i : Int) = true
  · have h1 := cov_count ps n (fun q m => by have := hs.len q.2 (v q m); omega) hc
    have h2 := spv_lb hs (ps.map (·.2)) n (fun k m => by
      obtain ⟨q, hq, rfl⟩ := List.mem_map.mp m
      exact v q hq) h1
    have h3 : pcP (ps.map (·.2)) = pric ps := by unfold pcP pric; rw [List.map_map]; rfl
    have h4 := sq_nn (c := unc ps) (row_tr n).fare
    unfold cost at e
    omega
  · -- an uncovered trip is dearer than all
    exfalso
    obtain ⟨i, hi⟩ := Classical.not_forall.mp hc
    obtain ⟨hi, hu⟩ := Classical.not_imp.mp hi
    have h1 : pric ps ≥ 0 := by
      have : ∀ ps : List Ps, Vl s ps → 0 ≤ pric ps := fun ps => by
        induction ps with
        | nil => intro _; exact Int.le_refl _
        | cons q ps ih =>
          intro v
          have := ih fun x m => v x (List.mem_cons_of_mem _ m)
          have := hs.pr q.2 (v q List.mem_cons_self)
          rw [pric_cons]; omega
      exact this ps v
    have h2 : (1000000 : Int) ≤ sq (row n) (unc ps) := by
      have m : ((i : Int), (1000000 : Int)) ∈ row n := List.mem_map.mpr ⟨i, List.mem_range.mpr hi, rfl⟩
      have sub : List.Sublist [((i : Int), (1000000 : Int))] (row n) := List.singleton_sublist.mpr m
      have := sq_sub (c := unc ps) sub (row_tr n).fare
      rw [sq_cons, sq_nil, if_pos (by unfold unc; rw [show cov ps (i : Int) = false by simpa using hu]; rfl)] at this
      exact this
    unfold cost at e
    omega
theorem us_iff {s : List Pr} (h : schB s = true) (hp : ∀ k ∈ s, k.2 ≤ 5000) {i : Nat} (hi : i < s.length) (hl : s[i].1 ≤ 100) :
    usB s i = (!decide (othK s i = []) && decide (tot (othK s i) (row s[i].1.toNat) = tot s (row s[i].1.toNat))) := by
  have eg : s.getD i (0, 0) = s[i] := by rw [List.getD_eq_getElem?_getD, List.getElem?_eq_getElem hi]; rfl
  unfold usB
  rw [eg]
  by_cases ho : othK s i = []
  · simp [ho]
  · have so := oth_sok (sok h) ho
    have l1 := (sok h).len s[i] (List.getElem_mem hi)
    have r1 := row_tot so (fun k m => hp k (oth_mem m)) (n := s[i].1.toNat) (by omega)
    have r2 := row_tot (sok h) hp (n := s[i].1.toNat) (by omega)
    rw [r1, r2]
    have sub := spv_sub so (sok h) (fun k m => oth_mem m) s[i].1.toNat
    have one : spv s s[i].1.toNat ≤ s[i].2 := by
      have := spv_lb (sok h) [s[i]] s[i].1.toNat (fun k m => by rw [List.mem_singleton.mp m]; exact List.getElem_mem hi) (by simp [lnP])
      simpa [pcP] using this
    have back : spv (othK s i) s[i].1.toNat ≤ s[i].2 → spv (othK s i) s[i].1.toNat ≤ spv s s[i].1.toNat := fun le => by
      obtain ⟨ks, a, b, c⟩ := spv_wit (sok h) s[i].1.toNat
      by_cases m : s[i] ∈ ks
      · have := pcP_ge (sok h) a m; omega
      · have := spv_lb so ks s[i].1.toNat (fun k q => mem_oth hi (a k q) fun z => m (by rw [← z]; exact q)) b
        omega
    congr 1
    exact decide_eq_decide.mpr ⟨fun q => by have := back q; omega, fun q => by omega⟩
/-- the essential kinds are all essential -/
theorem ess_ess {s : List Pr} (h : schB s = true) {i : Nat} (hi : i < (essL s).length) (hs : (essL s).Pairwise fun p q => p.1 < q.1) : usB (essL s) i = false := by
  cases u : usB (essL s) i with
  | false => rfl
  | true =>
    exfalso
    have eg : (essL s).getD i (0, 0) = (essL s)[i] := by rw [List.getD_eq_getElem?_getD, List.getElem?_eq_getElem hi]; rfl
    obtain ⟨j, hj, uj, ej⟩ := ess_mem.mp (List.getElem_mem hi)
    unfold usB at u
    simp only [Bool.and_eq_true, Bool.not_eq_true', decide_eq_false_iff_not, decide_eq_true_eq] at u
    rw [eg] at u
    have sub : ∀ k ∈ othK (essL s) i, k ∈ othK s j := fun k m => mem_oth hj (ess_sub (oth_mem m)) fun z => oth_ne hs hi m (by rw [z, ej])
    have ne : othK s j ≠ [] := fun z => by
      obtain ⟨k, hk⟩ := List.exists_mem_of_ne_nil _ u.1
      have := sub k hk
      rw [z] at this; cases this
    have so := oth_sok (sok h) ne
    have so2 : Sok (othK (essL s) i) := ⟨u.1, fun k m => so.len k (sub k m), fun k m => so.pr k (sub k m)⟩
    have le := spv_sub so2 so sub (essL s)[i].1.toNat
    have ej2 : s.getD j (0, 0) = (essL s)[i] := by rw [List.getD_eq_getElem?_getD, List.getElem?_eq_getElem hj]; exact ej
    have : usB s j = true := by
      unfold usB
      rw [ej2]
      simp [ne]
      omega
    rw [uj] at this; cases this
theorem ess_asc {s : List Pr} (h : schB s = true) : (essL s).Pairwise fun p q => p.1 < q.1 := by
  unfold essL
  rw [List.pairwise_map]
  have h1 : ((List.range s.length).filter fun i => !usB s i).Pairwise (· < ·) := List.Pairwise.filter _ List.pairwise_lt_range
  refine List.Pairwise.imp_of_mem ?_ h1
  intro a b ma mb hab
  have la := List.mem_range.mp (List.mem_filter.mp ma).1
  have lb := List.mem_range.mp (List.mem_filter.mp mb).1
  have := List.pairwise_iff_getElem.mp (sch_asc h) a b la lb hab
  rw [List.getD_eq_getElem?_getD, List.getElem?_eq_getElem la, List.getD_eq_getElem?_getD, List.getElem?_eq_getElem lb]
  exact this
end RP
namespace RP
open PySem PySem.Spec L2 R RC
theorem gAdd_oth {s : List Pr} {i : Nat} (h : s.length ≤ 500) : gAdd (.tuple (prs (s.take i))) (.tuple (prs (s.drop (i + 1)))) = some (.dat (.tuple (prs (othK s i)))) := gAdd_tp (by simp; omega)
theorem at0_eq {s : List Pr} {i : Nat} : at0 s i = s.getD i (0, 0) := rfl
theorem sch_5 {s : List Pr} (h : schB s = true) : s.length ≤ 5 := by simp [schB] at h; omega
theorem is_useless_ok (s : List Pr) (h : schB s = true) {i : Nat} (hi : i < s.length) : g_is_useless [.dat (.tuple (prs s)), .dat (.int (i : Int))] = .ok (.dat (.bool (usB s i))) [] := by
  apply fun_ok
  have h5 := sch_5 h
  have a1 := atI_prs hi
  have go := gAdd_oth (s := s) (i := i) (by omega)
  have km := getD_mem hi
  have kp := sch_pr h _ km
  rw [← at0_eq] at kp
  obtain ⟨n, hn⟩ : ∃ n : Nat, (at0 s i).1 = (n : Int) := ⟨(at0 s i).1.toNat, by omega⟩
  simp [b_is_useless, a1, cut_ft, cut_fd, go, gNe_tp]
  by_cases ho : othK s i = []
  · simp [ho, usB]
  · have ol : (othK s i).length < 1000 := by simp [othK]; omega
    have sp := span_prices_ok (othK s i) (oth_sok (sok h) ho) ol n (by omega)
    have a2 : atI (inz (spL (othK s i) n)) (n : Int) = some (.int (spv (othK s i) n)) := by
      rw [atI_n, getD_inz (by rw [spL_len]; omega)]; rfl
    have e : usB s i = decide (spv (othK s i) n ≤ (at0 s i).2) := by
      unfold usB
      rw [← at0_eq, hn]
      simp [ho]
    simp [ho, hn, sp, a2, e]
def usL (s : List Pr) : List Int := ((List.range s.length).filter fun i => usB s i).map fun (i : Nat) => (i : Int)
theorem us_asc (s : List Pr) : (usL s).Pairwise (· < ·) := by
  unfold usL
  rw [List.pairwise_map]
  exact (List.Pairwise.filter _ List.pairwise_lt_range).imp fun h => by omega
theorem us_mem {s : List Pr} {i : Nat} (hi : i < s.length) : decide ((i : Int) ∈ usL s) = usB s i := by
  cases u : usB s i with
  | true => exact decide_eq_true (List.mem_map.mpr ⟨i, List.mem_filter.mpr ⟨List.mem_range.mpr hi, u⟩, rfl⟩)
  | false =>
    refine decide_eq_false fun m => ?_
    obtain ⟨j, hj, e⟩ := List.mem_map.mp m
    have : j = i := by omega
    subst this
    rw [(List.mem_filter.mp hj).2] at u; cases u
theorem us_len {s : List Pr} : (usL s).length ≤ s.length := by
  unfold usL
  have := List.length_filter_le (fun i => usB s i) (List.range s.length)
  simp at this ⊢
  exact this
theorem useless_kinds_ok (s : List Pr) (h : schB s = true) : g_useless_kinds [.dat (.tuple (prs s))] = .ok (.dat (.tuple (inz (usL s)))) [] := by
  apply fun_ok
  have h5 := sch_5 h
  have hrg : gRng1 [.int (s.length : Int)] = some ((List.range s.length).map fun (i : Nat) => PyData.int (i : Int)) := gRng1_i (by omega) (by omega)
  simp [b_useless_kinds, need_schedule_ok s h, hrg]
  refine post_of (comp_map (f := RP.unI fun i => if usB s i then some (.int (i : Int)) else none) ?_) ?_
  · intro d hd
    obtain ⟨i, hi, rfl⟩ := List.mem_map.mp hd
    rw [List.mem_range] at hi
    have iu := is_useless_ok s h hi
    cases hu : usB s i <;> simp [iu, hu, RP.unI]
  · rw [range_fI]
    simp [usL]
theorem useless_kinds_err (d : PyData) (hd : pl 5 d = true) (h : schD d = false) : g_useless_kinds [.dat d] = .err ⟨"InvalidSchedule", none⟩ [] := by
  apply fun_er
  simp [b_useless_kinds, need_schedule_err d hd h]
theorem essential_err (d : PyData) (hd : pl 5 d = true) (h : schD d = false) : g_essential_schedule [.dat d] = .err ⟨"InvalidSchedule", none⟩ [] := by
  apply fun_er
  simp [b_essential_schedule, useless_kinds_err d hd h]
/-- one for number, one in enumerate(s) if number not in us -/
def unE (us : List Int) : PyData → Option PyData
  | .tuple [.int k, d] => if k ∈ us then none else some d
  | _ => none
theorem fm_ess (s : List Pr) : ∀ (t : List Pr) (n : Nat), t = s.drop n → (enumD n (prs t)).filterMap (unE (usL s)) = prs (((List.range' n t.length).filter fun i => !usB s i).map fun i => s.getD i (0, 0))
  | [], n, _ => by simp [enumD]
  | p :: t, n, e => by
    have hn : n < s.length := by
      have := congrArg List.length e
      simp at this
      omega
    rw [List.drop_eq_getElem_cons hn] at e
    obtain ⟨e1, e2⟩ := List.cons.inj e
    have ih := fm_ess s t (n + 1) e2
    rw [List.length_cons, List.range'_succ, List.filter_cons]
    show List.filterMap (unE (usL s)) (.tuple [.int (n : Int), pr p] :: enumD (n + 1) (prs t)) = _
    rw [List.filterMap_cons, ih]
    have u : unE (usL s) (.tuple [.int (n : Int), pr p]) = if usB s n then none else some (pr p) := by
      have := us_mem hn
      cases hu : usB s n with
      | true =>
        rw [hu] at this
        simp [unE, of_decide_eq_true this]
      | false =>
        rw [hu] at this
        simp [unE, of_decide_eq_false this]
    rw [u]
    have eg : s.getD n (0, 0) = p := by rw [List.getD_eq_getElem?_getD, List.getElem?_eq_getElem hn, e1]; rfl
    cases hu : usB s n with
    | true => simp
    | false => simp [prs_cons, List.getElem?_eq_getElem hn, e1]
theorem ess_fm (s : List Pr) : (enumD 0 (prs s)).filterMap (unE (usL s)) = prs (essL s) := by
  rw [fm_ess s s 0 rfl, ← List.range_eq_range']
  rfl
theorem gIn_us {k : Int} {us : List Int} : gIn true (.int k) (.tuple (inz us)) = some (.dat (.bool (!decide (k ∈ us)))) := by
  unfold gIn
  have : (inz us).all flatD = true := inz_flat
  simp [seqD, flatD, inD_i]
theorem gIn_usF {k : Int} {us : List Int} : gIn false (.int k) (.tuple (inz us)) = some (.dat (.bool (decide (k ∈ us)))) := by
  unfold gIn
  have : (inz us).all flatD = true := inz_flat
  simp [seqD, flatD, inD_i]
theorem essential_ok (s : List Pr) (h : schB s = true) : g_essential_schedule [.dat (.tuple (prs s))] = .ok (.dat (.tuple (prs (essL s)))) [] := by
  apply fun_ok
  simp [b_essential_schedule, useless_kinds_ok s h]
  refine post_of (comp_map (f := unE (usL s)) ?_) ?_
  · intro d hd
    obtain ⟨i, x, e1, rfl⟩ := enum_mem hd
    have hx : x ∈ prs s := List.mem_of_getElem? e1
    obtain ⟨p, _, rfl⟩ := mem_prs hx
    by_cases hu : ((0 + i : Nat) : Int) ∈ usL s <;> simp [gIn_us, unE] at hu ⊢ <;> simp [hu]
  · rw [ess_fm]
    simp
end RP
namespace Lk13
open PySem PySem.Spec L2 R RC RP
def LI (ns : List Int) (rest : List PyData) (ρ : Rho) : Prop := ∃ (todo : List Int) (x1 : Option PyData) (x2 : Option (List PyData)) (x3 : Option PyData) (x4 : Option Str) (x5 x6 x7 x8 x9 x10 x11 x12 x13 x14 x15 x16 : Option PyData), rest = inz todo ∧ ρ = [.scr ns, lv x1, lw x2, lv x3, lf x4, lv x5, lv x6, lv x7, lv x8, lv x9, lv x10, lv x11, lv x12, lv x13, lv x14, lv x15, lv x16, .un, .un]
theorem LI_out {ns : List Int} {rest : List PyData} {ρ : Rho} (h : LI ns rest ρ) : outOf ρ = none := by
  obtain ⟨todo, x1, x2, x3, x4, x5, x6, x7, x8, x9, x10, x11, x12, x13, x14, x15, x16, e1, rfl⟩ := h
  simp
theorem uk (s : List Pr) (h : schB s = true) (u : List Int) (e : usL s = u) : g_useless_kinds [.dat (.tuple (prs s))] = .ok (.dat (.tuple (inz u))) [] := by rw [useless_kinds_ok s h, e]
theorem u1 : g_useless_kinds [.dat (.tuple [.tuple [.int 5, .int 9]])] = .ok (.dat (.tuple [])) [] := uk [(5, 9)] (by decide +kernel) [] (by decide +kernel)
theorem u2 : g_useless_kinds [.dat (.tuple [.tuple [.int 2, .int 3], .tuple [.int 3, .int 3], .tuple [.int 6, .int 7]])] = .ok (.dat (.tuple [.int 0, .int 2])) [] := uk [(2, 3), (3, 3), (6, 7)] (by decide +kernel) [0, 2] (by decide +kernel)
theorem u3 : g_useless_kinds [.dat (.tuple [.tuple [.int 2, .int 3], .tuple [.int 3, .int 4], .tuple [.int 5, .int 7]])] = .ok (.dat (.tuple [.int 2])) [] := uk [(2, 3), (3, 4), (5, 7)] (by decide +kernel) [2] (by decide +kernel)
theorem u4 : g_useless_kinds [.dat (.tuple [.tuple [.int 2, .int 3], .tuple [.int 3, .int 4], .tuple [.int 5, .int 6]])] = .ok (.dat (.tuple [])) [] := uk [(2, 3), (3, 4), (5, 6)] (by decide +kernel) [] (by decide +kernel)
theorem u5 : g_useless_kinds [.dat (.tuple [.tuple [.int 200, .int 5], .tuple [.int 400, .int 10]])] = .ok (.dat (.tuple [.int 1])) [] := uk [(200, 5), (400, 10)] (by decide +kernel) [1] (by decide +kernel)
theorem u6 : g_useless_kinds [.dat (.tuple [.tuple [.int 200, .int 5], .tuple [.int 400, .int 9]])] = .ok (.dat (.tuple [])) [] := uk [(200, 5), (400, 9)] (by decide +kernel) [] (by decide +kernel)
theorem n0 : gNe (.tuple []) (.tuple []) = some (.dat (.bool false)) := gNe_ti (l := []) (m := [])
theorem n02 : gNe (.tuple [.int 0, .int 2]) (.tuple [.int 0, .int 2]) = some (.dat (.bool false)) := gNe_ti (l := [0, 2]) (m := [0, 2])
theorem n2 : gNe (.tuple [.int 2]) (.tuple [.int 2]) = some (.dat (.bool false)) := gNe_ti (l := [2]) (m := [2])
theorem q0 : gEq (.tuple []) (.tuple []) = some (.dat (.bool true)) := gEq_ti (l := []) (m := [])
theorem q1 : gEq (.tuple [.int 1]) (.tuple [.int 1]) = some (.dat (.bool true)) := gEq_ti (l := [1]) (m := [1])
def capP (p : Pr) : Pr := (p.1, min p.2 5000)
theorem cap_sch {s : List Pr} (h : schB s = true) : schB (s.map capP) = true := by
  have hp := sch_pr h
  have h5 := sch_5 h
  have h0 := sch_ne h
  have l0 := List.length_pos_iff.mpr h0
  unfold schB
  rw [asc_sch (a := 0) (b := 0) (by
    rw [List.map_map]
    exact List.pairwise_map.mpr (sch_asc h))]
  have ha : (s.map capP).all (inB (1, 400) (1, 1000000)) = true := by
    rw [List.all_eq_true]
    intro p hp'
    obtain ⟨q, hq, rfl⟩ := List.mem_map.mp hp'
    have := hp q hq
    exact decide_eq_true (by unfold capP; dsimp only; omega)
  rw [ha, decide_eq_true (by simp; omega)]
  rfl
theorem ess_sch {s : List Pr} (h : schB s = true) : schB (essL s) = true := by
  have hp := sch_pr h
  have h5 := sch_5 h
  have h0 := ess_ne h fun k m => by have := hp k m; omega
  have l0 := List.length_pos_iff.mpr h0
  have l1 : (essL s).length ≤ s.length := by
    unfold essL
    have := List.length_filter_le (fun i => !usB s i) (List.range s.length)
    simp at this ⊢
    exact this
  unfold schB
  rw [asc_sch (a := 0) (b := 0) (List.pairwise_map.mpr (ess_asc h))]
  have ha : (essL s).all (inB (1, 400) (1, 1000000)) = true := by
    rw [List.all_eq_true]
    intro p hp'
    have := hp p (ess_sub hp')
    exact decide_eq_true (by dsimp only; omega)
  rw [ha, decide_eq_true (by omega)]
  rfl
theorem ess_us {s : List Pr} (h : schB s = true) : usL (essL s) = [] := by
  unfold usL
  rw [List.filter_eq_nil_iff.mpr fun i m => by rw [ess_ess h (List.mem_range.mp m) (ess_asc h)]; decide]
  rfl
theorem neS : (("essential_schedule" : Str) == ("useless_kinds" : Str)) = false := by decide +kernel
theorem law_true (ns : List Int) (h : ns.length ≤ 63) : dFun 19 b_law_k13 [.scr ns] = .ok (.dat (.bool true)) [] := by
  apply fun_ok
  have hl : 1 + ns.length ≤ 16777216 := by omega
  have e0 : PyData.int 0 :: ns.map .int = inz (0 :: ns) := rfl
  simp [b_law_k13, hl]
  have h8 : (0 : Int) ≤ 8 := by decide
  rw [e0, cut_inz h8]
  generalize ((0 :: ns).take (8 : Int).toNat) = cells
  refine loop_w (LI ns) ?_ ?_ _ _ ⟨cells, none, none, none, none, none, none, none, none, none, none, none, none, none, none, none, none, rfl, rfl⟩
  · intro c rest ρ hi
    obtain ⟨todo, x1, x2, x3, x4, x5, x6, x7, x8, x9, x10, x11, x12, x13, x14, x15, x16, e1, rfl⟩ := hi
    cases todo with
    | nil => cases e1
    | cons c todo =>
      cases e1
      obtain ⟨d, k1, k2⟩ := deck_ok c 13 (by decide) 13 (by decide)
      have hrg : gRng1 [.int 2] = some [.int 0, .int 1] := rfl
      simp [k1, hrg]
      obtain ⟨I, hI⟩ : ∃ I : List PyData → Rho → Prop, ∀ rest ρ, I rest ρ ↔ ∃ (dk : Int × Int × Int) (x3 x5 x6 x7 x8 x9 x10 x11 x12 x14 x15 x16 : Option PyData), rest.length ≤ 2 ∧ DkOk (100 + 1000 * (2 - rest.length)) dk ∧ (rest.length < 2 → ∃ s : List Pr, x5 = some (.tuple (prs s))) ∧ ρ = [.scr ns, .dat (.int c), .ls (dkL dk), lv x3, lf x4, lv x5, lv x6, lv x7, lv x8, lv x9, lv x10, lv x11, lv x12, lv x13, lv x14, lv x15, lv x16, .un, .un] := ⟨_, fun _ _ => Iff.rfl⟩
      refine loop_w I ?_ ?_ _ _ ((hI _ _).mpr ⟨d, x3, x5, x6, x7, x8, x9, x10, x11, x12, x14, x15, x16, by simp, k2.mono (by simp), by simp, rfl⟩)
      · intro e rest2 ρ hi
        obtain ⟨dk, x3, x5, x6, x7, x8, x9, x10, x11, x12, x14, x15, x16, f1, f2, f3, rfl⟩ := (hI _ _).mp hi
        simp at f1 f2
        obtain ⟨M, eM⟩ : ∃ M, M = 100 + 1000 * (1 - rest2.length) := ⟨_, rfl⟩
        rw [← eM] at f2
        obtain ⟨v, d1, a1, a2, a3⟩ := one_ok f2 (by omega) (L := [.int 8, .int 39]) (by simp) (by simp)
        have hv : ∃ n : Int, v = .int n ∧ 1 ≤ n ∧ n ≤ 39 := by
          simp at a1
          rcases a1 with rfl | rfl <;> exact ⟨_, rfl, by omega, by omega⟩
        obtain ⟨longest, rfl, l1, l2⟩ := hv
        obtain ⟨s0, d2, c1, c2, c3, c4, c5⟩ := schedule_ok a3 (many := 5) (longest := longest) (by omega) (by omega) l1 (by omega) (by omega)
        simp [a2, c1]
        refine post_of (comp_map (f := onPr fun a b => some (.tuple [.int a, .int (min b 5000)])) ?_) ?_
        · intro d hd
          obtain ⟨q, _, rfl⟩ := mem_prs hd
          simp [pr, onPr]
        · rw [fm_pp capP _ (fun p => rfl)]
          have hs := cap_sch c3
          have hle : ∀ k ∈ s0.map capP, k.1 ≤ 39 ∧ k.2 ≤ 5000 := fun k m => by
            obtain ⟨q, hq, rfl⟩ := List.mem_map.mp m
            have := c5 q hq
            unfold capP
            dsimp only
            omega
          obtain ⟨s, es⟩ : ∃ s, s = s0.map capP := ⟨_, rfl⟩
          rw [← es] at hs hle ⊢
          clear es
          have h5 := sch_5 hs
          have uk := useless_kinds_ok s hs
          have ek := essential_ok s hs
          have hr := ess_sch hs
          have uk2 := useless_kinds_ok (essL s) hr
          rw [ess_us hs] at uk2
          have ul := us_len (s := s)
          have sd : sdI (usL s) = usL s := asc_uniq (sdI_asc _) (us_asc s) fun k => mem_sdI
          have hlen : (usL s).length < 64 := by omega
          obtain ⟨t1, d3, b1, b2, b3, b4⟩ := trips_ok c2 (many := 20) (span := 60) (by omega) (by omega) (by omega) (by omega) (by omega)
          obtain ⟨t2, d4, g1, g2, g3, g4⟩ := trips_ok b2 (many := 30) (span := 30) (by omega) (by omega) (by omega) (by omega) (by omega)
          have hp1 : ∀ k ∈ s, 1 ≤ k.1 ∧ k.1 ≤ 400 ∧ 1 ≤ k.2 := fun k m => by have := sch_pr hs k m; omega
          have hR := fun (t : List Pr) (ht : Tr t) => ess_tot (t := t) hs hp1 ht
          have rne := ess_ne hs hp1
          have sm := same_mono 0 (.tuple (prs (essL s))) (pl_tp _ _)
          have rl : (essL s).length < 1000 := sch_len hr
          have rok := sok hr
          have um := fun (i : Nat) (hi : i < s.length) => us_mem hi
          have ui := fun (i : Nat) (hi : i < s.length) => us_iff hs (fun k m => (hle k m).2) hi (by have := hle s[i] (List.getElem_mem hi); omega)
          have ef := ess_fm s
          obtain ⟨us, eus⟩ : ∃ us, us = usL s := ⟨_, rfl⟩
          obtain ⟨rs, ers⟩ : ∃ rs, rs = essL s := ⟨_, rfl⟩
          rw [← eus] at uk hlen sd um ef
          rw [← ers] at ek uk2 hR rne sm rl rok ef
          simp [uk, tbOf, intsOf_inz, hlen, sd, gNe_li]
          refine post_of (comp_map (f := unE us) ?_) ?_
          · intro d hd
            obtain ⟨i, x, e1, rfl⟩ := enum_mem hd
            have hx : x ∈ prs s := List.mem_of_getElem? e1
            obtain ⟨p, _, rfl⟩ := mem_prs hx
            by_cases hu : ((0 + i : Nat) : Int) ∈ us <;> simp [gIn_us, unE] at hu ⊢ <;> simp [hu]
          · rw [ef]
            have hrg40 : gRng1 [.int 40] = some ((List.range 40).map fun (i : Nat) => PyData.int (i : Int)) := gRng1_i (by omega) (by omega)
            obtain ⟨R40, e40⟩ : ∃ R40, R40 = List.range 40 := ⟨_, rfl⟩
            rw [← e40] at hrg40
            simp [ek, sm, gEq_tp0, rne, uk2, n0, b1, g1, hrg40, pow6]
            refine post_of (comp_map (f := RP.unI fun i => some (pr ((i : Int), 1000000))) ?_) ?_
            · intro d hd
              obtain ⟨i, hi, rfl⟩ := List.mem_map.mp hd
              simp [RP.unI, pow6, pr]
            · have r40 : (R40.map fun (i : Nat) => PyData.int (i : Int)).filterMap (RP.unI fun i => some (pr ((i : Int), 1000000))) = prs (row 40) := by
                rw [e40, range_pp (fun i => ((i : Int), 1000000))]; rfl
              rw [r40]
              simp
              have hz := sch_len hs
              obtain ⟨x8, ex8⟩ : ∃ x8, x8 = PyData.list [PyData.tuple (prs t1), PyData.tuple (prs t2), PyData.tuple (prs (row 40))] := ⟨_, rfl⟩
              rw [← ex8]
              obtain ⟨J, hJ⟩ : ∃ J : List PyData → Rho → Prop, ∀ rest ρ, J rest ρ ↔ ∃ (x9 : Option PyData), (∀ d ∈ rest, ∃ t : List Pr, d = .tuple (prs t) ∧ Tr t ∧ t.length < 1000) ∧ ρ = [.scr ns, .dat (.int c), .ls (dkL d4), .dat e, lf x4, .dat (.tuple (prs s)), .dat (.tuple (inz us)), .dat (.tuple (prs rs)), .dat x8, lv x9, lv x10, lv x11, lv x12, lv x13, lv x14, lv x15, lv x16, .un, .un] := ⟨_, fun _ _ => Iff.rfl⟩
              refine loop_w J ?_ ?_ _ _ ((hJ _ _).mpr ⟨x9, ?_, rfl⟩)
              · intro d rest3 ρ hj
                obtain ⟨x9, j1, rfl⟩ := (hJ _ _).mp hj
                obtain ⟨t, rfl, tt, tl⟩ := j1 d List.mem_cons_self
                have e1 := law_total_ok s t (sch_ne hs) hz tl
                have e2 := law_total_ok rs t rne rl tl
                rw [← hR t tt] at e2
                simp [e1, e2]
                exact (hJ _ _).mpr ⟨some _, fun y m => j1 y (List.mem_cons_of_mem _ m), rfl⟩
              · intro ρ hj
                obtain ⟨x9, j1, rfl⟩ := (hJ _ _).mp hj
                simp
                obtain ⟨O, hO⟩ : ∃ O : List PyData → Rho → Prop, ∀ rest ρ, O rest ρ ↔ ∃ (i : Nat) (x10 x11 x12 x14 x15 x16 : Option PyData), rest = enumD i (prs (s.drop i)) ∧ i ≤ s.length ∧ ρ = [.scr ns, .dat (.int c), .ls (dkL d4), .dat e, lf x4, .dat (.tuple (prs s)), .dat (.tuple (inz us)), .dat (.tuple (prs rs)), .dat x8, lv x9, lv x10, lv x11, lv x12, lv x13, lv x14, lv x15, lv x16, .un, .un] := ⟨_, fun _ _ => Iff.rfl⟩
                refine loop_w O ?_ ?_ _ _ ((hO _ _).mpr ⟨0, x10, x11, x12, x14, x15, x16, rfl, Nat.zero_le _, rfl⟩)
                · intro d rest3 ρ ho
                  obtain ⟨i, x10, x11, x12, x14, x15, x16, o1, o2, rfl⟩ := (hO _ _).mp ho
                  have hi : i < s.length := by
                    by_cases hc : i < s.length
                    · exact hc
                    · rw [List.drop_of_length_le (by omega)] at o1; cases o1
                  rw [List.drop_eq_getElem_cons hi, prs_cons] at o1
                  cases o1
                  have kb := hle s[i] (List.getElem_mem hi)
                  have kp := hp1 s[i] (List.getElem_mem hi)
                  have ui2 := ui i hi
                  have um2 := um i hi
                  obtain ⟨n, hn⟩ : ∃ n : Nat, s[i].1 = (n : Int) := ⟨s[i].1.toNat, by omega⟩
                  have go := gAdd_oth (s := s) (i := i) (by omega)
                  have hrgn : gRng1 [.int (n : Int)] = some ((List.range n).map fun (i : Nat) => PyData.int (i : Int)) := by
                    have := gRng1_i (a := (n : Int)) (by omega) (by omega)
                    simpa using this
                  have fin : ∀ x14 x15 x16 x11 x12, O (enumD (i + 1) (prs (s.drop (i + 1)))) [.scr ns, .dat (.int c), .ls (dkL d4), .dat e, lf x4, .dat (.tuple (prs s)), .dat (.tuple (inz us)), .dat (.tuple (prs rs)), .dat x8, lv x9, .dat (.int (i : Int)), .dat x11, .dat x12, lv x13, .dat x14, .dat x15, .dat x16, .un, .un] :=
                    fun x14 x15 x16 x11 x12 => (hO _ _).mpr ⟨i + 1, some _, some x11, some x12, some x14, some x15, some x16, rfl, by omega, rfl⟩
                  generalize s[i] = k at *
                  have hn2 : k.1.toNat = n := by omega
                  rw [hn2] at ui2
                  simp [cut_ft, cut_fd, go, hn, hrgn]
                  refine post_of (comp_map (f := RP.unI fun i => some (pr ((i : Int), 1000000))) ?_) ?_
                  · intro d hd
                    obtain ⟨j, hj2, rfl⟩ := List.mem_map.mp hd
                    simp [RP.unI, pow6, pr]
                  · rw [range_pp (fun i => ((i : Int), 1000000))]
                    have rr : prs ((List.range n).map fun (i : Nat) => ((i : Int), (1000000 : Int))) = prs (row n) := rfl
                    rw [rr]
                    have rlen : (row n).length < 1000 := by simp [row]; omega
                    have ts := law_total_ok s (row n) (sch_ne hs) hz rlen
                    simp [gNe_tp]
                    by_cases ho2 : othK s i = []
                    · simp only [ho2, decide_true, Bool.not_true, Bool.false_and] at ui2
                      rw [ui2] at um2
                      simp [ho2, gIn_usF, um2, gNe_bb]
                      exact fin _ _ _ _ _
                    · have to := law_total_ok (othK s i) (row n) ho2 (by simp [othK]; omega) rlen
                      simp only [ho2, decide_false, Bool.not_false, Bool.true_and] at ui2
                      rw [ui2] at um2
                      simp [ho2, to, ts, gIn_usF, um2, gNe_bb]
                      exact fin _ _ _ _ _
                · intro ρ ho
                  obtain ⟨i, x10, x11, x12, x14, x15, x16, o1, o2, rfl⟩ := (hO _ _).mp ho
                  exact (hI _ _).mpr ⟨d4, some e, some _, some _, some _, some _, x9, x10, x11, x12, x14, x15, x16, by omega, g2.mono (by omega), fun _ => ⟨s, rfl⟩, rfl⟩
              · intro d hd
                simp only [List.mem_cons, List.not_mem_nil, or_false] at hd
                rcases hd with rfl | rfl | rfl
                · exact ⟨t1, rfl, tr b3, trp_len b3⟩
                · exact ⟨t2, rfl, tr g3, trp_len g3⟩
                · exact ⟨row 40, rfl, row_tr _, by simp [row]⟩
      · intro ρ hi
        obtain ⟨dk, x3, x5, x6, x7, x8, x9, x10, x11, x12, x14, x15, x16, f1, f2, f3, rfl⟩ := (hI _ _).mp hi
        obtain ⟨s, rfl⟩ := f3 (by simp)
        simp
        obtain ⟨O, hO⟩ : ∃ O : List PyData → Rho → Prop, ∀ rest ρ, O rest ρ ↔ ∃ (x4 : Option Str) (x13 : Option PyData), (∀ d ∈ rest, pl 5 d = true ∧ schD d = false) ∧ (x4 = some "useless_kinds" ∨ x4 = some "essential_schedule") ∧ ρ = [.scr ns, .dat (.int c), .ls (dkL dk), lv x3, lf x4, .dat (.tuple (prs s)), lv x6, lv x7, lv x8, lv x9, lv x10, lv x11, lv x12, lv x13, lv x14, lv x15, lv x16, .un, .un] := ⟨_, fun _ _ => Iff.rfl⟩
        have odds : ∀ d ∈ ([.none, .tuple [], .list (prs s), .tuple [.tuple [.int 2, .int 1], .tuple [.int 1, .int 1]]] : List PyData), pl 5 d = true ∧ schD d = false := fun d hd => by
          simp only [List.mem_cons, List.not_mem_nil, or_false] at hd
          rcases hd with rfl | rfl | rfl | rfl
          · exact ⟨rfl, rfl⟩
          · exact ⟨rfl, by decide +kernel⟩
          · exact ⟨pl_lp _ _, rfl⟩
          · exact ⟨by decide +kernel, by decide +kernel⟩
        have step : ∀ d rest ρ, O (d :: rest) ρ → pl 5 d = true ∧ schD d = false := fun d rest ρ ho => by
          obtain ⟨x4, x13, w1, w2, rfl⟩ := (hO _ _).mp ho
          exact w1 d List.mem_cons_self
        refine loop_w O ?_ ?_ _ _ ((hO _ _).mpr ⟨some _, x13, odds, .inl rfl, rfl⟩)
        · intro d rest3 ρ ho
          obtain ⟨x4, x13, w1, w2, rfl⟩ := (hO _ _).mp ho
          obtain ⟨p1, p2⟩ := w1 d List.mem_cons_self
          have er1 := useless_kinds_err d p1 p2
          have er2 := essential_err d p1 p2
          rcases w2 with rfl | rfl
          · simp [List.lookup, er1, nx_Schedule]
            exact (hO _ _).mpr ⟨some _, some d, fun y m => w1 y (List.mem_cons_of_mem _ m), .inl rfl, rfl⟩
          · simp [List.lookup, er2, nx_Schedule, neS]
            exact (hO _ _).mpr ⟨some _, some d, fun y m => w1 y (List.mem_cons_of_mem _ m), .inr rfl, rfl⟩
        · intro ρ ho
          obtain ⟨x4, x13, w1, w2, rfl⟩ := (hO _ _).mp ho
          simp
          refine loop_w O ?_ ?_ _ _ ((hO _ _).mpr ⟨some _, x13, odds, .inr rfl, rfl⟩)
          · intro d rest3 ρ ho
            obtain ⟨x4, x13, w1, w2, rfl⟩ := (hO _ _).mp ho
            obtain ⟨p1, p2⟩ := w1 d List.mem_cons_self
            have er1 := useless_kinds_err d p1 p2
            have er2 := essential_err d p1 p2
            rcases w2 with rfl | rfl
            · simp [List.lookup, er1, nx_Schedule]
              exact (hO _ _).mpr ⟨some _, some d, fun y m => w1 y (List.mem_cons_of_mem _ m), .inl rfl, rfl⟩
            · simp [List.lookup, er2, nx_Schedule, neS]
              exact (hO _ _).mpr ⟨some _, some d, fun y m => w1 y (List.mem_cons_of_mem _ m), .inr rfl, rfl⟩
          · intro ρ ho
            obtain ⟨x4, x13, w1, w2, rfl⟩ := (hO _ _).mp ho
            exact ⟨todo, some _, some _, x3, x4, some _, x6, x7, x8, x9, x10, x11, x12, x13, x14, x15, x16, rfl, rfl⟩
  · intro ρ hi
    simp [u1, u2, u3, u4, u5, u6, n0, n02, n2, q0, q1, LI_out hi, scr_out]
end Lk13
namespace Lk13
open PySem PySem.Spec L2 R RC
open PyProof.Rows hiding St
theorem all_mk {l : PySem.W.OpenLaw} {w : World} {K : PySem.W.Frag} {h : Heap} {mg : Str → Option Value} {fa : Addr} (X : K.In h) (G : h.Ns mainGlobals mg) (hfa : mg "law" = some (.ref fa)) (own : LamX.OwnTab K fa h)
    {f0 : Addr} {od0 an0 : Option Addr} {sl0 : Array (Option Value)} {oc0 kV0 dc0 pm0 ct0 cd0 : Value}
    {f1 : Addr} {od1 an1 : Option Addr} {sl1 : Array (Option Value)} {oc1 kV1 dc1 pm1 ct1 cd1 : Value}
    {f2 : Addr} {od2 an2 : Option Addr} {sl2 : Array (Option Value)} {oc2 kV2 dc2 pm2 ct2 cd2 : Value}
    {f3 : Addr} {od3 an3 : Option Addr} {sl3 : Array (Option Value)} {oc3 kV3 dc3 pm3 ct3 cd3 : Value}
    {f4 : Addr} {od4 an4 : Option Addr} {sl4 : Array (Option Value)} {oc4 kV4 dc4 pm4 ct4 cd4 : Value}
    {f5 : Addr} {od5 an5 : Option Addr} {sl5 : Array (Option Value)} {oc5 kV5 dc5 pm5 ct5 cd5 : Value}
    {f6 : Addr} {od6 an6 : Option Addr} {sl6 : Array (Option Value)} {oc6 kV6 dc6 pm6 ct6 cd6 : Value}
    {f7 : Addr} {od7 an7 : Option Addr} {sl7 : Array (Option Value)} {oc7 kV7 dc7 pm7 ct7 cd7 : Value}
    {f8 : Addr} {od8 an8 : Option Addr} {sl8 : Array (Option Value)} {oc8 kV8 dc8 pm8 ct8 cd8 : Value}
    {f9 : Addr} {od9 an9 : Option Addr} {sl9 : Array (Option Value)} {oc9 kV9 dc9 pm9 ct9 cd9 : Value}
    {f10 : Addr} {od10 an10 : Option Addr} {sl10 : Array (Option Value)} {oc10 kV10 dc10 pm10 ct10 cd10 : Value}
    {f11 : Addr} {od11 an11 : Option Addr} {sl11 : Array (Option Value)} {oc11 kV11 dc11 pm11 ct11 cd11 : Value}
    {f12 : Addr} {od12 an12 : Option Addr} {sl12 : Array (Option Value)} {oc12 kV12 dc12 pm12 ct12 cd12 : Value}
    {f13 : Addr} {od13 an13 : Option Addr} {sl13 : Array (Option Value)} {oc13 kV13 dc13 pm13 ct13 cd13 : Value}
    {f14 : Addr} {od14 an14 : Option Addr} {sl14 : Array (Option Value)} {oc14 kV14 dc14 pm14 ct14 cd14 : Value}
    {f15 : Addr} {od15 an15 : Option Addr} {sl15 : Array (Option Value)} {oc15 kV15 dc15 pm15 ct15 cd15 : Value}
    {f16 : Addr} {od16 an16 : Option Addr} {sl16 : Array (Option Value)} {oc16 kV16 dc16 pm16 ct16 cd16 : Value}
    {f17 : Addr} {od17 an17 : Option Addr} {sl17 : Array (Option Value)} {oc17 kV17 dc17 pm17 ct17 cd17 : Value}
    {f18 : Addr} {od18 an18 : Option Addr} {sl18 : Array (Option Value)} {oc18 kV18 dc18 pm18 ct18 : Value}
    {f19 : Addr} {od19 an19 : Option Addr} {sl19 : Array (Option Value)} {oc19 kV19 dc19 pm19 ct19 cd19 : Value}
    {f20 : Addr} {od20 an20 : Option Addr} {sl20 : Array (Option Value)} {oc20 kV20 dc20 pm20 ct20 cd20 : Value}
    {t_HIGHEST : Tok}
    {t_LONGEST : Tok}
    {t_MOST_KINDS : Tok}
    {cC P0 : Addr} {eC : Value} {ddC : Option Addr} {vsC : Array Value} {slC : Array (Option Value)}
    (a0 : PySem.W.nsIn K mainGlobals "_law_deck" = some (some (.ref f0))) (l0 : K.lookup f0 = some ⟨oc0, od0, .func (PySem.W.fnOf "_law_deck" "_law_deck" (defArgs (top 28)) (defBody (top 28)) (defScope (top 28)) .none kV0 dc0 pm0 an0 cd0 ct0), sl0⟩) (c0 : PySem.W.codeIn K cd0 "_law_deck" = true) (k0 : PySem.W.keepIn K (.ref f0) = true)
    (a1 : PySem.W.nsIn K mainGlobals "_law_pick" = some (some (.ref f1))) (l1 : K.lookup f1 = some ⟨oc1, od1, .func (PySem.W.fnOf "_law_pick" "_law_pick" (defArgs (top 29)) (defBody (top 29)) (defScope (top 29)) .none kV1 dc1 pm1 an1 cd1 ct1), sl1⟩) (c1 : PySem.W.codeIn K cd1 "_law_pick" = true) (k1 : PySem.W.keepIn K (.ref f1) = true)
    (a2 : PySem.W.nsIn K mainGlobals "_law_some" = some (some (.ref f2))) (l2 : K.lookup f2 = some ⟨oc2, od2, .func (PySem.W.fnOf "_law_some" "_law_some" (defArgs (top 36)) (defBody (top 36)) (defScope (top 36)) .none kV2 dc2 pm2 an2 cd2 ct2), sl2⟩) (c2 : PySem.W.codeIn K cd2 "_law_some" = true) (k2 : PySem.W.keepIn K (.ref f2) = true)
    (a3 : PySem.W.nsIn K mainGlobals "_law_one" = some (some (.ref f3))) (l3 : K.lookup f3 = some ⟨oc3, od3, .func (PySem.W.fnOf "_law_one" "_law_one" (defArgs (top 33)) (defBody (top 33)) (defScope (top 33)) .none kV3 dc3 pm3 an3 cd3 ct3), sl3⟩) (c3 : PySem.W.codeIn K cd3 "_law_one" = true) (k3 : PySem.W.keepIn K (.ref f3) = true)
    (a4 : PySem.W.nsIn K mainGlobals "_law_schedule" = some (some (.ref f4))) (l4 : K.lookup f4 = some ⟨oc4, od4, .func (PySem.W.fnOf "_law_schedule" "_law_schedule" (defArgs (top 37)) (defBody (top 37)) (defScope (top 37)) .none kV4 dc4 pm4 an4 cd4 ct4), sl4⟩) (c4 : PySem.W.codeIn K cd4 "_law_schedule" = true) (k4 : PySem.W.keepIn K (.ref f4) = true)
    (a5 : PySem.W.nsIn K mainGlobals "is_from" = some (some (.ref f5))) (l5 : K.lookup f5 = some ⟨oc5, od5, .func (PySem.W.fnOf "is_from" "is_from" (defArgs (top 18)) (defBody (top 18)) (defScope (top 18)) .none kV5 dc5 pm5 an5 cd5 ct5), sl5⟩) (c5 : PySem.W.codeIn K cd5 "is_from" = true) (k5 : PySem.W.keepIn K (.ref f5) = true)
    (a6 : PySem.W.nsIn K mainGlobals "is_pair" = some (some (.ref f6))) (l6 : K.lookup f6 = some ⟨oc6, od6, .func (PySem.W.fnOf "is_pair" "is_pair" (defArgs (top 19)) (defBody (top 19)) (defScope (top 19)) .none kV6 dc6 pm6 an6 cd6 ct6), sl6⟩) (c6 : PySem.W.codeIn K cd6 "is_pair" = true) (k6 : PySem.W.keepIn K (.ref f6) = true)
    (a7 : PySem.W.nsIn K mainGlobals "is_schedule" = some (some (.ref f7))) (l7 : K.lookup f7 = some ⟨oc7, od7, .func (PySem.W.fnOf "is_schedule" "is_schedule" (defArgs (top 20)) (defBody (top 20)) (defScope (top 20)) .none kV7 dc7 pm7 an7 cd7 ct7), sl7⟩) (c7 : PySem.W.codeIn K cd7 "is_schedule" = true) (k7 : PySem.W.keepIn K (.ref f7) = true)
    (a8 : PySem.W.nsIn K mainGlobals "need_schedule" = some (some (.ref f8))) (l8 : K.lookup f8 = some ⟨oc8, od8, .func (PySem.W.fnOf "need_schedule" "need_schedule" (defArgs (top 21)) (defBody (top 21)) (defScope (top 21)) .none kV8 dc8 pm8 an8 cd8 ct8), sl8⟩) (c8 : PySem.W.codeIn K cd8 "need_schedule" = true) (k8 : PySem.W.keepIn K (.ref f8) = true)
    (a9 : PySem.W.nsIn K mainGlobals "span_prices" = some (some (.ref f9))) (l9 : K.lookup f9 = some ⟨oc9, od9, .func (PySem.W.fnOf "span_prices" "span_prices" (defArgs (top 23)) (defBody (top 23)) (defScope (top 23)) .none kV9 dc9 pm9 an9 cd9 ct9), sl9⟩) (c9 : PySem.W.codeIn K cd9 "span_prices" = true) (k9 : PySem.W.keepIn K (.ref f9) = true)
    (a10 : PySem.W.nsIn K mainGlobals "is_useless" = some (some (.ref f10))) (l10 : K.lookup f10 = some ⟨oc10, od10, .func (PySem.W.fnOf "is_useless" "is_useless" (defArgs (top 24)) (defBody (top 24)) (defScope (top 24)) .none kV10 dc10 pm10 an10 cd10 ct10), sl10⟩) (c10 : PySem.W.codeIn K cd10 "is_useless" = true) (k10 : PySem.W.keepIn K (.ref f10) = true)
    (a11 : PySem.W.nsIn K mainGlobals "useless_kinds" = some (some (.ref f11))) (l11 : K.lookup f11 = some ⟨oc11, od11, .func (PySem.W.fnOf "useless_kinds" "useless_kinds" (defArgs (top 25)) (defBody (top 25)) (defScope (top 25)) .none kV11 dc11 pm11 an11 cd11 ct11), sl11⟩) (c11 : PySem.W.codeIn K cd11 "useless_kinds" = true) (k11 : PySem.W.keepIn K (.ref f11) = true)
    (a12 : PySem.W.nsIn K mainGlobals "essential_schedule" = some (some (.ref f12))) (l12 : K.lookup f12 = some ⟨oc12, od12, .func (PySem.W.fnOf "essential_schedule" "essential_schedule" (defArgs (top 26)) (defBody (top 26)) (defScope (top 26)) .none kV12 dc12 pm12 an12 cd12 ct12), sl12⟩) (c12 : PySem.W.codeIn K cd12 "essential_schedule" = true) (k12 : PySem.W.keepIn K (.ref f12) = true)
    (a13 : PySem.W.nsIn K mainGlobals "_law_trips" = some (some (.ref f13))) (l13 : K.lookup f13 = some ⟨oc13, od13, .func (PySem.W.fnOf "_law_trips" "_law_trips" (defArgs (top 38)) (defBody (top 38)) (defScope (top 38)) .none kV13 dc13 pm13 an13 cd13 ct13), sl13⟩) (c13 : PySem.W.codeIn K cd13 "_law_trips" = true) (k13 : PySem.W.keepIn K (.ref f13) = true)
    (a14 : PySem.W.nsIn K mainGlobals "_law_sort" = some (some (.ref f14))) (l14 : K.lookup f14 = some ⟨oc14, od14, .func (PySem.W.fnOf "_law_sort" "_law_sort" (defArgs (top 34)) (defBody (top 34)) (defScope (top 34)) .none kV14 dc14 pm14 an14 cd14 ct14), sl14⟩) (c14 : PySem.W.codeIn K cd14 "_law_sort" = true) (k14 : PySem.W.keepIn K (.ref f14) = true)
    (a15 : PySem.W.nsIn K mainGlobals "_law_same" = some (some (.ref f15))) (l15 : K.lookup f15 = some ⟨oc15, od15, .func (PySem.W.fnOf "_law_same" "_law_same" (defArgs (top 35)) (defBody (top 35)) (defScope (top 35)) .none kV15 dc15 pm15 an15 cd15 ct15), sl15⟩) (c15 : PySem.W.codeIn K cd15 "_law_same" = true) (k15 : PySem.W.keepIn K (.ref f15) = true)
    (a16 : PySem.W.nsIn K mainGlobals "_law_charges" = some (some (.ref f16))) (l16 : K.lookup f16 = some ⟨oc16, od16, .func (PySem.W.fnOf "_law_charges" "_law_charges" (defArgs (top 39)) (defBody (top 39)) (defScope (top 39)) .none kV16 dc16 pm16 an16 cd16 ct16), sl16⟩) (c16 : PySem.W.codeIn K cd16 "_law_charges" = true) (k16 : PySem.W.keepIn K (.ref f16) = true)
    (a17 : PySem.W.nsIn K mainGlobals "_law_total" = some (some (.ref f17))) (l17 : K.lookup f17 = some ⟨oc17, od17, .func (PySem.W.fnOf "_law_total" "_law_total" (defArgs (top 40)) (defBody (top 40)) (defScope (top 40)) .none kV17 dc17 pm17 an17 cd17 ct17), sl17⟩) (c17 : PySem.W.codeIn K cd17 "_law_total" = true) (k17 : PySem.W.keepIn K (.ref f17) = true)
    (a18 : PySem.W.nsIn K mainGlobals "law" = some (some (.ref f18))) (l18 : K.lookup f18 = some ⟨oc18, od18, .func (PySem.W.fnOf "law" "law" (defArgs (top 41)) (defBody (top 41)) (defScope (top 41)) .none kV18 dc18 pm18 an18 (.ref cC) ct18), sl18⟩) (c18 : PySem.W.codeIn K (.ref cC) "law" = true) (k18 : PySem.W.keepIn K (.ref f18) = true)
    (a19 : PySem.W.nsIn K mainGlobals "_law_try" = some (some (.ref f19))) (l19 : K.lookup f19 = some ⟨oc19, od19, .func (PySem.W.fnOf "_law_try" "_law_try" (defArgs (top 32)) (defBody (top 32)) (defScope (top 32)) .none kV19 dc19 pm19 an19 cd19 ct19), sl19⟩) (c19 : PySem.W.codeIn K cd19 "_law_try" = true) (k19 : PySem.W.keepIn K (.ref f19) = true)
    (a20 : PySem.W.nsIn K mainGlobals "_law_name_of" = some (some (.ref f20))) (l20 : K.lookup f20 = some ⟨oc20, od20, .func (PySem.W.fnOf "_law_name_of" "_law_name_of" (defArgs (top 31)) (defBody (top 31)) (defScope (top 31)) .none kV20 dc20 pm20 an20 cd20 ct20), sl20⟩) (c20 : PySem.W.codeIn K cd20 "_law_name_of" = true) (k20 : PySem.W.keepIn K (.ref f20) = true)
    (z_ValueError : PySem.W.nsIn K mainGlobals "ValueError" = some none)
    (z_all : PySem.W.nsIn K mainGlobals "all" = some none)
    (z_bool : PySem.W.nsIn K mainGlobals "bool" = some none)
    (z_enumerate : PySem.W.nsIn K mainGlobals "enumerate" = some none)
    (z_int : PySem.W.nsIn K mainGlobals "int" = some none)
    (z_isinstance : PySem.W.nsIn K mainGlobals "isinstance" = some none)
    (z_len : PySem.W.nsIn K mainGlobals "len" = some none)
    (z_list : PySem.W.nsIn K mainGlobals "list" = some none)
    (z_max : PySem.W.nsIn K mainGlobals "max" = some none)
    (z_min : PySem.W.nsIn K mainGlobals "min" = some none)
    (z_range : PySem.W.nsIn K mainGlobals "range" = some none)
    (z_set : PySem.W.nsIn K mainGlobals "set" = some none)
    (z_sorted : PySem.W.nsIn K mainGlobals "sorted" = some none)
    (z_str : PySem.W.nsIn K mainGlobals "str" = some none)
    (z_sum : PySem.W.nsIn K mainGlobals "sum" = some none)
    (z_tuple : PySem.W.nsIn K mainGlobals "tuple" = some none)
    (z_zip : PySem.W.nsIn K mainGlobals "zip" = some none)
    (z_HIGHEST : PySem.W.nsIn K mainGlobals "HIGHEST" = some (some (.int 1000000 t_HIGHEST)))
    (z_LONGEST : PySem.W.nsIn K mainGlobals "LONGEST" = some (some (.int 400 t_LONGEST)))
    (z_MOST_KINDS : PySem.W.nsIn K mainGlobals "MOST_KINDS" = some (some (.int 5 t_MOST_KINDS)))
    (q_InvalidSchedule : rclB K "InvalidSchedule" = true)
    (lc : K.lookup cC = some ⟨eC, ddC, .fields vsC, slC⟩)
    (hP : vsC[11]? = some (.ref P0)) (nP : K.lookup P0 = none) (hq : hdO ⟨eC, ddC, .fields vsC, slC⟩ vsC cC P0 = true) (q_cls : clsB K = true)
    : LamX.LawAtS l w K (L2N.CX l.prog w) 11 63 "script" mg fa h := by
  have B : Facts K mg := ⟨PySem.W.mg_none_of X G z_ValueError, PySem.W.mg_none_of X G z_all, PySem.W.mg_none_of X G z_bool, PySem.W.mg_none_of X G z_enumerate, PySem.W.mg_none_of X G z_int, PySem.W.mg_none_of X G z_isinstance, PySem.W.mg_none_of X G z_len, PySem.W.mg_none_of X G z_list, PySem.W.mg_none_of X G z_max, PySem.W.mg_none_of X G z_min, PySem.W.mg_none_of X G z_range, PySem.W.mg_none_of X G z_set, PySem.W.mg_none_of X G z_sorted, PySem.W.mg_none_of X G z_str, PySem.W.mg_none_of X G z_sum, PySem.W.mg_none_of X G z_tuple, PySem.W.mg_none_of X G z_zip, ⟨_, PySem.W.mg_of X G z_HIGHEST⟩, ⟨_, PySem.W.mg_of X G z_LONGEST⟩, ⟨_, PySem.W.mg_of X G z_MOST_KINDS⟩, rcl_of X G q_InvalidSchedule, cls_of X G (PySem.W.mg_none_of X G z_str) q_cls⟩
  have D__law_deck := fn_def X G a0 l0 c0 k0
  have D__law_pick := fn_def X G a1 l1 c1 k1
  have D__law_some := fn_def X G a2 l2 c2 k2
  have D__law_one := fn_def X G a3 l3 c3 k3
  have D__law_schedule := fn_def X G a4 l4 c4 k4
  have D_is_from := fn_def X G a5 l5 c5 k5
  have D_is_pair := fn_def X G a6 l6 c6 k6
  have D_is_schedule := fn_def X G a7 l7 c7 k7
  have D_need_schedule := fn_def X G a8 l8 c8 k8
  have D_span_prices := fn_def X G a9 l9 c9 k9
  have D_is_useless := fn_def X G a10 l10 c10 k10
  have D_useless_kinds := fn_def X G a11 l11 c11 k11
  have D_essential_schedule := fn_def X G a12 l12 c12 k12
  have D__law_trips := fn_def X G a13 l13 c13 k13
  have D__law_sort := fn_def X G a14 l14 c14 k14
  have D__law_same := fn_def X G a15 l15 c15 k15
  have D__law_charges := fn_def X G a16 l16 c16 k16
  have D__law_total := fn_def X G a17 l17 c17 k17
  have D__law_try := fn_def X G a19 l19 c19 k19
  have D__law_name_of := fn_def X G a20 l20 c20 k20
  refine law_mkT X G hfa own a18 l18 c18 k18 lc hP nP hq sc_law rfl bd_law law_true fun T base f A outer s H E hT TB hr => ?_
  have tm : (P0, lamQ "law") ∈ T.tabs := by rw [hT]; exact List.mem_singleton.mpr rfl
  have NM : NameAt l.prog w K mg base 1 := nm_at D__law_name_of B
  have h__law_deck := at__law_deck (P := l.prog) (w := w) (base := base) D__law_deck B 
  have h__law_pick := at__law_pick (P := l.prog) (w := w) (base := base) D__law_pick B 
  have h__law_some := at__law_some (P := l.prog) (w := w) (base := base) D__law_some B h__law_pick
  have h__law_one := at__law_one (P := l.prog) (w := w) (base := base) D__law_one B h__law_pick
  have h__law_schedule := at__law_schedule (P := l.prog) (w := w) (base := base) D__law_schedule B h__law_pick h__law_some h__law_one
  have h_is_from := at_is_from (P := l.prog) (w := w) (base := base) D_is_from B 
  have h_is_pair := at_is_pair (P := l.prog) (w := w) (base := base) D_is_pair B h_is_from
  have h_is_schedule := at_is_schedule (P := l.prog) (w := w) (base := base) D_is_schedule B h_is_pair
  have h_need_schedule := at_need_schedule (P := l.prog) (w := w) (base := base) D_need_schedule B h_is_schedule
  have h_span_prices := at_span_prices (P := l.prog) (w := w) (base := base) D_span_prices B 
  have h_is_useless := at_is_useless (P := l.prog) (w := w) (base := base) D_is_useless B h_span_prices
  have h_useless_kinds := at_useless_kinds (P := l.prog) (w := w) (base := base) D_useless_kinds B h_is_useless h_need_schedule
  have h_essential_schedule := at_essential_schedule (P := l.prog) (w := w) (base := base) D_essential_schedule B h_useless_kinds
  have h__law_trips := at__law_trips (P := l.prog) (w := w) (base := base) D__law_trips B h__law_pick h__law_one
  have h__law_sort := at__law_sort (P := l.prog) (w := w) (base := base) D__law_sort B 
  have h__law_same := at__law_same (P := l.prog) (w := w) (base := base) D__law_same B h__law_sort
  have h__law_charges := at__law_charges (P := l.prog) (w := w) (base := base) D__law_charges B 
  have h__law_total := at__law_total (P := l.prog) (w := w) (base := base) D__law_total B h__law_charges
  exact body_law B h_useless_kinds h_essential_schedule h__law_total h__law_trips h__law_same h__law_one h__law_schedule h__law_deck NM D__law_try TB tm f A outer s H E hr
end Lk13
open PySem PySem.W PyProof.Rows
set_option maxHeartbeats 0 in
theorem PySem.Challenge.cw_rollcap_k13_whole_useless_kinds_holds : PySem.Challenge.rw_rollcap_k13_whole_useless_kinds.Holds := by
  w_on; o_law; k_head; (case hw => w_witness2)
  k_fill
  refine LamX.walk_ofOwn (l := PySem.Challenge.rw_rollcap_k13_whole_useless_kinds) (n := 63) (k := 11) (x := "script") (CX := fun w => L2N.CX PySem.Challenge.rw_rollcap_k13_whole_useless_kinds.prog w) rfl (by decide) rfl ⟨rfl, by decide, by decide⟩ (by kernel_rfl) (fun w h Y => PySem.W.km_in_of Y) ?F (fun _ H s e s' h => R.no_exc H s e s' h)
  case F =>
    intro w mg fa h Y KX G hmg own
    refine' Lk13.all_mk KX G hmg own ?a0 ?l0 ?c0 ?k0 ?a1 ?l1 ?c1 ?k1 ?a2 ?l2 ?c2 ?k2 ?a3 ?l3 ?c3 ?k3 ?a4 ?l4 ?c4 ?k4 ?a5 ?l5 ?c5 ?k5 ?a6 ?l6 ?c6 ?k6 ?a7 ?l7 ?c7 ?k7 ?a8 ?l8 ?c8 ?k8 ?a9 ?l9 ?c9 ?k9 ?a10 ?l10 ?c10 ?k10 ?a11 ?l11 ?c11 ?k11 ?a12 ?l12 ?c12 ?k12 ?a13 ?l13 ?c13 ?k13 ?a14 ?l14 ?c14 ?k14 ?a15 ?l15 ?c15 ?k15 ?a16 ?l16 ?c16 ?k16 ?a17 ?l17 ?c17 ?k17 ?a18 ?l18 ?c18 ?k18 ?a19 ?l19 ?c19 ?k19 ?a20 ?l20 ?c20 ?k20 ?z_ValueError ?z_all ?z_bool ?z_enumerate ?z_int ?z_isinstance ?z_len ?z_list ?z_max ?z_min ?z_range ?z_set ?z_sorted ?z_str ?z_sum ?z_tuple ?z_zip ?z_HIGHEST ?z_LONGEST ?z_MOST_KINDS ?q_InvalidSchedule ?lc ?hP ?nP ?hq ?q_cls
    (case a0 => k_is); (case l0 => k_is); (case c0 => k_is); (case k0 => k_is); (case a1 => k_is); (case l1 => k_is); (case c1 => k_is); (case k1 => k_is); (case a2 => k_is); (case l2 => k_is); (case c2 => k_is); (case k2 => k_is); (case a3 => k_is); (case l3 => k_is); (case c3 => k_is); (case k3 => k_is); (case a4 => k_is); (case l4 => k_is); (case c4 => k_is); (case k4 => k_is); (case a5 => k_is); (case l5 => k_is); (case c5 => k_is); (case k5 => k_is); (case a6 => k_is); (case l6 => k_is); (case c6 => k_is); (case k6 => k_is); (case a7 => k_is); (case l7 => k_is); (case c7 => k_is); (case k7 => k_is); (case a8 => k_is); (case l8 => k_is); (case c8 => k_is); (case k8 => k_is); (case a9 => k_is); (case l9 => k_is); (case c9 => k_is); (case k9 => k_is); (case a10 => k_is); (case l10 => k_is); (case c10 => k_is); (case k10 => k_is); (case a11 => k_is); (case l11 => k_is); (case c11 => k_is); (case k11 => k_is); (case a12 => k_is); (case l12 => k_is); (case c12 => k_is); (case k12 => k_is); (case a13 => k_is); (case l13 => k_is); (case c13 => k_is); (case k13 => k_is); (case a14 => k_is); (case l14 => k_is); (case c14 => k_is); (case k14 => k_is); (case a15 => k_is); (case l15 => k_is); (case c15 => k_is); (case k15 => k_is); (case a16 => k_is); (case l16 => k_is); (case c16 => k_is); (case k16 => k_is); (case a17 => k_is); (case l17 => k_is); (case c17 => k_is); (case k17 => k_is); (case a18 => k_is); (case l18 => k_is); (case c18 => k_is); (case k18 => k_is); (case a19 => k_is); (case l19 => k_is); (case c19 => k_is); (case k19 => k_is); (case a20 => k_is); (case l20 => k_is); (case c20 => k_is); (case k20 => k_is); (case z_ValueError => k_is); (case z_all => k_is); (case z_bool => k_is); (case z_enumerate => k_is); (case z_int => k_is); (case z_isinstance => k_is); (case z_len => k_is); (case z_list => k_is); (case z_max => k_is); (case z_min => k_is); (case z_range => k_is); (case z_set => k_is); (case z_sorted => k_is); (case z_str => k_is); (case z_sum => k_is); (case z_tuple => k_is); (case z_zip => k_is); (case z_HIGHEST => k_is); (case z_LONGEST => k_is); (case z_MOST_KINDS => k_is); (case lc => k_is); (case q_InvalidSchedule => kernel_rfl); (case hP => rfl); (case nP => kernel_rfl); (case hq => kernel_rfl); (case q_cls => kernel_rfl)
