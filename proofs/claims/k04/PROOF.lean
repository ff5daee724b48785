import PyProof.Rows.All
import Wide.All
import OpenK.AllK
import Wide.FinOn
import HandS.ForMost
import HandS.ForExc
import HandS.IsInst
import HandS.Flow
import HandS.Evl
import HandS.Walk
import HandS.Zip
import HandS.Style
import HandS.NoneIn
import HandS.More
import HandS.CallSlots
import HandS.ExcInit
import HandS.ExcOwn
import HandS.ExcField
import HandS.TryMany
import HandS.ClsMeth
import HandS.Small
import KE.GoesMore
import KE.DataEq
import KE.DataCmp
import KE.SortData
import KE.DataMinMax
import KE.DataAny
import KE.DataFind
import HandS.TupAny
import HandS.Wide
import HandS.Codes
import PySem.Challenge.RW_gapcalls_k04_books_or_not
set_option Elab.async false
set_option linter.all false
set_option autoImplicit false
set_option maxRecDepth 100000
/-! A small functional reading of the program's language: pure data, mutable cells; each form of the language is tied to the hand layer's rule of it. -/
namespace MP
open PySem PySem.Spec PyProof.Rows L2

/-! ### values, cells, stores, results -/
inductive D where
  | p (x : PyData)
  | c (n : Nat)
inductive Cell where
  | lst (ds : List D)
  | tup (ds : List D)
  | dct (kvs : List (Key × D))
  | dtt (kvs : List (List Key × D))
  | ins (c : Str) (fs : List (Str × D))
  | dead
abbrev Store := List Cell
abbrev Env := List (Option D)
structure Exc where
  cls : Str
  fs : List (Str × D)
inductive R (α : Type) where
  | ok (a : α) (st : Store)
  | ex (e : Exc) (st : Store)
  | bad
def R.bind {α β : Type} (r : R α) (k : α → Store → R β) : R β :=
  match r with
  | .ok a st => k a st
  | .ex e st => .ex e st
  | .bad => .bad
@[simp] theorem R.bind_ok {α β : Type} (a : α) (st : Store) (k : α → Store → R β) : (R.ok a st).bind k = k a st := rfl
@[simp] theorem R.bind_ex {α β : Type} (e : Exc) (st : Store) (k : α → Store → R β) : (R.ex e st : R α).bind k = .ex e st := rfl
@[simp] theorem R.bind_bad {α β : Type} (k : α → Store → R β) : (R.bad : R α).bind k = .bad := rfl

abbrev MD := Env → Store → R D

/-! ### what represents what -/
mutual
/-- data as it lies in the heap; its tuples are tracked -/
inductive Dp (K : PySem.W.Frag) (H : Hp) : V → PyData → Prop
  | non : Dp K H .non .none
  | bl (b : Bool) : Dp K H (.bl b) (.bool b)
  | int (i : Int) : Dp K H (.int i) (.int i)
  | str (x : Str) : Dp K H (.str x) (.str x)
  | lst {a : Addr} {vs : List V} {ds : List PyData} (hs : SqL K H a vs) (ha : DpAll K H vs ds) : Dp K H (.ref a) (.list ds)
  | tup {a : Addr} {vs : List V} {ds : List PyData} (hs : H a = some (.tup vs)) (ha : DpAll K H vs ds) : Dp K H (.ref a) (.tuple ds)
inductive DpAll (K : PySem.W.Frag) (H : Hp) : List V → List PyData → Prop
  | nil : DpAll K H [] []
  | cons {v : V} {vs : List V} {d : PyData} {ds : List PyData} (h : Dp K H v d) (t : DpAll K H vs ds) : DpAll K H (v :: vs) (d :: ds)
end
mutual
theorem Dp.l2 {K : PySem.W.Frag} {H : Hp} : ∀ {d : PyData} {v : V}, Dp K H v d → L2.Dp K H v d
  | .none, _, h => by cases h; exact .non
  | .bool b, _, h => by cases h; exact .bl b
  | .int i, _, h => by cases h; exact .int i
  | .str x, _, h => by cases h; exact .str x
  | .list ds, _, h => by cases h with | lst hs ha => exact .lst hs (DpAll.l2 ha)
  | .tuple ds, _, h => by cases h with | tup hs ha => exact .tup (Evl.st_of hs) (DpAll.l2 ha)
  | .dict _, _, h => by cases h
theorem DpAll.l2 {K : PySem.W.Frag} {H : Hp} : ∀ {ds : List PyData} {vs : List V}, DpAll K H vs ds → L2.DpAll K H vs ds
  | [], _, h => by cases h; exact .nil
  | d :: ds, _, h => by cases h with | cons h1 h2 => exact .cons (Dp.l2 h1) (DpAll.l2 h2)
end
theorem Dp.reads {X : Cx} {pins : List (Addr × Obj)} {σ : L2.St} {H : Hp} {s : Shared} (I : Inv X pins σ H s) (d : PyData) (v : V) (u : Value) (h : Dp X.K H v d) (r : RelV v u) : ∃ as, Reads s.heap u d as := L2.Dp.reads I d v u h.l2 r
theorem Dp.readsAll {X : Cx} {pins : List (Addr × Obj)} {σ : L2.St} {H : Hp} {s : Shared} (I : Inv X pins σ H s) (ds : List PyData) (vs : List V) (us : List Value) (h : DpAll X.K H vs ds) (r : Vals vs us) : ∃ as, ReadsAll s.heap us ds as := L2.Dp.readsAll I ds vs us h.l2 r
section
variable (K : PySem.W.Frag)
def RD (F : Hp) (φ : List Addr) : V → D → Prop
  | v, .p x => Dp K F v x
  | v, .c n => ∃ a, φ[n]? = some a ∧ v = .ref a
abbrev RDs (F : Hp) (φ : List Addr) : List V → List D → Prop := Paired (RD K F φ)
/-- the pairs of a dict -/
abbrev RKs (F : Hp) (φ : List Addr) : List (Key × V) → List (Key × D) → Prop := Paired fun a b => a.1 = b.1 ∧ RD K F φ a.2 b.2
/-- named things, by pairs: keys that are tuples, attributes -/
abbrev RNs {α : Type} (F : Hp) (φ : List Addr) : List (α × V) → List (α × D) → Prop := Paired fun a b => a.1 = b.1 ∧ RD K F φ a.2 b.2
/-- where a class of the program stands -/
def clsAt (c : Str) (C : Addr) : Prop := PySem.W.nsIn K mainGlobals c = some (some (.ref C))
/-- what a cell is in the heap -/
inductive CR (F : Hp) (φ : List Addr) : Cell → HO → Prop
  | lst {ds : List D} {vs : List V} (r : RDs K F φ vs ds) : CR F φ (.lst ds) (.lst vs)
  | tup {ds : List D} {vs : List V} (r : RDs K F φ vs ds) : CR F φ (.tup ds) (.tup vs)
  | dct {kvs : List (Key × D)} {ws : List (Key × V)} (r : RKs K F φ ws kvs) : CR F φ (.dct kvs) (.dK ws)
  | dtt {kvs : List (List Key × D)} {ws : List (List Key × V)} (r : RNs K F φ ws kvs) : CR F φ (.dtt kvs) (.dT ws)
  | ins {c : Str} {C dx : Addr} {fs : List (Str × D)} {ws : List (Str × V)} (hc : clsAt K c C) (r : RNs K F φ ws fs) : CR F φ (.ins c fs) (.ins C dx ws)
structure SR (F : Hp) (φ : List Addr) (st : Store) (H : Hp) : Prop where
  sub : Evl.Ex F H
  len : φ.length = st.length
  nd : φ.Nodup
  live : ∀ (n : Nat) (c : Cell), st[n]? = some c → c ≠ .dead → ∃ a o, φ[n]? = some a ∧ F a = none ∧ H a = some o ∧ CR K F φ c o
  dead : ∀ (n : Nat), st[n]? = some Cell.dead → ∃ a, φ[n]? = some a ∧ F a ≠ none
structure ER (F : Hp) (φ : List Addr) (env : Env) (σ : L2.St) : Prop where
  len : env.length = σ.length
  val : ∀ (i : Nat) (d : D), env[i]? = some (some d) → ∃ v : V, σ[i]? = some (some v) ∧ RD K F φ v d
end
structure Ext (F : Hp) (φ : List Addr) (F' : Hp) (φ' : List Addr) : Prop where
  sub : Evl.Ex F F'
  pre : φ <+: φ'

section
variable {K : PySem.W.Frag} {F F1 F2 F' H H' : Hp} {φ φ1 φ2 φ' : List Addr} {st st1 st' : Store} {env : Env} {σ : L2.St}
theorem Ext.refl : Ext F φ F φ := ⟨Evl.Ex.refl F, List.prefix_refl φ⟩
theorem Ext.trans (a : Ext F φ F1 φ1) (b : Ext F1 φ1 F2 φ2) : Ext F φ F2 φ2 := ⟨a.sub.trans b.sub, a.pre.trans b.pre⟩
theorem Ext.at (a : Ext F φ F1 φ1) {n : Nat} {x : Addr} (h : φ[n]? = some x) : φ1[n]? = some x := by
  obtain ⟨t, rfl⟩ := a.pre
  rw [List.getElem?_append_left (List.getElem?_eq_some_iff.mp h).1]
  exact h
mutual
theorem dp_mono (e : Evl.Ex F F1) : ∀ {d : PyData} {v : V}, Dp K F v d → Dp K F1 v d
  | .none, _, h => by cases h; exact .non
  | .bool b, _, h => by cases h; exact .bl b
  | .int i, _, h => by cases h; exact .int i
  | .str x, _, h => by cases h; exact .str x
  | .list ds, _, h => by cases h with | lst hs ha => exact .lst (Evl.ex_l e hs) (dpAll_mono e ha)
  | .tuple ds, _, h => by cases h with | tup hs ha => exact .tup (e _ _ hs) (dpAll_mono e ha)
  | .dict _, _, h => by cases h
theorem dpAll_mono (e : Evl.Ex F F1) : ∀ {ds : List PyData} {vs : List V}, DpAll K F vs ds → DpAll K F1 vs ds
  | [], _, h => by cases h; exact .nil
  | d :: ds, _, h => by cases h with | cons h1 h2 => exact .cons (dp_mono e h1) (dpAll_mono e h2)
end
theorem RD.mono (e : Ext F φ F1 φ1) : ∀ {d : D} {v : V}, RD K F φ v d → RD K F1 φ1 v d
  | .p x, _, h => dp_mono e.sub h
  | .c n, _, ⟨a, h1, h2⟩ => ⟨a, e.at h1, h2⟩
theorem RDs.mono (e : Ext F φ F1 φ1) : ∀ {vs : List V} {ds : List D}, RDs K F φ vs ds → RDs K F1 φ1 vs ds
  | _, _, .nil => .nil
  | _, _, .cons h t => .cons (h.mono e) (RDs.mono e t)
theorem ER.mono (e : Ext F φ F1 φ1) (h : ER K F φ env σ) : ER K F1 φ1 env σ := ⟨h.len, fun i d hi => let ⟨v, h1, h2⟩ := h.val i d hi; ⟨v, h1, h2.mono e⟩⟩
theorem nodup_at {α : Type} {N : List α} (hN : N.Nodup) {i j : Nat} {x : α} (a : N[i]? = some x) (b : N[j]? = some x) : i = j := by
  obtain ⟨h1, e1⟩ := List.getElem?_eq_some_iff.mp a
  obtain ⟨h2, e2⟩ := List.getElem?_eq_some_iff.mp b
  exact (List.getElem_inj hN).mp (e1.trans e2.symm)
theorem RKs.mono (e : Ext F φ F1 φ1) : ∀ {ws : List (Key × V)} {kvs : List (Key × D)}, RKs K F φ ws kvs → RKs K F1 φ1 ws kvs
  | _, _, .nil => .nil
  | _, _, .cons h t => .cons ⟨h.1, h.2.mono e⟩ (RKs.mono e t)
theorem RNs.mono {α : Type} (e : Ext F φ F1 φ1) : ∀ {ws : List (α × V)} {kvs : List (α × D)}, RNs K F φ ws kvs → RNs K F1 φ1 ws kvs
  | _, _, .nil => .nil
  | _, _, .cons h t => .cons ⟨h.1, h.2.mono e⟩ (RNs.mono e t)
theorem CR.mono (e : Ext F φ F1 φ1) {c : Cell} {o : HO} (h : CR K F φ c o) : CR K F1 φ1 c o := by
  cases h with
  | lst r => exact .lst (RDs.mono e r)
  | tup r => exact .tup (RDs.mono e r)
  | dct r => exact .dct (RKs.mono e r)
  | dtt r => exact .dtt (RNs.mono e r)
  | ins hc r => exact .ins hc (RNs.mono e r)
theorem SR.cell (h : SR K F φ st H) (n : Nat) (ds : List D) (e : st[n]? = some (Cell.lst ds)) : ∃ a vs, φ[n]? = some a ∧ F a = none ∧ H a = some (.lst vs) ∧ RDs K F φ vs ds := by
  obtain ⟨a, o, h1, h2, h3, h4⟩ := h.live n _ e (fun z => nomatch z)
  cases h4 with
  | lst r => exact ⟨a, _, h1, h2, h3, r⟩
theorem SR.dcell (h : SR K F φ st H) (n : Nat) (kvs : List (Key × D)) (e : st[n]? = some (Cell.dct kvs)) : ∃ a ws, φ[n]? = some a ∧ F a = none ∧ H a = some (.dK ws) ∧ RKs K F φ ws kvs := by
  obtain ⟨a, o, h1, h2, h3, h4⟩ := h.live n _ e (fun z => nomatch z)
  cases h4 with
  | dct r => exact ⟨a, _, h1, h2, h3, r⟩
theorem SR.tcell (h : SR K F φ st H) (n : Nat) (ds : List D) (e : st[n]? = some (Cell.tup ds)) : ∃ a vs, φ[n]? = some a ∧ F a = none ∧ H a = some (.tup vs) ∧ RDs K F φ vs ds := by
  obtain ⟨a, o, h1, h2, h3, h4⟩ := h.live n _ e (fun z => nomatch z)
  cases h4 with
  | tup r => exact ⟨a, _, h1, h2, h3, r⟩
theorem SR.ttcell (h : SR K F φ st H) (n : Nat) (kvs : List (List Key × D)) (e : st[n]? = some (Cell.dtt kvs)) : ∃ a ws, φ[n]? = some a ∧ F a = none ∧ H a = some (.dT ws) ∧ RNs K F φ ws kvs := by
  obtain ⟨a, o, h1, h2, h3, h4⟩ := h.live n _ e (fun z => nomatch z)
  cases h4 with
  | dtt r => exact ⟨a, _, h1, h2, h3, r⟩
theorem SR.icell (h : SR K F φ st H) (n : Nat) (c : Str) (fs : List (Str × D)) (e : st[n]? = some (Cell.ins c fs)) : ∃ a C dx ws, φ[n]? = some a ∧ F a = none ∧ H a = some (.ins C dx ws) ∧ clsAt K c C ∧ RNs K F φ ws fs := by
  obtain ⟨a, o, h1, h2, h3, h4⟩ := h.live n _ e (fun z => nomatch z)
  cases h4 with
  | ins hc r => exact ⟨a, _, _, _, h1, h2, h3, hc, r⟩
theorem SR.dom (h : SR K F φ st H) {a : Addr} (ha : a ∈ φ) : H a ≠ none := by
  obtain ⟨n, hn, e⟩ := List.getElem_of_mem ha
  have hn' : n < st.length := by rw [← h.len]; exact hn
  by_cases hc : st[n] = .dead
  · obtain ⟨b, e1, e2⟩ := h.dead n (by rw [List.getElem?_eq_getElem hn', hc])
    rw [List.getElem?_eq_getElem hn] at e1
    cases Option.some.inj e1
    cases hF : F φ[n] with
    | none => exact absurd hF e2
    | some o =>
      rw [← e, h.sub _ _ hF]
      simp
  · obtain ⟨b, o, e1, _, e2, _⟩ := h.live n _ (List.getElem?_eq_getElem hn') hc
    rw [List.getElem?_eq_getElem hn] at e1
    cases Option.some.inj e1
    rw [← e, e2]
    simp
/-- a new object laid beside: frozen -/
theorem SR.frz (h : SR K F φ st H) {p : Addr} {o : HO} (hp : H p = none) : SR K (upd F p o) φ st (upd H p o) ∧ Ext F φ (upd F p o) φ := by
  have fp : F p = none := Evl.fresh_back h.sub hp
  have e1 : Evl.Ex F (upd F p o) := Evl.Ex.new fp
  have E : Ext F φ (upd F p o) φ := ⟨e1, List.prefix_refl φ⟩
  have np : ∀ a ∈ φ, a ≠ p := fun a ha z => by subst z; exact h.dom ha hp
  refine ⟨⟨fun a u e => ?_, h.len, h.nd, fun n ds e hd => ?_, fun n e => ?_⟩, E⟩
  · by_cases ha : a = p
    · subst ha; rw [upd_same] at e ⊢; exact e
    · rw [upd_ne ha] at e ⊢; exact h.sub a u e
  · obtain ⟨a, vs, h1, h2, h3, h4⟩ := h.live n ds e hd
    have ne := np a (List.mem_of_getElem? h1)
    exact ⟨a, vs, h1, by rw [upd_ne ne]; exact h2, by rw [upd_ne ne]; exact h3, h4.mono E⟩
  · obtain ⟨a, h1, h2⟩ := h.dead n e
    have ne := np a (List.mem_of_getElem? h1)
    exact ⟨a, h1, by rw [upd_ne ne]; exact h2⟩
/-- a new object laid beside, not tracked by the frozen part (garbage, an iterator's tuple ..) -/
theorem SR.junk (h : SR K F φ st H) {p : Addr} {o : HO} (hp : H p = none) : SR K F φ st (upd H p o) := by
  have np : ∀ a ∈ φ, a ≠ p := fun a ha z => by subst z; exact h.dom ha hp
  refine ⟨fun a u e => ?_, h.len, h.nd, fun n ds e hd => ?_, h.dead⟩
  · rw [upd_ne (ne_of_none (h.sub a u e) hp)]; exact h.sub a u e
  · obtain ⟨a, vs, h1, h2, h3, h4⟩ := h.live n ds e hd
    exact ⟨a, vs, h1, h2, by rw [upd_ne (np a (List.mem_of_getElem? h1))]; exact h3, h4⟩
/-- .. or written, where nothing is tracked -/
theorem SR.over (h : SR K F φ st H) {p : Addr} {o : HO} (hp : F p = none) (hn : p ∉ φ) : SR K F φ st (upd H p o) := by
  have np : ∀ a ∈ φ, a ≠ p := fun a ha z => by subst z; exact hn ha
  refine ⟨fun a u e => ?_, h.len, h.nd, fun n ds e hd => ?_, h.dead⟩
  · rw [upd_ne (ne_of_none e hp)]; exact h.sub a u e
  · obtain ⟨a, vs, h1, h2, h3, h4⟩ := h.live n ds e hd
    exact ⟨a, vs, h1, h2, by rw [upd_ne (np a (List.mem_of_getElem? h1))]; exact h3, h4⟩
theorem SR.congr (h : SR K F φ st H) (hF : ∀ a u, F a = some u → H' a = some u) (hφ : ∀ a ∈ φ, F a = none → H' a = H a) : SR K F φ st H' := by
  refine ⟨hF, h.len, h.nd, fun n ds e hd => ?_, h.dead⟩
  obtain ⟨a, vs, h1, h2, h3, h4⟩ := h.live n ds e hd
  exact ⟨a, vs, h1, h2, by rw [hφ a (List.mem_of_getElem? h1) h2]; exact h3, h4⟩
/-- .. a new cell -/
theorem SR.newC (h : SR K F φ st H) {p : Addr} {c : Cell} {o : HO} (hp : H p = none) (r : CR K F φ c o) (hd : c ≠ .dead) :
    SR K F (φ ++ [p]) (st ++ [c]) (upd H p o) ∧ Ext F φ F (φ ++ [p]) ∧ (φ ++ [p])[st.length]? = some p := by
  have fp : F p = none := Evl.fresh_back h.sub hp
  have E : Ext F φ F (φ ++ [p]) := ⟨Evl.Ex.refl F, List.prefix_append φ [p]⟩
  have np : ∀ a ∈ φ, a ≠ p := fun a ha z => by subst z; exact h.dom ha hp
  have hat : (φ ++ [p])[st.length]? = some p := by rw [← h.len, List.getElem?_concat_length]
  refine ⟨⟨fun a u e => ?_, by simp [h.len], ?_, fun n ds' e hd' => ?_, fun n e => ?_⟩, E, hat⟩
  · rw [upd_ne (ne_of_none (h.sub a u e) hp)]; exact h.sub a u e
  · rw [List.nodup_append]
    exact ⟨h.nd, by simp, fun a ha b hb => by simp at hb; subst hb; exact np a ha⟩
  · by_cases hn : n < st.length
    · rw [List.getElem?_append_left hn] at e
      obtain ⟨a, ws, h1, h2, h3, h4⟩ := h.live n ds' e hd'
      exact ⟨a, ws, E.at h1, h2, by rw [upd_ne (np a (List.mem_of_getElem? h1))]; exact h3, h4.mono E⟩
    · have hn' : n = st.length := by
        have := (List.getElem?_eq_some_iff.mp e).1
        simp at this; omega
      subst hn'
      rw [List.getElem?_concat_length] at e
      cases Option.some.inj e
      exact ⟨p, o, hat, fp, upd_same, r.mono E⟩
  · by_cases hn : n < st.length
    · rw [List.getElem?_append_left hn] at e
      obtain ⟨a, h1, h2⟩ := h.dead n e
      exact ⟨a, E.at h1, h2⟩
    · have hn' : n = st.length := by
        have := (List.getElem?_eq_some_iff.mp e).1
        simp at this; omega
      subst hn'
      rw [List.getElem?_concat_length] at e
      exact absurd (Option.some.inj e) hd
theorem SR.newCell (h : SR K F φ st H) {p : Addr} {vs : List V} {ds : List D} (hp : H p = none) (r : RDs K F φ vs ds) :
    SR K F (φ ++ [p]) (st ++ [.lst ds]) (upd H p (.lst vs)) ∧ Ext F φ F (φ ++ [p]) ∧ (φ ++ [p])[st.length]? = some p := h.newC hp (.lst r) (fun z => nomatch z)
/-- a cell written -/
theorem SR.writeC (h : SR K F φ st H) {n : Nat} {c0 c : Cell} {o : HO} {a : Addr} (hn : st[n]? = some c0) (h0 : c0 ≠ .dead) (ha : φ[n]? = some a) (r : CR K F φ c o) (hd : c ≠ .dead) :
    SR K F φ (st.set n c) (upd H a o) := by
  obtain ⟨a', vs0, e1, e2, e3, _⟩ := h.live n c0 hn h0
  rw [ha] at e1
  cases Option.some.inj e1
  have hl : n < st.length := (List.getElem?_eq_some_iff.mp hn).1
  have other : ∀ m b, m ≠ n → φ[m]? = some b → b ≠ a := fun m b hm hb z => by
    subst z
    exact hm (nodup_at h.nd hb ha)
  refine ⟨fun b u e => ?_, by rw [List.length_set]; exact h.len, h.nd, fun m ds' e hd' => ?_, fun m e => ?_⟩
  · have : b ≠ a := fun z => by subst z; rw [e2] at e; cases e
    rw [upd_ne this]; exact h.sub b u e
  · by_cases hm : m = n
    · subst hm
      rw [List.getElem?_set_self hl] at e
      cases Option.some.inj e
      exact ⟨a, o, ha, e2, upd_same, r⟩
    · rw [List.getElem?_set_ne (Ne.symm hm)] at e
      obtain ⟨b, ws, h1, h2, h3, h4⟩ := h.live m ds' e hd'
      exact ⟨b, ws, h1, h2, by rw [upd_ne (other m b hm h1)]; exact h3, h4⟩
  · by_cases hm : m = n
    · subst hm
      rw [List.getElem?_set_self hl] at e
      exact absurd (Option.some.inj e) hd
    · rw [List.getElem?_set_ne (Ne.symm hm)] at e
      exact h.dead m e
theorem SR.write (h : SR K F φ st H) {n : Nat} {ds0 ds : List D} {a : Addr} {vs : List V} (hn : st[n]? = some (.lst ds0)) (ha : φ[n]? = some a) (r : RDs K F φ vs ds) :
    SR K F φ (st.set n (.lst ds)) (upd H a (.lst vs)) := h.writeC hn (fun z => nomatch z) ha (.lst r) (fun z => nomatch z)
end

/-! ### pure reading of a value -/
def D.pure? : D → Option PyData
  | .p x => some x
  | .c _ => none
def pures : List D → Option (List PyData)
  | [] => some []
  | .p x :: r => (pures r).map (x :: ·)
  | .c _ :: _ => none
@[simp] theorem pures_nil : pures [] = some [] := rfl
@[simp] theorem pures_p (x : PyData) (r : List D) : pures (.p x :: r) = (pures r).map (x :: ·) := rfl
@[simp] theorem pures_map (xs : List PyData) : pures (xs.map D.p) = some xs := by
  induction xs with
  | nil => rfl
  | cons x r ih => simp [ih]
theorem pures_some : ∀ {ds : List D} {xs : List PyData}, pures ds = some xs → ds = xs.map D.p
  | [], _, h => by cases h; rfl
  | .p x :: r, xs, h => by
    simp only [pures_p, Option.map_eq_some_iff] at h
    obtain ⟨ys, h1, rfl⟩ := h
    rw [pures_some h1]; rfl
  | .c _ :: _, _, h => by cases h
/-- the items of a cell -/
def cellL (st : Store) (n : Nat) : Option (List D) :=
  match st[n]? with
  | some (.lst ds) => some ds
  | _ => none
theorem cellL_some {st : Store} {n : Nat} {ds : List D} (h : cellL st n = some ds) : st[n]? = some (Cell.lst ds) := by
  unfold cellL at h
  split at h
  · rename_i es e
    cases Option.some.inj h
    exact e
  · cases h
/-- a value as data, through its cell -/
def toP : D → Store → Option PyData
  | .p x, _ => some x
  | .c n, st => (cellL st n).bind fun ds => (pures ds).map .list
@[simp] theorem toP_p (x : PyData) (st : Store) : toP (.p x) st = some x := rfl
theorem RDs.dpAll {K : PySem.W.Frag} {F : Hp} {φ : List Addr} : ∀ {vs : List V} {xs : List PyData}, RDs K F φ vs (xs.map D.p) → DpAll K F vs xs
  | _, [], h => by cases h; exact .nil
  | _, x :: xs, h => by cases h with | cons a t => exact .cons a (RDs.dpAll t)
theorem dpAll_rds {K : PySem.W.Frag} {F : Hp} {φ : List Addr} : ∀ {vs : List V} {xs : List PyData}, DpAll K F vs xs → RDs K F φ vs (xs.map D.p)
  | _, [], h => by cases h; exact .nil
  | _, x :: xs, h => by cases h with | cons a t => exact .cons a (dpAll_rds t)
theorem toP_ok {K : PySem.W.Frag} {F H : Hp} {φ : List Addr} {st : Store} {d : D} {v : V} {x : PyData} (S : SR K F φ st H) (r : RD K F φ v d) (h : toP d st = some x) : Dp K H v x := by
  cases d with
  | p y => cases Option.some.inj h; exact dp_mono S.sub r
  | c n =>
    obtain ⟨a, h1, rfl⟩ := r
    obtain ⟨ds, hc, h⟩ := Option.bind_eq_some_iff.mp h
    obtain ⟨xs, h2, rfl⟩ := Option.map_eq_some_iff.mp h
    obtain ⟨b, vs, e1, _, e2, e3⟩ := S.cell n ds (cellL_some hc)
    rw [h1] at e1
    cases Option.some.inj e1
    rw [pures_some h2] at e3
    exact .lst (Evl.sq_of e2) (dpAll_mono S.sub e3.dpAll)
/-- a list that is read: its items -/
def items : D → Store → Option (List D)
  | .p (.list xs), _ => some (xs.map .p)
  | .c n, st => cellL st n
  | _, _ => none
theorem items_ok {K : PySem.W.Frag} {F H : Hp} {φ : List Addr} {st : Store} {d : D} {v : V} {ds : List D} (S : SR K F φ st H) (r : RD K F φ v d) (h : items d st = some ds) :
    ∃ a vs, v = .ref a ∧ SqL K H a vs ∧ RDs K F φ vs ds := by
  cases d with
  | p y =>
    cases y with
    | list xs =>
      cases Option.some.inj h
      cases r with
      | lst hs ha => exact ⟨_, _, rfl, Evl.ex_l S.sub hs, dpAll_rds ha⟩
    | _ => cases h
  | c n =>
    obtain ⟨a, h1, rfl⟩ := r
    obtain ⟨b, vs, e1, _, e2, e3⟩ := S.cell n ds (cellL_some h)
    rw [h1] at e1
    cases Option.some.inj e1
    exact ⟨a, vs, rfl, Evl.sq_of e2, e3⟩
/-- a tuple that is read: its items -/
def tups : D → Store → Option (List D)
  | .p (.tuple xs), _ => some (xs.map .p)
  | .c n, st => match st[n]? with
    | some (.tup ds) => some ds
    | _ => none
  | _, _ => none
theorem tups_ok {K : PySem.W.Frag} {F H : Hp} {φ : List Addr} {st : Store} {d : D} {v : V} {ds : List D} (S : SR K F φ st H) (r : RD K F φ v d) (h : tups d st = some ds) :
    ∃ a vs, v = .ref a ∧ SqT K H a vs ∧ RDs K F φ vs ds := by
  cases d with
  | p y =>
    cases y with
    | tuple xs =>
      cases Option.some.inj h
      cases r with
      | tup hs ha => exact ⟨_, _, rfl, Evl.st_of (S.sub _ _ hs), dpAll_rds ha⟩
    | _ => cases h
  | c n =>
    obtain ⟨a, h1, rfl⟩ := r
    unfold tups at h
    simp only at h
    split at h
    · rename_i es e
      cases Option.some.inj h
      obtain ⟨b, vs, e1, _, e2, e3⟩ := S.tcell n ds e
      rw [h1] at e1
      cases Option.some.inj e1
      exact ⟨a, vs, rfl, Evl.st_of e2, e3⟩
    · cases h
theorem tup_ok {K : PySem.W.Frag} {F H : Hp} {φ : List Addr} {st : Store} {v : V} {xs : List PyData} (S : SR K F φ st H) (r : RD K F φ v (.p (.tuple xs))) :
    ∃ a vs, v = .ref a ∧ SqT K H a vs ∧ F a = some (.tup vs) ∧ RDs K F φ vs (xs.map .p) := by
  cases r with
  | tup hs ha => exact ⟨_, _, rfl, Evl.st_of (S.sub _ _ hs), hs, dpAll_rds ha⟩

/-- an exception that is raised: its class, its fields -/
def XRel (K : PySem.W.Frag) (F : Hp) (φ : List Addr) (e : Exc) (cls : Value) (oa : Option Addr) (H : Hp) : Prop :=
  ∃ C, clsAt K e.cls C ∧ cls = .ref C ∧ (e.fs = [] ∨ ∃ d ws, oa = some d ∧ H d = some (.xd ws) ∧ ∀ f x, e.fs.lookup f = some x → ∃ v, ws.lookup f = some v ∧ RD K F φ v x)
/-! ### the readings -/
abbrev XRT := Hp → List Addr → Exc → Value → Option Addr → Hp → Prop
abbrev EK := L2.St → XK
section
variable (K : PySem.W.Frag) (XR : XRT) (E : XK)
def Sat {α : Type} (Rel : Hp → List Addr → Hp → α → Prop) (F : Hp) (φ : List Addr) (r : R α) : Prop :=
  match r with
  | .ok a st' => ∀ F' φ' H', Ext F φ F' φ' → SR K F' φ' st' H' → Rel F' φ' H' a
  | .ex e st' => ∀ F' φ' H' cls oa, Ext F φ F' φ' → SR K F' φ' st' H' → XR F' φ' e cls oa H' → E cls oa H'
  | .bad => False
def QE (Q : VK) : Hp → List Addr → Hp → D → Prop := fun F' φ' H' d => ∀ v, RD K F' φ' v d → Q v H'
def QA (Q : List V → Hp → Prop) : Hp → List Addr → Hp → List D → Prop := fun F' φ' H' ds => ∀ vs, RDs K F' φ' vs ds → Q vs H'
def QT (Q : Bool → Hp → Prop) : Hp → List Addr → Hp → Bool → Prop := fun _ _ H' b => Q b H'
/-- a statement's end -/
inductive Fl where
  | nx (env : Env)
  | rt (d : D)
  | bk (env : Env)
  | ct (env : Env)
def QS (De : Ends) : Hp → List Addr → Hp → Fl → Prop := fun F' φ' H' f => match f with
  | .nx env => ∀ σ', ER K F' φ' env σ' → De.nx σ' H'
  | .rt d => ∀ v, RD K F' φ' v d → De.rt v H'
  | .bk env => ∀ σ', ER K F' φ' env σ' → De.bk σ' H'
  | .ct env => ∀ σ', ER K F' φ' env σ' → De.ct σ' H'
end
section
variable (K : PySem.W.Frag) (XR : XRT) (E : EK)
def rE (m : Env → Store → R D) : TE := fun σ H Q => ∃ env st F φ, SR K F φ st H ∧ ER K F φ env σ ∧ Sat K XR (E σ) (QE K Q) F φ (m env st)
def rA (m : Env → Store → R (List D)) : TA := fun σ H Q => ∃ env st F φ, SR K F φ st H ∧ ER K F φ env σ ∧ Sat K XR (E σ) (QA K Q) F φ (m env st)
def rT (m : Env → Store → R Bool) : TT := fun σ H Q => ∃ env st F φ, SR K F φ st H ∧ ER K F φ env σ ∧ Sat K XR (E σ) (QT Q) F φ (m env st)
def rS (m : Env → Store → R Fl) : TS := fun De σ H => ∃ env st F φ, SR K F φ st H ∧ ER K F φ env σ ∧ Sat K XR (E σ) (QS K De) F φ (m env st)
end
section
variable (K : PySem.W.Frag) (XR : XRT)
/-- operations on values -/
def rO (op : D → D → Store → R D) : R2 := fun x y H Q => ∃ E a b st F φ, SR K F φ st H ∧ RD K F φ x a ∧ RD K F φ y b ∧ Sat K XR E (QE K Q) F φ (op a b st)
def rU (op : D → Store → R D) : V → Hp → VK → Prop := fun x H Q => ∃ E a st F φ, SR K F φ st H ∧ RD K F φ x a ∧ Sat K XR E (QE K Q) F φ (op a st)
def rC (op : List D → Store → R D) : List V → Hp → VK → Prop := fun xs H Q => ∃ E ds st F φ, SR K F φ st H ∧ RDs K F φ xs ds ∧ Sat K XR E (QE K Q) F φ (op ds st)
end
section
variable {K : PySem.W.Frag} {XR : XRT} {E : XK} {F H : Hp} {φ : List Addr}
theorem Sat.ok {α : Type} {Rel : Hp → List Addr → Hp → α → Prop} {a : α} {st : Store} (h : Sat K XR E Rel F φ (.ok a st)) (S : SR K F φ st H) : Rel F φ H a := h F φ H Ext.refl S
theorem Sat.ext {α : Type} {Rel : Hp → List Addr → Hp → α → Prop} {F1 : Hp} {φ1 : List Addr} {r : R α} (e : Ext F φ F1 φ1) (h : Sat K XR E Rel F φ r) : Sat K XR E Rel F1 φ1 r := by
  cases r with
  | ok a st => exact fun F' φ' H' x S => h F' φ' H' (e.trans x) S
  | ex c st => exact fun F' φ' H' cls oa x S y => h F' φ' H' cls oa (e.trans x) S y
  | bad => exact h
/-- what is bound behind -/
theorem Sat.bind {α β : Type} {Rel : Hp → List Addr → Hp → β → Prop} {Rel' : Hp → List Addr → Hp → α → Prop} {r : R α} {k : α → Store → R β} (h : Sat K XR E Rel F φ (r.bind k))
    (f : ∀ a st F1 φ1 H1, Ext F φ F1 φ1 → SR K F1 φ1 st H1 → Sat K XR E Rel F1 φ1 (k a st) → Rel' F1 φ1 H1 a) : Sat K XR E Rel' F φ r := by
  cases r with
  | ok a st => exact fun F' φ' H' x S => f a st F' φ' H' x S (h.ext x)
  | ex c st => exact h
  | bad => exact h
end
theorem PE.imp {X : Cx} {e : Expr} {t t' : TE} (h : PE X e t) (i : ∀ σ H Q, t' σ H Q → t σ H Q) : PE X e t' := ⟨fun pins s σ H Q I hw => h.run pins s σ H Q I (i σ H Q hw)⟩
theorem PT.imp {X : Cx} {e : Expr} {t t' : TT} (h : PT X e t) (i : ∀ σ H Q, t' σ H Q → t σ H Q) : PT X e t' := ⟨fun pins s σ H Q I hw => h.run pins s σ H Q I (i σ H Q hw)⟩
theorem PW.imp {X : Cx} {e : Expr} {t t' : TT} (h : PW X e t) (i : ∀ σ H Q, t' σ H Q → t σ H Q) : PW X e t' := ⟨fun wh pins s σ H Q I hw => h.run wh pins s σ H Q I (i σ H Q hw)⟩
theorem PA.imp {X : Cx} {es : List Expr} {t t' : TA} (h : PA X es t) (i : ∀ σ H Q, t' σ H Q → t σ H Q) : PA X es t' := ⟨fun pos pins s σ H Q I hw => h.run pos pins s σ H Q I (i σ H Q hw)⟩
theorem PS.imp {X : Cx} {e : Stmt} {t t' : TS} (h : PS X e t) (i : ∀ De σ H, t' De σ H → t De σ H) : PS X e t' := ⟨fun pins s σ H De I hw => h.run pins s σ H De I (i De σ H hw)⟩
theorem PSs.imp {X : Cx} {e : List Stmt} {t t' : TS} (h : PSs X e t) (i : ∀ De σ H, t' De σ H → t De σ H) : PSs X e t' := ⟨fun pins s σ H De I hw => h.run pins s σ H De I (i De σ H hw)⟩
end MP

set_option Elab.async false
set_option linter.all false
set_option autoImplicit false
set_option maxRecDepth 100000
set_option maxHeartbeats 1000000
/-! operations on values -/
namespace MP
open PySem PySem.Spec PyProof.Rows L2

/-- the size below which every text, list and tuple of ours stays -/
def SZ : Nat := 100000
theorem sz_ok {n : Nat} (h : n ≤ SZ) : n ≤ sizeLine := Nat.le_trans h (by decide)

section
variable {K : PySem.W.Frag} {F : Hp} {φ : List Addr}
theorem rd_int {i : Int} : RD K F φ (.int i) (.p (.int i)) := Dp.int i
theorem rd_str {i : Str} : RD K F φ (.str i) (.p (.str i)) := Dp.str i
theorem rd_bl {i : Bool} : RD K F φ (.bl i) (.p (.bool i)) := Dp.bl i
theorem rd_non : RD K F φ .non (.p .none) := Dp.non
end
section
variable {K : PySem.W.Frag} {XR : XRT} {E : XK} {F H : Hp} {φ : List Addr} {st : Store} {Q : VK}
theorem sat_val {v : V} {d : D} (S : SR K F φ st H) (r : RD K F φ v d) (h : Sat K XR E (QE K Q) F φ (.ok d st)) : Q v H := h F φ H Ext.refl S v r
theorem sat_newL {p : Addr} {vs : List V} {xs : List PyData} (S : SR K F φ st H) (hp : H p = none) (r : DpAll K F vs xs) (h : Sat K XR E (QE K Q) F φ (.ok (.p (.list xs)) st)) : Q (.ref p) (upd H p (.lst vs)) := by
  obtain ⟨S', e⟩ := S.frz (o := .lst vs) hp
  exact h _ _ _ e S' _ (.lst (Evl.sq_of upd_same) (dpAll_mono e.sub r))
theorem sat_newT {p : Addr} {vs : List V} {xs : List PyData} (S : SR K F φ st H) (hp : H p = none) (r : DpAll K F vs xs) (h : Sat K XR E (QE K Q) F φ (.ok (.p (.tuple xs)) st)) : Q (.ref p) (upd H p (.tup vs)) := by
  obtain ⟨S', e⟩ := S.frz (o := .tup vs) hp
  exact h _ _ _ e S' _ (.tup upd_same (dpAll_mono e.sub r))
theorem sat_newC {p : Addr} {vs : List V} {ds : List D} (S : SR K F φ st H) (hp : H p = none) (r : RDs K F φ vs ds) (h : Sat K XR E (QE K Q) F φ (.ok (.c st.length) (st ++ [.lst ds]))) : Q (.ref p) (upd H p (.lst vs)) := by
  obtain ⟨S', e, ha⟩ := S.newCell hp r
  exact h _ _ _ e S' _ ⟨p, ha, rfl⟩
end
/-- a list made: frozen data, or a cell -/
def mkL (c : Bool) (ds : List D) (st : Store) : R D :=
  match c with
  | true => .ok (.c st.length) (st ++ [.lst ds])
  | false => match pures ds with
    | some xs => .ok (.p (.list xs)) st
    | none => .ok (.c st.length) (st ++ [.lst ds])
/-- a tuple made -/
def mkT (ds : List D) (st : Store) : R D :=
  match pures ds with
  | some xs => .ok (.p (.tuple xs)) st
  | none => .ok (.c st.length) (st ++ [.tup ds])
@[simp] theorem mkL_true (ds : List D) (st : Store) : mkL true ds st = .ok (.c st.length) (st ++ [.lst ds]) := rfl
@[simp] theorem mkL_p (xs : List PyData) (st : Store) : mkL false (xs.map .p) st = .ok (.p (.list xs)) st := by
  unfold mkL; rw [pures_map]
section
variable {K : PySem.W.Frag} {XR : XRT} {E : XK} {F H : Hp} {φ : List Addr} {st : Store} {Q : VK}
theorem sat_mkL {c : Bool} {p : Addr} {vs : List V} {ds : List D} (S : SR K F φ st H) (hp : H p = none) (r : RDs K F φ vs ds) (h : Sat K XR E (QE K Q) F φ (mkL c ds st)) : Q (.ref p) (upd H p (.lst vs)) := by
  cases c with
  | true => exact sat_newC S hp r h
  | false =>
    unfold mkL at h
    cases e : pures ds with
    | none => rw [e] at h; exact sat_newC S hp r h
    | some xs =>
      rw [e] at h
      rw [pures_some e] at r
      exact sat_newL S hp r.dpAll h
theorem sat_cell {p : Addr} {o : HO} {c : Cell} (S : SR K F φ st H) (hp : H p = none) (r : CR K F φ c o) (hd : c ≠ .dead) (h : Sat K XR E (QE K Q) F φ (.ok (.c st.length) (st ++ [c]))) : Q (.ref p) (upd H p o) := by
  obtain ⟨S', e, ha⟩ := S.newC hp r hd
  exact h _ _ _ e S' _ ⟨p, ha, rfl⟩
theorem sat_mkT {p : Addr} {vs : List V} {ds : List D} (S : SR K F φ st H) (hp : H p = none) (r : RDs K F φ vs ds) (h : Sat K XR E (QE K Q) F φ (mkT ds st)) : Q (.ref p) (upd H p (.tup vs)) := by
  unfold mkT at h
  cases e : pures ds with
  | none => rw [e] at h; exact sat_cell S hp (.tup r) (fun z => nomatch z) h
  | some xs =>
    rw [e] at h
    rw [pures_some e] at r
    exact sat_newT S hp r.dpAll h
end

/-! ### + - * // % ** -/
def addD (a b : D) (st : Store) : R D :=
  match a, b with
  | .p (.int i), .p (.int j) => .ok (.p (.int (i + j))) st
  | .p (.str x), .p (.str y) => if x.length + y.length ≤ SZ then .ok (.p (.str (x ++ y))) st else .bad
  | .p (.tuple xs), .p (.tuple ys) => if xs.length + ys.length ≤ SZ then .ok (.p (.tuple (xs ++ ys))) st else .bad
  | a, b => match items a st, items b st with
    | some xs, some ys => if xs.length + ys.length ≤ SZ then mkL false (xs ++ ys) st else .bad
    | _, _ => .bad
def subD (a b : D) (st : Store) : R D :=
  match a, b with
  | .p (.int i), .p (.int j) => .ok (.p (.int (i - j))) st
  | _, _ => .bad
def mulOk (i j : Int) : Bool := decide (i.natAbs < 2 ^ 64) || decide (j.natAbs < 2 ^ 64)
def mulD (a b : D) (st : Store) : R D :=
  match a, b with
  | .p (.int i), .p (.int j) => if mulOk i j then .ok (.p (.int (i * j))) st else .bad
  | _, _ => .bad
def divD (a b : D) (st : Store) : R D :=
  match a, b with
  | .p (.int i), .p (.int j) => if 0 < j ∧ j < 2 ^ 100 then .ok (.p (.int (i / j))) st else .bad
  | _, _ => .bad
def modD (a b : D) (st : Store) : R D :=
  match a, b with
  | .p (.int i), .p (.int j) => if 0 < j then .ok (.p (.int (i % j))) st else .bad
  | _, _ => .bad
def powD (a b : D) (st : Store) : R D :=
  match a, b with
  | .p (.int i), .p (.int j) => if 0 ≤ j ∧ j ≤ 100 ∧ i.natAbs < 2 ^ 64 then .ok (.p (.int (i ^ j.toNat))) st else .bad
  | _, _ => .bad
section
variable {X : Cx} {XR : XRT} {E : XK}
theorem RD.int {K : PySem.W.Frag} {F : Hp} {φ : List Addr} {v : V} {i : Int} (r : RD K F φ v (.p (.int i))) : v = .int i := by cases r; rfl
theorem RD.str {K : PySem.W.Frag} {F : Hp} {φ : List Addr} {v : V} {i : Str} (r : RD K F φ v (.p (.str i))) : v = .str i := by cases r; rfl
theorem RD.bl {K : PySem.W.Frag} {F : Hp} {φ : List Addr} {v : V} {i : Bool} (r : RD K F φ v (.p (.bool i))) : v = .bl i := by cases r; rfl
theorem RD.non {K : PySem.W.Frag} {F : Hp} {φ : List Addr} {v : V} (r : RD K F φ v (.p .none)) : v = .non := by cases r; rfl
theorem Vals.map_len {α : Type} : True := trivial

/-- list + list, wherever they stand -/
def rCatL (K : PySem.W.Frag) : R2 := fun x y H Q => ∃ l b xs zs, x = .ref l ∧ y = .ref b ∧ SqL K H l xs ∧ SqL K H b zs ∧ xs.length + zs.length ≤ sizeLine ∧ ∀ p, H p = none → Q (.ref p) (upd H p (.lst (xs ++ zs)))
theorem op_catL : OpR X (binaryOp .Add) (rCatL X.K) := by
  intro pins s σ H x y v u Q I rx ry h
  obtain ⟨l, b, xs, zs, rfl, rfl, hH, hB, hz, q⟩ := h
  cases rx
  cases ry
  obtain ⟨its, r, hl, _⟩ := I.list hH
  obtain ⟨its2, r2, hb, _⟩ := I.list hB
  obtain ⟨⟨cls, dd, data, sl⟩, n, ho, hc, hdd, hd⟩ := id hl
  obtain ⟨⟨cls2, dd2, data2, sl2⟩, n2, ho2, hc2, hdd2, hd2⟩ := id hb
  simp only at hc hd hc2 hd2 hdd hdd2
  subst hc hd hc2 hd2 hdd hdd2
  have e : its.toArray ++ its2.toArray = (its ++ its2).toArray := by simp
  have l1 := r.length
  have l2 := r2.length
  refine concat_meets ⟨_, ho, rfl⟩ ⟨_, ho2, rfl⟩ noFill_list_add seq_list_add PySem.F.slot_list_add PySem.F.entry_list_add (PySem.F.args_list_add_2 _ _) (list_addW l b its.toArray its2.toArray n n2 none none sl sl2 (by simp; omega)) ⟨ho, ho2, ?_⟩
  rw [e]
  exact ⟨.ref _, _, I.lnew (t' := s.toks) (r.append r2) (by rw [List.length_append]; omega), rfl, q _ I.fresh⟩

theorem rds_append {K : PySem.W.Frag} {F : Hp} {φ : List Addr} : ∀ {vs ws : List V} {xs ys : List D}, RDs K F φ vs xs → RDs K F φ ws ys → RDs K F φ (vs ++ ws) (xs ++ ys)
  | _, _, _, _, .nil, h => h
  | _, _, _, _, .cons a t, h => .cons a (rds_append t h)
theorem rds_length {K : PySem.W.Frag} {F : Hp} {φ : List Addr} {vs : List V} {xs : List D} (h : RDs K F φ vs xs) : vs.length = xs.length := Paired.length h
theorem rds_take {K : PySem.W.Frag} {F : Hp} {φ : List Addr} : ∀ {vs : List V} {xs : List D} (n : Nat), RDs K F φ vs xs → RDs K F φ (vs.take n) (xs.take n)
  | _, _, 0, _ => .nil
  | _, _, _ + 1, .nil => .nil
  | _, _, n + 1, .cons a t => .cons a (rds_take n t)
theorem rds_drop {K : PySem.W.Frag} {F : Hp} {φ : List Addr} : ∀ {vs : List V} {xs : List D} (n : Nat), RDs K F φ vs xs → RDs K F φ (vs.drop n) (xs.drop n)
  | _, _, 0, h => h
  | _, _, _ + 1, .nil => .nil
  | _, _, n + 1, .cons a t => rds_drop n t
theorem rds_get {K : PySem.W.Frag} {F : Hp} {φ : List Addr} : ∀ {vs : List V} {xs : List D} {i : Nat} {d : D}, RDs K F φ vs xs → xs[i]? = some d → ∃ v, vs[i]? = some v ∧ RD K F φ v d
  | _, _, 0, _, .cons a t, h => by cases Option.some.inj h; exact ⟨_, rfl, a⟩
  | _, _, i + 1, _, .cons a t, h => rds_get (i := i) t h
  | _, _, _, _, .nil, h => by simp at h
theorem rds_get' {K : PySem.W.Frag} {F : Hp} {φ : List Addr} : ∀ {vs : List V} {xs : List D} {i : Nat} {v : V}, RDs K F φ vs xs → vs[i]? = some v → ∃ d, xs[i]? = some d ∧ RD K F φ v d
  | _, _, 0, _, .cons a t, h => by cases Option.some.inj h; exact ⟨_, rfl, a⟩
  | _, _, i + 1, _, .cons a t, h => rds_get' (i := i) t h
  | _, _, _, _, .nil, h => by simp at h
theorem rds_set {K : PySem.W.Frag} {F : Hp} {φ : List Addr} {v : V} {d : D} (r : RD K F φ v d) : ∀ {vs : List V} {xs : List D} (n : Nat), RDs K F φ vs xs → RDs K F φ (vs.set n v) (xs.set n d)
  | _, _, _, .nil => .nil
  | _, _, 0, .cons _ t => .cons r t
  | _, _, n + 1, .cons a t => .cons a (rds_set r n t)
theorem rds_reverse {K : PySem.W.Frag} {F : Hp} {φ : List Addr} {vs : List V} {xs : List D} (h : RDs K F φ vs xs) : RDs K F φ vs.reverse xs.reverse := by
  induction h with
  | nil => exact .nil
  | cons a t ih => rw [List.reverse_cons, List.reverse_cons]; exact rds_append ih (.cons a .nil)

theorem o_add : OpR X (binaryOp .Add) (rO X.K XR addD) := by
  intro pins s σ H x y v u Q I rx ry h
  obtain ⟨E, a, b, st, F, φ, S, ra, rb, h⟩ := h
  have lists : ∀ xs ys, items a st = some xs → items b st = some ys → Sat X.K XR E (QE X.K Q) F φ (if xs.length + ys.length ≤ SZ then mkL false (xs ++ ys) st else .bad) → wpAny (model X.prog X.w) X.A (binaryOp .Add v u) (EP X pins σ Q) X.xe s := by
    intro xs ys ea eb h
    by_cases hz : xs.length + ys.length ≤ SZ
    · rw [if_pos hz] at h
      obtain ⟨l, vs, rfl, hl, r1⟩ := items_ok S ra ea
      obtain ⟨m, ws, rfl, hm, r2⟩ := items_ok S rb eb
      refine op_catL pins s σ H _ _ v u Q I rx ry ⟨l, m, vs, ws, rfl, rfl, hl, hm, ?_, fun p hp => sat_mkL S hp (rds_append r1 r2) h⟩
      rw [rds_length r1, rds_length r2]
      exact sz_ok hz
    · rw [if_neg hz] at h; exact h.elim
  unfold addD at h
  split at h
  · rename_i i j
    exact op_add pins s σ H _ _ v u Q I rx ry ⟨i, j, ra.int, rb.int, sat_val S rd_int h⟩
  · rename_i i j
    split at h
    · rename_i hz
      exact op_add_str pins s σ H _ _ v u Q I rx ry ⟨i, j, ra.str, rb.str, sz_ok hz, sat_val S rd_str h⟩
    · exact h.elim
  · rename_i xs ys
    split at h
    · rename_i hz
      obtain ⟨l, vs, rfl, hl, hlF, r1⟩ := tup_ok S ra
      obtain ⟨m, ws, rfl, hm, hmF, r2⟩ := tup_ok S rb
      have l1 := rds_length r1
      have l2 := rds_length r2
      rw [List.length_map] at l1 l2
      have rr := rds_append r1 r2
      rw [← List.map_append] at rr
      refine op_catA pins s σ H _ _ v u Q I rx ry ⟨l, m, vs, ws, rfl, rfl, hl, hm, ?_, fun e => ?_, fun _ e => ?_, fun _ _ p hp => sat_newT S hp rr.dpAll h⟩
      · rw [l1, l2]; exact sz_ok hz
      · subst e
        have : xs = [] := by rw [← List.length_eq_zero_iff]; exact l1.symm
        subst this
        exact sat_val S (show RD X.K F φ _ (.p _) from Dp.tup hmF r2.dpAll) h
      · subst e
        have : ys = [] := by rw [← List.length_eq_zero_iff]; exact l2.symm
        subst this
        rw [List.append_nil] at h
        exact sat_val S (show RD X.K F φ _ (.p _) from Dp.tup hlF r1.dpAll) h
    · exact h.elim
  · split at h
    · rename_i xs ys e1 e2
      exact lists xs ys e1 e2 h
    · exact h.elim
theorem o_sub : OpR X (binaryOp .Sub) (rO X.K XR subD) := by
  intro pins s σ H x y v u Q I rx ry h
  obtain ⟨E, a, b, st, F, φ, S, ra, rb, h⟩ := h
  unfold subD at h
  split at h
  · rename_i i j
    exact op_sub pins s σ H _ _ v u Q I rx ry ⟨i, j, ra.int, rb.int, sat_val S rd_int h⟩
  · exact h.elim
theorem o_mul : OpR X (binaryOp .Mult) (rO X.K XR mulD) := by
  intro pins s σ H x y v u Q I rx ry h
  obtain ⟨E, a, b, st, F, φ, S, ra, rb, h⟩ := h
  unfold mulD at h
  split at h
  · rename_i i j
    split at h
    · rename_i hz
      refine op_mul pins s σ H _ _ v u Q I rx ry ⟨i, j, ra.int, rb.int, ?_, sat_val S rd_int h⟩
      unfold mulOk at hz
      rw [Bool.or_eq_true, decide_eq_true_eq, decide_eq_true_eq] at hz
      rcases hz with hz | hz
      · exact .inl (by omega)
      · exact .inr (by omega)
    · exact h.elim
  · exact h.elim
theorem o_div : OpR X (binaryOp .FloorDiv) (rO X.K XR divD) := by
  intro pins s σ H x y v u Q I rx ry h
  obtain ⟨E, a, b, st, F, φ, S, ra, rb, h⟩ := h
  unfold divD at h
  split at h
  · rename_i i j
    split at h
    · rename_i hz
      exact op_fdivW pins s σ H _ _ v u Q I rx ry ⟨i, j, ra.int, rb.int, wide_div (b := 100) hz.1 (by omega) (by decide) (by decide), sat_val S rd_int h⟩
    · exact h.elim
  · exact h.elim
theorem o_mod : OpR X (binaryOp .Mod) (rO X.K XR modD) := by
  intro pins s σ H x y v u Q I rx ry h
  obtain ⟨E, a, b, st, F, φ, S, ra, rb, h⟩ := h
  unfold modD at h
  split at h
  · rename_i i j
    split at h
    · rename_i hz
      exact op_mod pins s σ H _ _ v u Q I rx ry ⟨i, j, ra.int, rb.int, hz, sat_val S rd_int h⟩
    · exact h.elim
  · exact h.elim
theorem o_pow : OpR X (binaryOp .Pow) (rO X.K XR powD) := by
  intro pins s σ H x y v u Q I rx ry h
  obtain ⟨E, a, b, st, F, φ, S, ra, rb, h⟩ := h
  unfold powD at h
  split at h
  · rename_i i j
    split at h
    · rename_i hz
      exact op_pow pins s σ H _ _ v u Q I rx ry ⟨i, j, ra.int, rb.int, ⟨hz.1, by omega, hz.2.2⟩, sat_val S rd_int h⟩
    · exact h.elim
  · exact h.elim
end
def binD : Operator → D → D → Store → R D
  | .Add => addD
  | .Sub => subD
  | .Mult => mulD
  | .FloorDiv => divD
  | .Mod => modD
  | .Pow => powD
  | _ => fun _ _ _ => .bad
theorem o_bin {X : Cx} {XR : XRT} (op : Operator) : OpR X (binaryOp op) (rO X.K XR (binD op)) := by
  have no : OpR X (binaryOp op) (rO X.K XR fun _ _ _ => .bad) := by
    intro pins s σ H x y v u Q I rx ry h
    obtain ⟨E, a, b, st, F, φ, S, ra, rb, h⟩ := h
    exact h.elim
  cases op <;> first | exact o_add | exact o_sub | exact o_mul | exact o_div | exact o_mod | exact o_pow | exact no

/-! ### comparisons -/
theorem dp_plain {K : PySem.W.Frag} {H : Hp} : ∀ {d : PyData} {v : V}, Dp K H v d → d.plain = true := fun {d v} h => by
  refine Dp.rec (motive_1 := fun v d _ => d.plain = true) (motive_2 := fun vs ds _ => PyData.plainAll ds = true) ?_ ?_ ?_ ?_ ?_ ?_ ?_ ?_ h
  · rfl
  · intro b; rfl
  · intro i; rfl
  · intro x; rfl
  · intro a xs ds hs ha ih; exact ih
  · intro a xs ds hs ha ih; exact ih
  · rfl
  · intro v vs d ds h1 h2 i1 i2
    simp [PyData.plainAll, i1, i2]
def valD {α : Type} [DecidableEq α] (kvs : List (α × D)) (k : α) : Option D := (kvs.find? fun kv => decide (kv.1 = k)).map (·.2)
def putD {α : Type} [DecidableEq α] (kvs : List (α × D)) (k : α) (v : D) : List (α × D) :=
  if (kvs.any fun kv => decide (kv.1 = k)) = true then kvs.map (fun kv => if kv.1 = k then (kv.1, v) else kv) else kvs ++ [(k, v)]
def mergeD (kvs more : List (Key × D)) : List (Key × D) := more.foldl (fun acc kv => putD acc kv.1 kv.2) kvs
section
variable {K : PySem.W.Frag} {F : Hp} {φ : List Addr} {α : Type} [DecidableEq α]
theorem rks_val {k : α} : ∀ {ws : List (α × V)} {kvs : List (α × D)}, RNs K F φ ws kvs → (valD kvs k = none ∧ valV ws k = none) ∨ ∃ d v, valD kvs k = some d ∧ valV ws k = some v ∧ RD K F φ v d
  | _, _, .nil => .inl ⟨rfl, rfl⟩
  | (a, v) :: ws, (b, d) :: kvs, .cons h t => by
    obtain ⟨e, r⟩ := h
    have e : a = b := e
    subst e
    unfold valD valV
    rw [List.find?_cons, List.find?_cons]
    by_cases hk : a = k
    · simp only [hk, decide_true]
      exact .inr ⟨d, v, rfl, rfl, r⟩
    · simp only [hk, decide_false]
      exact rks_val t
theorem rks_any {k : α} : ∀ {ws : List (α × V)} {kvs : List (α × D)}, RNs K F φ ws kvs → (ws.any fun kv => decide (kv.1 = k)) = kvs.any fun kv => decide (kv.1 = k)
  | _, _, .nil => rfl
  | (a, v) :: ws, (b, d) :: kvs, .cons h t => by
    rw [List.any_cons, List.any_cons, rks_any t, show a = b from h.1]
theorem rks_app : ∀ {ws ws' : List (α × V)} {kvs kvs' : List (α × D)}, RNs K F φ ws kvs → RNs K F φ ws' kvs' → RNs K F φ (ws ++ ws') (kvs ++ kvs')
  | _, _, _, _, .nil, h => h
  | _, _, _, _, .cons a t, h => .cons a (rks_app t h)
theorem rks_repl {k : α} {v : V} {d : D} (r : RD K F φ v d) : ∀ {ws : List (α × V)} {kvs : List (α × D)}, RNs K F φ ws kvs →
    RNs K F φ (ws.map fun kv => if kv.1 = k then (kv.1, v) else kv) (kvs.map fun kv => if kv.1 = k then (kv.1, d) else kv)
  | _, _, .nil => .nil
  | (x1, x2) :: ws, (y1, y2) :: kvs, .cons h t => by
    obtain ⟨e, q⟩ := h
    have e : x1 = y1 := e
    subst e
    refine .cons ?_ (rks_repl r t)
    dsimp only
    by_cases hk : x1 = k
    · rw [if_pos hk, if_pos hk]; exact ⟨rfl, r⟩
    · rw [if_neg hk, if_neg hk]; exact ⟨rfl, q⟩
theorem rks_put {k : α} {v : V} {d : D} (r : RD K F φ v d) {ws : List (α × V)} {kvs : List (α × D)} (h : RNs K F φ ws kvs) : RNs K F φ (putK ws k v) (putD kvs k d) := by
  unfold putK putD
  rw [rks_any h]
  split
  · exact rks_repl r h
  · exact rks_app h (.cons ⟨rfl, r⟩ .nil)
theorem rks_merge : ∀ {ms : List (Key × V)} {more : List (Key × D)} {ws : List (Key × V)} {kvs : List (Key × D)}, RNs K F φ ms more → RNs K F φ ws kvs → RNs K F φ (mergeK ws ms) (mergeD kvs more)
  | _, _, _, _, .nil, h => h
  | (a, v) :: ms, (b, d) :: more, ws, kvs, .cons h t, g => by
    obtain ⟨e, r⟩ := h
    have e : a = b := e
    subst e
    exact rks_merge (ws := putK ws a v) (kvs := putD kvs a d) t (rks_put r g)
theorem rks_length {ws : List (α × V)} {kvs : List (α × D)} (h : RNs K F φ ws kvs) : ws.length = kvs.length := Paired.length h
end
/-- a key, read -/
def keyOf : D → Option Key
  | .p (.int i) => some (.inl i)
  | .p (.str x) => some (.inr x)
  | _ => none
theorem keyOf_ok {K : PySem.W.Frag} {F : Hp} {φ : List Addr} {v : V} {d : D} {k : Key} (r : RD K F φ v d) (h : keyOf d = some k) : v = kV k := by
  unfold keyOf at h
  split at h
  · cases Option.some.inj h; exact r.int
  · cases Option.some.inj h; exact r.str
  · cases h
/-- a key that is a tuple, read -/
def keysT : List PyData → Option (List Key)
  | [] => some []
  | .int i :: r => (keysT r).map (.inl i :: ·)
  | .str x :: r => (keysT r).map (.inr x :: ·)
  | _ => none
def keyT : D → Option (List Key)
  | .p (.tuple xs) => keysT xs
  | _ => none
theorem keysT_ok {K : PySem.W.Frag} {F : Hp} : ∀ {xs : List PyData} {vs : List V} {k : List Key}, DpAll K F vs xs → keysT xs = some k → vs = k.map kV
  | [], _, _, h, e => by cases Option.some.inj e; cases h; rfl
  | .int i :: r, _, _, h, e => by
    obtain ⟨k', e1, rfl⟩ := Option.map_eq_some_iff.mp (show (keysT r).map (Sum.inl i :: ·) = some _ from e)
    cases h with
    | cons a t => cases a; rw [keysT_ok t e1]; rfl
  | .str x :: r, _, _, h, e => by
    obtain ⟨k', e1, rfl⟩ := Option.map_eq_some_iff.mp (show (keysT r).map (Sum.inr x :: ·) = some _ from e)
    cases h with
    | cons a t => cases a; rw [keysT_ok t e1]; rfl
  | .none :: _, _, _, _, e => by cases e
  | .bool _ :: _, _, _, _, e => by cases e
  | .list _ :: _, _, _, _, e => by cases e
  | .tuple _ :: _, _, _, _, e => by cases e
  | .dict _ :: _, _, _, _, e => by cases e
theorem keyT_ok {K : PySem.W.Frag} {F : Hp} {φ : List Addr} {v : V} {d : D} {k : List Key} (r : RD K F φ v d) (h : keyT d = some k) : ∃ b, v = .ref b ∧ F b = some (.tup (k.map kV)) := by
  unfold keyT at h
  split at h
  · cases r with
    | tup hs ha => rw [keysT_ok ha h] at hs; exact ⟨_, rfl, hs⟩
  · cases h
/-- the pairs of a cell -/
def dcellL (st : Store) (n : Nat) : Option (List (Key × D)) :=
  match st[n]? with
  | some (.dct kvs) => some kvs
  | _ => none
theorem dcellL_some {st : Store} {n : Nat} {kvs : List (Key × D)} (h : dcellL st n = some kvs) : st[n]? = some (Cell.dct kvs) := by
  unfold dcellL at h
  split at h
  · rename_i es e
    cases Option.some.inj h
    exact e
  · cases h
/-- a dict's value, where the thing is a dict -/
def dictOf : D → Store → Option (List (Key × D))
  | .c n, st => dcellL st n
  | _, _ => none
theorem dictOf_ok {K : PySem.W.Frag} {F H : Hp} {φ : List Addr} {st : Store} {d : D} {v : V} {kvs : List (Key × D)} (S : SR K F φ st H) (r : RD K F φ v d) (h : dictOf d st = some kvs) : ∃ a ws, v = .ref a ∧ H a = some (.dK ws) ∧ RKs K F φ ws kvs := by
  cases d with
  | p x => cases h
  | c n =>
    obtain ⟨a, h1, rfl⟩ := r
    obtain ⟨b, ws, e1, _, e2, e3⟩ := S.dcell n kvs (dcellL_some h)
    rw [h1] at e1
    cases Option.some.inj e1
    exact ⟨a, ws, rfl, e2, e3⟩
theorem rks_get {K : PySem.W.Frag} {F H : Hp} {φ : List Addr} {ws : List (Key × V)} {kvs : List (Key × D)} {a : Addr} {k : Key} (hH : H a = some (.dK ws)) (r : RNs K F φ ws kvs) :
    ∃ o, DGet H a (kV k) o ∧ o.isSome = (valD kvs k).isSome ∧ ∀ d, valD kvs k = some d → ∃ v, o = some v ∧ RD K F φ v d := by
  refine ⟨valV ws k, .k hH, ?_, fun d hd => ?_⟩
  · rcases rks_val (k := k) r with ⟨h1, h2⟩ | ⟨d, v, h1, h2, _⟩ <;> rw [h1, h2] <;> rfl
  · rcases rks_val (k := k) r with ⟨h1, h2⟩ | ⟨d', v, h1, h2, h3⟩
    · rw [h1] at hd; cases hd
    · rw [h1] at hd; cases Option.some.inj hd; exact ⟨v, h2, h3⟩
/-- .. its keys tuples -/
def dttOf : D → Store → Option (List (List Key × D))
  | .c n, st => match st[n]? with
    | some (.dtt kvs) => some kvs
    | _ => none
  | _, _ => none
theorem dttOf_ok {K : PySem.W.Frag} {F H : Hp} {φ : List Addr} {st : Store} {d : D} {v : V} {kvs : List (List Key × D)} (S : SR K F φ st H) (r : RD K F φ v d) (h : dttOf d st = some kvs) : ∃ a ws, v = .ref a ∧ H a = some (.dT ws) ∧ RNs K F φ ws kvs := by
  cases d with
  | p x => cases h
  | c n =>
    obtain ⟨a, h1, rfl⟩ := r
    unfold dttOf at h
    simp only at h
    split at h
    · rename_i es e
      cases Option.some.inj h
      obtain ⟨b, ws, e1, _, e2, e3⟩ := S.ttcell n kvs e
      rw [h1] at e1
      cases Option.some.inj e1
      exact ⟨a, ws, rfl, e2, e3⟩
    · cases h
theorem rnt_get {K : PySem.W.Frag} {F H : Hp} {φ : List Addr} {ws : List (List Key × V)} {kvs : List (List Key × D)} {a b : Addr} {k : List Key} (hH : H a = some (.dT ws)) (hb : H b = some (.tup (k.map kV))) (r : RNs K F φ ws kvs) :
    ∃ o, DGet H a (.ref b) o ∧ o.isSome = (valD kvs k).isSome ∧ ∀ d, valD kvs k = some d → ∃ v, o = some v ∧ RD K F φ v d := by
  refine ⟨valV ws k, .t hH hb, ?_, fun d hd => ?_⟩
  · rcases rks_val (k := k) r with ⟨h1, h2⟩ | ⟨d, v, h1, h2, _⟩ <;> rw [h1, h2] <;> rfl
  · rcases rks_val (k := k) r with ⟨h1, h2⟩ | ⟨d', v, h1, h2, h3⟩
    · rw [h1] at hd; cases hd
    · rw [h1] at hd; cases Option.some.inj hd; exact ⟨v, h2, h3⟩
/-- a look into a dict, of either kind: what stands under a key, if the key can be one -/
def lookD (d k : D) (st : Store) : Option (Option D) :=
  match dictOf d st with
  | some kvs => (keyOf k).map (valD kvs)
  | none => match dttOf d st with
    | some kvs => (keyT k).map (valD kvs)
    | none => none
theorem lookD_ok {K : PySem.W.Frag} {F H : Hp} {φ : List Addr} {st : Store} {d k : D} {v w : V} {o : Option D} (S : SR K F φ st H) (r : RD K F φ v d) (rk : RD K F φ w k) (h : lookD d k st = some o) :
    ∃ a u, v = .ref a ∧ DGet H a w u ∧ u.isSome = o.isSome ∧ ∀ d, o = some d → ∃ v, u = some v ∧ RD K F φ v d := by
  unfold lookD at h
  split at h
  · rename_i kvs e
    obtain ⟨k', ek, rfl⟩ := Option.map_eq_some_iff.mp h
    obtain ⟨a, ws, rfl, hH, rr⟩ := dictOf_ok S r e
    obtain ⟨u, g, h1, h2⟩ := rks_get (k := k') hH rr
    rw [keyOf_ok rk ek]
    exact ⟨a, u, rfl, g, h1, h2⟩
  · split at h
    · rename_i kvs e
      obtain ⟨k', ek, rfl⟩ := Option.map_eq_some_iff.mp h
      obtain ⟨a, ws, rfl, hH, rr⟩ := dttOf_ok S r e
      obtain ⟨b, rfl, hb⟩ := keyT_ok rk ek
      obtain ⟨u, g, h1, h2⟩ := rnt_get (k := k') hH (S.sub _ _ hb) rr
      exact ⟨a, u, rfl, g, h1, h2⟩
    · cases h
def isDict (d : D) (st : Store) : Bool := (dictOf d st).isSome || (dttOf d st).isSome
/-- room enough for a comparison -/
def eqRoom (x y : PyData) : Bool := decide (min x.depth y.depth ≤ 64)
def eqD (neg : Bool) (a b : D) (st : Store) : R D :=
  match toP a st, toP b st with
  | some x, some y => if eqRoom x y = true then .ok (.p (.bool (if neg then !PyData.eqv x y else PyData.eqv x y))) st else .bad
  | _, _ => .bad
def notNone : PyData → Bool
  | .none => false
  | _ => true
/-- an order by Python: ints, texts, else alike data -/
def ltP (x y : PyData) : Option Bool :=
  match x, y with
  | .int i, .int j => some (decide (i < j))
  | .str i, .str j => some (decide (i.cps.toList < j.cps.toList))
  | x, y => if (PySem.W.alike x y && eqRoom x y && notNone x) = true then some (PySem.W.dataLt x y) else none
def ordD (op : CmpOp) (a b : D) (st : Store) : R D :=
  match toP a st, toP b st with
  | some x, some y => match op with
    | .Lt => match ltP x y with | some k => .ok (.p (.bool k)) st | none => .bad
    | .Gt => match ltP y x with | some k => .ok (.p (.bool k)) st | none => .bad
    | .LtE => match ltP y x with | some k => .ok (.p (.bool (!k))) st | none => .bad
    | .GtE => match ltP x y with | some k => .ok (.p (.bool (!k))) st | none => .bad
    | _ => .bad
  | _, _ => .bad
/-- x in xs -/
def inD0 (neg : Bool) (a b : D) (st : Store) : R D :=
  match b with
  | .p (.str y) => match a with
    | .p (.str x) => .ok (.p (.bool (if neg then !(!(Builtin.Str.occurrences y x 0 y.length 1).isEmpty) else !(Builtin.Str.occurrences y x 0 y.length 1).isEmpty))) st
    | _ => .bad
  | b => match toP a st, toP b st with
    | some x, some (.list ys) => if decide (x.depth ≤ 64) then .ok (.p (.bool (if neg then !(ys.any fun y => PyData.eqv y x) else ys.any fun y => PyData.eqv y x))) st else .bad
    | some x, some (.tuple ys) => if decide (x.depth ≤ 64) then .ok (.p (.bool (if neg then !(ys.any fun y => PyData.eqv y x) else ys.any fun y => PyData.eqv y x))) st else .bad
    | _, _ => .bad
section
variable {X : Cx} {XR : XRT} {E : XK}
theorem o_eq (hu : X.A.units + 200 < cLine) : OpR X (compareOp .Eq) (rO X.K XR (eqD false)) := by
  intro pins s σ H x y v u Q I rx ry h
  obtain ⟨E, a, b, st, F, φ, S, ra, rb, h⟩ := h
  unfold eqD at h
  split at h
  · rename_i d e e1 e2
    split at h
    · rename_i hz
      have hd := toP_ok S ra e1
      have he := toP_ok S rb e2
      obtain ⟨as, r1⟩ := Dp.reads I d x v hd rx
      obtain ⟨bs, r2⟩ := Dp.reads I e y u he ry
      have hz : min d.depth e.depth ≤ 64 := of_decide_eq_true hz
      exact PySem.SeqAt.eq_plain r1 r2 (dp_plain hd) (dp_plain he) (by omega) ⟨.bl _, H, I, rfl, sat_val S rd_bl h⟩
    · exact h.elim
  · exact h.elim
theorem o_ne (hu : X.A.units + 200 < cLine) : OpR X (compareOp .NotEq) (rO X.K XR (eqD true)) := by
  intro pins s σ H x y v u Q I rx ry h
  obtain ⟨E, a, b, st, F, φ, S, ra, rb, h⟩ := h
  unfold eqD at h
  split at h
  · rename_i d e e1 e2
    split at h
    · rename_i hz
      have hd := toP_ok S ra e1
      have he := toP_ok S rb e2
      obtain ⟨as, r1⟩ := Dp.reads I d x v hd rx
      obtain ⟨bs, r2⟩ := Dp.reads I e y u he ry
      have hz : min d.depth e.depth ≤ 64 := of_decide_eq_true hz
      exact PySem.SeqAt.ne_plain r1 r2 (dp_plain hd) (dp_plain he) (by omega) ⟨.bl _, H, I, rfl, sat_val S rd_bl h⟩
    · exact h.elim
  · exact h.elim
theorem notNone_ne {x : PyData} (h : notNone x = true) : x ≠ .none := by
  intro e; subst e; cases h
theorem alike_notNone {x y : PyData} (h : PySem.W.alike x y = true) (n : notNone x = true) : notNone y = true := by
  cases y with
  | none => cases x <;> first | (cases n; done) | (simp [PySem.W.alike] at h)
  | _ => rfl
theorem ltP_data {x y : PyData} {k : Bool} (h : ltP x y = some k) : PySem.W.alike x y = true ∧ x ≠ .none ∧ y ≠ .none ∧ min x.depth y.depth ≤ 64 ∧ PySem.W.dataLt x y = k := by
  unfold ltP at h
  split at h
  · rename_i i j
    exact ⟨rfl, by simp, by simp, by simp [PyData.depth], by rw [PySem.W.dataLt_int]; exact Option.some.inj h⟩
  · rename_i i j
    exact ⟨rfl, by simp, by simp, by simp [PyData.depth], by rw [PySem.W.dataLt_str]; exact Option.some.inj h⟩
  · split at h
    · rename_i hz
      simp only [Bool.and_eq_true] at hz
      obtain ⟨⟨h1, h2⟩, h3⟩ := hz
      exact ⟨h1, notNone_ne h3, notNone_ne (alike_notNone h1 h3), of_decide_eq_true h2, Option.some.inj h⟩
    · cases h
theorem o_ord (hu : X.A.units + 200 < cLine) (op : CmpOp) (h1 : op ≠ .Eq) (h2 : op ≠ .NotEq) : OpR X (compareOp op) (rO X.K XR (ordD op)) := by
  intro pins s σ H x y v u Q I rx ry h
  obtain ⟨E, a, b, st, F, φ, S, ra, rb, h⟩ := h
  unfold ordD at h
  split at h
  · rename_i d e e1 e2
    have hd := toP_ok S ra e1
    have he := toP_ok S rb e2
    obtain ⟨as, r1⟩ := Dp.reads I d x v hd rx
    obtain ⟨bs, r2⟩ := Dp.reads I e y u he ry
    split at h
    · split at h
      · rename_i k hk
        obtain ⟨q1, q2, q3, q4, q5⟩ := ltP_data hk
        exact PySem.W.lt_data r1 r2 q1 q2 (by omega) (by rw [q5]; exact ⟨.bl _, H, I, rfl, sat_val S rd_bl h⟩)
      · exact h.elim
    · split at h
      · rename_i k hk
        obtain ⟨q1, q2, q3, q4, q5⟩ := ltP_data hk
        exact PySem.W.gt_data r1 r2 (by rw [PySem.W.alike_comm]; exact q1) q3 (by omega) (by rw [q5]; exact ⟨.bl _, H, I, rfl, sat_val S rd_bl h⟩)
      · exact h.elim
    · split at h
      · rename_i k hk
        obtain ⟨q1, q2, q3, q4, q5⟩ := ltP_data hk
        exact PySem.W.le_data r1 r2 (by rw [PySem.W.alike_comm]; exact q1) q3 (by omega) (by rw [q5]; exact ⟨.bl _, H, I, rfl, sat_val S rd_bl h⟩)
      · exact h.elim
    · split at h
      · rename_i k hk
        obtain ⟨q1, q2, q3, q4, q5⟩ := ltP_data hk
        exact PySem.W.ge_data r1 r2 q1 q2 (by omega) (by rw [q5]; exact ⟨.bl _, H, I, rfl, sat_val S rd_bl h⟩)
      · exact h.elim
    · exact h.elim
  · exact h.elim
theorem plainAll_of_list {ys : List PyData} (h : (PyData.list ys).plain = true) : PyData.plainAll ys = true := h
theorem plainAll_of_tuple {ys : List PyData} (h : (PyData.tuple ys).plain = true) : PyData.plainAll ys = true := h
theorem o_in0 (hu : X.A.units + 200 < cLine) : OpR X (compareOp .In) (rO X.K XR (inD0 false)) := by
  intro pins s σ H x y v u Q I rx ry h
  obtain ⟨E, a, b, st, F, φ, S, ra, rb, h⟩ := h
  unfold inD0 at h
  split at h
  · split at h
    · rename_i z w
      exact op_in_str pins s σ H _ _ v u Q I rx ry ⟨_, _, ra.str, rb.str, sat_val S rd_bl h⟩
    · exact h.elim
  · split at h
    · rename_i d ys e1 e2
      split at h
      · rename_i hz
        have hz := of_decide_eq_true hz
        have hd := toP_ok S ra e1
        have he := toP_ok S rb e2
        obtain ⟨as, r1⟩ := Dp.reads I d x v hd rx
        obtain ⟨bs, r2⟩ := Dp.reads I _ y u he ry
        exact PySem.SeqAt.in_list_data r2 r1 (plainAll_of_list (dp_plain he)) (dp_plain hd) (by omega) ⟨.bl _, H, I, rfl, sat_val S rd_bl h⟩
      · exact h.elim
    · rename_i d ys e1 e2
      split at h
      · rename_i hz
        have hz := of_decide_eq_true hz
        have hd := toP_ok S ra e1
        have he := toP_ok S rb e2
        obtain ⟨as, r1⟩ := Dp.reads I d x v hd rx
        obtain ⟨bs, r2⟩ := Dp.reads I _ y u he ry
        exact PySem.SeqAt.in_tuple_data r2 r1 (plainAll_of_tuple (dp_plain he)) (dp_plain hd) (by omega) ⟨.bl _, H, I, rfl, sat_val S rd_bl h⟩
      · exact h.elim
    · exact h.elim
theorem o_notIn0 (hu : X.A.units + 200 < cLine) : OpR X (compareOp .NotIn) (rO X.K XR (inD0 true)) := by
  intro pins s σ H x y v u Q I rx ry h
  obtain ⟨E, a, b, st, F, φ, S, ra, rb, h⟩ := h
  unfold inD0 at h
  split at h
  · split at h
    · rename_i z w
      exact op_notin_str pins s σ H _ _ v u Q I rx ry ⟨_, _, ra.str, rb.str, sat_val S rd_bl h⟩
    · exact h.elim
  · split at h
    · rename_i d ys e1 e2
      split at h
      · rename_i hz
        have hz := of_decide_eq_true hz
        have hd := toP_ok S ra e1
        have he := toP_ok S rb e2
        obtain ⟨as, r1⟩ := Dp.reads I d x v hd rx
        obtain ⟨bs, r2⟩ := Dp.reads I _ y u he ry
        exact PySem.SeqAt.notIn_list_data r2 r1 (plainAll_of_list (dp_plain he)) (dp_plain hd) (by omega) ⟨.bl _, H, I, rfl, sat_val S rd_bl h⟩
      · exact h.elim
    · rename_i d ys e1 e2
      split at h
      · rename_i hz
        have hz := of_decide_eq_true hz
        have hd := toP_ok S ra e1
        have he := toP_ok S rb e2
        obtain ⟨as, r1⟩ := Dp.reads I d x v hd rx
        obtain ⟨bs, r2⟩ := Dp.reads I _ y u he ry
        exact PySem.SeqAt.notIn_tuple_data r2 r1 (plainAll_of_tuple (dp_plain he)) (dp_plain hd) (by omega) ⟨.bl _, H, I, rfl, sat_val S rd_bl h⟩
      · exact h.elim
    · exact h.elim
/-- is, is not a constant -/
def isC (k : PyData) (a : D) : Bool :=
  match a, k with
  | .p .none, .none => true
  | .p (.bool j), .bool k => decide (j = k)
  | _, _ => false
def isD (neg : Bool) (a b : D) (st : Store) : R D :=
  match b with
  | .p .none => .ok (.p (.bool (if neg then !isC .none a else isC .none a))) st
  | .p (.bool k) => .ok (.p (.bool (if neg then !isC (.bool k) a else isC (.bool k) a))) st
  | _ => .bad
theorem rel_isC {K : PySem.W.Frag} {F : Hp} {φ : List Addr} {x : V} {v : Value} {a : D} (r : RD K F φ x a) (rx : RelV x v) :
    (plainIs v .none = true ∧ (v == Value.none) = isC .none a) ∧ ∀ k, plainIs v (.bool k) = true ∧ (v == Value.bool k) = isC (.bool k) a := by
  cases a with
  | c n =>
    obtain ⟨a, _, rfl⟩ := r
    cases rx
    exact ⟨⟨rfl, rfl⟩, fun k => ⟨rfl, rfl⟩⟩
  | p y =>
    cases y with
    | none => cases r; cases rx; exact ⟨⟨rfl, rfl⟩, fun k => ⟨rfl, rfl⟩⟩
    | bool j =>
      cases r; cases rx
      refine ⟨⟨rfl, rfl⟩, fun k => ⟨rfl, ?_⟩⟩
      cases j <;> cases k <;> rfl
    | int j => cases r; obtain ⟨t, rfl⟩ := rx; exact ⟨⟨rfl, rfl⟩, fun k => ⟨rfl, rfl⟩⟩
    | str j => cases r; obtain ⟨t, rfl⟩ := rx; exact ⟨⟨rfl, rfl⟩, fun k => ⟨rfl, rfl⟩⟩
    | list j => cases r; cases rx; exact ⟨⟨rfl, rfl⟩, fun k => ⟨rfl, rfl⟩⟩
    | tuple j => cases r; cases rx; exact ⟨⟨rfl, rfl⟩, fun k => ⟨rfl, rfl⟩⟩
    | dict j => cases r
theorem o_is : OpR X (compareOp .Is) (rO X.K XR (isD false)) := by
  intro pins s σ H x y v u Q I rx ry h
  obtain ⟨E, a, b, st, F, φ, S, ra, rb, h⟩ := h
  obtain ⟨⟨h1, h2⟩, h3⟩ := rel_isC ra rx
  unfold isD at h
  split at h
  · rw [rb.non] at ry
    cases ry
    exact wpAny_is_plain h1 ⟨.bl _, H, I, by rw [h2]; rfl, sat_val S rd_bl h⟩
  · rename_i k
    rw [rb.bl] at ry
    cases ry
    exact wpAny_is_plain (h3 k).1 ⟨.bl _, H, I, by rw [(h3 k).2]; rfl, sat_val S rd_bl h⟩
  · exact h.elim
theorem o_isNot : OpR X (compareOp .IsNot) (rO X.K XR (isD true)) := by
  intro pins s σ H x y v u Q I rx ry h
  obtain ⟨E, a, b, st, F, φ, S, ra, rb, h⟩ := h
  obtain ⟨⟨h1, h2⟩, h3⟩ := rel_isC ra rx
  unfold isD at h
  split at h
  · rw [rb.non] at ry
    cases ry
    exact wpAny_isNot_plain h1 ⟨.bl _, H, I, by rw [h2]; rfl, sat_val S rd_bl h⟩
  · rename_i k
    rw [rb.bl] at ry
    cases ry
    exact wpAny_isNot_plain (h3 k).1 ⟨.bl _, H, I, by rw [(h3 k).2]; rfl, sat_val S rd_bl h⟩
  · exact h.elim
end
/-- in, of dicts too -/
def inD (neg : Bool) (a b : D) (st : Store) : R D :=
  if isDict b st = true then match lookD b a st with
    | some o => .ok (.p (.bool (if neg then !o.isSome else o.isSome))) st
    | none => .bad
  else inD0 neg a b st
section
variable {X : Cx} {XR : XRT} {E : XK}
theorem o_in (hu : X.A.units + 200 < cLine) : OpR X (compareOp .In) (rO X.K XR (inD false)) := by
  intro pins s σ H x y v u Q I rx ry h
  obtain ⟨E, a, b, st, F, φ, S, ra, rb, h⟩ := h
  unfold inD at h
  split at h
  · split at h
    · rename_i o e
      obtain ⟨p, q, rfl, g, h1, _⟩ := lookD_ok S rb ra e
      cases ry
      exact d_in (by omega) I g rx fun s3 I3 => ⟨.bl q.isSome, H, I3, rfl, by rw [h1]; exact sat_val S rd_bl h⟩
    · exact h.elim
  · exact o_in0 hu pins s σ H x y v u Q I rx ry ⟨E, a, b, st, F, φ, S, ra, rb, h⟩
theorem o_notIn (hu : X.A.units + 200 < cLine) : OpR X (compareOp .NotIn) (rO X.K XR (inD true)) := by
  intro pins s σ H x y v u Q I rx ry h
  obtain ⟨E, a, b, st, F, φ, S, ra, rb, h⟩ := h
  unfold inD at h
  split at h
  · split at h
    · rename_i o e
      obtain ⟨p, q, rfl, g, h1, _⟩ := lookD_ok S rb ra e
      cases ry
      exact d_notIn (by omega) I g rx fun s3 I3 => ⟨.bl (!q.isSome), H, I3, rfl, by rw [h1]; exact sat_val S rd_bl h⟩
    · exact h.elim
  · exact o_notIn0 hu pins s σ H x y v u Q I rx ry ⟨E, a, b, st, F, φ, S, ra, rb, h⟩
end
def cmpD : CmpOp → D → D → Store → R D
  | .Eq => eqD false
  | .NotEq => eqD true
  | .In => inD false
  | .NotIn => inD true
  | .Is => isD false
  | .IsNot => isD true
  | op => ordD op
section
variable {X : Cx} {XR : XRT} {E : XK}
theorem o_cmp (hu : X.A.units + 200 < cLine) (op : CmpOp) : OpR X (compareOp op) (rO X.K XR (cmpD op)) := by
  cases op with
  | Eq => exact o_eq hu
  | NotEq => exact o_ne hu
  | In => exact o_in hu
  | NotIn => exact o_notIn hu
  | Is => exact o_is
  | IsNot => exact o_isNot
  | Lt => exact o_ord hu .Lt (by decide) (by decide)
  | LtE => exact o_ord hu .LtE (by decide) (by decide)
  | Gt => exact o_ord hu .Gt (by decide) (by decide)
  | GtE => exact o_ord hu .GtE (by decide) (by decide)
end

/-! ### truth, -x -/
def tru (a : D) (st : Store) : Option Bool :=
  match a with
  | .p .none => some false
  | .p (.bool b) => some b
  | .p (.int i) => some (i != 0)
  | .p (.str x) => if x.length ≤ SZ then some ((x.length : Int) != 0) else none
  | .p (.tuple xs) => some (!xs.isEmpty)
  | a => (items a st).map fun xs => !xs.isEmpty
theorem rds_isEmpty {K : PySem.W.Frag} {F : Hp} {φ : List Addr} {vs : List V} {xs : List D} (h : RDs K F φ vs xs) : vs.isEmpty = xs.isEmpty := by cases h <;> rfl
theorem map_isEmpty {α β : Type} (f : α → β) (xs : List α) : (xs.map f).isEmpty = xs.isEmpty := by cases xs <;> rfl
theorem tru_ok {K : PySem.W.Frag} {F H : Hp} {φ : List Addr} {st : Store} {a : D} {x : V} {k : Bool} (S : SR K F φ st H) (r : RD K F φ x a) (h : tru a st = some k) : TruV K x H k := by
  have lists : (items a st).map (fun xs => !xs.isEmpty) = some k → TruV K x H k := fun h => by
    obtain ⟨ds, e, rfl⟩ := Option.map_eq_some_iff.mp h
    obtain ⟨l, vs, rfl, hl, r1⟩ := items_ok S r e
    exact .inl ⟨vs, hl, by rw [rds_isEmpty r1]⟩
  cases a with
  | c n => exact lists h
  | p y =>
    cases y with
    | none => cases r; exact (Option.some.inj h).symm
    | bool j => cases r; exact (Option.some.inj h).symm
    | int j => cases r; exact (Option.some.inj h).symm
    | str j =>
      cases r
      have h : (if j.length ≤ SZ then some ((j.length : Int) != 0) else none) = some k := h
      split at h
      · rename_i hz
        exact ⟨sz_ok hz, (Option.some.inj h).symm⟩
      · cases h
    | list j => exact lists h
    | tuple xs =>
      obtain ⟨l, vs, rfl, hl, _, r1⟩ := tup_ok S r
      exact .inr (.inl ⟨vs, hl, by rw [rds_isEmpty r1, map_isEmpty]; exact (Option.some.inj h).symm⟩)
    | dict j => cases r
def negD (a : D) (st : Store) : R D :=
  match a with
  | .p (.int i) => .ok (.p (.int (-i))) st
  | _ => .bad
theorem o_neg {X : Cx} {XR : XRT} : UnR X (unaryOp .USub) (rU X.K XR negD) := by
  intro pins s σ H x v Q I rx h
  obtain ⟨E, a, st, F, φ, S, ra, h⟩ := h
  unfold negD at h
  split at h
  · rename_i i
    exact un_neg pins s σ H _ v Q I rx ⟨i, ra.int, sat_val S rd_int h⟩
  · exact h.elim

/-! ### items, parts -/
def ixD0 (a b : D) (st : Store) : R D :=
  match a, b with
  | .p (.tuple xs), .p (.int i) => match atI xs i with
    | some x => .ok (.p x) st
    | none => .bad
  | .p (.str z), .p (.int i) => if z.length ≤ SZ then match atI z.cps.toList i with
      | some c => .ok (.p (.str ⟨#[c]⟩)) st
      | none => .bad
    else .bad
  | a, .p (.int i) => match items a st with
    | some xs => match atI xs i with
      | some d => .ok d st
      | none => .bad
    | none => match tups a st with
      | some xs => match atI xs i with
        | some d => .ok d st
        | none => .bad
      | none => .bad
  | _, _ => .bad
theorem rds_atI {K : PySem.W.Frag} {F : Hp} {φ : List Addr} {vs : List V} {xs : List D} {i : Int} {d : D} (h : RDs K F φ vs xs) (e : atI xs i = some d) : ∃ v, atI vs i = some v ∧ RD K F φ v d := by
  unfold atI at e ⊢
  rw [rds_length h]
  obtain ⟨j, e1, e2⟩ := Option.bind_eq_some_iff.mp e
  obtain ⟨v, h1, h2⟩ := rds_get h e2
  exact ⟨v, by rw [e1]; exact h1, h2⟩
theorem atI_map {α β : Type} {f : α → β} {xs : List α} {i : Int} {x : α} (e : atI xs i = some x) : atI (xs.map f) i = some (f x) := by
  unfold atI at e ⊢
  obtain ⟨j, e1, e2⟩ := Option.bind_eq_some_iff.mp e
  rw [List.length_map, e1]
  show (xs.map f)[j]? = _
  rw [List.getElem?_map, e2]
  rfl
theorem ix_D0 {X : Cx} {XR : XRT} : IxR X (rO X.K XR ixD0) := by
  intro a' b' pins s σ H x y v u Q I rx ry h hs
  obtain ⟨E, a, b, st, F, φ, S, ra, rb, h⟩ := h
  unfold ixD0 at h
  split at h
  · rename_i xs i
    split at h
    · rename_i d e
      obtain ⟨l, vs, rfl, hl, _, r1⟩ := tup_ok S ra
      obtain ⟨w, h1, h2⟩ := rds_atI r1 (atI_map (f := D.p) e)
      exact ix_tup a' b' pins s σ H _ _ v u Q I rx ry ⟨l, vs, i, w, rfl, rb.int, hl, h1, sat_val S h2 h⟩ hs
    · exact h.elim
  · rename_i z i
    split at h
    · rename_i hz
      split at h
      · rename_i c e
        exact ix_str a' b' pins s σ H _ _ v u Q I rx ry ⟨z, i, c, ra.str, rb.int, sz_ok hz, e, sat_val S rd_str h⟩ hs
      · exact h.elim
    · exact h.elim
  · rename_i i _ _
    split at h
    · rename_i xs e0
      split at h
      · rename_i d e
        obtain ⟨l, vs, rfl, hl, r1⟩ := items_ok S ra e0
        obtain ⟨w, h1, h2⟩ := rds_atI r1 e
        exact ix_list a' b' pins s σ H _ _ v u Q I rx ry ⟨l, vs, i, w, rfl, rb.int, hl, h1, sat_val S h2 h⟩ hs
      · exact h.elim
    · split at h
      · rename_i xs e0
        split at h
        · rename_i d e
          obtain ⟨l, vs, rfl, hl, r1⟩ := tups_ok S ra e0
          obtain ⟨w, h1, h2⟩ := rds_atI r1 e
          exact ix_tup a' b' pins s σ H _ _ v u Q I rx ry ⟨l, vs, i, w, rfl, rb.int, hl, h1, sat_val S h2 h⟩ hs
        · exact h.elim
      · exact h.elim
  · exact h.elim
/-- .. of dicts too -/
def ixD (a b : D) (st : Store) : R D :=
  if isDict a st = true then match lookD a b st with
    | some (some d) => .ok d st
    | _ => .bad
  else ixD0 a b st
theorem typeIs_dget {X : Cx} {pins : List (Addr × Obj)} {σ : L2.St} {H : Hp} {s : Shared} {a : Addr} {y : V} {o : Option V} (I : Inv X pins σ H s) (g : DGet H a y o) : s.TypeIs (.ref a) "dict" := dict_typeIs I g
theorem ix_D {X : Cx} {XR : XRT} (hu : X.A.units + 200 < cLine) : IxR X (rO X.K XR ixD) := by
  intro a' b' pins s σ H x y v u Q I rx ry h hs
  obtain ⟨E, a, b, st, F, φ, S, ra, rb, h⟩ := h
  unfold ixD at h
  split at h
  · split at h
    · rename_i d ed
      obtain ⟨p, q, rfl, g, _, h2⟩ := lookD_ok S ra rb ed
      obtain ⟨w0, rfl, rw0⟩ := h2 d rfl
      cases rx
      exact tail_any (dict_typeIs I g) PySem.F.slot_dict_getitem.lookup (d_getItem (by omega) I g ry fun w' s3 I3 rw' => ⟨w0, H, I3, rw', sat_val S rw0 h⟩) hs
    · exact h.elim
  · exact ix_D0 a' b' pins s σ H x y v u Q I rx ry ⟨E, a, b, st, F, φ, S, ra, rb, h⟩ hs
/-- the part of a list -/
def cut {α : Type} (xs : List α) (lo hi : Option Int) : List α := (xs.drop (HT.sIx xs.length 0 lo)).take (HT.sIx xs.length xs.length hi - HT.sIx xs.length 0 lo)
def slD (a : D) (lo hi : Option Int) (st : Store) : R D :=
  match a with
  | .p (.tuple xs) => .ok (.p (.tuple (cut xs lo hi))) st
  | .p (.str z) => if z.length ≤ SZ then .ok (.p (.str (cutS z lo hi))) st else .bad
  | a => match items a st with
    | some xs => mkL false (cut xs lo hi) st
    | none => .bad
def rSl (K : PySem.W.Frag) (XR : XRT) (c : Bool) : V → Option Int → Option Int → Hp → VK → Prop := fun x lo hi H Q => ∃ E a st F φ, SR K F φ st H ∧ RD K F φ x a ∧ Sat K XR E (QE K Q) F φ (slD a lo hi st)
theorem rds_cut {K : PySem.W.Frag} {F : Hp} {φ : List Addr} {vs : List V} {xs : List D} (h : RDs K F φ vs xs) (lo hi : Option Int) : RDs K F φ (cutV vs lo hi) (cut xs lo hi) := by
  unfold cutV cut
  rw [rds_length h]
  exact rds_take _ (rds_drop _ h)
theorem cut_map {α β : Type} (f : α → β) (xs : List α) (lo hi : Option Int) : cut (xs.map f) lo hi = (cut xs lo hi).map f := by
  unfold cut
  rw [List.length_map, ← List.map_drop, ← List.map_take]
theorem cut_all {α : Type} {xs : List α} {lo hi : Option Int} (h : HT.sIx xs.length 0 lo = 0 ∧ HT.sIx xs.length xs.length hi = xs.length) : cut xs lo hi = xs := by
  unfold cut
  rw [h.1, h.2, List.drop_zero, Nat.sub_zero, List.take_length]
theorem sl_D {X : Cx} {XR : XRT} {c : Bool} : SlR X (rSl X.K XR c) := by
  intro pins s σ H x v vl vu lo hi sl Q I rx hs pl pu h
  obtain ⟨E, a, st, F, φ, S, ra, h⟩ := h
  unfold slD at h
  split at h
  · rename_i xs
    obtain ⟨l, vs, rfl, hl, hlF, r1⟩ := tup_ok S ra
    have e := rds_length r1
    rw [List.length_map] at e
    refine sl_tupA pins s σ H _ v vl vu lo hi sl Q I rx hs pl pu ⟨l, vs, rfl, hl, fun hw => ?_, fun _ p hp => ?_⟩
    · rw [e] at hw
      rw [cut_all hw] at h
      exact sat_val S ra h
    · have rr := rds_cut r1 lo hi
      rw [cut_map] at rr
      exact sat_newT S hp rr.dpAll h
  · rename_i z
    split at h
    · rename_i hz
      exact sl_str pins s σ H _ v vl vu lo hi sl Q I rx hs pl pu ⟨z, ra.str, sz_ok hz, sat_val S rd_str h⟩
    · exact h.elim
  · split at h
    · rename_i xs e0
      obtain ⟨l, vs, rfl, hl, r1⟩ := items_ok S ra e0
      exact sl_list pins s σ H _ v vl vu lo hi sl Q I rx hs pl pu ⟨l, vs, rfl, hl, fun p hp => sat_mkL S hp (rds_cut r1 lo hi) h⟩
    · exact h.elim
end MP

set_option Elab.async false
set_option linter.all false
set_option autoImplicit false
set_option maxRecDepth 100000
set_option maxHeartbeats 1000000
/-! sorting tuples whose first places that differ are alike -/
namespace MP
open PySem PySem.Spec PyProof.Rows L2 PySem.W

def lexOk : List PyData → List PyData → Bool
  | x :: xs, y :: ys => alike x y && (!PyData.eqv x y || lexOk xs ys)
  | _, _ => true
section
variable {prog : Program} {w : World} {A : Around} {s : Shared}
theorem katLex_mix {b fin : Bool} {Q : Bool → Shared → Prop} : ∀ (xs ys : List PyData) (i : Nat) (vs ws : List Value) (as bs : List Addr), ReadsAll s.heap vs xs as → ReadsAll s.heap ws ys bs → lexOk xs ys = true →
    A.units + min (PyData.depthAll xs) (PyData.depthAll ys) < cLine → (b = true → i = 0 → ∀ x r t, xs = x :: r → x ≠ .tuple t) → fin = decide (xs.length < ys.length) → Q (PyProof.Rows.lexLt itemOrd (keyToksAll xs) (keyToksAll ys)) s → KatLex prog w A b fin Q (vs.zip ws) i s
  | [], [], i, _, _, _, _, ra, rb, _, _, _, hf, hq => by
    cases ra
    cases rb
    have e : fin = false := by rw [hf]; rfl
    subst e
    rw [lex_irrefl] at hq
    exact kat_nil hq
  | [], y :: ys, i, _, _, _, _, ra, rb, _, _, _, hf, hq => by
    cases ra
    have e : fin = true := by rw [hf]; exact decide_eq_true (Nat.succ_pos _)
    subst e
    rw [toks_all_cons] at hq
    simp only [keyToksAll] at hq
    rw [lex_diff (O := itemOrd) (by simp)] at hq
    rw [List.zip_nil_left]
    exact kat_nil (by simpa [itemLt] using hq)
  | x :: xs, [], i, _, _, _, _, ra, rb, _, _, _, hf, hq => by
    cases rb
    have e : fin = false := by rw [hf]; exact decide_eq_false (Nat.not_lt_zero _)
    subst e
    rw [toks_all_cons] at hq
    simp only [keyToksAll] at hq
    rw [lex_diff (O := itemOrd) (by simp)] at hq
    rw [List.zip_nil_right]
    exact kat_nil (by simpa [itemLt] using hq)
  | x :: xs, y :: ys, i, _, _, _, _, ra, rb, h, hu, hb, hf, hq => by
    unfold lexOk at h
    rw [Bool.and_eq_true] at h
    obtain ⟨h1, h2⟩ := h
    have hf' : fin = decide (xs.length < ys.length) := by
      rw [hf]
      simp only [List.length_cons, Nat.add_lt_add_iff_right]
    cases ra with
    | cons r rs =>
      cases rb with
      | cons r' rs' =>
        rw [List.zip_cons_cons]
        refine kat_cons (eqAt_alike x y A s _ _ _ _ r r' h1 (SeqAt.room_head hu) prog w _ _ ?_)
        cases hx : PyData.eqv x y with
        | true =>
          rw [dataLt_all_yes h1 hx] at hq
          exact kat_yes (katLex_mix xs ys (i + 1) _ _ _ _ rs rs' (by simpa [hx] using h2) (SeqAt.room_tail hu) (fun _ hi => absurd hi (Nat.succ_ne_zero i)) hf' hq)
        | false =>
          rw [dataLt_all_no h1 hx] at hq
          refine kat_no (oneLt_alike (fun hbi t => ?_) r r' h1 (ne_none_of h1 hx) (SeqAt.room_head hu) hq)
          rw [Bool.and_eq_true] at hbi
          exact hb hbi.1 (by simpa using hbi.2) x xs t rfl
theorem dataKind_plain {h : Heap} {ds : List PyData} (hp : ∀ d ∈ ds, d.plain = true) {v : Value} {d : PyData} {as : List Addr} (hd : d ∈ ds) (r : Reads h v d as) : (dataKind h ds).keyOf v = some (keyToks d) := by
  have q : ∃ d, d ∈ ds ∧ ∃ as, Reads h v d as := ⟨d, hd, as, r⟩
  have e : (dataKind h ds).keyOf v = some (keyToks q.choose) := by
    show (open Classical in if q : ∃ d, d ∈ ds ∧ ∃ as, Reads h v d as then some (keyToks q.choose) else none) = _
    rw [dif_pos q]
  obtain ⟨h1, as', h2⟩ := q.choose_spec
  rw [e, SeqAt.plain_unique _ _ _ _ _ (hp _ h1) h2 r]
/-- tuples that may be sorted, the first places that differ being alike -/
def mixTs (ds : List PyData) : Prop := (∀ d ∈ ds, d.plain = true ∧ ∃ x r, d = .tuple (x :: r)) ∧ (∀ x r x' r', PyData.tuple (x :: r) ∈ ds → PyData.tuple (x' :: r') ∈ ds → lexOk (x :: r) (x' :: r') = true)
theorem sortsMix {vs : List Value} {ds : List PyData} (e : EachIs (fun v d => ∃ as, Reads s.heap v d as) vs ds) (hm : mixTs ds) (hu : ∀ d, d ∈ ds → A.units + d.depth < cLine) : SortsAt prog w A s (dataKind s.heap ds) vs := by
  have room : ∀ {d d' : PyData}, d ∈ ds → A.units + min d.depth d'.depth < cLine := fun {d d'} hd => Nat.lt_of_le_of_lt (Nat.add_le_add_left (Nat.min_le_left _ _) _) (hu d hd)
  have ht : ∀ d ∈ ds, ∃ x r, d = .tuple (x :: r) := fun d hd => (hm.1 d hd).2
  refine ⟨fun v hv => ?_, ?_⟩
  · obtain ⟨d, hd, as, r⟩ := e.left v hv
    exact ⟨_, dataKind_plain (fun d hd => (hm.1 d hd).1) hd r⟩
  · cases ds with
    | nil =>
      cases e
      exact ⟨general', fun E x y a b Q ha _ _ => (by
        obtain ⟨d, _, hd, _⟩ := dataKind_inv ha
        exact absurd hd (by simp)), fun h2 => absurd h2 (by simp)⟩
    | cons d₀ ds₀ =>
      obtain ⟨x₀, r₀, e₀⟩ := ht d₀ (List.mem_cons_self ..)
      have hfirst : ∀ x r, PyData.tuple (x :: r) ∈ d₀ :: ds₀ → alike x x₀ = true := by
        intro x r h
        have q := hm.2 x r x₀ r₀ h (e₀ ▸ List.mem_cons_self ..)
        unfold lexOk at q
        rw [Bool.and_eq_true] at q
        exact q.1
      refine ⟨tuples' (dataType x₀ != Value.type "tuple"), ?_, fun h2 E Q hq => ?_⟩
      · intro E x y a b Q ha hb hq
        obtain ⟨d, as, hd, ra, rfl⟩ := dataKind_inv ha
        obtain ⟨d', as', hd', rb, rfl⟩ := dataKind_inv hb
        have hroom := room (d' := d') hd
        obtain ⟨x1, r1, rfl⟩ := ht d hd
        obtain ⟨x2, r2, rfl⟩ := ht d' hd'
        have hdd := hm.2 _ _ _ _ hd hd'
        have hq' : Q (dataLt (.tuple (x1 :: r1)) (.tuple (x2 :: r2))) s := hq
        rw [dataLt_tuple] at hq'
        cases ra with
        | @tuple l o xs n _ _ h1 h2 h3 h4 =>
          cases rb with
          | @tuple l' o' xs' n' _ _ k1 k2 k3 k4 =>
            have n1 : xs.size = (x1 :: r1).length := by simpa using SeqAt.ReadsAll.length _ _ _ h4
            have n2 : xs'.size = (x2 :: r2).length := by simpa using SeqAt.ReadsAll.length _ _ _ k4
            refine kat_lt h1 h3 k1 k3 (katLex_mix (x1 :: r1) (x2 :: r2) 0 _ _ _ _ h4 k4 hdd (by have q := SeqAt.room_in hroom; omega) (fun hb _ x r t ex => ?_) (by rw [n1, n2]) hq')
            obtain ⟨rfl, rfl⟩ := List.cons.inj ex
            have q := dataType_alike (hfirst _ _ hd)
            rw [← q] at hb
            exact dataType_tuple hb t
      · obtain ⟨fs, t1, t2, t3⟩ := each_katTups e ht
        refine kat_kind (T := dataType x₀) t1 (by omega) (fun f hf => ?_) (beq_self_eq_true _) hq
        obtain ⟨x, r, as, m1, m2⟩ := t3 f hf
        rw [← dataType_alike (hfirst x r m1)]
        exact looks_reads m2
theorem each_keysP {h : Heap} {ds : List PyData} (hp : ∀ d ∈ ds, d.plain = true) {vs : List Value} (e : EachIs (fun v d => ∃ as, Reads h v d as) vs ds) : EachIs (fun v d => (dataKind h ds).keyOf v = some (keyToks d)) vs ds :=
  (each_mem e).mono fun _ _ ⟨⟨_, r⟩, hd⟩ => dataKind_plain hp hd r
theorem sortedMix {β : Type} {R : Value → β → Prop} {enc : β → PyData} {vs : List Value} {bs : List β} {E : Value → Shared → Prop} {l : Addr} {Q : Value → Shared → Prop} (hl : s.heap.IsList l vs.toArray) (e : EachIs R vs bs) (er : EachIs (fun v b => ∃ as, Reads s.heap v (enc b) as) vs bs) (hm : mixTs (bs.map enc)) (hL : bs.length ≤ sizeLine)
    (hu : ∀ b, b ∈ bs → A.units + 2 + (enc b).depth < cLine) (h : ∀ out, out.length = bs.length → EachIs R out (bs.mergeSort (dataLe false enc)) → Q (.ref (s.heap.objs.size + 1)) { s with heap := sortedAll s.heap vs (List.toArray out) }) :
    wpAny (model prog w) A (call (.builtin "sorted") [.ref l]) Q E s := by
  have er' : EachIs (fun v b => ∃ as, Reads (sortingHeap (copyHeap s.heap vs) (s.heap.objs.size + 1) vs) v (enc b) as) vs bs := er.mono fun _ _ ⟨as, r⟩ => ⟨as, PyProof.Rows.Reads.keeps (fun _ _ => sorting_copy_old) r⟩
  refine sorted_vals hl (sortsMix (s := { s with heap := sortingHeap (copyHeap s.heap vs) (s.heap.objs.size + 1) vs }) (each_map (R := fun v d => ∃ as, Reads (sortingHeap (copyHeap s.heap vs) (s.heap.objs.size + 1) vs) v d as) enc er') hm (bound_map hu)) (by rw [e.length]; exact hL)
    (h _ (by rw [sortVals_length false rfl]; exact e.length) ?_)
  exact sortVals_each (κ := dataKind _ (bs.map enc)) (fun b => keyToks (enc b)) e (each_of_map enc (each_keysP (fun d hd => (hm.1 d hd).1) (each_map (R := fun v d => ∃ as, Reads _ v d as) enc er')))
end
end MP

set_option Elab.async false
set_option linter.all false
set_option autoImplicit false
set_option maxRecDepth 100000
set_option maxHeartbeats 1000000
/-! built-in calls on values -/
namespace MP
open PySem PySem.Spec PyProof.Rows L2

/-! ### built-in functions -/
def tyName (d : D) (st : Store) : Option String :=
  match d with
  | .p .none => some "NoneType"
  | .p (.bool _) => some "bool"
  | .p (.int _) => some "int"
  | .p (.str _) => some "str"
  | .p (.tuple _) => some "tuple"
  | d => (items d st).map fun _ => "list"
def isiB (t c : String) : Bool := t == c || (t == "bool" && c == "int")
def isiOk (c : String) : Bool := c == "int" || c == "bool" || c == "str" || c == "list" || c == "tuple"
def isiD (c : String) (d : D) (st : Store) : R D :=
  match tyName d st with
  | some t => .ok (.p (.bool (isiB t c))) st
  | none => .bad
inductive Bi where
  | len | all | any | sorted (c : Bool) | tuple | list (c : Bool) | max | min | sum | int
def lenD (a : D) (st : Store) : R D :=
  match a with
  | .p (.str x) => if x.length ≤ SZ then .ok (.p (.int x.length)) st else .bad
  | .p (.tuple xs) => .ok (.p (.int xs.length)) st
  | a => match items a st with
    | some xs => .ok (.p (.int xs.length)) st
    | none => .bad
def bools : List D → Option (List Bool)
  | [] => some []
  | .p (.bool b) :: r => (bools r).map (b :: ·)
  | _ => none
theorem bools_some : ∀ {ds : List D} {bs : List Bool}, bools ds = some bs → ds = bs.map fun b => D.p (.bool b)
  | [], _, h => by cases h; rfl
  | .p (.bool b) :: r, _, h => by
    obtain ⟨cs, h1, rfl⟩ := Option.map_eq_some_iff.mp (show (bools r).map (b :: ·) = some _ from h)
    rw [bools_some h1]; rfl
  | .p .none :: _, _, h => by cases h
  | .p (.int _) :: _, _, h => by cases h
  | .p (.str _) :: _, _, h => by cases h
  | .p (.list _) :: _, _, h => by cases h
  | .p (.tuple _) :: _, _, h => by cases h
  | .p (.dict _) :: _, _, h => by cases h
  | .c _ :: _, _, h => by cases h
@[simp] theorem bools_map {α : Type} (f : α → Bool) (xs : List α) : bools (xs.map fun x => D.p (.bool (f x))) = some (xs.map f) := by
  induction xs with
  | nil => rfl
  | cons x r ih => show (bools (r.map _)).map (f x :: ·) = _; rw [ih]; rfl
def allD (isAll : Bool) (a : D) (st : Store) : R D :=
  match items a st with
  | some xs => match bools xs with
    | some bs => .ok (.p (.bool (if isAll then bs.all id else bs.any id))) st
    | none => .bad
  | none => .bad
theorem rds_bools {K : PySem.W.Frag} {F : Hp} {φ : List Addr} : ∀ {vs : List V} {bs : List Bool}, RDs K F φ vs (bs.map fun b => D.p (.bool b)) → vs = bs.map V.bl
  | _, [], h => by cases h; rfl
  | _, b :: bs, h => by
    cases h with
    | cons a t =>
      rw [rds_bools t, a.bl]; rfl
def tupleD (a : D) (st : Store) : R D :=
  match a with
  | .p (.tuple xs) => .ok (.p (.tuple xs)) st
  | a => match items a st with
    | some xs => match pures xs with
      | some ys => .ok (.p (.tuple ys)) st
      | none => .bad
    | none => .bad
def listD (c : Bool) (a : D) (st : Store) : R D :=
  match a with
  | .p (.tuple xs) => mkL c (xs.map .p) st
  | a => match items a st with
    | some xs => mkL c xs st
    | none => .bad
def intsP : List PyData → Option (List Int)
  | [] => some []
  | .int i :: r => (intsP r).map (i :: ·)
  | _ => none
def strsP : List PyData → Option (List Str)
  | [] => some []
  | .str i :: r => (strsP r).map (i :: ·)
  | _ => none
theorem ints_some : ∀ {ds : List PyData} {bs : List Int}, intsP ds = some bs → ds = bs.map .int
  | [], _, h => by cases h; rfl
  | .int b :: r, _, h => by
    obtain ⟨cs, h1, rfl⟩ := Option.map_eq_some_iff.mp (show (intsP r).map (b :: ·) = some _ from h)
    rw [ints_some h1]; rfl
  | .none :: _, _, h => by cases h
  | .bool _ :: _, _, h => by cases h
  | .str _ :: _, _, h => by cases h
  | .list _ :: _, _, h => by cases h
  | .tuple _ :: _, _, h => by cases h
  | .dict _ :: _, _, h => by cases h
theorem strs_some : ∀ {ds : List PyData} {bs : List Str}, strsP ds = some bs → ds = bs.map .str
  | [], _, h => by cases h; rfl
  | .str b :: r, _, h => by
    obtain ⟨cs, h1, rfl⟩ := Option.map_eq_some_iff.mp (show (strsP r).map (b :: ·) = some _ from h)
    rw [strs_some h1]; rfl
  | .none :: _, _, h => by cases h
  | .bool _ :: _, _, h => by cases h
  | .int _ :: _, _, h => by cases h
  | .list _ :: _, _, h => by cases h
  | .tuple _ :: _, _, h => by cases h
  | .dict _ :: _, _, h => by cases h
@[simp] theorem ints_map (xs : List Int) : intsP (xs.map .int) = some xs := by
  induction xs with
  | nil => rfl
  | cons x r ih => show (intsP (r.map _)).map (x :: ·) = _; rw [ih]; rfl
@[simp] theorem strs_map (xs : List Str) : strsP (xs.map .str) = some xs := by
  induction xs with
  | nil => rfl
  | cons x r ih => show (strsP (r.map _)).map (x :: ·) = _; rw [ih]; rfl
theorem dp_ints {K : PySem.W.Frag} {F : Hp} : ∀ {vs : List V} {ns : List Int}, DpAll K F vs (ns.map .int) → vs = ns.map V.int
  | _, [], h => by cases h; rfl
  | _, n :: ns, h => by cases h with | cons a t => cases a; rw [dp_ints t]; rfl
theorem dp_strs {K : PySem.W.Frag} {F : Hp} : ∀ {vs : List V} {ns : List Str}, DpAll K F vs (ns.map .str) → vs = ns.map V.str
  | _, [], h => by cases h; rfl
  | _, n :: ns, h => by cases h with | cons a t => cases a; rw [dp_strs t]; rfl
/-- data that may be sorted -/
def sortOk (xs : List PyData) : Bool :=
  (xs.all fun x => xs.all fun y => PySem.W.alike x y) && ((xs.all fun x => match x with | .tuple (_ :: _) => true | _ => false) || (xs.all fun x => match x with | .tuple _ => false | .none => false | _ => true)) &&
    (xs.all fun x => decide (x.depth ≤ 64)) && decide (xs.length ≤ SZ)
def sortP (xs : List PyData) : List PyData := xs.mergeSort (PySem.W.dataLe false fun x => x)
def mixB (xs : List PyData) : Bool :=
  (xs.all fun x => match x with | .tuple (_ :: _) => x.plain | _ => false) && (xs.all fun x => xs.all fun y => match x, y with | .tuple a, .tuple b => lexOk a b | _, _ => false) && (xs.all fun x => decide (x.depth ≤ 64)) && decide (xs.length ≤ SZ)
def sortedD (c : Bool) (a : D) (st : Store) : R D :=
  match items a st with
  | some xs => match pures xs with
    | some ys => if (sortOk ys || mixB ys) = true then mkL c ((sortP ys).map .p) st else .bad
    | none => .bad
  | none => .bad
def allAlikeB (xs : List PyData) : Bool := (xs.all fun x => notNone x && xs.all fun y => PySem.W.alike x y) && decide (PyData.depthAll xs ≤ 64)
def maxD (mx : Bool) (a : D) (st : Store) : R D :=
  match a with
  | .p (.tuple _) => .bad
  | a => match items a st with
    | some xs => match pures xs with
      | some (y :: ys) => if allAlikeB (y :: ys) = true then .ok (.p (if mx then PySem.W.maxD y ys else PySem.W.minD y ys)) st else .bad
      | _ => .bad
    | none => .bad
def max2D (mx : Bool) (a b : D) (st : Store) : R D :=
  match a, b with
  | .p (.int i), .p (.int j) => .ok (.p (.int (if mx then (if j > i then j else i) else (if j < i then j else i)))) st
  | _, _ => .bad
def sumD (a : D) (st : Store) : R D :=
  match items a st with
  | some xs => match pures xs with
    | some ys => match intsP ys with
      | some ns => .ok (.p (.int ns.sum)) st
      | none => .bad
    | none => .bad
  | none => .bad
def intD (a : D) (st : Store) : R D :=
  match a with
  | .p (.bool b) => .ok (.p (.int (if b then 1 else 0))) st
  | .p (.int i) => .ok (.p (.int i)) st
  | _ => .bad
def bi1D : Bi → D → Store → R D
  | .len => lenD
  | .all => allD true
  | .any => allD false
  | .sorted c => sortedD c
  | .tuple => tupleD
  | .list c => listD c
  | .max => maxD true
  | .min => maxD false
  | .sum => sumD
  | .int => intD
/-- the name, and what stands behind it -/
def bi1N : Bi → Str
  | .len => "len"
  | .all => "all"
  | .any => "any"
  | .sorted _ => "sorted"
  | .tuple => "tuple"
  | .list _ => "list"
  | .max => "max"
  | .min => "min"
  | .sum => "sum"
  | .int => "int"
def bi1T : Bi → Bool
  | .int => true
  | .tuple => true
  | .list _ => true
  | _ => false
def r1 (r : V → Hp → VK → Prop) : List V → Hp → VK → Prop := fun xs H Q => ∃ x, xs = [x] ∧ r x H Q
def r2 (r : R2) : List V → Hp → VK → Prop := fun xs H Q => ∃ x y, xs = [x, y] ∧ r x y H Q
section
variable {X : Cx} {XR : XRT} {E : XK}
theorem c_len : CallR X (.builtin "len") (r1 (rU X.K XR lenD)) := by
  intro pins s σ H xs us Q I r h
  obtain ⟨x, rfl, E, a, st, F, φ, S, ra, h⟩ := h
  unfold lenD at h
  split at h
  · rename_i z
    split at h
    · rename_i hz
      exact call_len_str pins s σ H _ us Q I r ⟨z, by rw [ra.str], sz_ok hz, sat_val S rd_int h⟩
    · exact h.elim
  · obtain ⟨l, vs, rfl, hl, _, r1⟩ := tup_ok S ra
    have e := rds_length r1
    rw [List.length_map] at e
    exact call_len_seq pins s σ H _ us Q I r ⟨l, vs, rfl, .inr hl, by rw [e]; exact sat_val S rd_int h⟩
  · split at h
    · rename_i ys e0
      obtain ⟨l, vs, rfl, hl, r1⟩ := items_ok S ra e0
      exact call_len_seq pins s σ H _ us Q I r ⟨l, vs, rfl, .inl hl, by rw [rds_length r1]; exact sat_val S rd_int h⟩
    · exact h.elim
theorem c_all (hc : X.calm = true) : CallR X (.builtin "all") (r1 (rU X.K XR (allD true))) := by
  intro pins s σ H xs us Q I r h
  obtain ⟨x, rfl, E, a, st, F, φ, S, ra, h⟩ := h
  unfold allD at h
  split at h
  · rename_i ys e0
    split at h
    · rename_i bs e1
      obtain ⟨l, vs, rfl, hl, r1⟩ := items_ok S ra e0
      rw [bools_some e1] at r1
      rw [rds_bools r1] at hl
      exact cr_all hc pins s σ H _ us Q I r ⟨l, bs, rfl, hl, sat_val S rd_bl h⟩
    · exact h.elim
  · exact h.elim
theorem c_any (hc : X.calm = true) : CallR X (.builtin "any") (r1 (rU X.K XR (allD false))) := by
  intro pins s σ H xs us Q I r h
  obtain ⟨x, rfl, E, a, st, F, φ, S, ra, h⟩ := h
  unfold allD at h
  split at h
  · rename_i ys e0
    split at h
    · rename_i bs e1
      obtain ⟨l, vs, rfl, hl, r1⟩ := items_ok S ra e0
      rw [bools_some e1] at r1
      rw [rds_bools r1] at hl
      exact cr_any hc pins s σ H _ us Q I r ⟨l, bs, rfl, hl, sat_val S rd_bl h⟩
    · exact h.elim
  · exact h.elim
theorem c_tuple : CallR X (.type "tuple") (r1 (rU X.K XR tupleD)) := by
  intro pins s σ H xs us Q I r h
  obtain ⟨x, rfl, E, a, st, F, φ, S, ra, h⟩ := h
  unfold tupleD at h
  split at h
  · obtain ⟨l, vs, rfl, hl, _, r1⟩ := tup_ok S ra
    exact call_tuple_of pins s σ H _ us Q I r ⟨l, vs, rfl, .inr ⟨hl, sat_val S ra h⟩⟩
  · split at h
    · rename_i ys e0
      split at h
      · rename_i zs e1
        obtain ⟨l, vs, rfl, hl, r1⟩ := items_ok S ra e0
        rw [pures_some e1] at r1
        exact call_tuple_of pins s σ H _ us Q I r ⟨l, vs, rfl, .inl ⟨hl, fun p hp => sat_newT S hp r1.dpAll h⟩⟩
      · exact h.elim
    · exact h.elim
theorem c_list {c : Bool} : CallR X (.type "list") (r1 (rU X.K XR (listD c))) := by
  intro pins s σ H xs us Q I r h
  obtain ⟨x, rfl, E, a, st, F, φ, S, ra, h⟩ := h
  unfold listD at h
  split at h
  · obtain ⟨l, vs, rfl, hl, _, r1⟩ := tup_ok S ra
    exact call_list_of pins s σ H _ us Q I r ⟨l, vs, rfl, .inr hl, fun p hp => sat_mkL S hp r1 h⟩
  · split at h
    · rename_i ys e0
      obtain ⟨l, vs, rfl, hl, r1⟩ := items_ok S ra e0
      exact call_list_of pins s σ H _ us Q I r ⟨l, vs, rfl, .inl hl, fun p hp => sat_mkL S hp r1 h⟩
    · exact h.elim
theorem c_sum (hc : X.calm = true) : CallR X (.builtin "sum") (r1 (rU X.K XR sumD)) := by
  intro pins s σ H xs us Q I r h
  obtain ⟨x, rfl, E, a, st, F, φ, S, ra, h⟩ := h
  unfold sumD at h
  split at h
  · rename_i ys e0
    split at h
    · rename_i zs e1
      split at h
      · rename_i ns e2
        obtain ⟨l, vs, rfl, hl, r1⟩ := items_ok S ra e0
        rw [pures_some e1] at r1
        have q := r1.dpAll
        rw [ints_some e2] at q
        rw [dp_ints q] at hl
        exact cr_sum hc pins s σ H _ us Q I r ⟨l, ns, rfl, hl, sat_val S rd_int h⟩
      · exact h.elim
    · exact h.elim
  · exact h.elim
theorem c_max2 (hc : X.calm = true) : CallR X (.builtin "max") (r2 (rO X.K XR (max2D true))) := by
  intro pins s σ H xs us Q I r h
  obtain ⟨x, y, rfl, E, a, b, st, F, φ, S, ra, rb, h⟩ := h
  unfold max2D at h
  split at h
  · rename_i i j
    exact call_max2 hc pins s σ H _ us Q I r ⟨i, j, by rw [ra.int, rb.int], sat_val S rd_int h⟩
  · exact h.elim
theorem c_min2 (hc : X.calm = true) : CallR X (.builtin "min") (r2 (rO X.K XR (max2D false))) := by
  intro pins s σ H xs us Q I r h
  obtain ⟨x, y, rfl, E, a, b, st, F, φ, S, ra, rb, h⟩ := h
  unfold max2D at h
  split at h
  · rename_i i j
    exact call_min2 hc pins s σ H _ us Q I r ⟨i, j, by rw [ra.int, rb.int], sat_val S rd_int h⟩
  · exact h.elim

theorem eachIs_of {K : PySem.W.Frag} {F : Hp} : ∀ {its : List Value} {vs : List V} {xs : List PyData}, Vals vs its → DpAll K F vs xs →
    PySem.W.EachIs (fun (v : Value) (b : V × PyData) => RelV b.1 v ∧ Dp K F b.1 b.2) its (vs.zip xs)
  | _, _, _, .nil, .nil => .nil
  | _, _, _, .cons r t, .cons a b => .cons ⟨r, a⟩ (eachIs_of t b)
theorem of_eachIs {K : PySem.W.Frag} {F : Hp} : ∀ {its : List Value} {bs : List (V × PyData)}, PySem.W.EachIs (fun (v : Value) (b : V × PyData) => RelV b.1 v ∧ Dp K F b.1 b.2) its bs →
    Vals (bs.map (·.1)) its ∧ DpAll K F (bs.map (·.1)) (bs.map (·.2))
  | _, _, .nil => ⟨.nil, .nil⟩
  | _, _, .cons r t => let ⟨a, b⟩ := of_eachIs t; ⟨.cons r.1 a, .cons r.2 b⟩
theorem eachIs_reads {X : Cx} {pins : List (Addr × Obj)} {σ : L2.St} {H : Hp} {s : Shared} (I : Inv X pins σ H s) : ∀ {its : List Value} {bs : List (V × PyData)}, PySem.W.EachIs (fun (v : Value) (b : V × PyData) => RelV b.1 v ∧ Dp X.K H b.1 b.2) its bs →
    PySem.W.EachIs (fun (v : Value) (b : V × PyData) => ∃ as, Reads s.heap v b.2 as) its bs
  | _, _, .nil => .nil
  | _, _, .cons r t => .cons (Dp.reads I _ _ _ r.2 r.1) (eachIs_reads I t)
theorem eachIs_mono {K : PySem.W.Frag} {F H : Hp} (e : Evl.Ex F H) : ∀ {its : List Value} {bs : List (V × PyData)}, PySem.W.EachIs (fun (v : Value) (b : V × PyData) => RelV b.1 v ∧ Dp K F b.1 b.2) its bs → PySem.W.EachIs (fun (v : Value) (b : V × PyData) => RelV b.1 v ∧ Dp K H b.1 b.2) its bs
  | _, _, .nil => .nil
  | _, _, .cons r t => .cons ⟨r.1, dp_mono e r.2⟩ (eachIs_mono e t)
theorem zip_snd {α β : Type} : ∀ {xs : List α} {ys : List β}, xs.length = ys.length → (xs.zip ys).map (·.2) = ys
  | [], [], _ => rfl
  | x :: xs, y :: ys, h => by simp [zip_snd (xs := xs) (ys := ys) (by simpa using h)]
theorem sortOk_of {xs : List PyData} (h : sortOk xs = true) : PySem.W.AllAlike xs ∧ PySem.W.Sortable xs ∧ (∀ x ∈ xs, x.depth ≤ 64) ∧ xs.length ≤ SZ := by
  unfold sortOk at h
  simp only [Bool.and_eq_true, List.all_eq_true, Bool.or_eq_true, decide_eq_true_eq] at h
  obtain ⟨⟨⟨h1, h2⟩, h3⟩, h4⟩ := h
  refine ⟨fun d hd e he => h1 d hd e he, ?_, h3, h4⟩
  rcases h2 with h2 | h2
  · refine .inl fun d hd => ?_
    have := h2 d hd
    split at this
    · exact ⟨_, _, rfl⟩
    · cases this
  · refine .inr fun d hd => ?_
    have := h2 d hd
    split at this
    · cases this
    · cases this
    · rename_i q1 q2
      exact ⟨q2, q1⟩
theorem mixB_of {xs : List PyData} (h : mixB xs = true) : mixTs xs ∧ (∀ x ∈ xs, x.depth ≤ 64) ∧ xs.length ≤ SZ := by
  unfold mixB at h
  simp only [Bool.and_eq_true, List.all_eq_true, decide_eq_true_eq] at h
  obtain ⟨⟨⟨h1, h2⟩, h3⟩, h4⟩ := h
  refine ⟨⟨fun d hd => ?_, fun x r x' r' hx hy => h2 _ hx _ hy⟩, h3, h4⟩
  have := h1 d hd
  split at this
  · exact ⟨this, _, _, rfl⟩
  · cases this
theorem c_int : CallR X (.type "int") (r1 (rU X.K XR intD)) := by
  intro pins s σ H xs us Q I r h
  obtain ⟨x, rfl, E, a, st, F, φ, S, ra, h⟩ := h
  unfold intD at h
  split at h
  · rename_i b
    exact call_int1 pins s σ H _ us Q I r (.inr ⟨b, by rw [ra.bl], sat_val S rd_int h⟩)
  · rename_i i
    exact call_int1 pins s σ H _ us Q I r (.inl ⟨i, by rw [ra.int], sat_val S rd_int h⟩)
  · exact h.elim
theorem c_sorted (hu : X.A.units + 200 < cLine) {c : Bool} : CallR X (.builtin "sorted") (r1 (rU X.K XR (sortedD c))) := by
  intro pins s σ H xs us Q I r h
  obtain ⟨x, rfl, E, a, st, F, φ, S, ra, h⟩ := h
  unfold sortedD at h
  split at h
  · rename_i ys e0
    split at h
    · rename_i zs e1
      split at h
      · rename_i hok
        obtain ⟨l, vs, rfl, hl, rr⟩ := items_ok S ra e0
        rw [pures_some e1] at rr
        have rd := rr.dpAll
        have hlen := rds_length rr
        rw [List.length_map] at hlen
        obtain ⟨its, rv, pl, _⟩ := I.list hl
        obtain ⟨u, rfl, ru⟩ := Vals.one r
        cases ru
        have ei := eachIs_of rv rd
        have hz := zip_snd hlen
        have h4 : zs.length ≤ SZ := by
          rcases Bool.or_eq_true _ _ ▸ hok with hok | hok
          · exact (sortOk_of hok).2.2.2
          · exact (mixB_of hok).2.2
        have h3 : ∀ x ∈ zs, x.depth ≤ 64 := by
          rcases Bool.or_eq_true _ _ ▸ hok with hok | hok
          · exact (sortOk_of hok).2.2.1
          · exact (mixB_of hok).2.1
        have g1 : (vs.zip zs).length ≤ sizeLine := by rw [List.length_zip, hlen, Nat.min_self]; exact sz_ok h4
        have g2 : ∀ b ∈ vs.zip zs, X.A.units + 2 + b.2.depth < cLine := by
          intro b hb
          have : b.2 ∈ (vs.zip zs).map (·.2) := List.mem_map_of_mem hb
          rw [hz] at this
          have := h3 _ this
          omega
        have fin : ∀ out : List Value, out.length = (vs.zip zs).length → PySem.W.EachIs (fun (v : Value) (b : V × PyData) => RelV b.1 v ∧ Dp X.K F b.1 b.2) out ((vs.zip zs).mergeSort (PySem.W.dataLe false fun b => b.2)) →
            EP X pins σ Q (.ref (s.heap.objs.size + 1)) { s with heap := PyProof.Rows.sortedAll s.heap its (List.toArray out) } := fun out ho eo => by
          obtain ⟨ep, he'⟩ := PyProof.Rows.sortedAll_at s.heap its out.toArray
          obtain ⟨k1, k2⟩ := of_eachIs eo
          have hmap : ((vs.zip zs).mergeSort (PySem.W.dataLe false fun b => b.2)).map (·.2) = sortP zs := by
            unfold sortP
            have e := List.map_mergeSort (r := PySem.W.dataLe false fun b : V × PyData => b.2) (s := PySem.W.dataLe false fun x : PyData => x) (f := fun b : V × PyData => b.2) (l := vs.zip zs) (fun a _ b _ => rfl)
            rw [hz] at e
            exact e
          rw [hmap] at k2
          have kl := k1.length
          have hlen2 : out.length ≤ sizeLine := by rw [ho, List.length_zip, hlen, Nat.min_self]; exact sz_ok h4
          have hf : H (s.heap.objs.size + 1) = none := I.hok.fresh (Nat.le_succ _)
          refine ⟨.ref _, upd H (s.heap.objs.size + 1) (.lst _), I.laid (t' := s.toks) (fun _ _ => PyProof.Rows.sortedAll_old) (Nat.le_succ _) ⟨by rw [kl]; exact hlen2, out, ep, k1, he'⟩, rfl, ?_⟩
          exact sat_mkL S hf (dpAll_rds k2) h
        rcases Bool.or_eq_true _ _ ▸ hok with hok | hok
        · obtain ⟨h1, h2, _, _⟩ := sortOk_of hok
          exact PySem.W.sorted_data (bs := vs.zip zs) (enc := fun b => b.2) pl.isList ei (eachIs_reads I (eachIs_mono S.sub ei)) (by rw [hz]; exact h1) (by rw [hz]; exact h2) g1 g2 fin
        · obtain ⟨h1, _, _⟩ := mixB_of hok
          exact sortedMix (bs := vs.zip zs) (enc := fun b => b.2) pl.isList ei (eachIs_reads I (eachIs_mono S.sub ei)) (by rw [hz]; exact h1) g1 g2 fin
      · exact h.elim
    · exact h.elim
  · exact h.elim
theorem allAlikeB_of {xs : List PyData} (h : allAlikeB xs = true) : PySem.W.AlikeAll xs ∧ PyData.depthAll xs ≤ 64 := by
  unfold allAlikeB at h
  simp only [Bool.and_eq_true, List.all_eq_true, decide_eq_true_eq] at h
  exact ⟨⟨fun x hx y hy => (h.1 x hx).2 y hy, fun x hx => notNone_ne (h.1 x hx).1⟩, h.2⟩
/-- the frozen item that a raw item of a list is, found again by its value -/
theorem reads_back {K : PySem.W.Frag} {F : Hp} : ∀ {its : List Value} {vs : List V} {xs : List PyData} {i : Nat} {v : Value}, Vals vs its → DpAll K F vs xs → its[i]? = some v → ∃ x y, RelV x v ∧ Dp K F x y ∧ y ∈ xs
  | _, _, _, 0, _, .cons r t, .cons a b, e => by cases Option.some.inj e; exact ⟨_, _, r, a, List.mem_cons_self⟩
  | _, _, _, i + 1, _, .cons r t, .cons a b, e => let ⟨x, y, h1, h2, h3⟩ := reads_back (i := i) t b e; ⟨x, y, h1, h2, List.mem_cons_of_mem _ h3⟩
  | _, _, _, _, _, .nil, .nil, e => by simp at e
theorem c_maxmin (hc : X.calm = true) (hu : X.A.units + 200 < cLine) (mx : Bool) : CallR X (.builtin (if mx then "max" else "min")) (r1 (rU X.K XR (maxD mx))) := by
  intro pins s σ H xs us Q I r h
  obtain ⟨x, rfl, E, a, st, F, φ, S, ra, h⟩ := h
  unfold maxD at h
  split at h
  · exact h.elim
  · split at h
    · rename_i ys e0
      split at h
      · rename_i y zs e1
        split at h
        · rename_i hok
          obtain ⟨h1, h2⟩ := allAlikeB_of hok
          obtain ⟨l, vs, rfl, hl, rr⟩ := items_ok S ra e0
          rw [pures_some e1] at rr
          have rd := rr.dpAll
          obtain ⟨its, rv, pl, _⟩ := I.list hl
          obtain ⟨u, rfl, ru⟩ := Vals.one r
          cases ru
          obtain ⟨as, hr⟩ := Dp.readsAll I _ vs its (dpAll_mono S.sub rd) rv
          have fin : ∀ (d : PyData), Sat X.K XR E (QE X.K Q) F φ (.ok (.p d) st) → ∀ (i : Nat) (v : Value) (h' : Heap) (tk : Nat) (bs : List Addr), its.toArray[i]? = some v → Reads h' v d bs → (∀ b o, s.heap.get? b = some o → h'.get? b = some o) →
              EP X pins σ Q v { s with heap := h', toks := tk } := by
            intro d h i v h' tk bs hv hrd hk
            obtain ⟨x, z, q1, q2, q3⟩ := reads_back rv rd (by simpa using hv)
            have I' : Inv X pins σ H { s with heap := h', toks := tk } := I.kept hk
            obtain ⟨bs', hrz⟩ := Dp.reads I' z x v (dp_mono S.sub q2) q1
            have e : z = d := PySem.SeqAt.plain_unique _ _ _ _ _ (dp_plain q2) hrz hrd
            subst e
            exact ⟨x, H, I', q1, sat_val S (show RD X.K F φ x (.p z) from q2) h⟩
          cases mx with
          | true => exact PySem.W.max_list_data (I.ok.hd hc) pl.isList hr h1 (by omega) (fin _ h)
          | false => exact PySem.W.min_list_data (I.ok.hd hc) pl.isList hr h1 (by omega) (fin _ h)
        · exact h.elim
      · exact h.elim
    · exact h.elim
def isiOkT (T : String) : Bool := T == "int" || T == "bool" || T == "str" || T == "list" || T == "tuple"
theorem kit_all (t c : String) (ht : t = "NoneType" ∨ t = "bool" ∨ t = "int" ∨ t = "str" ∨ t = "tuple" ∨ t = "list") (hc : isiOkT c = true) : kitB t c = some (isiB t c) := by
  unfold isiOkT at hc
  simp only [Bool.or_eq_true, beq_iff_eq] at hc
  rcases hc with (((hc | hc) | hc) | hc) | hc <;> subst hc <;> rcases ht with ht | ht | ht | ht | ht | ht <;> subst ht <;> decide +kernel
theorem tyName_ok {F H : Hp} {φ : List Addr} {st : Store} {a : D} {x : V} {t : String} (S : SR X.K F φ st H) (ra : RD X.K F φ x a) (e : tyName a st = some t) :
    TyX X.K H x (.type t) ∧ (t = "NoneType" ∨ t = "bool" ∨ t = "int" ∨ t = "str" ∨ t = "tuple" ∨ t = "list") := by
  have lists : (items a st).map (fun _ => "list") = some t → TyX X.K H x (.type t) ∧ (t = "NoneType" ∨ t = "bool" ∨ t = "int" ∨ t = "str" ∨ t = "tuple" ∨ t = "list") := fun e => by
    obtain ⟨ds, e1, rfl⟩ := Option.map_eq_some_iff.mp e
    obtain ⟨l, vs, rfl, hl, _⟩ := items_ok S ra e1
    refine ⟨?_, by simp⟩
    rcases hl with (hl | ⟨o, hl⟩) | ⟨o, its, n, hk, hc, _⟩
    · exact .base (.lst hl)
    · exact .base (.frz hl)
    · exact .kList hk hc
  cases a with
  | c n => exact lists e
  | p y =>
    cases y with
    | none => cases ra; cases Option.some.inj e; exact ⟨.base .non, by simp⟩
    | bool b => cases ra; cases Option.some.inj e; exact ⟨.base (.bl _), by simp⟩
    | int b => cases ra; cases Option.some.inj e; exact ⟨.base (.int _), by simp⟩
    | str b => cases ra; cases Option.some.inj e; exact ⟨.base (.str _), by simp⟩
    | list b => exact lists e
    | tuple b =>
      cases Option.some.inj e
      obtain ⟨l, vs, rfl, hl, _⟩ := tup_ok S ra
      refine ⟨?_, by simp⟩
      rcases hl with (hl | ⟨o, hl⟩) | ⟨o, its, n, hk, hc, _⟩
      · exact .base (.tup hl)
      · exact .fTuple hl
      · exact .kTuple hk hc
    | dict b => cases ra
/-- isinstance(x, T) -/
theorem c_isi {T : String} (hT : isiOkT T = true) : CallR X (.builtin "isinstance") (fun xs H Q => ∃ x, xs = [x, .ty T] ∧ rU X.K XR (isiD T) x H Q) := by
  intro pins s σ H xs us Q I r h
  obtain ⟨x, rfl, E, a, st, F, φ, S, ra, h⟩ := h
  unfold isiD at h
  split at h
  · rename_i t e
    obtain ⟨h1, h2⟩ := tyName_ok S ra e
    exact call_isi pins s σ H _ us Q I r ⟨x, .ty T, .type t, .type T, isiB t T, rfl, .ty T, h1, kit_ty (kit_all t T h2 hT), sat_val S rd_bl h⟩
  · exact h.elim
end
end MP

set_option Elab.async false
set_option linter.all false
set_option autoImplicit false
set_option maxRecDepth 100000
set_option maxHeartbeats 1000000
/-! the mirrored syntax, its meaning, what it is checked against -/
namespace MP
open PySem PySem.Spec PyProof.Rows L2

/-! ### syntax -/
/-- methods of built-in things -/
inductive Mth where
  | insert | clear | reverse | pop
mutual
inductive MT where
  | nm (i : Nat)
  | tup (l : MTs)
inductive MTs where
  | nil
  | cons (t : MT) (r : MTs)
end
mutual
inductive ME where
  | var (i : Nat)
  | lit (x : PyData)
  | glb (x : PyData)
  | gix (kvs : List (Str × PyData)) (e : ME)
  | bin (o : Operator) (a b : ME)
  | neg (a : ME)
  | not (a : ME)
  | and (a b : ME)
  | or (a b : ME)
  | one (a : ME)
  | cmp (o : CmpOp) (a b : ME)
  | cmp2 (o o2 : CmpOp) (a b c : ME)
  | ife (c a b : ME)
  | tup (es : MEs)
  | lst (c : Bool) (es : MEs)
  | frz (a : ME)
  | rev (a : ME)
  | dctE (t : Bool)
  | dct (ks : List Str) (es : MEs)
  | fld (a : ME) (f : Str) (cs : List Str)
  | meth (c : Str) (i : Nat) (m : Str) (o : ME) (es : MEs)
  | new (c : Str) (i : Nat) (es : MEs)
  | callT (fs : List Nat) (i : ME) (es : MEs)
  | callD (f : Nat) (es : MEs) (ds : List PyData)
  | mcall (m : Mth) (o : ME) (es : MEs)
  | ix (a b : ME)
  | sl (a : ME) (lo hi : MO)
  | bi (f : Bi) (a : ME)
  | mx2 (mx : Bool) (a b : ME)
  | isi (T : String) (a : ME)
  | call (f : Nat) (es : MEs)
  | join (a b : ME)
  | lc (c : Bool) (own : List Nat) (tg : MT) (it : MI) (cond : MO) (elt : ME)
inductive MEs where
  | nil
  | cons (e : ME) (r : MEs)
inductive MO where
  | none
  | some (e : ME)
inductive MI where
  | seq (e : ME)
  | rng1 (a : ME)
  | rng2 (a b : ME)
  | enum (a : ME)
  | zip (a b : ME)
end

/-! ### meaning -/
inductive Itm where
  | one (d : D)
  | two (a b : D)
/-- what is taken apart: a list or a tuple -/
def seqOf (d : D) (st : Store) : Option (List D) :=
  match items d st with
  | some ds => some ds
  | none => tups d st
mutual
def bindD (st : Store) : MT → D → Env → Option Env
  | .nm i, d, env => some (env.set i (some d))
  | .tup ts, d, env => (seqOf d st).bind fun ds => bindDs st ts ds env
def bindDs (st : Store) : MTs → List D → Env → Option Env
  | .nil, [], env => some env
  | .cons t r, d :: ds, env => (bindD st t d env).bind fun env => bindDs st r ds env
  | _, _, _ => none
end
def bindI (st : Store) : MT → Itm → Env → Option Env
  | t, .one d, env => bindD st t d env
  | .tup ts, .two a b, env => bindDs st ts [a, b] env
  | .nm _, .two _ _, _ => none
def dBelow (n : Nat) : D → Bool
  | .p _ => true
  | .c m => decide (m < n)
def cellBelow (n : Nat) : Cell → Bool
  | .lst ds => ds.all (dBelow n)
  | .tup ds => ds.all (dBelow n)
  | .dct kvs => kvs.all fun kv => dBelow n kv.2
  | .dtt kvs => kvs.all fun kv => dBelow n kv.2
  | .ins _ kvs => kvs.all fun kv => dBelow n kv.2
  | .dead => true
/-- the cells from n on dropped, where nothing before holds one -/
def gc (n : Nat) (st : Store) : Store := if (st.take n).all (cellBelow n) = true then st.take n else st
def wipeE (env : Env) : List Nat → Env
  | [] => env
  | v :: vs => (wipeE env vs).set v none
def varD (env : Env) (i : Nat) (st : Store) : R D :=
  match env[i]? with
  | some (some d) => .ok d st
  | _ => .bad
def truR (r : R D) : R Bool := r.bind fun d st => match tru d st with
  | some k => .ok k st
  | none => .bad
/-- no exception leaves a comprehension -/
def noEx {α : Type} (r : R α) : R α :=
  match r with
  | .ex _ _ => .bad
  | r => r
open Classical in
/-- the turns of a comprehension, its list in the cell n -/
noncomputable def lcL (gd : Store → Prop) (n : Nat) (tg : MT) (cond : MD) (elt : MD) (env0 : Env) : List Itm → Store → R Unit
  | [], st => if gd st then .ok () st else .bad
  | it :: r, st => if gd st then match bindI st tg it env0 with
      | none => .bad
      | some env1 => (noEx (truR (cond env1 st))).bind fun b st1 =>
          if b = true then (noEx (elt env1 st1)).bind fun d st2 => match cellL st2 n with
            | some acc => if acc.length < SZ then lcL gd n tg cond elt env0 r (st2.set n (.lst (acc ++ [d]))) else .bad
            | none => .bad
          else lcL gd n tg cond elt env0 r st1
    else .bad
def lcEnd (c : Bool) (n : Nat) (st : Store) : R D :=
  match c with
  | true => .ok (.c n) st
  | false => match cellL st n with
    | some ds => match pures ds with
      | some xs => .ok (.p (.list xs)) (gc n (st.set n .dead))
      | none => .bad
    | none => .bad
def ofOpt {α : Type} (o : Option α) (st : Store) : R α :=
  match o with
  | some a => .ok a st
  | none => .bad
def joinD (x : Str) (b : D) (st : Store) : R D :=
  match (match b with | .p (.tuple ys) => some ys | b => (items b st).bind pures) with
  | some ys => match strsP ys with
    | some zs => if (zs.map (·.length)).sum + zs.length * x.length ≤ SZ then .ok (.p (.str (Txt.join x zs))) st else .bad
    | none => .bad
  | none => .bad
def seqI (d : D) (st : Store) : R (List Itm × (Store → Prop)) :=
  match d with
  | .p (.list xs) => .ok (xs.map fun x => .one (.p x), fun _ => True) st
  | .p (.tuple xs) => .ok (xs.map fun x => .one (.p x), fun _ => True) st
  | .p (.str z) => .ok (z.cps.toList.map fun c => .one (.p (.str ⟨#[c]⟩)), fun _ => True) st
  | .c n => match cellL st n with
    | some ds => .ok (ds.map .one, fun st' => cellL st' n = some ds) st
    | none => .bad
  | _ => .bad
def rngI (lo hi : Int) (st : Store) : R (List Itm × (Store → Prop)) :=
  if -(2 ^ 62) ≤ lo ∧ lo < 2 ^ 62 ∧ -(2 ^ 62) ≤ hi ∧ hi < 2 ^ 62 then .ok ((List.range (hi - lo).toNat).map fun (i : Nat) => .one (.p (.int (lo + (i : Int)))), fun _ => True) st else .bad
/-- a list and while it stands -/
def gdOf (d : D) (ds : List D) : Store → Prop := fun st => items d st = some ds
def enumI (d : D) (st : Store) : R (List Itm × (Store → Prop)) :=
  match items d st with
  | some ds => .ok (ds.mapIdx fun i d => .two (.p (.int (i : Nat))) d, gdOf d ds) st
  | none => .bad
def zipI (a b : D) (st : Store) : R (List Itm × (Store → Prop)) :=
  match a, b with
  | .p (.tuple xs), .p (.tuple ys) => .ok ((xs.zip ys).map fun p => .two (.p p.1) (.p p.2), fun _ => True) st
  | .p (.str z), .p (.tuple ys) => .ok ((z.cps.toList.zip ys).map fun p => .two (.p (.str ⟨#[p.1]⟩)) (.p p.2), fun _ => True) st
  | a, b => match items a st, items b st with
    | some xs, some ys => .ok ((xs.zip ys).map fun p => .two p.1 p.2, fun st => gdOf a xs st ∧ gdOf b ys st) st
    | _, _ => .bad
/-- a constant dict of the module, its texts looked up -/
def gixD (kvs : List (Str × PyData)) (x : D) (st : Store) : R D :=
  match x with
  | .p (.str z) => match kvs.lookup z with
    | some v => .ok (.p v) st
    | none => .bad
  | _ => .bad
/-- a field of an exception: a parameter, or a list made of it -/
inductive FE where
  | arg (i : Nat)
  | lst (i : Nat)
def feEq : FE → FE → Bool
  | .arg i, .arg j => i == j
  | .lst i, .lst j => i == j
  | _, _ => false
def fesEq : List (Str × FE) → List (Str × FE) → Bool
  | [], [] => true
  | (f, a) :: r, (g, b) :: r' => f == g && feEq a b && fesEq r r'
  | _, _ => false
/-- the fields, the newest first -/
def mkX (ds : List D) : List (Str × FE) → List (Str × D) → Store → R (List (Str × D))
  | [], acc, st => .ok acc st
  | (f, .arg i) :: r, acc, st => match ds[i]? with
    | some d => mkX ds r ((f, d) :: acc) st
    | none => .bad
  | (f, .lst i) :: r, acc, st => match ds[i]? with
    | some d => (listD true d st).bind fun l st => mkX ds r ((f, l) :: acc) st
    | none => .bad
/-- a cell's list frozen -/
def frzD (d : D) (st : Store) : R D :=
  match d with
  | .c n => match cellL st n with
    | some ds => match pures ds with
      | some xs => .ok (.p (.list xs)) (st.set n .dead)
      | none => .bad
    | none => .bad
  | d => .ok d st
def revD (a : D) (st : Store) : R D :=
  match items a st with
  | some xs => mkL false xs.reverse st
  | none => .bad
def valN {α : Type} (kvs : List (Str × α)) (k : Str) : Option α := (kvs.find? fun kv => decide (kv.1 = k)).map (·.2)
/-- an instance's class and attributes -/
def insOf (d : D) (st : Store) : Option (Nat × Str × List (Str × D)) :=
  match d with
  | .c n => match st[n]? with
    | some (.ins c fs) => some (n, c, fs)
    | _ => none
  | _ => none
def fldD (f : Str) (cs : List Str) (a : D) (st : Store) : R D :=
  match insOf a st with
  | some (_, c, fs) => if cs.contains c = true then match valD fs f with
    | some d => .ok d st
    | none => .bad
    else .bad
  | none => .bad
def mthD (m : Mth) (a : D) (ds : List D) (st : Store) : R D :=
  match a with
  | .c n => match cellL st n with
    | some xs => match m, ds with
      | .insert, [.p (.int i), y] => if xs.length < SZ ∧ 0 ≤ i ∧ i < 2 ^ 62 then .ok (.p .none) (st.set n (.lst (xs.take i.toNat ++ [y] ++ xs.drop i.toNat))) else .bad
      | .clear, [] => .ok (.p .none) (st.set n (.lst []))
      | .reverse, [] => .ok (.p .none) (st.set n (.lst xs.reverse))
      | .pop, [] => match xs[xs.length - 1]? with
        | some d => .ok d (st.set n (.lst xs.dropLast))
        | none => .bad
      | _, _ => .bad
    | none => .bad
  | _ => .bad
def mthA : Mth → Nat
  | .insert => 2
  | _ => 0
def mthN : Mth → Str
  | .insert => "insert"
  | .clear => "clear"
  | .reverse => "reverse"
  | .pop => "pop"
/-- the pairs of a display -/
def dispD (n : Nat) (ks : List Str) (ds : List D) (st : Store) : R D :=
  match dcellL st n with
  | some [] => if ks.length = ds.length ∧ ks.length ≤ 15 then .ok (.c n) (st.set n (.dct (mergeD [] ((ks.zip ds).map fun p => (Sum.inr p.1, p.2))))) else .bad
  | _ => .bad
abbrev Sem1 := Nat → List D → Store → R D
mutual
noncomputable def ev (G : Sem1) : ME → Env → Store → R D
  | .var i, env, st => varD env i st
  | .lit x, _, st => .ok (.p x) st
  | .glb x, _, st => .ok (.p x) st
  | .gix kvs e, env, st => (ev G e env st).bind fun x st => gixD kvs x st
  | .bin o a b, env, st => (ev G a env st).bind fun x st => (ev G b env st).bind fun y st => binD o x y st
  | .neg a, env, st => (ev G a env st).bind fun x st => negD x st
  | .not a, env, st => (truR (ev G a env st)).bind fun k st => .ok (.p (.bool (!k))) st
  | .and a b, env, st => (ev G a env st).bind fun x st => match tru x st with
    | some true => ev G b env st
    | some false => .ok x st
    | none => .bad
  | .or a b, env, st => (ev G a env st).bind fun x st => match tru x st with
    | some true => .ok x st
    | some false => ev G b env st
    | none => .bad
  | .one a, env, st => ev G a env st
  | .cmp o a b, env, st => (ev G a env st).bind fun x st => (ev G b env st).bind fun y st => cmpD o x y st
  | .cmp2 o o2 a b c, env, st => (ev G a env st).bind fun x st => (ev G b env st).bind fun y st => (cmpD o x y st).bind fun k st => match k with
    | .p (.bool true) => (ev G c env st).bind fun z st => cmpD o2 y z st
    | .p (.bool false) => .ok (.p (.bool false)) st
    | _ => .bad
  | .ife c a b, env, st => (truR (ev G c env st)).bind fun k st => if k = true then ev G a env st else ev G b env st
  | .tup es, env, st => (evs G es env st).bind fun ds st => if ds.length ≤ SZ then mkT ds st else .bad
  | .lst c es, env, st => (evs G es env st).bind fun ds st => if ds.length ≤ SZ then mkL c ds st else .bad
  | .frz a, env, st => (ev G a env st).bind fun x st => frzD x st
  | .rev a, env, st => (ev G a env st).bind fun x st => revD x st
  | .dctE t, _, st => .ok (.c st.length) (st ++ [if t = true then .dtt [] else .dct []])
  | .dct ks es, env, st => (evs G es env (st ++ [.dct []])).bind fun ds st1 => dispD st.length ks ds st1
  | .fld a f cs, env, st => (ev G a env st).bind fun x st => fldD f cs x st
  | .meth c i m o es, env, st => (ev G o env st).bind fun x st => match insOf x st with
    | some (_, c', fs) => if c' = c ∧ (valD fs m).isSome = false then (evs G es env st).bind fun ds st => G i (x :: ds) st else .bad
    | none => .bad
  | .new c i es, env, st => (evs G es env st).bind fun ds st => (G i (.c st.length :: ds) (st ++ [.ins c []])).bind fun d st1 => match d with
    | .p .none => .ok (.c st.length) st1
    | _ => .bad
  | .callT fs i es, env, st => (ev G i env st).bind fun x st => match x with
    | .p (.int k) => match atI fs k with
      | some f => (evs G es env st).bind fun ds st => G f ds st
      | none => .bad
    | _ => .bad
  | .callD f es dv, env, st => (evs G es env st).bind fun ds st => G f (ds ++ dv.map .p) st
  | .mcall m o es, env, st => (ev G o env st).bind fun x st => match items x st with
    | some _ => (evs G es env st).bind fun ds st => mthD m x ds st
    | none => .bad
  | .ix a b, env, st => (ev G a env st).bind fun x st => (ev G b env st).bind fun y st => ixD x y st
  | .sl a lo hi, env, st => (ev G a env st).bind fun x st => (evo G lo env st).bind fun l st => (evo G hi env st).bind fun h st => slD x l h st
  | .bi f a, env, st => (ev G a env st).bind fun x st => bi1D f x st
  | .mx2 m a b, env, st => (ev G a env st).bind fun x st => (ev G b env st).bind fun y st => max2D m x y st
  | .isi T a, env, st => (ev G a env st).bind fun x st => isiD T x st
  | .call f es, env, st => (evs G es env st).bind fun ds st => G f ds st
  | .join a b, env, st => (ev G a env st).bind fun x st => match x with
    | .p (.str z) => (ev G b env st).bind fun y st => joinD z y st
    | _ => .bad
  | .lc c own tg it cond elt, env, st => (evi G it env st).bind fun p st1 =>
      (lcL p.2 st1.length tg (evc G cond) (ev G elt) (wipeE env own) p.1 (st1 ++ [.lst []])).bind fun _ st2 => lcEnd c st1.length st2
noncomputable def evs (G : Sem1) : MEs → Env → Store → R (List D)
  | .nil, _, st => .ok [] st
  | .cons e r, env, st => (ev G e env st).bind fun x st => (evs G r env st).bind fun xs st => .ok (x :: xs) st
/-- an optional part of a slice -/
noncomputable def evo (G : Sem1) : MO → Env → Store → R (Option Int)
  | .none, _, st => .ok none st
  | .some e, env, st => (ev G e env st).bind fun x st => match x with
    | .p (.int i) => .ok (some i) st
    | _ => .bad
/-- an optional test -/
noncomputable def evc (G : Sem1) : MO → Env → Store → R D
  | .none, _, st => .ok (.p (.bool true)) st
  | .some e, env, st => ev G e env st
noncomputable def evi (G : Sem1) : MI → Env → Store → R (List Itm × (Store → Prop))
  | .seq e, env, st => (ev G e env st).bind fun x st => seqI x st
  | .rng1 a, env, st => (ev G a env st).bind fun x st => match x with
    | .p (.int i) => rngI 0 i st
    | _ => .bad
  | .rng2 a b, env, st => (ev G a env st).bind fun x st => (ev G b env st).bind fun y st => match x, y with
    | .p (.int i), .p (.int j) => rngI i j st
    | _, _ => .bad
  | .enum a, env, st => (ev G a env st).bind fun x st => enumI x st
  | .zip a b, env, st => (ev G a env st).bind fun x st => (ev G b env st).bind fun y st => zipI x y st
end

/-! ### the text that a mirrored term is of -/
structure Ctx where
  N : List Str
  sc : Scope
  fnC : Bool
  /-- in the body of a try -/
  tr : Bool
  glbs : List (Str × PyData)
  gds : List (Str × List (Str × PyData))
  fns : List (Option Str)
  bl : List Str
  /-- class, an attribute that it has not of its own -/
  clsF : List (Str × Str)
  /-- class, method, its def -/
  meths : List (Str × Str × Nat)
  /-- class, its __init__ -/
  news : List (Str × Nat)
  /-- defs called with fewer values, what fills up -/
  defs : List (Nat × List PyData)
  /-- exception classes: how many values, the fields -/
  xcls : List (Str × Nat × List (Str × FE))
  /-- an exception class, a class of a clause, whether the clause takes it -/
  xtab : List ((Str × Str) × Bool)
  /-- an exception class, a field of its instances -/
  xfld : List (Str × Str)
  /-- classes of clauses -/
  hcs : List Str
def Ctx.isVis (C : Ctx) (x : Str) : Bool := match C.sc.names.lookup x with
  | some .local => true
  | some .cell => true
  | some .free => true
  | _ => false
def okName (x : Str) : Bool := !(x == ("__debug__" : Str)) && !(x == ("__classdict__" : Str)) && !(x == ("__name__" : Str))
def Ctx.isGl (C : Ctx) (x : Str) : Bool := okName x && decide (C.sc.names.lookup x = some .globalImplicit)
def Ctx.isBl (C : Ctx) (x : Str) : Bool := C.isGl x && C.bl.contains x
def Ctx.slot (C : Ctx) (i : Nat) (x : Str) : Bool := okName x && decide (C.N[i]? = some x)
def litC : Const → PyData → Bool
  | .none, .none => true
  | .bool b, .bool c => b == c
  | .int i, .int j => i == j
  | .str x, .str y => x == y
  | _, _ => false
def dataEq : PyData → PyData → Bool
  | .int i, .int j => i == j
  | .str x, .str y => x == y
  | .bool x, .bool y => x == y
  | .none, .none => true
  | _, _ => false
def kvEq : List (Str × PyData) → List (Str × PyData) → Bool
  | [], [] => true
  | (a, x) :: r, (b, y) :: r' => a == b && dataEq x y && kvEq r r'
  | _, _ => false
def notIn (o : CmpOp) : Bool := match o with
  | .In => false
  | .NotIn => false
  | _ => true
def notSet : Expr → Bool
  | .Set .. => false
  | _ => true
def datasEq : List PyData → List PyData → Bool
  | [], [] => true
  | x :: r, y :: r' => dataEq x y && datasEq r r'
  | _, _ => false
def keysAre : List Str → List (Option Expr) → Bool
  | [], [] => true
  | k :: ks, some (.Constant (.str x) _ _) :: r => k == x && keysAre ks r
  | _, _ => false
def fnsAre (C : Ctx) : List Nat → List Expr → Bool
  | [], [] => true
  | f :: fs, .Name x _ :: r => C.isGl x && decide (C.fns[f]? = some (some x)) && fnsAre C fs r
  | _, _ => false
mutual
def chkT (C : Ctx) : MT → Expr → Bool
  | .nm i, .Name x _ => C.slot i x && decide (C.sc.names.lookup x = some .local ∨ (C.fnC = true ∧ C.sc.names.lookup x = some .cell))
  | .tup ts, .Tuple es _ _ => chkTs C ts es
  | _, _ => false
def chkTs (C : Ctx) : MTs → List Expr → Bool
  | .nil, [] => true
  | .cons t r, e :: es => chkT C t e && chkTs C r es
  | _, _ => false
end
mutual
def tgVars : MT → List Nat
  | .nm i => [i]
  | .tup ts => tgVarss ts
def tgVarss : MTs → List Nat
  | .nil => []
  | .cons t r => tgVars t ++ tgVarss r
end
def notStar : Expr → Bool
  | .Starred .. => false
  | _ => true
def notSlice : Expr → Bool
  | .Slice .. => false
  | _ => true
def notSuper : Expr → Bool
  | .Call (.Name _ _) [] [] _ => false
  | _ => true
def isRcv : Expr → Bool
  | .Name .. => true
  | .Attribute .. => true
  | _ => false
def isTup : Expr → Bool
  | .Tuple .. => true
  | _ => false
mutual
def chk (C : Ctx) : ME → Expr → Bool
  | .var i, py => match py with
    | .Name x _ => C.slot i x && C.isVis x
    | _ => false
  | .lit v, py => match py with
    | .Constant c _ _ => litC c v
    | _ => false
  | .glb v, py => match py with
    | .Name x _ => C.isGl x && (match C.glbs.lookup x with | some w => dataEq v w | none => false)
    | _ => false
  | .gix kvs e, py => match py with
    | .Subscript (.Name x _) y _ => notSlice y && C.isGl x && (match C.gds.lookup x with | some w => kvEq kvs w | none => false) && chk C e y
    | _ => false
  | .bin o a b, py => match py with
    | .BinOp x o2 y _ => decide (o = o2) && chk C a x && chk C b y
    | _ => false
  | .neg a, py => match py with
    | .UnaryOp .USub x _ => chk C a x
    | _ => false
  | .not a, py => match py with
    | .UnaryOp .Not x _ => chk C a x
    | _ => false
  | .and a b, py => match py with
    | .BoolOp .And (x :: y :: r) p => chk C a x && chk C b (.BoolOp .And (y :: r) p)
    | _ => false
  | .or a b, py => match py with
    | .BoolOp .Or (x :: y :: r) p => chk C a x && chk C b (.BoolOp .Or (y :: r) p)
    | _ => false
  | .one a, py => match py with
    | .BoolOp _ [x] _ => chk C a x
    | _ => false
  | .cmp o a b, py => match py with
    | .Compare x [o2] [y] _ => decide (o = o2) && notSet y && chk C a x && chk C b y
    | _ => false
  | .cmp2 o o' a b c, py => match py with
    | .Compare x [o2, o2'] [y, z] _ => decide (o = o2) && decide (o' = o2') && notSet y && notSet z && chk C a x && chk C b y && chk C c z
    | _ => false
  | .ife c a b, py => match py with
    | .IfExp t x y _ => chk C c t && chk C a x && chk C b y
    | _ => false
  | .tup es, py => match py with
    | .Tuple xs _ _ => chks C es xs
    | _ => false
  | .lst _ es, py => match py with
    | .List xs _ => chks C es xs
    | _ => false
  | .frz a, py => match py with
    | .Name .. => chk C a py
    | _ => false
  | .rev a, py => match py with
    | .Subscript x (.Slice none none (some (.UnaryOp .USub (.Constant (.int 1) _ _) _)) _) _ => chk C a x
    | _ => false
  | .dctE _, py => match py with
    | .Dict [] [] _ => true
    | _ => false
  | .dct ks es, py => match py with
    | .Dict keys vals _ => !ks.isEmpty && decide (ks.length ≤ 15) && decide (keys.length = vals.length) && keysAre ks keys && chks C es vals
    | _ => false
  | .fld a f cs, py => match py with
    | .Attribute x g _ => decide (f = g) && notSuper x && cs.all (fun c => C.clsF.contains (c, f)) && chk C a x
    | _ => false
  | .meth c i m o es, py => match py with
    | .Call (.Attribute x m' q) ys [] p => decide (m = m') && (q.endLine == p.line) && decide (ys.length ≤ 20) && notSuper x && C.meths.contains (c, m, i) && chk C o x && chks C es ys
    | _ => false
  | .new c i es, py => match py with
    | .Call (.Name x _) ys [] _ => !C.tr && C.isGl x && decide (x = c) && C.news.contains (c, i) && chks C es ys
    | _ => false
  | .callT fs i es, py => match py with
    | .Call (.Subscript (.List xs _) y _) (z :: zs) [] _ => notSlice y && decide (fs.length ≤ 20) && fnsAre C fs xs && chk C i y && chks C es (z :: zs)
    | _ => false
  | .callD f es dv, py => match py with
    | .Call (.Name x _) (y :: ys) [] _ => C.isGl x && decide (C.fns[f]? = some (some x)) && C.defs.any (fun q => q.1 == f && datasEq dv q.2) && chks C es (y :: ys)
    | _ => false
  | .mcall m o es, py => match py with
    | .Call (.Attribute x f q) ys [] p => decide (f = mthN m) && (q.endLine == p.line) && notSuper x && decide (ys.length = mthA m) && chk C o x && chks C es ys
    | _ => false
  | .ix a b, py => match py with
    | .Subscript x y _ => notSlice y && chk C a x && chk C b y
    | _ => false
  | .sl a lo hi, py => match py with
    | .Subscript x (.Slice l h none _) _ => chk C a x && chko C lo l && chko C hi h
    | _ => false
  | .bi f a, py => match py with
    | .Call (.Name x _) [y] [] _ => decide (x = bi1N f) && C.isBl x && notStar y && chk C a y
    | _ => false
  | .mx2 m a b, py => match py with
    | .Call (.Name x _) [y, z] [] _ => decide (x = if m then ("max" : Str) else "min") && C.isBl x && notStar y && notStar z && chk C a y && chk C b z
    | _ => false
  | .isi T a, py => match py with
    | .Call (.Name x _) [y, .Name t _] [] _ => decide (x = ("isinstance" : Str)) && C.isBl x && decide (t = Str.ofString T) && C.isBl t && isiOkT T && notStar y && chk C a y
    | _ => false
  | .call f es, py => match py with
    | .Call (.Name x _) (y :: ys) [] _ => C.isGl x && decide (C.fns[f]? = some (some x)) && chks C es (y :: ys)
    | _ => false
  | .join a b, py => match py with
    | .Call (.Attribute x m q) [y] [] p => decide (m = ("join" : Str)) && (q.endLine == p.line) && notSuper x && notStar y && chk C a x && chk C b y
    | _ => false
  | .lc _ own tg it cond elt, py => match py with
    | .ListComp x [⟨t, i, ifs, 0⟩] scope _ => 
      blkC C.N C.sc scope (own.map fun j => ((C.N[j]?).getD "", j)) && (tgVars tg).all (fun j => own.contains j) &&
      (let C' : Ctx := { C with sc := relS scope C.sc, fnC := false, tr := false }
       chkT C' tg t && chki C it i t && chkc C' cond ifs && chk C' elt x)
    | _ => false
def chks (C : Ctx) : MEs → List Expr → Bool
  | .nil, [] => true
  | .cons e r, x :: xs => notStar x && chk C e x && chks C r xs
  | _, _ => false
def chko (C : Ctx) : MO → Option Expr → Bool
  | .none, none => true
  | .some e, some x => chk C e x
  | _, _ => false
def chkc (C : Ctx) : MO → List Expr → Bool
  | .none, [] => true
  | .some e, [x] => chk C e x
  | _, _ => false
def chki (C : Ctx) : MI → Expr → Expr → Bool
  | .seq e, x, _ => notSet x && chk C e x
  | .rng1 a, py, _ => match py with
    | .Call (.Name f _) [x] [] _ => decide (f = ("range" : Str)) && C.isBl f && notStar x && chk C a x
    | _ => false
  | .rng2 a b, py, _ => match py with
    | .Call (.Name f _) [x, y] [] _ => decide (f = ("range" : Str)) && C.isBl f && notStar x && notStar y && chk C a x && chk C b y
    | _ => false
  | .enum a, py, t => match py with
    | .Call (.Name f _) [x] [] _ => decide (f = ("enumerate" : Str)) && C.isBl f && isTup t && notStar x && chk C a x
    | _ => false
  | .zip a b, py, t => match py with
    | .Call (.Name f _) [x, y] [] _ => decide (f = ("zip" : Str)) && C.isBl f && isTup t && notStar x && notStar y && chk C a x && chk C b y
    | _ => false
end
end MP

set_option Elab.async false
set_option linter.all false
set_option autoImplicit false
set_option maxRecDepth 100000
set_option maxHeartbeats 2000000
/-! the meaning is right: expressions -/
namespace MP
open PySem PySem.Spec PyProof.Rows L2

def spOf (K : PySem.W.Frag) (XR : XRT) (sem : List D → Store → R D) : Sp := fun vs H Q E => ∃ ds st F φ, SR K F φ st H ∧ RDs K F φ vs ds ∧ Sat K XR E (QE K Q) F φ (sem ds st)
def FnE (X : Cx) (XR : XRT) (f : Str) (sem : List D → Store → R D) : Prop :=
  ∃ k fa fd ps, FnOk X.prog X.w X.K X.mg X.base (L2.CX X.prog X.w) k fa fd ps (spOf X.K XR sem) ∧ Room k X.A ∧ X.mg f = some (.ref fa) ∧ PySem.W.keepIn X.K (.ref fa) = true ∧ Binds X.K fd ps []
/-- an exception's own __init__ -/
def spInit (K : PySem.W.Frag) (A : Addr) (np : Nat) (fs : List (Str × FE)) : Sp := fun vs H Q _ => ∃ a ws ds st F φ, vs = .ref a :: ws ∧ ws.length = np ∧ H a = some (exo a A none) ∧ F a = none ∧ a ∉ φ ∧ SR K F φ st H ∧ RDs K F φ ws ds ∧
  match mkX ds fs [] st with
  | .ok xs st' => ∀ F' φ' H2 d gs, Ext F φ F' φ' → SR K F' φ' st' H2 → H2 a = some (exo a A (some d)) → H2 d = some (exd d gs) → H d = none → F' d = none → d ∉ φ' → F' a = none → a ∉ φ' → RNs K F' φ' gs xs → Q .non H2
  | _ => False
abbrev veBases : List Value := [.type "ValueError", .type "Exception", .type "BaseException", .type "object"]
/-- what must be known of an exception class to raise it -/
def XMk (X : Cx) (c : Str) (np : Nat) (fs : List (Str × FE)) : Prop :=
  ∃ A, clsAt X.K c A ∧ X.mg c = some (.ref A) ∧ Raises X (.ref A) ∧
    ((fs = [] ∧ PySem.W.keepIn X.K (.ref A) = true ∧ PySem.W.excIn X.K A veBases "ValueError.__new__" = true) ∨
      (OexC X.K A ∧ ∃ k fI fd ps, PySem.W.findIn X.K (.ref A) "__init__" = some (some (.ref fI)) ∧ PySem.W.typeIn X.K (.ref fI) = some (.type "function") ∧ FnOk X.prog X.w X.K X.mg X.base (L2.CX X.prog X.w) k fI fd ps (spInit X.K A np fs) ∧ Room (k + 1) X.A ∧ Binds X.K fd ps []))
structure WF (X : Cx) (C : Ctx) (G : Sem1) (XR : XRT) (E : EK) : Prop where
  N : X.N = C.N
  sc : X.env.scope = C.sc
  nd : X.N.Nodup
  calm : X.calm = true
  fn : C.fnC = true → ∀ x, X.fn x = true
  glb : ∀ x d, C.glbs.lookup x = some d → ∃ u v, X.mg x = some u ∧ RelV v u ∧ Dp X.K (fun _ => none) v d
  gds : ∀ x kvs, C.gds.lookup x = some kvs → ∃ p, X.mg x = some (.ref p) ∧ ∀ z d, kvs.lookup z = some d → ∃ v, KDct X.K X.w p z v ∧ Dp X.K (fun _ => none) v d
  bl : ∀ x, x ∈ C.bl → X.mg x = none
  fns : ∀ (i : Nat) (f : Str), C.fns[i]? = some (some f) → FnE X XR f (G i)
  clf : ∀ c f, (c, f) ∈ C.clsF → ∃ A, clsAt X.K c A ∧ Cls X.K A ∧ NoAttr X.K A f
  mts : ∀ c m i, (c, m, i) ∈ C.meths → ∃ A k fa fd ps, clsAt X.K c A ∧ Cls X.K A ∧ Meth X.K A m fa ∧ FnOk X.prog X.w X.K X.mg X.base (L2.CX X.prog X.w) k fa fd ps (spOf X.K XR (G i)) ∧ Room k X.A ∧ Binds X.K fd ps []
  nws : ∀ c i, (c, i) ∈ C.news → ∃ A k fa fd ps, clsAt X.K c A ∧ X.mg c = some (.ref A) ∧ Mk X.K A fa ∧ FnOk X.prog X.w X.K X.mg X.base (L2.CX X.prog X.w) k fa fd ps (spOf X.K XR (G i)) ∧ Room (k + 1) X.A ∧ Binds X.K fd ps []
  dfs : ∀ i dv f, (i, dv) ∈ C.defs → C.fns[i]? = some (some f) → ∃ k fa fd ps ds dvs, FnOk X.prog X.w X.K X.mg X.base (L2.CX X.prog X.w) k fa fd ps (spOf X.K XR (G i)) ∧ Room k X.A ∧ X.mg f = some (.ref fa) ∧ PySem.W.keepIn X.K (.ref fa) = true ∧ Binds X.K fd ps ds ∧ Vals dvs ds ∧ DpAll X.K (fun _ => none) dvs dv
  xmk : ∀ c np fs, (c, np, fs) ∈ C.xcls → XMk X c np fs
  xmt : ∀ c d b, ((c, d), b) ∈ C.xtab → ∃ A B, clsAt X.K c A ∧ clsAt X.K d B ∧ X.mg d = some (.ref B) ∧ PySem.W.exmOne X.K (.ref A) (.ref B) = some b
  xcf : ∀ c f, (c, f) ∈ C.xfld → ∃ A, clsAt X.K c A ∧ XfC X.K A ∧ PySem.W.findIn X.K (.ref A) f = some none
  hcl : ∀ d, d ∈ C.hcs → ∃ B, clsAt X.K d B ∧ X.mg d = some (.ref B)
  pas : C.tr = false → ∃ E0 : XK, E = (fun _ => E0) ∧ Passes (L2.CX X.prog X.w) X E0
  px : ∀ σ, PassesAt (L2.CX X.prog X.w) X σ (E σ)
  un : X.A.units + 200 < cLine

section
variable {X : Cx} {C : Ctx} {G : Sem1} {XR : XRT} {E : EK}
/-- the body of a try -/
theorem WF.tr (h : WF X C G XR E) (W : WX) (pn : List (Addr × Obj)) (xe : Value → Shared → Prop) (tk : Takes (X.tr pn xe) W) : WF (X.tr pn xe) { C with tr := true } G XR (WE W) :=
  ⟨h.N, h.sc, h.nd, h.calm, h.fn, h.glb, h.gds, h.bl, h.fns, h.clf, h.mts, h.nws, h.dfs, h.xmk, h.xmt, h.xcf, h.hcl, (fun z => nomatch z), fun σ => passAt tk σ, h.un⟩
theorem WF.tr0 (h : WF X C G XR E) (pn : List (Addr × Obj)) (xe : Value → Shared → Prop) : WF (X.tr pn xe) { C with tr := false } G XR (fun _ => E0) :=
  ⟨h.N, h.sc, h.nd, h.calm, h.fn, h.glb, h.gds, h.bl, h.fns, h.clf, h.mts, h.nws, h.dfs, h.xmk, h.xmt, h.xcf, h.hcl, (fun _ => ⟨E0, rfl, passL⟩), (fun σ pins H s e s' I => passL pins σ H s e s' I), h.un⟩
theorem WF.blk (h : WF X C G XR E) (s : Shared) (H : Hp) (scope : Scope) (cl : List (Str × Addr)) (Ca : Addr) (fp : List Addr) :
    WF (X.blk s H scope (compEnvC scope cl Ca X.env) fp) { C with sc := relS scope C.sc, fnC := false, tr := false } G XR fun _ => E0 :=
  ⟨h.N, (by rw [← h.sc]; rfl), h.nd, h.calm, (fun z => nomatch z), h.glb, h.gds, h.bl, (fun i f hf => h.fns i f hf), h.clf, (fun c m i hi => h.mts c m i hi), (fun c i hi => h.nws c i hi), (fun i dv f hi hf => h.dfs i dv f hi hf), (fun c np fs hi => h.xmk c np fs hi), (fun c d b hi => h.xmt c d b hi), (fun c f hi => h.xcf c f hi), (fun d hd => h.hcl d hd), (fun _ => ⟨E0, rfl, passL⟩), fun σ pins H s e s' I => passL pins σ H s e s' I, h.un⟩
theorem okName_of {x : Str} (h : okName x = true) : (x == ("__debug__" : Str)) = false ∧ (x == ("__classdict__" : Str)) = false ∧ x ≠ "__name__" := by
  unfold okName at h
  simp only [Bool.and_eq_true, Bool.not_eq_true'] at h
  exact ⟨h.1.1, h.1.2, fun e => by have := h.2; rw [e] at this; simp at this⟩
theorem slot_of {i : Nat} {x : Str} (h : C.slot i x = true) : okName x = true ∧ C.N[i]? = some x := by
  unfold Ctx.slot at h
  simp only [Bool.and_eq_true, decide_eq_true_eq] at h
  exact h
theorem vis_of {x : Str} (h : C.isVis x = true) : Vis C.sc x := by
  unfold Ctx.isVis at h
  split at h
  · rename_i e; exact .inl e
  · rename_i e; exact .inr (.inl e)
  · rename_i e; exact .inr (.inr e)
  · cases h
theorem gl_of (w : WF X C G XR E) {x : Str} (h : C.isGl x = true) : okName x = true ∧ Gl X x := by
  unfold Ctx.isGl at h
  simp only [Bool.and_eq_true, decide_eq_true_eq] at h
  refine ⟨h.1, ?_⟩
  show X.env.scope.names.lookup x = some .globalImplicit
  rw [w.sc]
  exact h.2
theorem bl_of (w : WF X C G XR E) {x : Str} (h : C.isBl x = true) : okName x = true ∧ Gl X x ∧ X.mg x = none := by
  unfold Ctx.isBl at h
  simp only [Bool.and_eq_true] at h
  obtain ⟨h1, h2⟩ := gl_of w h.1
  exact ⟨h1, h2, w.bl x (by simpa using h.2)⟩
theorem star1 {e : Expr} {es : List Expr} {env : PySem.Env} (h : notStar e = true) : starEach (e :: es) env = (false, eval e env) :: starEach es env := by
  cases e <;> first | rfl | cases h
theorem chks_plain {pos : Pos} {env : PySem.Env} : ∀ {es : MEs} {xs : List Expr}, chks C es xs = true → (backTo pos (starEach xs env)).any (·.1) = false
  | .nil, [], _ => rfl
  | .cons e r, x :: xs, h => by
    simp only [chks, Bool.and_eq_true] at h
    rw [star1 h.1.1]
    show (false || (backTo pos (starEach xs env)).any (·.1)) = false
    rw [chks_plain h.2]
    rfl
  | .nil, _ :: _, h => by simp [chks] at h
  | .cons _ _, [], h => by simp [chks] at h

/-! ### chains of readings -/
theorem rE_bind {m : Env → Store → R D} {k : Env → D → Store → R D} {σ : L2.St} {H : Hp} {Q R' : VK} (h : rE X.K XR E (fun env st => (m env st).bind (k env)) σ H Q)
    (f : ∀ env st F φ H v d, SR X.K F φ st H → ER X.K F φ env σ → RD X.K F φ v d → Sat X.K XR (E σ) (QE X.K Q) F φ (k env d st) → R' v H) : rE X.K XR E m σ H R' := by
  obtain ⟨env, st, F, φ, S, r, h⟩ := h
  exact ⟨env, st, F, φ, S, r, Sat.bind h fun a st1 F1 φ1 H1 e1 S1 h1 v rv => f env st1 F1 φ1 H1 v a S1 (r.mono e1) rv h1⟩
theorem pt_of_pe {py : Expr} {m : MD} (h : PE X py (rE X.K XR E m)) (he : ∀ whole, isTrue py X.env whole = (do let v ← whole; standAt py.pos; holding [v] (truthy v))) :
    PT X py (rT X.K XR E fun env st => truR (m env st)) := by
  refine PT.imp (pt_truth h he) fun σ H Q hq => ?_
  obtain ⟨env, st, F, φ, S, r, hq⟩ := hq
  refine ⟨env, st, F, φ, S, r, Sat.bind hq fun a st1 F1 φ1 H1 e1 S1 h1 v rv => ?_⟩
  cases e : tru a st1 with
  | none => rw [e] at h1; exact h1.elim
  | some k =>
    rw [e] at h1
    exact ⟨k, MP.tru_ok S1 rv e, h1.ok S1⟩
/-- what is shown of an expression -/
structure OkP (X : Cx) (XR : XRT) (E : EK) (py : Expr) (m : MD) : Prop where
  pe : PE X py (rE X.K XR E m)
  pt : PT X py (rT X.K XR E fun env st => truR (m env st))
  pw : ∀ op vs pos, py = .BoolOp op vs pos → PW X py (rT X.K XR E fun env st => truR (m env st))
theorem OkP.plain {py : Expr} {m : MD} (h : PE X py (rE X.K XR E m)) (he : ∀ whole, isTrue py X.env whole = (do let v ← whole; standAt py.pos; holding [v] (truthy v))) (hn : ∀ op vs pos, py ≠ .BoolOp op vs pos) : OkP X XR E py m :=
  ⟨h, pt_of_pe h he, fun op vs pos e => absurd e (hn op vs pos)⟩
theorem truR_bind {α : Type} (r : R α) (k : α → Store → R D) : truR (r.bind k) = r.bind fun a st => truR (k a st) := by
  cases r <;> rfl

theorem ok_var (w : WF X C G XR E) {i : Nat} {x : Str} {pos : Pos} (h : (C.slot i x && C.isVis x) = true) : OkP X XR E (.Name x pos) (ev G (.var i)) := by
  simp only [Bool.and_eq_true] at h
  obtain ⟨h1, h2⟩ := slot_of h.1
  obtain ⟨d1, d2, _⟩ := okName_of h1
  refine .plain (PE.imp (pe_var (i := i) (by rw [w.N]; exact h2) (by rw [w.sc]; exact vis_of h.2) d1 d2) fun σ H Q hq => ?_) (fun _ => rfl) (fun _ _ _ e => nomatch e)
  obtain ⟨env, st, F, φ, S, r, hq⟩ := hq
  simp only [ev, varD] at hq
  split at hq
  · rename_i d e
    obtain ⟨v, h1, h2⟩ := r.val i d e
    exact ⟨v, h1, sat_val S h2 hq⟩
  · exact hq.elim
theorem ok_lit {v : PyData} {c : Const} {j : Nat} {pos : Pos} (h : litC c v = true) : OkP X XR E (.Constant c j pos) (ev G (.lit v)) := by
  refine .plain ?_ (fun _ => rfl) (fun _ _ _ e => nomatch e)
  unfold litC at h
  split at h
  · refine PE.imp pe_non fun σ H Q hq => ?_
    obtain ⟨env, st, F, φ, S, r, hq⟩ := hq
    simp only [ev] at hq
    exact sat_val S rd_non hq
  · cases eq_of_beq h
    refine PE.imp pe_bl fun σ H Q hq => ?_
    obtain ⟨env, st, F, φ, S, r, hq⟩ := hq
    simp only [ev] at hq
    exact sat_val S rd_bl hq
  · cases eq_of_beq h
    refine PE.imp pe_int fun σ H Q hq => ?_
    obtain ⟨env, st, F, φ, S, r, hq⟩ := hq
    simp only [ev] at hq
    exact sat_val S rd_int hq
  · cases eq_of_beq h
    refine PE.imp pe_str fun σ H Q hq => ?_
    obtain ⟨env, st, F, φ, S, r, hq⟩ := hq
    simp only [ev] at hq
    exact sat_val S rd_str hq
  · cases h
theorem dataEq_eq {x y : PyData} (h : dataEq x y = true) : x = y := by
  unfold dataEq at h
  split at h <;> first | (rw [eq_of_beq h]) | rfl | cases h
theorem ok_glb (w : WF X C G XR E) {v : PyData} {x : Str} {pos : Pos} (h : (C.isGl x && (match C.glbs.lookup x with | some w => dataEq v w | none => false)) = true) : OkP X XR E (.Name x pos) (ev G (.glb v)) := by
  rw [Bool.and_eq_true] at h
  obtain ⟨h1, h2⟩ := gl_of w h.1
  have h3 := h.2
  split at h3
  · rename_i d e
    cases dataEq_eq h3
    obtain ⟨u, z, hm, hr, hd⟩ := w.glb x _ e
    refine .plain (PE.imp (pe_glob h2 hm hr (okName_of h1).1) fun σ H Q hq => ?_) (fun _ => rfl) (fun _ _ _ e => nomatch e)
    obtain ⟨env, st, F, φ, S, r, hq⟩ := hq
    simp only [ev] at hq
    exact sat_val S (show RD X.K F φ z (.p v) from dp_mono (fun _ _ q => (by cases q)) hd) hq
  · cases h3
theorem kvEq_eq : ∀ {a b : List (Str × PyData)}, kvEq a b = true → a = b
  | [], [], _ => rfl
  | (x, u) :: r, (y, v) :: r', h => by
    simp only [kvEq, Bool.and_eq_true] at h
    rw [eq_of_beq h.1.1, dataEq_eq h.1.2, kvEq_eq h.2]
  | [], _ :: _, h => by cases h
  | _ :: _, [], h => by cases h
theorem ok_bin {o : Operator} {a b : ME} {x y : Expr} {pos : Pos} (ha : OkP X XR E x (ev G a)) (hb : OkP X XR E y (ev G b)) : OkP X XR E (.BinOp x o y pos) (ev G (.bin o a b)) := by
  refine .plain (PE.imp (pe_op (o_bin (XR := XR) o) ha.pe hb.pe) fun σ H Q hq => ?_) (fun _ => rfl) (fun _ _ _ e => nomatch e)
  obtain ⟨env, st, F, φ, S, r, hq⟩ := hq
  simp only [ev] at hq
  exact ⟨env, st, F, φ, S, r, Sat.bind hq fun a st1 F1 φ1 H1 e1 S1 h1 x rx => ⟨env, st1, F1, φ1, S1, r.mono e1, Sat.bind h1 fun b st2 F2 φ2 H2 e2 S2 h2 y ry => ⟨_, a, b, st2, F2, φ2, S2, rx.mono e2, ry, h2⟩⟩⟩
theorem ok_neg {a : ME} {x : Expr} {pos : Pos} (ha : OkP X XR E x (ev G a)) : OkP X XR E (.UnaryOp .USub x pos) (ev G (.neg a)) := by
  refine .plain (PE.imp (pe_un (o_neg (XR := XR)) ha.pe) fun σ H Q hq => ?_) (fun _ => rfl) (fun _ _ _ e => nomatch e)
  obtain ⟨env, st, F, φ, S, r, hq⟩ := hq
  simp only [ev] at hq
  exact ⟨env, st, F, φ, S, r, Sat.bind hq fun a st1 F1 φ1 H1 e1 S1 h1 x rx => ⟨_, a, st1, F1, φ1, S1, rx, h1⟩⟩
theorem ok_not {a : ME} {x : Expr} {pos : Pos} (ha : OkP X XR E x (ev G a)) : OkP X XR E (.UnaryOp .Not x pos) (ev G (.not a)) := by
  refine ⟨PE.imp (pe_notT ha.pe) fun σ H Q hq => ?_, PT.imp (pt_not ha.pt) fun σ H Q hq => ?_, fun _ _ _ e => nomatch e⟩
  · obtain ⟨env, st, F, φ, S, r, hq⟩ := hq
    simp only [ev] at hq
    unfold truR at hq
    refine ⟨env, st, F, φ, S, r, ?_⟩
    cases hm : ev G a env st with
    | bad => rw [hm] at hq; exact hq.elim
    | ex c st1 => rw [hm] at hq; exact hq
    | ok d st1 =>
      rw [hm] at hq
      simp only [R.bind_ok] at hq
      intro F1 φ1 H1 e1 S1 v rv
      cases e : tru d st1 with
      | none => rw [e] at hq; exact hq.elim
      | some k =>
        rw [e] at hq
        exact ⟨k, MP.tru_ok S1 rv e, sat_val S1 rd_bl (hq.ext e1)⟩
  · obtain ⟨env, st, F, φ, S, r, hq⟩ := hq
    simp only [ev, truR_bind] at hq
    exact ⟨env, st, F, φ, S, r, Sat.bind hq fun k st1 F1 φ1 H1 e1 S1 h1 => h1.ok S1⟩
theorem truR_and (r : R D) (k : Store → R D) : (r.bind fun x st => truR (match tru x st with | some true => k st | some false => .ok x st | none => .bad)) = (truR r).bind fun b st => if b = true then truR (k st) else .ok false st := by
  cases r with
  | bad => rfl
  | ex c st => rfl
  | ok d st =>
    unfold truR
    simp only [R.bind_ok]
    cases e : tru d st with
    | none => rfl
    | some b => cases b <;> simp [e]
theorem truR_or (r : R D) (k : Store → R D) : (r.bind fun x st => truR (match tru x st with | some true => .ok x st | some false => k st | none => .bad)) = (truR r).bind fun b st => if b = true then .ok true st else truR (k st) := by
  cases r with
  | bad => rfl
  | ex c st => rfl
  | ok d st =>
    unfold truR
    simp only [R.bind_ok]
    cases e : tru d st with
    | none => rfl
    | some b => cases b <;> simp [e]
theorem ok_one {a : ME} {x : Expr} {op : PySem.BoolOp} {pos : Pos} (ha : OkP X XR E x (ev G a)) : OkP X XR E (.BoolOp op [x] pos) (ev G (.one a)) := by
  have hw : PW X (.BoolOp op [x] pos) (rT X.K XR E fun env st => truR (ev G a env st)) := by
    cases op with
    | And => exact pw_and1 ha.pt
    | Or => exact pw_or1 ha.pt
  refine ⟨PE.imp (pe_one ha.pe) fun σ H Q hq => ?_, PT.imp hw.pt fun σ H Q hq => ?_, fun op' vs pos' e => ?_⟩
  · simpa only [rE, ev] using hq
  · simpa only [rT, ev] using hq
  · cases e
    refine PW.imp hw fun σ H Q hq => ?_
    simpa only [rT, ev] using hq
theorem ok_and {a b : ME} {x y : Expr} {r : List Expr} {pos : Pos} (ha : OkP X XR E x (ev G a)) (hb : OkP X XR E (.BoolOp .And (y :: r) pos) (ev G b)) : OkP X XR E (.BoolOp .And (x :: y :: r) pos) (ev G (.and a b)) := by
  have hw : PW X (.BoolOp .And (x :: y :: r) pos) (rT X.K XR E fun env st => truR (ev G (.and a b) env st)) := by
    refine PW.imp (pw_and ha.pt (hb.pw _ _ _ rfl)) fun σ H Q hq => ?_
    obtain ⟨env, st, F, φ, S, r, hq⟩ := hq
    simp only [ev, truR_bind] at hq
    refine ⟨env, st, F, φ, S, r, ?_⟩
    have hq2 : Sat X.K XR (E σ) (QT Q) F φ ((truR (ev G a env st)).bind fun b' st => if b' = true then truR (ev G b env st) else .ok false st) := by
      rw [← truR_and (ev G a env st) (ev G b env)]
      exact hq
    refine Sat.bind hq2 fun k st1 F1 φ1 H1 e1 S1 h1 => ?_
    cases k with
    | true => exact ⟨env, st1, F1, φ1, S1, r.mono e1, h1⟩
    | false => exact h1.ok S1
  refine ⟨PE.imp (pe_andT ha.pe hb.pe) fun σ H Q hq => ?_, hw.pt, fun op' vs pos' e => by cases e; exact hw⟩
  obtain ⟨env, st, F, φ, S, r, hq⟩ := hq
  simp only [ev] at hq
  refine ⟨env, st, F, φ, S, r, Sat.bind hq fun d st1 F1 φ1 H1 e1 S1 h1 v rv => ?_⟩
  cases e : tru d st1 with
  | none => rw [e] at h1; exact h1.elim
  | some k =>
    rw [e] at h1
    refine ⟨k, MP.tru_ok S1 rv e, ?_⟩
    cases k with
    | true => exact ⟨env, st1, F1, φ1, S1, r.mono e1, h1⟩
    | false => exact sat_val S1 rv h1
theorem ok_or {a b : ME} {x y : Expr} {r : List Expr} {pos : Pos} (ha : OkP X XR E x (ev G a)) (hb : OkP X XR E (.BoolOp .Or (y :: r) pos) (ev G b)) : OkP X XR E (.BoolOp .Or (x :: y :: r) pos) (ev G (.or a b)) := by
  have hw : PW X (.BoolOp .Or (x :: y :: r) pos) (rT X.K XR E fun env st => truR (ev G (.or a b) env st)) := by
    refine PW.imp (pw_or ha.pt (hb.pw _ _ _ rfl)) fun σ H Q hq => ?_
    obtain ⟨env, st, F, φ, S, r, hq⟩ := hq
    simp only [ev, truR_bind] at hq
    refine ⟨env, st, F, φ, S, r, ?_⟩
    have hq2 : Sat X.K XR (E σ) (QT Q) F φ ((truR (ev G a env st)).bind fun b' st => if b' = true then .ok true st else truR (ev G b env st)) := by
      rw [← truR_or (ev G a env st) (ev G b env)]
      exact hq
    refine Sat.bind hq2 fun k st1 F1 φ1 H1 e1 S1 h1 => ?_
    cases k with
    | true => exact h1.ok S1
    | false => exact ⟨env, st1, F1, φ1, S1, r.mono e1, h1⟩
  refine ⟨PE.imp (pe_orT ha.pe hb.pe) fun σ H Q hq => ?_, hw.pt, fun op' vs pos' e => by cases e; exact hw⟩
  obtain ⟨env, st, F, φ, S, r, hq⟩ := hq
  simp only [ev] at hq
  refine ⟨env, st, F, φ, S, r, Sat.bind hq fun d st1 F1 φ1 H1 e1 S1 h1 v rv => ?_⟩
  cases e : tru d st1 with
  | none => rw [e] at h1; exact h1.elim
  | some k =>
    rw [e] at h1
    refine ⟨k, MP.tru_ok S1 rv e, ?_⟩
    cases k with
    | true => exact sat_val S1 rv h1
    | false => exact ⟨env, st1, F1, φ1, S1, r.mono e1, h1⟩
theorem nomarkS {b : Expr} (h : notSet b = true) (op : CmpOp) : behindInMarks op b = false := by
  cases b <;> first | rfl | cases h
/-- a comparison gives a truth -/
theorem cmpD_bool {o : CmpOp} {x y d : D} {st st' : Store} (h : cmpD o x y st = .ok d st') : ∃ k, d = .p (.bool k) ∧ st' = st := by
  have ord : ∀ op, ordD op x y st = .ok d st' → ∃ k, d = .p (.bool k) ∧ st' = st := by
    intro op h
    unfold ordD at h
    repeat' split at h
    all_goals first | (cases h; done) | (cases h; exact ⟨_, rfl, rfl⟩)
  have eqs : ∀ n, eqD n x y st = .ok d st' → ∃ k, d = .p (.bool k) ∧ st' = st := by
    intro n h
    unfold eqD at h
    repeat' split at h
    all_goals first | (cases h; done) | (cases h; exact ⟨_, rfl, rfl⟩)
  have ins : ∀ n, inD n x y st = .ok d st' → ∃ k, d = .p (.bool k) ∧ st' = st := by
    intro n h
    unfold inD inD0 at h
    repeat' split at h
    all_goals first | (cases h; done) | (cases h; exact ⟨_, rfl, rfl⟩)
  have iss : ∀ n, isD n x y st = .ok d st' → ∃ k, d = .p (.bool k) ∧ st' = st := by
    intro n h
    unfold isD at h
    repeat' split at h
    all_goals first | (cases h; done) | (cases h; exact ⟨_, rfl, rfl⟩)
  cases o with
  | Eq => exact eqs _ h
  | NotEq => exact eqs _ h
  | In => exact ins _ h
  | NotIn => exact ins _ h
  | Is => exact iss _ h
  | IsNot => exact iss _ h
  | Lt => exact ord .Lt h
  | LtE => exact ord .LtE h
  | Gt => exact ord .Gt h
  | GtE => exact ord .GtE h
theorem sat_cmp {o : CmpOp} {x y : D} {st : Store} {F : Hp} {φ : List Addr} {Q : Bool → Hp → Prop} {E : XK} (h : Sat X.K XR E (QT Q) F φ (truR (cmpD o x y st))) : Sat X.K XR E (QE X.K fun v H1 => ∃ k, v = .bl k ∧ Q k H1) F φ (cmpD o x y st) := by
  cases hm : cmpD o x y st with
  | bad => rw [hm] at h; exact h.elim
  | ex c st1 => rw [hm] at h; exact h
  | ok d st1 =>
    obtain ⟨k, rfl, rfl⟩ := cmpD_bool hm
    rw [hm] at h
    intro F1 φ1 H1 e1 S1 v rv
    exact ⟨k, rv.bl, h F1 φ1 H1 e1 S1⟩
theorem ok_cmp (w : WF X C G XR E) {o : CmpOp} {a b : ME} {x y : Expr} {pos : Pos} (hs : notSet y = true) (ha : OkP X XR E x (ev G a)) (hb : OkP X XR E y (ev G b)) : OkP X XR E (.Compare x [o] [y] pos) (ev G (.cmp o a b)) := by
  have hu := w.un
  refine ⟨PE.imp (pe_cmpR (o_cmp (XR := XR) hu o) ha.pe hb.pe (nomarkS hs o)) fun σ H Q hq => ?_, PT.imp (pt_cmpR (o_cmp (XR := XR) hu o) ha.pe hb.pe (nomarkS hs o)) fun σ H Q hq => ?_, fun _ _ _ e => nomatch e⟩
  · obtain ⟨env, st, F, φ, S, r, hq⟩ := hq
    simp only [ev] at hq
    exact ⟨env, st, F, φ, S, r, Sat.bind hq fun a st1 F1 φ1 H1 e1 S1 h1 x rx => ⟨env, st1, F1, φ1, S1, r.mono e1, Sat.bind h1 fun b st2 F2 φ2 H2 e2 S2 h2 y ry => ⟨_, a, b, st2, F2, φ2, S2, rx.mono e2, ry, h2⟩⟩⟩
  · obtain ⟨env, st, F, φ, S, r, hq⟩ := hq
    simp only [ev, truR_bind] at hq
    exact ⟨env, st, F, φ, S, r, Sat.bind hq fun a st1 F1 φ1 H1 e1 S1 h1 x rx => ⟨env, st1, F1, φ1, S1, r.mono e1, Sat.bind h1 fun b st2 F2 φ2 H2 e2 S2 h2 y ry => ⟨_, a, b, st2, F2, φ2, S2, rx.mono e2, ry, sat_cmp h2⟩⟩⟩
theorem ok_cmp2 (w : WF X C G XR E) {o o2 : CmpOp} {a b c : ME} {x y z : Expr} {pos : Pos} (hs : notSet y = true) (hs2 : notSet z = true) (ha : OkP X XR E x (ev G a)) (hb : OkP X XR E y (ev G b)) (hc : OkP X XR E z (ev G c)) :
    OkP X XR E (.Compare x [o, o2] [y, z] pos) (ev G (.cmp2 o o2 a b c)) := by
  have hu := w.un
  refine ⟨PE.imp (pe_chain (o_cmp (XR := XR) hu o) (o_cmp (XR := XR) hu o2) ha.pe hb.pe hc.pe (nomarkS hs2 o2)) fun σ H Q hq => ?_,
    PT.imp (pt_chain (o_cmp (XR := XR) hu o) (o_cmp (XR := XR) hu o2) ha.pe hb.pe hc.pe (nomarkS hs2 o2)) fun σ H Q hq => ?_, fun _ _ _ e => nomatch e⟩
  · obtain ⟨env, st, F, φ, S, r, hq⟩ := hq
    simp only [ev] at hq
    refine ⟨env, st, F, φ, S, r, Sat.bind hq fun a st1 F1 φ1 H1 e1 S1 h1 x rx => ⟨env, st1, F1, φ1, S1, r.mono e1, Sat.bind h1 fun b st2 F2 φ2 H2 e2 S2 h2 y ry => ⟨E σ, a, b, st2, F2, φ2, S2, rx.mono e2, ry, ?_⟩⟩⟩
    cases hm : cmpD o a b st2 with
    | bad => rw [hm] at h2; exact h2.elim
    | ex c st1 => rw [hm] at h2; exact h2
    | ok d st3 =>
      obtain ⟨k, rfl, rfl⟩ := cmpD_bool hm
      rw [hm] at h2
      simp only [R.bind_ok] at h2
      intro F3 φ3 H3 e3 S3 v rv
      refine ⟨k, rv.bl, ?_⟩
      cases k with
      | true => exact ⟨env, _, F3, φ3, S3, ((r.mono e1).mono e2).mono e3, Sat.bind (h2.ext e3) fun e st4 F4 φ4 H4 e4 S4 h4 z rz => ⟨_, b, e, st4, F4, φ4, S4, (ry.mono e3).mono e4, rz, h4⟩⟩
      | false => exact sat_val S3 rd_bl (h2.ext e3)
  · obtain ⟨env, st, F, φ, S, r, hq⟩ := hq
    simp only [ev, truR_bind] at hq
    refine ⟨env, st, F, φ, S, r, Sat.bind hq fun a st1 F1 φ1 H1 e1 S1 h1 x rx => ⟨env, st1, F1, φ1, S1, r.mono e1, Sat.bind h1 fun b st2 F2 φ2 H2 e2 S2 h2 y ry => ⟨E σ, a, b, st2, F2, φ2, S2, rx.mono e2, ry, ?_⟩⟩⟩
    cases hm : cmpD o a b st2 with
    | bad => rw [hm] at h2; exact h2.elim
    | ex c st1 => rw [hm] at h2; exact h2
    | ok d st3 =>
      obtain ⟨k, rfl, rfl⟩ := cmpD_bool hm
      rw [hm] at h2
      simp only [R.bind_ok] at h2
      intro F3 φ3 H3 e3 S3 v rv
      refine ⟨k, rv.bl, ?_⟩
      cases k with
      | true =>
        simp only [truR_bind] at h2
        exact ⟨env, _, F3, φ3, S3, ((r.mono e1).mono e2).mono e3, Sat.bind (h2.ext e3) fun e st4 F4 φ4 H4 e4 S4 h4 z rz => ⟨_, b, e, st4, F4, φ4, S4, (ry.mono e3).mono e4, rz, sat_cmp h4⟩⟩
      | false =>
        have h3 := (h2.ext e3).ok S3
        exact ⟨false, rfl, h3⟩

theorem truR_ite {c : Bool} {a b : R D} : truR (if c = true then a else b) = if c = true then truR a else truR b := by cases c <;> rfl
theorem ok_ife {c a b : ME} {t x y : Expr} {pos : Pos} (hc : OkP X XR E t (ev G c)) (ha : OkP X XR E x (ev G a)) (hb : OkP X XR E y (ev G b)) : OkP X XR E (.IfExp t x y pos) (ev G (.ife c a b)) := by
  refine ⟨PE.imp (pe_ifExp hc.pt ha.pe hb.pe) fun σ H Q hq => ?_, ⟨fun pins s σ H Q I hq => ?_⟩, fun _ _ _ e => nomatch e⟩
  · obtain ⟨env, st, F, φ, S, r, hq⟩ := hq
    simp only [ev] at hq
    refine ⟨env, st, F, φ, S, r, Sat.bind hq fun k st1 F1 φ1 H1 e1 S1 h1 => ?_⟩
    cases k with
    | true => exact ⟨env, st1, F1, φ1, S1, r.mono e1, h1⟩
    | false => exact ⟨env, st1, F1, φ1, S1, r.mono e1, h1⟩
  · obtain ⟨env, st, F, φ, S, r, hq⟩ := hq
    simp only [ev, truR_bind, truR_ite] at hq
    unfold PySem.isTrue
    refine wpAny_bind (thn (hc.pt.run pins s σ H (fun k H1 => if k = true then rT X.K XR E (fun env st => truR (ev G a env st)) σ H1 Q else rT X.K XR E (fun env st => truR (ev G b env st)) σ H1 Q) I ⟨env, st, F, φ, S, r, Sat.bind hq fun k st1 F1 φ1 H1 e1 S1 h1 => ?_⟩) fun k s1 ⟨H1, I1, q1⟩ => ?_)
    · cases k with
      | true => exact ⟨env, st1, F1, φ1, S1, r.mono e1, h1⟩
      | false => exact ⟨env, st1, F1, φ1, S1, r.mono e1, h1⟩
    · cases k with
      | true => exact ha.pt.run pins s1 σ H1 Q I1 q1
      | false => exact hb.pt.run pins s1 σ H1 Q I1 q1
/-- an argument list -/
def OkA (X : Cx) (XR : XRT) (E : EK) (es : List Expr) (m : Env → Store → R (List D)) : Prop := PA X es (rA X.K XR E m)
theorem oka_nil : OkA X XR E [] (evs G .nil) := PA.imp pa_nil fun σ H Q hq => by
  obtain ⟨env, st, F, φ, S, r, hq⟩ := hq
  simp only [evs] at hq
  exact hq.ok S [] .nil
theorem oka_cons {e : ME} {r : MEs} {x : Expr} {xs : List Expr} (hn : notStar x = true) (h : OkP X XR E x (ev G e)) (hr : OkA X XR E xs (evs G r)) : OkA X XR E (x :: xs) (evs G (.cons e r)) := by
  refine PA.imp (pa_cons h.pe hr (star1 hn)) fun σ H Q hq => ?_
  obtain ⟨env, st, F, φ, S, r, hq⟩ := hq
  simp only [evs] at hq
  exact ⟨env, st, F, φ, S, r, Sat.bind hq fun d st1 F1 φ1 H1 e1 S1 h1 v rv => ⟨env, st1, F1, φ1, S1, r.mono e1, Sat.bind h1 fun ds st2 F2 φ2 H2 e2 S2 h2 vs rvs => h2.ok S2 _ (.cons (rv.mono e2) rvs)⟩⟩
theorem ok_tup {es : MEs} {xs : List Expr} {k : Nat} {pos : Pos} (h : OkA X XR E xs (evs G es)) : OkP X XR E (.Tuple xs k pos) (ev G (.tup es)) := by
  refine .plain (PE.imp (pe_tup h) fun σ H Q hq => ?_) (fun _ => rfl) (fun _ _ _ e => nomatch e)
  obtain ⟨env, st, F, φ, S, r, hq⟩ := hq
  simp only [ev] at hq
  refine ⟨env, st, F, φ, S, r, Sat.bind hq fun ds st1 F1 φ1 H1 e1 S1 h1 vs rvs => ?_⟩
  split at h1
  · rename_i hz
    exact ⟨by rw [rds_length rvs]; exact sz_ok hz, fun p hp => sat_mkT S1 hp rvs h1⟩
  · exact h1.elim
theorem ok_lst {c : Bool} {es : MEs} {xs : List Expr} {pos : Pos} (h : OkA X XR E xs (evs G es)) : OkP X XR E (.List xs pos) (ev G (.lst c es)) := by
  refine .plain (PE.imp (pe_lst h) fun σ H Q hq => ?_) (fun _ => rfl) (fun _ _ _ e => nomatch e)
  obtain ⟨env, st, F, φ, S, r, hq⟩ := hq
  simp only [ev] at hq
  refine ⟨env, st, F, φ, S, r, Sat.bind hq fun ds st1 F1 φ1 H1 e1 S1 h1 vs rvs => ?_⟩
  split at h1
  · rename_i hz
    exact ⟨by rw [rds_length rvs]; exact sz_ok hz, fun p hp => sat_mkL S1 hp rvs h1⟩
  · exact h1.elim
theorem plainIx {b : Expr} (h : notSlice b = true) : PlainIx b := by
  intro o i
  cases b <;> first | rfl | cases h
theorem ok_ix (w : WF X C G XR E) {a b : ME} {x y : Expr} {pos : Pos} (hn : notSlice y = true) (ha : OkP X XR E x (ev G a)) (hb : OkP X XR E y (ev G b)) : OkP X XR E (.Subscript x y pos) (ev G (.ix a b)) := by
  refine .plain (PE.imp (pe_ix (ix_D (XR := XR) w.un) ha.pe hb.pe (plainIx hn)) fun σ H Q hq => ?_) (fun _ => rfl) (fun _ _ _ e => nomatch e)
  obtain ⟨env, st, F, φ, S, r, hq⟩ := hq
  simp only [ev] at hq
  exact ⟨env, st, F, φ, S, r, Sat.bind hq fun a st1 F1 φ1 H1 e1 S1 h1 x rx => ⟨env, st1, F1, φ1, S1, r.mono e1, Sat.bind h1 fun b st2 F2 φ2 H2 e2 S2 h2 y ry => ⟨_, a, b, st2, F2, φ2, S2, rx.mono e2, ry, h2⟩⟩⟩
theorem ok_gix (w : WF X C G XR E) {kvs : List (Str × PyData)} {a : ME} {x : Str} {y : Expr} {p pos : Pos} (hn : notSlice y = true) (hg : C.isGl x = true) (hk : (match C.gds.lookup x with | some w => kvEq kvs w | none => false) = true) (ha : OkP X XR E y (ev G a)) : OkP X XR E (.Subscript (.Name x p) y pos) (ev G (.gix kvs a)) := by
  obtain ⟨h1, h2⟩ := gl_of w hg
  split at hk
  · rename_i d e
    cases kvEq_eq hk
    obtain ⟨q, hm, hd⟩ := w.gds x _ e
    refine .plain (PE.imp (pe_ix ix_kdict (pe_glob h2 hm (v := .ref q) rfl (okName_of h1).1) ha.pe (plainIx hn)) fun σ H Q hq => ?_) (fun _ => rfl) (fun _ _ _ e => nomatch e)
    obtain ⟨env, st, F, φ, S, r, hq⟩ := hq
    simp only [ev] at hq
    refine ⟨env, st, F, φ, S, r, Sat.bind hq fun a st1 F1 φ1 H1 e1 S1 h1 x rx => ?_⟩
    unfold gixD at h1
    split at h1
    · rename_i z
      split at h1
      · rename_i v ev
        obtain ⟨u, k1, k2⟩ := hd z v ev
        exact ⟨q, z, u, rfl, rx.str, k1, sat_val S1 (show RD X.K F1 φ1 u (.p v) from dp_mono (fun _ _ q => (by cases q)) k2) h1⟩
      · exact h1.elim
    · exact h1.elim
  · cases hk
def QO (Q : Option Int → Hp → Prop) : Hp → List Addr → Hp → Option Int → Prop := fun _ _ H' o => Q o H'
def rO' (K : PySem.W.Frag) (XR : XRT) (E : EK) (m : Env → Store → R (Option Int)) : TO := fun σ H Q => ∃ env st F φ, SR K F φ st H ∧ ER K F φ env σ ∧ Sat K XR (E σ) (QO Q) F φ (m env st)
theorem PO.imp {e : Option Expr} {t t' : TO} (h : PO X e t) (i : ∀ σ H Q, t' σ H Q → t σ H Q) : PO X e t' := ⟨fun pins s σ H Q I hw => h.run pins s σ H Q I (i σ H Q hw)⟩
theorem oko_none : PO X none (rO' X.K XR E (evo G .none)) := PO.imp po_none fun σ H Q hq => by
  obtain ⟨env, st, F, φ, S, r, hq⟩ := hq
  simp only [evo] at hq
  exact hq.ok S
theorem oko_some {a : ME} {x : Expr} (ha : OkP X XR E x (ev G a)) : PO X (some x) (rO' X.K XR E (evo G (.some a))) := PO.imp (po_some ha.pe) fun σ H Q hq => by
  obtain ⟨env, st, F, φ, S, r, hq⟩ := hq
  simp only [evo] at hq
  refine ⟨env, st, F, φ, S, r, Sat.bind hq fun d st1 F1 φ1 H1 e1 S1 h1 v rv => ?_⟩
  split at h1
  · rename_i i
    exact ⟨i, rv.int, h1.ok S1⟩
  · exact h1.elim
theorem ok_sl {a : ME} {lo hi : MO} {x : Expr} {l h : Option Expr} {p2 pos : Pos} (ha : OkP X XR E x (ev G a)) (hl : PO X l (rO' X.K XR E (evo G lo))) (hh : PO X h (rO' X.K XR E (evo G hi))) : OkP X XR E (.Subscript x (.Slice l h none p2) pos) (ev G (.sl a lo hi)) := by
  refine .plain (PE.imp (pe_slice (sl_D (XR := XR) (c := false)) ha.pe hl hh) fun σ H Q hq => ?_) (fun _ => rfl) (fun _ _ _ e => nomatch e)
  obtain ⟨env, st, F, φ, S, r, hq⟩ := hq
  simp only [ev] at hq
  exact ⟨env, st, F, φ, S, r, Sat.bind hq fun a st1 F1 φ1 H1 e1 S1 h1 x rx => ⟨env, st1, F1, φ1, S1, r.mono e1, Sat.bind h1 fun l st2 F2 φ2 H2 e2 S2 h2 => ⟨env, st2, F2, φ2, S2, (r.mono e1).mono e2, Sat.bind h2 fun h st3 F3 φ3 H3 e3 S3 h3 => ⟨_, a, st3, F3, φ3, S3, (rx.mono e2).mono e3, h3⟩⟩⟩⟩
theorem ok_callB1 {id : String} {op : D → Store → R D} {a : ME} {x : Str} {y : Expr} {p pos : Pos} (w : WF X C G XR E) (hc : CallR X (.builtin id) (r1 (rU X.K XR op))) (hv : bootBuiltins x = some (.builtin id)) (hb : C.isBl x = true) (hn : notStar y = true) (ha : OkP X XR E y (ev G a)) :
    PE X (.Call (.Name x p) [y] [] pos) (rE X.K XR E fun env st => (ev G a env st).bind fun x st => op x st) := by
  obtain ⟨h1, h2, h3⟩ := bl_of w hb
  obtain ⟨d1, _, d3⟩ := okName_of h1
  refine PE.imp (pe_callB hc h2 h3 hv (pa_cons ha.pe pa_nil (star1 hn)) d3 d1 (star1 hn)) fun σ H Q hq => ?_
  obtain ⟨env, st, F, φ, S, r, hq⟩ := hq
  exact ⟨env, st, F, φ, S, r, Sat.bind hq fun a st1 F1 φ1 H1 e1 S1 h1 x rx => ⟨x, rfl, _, a, st1, F1, φ1, S1, rx, h1⟩⟩
theorem ok_callT1 {id : String} {op : D → Store → R D} {a : ME} {x : Str} {y : Expr} {p pos : Pos} (w : WF X C G XR E) (hc : CallR X (.type id) (r1 (rU X.K XR op))) (hv : bootBuiltins x = some (.type id)) (hb : C.isBl x = true) (hn : notStar y = true) (ha : OkP X XR E y (ev G a)) :
    PE X (.Call (.Name x p) [y] [] pos) (rE X.K XR E fun env st => (ev G a env st).bind fun x st => op x st) := by
  obtain ⟨h1, h2, h3⟩ := bl_of w hb
  obtain ⟨d1, _, d3⟩ := okName_of h1
  refine PE.imp (pe_callTy hc h2 h3 hv (pa_cons ha.pe pa_nil (star1 hn)) d3 d1 (star1 hn)) fun σ H Q hq => ?_
  obtain ⟨env, st, F, φ, S, r, hq⟩ := hq
  exact ⟨env, st, F, φ, S, r, Sat.bind hq fun a st1 F1 φ1 H1 e1 S1 h1 x rx => ⟨x, rfl, _, a, st1, F1, φ1, S1, rx, h1⟩⟩
theorem boot_all' : bootBuiltins "all" = some (.builtin "all") := by decide +kernel
theorem boot_any' : bootBuiltins "any" = some (.builtin "any") := by decide +kernel
theorem boot_sum' : bootBuiltins "sum" = some (.builtin "sum") := by decide +kernel
theorem boot_max' : bootBuiltins "max" = some (.builtin "max") := by decide +kernel
theorem boot_min' : bootBuiltins "min" = some (.builtin "min") := by decide +kernel
theorem boot_sorted' : bootBuiltins "sorted" = some (.builtin "sorted") := by decide +kernel
theorem boot_isi' : bootBuiltins "isinstance" = some (.builtin "isinstance") := by decide +kernel
theorem boot_tuple' : bootBuiltins "tuple" = some (.type "tuple") := by decide +kernel
theorem boot_int' : bootBuiltins "int" = some (.type "int") := by decide +kernel
theorem boot_list' : bootBuiltins "list" = some (.type "list") := by decide +kernel
theorem ok_bi (w : WF X C G XR E) {f : Bi} {a : ME} {x : Str} {y : Expr} {p pos : Pos} (hx : x = bi1N f) (hb : C.isBl x = true) (hn : notStar y = true) (ha : OkP X XR E y (ev G a)) : OkP X XR E (.Call (.Name x p) [y] [] pos) (ev G (.bi f a)) := by
  refine .plain ?_ (fun _ => rfl) (fun _ _ _ e => nomatch e)
  subst hx
  have e : ev G (.bi f a) = fun env st => (ev G a env st).bind fun x st => bi1D f x st := by
    funext env st
    simp only [ev]
  rw [e]
  have hu := w.un
  have hc := w.calm
  cases f with
  | len => exact ok_callB1 w c_len PySem.boot_len hb hn ha
  | all => exact ok_callB1 w (c_all hc) boot_all' hb hn ha
  | any => exact ok_callB1 w (c_any hc) boot_any' hb hn ha
  | sorted c => exact ok_callB1 w (c_sorted hu) boot_sorted' hb hn ha
  | tuple => exact ok_callT1 w c_tuple boot_tuple' hb hn ha
  | list c => exact ok_callT1 w c_list boot_list' hb hn ha
  | max => exact ok_callB1 w (c_maxmin hc hu true) boot_max' hb hn ha
  | min => exact ok_callB1 w (c_maxmin hc hu false) boot_min' hb hn ha
  | sum => exact ok_callB1 w (c_sum hc) boot_sum' hb hn ha
  | int => exact ok_callT1 w c_int boot_int' hb hn ha
theorem ok_mx2 (w : WF X C G XR E) {m : Bool} {a b : ME} {x : Str} {y z : Expr} {p pos : Pos} (hx : x = if m then ("max" : Str) else "min") (hb : C.isBl x = true) (hn : notStar y = true) (hn2 : notStar z = true) (ha : OkP X XR E y (ev G a)) (hbb : OkP X XR E z (ev G b)) : OkP X XR E (.Call (.Name x p) [y, z] [] pos) (ev G (.mx2 m a b)) := by
  refine .plain ?_ (fun _ => rfl) (fun _ _ _ e => nomatch e)
  obtain ⟨h1, h2, h3⟩ := bl_of w hb
  obtain ⟨d1, _, d3⟩ := okName_of h1
  have hc := w.calm
  have key : ∀ id, CallR X (.builtin id) (r2 (rO X.K XR (max2D m))) → bootBuiltins x = some (.builtin id) → PE X (.Call (.Name x p) [y, z] [] pos) (rE X.K XR E (ev G (.mx2 m a b))) := by
    intro id hcr hv
    refine PE.imp (pe_callB hcr h2 h3 hv (pa_cons ha.pe (pa_cons hbb.pe pa_nil (star1 hn2)) (star1 hn)) d3 d1 (star1 hn) (by rw [star1 hn2]; rfl)) fun σ H Q hq => ?_
    obtain ⟨env, st, F, φ, S, r, hq⟩ := hq
    simp only [ev] at hq
    exact ⟨env, st, F, φ, S, r, Sat.bind hq fun a st1 F1 φ1 H1 e1 S1 h1 x rx => ⟨env, st1, F1, φ1, S1, r.mono e1, Sat.bind h1 fun b st2 F2 φ2 H2 e2 S2 h2 y ry => ⟨x, y, rfl, _, a, b, st2, F2, φ2, S2, rx.mono e2, ry, h2⟩⟩⟩
  cases m with
  | true => exact key "max" (c_max2 hc) (by rw [hx]; exact boot_max')
  | false => exact key "min" (c_min2 hc) (by rw [hx]; exact boot_min')
theorem boot_isiT {T : String} (h : isiOkT T = true) : bootBuiltins (Str.ofString T) = some (.type T) := by
  unfold isiOkT at h
  simp only [Bool.or_eq_true, beq_iff_eq] at h
  rcases h with (((h | h) | h) | h) | h <;> subst h <;> decide +kernel
theorem ok_isi (w : WF X C G XR E) {T : String} {a : ME} {x t : Str} {y : Expr} {p p2 pos : Pos} (hx : x = ("isinstance" : Str)) (hb : C.isBl x = true) (ht : t = Str.ofString T) (hbt : C.isBl t = true) (hT : isiOkT T = true) (hn : notStar y = true) (ha : OkP X XR E y (ev G a)) :
    OkP X XR E (.Call (.Name x p) [y, .Name t p2] [] pos) (ev G (.isi T a)) := by
  refine .plain ?_ (fun _ => rfl) (fun _ _ _ e => nomatch e)
  obtain ⟨h1, h2, h3⟩ := bl_of w hb
  obtain ⟨d1, _, d3⟩ := okName_of h1
  obtain ⟨k1, k2, k3⟩ := bl_of w hbt
  obtain ⟨t1, _, t3⟩ := okName_of k1
  have hT2 : PE X (.Name t p2) (tC (.ty T)) := pe_bltn k2 k3 (by rw [ht]; exact boot_isiT hT) rfl t3 t1
  refine PE.imp (pe_callB (c_isi (XR := XR) hT) h2 h3 (by rw [hx]; exact boot_isi') (pa_cons ha.pe (pa_cons hT2 pa_nil) (star1 hn)) d3 d1 (star1 hn)) fun σ H Q hq => ?_
  obtain ⟨env, st, F, φ, S, r, hq⟩ := hq
  simp only [ev] at hq
  exact ⟨env, st, F, φ, S, r, Sat.bind hq fun a st1 F1 φ1 H1 e1 S1 h1 x rx => ⟨x, rfl, _, a, st1, F1, φ1, S1, rx, h1⟩⟩
theorem ok_call (w : WF X C G XR E) {i : Nat} {f : Str} {es : MEs} {y : Expr} {ys : List Expr} {p pos : Pos} (hg : C.isGl f = true) (hf : C.fns[i]? = some (some f)) (hc : chks C es (y :: ys) = true) (ha : OkA X XR E (y :: ys) (evs G es)) : OkP X XR E (.Call (.Name f p) (y :: ys) [] pos) (ev G (.call i es)) := by
  refine .plain ?_ (fun _ => rfl) (fun _ _ _ e => nomatch e)
  obtain ⟨h1, h2⟩ := gl_of w hg
  obtain ⟨d1, _, _⟩ := okName_of h1
  obtain ⟨k, fa, fd, ps, F, hr, hm, hk, hb⟩ := w.fns i f hf
  have hs : starEach (y :: ys) X.env = (false, eval y X.env) :: starEach ys X.env ∧ (backTo pos (starEach ys X.env)).any (·.1) = false := by
    cases es with
    | nil => simp [chks] at hc
    | cons e r =>
      simp only [chks, Bool.and_eq_true] at hc
      exact ⟨star1 hc.1.1, chks_plain hc.2⟩
  refine PE.imp (pe_callSD (E := E) F hr h2 hm hk hb .nil w.px ha d1 hs.1 hs.2) fun σ H Q hq => ?_
  obtain ⟨env, st, F, φ, S, r, hq⟩ := hq
  simp only [ev] at hq
  refine ⟨env, st, F, φ, S, r, Sat.bind hq fun ds st1 F1 φ1 H1 e1 S1 h1 vs rvs => ?_⟩
  show spOf X.K XR (G i) (vs ++ []) H1 Q (E σ)
  rw [List.append_nil]
  exact ⟨ds, st1, F1, φ1, S1, rvs, h1⟩
end
end MP

set_option Elab.async false
set_option linter.all false
set_option autoImplicit false
set_option maxRecDepth 100000
set_option maxHeartbeats 2000000
/-! the meaning is right: targets, what is walked, comprehensions -/
namespace MP
open PySem PySem.Spec PyProof.Rows L2

/-! ### targets -/
section
variable {K : PySem.W.Frag} {F : Hp} {φ : List Addr} {env : Env} {σ : L2.St}
theorem ER.set {i : Nat} {d : D} {v : V} (r : ER K F φ env σ) (h : RD K F φ v d) : ER K F φ (env.set i (some d)) (σ.set i (some v)) := by
  refine ⟨by rw [List.length_set, List.length_set]; exact r.len, fun j e hj => ?_⟩
  by_cases hij : i = j
  · subst hij
    have hl : i < env.length := by
      have := (List.getElem?_eq_some_iff.mp hj).1
      rwa [List.length_set] at this
    rw [List.getElem?_set_self hl] at hj
    cases Option.some.inj (Option.some.inj hj)
    exact ⟨v, by rw [List.getElem?_set_self (by rw [← r.len]; exact hl)], h⟩
  · rw [List.getElem?_set_ne hij] at hj ⊢
    exact r.val j e hj
theorem ER.wipe (r : ER K F φ env σ) : ∀ vs : List Nat, ER K F φ (wipeE env vs) (L2.wipe σ vs)
  | [] => r
  | v :: vs => by
    have ih := ER.wipe r vs
    unfold wipeE L2.wipe
    refine ⟨by rw [List.length_set, List.length_set]; exact ih.len, fun j e hj => ?_⟩
    by_cases hij : v = j
    · subst hij
      have hl : v < (wipeE env vs).length := by
        have := (List.getElem?_eq_some_iff.mp hj).1
        rwa [List.length_set] at this
      rw [List.getElem?_set_self hl] at hj
      cases hj
    · rw [List.getElem?_set_ne hij] at hj ⊢
      exact ih.val j e hj
/-- the slots that a target may change -/
def OnlyAt (vs : List Nat) (σ σ' : L2.St) : Prop := σ'.length = σ.length ∧ ∀ j, j ∉ vs → σ'[j]? = σ[j]?
end
def gD (K : PySem.W.Frag) (tg : MT) : TG := fun v σ H Q => ∃ env st F φ d, SR K F φ st H ∧ ER K F φ env σ ∧ RD K F φ v d ∧ ∃ env', bindD st tg d env = some env' ∧ ∀ σ', ER K F φ env' σ' → OnlyAt (tgVars tg) σ σ' → Q σ' H
def gDs (K : PySem.W.Frag) (tg : MTs) : TGs := fun vs σ H Q => ∃ env st F φ ds, SR K F φ st H ∧ ER K F φ env σ ∧ RDs K F φ vs ds ∧ ∃ env', bindDs st tg ds env = some env' ∧ ∀ σ', ER K F φ env' σ' → OnlyAt (tgVarss tg) σ σ' → Q σ' H
theorem PG.imp {X : Cx} {e : Expr} {t t' : TG} (h : PG X e t) (i : ∀ v σ H Q, t' v σ H Q → t v σ H Q) : PG X e t' := ⟨fun pins s σ H v u Q I r hw => h.run pins s σ H v u Q I r (i v σ H Q hw)⟩
theorem PGs.imp {X : Cx} {e : List Expr} {t t' : TGs} (h : PGs X e t) (i : ∀ v σ H Q, t' v σ H Q → t v σ H Q) : PGs X e t' := ⟨fun pins s σ H v u Q I r hw => h.run pins s σ H v u Q I r (i v σ H Q hw)⟩
theorem dpAll_len {K : PySem.W.Frag} {F : Hp} : ∀ {vs : List V} {xs : List PyData}, DpAll K F vs xs → vs.length = xs.length
  | _, _, .nil => rfl
  | _, _, .cons _ t => by simp [dpAll_len t]
section
variable {X : Cx} {C : Ctx} {G : Sem1} {XR : XRT} {E : EK}
theorem bindDs_len : ∀ {st : Store} {ts : MTs} {ds : List D} {env env' : Env} {es : List Expr} {en : PySem.Env}, bindDs st ts ds env = some env' → chkTs C ts es = true → ds.length = es.length ∧ (assignEach es en).length = es.length ∧ (assignEach es en).findIdx? (·.1) = none
  | _, .nil, [], env, env', [], en, _, _ => ⟨rfl, rfl, rfl⟩
  | _, .cons t r, d :: ds, env, env', e :: es, en, h, hc => by
    simp only [bindDs] at h
    obtain ⟨env1, h1, h2⟩ := Option.bind_eq_some_iff.mp h
    simp only [chkTs, Bool.and_eq_true] at hc
    obtain ⟨q1, q2, q3⟩ := bindDs_len (en := en) h2 hc.2
    have hne : assignEach (e :: es) en = (false, assign e en) :: assignEach es en := by
      cases e <;> first | rfl | (cases t <;> simp [chkT] at hc)
    rw [hne]
    refine ⟨by simp [q1], by simp [q2], ?_⟩
    rw [List.findIdx?_cons, if_neg (by simp), q3]
    rfl
  | _, .nil, _ :: _, _, _, _, _, h, _ => by simp [bindDs] at h
  | _, .cons _ _, [], _, _, _, _, h, _ => by simp [bindDs] at h
  | _, .nil, [], _, _, _ :: _, _, _, h => by simp [chkTs] at h
  | _, .cons _ _, _ :: _, _, _, [], _, _, h => by simp [chkTs] at h
mutual
theorem ok_tg (w : WF X C G XR E) (hf : C.fnC = true ∨ C.fnC = false) : ∀ {t : MT} {py : Expr}, chkT C t py = true → PG X py (gD X.K t)
  | .nm i, .Name x pos, h => by
    simp only [chkT, Bool.and_eq_true, decide_eq_true_eq] at h
    obtain ⟨h1, h2⟩ := slot_of h.1
    have hl : Loc X.env.scope x ∧ (X.fn x = true ∨ X.env.scope.names.lookup x = some .local) := by
      rcases h.2 with e | ⟨e1, e2⟩
      · exact ⟨.inl (by rw [w.sc]; exact e), .inr (by rw [w.sc]; exact e)⟩
      · exact ⟨.inr (by rw [w.sc]; exact e2), .inl (w.fn e1 x)⟩
    refine PG.imp (pg_name (i := i) w.nd (by rw [w.N]; exact h2) hl.1 hl.2) fun v σ H Q hq => ?_
    obtain ⟨env, st, F, φ, d, S, r, rv, env', e, q⟩ := hq
    cases Option.some.inj (show some (env.set i (some d)) = some env' from e)
    refine q _ (r.set rv) ⟨by rw [List.length_set], fun j hj => ?_⟩
    rw [List.getElem?_set_ne]
    intro e; subst e; simp [tgVars] at hj
  | .tup ts, .Tuple es k pos, h => by
    have h : chkTs C ts es = true := h
    have hs := ok_tgs w hf h
    refine ⟨fun pins s σ H v u Q I r hq => ?_⟩
    obtain ⟨env, st, F, φ, d, S, r0, rv, env', e, q⟩ := hq
    obtain ⟨ds, e0, e⟩ := Option.bind_eq_some_iff.mp (show (seqOf d st).bind (fun ds => bindDs st ts ds env) = some env' from e)
    obtain ⟨l1, l2, l3⟩ := bindDs_len (en := X.env) e h
    unfold seqOf at e0
    split at e0
    · rename_i ds' e1
      cases Option.some.inj e0
      obtain ⟨a, vs, rfl, hS, rr⟩ := items_ok S rv e1
      exact (pg_unl (n := es.length) w.calm hs l2 l3).run pins s σ H _ u Q I r ⟨a, vs, rfl, hS, by rw [rds_length rr, l1], env, st, F, φ, ds, S, r0, rr, env', e, q⟩
    · obtain ⟨a, vs, rfl, hS, rr⟩ := tups_ok S rv e0
      exact (pg_tup (n := es.length) w.calm hs l2 l3).run pins s σ H _ u Q I r ⟨a, vs, rfl, hS, by rw [rds_length rr, l1], env, st, F, φ, ds, S, r0, rr, env', e, q⟩
  | .nm _, .Tuple .., h => by simp [chkT] at h
  | .nm _, .BoolOp .., h => by simp [chkT] at h
  | .nm _, .NamedExpr .., h => by simp [chkT] at h
  | .nm _, .BinOp .., h => by simp [chkT] at h
  | .nm _, .UnaryOp .., h => by simp [chkT] at h
  | .nm _, .Lambda .., h => by simp [chkT] at h
  | .nm _, .IfExp .., h => by simp [chkT] at h
  | .nm _, .Dict .., h => by simp [chkT] at h
  | .nm _, .Set .., h => by simp [chkT] at h
  | .nm _, .ListComp .., h => by simp [chkT] at h
  | .nm _, .SetComp .., h => by simp [chkT] at h
  | .nm _, .DictComp .., h => by simp [chkT] at h
  | .nm _, .GeneratorExp .., h => by simp [chkT] at h
  | .nm _, .Await .., h => by simp [chkT] at h
  | .nm _, .Yield .., h => by simp [chkT] at h
  | .nm _, .YieldFrom .., h => by simp [chkT] at h
  | .nm _, .Compare .., h => by simp [chkT] at h
  | .nm _, .Call .., h => by simp [chkT] at h
  | .nm _, .FormattedValue .., h => by simp [chkT] at h
  | .nm _, .JoinedStr .., h => by simp [chkT] at h
  | .nm _, .Constant .., h => by simp [chkT] at h
  | .nm _, .Attribute .., h => by simp [chkT] at h
  | .nm _, .Subscript .., h => by simp [chkT] at h
  | .nm _, .Starred .., h => by simp [chkT] at h
  | .nm _, .List .., h => by simp [chkT] at h
  | .nm _, .Slice .., h => by simp [chkT] at h
  | .tup _, .Name .., h => by simp [chkT] at h
  | .tup _, .BoolOp .., h => by simp [chkT] at h
  | .tup _, .NamedExpr .., h => by simp [chkT] at h
  | .tup _, .BinOp .., h => by simp [chkT] at h
  | .tup _, .UnaryOp .., h => by simp [chkT] at h
  | .tup _, .Lambda .., h => by simp [chkT] at h
  | .tup _, .IfExp .., h => by simp [chkT] at h
  | .tup _, .Dict .., h => by simp [chkT] at h
  | .tup _, .Set .., h => by simp [chkT] at h
  | .tup _, .ListComp .., h => by simp [chkT] at h
  | .tup _, .SetComp .., h => by simp [chkT] at h
  | .tup _, .DictComp .., h => by simp [chkT] at h
  | .tup _, .GeneratorExp .., h => by simp [chkT] at h
  | .tup _, .Await .., h => by simp [chkT] at h
  | .tup _, .Yield .., h => by simp [chkT] at h
  | .tup _, .YieldFrom .., h => by simp [chkT] at h
  | .tup _, .Compare .., h => by simp [chkT] at h
  | .tup _, .Call .., h => by simp [chkT] at h
  | .tup _, .FormattedValue .., h => by simp [chkT] at h
  | .tup _, .JoinedStr .., h => by simp [chkT] at h
  | .tup _, .Constant .., h => by simp [chkT] at h
  | .tup _, .Attribute .., h => by simp [chkT] at h
  | .tup _, .Subscript .., h => by simp [chkT] at h
  | .tup _, .Starred .., h => by simp [chkT] at h
  | .tup _, .List .., h => by simp [chkT] at h
  | .tup _, .Slice .., h => by simp [chkT] at h
theorem ok_tgs (w : WF X C G XR E) (hf : C.fnC = true ∨ C.fnC = false) : ∀ {ts : MTs} {es : List Expr}, chkTs C ts es = true → PGs X es (gDs X.K ts)
  | .nil, [], h => by
    refine PGs.imp pgs_nil fun vs σ H Q hq => ?_
    obtain ⟨env, st, F, φ, ds, S, r, rv, env', e, q⟩ := hq
    cases ds with
    | nil =>
      cases rv
      cases Option.some.inj (show some env = some env' from e)
      exact ⟨rfl, q σ r ⟨rfl, fun _ _ => rfl⟩⟩
    | cons d ds => simp [bindDs] at e
  | .cons t r, x :: xs, h => by
    simp only [chkTs, Bool.and_eq_true] at h
    have h1 := ok_tg w hf h.1
    have h2 := ok_tgs w hf h.2
    have hne : (assignEach (x :: xs) X.env).map (·.2) = assign x X.env :: (assignEach xs X.env).map (·.2) := by
      have h3 := h.1
      cases x <;> first | rfl | (cases t <;> simp [chkT] at h3)
    refine PGs.imp (pgs_cons h1 h2 hne) fun vs σ H Q hq => ?_
    obtain ⟨env, st, F, φ, ds, S, r0, rv, env', e, q⟩ := hq
    cases ds with
    | nil => simp [bindDs] at e
    | cons d ds =>
      cases rv with
      | cons rv rvs =>
        obtain ⟨env1, e1, e2⟩ := Option.bind_eq_some_iff.mp (show (bindD st t d env).bind (fun env => bindDs st r ds env) = some env' from e)
        refine ⟨_, _, rfl, env, st, F, φ, d, S, r0, rv, env1, e1, fun σ1 r1 o1 => ⟨env1, st, F, φ, ds, S, r1, rvs, env', e2, fun σ2 r2 o2 => q σ2 r2 ⟨o2.1.trans o1.1, fun j hj => ?_⟩⟩⟩
        simp only [tgVarss, List.mem_append, not_or] at hj
        rw [o2.2 j hj.2, o1.2 j hj.1]
  | .nil, _ :: _, h => by simp [chkTs] at h
  | .cons _ _, [], h => by simp [chkTs] at h
end
end
end MP

set_option Elab.async false
set_option linter.all false
set_option autoImplicit false
set_option maxRecDepth 100000
set_option maxHeartbeats 2000000
/-! zip of two lists, two tuples, of a text and a tuple -/
namespace MP
open PySem PySem.Spec PyProof.Rows L2
/-- a text's signs beside a tuple's items -/
def ItzS (K : PySem.W.Frag) (zs : Str) (b : Addr) : It :=
  ⟨fun i H => ∃ (ys : List V), SqT K H b ys ∧ i < zs.cps.size ∧ i < ys.length,
    fun i H v H' => ∃ T c y, v = .ref T ∧ H T = none ∧ H' = upd H T (.tup [.str ⟨#[c]⟩, y]) ∧ zs.cps[i]? = some c ∧ ∀ ys, SqT K H b ys → ys[i]? = some y,
    fun i H => ∃ ys : List V, SqT K H b ys ∧ i ≤ zs.cps.size ∧ i ≤ ys.length ∧ (i = zs.cps.size ∨ i = ys.length)⟩
theorem draws_in {P : Program} {w : World} {A : Around} (hh : A.handled = none) (i1 i2 b : Addr) (hne : b ≠ i2) (zs : Str) (t : Tok) (its : Array Value) :
    Draws P w A.in1 i1 [i1] zs.cps.size (fun i v => ∃ c u, zs.cps[i]? = some c ∧ v = .str ⟨#[c]⟩ u) (fun i h => h.IsStrIter i1 (strIterType zs) zs t i) ∧
    Draws P w A.in1 i2 [i2, b] its.size (fun i v => its[i]? = some v) (fun i h => h.IsTupleIter i2 b i ∧ h.IsTuple b its) :=
  ⟨.text (A := A.in1) hh i1 zs t, .tuple (A := A.in1) hh i2 b hne its⟩
structure ZApart (z TI TO i1 i2 b : Addr) : Prop where
  S : ZipSep2 z TI TO i1 i2 [i1] [i2, b]
  ne : b ≠ i2
theorem zapart {I b : Nat} (h : b < I) : ZApart (I + 4) (I + 2) (I + 3) I (I + 1) b := by
  refine ⟨?_, PySem.W.neN (by omega)⟩
  have no : ∀ {a c : Nat} {l : List Addr}, a ≠ c → a ∉ l → a ∉ ((c : Addr) :: l) := fun h1 h2 h => (List.mem_cons.mp h).elim (PySem.W.neN h1) h2
  exact ⟨PySem.W.neN (by omega), PySem.W.neN (by omega), PySem.W.neN (by omega), PySem.W.neN (by omega), List.mem_cons_self, no (by omega) List.not_mem_nil, no (by omega) List.not_mem_nil, PySem.W.neN (by omega), List.mem_cons_self,
    no (by omega) (no (by omega) List.not_mem_nil), no (by omega) (no (by omega) List.not_mem_nil), no (by omega) (no (by omega) List.not_mem_nil), no (by omega) List.not_mem_nil⟩
theorem turn_zipS {P : Program} {w : World} {K : PySem.W.Frag} {elts : List Expr} {kk : Nat} {tpos : Pos} {zs : Str} {t : Tok} {b z TI TO i1 i2 : Addr} (D : ZApart z TI TO i1 i2 b) :
    Turn P w K (.Tuple elts kk tpos) (ItzS K zs b) [z, TI, TO, i1, i2] z (fun i h => IsZip h z TI TO .none ∧ IsTupOf2 h TI (.ref i1) (.ref i2) ∧ (∃ x y, IsTupOf2 h TO x y) ∧ h.IsStrIter i1 (strIterType zs) zs t i ∧ h.IsTupleIter i2 b i) where
  mem := by simp
  obj := fun i h st c hc => by
    obtain ⟨g1, g2, ⟨_, _, g3⟩, ⟨o1, e1, _, d1⟩, ⟨o2, e2, _, d2⟩⟩ := st
    simp only [List.mem_cons, List.not_mem_nil, or_false] at hc
    rcases hc with rfl | rfl | rfl | rfl | rfl
    · exact ⟨_, g1, fun v q => nomatch q⟩
    · exact ⟨_, g2, fun v q => nomatch q⟩
    · exact ⟨_, g3, fun v q => nomatch q⟩
    · exact ⟨o1, e1, fun v q => by rw [d1] at q; cases q⟩
    · exact ⟨o2, e2, fun v q => by rw [d2] at q; cases q⟩
  keep := fun i h h' st k => by
    obtain ⟨g1, g2, ⟨x, y, g3⟩, ⟨o1, e1, r1⟩, ⟨o2, e2, r2⟩⟩ := st
    exact ⟨k z (by simp) _ g1, k TI (by simp) _ g2, ⟨x, y, k TO (by simp) _ g3⟩, ⟨o1, k i1 (by simp) _ e1, r1⟩, ⟨o2, k i2 (by simp) _ e2, r2⟩⟩
  item := by
    intro X hP hw hK hc i pins s σ H E I hf st hg
    subst hP hw hK
    obtain ⟨g1, g2, ⟨x0, y0, g3⟩, h1, h2⟩ := st
    obtain ⟨ys, hq, k1, k2⟩ := hg
    obtain ⟨its, rv, p, _⟩ := I.tuple hq
    have ln := rv.length
    obtain ⟨D1, D2⟩ := draws_in (P := X.prog) (w := X.w) (I.ok.hd hc) i1 i2 b D.ne zs t its.toArray
    have live : ∀ {c o}, s.heap.get? c = some o → c < s.heap.objs.size := fun e => Heap.lt_size e
    refine wpAny_pyNext_zipD2_item D.S D1 D2 g1 g2 g3 h1 ⟨h2, p⟩ k1 (by simp; omega) fun u u2 h' tk' hu hu2 z' TO' h1' h2' hT hsz hk => ?_
    obtain ⟨c, t2, hc1, rfl⟩ := hu
    have hu2 : its[i]? = some u2 := by simpa using hu2
    have hy : ys[i]? = some (ys[i]'k2) := by simp [k2]
    obtain ⟨u3, hu3, ru⟩ := rv.get hy
    cases hu2.symm.trans hu3
    refine ⟨_, rfl, wpAny_letOwnedTupleGo_zip (s := { s with heap := h', toks := tk' }) z' fun h'' z'' sb => ?_⟩
    have nz : s.heap.objs.size ≠ z := Nat.ne_of_gt (live g1)
    have hT2 : h''.get? s.heap.objs.size = some { cls := .type "tuple", data := .seq #[.str ⟨#[c]⟩ t2, u2] } := (sb.2 _ nz).trans hT
    have r0 : RelV (.str ⟨#[c]⟩) (.str ⟨#[c]⟩ t2) := ⟨t2, rfl⟩
    have new : ObjOk X.prog X.w (upd H s.heap.objs.size (.tup [.str ⟨#[c]⟩, ys[i]])) h'' s.heap.objs.size (.tup [.str ⟨#[c]⟩, ys[i]]) :=
      ⟨by show 2 ≤ sizeLine; decide, [.str ⟨#[c]⟩ t2, u2], .cons r0 (.cons ru .nil), ⟨_, hT2, rfl, _, rfl⟩⟩
    have old : ∀ c' o, c' ∉ [z, TI, TO, i1, i2] → s.heap.get? c' = some o → h''.get? c' = some o := fun c' o hb q => by
      simp only [List.mem_cons, List.not_mem_nil, or_false, not_or] at hb
      exact (sb.2 c' hb.1).trans (hk c' o hb.1 hb.2.2.1 hb.2.2.2.1 hb.2.2.2.2 q)
    have I1 : Inv X pins σ (upd H s.heap.objs.size (.tup [.str ⟨#[c]⟩, ys[i]])) { s with heap := h'', toks := tk' } :=
      I.turnedNew (t' := tk') (ch := [z, TI, TO, i1, i2]) old hf (Nat.le_refl _) new
    refine ⟨.ref s.heap.objs.size, _, I1, rfl, ⟨_, c, ys[i], rfl, I.hok.fresh (Nat.le_refl _), rfl, hc1, fun l hl => by rw [I.tuple_inj hl hq]; exact hy⟩, ⟨z'', ?_, ⟨.str ⟨#[c]⟩ t2, u2, ?_⟩, ?_, ?_⟩, fun c' hcm => ?_⟩
    · exact (sb.2 _ D.S.TIz).trans (hk _ _ D.S.TIz D.S.TITO D.S.TIi1 D.S.TIi2 g2)
    · exact (sb.2 _ D.S.TOz).trans TO'
    · obtain ⟨o, e, r⟩ := h1'
      exact ⟨o, (sb.2 _ fun q => D.S.zi1 q.symm).trans e, r⟩
    · obtain ⟨⟨o, e, r⟩, _⟩ := h2'
      exact ⟨o, (sb.2 _ fun q => D.S.zi2 q.symm).trans e, r⟩
    · have hlt : c' < s.heap.objs.size := by
        obtain ⟨_, e1, _⟩ := h1
        obtain ⟨_, e2, _⟩ := h2
        simp only [List.mem_cons, List.not_mem_nil, or_false] at hcm
        rcases hcm with rfl | rfl | rfl | rfl | rfl
        · exact live g1
        · exact live g2
        · exact live g3
        · exact live e1
        · exact live e2
      rw [upd_ne (Nat.ne_of_lt hlt)]
      exact (hf c' hcm).1
  done := by
    intro X hP hw hK hc i pins s σ H E I hf st hg
    subst hP hw hK
    obtain ⟨g1, g2, ⟨x0, y0, g3⟩, h1, h2⟩ := st
    obtain ⟨ys, hq, k1, k2, k3⟩ := hg
    obtain ⟨its, rv, p, _⟩ := I.tuple hq
    have ln := rv.length
    obtain ⟨D1, D2⟩ := draws_in (P := X.prog) (w := X.w) (I.ok.hd hc) i1 i2 b D.ne zs t its.toArray
    refine wpAny_pyNext_zipD2_end D.S D1 D2 g1 g2 g3 h1 ⟨h2, p⟩ k1 (by simp; omega) (by simp; omega) fun h' tk' hk => ?_
    have old : ∀ c' o, c' ∉ [z, TI, TO, i1, i2] → s.heap.get? c' = some o → h'.get? c' = some o := fun c' o hb q => by
      simp only [List.mem_cons, List.not_mem_nil, or_false, not_or] at hb
      exact hk c' o hb.1 hb.2.2.1 hb.2.2.2.1 hb.2.2.2.2 q
    exact ⟨rfl, I.turnedL (t' := tk') (ch := [z, TI, TO, i1, i2]) old hf⟩
  self := fun A i s Q E st h => wpAny_pyIter_zip st.1 h
/-- two lists, two tuples, a text and a tuple -/
def iZ3 (K : PySem.W.Frag) (ta : TA) : TI := fun σ H R => ta σ H fun vs H1 => ∃ v b, vs = [v, .ref b] ∧
  ((∃ a xs ys, v = .ref a ∧ SqL K H1 a xs ∧ SqL K H1 b ys ∧ R (Itz K a b) H1) ∨ (∃ a xs ys, v = .ref a ∧ SqT K H1 a xs ∧ SqT K H1 b ys ∧ R (RZ.ItzT K a b) H1) ∨ (∃ zs ys, v = .str zs ∧ SqT K H1 b ys ∧ R (ItzS K zs b) H1))
theorem pi_zip3 {X : Cx} {e e2 : Expr} {ta : TA} {p pos tpos : Pos} {elts : List Expr} {kk : Nat} (hg : Gl X "zip") (hm : X.mg "zip" = none) (pa : PA X [e, e2] ta) (h1 : notStar e = true) (h2 : notStar e2 = true) :
    PI X (.Tuple elts kk tpos) (.Call (.Name "zip" p) [e, e2] [] pos) (iZ3 X.K ta) := by
  refine ⟨fun pins s σ H R I hq => Call_ (ld_blt I hg hm boot_zip (callWith_type1 (thn (pa.run pos pins s σ H _ I hq) fun us s1 hh => ?_) (star1 h1) (by rw [star1 h2]; rfl)))⟩
  obtain ⟨vs, H1, I1, r1, v, b, rfl, q1⟩ := hh
  cases r1 with
  | cons r rr =>
    cases rr with
    | cons r' rr =>
      cases rr
      cases r'
      obtain ⟨n, hn⟩ : ∃ n, n = s1.heap.objs.size := ⟨_, rfl⟩
      have five : ∀ c, c ∈ [n + 4, n + 2, n + 3, n, n + 1] → FpOk X pins H1 c := fun c hcm => by
        have hle : s1.heap.objs.size ≤ c := by
          simp only [List.mem_cons, List.not_mem_nil, or_false] at hcm
          rcases hcm with z | z | z | z | z <;> rw [z, hn] <;> first | exact Nat.le_refl _ | exact Nat.le_add_right _ _
        exact I1.fpOk hle (I1.hok.fresh hle)
      subst hn
      rcases q1 with ⟨a, xs, ys, rfl, qx, qy, q⟩ | ⟨a, xs, ys, rfl, qx, qy, q⟩ | ⟨zs, ys, rfl, qy, q⟩
      · cases r
        obtain ⟨_, _, p1, _⟩ := I1.list qx
        obtain ⟨_, _, p2, _⟩ := I1.list qy
        refine call_zip_2 p1.isList p2.isList fun hp hz hTI hTO i1 i2 _ hk => wpAny_pyIter_zip hz ?_
        exact ⟨_, _, _, _, H1, rfl, I1.kept (t' := s1.toks) hk, turn_zip (PySem.W.ktu_apart s1.heap.objs.size a b p1.lt p2.lt), ⟨hz, hTI, ⟨_, _, hTO⟩, i1, i2⟩, five, q⟩
      · cases r
        obtain ⟨j1, _, p1, _⟩ := I1.tuple qx
        obtain ⟨j2, _, p2, _⟩ := I1.tuple qy
        obtain ⟨_, o1, _⟩ := id p1
        obtain ⟨_, o2, _⟩ := id p2
        refine RZ.call_zipT (show s1.heap.IsTuple a j1.toArray from p1) (show s1.heap.IsTuple b j2.toArray from p2) fun hp hz hTI hTO i1 i2 _ hk => wpAny_pyIter_zip hz ?_
        exact ⟨_, _, _, _, H1, rfl, I1.kept (t' := s1.toks) hk, RZ.turn_zipT (PySem.W.ktu_apart s1.heap.objs.size a b (Heap.lt_size o1) (Heap.lt_size o2)), ⟨hz, hTI, ⟨_, _, hTO⟩, i1, i2⟩, five, q⟩
      · obtain ⟨t, rfl⟩ := r
        obtain ⟨j2, _, p2, _⟩ := I1.tuple qy
        obtain ⟨_, o2, _⟩ := id p2
        refine zip_begins2 (begins_text zs t) (begins_tuple b j2.toArray) trivial (show s1.heap.IsTuple b j2.toArray from p2) fun hp hz hTI hTO i1 i2 _ hk => wpAny_pyIter_zip hz ?_
        exact ⟨_, _, _, _, H1, rfl, I1.kept (t' := s1.toks) hk, turn_zipS (zapart (Heap.lt_size o2)), ⟨hz, hTI, ⟨_, _, hTO⟩, ⟨_, i1, rfl, rfl⟩, ⟨_, i2, rfl, rfl⟩⟩, five, q⟩
end MP

set_option Elab.async false
set_option linter.all false
set_option autoImplicit false
set_option maxRecDepth 100000
set_option maxHeartbeats 2000000
/-! the meaning is right: what is walked, comprehensions, the whole of expressions -/
namespace MP
open PySem PySem.Spec PyProof.Rows L2

def RItm (K : PySem.W.Frag) (F : Hp) (φ : List Addr) (x : V) : Itm → Prop
  | .one d => RD K F φ x d
  | .two a b => ∃ T y z, x = .ref T ∧ F T = some (.tup [y, z]) ∧ RD K F φ y a ∧ RD K F φ z b
theorem RItm.mono {K : PySem.W.Frag} {F F1 : Hp} {φ φ1 : List Addr} (e : Ext F φ F1 φ1) {x : V} : ∀ {it : Itm}, RItm K F φ x it → RItm K F1 φ1 x it
  | .one d, h => RD.mono e h
  | .two a b, ⟨T, y, z, h1, h2, h3, h4⟩ => ⟨T, y, z, h1, e.sub _ _ h2, h3.mono e, h4.mono e⟩
def gI (K : PySem.W.Frag) (tg : MT) : TG := fun v σ H Q => ∃ env st F φ it, SR K F φ st H ∧ ER K F φ env σ ∧ RItm K F φ v it ∧ ∃ env', bindI st tg it env = some env' ∧ ∀ σ', ER K F φ env' σ' → OnlyAt (tgVars tg) σ σ' → Q σ' H
section
variable {X : Cx} {C : Ctx} {G : Sem1} {XR : XRT} {E : EK}
theorem ok_tgI (w : WF X C G XR E) {t : MT} {py : Expr} (h : chkT C t py = true) : PG X py (gI X.K t) := by
  have hb : C.fnC = true ∨ C.fnC = false := by cases C.fnC <;> simp
  refine ⟨fun pins s σ H v u Q I r hq => ?_⟩
  obtain ⟨env, st, F, φ, it, S, r0, ri, env', e, q⟩ := hq
  cases it with
  | one d => exact (ok_tg w hb h).run pins s σ H v u Q I r ⟨env, st, F, φ, d, S, r0, ri, env', e, q⟩
  | two a b =>
    cases t with
    | nm i => cases e
    | tup ts =>
      cases py with
      | Tuple es k pos =>
        have h : chkTs C ts es = true := h
        have e : bindDs st ts [a, b] env = some env' := e
        obtain ⟨l1, l2, l3⟩ := bindDs_len (en := X.env) e h
        obtain ⟨T, y, z, rfl, hT, ra, rb⟩ := ri
        exact (pg_tup (n := es.length) w.calm (ok_tgs w hb h) l2 l3).run pins s σ H _ u Q I r ⟨T, [y, z], rfl, Evl.st_of (S.sub T _ hT), l1, env, st, F, φ, [a, b], S, r0, .cons ra (.cons rb .nil), env', e, q⟩
      | _ => simp [chkT] at h

/-! ### what is walked -/
/-- J walks the items while gd stands -/
def WalkOk (K : PySem.W.Frag) (J : It) (its : List Itm) (gd : Store → Prop) (F : Hp) (φ : List Addr) : Prop :=
  ∃ (Gd : Hp → Prop) (Y : Nat → Hp → V → Hp → Prop), Walk J its.length Gd Y ∧ (∀ F2 φ2 st2 H2, Ext F φ F2 φ2 → SR K F2 φ2 st2 H2 → gd st2 → Gd H2) ∧
    ∀ F2 φ2 st2 H2 i x H3, Ext F φ F2 φ2 → SR K F2 φ2 st2 H2 → gd st2 → i < its.length → Y i H2 x H3 → ∃ F3, Ext F2 φ2 F3 φ2 ∧ SR K F3 φ2 st2 H3 ∧ ∃ it, its[i]? = some it ∧ RItm K F3 φ2 x it
theorem WalkOk.ext {K : PySem.W.Frag} {J : It} {its : List Itm} {gd : Store → Prop} {F F1 : Hp} {φ φ1 : List Addr} (h : WalkOk K J its gd F φ) (e : Ext F φ F1 φ1) : WalkOk K J its gd F1 φ1 := by
  obtain ⟨Gd, Y, h1, h2, h3⟩ := h
  exact ⟨Gd, Y, h1, fun F2 φ2 st2 H2 x S g => h2 F2 φ2 st2 H2 (e.trans x) S g, fun F2 φ2 st2 H2 i x H3 y S g hi z => h3 F2 φ2 st2 H2 i x H3 (e.trans y) S g hi z⟩
def QI (K : PySem.W.Frag) (Rk : It → Hp → Prop) : Hp → List Addr → Hp → (List Itm × (Store → Prop)) → Prop := fun F' φ' H' p => ∀ J, WalkOk K J p.1 p.2 F' φ' → Rk J H'
def rI (K : PySem.W.Frag) (XR : XRT) (E : EK) (m : Env → Store → R (List Itm × (Store → Prop))) : TI := fun σ H Rk => ∃ env st F φ, SR K F φ st H ∧ ER K F φ env σ ∧ Sat K XR (E σ) (QI K Rk) F φ (m env st)
theorem PI.imp {tg l : Expr} {t t' : TI} (h : PI X tg l t) (i : ∀ σ H Q, t' σ H Q → t σ H Q) : PI X tg l t' := ⟨fun pins s σ H Q I hw => h.run pins s σ H Q I (i σ H Q hw)⟩
def iSeq (K : PySem.W.Frag) (tl : TE) : TI := fun σ H R => tl σ H fun x H1 => (∃ a, x = .ref a ∧ (∃ xs, SqL K H1 a xs) ∧ R (Itl K a) H1) ∨ (∃ a, x = .ref a ∧ (∃ xs, SqT K H1 a xs) ∧ R (Itt K a) H1) ∨ ∃ z, x = .str z ∧ R (Its z) H1
theorem pi_seq {tg l : Expr} {tl : TE} (hl : PE X l tl) : PI X tg l (iSeq X.K tl) := by
  refine ⟨fun pins s σ H R I h => ?_⟩
  refine thn (hl.run pins s σ H _ I h) fun v s1 ⟨x, H1, I1, r1, q1⟩ => ?_
  rcases q1 with ⟨a, e, ⟨xs, hq⟩, q⟩ | ⟨a, e, ⟨xs, hq⟩, q⟩ | ⟨z, e, q⟩
  · subst e
    cases r1
    obtain ⟨its, rv, p, hz⟩ := I1.list hq
    refine wpAny_pyIter_list p.isList ?_
    refine ⟨s1.heap.objs.size, [s1.heap.objs.size], _, _, H1, rfl, I1.kept (t' := s1.toks) fun b o e => Heap.get?_push_of_some _ e, turn_list a _, ⟨_, Heap.get?_push_size _ rfl, rfl, rfl⟩, fun b hb => ?_, q⟩
    have e : b = s1.heap.objs.size := by simpa using hb
    subst e
    exact I1.fpOk (Nat.le_refl _) (I1.hok.fresh (Nat.le_refl _))
  · subst e
    cases r1
    obtain ⟨its, rv, p, hz⟩ := I1.tuple hq
    refine wpAny_pyIter_tuple (show s1.heap.IsTuple a its.toArray from p) ?_
    refine ⟨s1.heap.objs.size, [s1.heap.objs.size], _, _, H1, rfl, I1.kept (t' := s1.toks) fun b o e => Heap.get?_push_of_some _ e, turn_tuple a _, ⟨_, Heap.get?_push_size _ rfl, rfl, rfl⟩, fun b hb => ?_, q⟩
    have e : b = s1.heap.objs.size := by simpa using hb
    subst e
    exact I1.fpOk (Nat.le_refl _) (I1.hok.fresh (Nat.le_refl _))
  · subst e
    obtain ⟨t, rfl⟩ := r1
    cases ha : z.cps.all (· < 128)
    · exact wpAny_pyIter_wide ha (pi_one (tk := s1.toks) I1 _ (turn_str _ z t "str_iterator" (.inr rfl)) ⟨_, Heap.get?_push_size _ rfl, rfl, rfl⟩ q)
    · exact wpAny_pyIter_ascii ha (pi_one (tk := s1.toks) I1 _ (turn_str _ z t "str_ascii_iterator" (.inl rfl)) ⟨_, Heap.get?_push_size _ rfl, rfl, rfl⟩ q)
theorem walkL {K : PySem.W.Frag} {F : Hp} {φ : List Addr} {a : Addr} {d : D} {ds : List D} {gd : Store → Prop} (r : RD K F φ (.ref a) d) (hg : ∀ st, gd st → items d st = some ds) : WalkOk K (Itl K a) (ds.map .one) gd F φ := by
  have at_ : ∀ F2 φ2 st2 H2, Ext F φ F2 φ2 → SR K F2 φ2 st2 H2 → gd st2 → ∃ vs, SqL K H2 a vs ∧ RDs K F2 φ2 vs ds := fun F2 φ2 st2 H2 x S g => by
    obtain ⟨b, vs, e, h1, h2⟩ := items_ok S (r.mono x) (hg st2 g)
    cases e
    exact ⟨vs, h1, h2⟩
  refine ⟨fun H => ∃ vs, SqL K H a vs ∧ vs.length = ds.length, fun i H x H' => H' = H ∧ ∀ xs, SqL K H a xs → xs[i]? = some x, ⟨fun i H hi q => ?_, fun H q => ?_, fun i H x H' hi q y => y⟩, fun F2 φ2 st2 H2 x S g => ?_, fun F2 φ2 st2 H2 i x H3 e S g hi y => ?_⟩
  · obtain ⟨vs, h1, h2⟩ := q
    rw [List.length_map, ← h2] at hi
    exact ⟨vs, vs[i], h1, by simp [hi]⟩
  · obtain ⟨vs, h1, h2⟩ := q
    exact ⟨vs, h1, by rw [List.length_map, h2]; exact Nat.le_refl _⟩
  · obtain ⟨vs, h1, h2⟩ := at_ F2 φ2 st2 H2 x S g
    exact ⟨vs, h1, rds_length h2⟩
  · obtain ⟨rfl, y⟩ := y
    obtain ⟨vs, h1, h2⟩ := at_ F2 φ2 st2 _ e S g
    obtain ⟨d', h3, h4⟩ := rds_get' h2 (y vs h1)
    exact ⟨F2, Ext.refl, S, .one d', by rw [List.getElem?_map, h3]; rfl, h4⟩
theorem walkT {K : PySem.W.Frag} {F : Hp} {φ : List Addr} {a : Addr} {xs : List PyData} {gd : Store → Prop} (r : RD K F φ (.ref a) (.p (.tuple xs))) : WalkOk K (Itt K a) (xs.map fun x => .one (.p x)) gd F φ := by
  cases r with
  | tup hS hA =>
    rename_i vs
    have hl := dpAll_len hA
    refine ⟨fun H => SqT K H a vs, YAt vs, ?_, fun F2 φ2 st2 H2 x S g => Evl.st_of (S.sub _ _ (x.sub _ _ hS)), fun F2 φ2 st2 H2 i x H3 e S g hi y => ?_⟩
    · rw [List.length_map, ← hl]; exact walk_tup
    · obtain ⟨rfl, y⟩ := y
      obtain ⟨d', h3, h4⟩ := rds_get' (dpAll_rds (φ := φ2) (dpAll_mono e.sub hA)) y
      rw [List.getElem?_map] at h3
      obtain ⟨x', h5, rfl⟩ := Option.map_eq_some_iff.mp h3
      exact ⟨F2, Ext.refl, S, .one (.p x'), by rw [List.getElem?_map, h5]; rfl, h4⟩
theorem walkS {K : PySem.W.Frag} {F : Hp} {φ : List Addr} {z : Str} {gd : Store → Prop} : WalkOk K (Its z) (z.cps.toList.map fun c => .one (.p (.str ⟨#[c]⟩))) gd F φ := by
  refine ⟨fun _ => True, fun i H v H' => H' = H ∧ ∃ c, z.cps[i]? = some c ∧ v = .str ⟨#[c]⟩, ?_, fun _ _ _ _ _ _ _ => trivial, fun F2 φ2 st2 H2 i x H3 e S g hi y => ?_⟩
  · rw [List.length_map, Array.length_toList]; exact walk_str
  · obtain ⟨rfl, c, h1, rfl⟩ := y
    exact ⟨F2, Ext.refl, S, .one (.p (.str ⟨#[c]⟩)), by rw [List.getElem?_map, Array.getElem?_toList, h1]; rfl, rd_str (φ := φ2)⟩
theorem walkR {K : PySem.W.Frag} {F : Hp} {φ : List Addr} {lo : Int} {n : Nat} {gd : Store → Prop} : WalkOk K (Itr lo n) ((List.range n).map fun (i : Nat) => .one (.p (.int (lo + (i : Int))))) gd F φ := by
  refine ⟨fun _ => True, YFn fun i => .int (lo + i), ?_, fun _ _ _ _ _ _ _ => trivial, fun F2 φ2 st2 H2 i x H3 e S g hi y => ?_⟩
  · rw [List.length_map, List.length_range]; exact walk_range
  · obtain ⟨rfl, rfl⟩ := y
    rw [List.length_map, List.length_range] at hi
    exact ⟨F2, Ext.refl, S, .one (.p (.int (lo + (i : Int)))), by rw [List.getElem?_map, List.getElem?_range hi]; rfl, rd_int (φ := φ2)⟩
theorem ok_seq {tg l : Expr} {a : ME} (h : OkP X XR E l (ev G a)) : PI X tg l (rI X.K XR E (evi G (.seq a))) := by
  refine PI.imp (pi_seq h.pe) fun σ H Rk hq => ?_
  obtain ⟨env, st, F, φ, S, r, hq⟩ := hq
  simp only [evi] at hq
  refine ⟨env, st, F, φ, S, r, Sat.bind hq fun d st1 F1 φ1 H1 e1 S1 h1 v rv => ?_⟩
  unfold seqI at h1
  split at h1
  · rename_i xs
    have rv' := rv
    cases rv with
    | lst hS hA =>
      refine .inl ⟨_, rfl, ⟨_, Evl.ex_l S1.sub hS⟩, h1.ok S1 _ ?_⟩
      have := walkL (ds := xs.map D.p) (gd := fun _ => True) rv' (fun _ _ => rfl)
      rwa [List.map_map] at this
  · rename_i xs
    have rv' := rv
    cases rv with
    | tup hS hA => exact .inr (.inl ⟨_, rfl, ⟨_, Evl.st_of (S1.sub _ _ hS)⟩, h1.ok S1 _ (walkT rv')⟩)
  · exact .inr (.inr ⟨_, rv.str, h1.ok S1 _ walkS⟩)
  · rename_i n
    split at h1
    · rename_i ds e
      have rv' := rv
      obtain ⟨b, vs, rfl, hS, _⟩ := items_ok S1 rv (show items (.c n) st1 = some ds from e)
      exact .inl ⟨b, rfl, ⟨vs, hS⟩, h1.ok S1 _ (walkL rv' (fun st' g => g))⟩
    · exact h1.elim
  · exact h1.elim
theorem ok_rng1 (w : WF X C G XR E) {tg : Expr} {a : ME} {f : Str} {x : Expr} {p pos : Pos} (hf : f = ("range" : Str)) (hb : C.isBl f = true) (hn : notStar x = true) (h : OkP X XR E x (ev G a)) : PI X tg (.Call (.Name f p) [x] [] pos) (rI X.K XR E (evi G (.rng1 a))) := by
  subst hf
  obtain ⟨h1, h2, h3⟩ := bl_of w hb
  refine PI.imp (pi_range1 h2 h3 (pa_cons h.pe pa_nil (star1 hn)) (star1 hn)) fun σ H Rk hq => ?_
  obtain ⟨env, st, F, φ, S, r, hq⟩ := hq
  simp only [evi] at hq
  refine ⟨env, st, F, φ, S, r, Sat.bind hq fun d st1 F1 φ1 H1 e1 S1 h1 v rv => ?_⟩
  split at h1
  · rename_i i
    unfold rngI at h1
    split at h1
    · rename_i hz
      have h4 := h1.ok S1 (Itr 0 i.toNat)
      simp only [Int.sub_zero] at h4
      exact ⟨i, by rw [rv.int], hz.2.2.1, hz.2.2.2, h4 walkR⟩
    · exact h1.elim
  · exact h1.elim
theorem ok_rng2 (w : WF X C G XR E) {tg : Expr} {a b : ME} {f : Str} {x y : Expr} {p pos : Pos} (hf : f = ("range" : Str)) (hb : C.isBl f = true) (hn : notStar x = true) (hn2 : notStar y = true) (h : OkP X XR E x (ev G a)) (hh : OkP X XR E y (ev G b)) : PI X tg (.Call (.Name f p) [x, y] [] pos) (rI X.K XR E (evi G (.rng2 a b))) := by
  subst hf
  obtain ⟨h1, h2, h3⟩ := bl_of w hb
  refine PI.imp (pi_range2 h2 h3 (pa_cons h.pe (pa_cons hh.pe pa_nil (star1 hn2)) (star1 hn)) (by rw [star1 hn, star1 hn2]; rfl) (star1 hn2)) fun σ H Rk hq => ?_
  obtain ⟨env, st, F, φ, S, r, hq⟩ := hq
  simp only [evi] at hq
  refine ⟨env, st, F, φ, S, r, Sat.bind hq fun d st1 F1 φ1 H1 e1 S1 h1 v rv => ⟨env, st1, F1, φ1, S1, r.mono e1, Sat.bind h1 fun d2 st2 F2 φ2 H2 e2 S2 h2 v2 rv2 => ?_⟩⟩
  split at h2
  · rename_i i j
    unfold rngI at h2
    split at h2
    · rename_i hz
      exact ⟨i, j, by rw [rv.int, rv2.int], hz, h2.ok S2 _ walkR⟩
    · exact h2.elim
  · exact h2.elim
theorem tup_of {t : Expr} (h : isTup t = true) : ∃ es k p, t = .Tuple es k p := by
  cases t <;> first | exact ⟨_, _, _, rfl⟩ | cases h
theorem ok_enum (w : WF X C G XR E) {tg : Expr} {a : ME} {f : Str} {x : Expr} {p pos : Pos} (hf : f = ("enumerate" : Str)) (hb : C.isBl f = true) (ht : isTup tg = true) (hn : notStar x = true) (h : OkP X XR E x (ev G a)) : PI X tg (.Call (.Name f p) [x] [] pos) (rI X.K XR E (evi G (.enum a))) := by
  subst hf
  obtain ⟨es, k, tp, rfl⟩ := tup_of ht
  obtain ⟨h1, h2, h3⟩ := bl_of w hb
  refine PI.imp (pi_enum h2 h3 (pa_cons h.pe pa_nil (star1 hn)) (star1 hn)) fun σ H Rk hq => ?_
  obtain ⟨env, st, F, φ, S, r, hq⟩ := hq
  simp only [evi] at hq
  refine ⟨env, st, F, φ, S, r, Sat.bind hq fun d st1 F1 φ1 H1 e1 S1 h1 v rv => ?_⟩
  unfold enumI at h1
  split at h1
  · rename_i ds e
    obtain ⟨a, vs, rfl, hS, _⟩ := items_ok S1 rv e
    refine ⟨a, vs, rfl, hS, h1.ok S1 _ ?_⟩
    have at_ : ∀ F2 φ2 st2 H2, Ext F1 φ1 F2 φ2 → SR X.K F2 φ2 st2 H2 → gdOf d ds st2 → ∃ vs, SqL X.K H2 a vs ∧ RDs X.K F2 φ2 vs ds := fun F2 φ2 st2 H2 x S g => by
      obtain ⟨b, vs, e, h1, h2⟩ := items_ok S (rv.mono x) g
      cases e
      exact ⟨vs, h1, h2⟩
    refine ⟨fun H => ∃ vs, SqL X.K H a vs ∧ vs.length = ds.length, fun i H v H' => ∃ T x, v = .ref T ∧ H T = none ∧ H' = upd H T (.tup [.int (i : Nat), x]) ∧ ∀ xs, SqL X.K H a xs → xs[i]? = some x, ⟨fun i H hi q => ?_, fun H q => ?_, fun i H x H' hi q y => y⟩, fun F2 φ2 st2 H2 x S g => ?_, fun F2 φ2 st2 H2 i x H3 e S g hi y => ?_⟩
    · obtain ⟨vs, h1, h2⟩ := q
      rw [List.length_mapIdx, ← h2] at hi
      exact ⟨vs, vs[i], h1, by simp [hi]⟩
    · obtain ⟨vs, h1, h2⟩ := q
      exact ⟨vs, h1, by rw [List.length_mapIdx, h2]; exact Nat.le_refl _⟩
    · obtain ⟨vs, h1, h2⟩ := at_ F2 φ2 st2 H2 x S g
      exact ⟨vs, h1, rds_length h2⟩
    · obtain ⟨T, x', rfl, hT, rfl, y⟩ := y
      obtain ⟨vs, h1, h2⟩ := at_ F2 φ2 st2 _ e S g
      obtain ⟨d', h3, h4⟩ := rds_get' h2 (y vs h1)
      obtain ⟨S3, e3⟩ := S.frz (o := .tup [.int (i : Nat), x']) hT
      exact ⟨_, e3, S3, .two (.p (.int (i : Nat))) d', by rw [List.getElem?_mapIdx, h3]; rfl, T, _, _, rfl, upd_same, rd_int, h4.mono e3⟩
  · exact h1.elim
theorem ok_zip (w : WF X C G XR E) {tg : Expr} {a b : ME} {f : Str} {x y : Expr} {p pos : Pos} (hf : f = ("zip" : Str)) (hb : C.isBl f = true) (ht : isTup tg = true) (hn : notStar x = true) (hn2 : notStar y = true) (h : OkP X XR E x (ev G a)) (hh : OkP X XR E y (ev G b)) :
    PI X tg (.Call (.Name f p) [x, y] [] pos) (rI X.K XR E (evi G (.zip a b))) := by
  subst hf
  obtain ⟨es, k, tp, rfl⟩ := tup_of ht
  obtain ⟨h1, h2, h3⟩ := bl_of w hb
  refine PI.imp (pi_zip3 h2 h3 (pa_cons h.pe (pa_cons hh.pe pa_nil (star1 hn2)) (star1 hn)) hn hn2) fun σ H Rk hq => ?_
  obtain ⟨env, st, F, φ, S, r, hq⟩ := hq
  simp only [evi] at hq
  refine ⟨env, st, F, φ, S, r, Sat.bind hq fun d st1 F1 φ1 H1 e1 S1 h1 v rv => ⟨env, st1, F1, φ1, S1, r.mono e1, Sat.bind h1 fun d2 st2 F2 φ2 H2 e2 S2 h2 v2 rv2 => ?_⟩⟩
  have rv := rv.mono e2
  unfold zipI at h2
  split at h2
  · rename_i xs ys
    have q1 := rv
    have q2 := rv2
    cases q1 with
    | tup hS hA =>
      cases q2 with
      | tup hS2 hA2 =>
        rename_i a vs b ws
        have l1 := dpAll_len hA
        have l2 := dpAll_len hA2
        refine ⟨.ref a, b, rfl, .inr (.inl ⟨a, vs, ws, rfl, Evl.st_of (S2.sub _ _ hS), Evl.st_of (S2.sub _ _ hS2), h2.ok S2 _ ?_⟩)⟩
        refine ⟨fun H => SqT X.K H a vs ∧ SqT X.K H b ws, fun i H v H' => ∃ T x y, v = .ref T ∧ H T = none ∧ H' = upd H T (.tup [x, y]) ∧ vs[i]? = some x ∧ ws[i]? = some y, ⟨fun i H hi q => ?_, fun H q => ?_, fun i H x H' hi q y => ?_⟩, fun F3 φ3 st3 H3 x S g => ⟨Evl.st_of (S.sub _ _ (x.sub _ _ hS)), Evl.st_of (S.sub _ _ (x.sub _ _ hS2))⟩, fun F3 φ3 st3 H3 i x H4 e S g hi y => ?_⟩
        · rw [List.length_map, List.length_zip] at hi
          have k1 : i < vs.length := by omega
          have k2 : i < ws.length := by omega
          exact ⟨vs, ws, vs[i], ws[i], q.1, q.2, by simp [k1], by simp [k2]⟩
        · refine ⟨vs, ws, q.1, q.2, ?_⟩
          rw [List.length_map, List.length_zip]
          omega
        · obtain ⟨T, x, z, h1, h2, h3, h4, h5⟩ := y
          exact ⟨T, x, z, h1, h2, h3, h4 vs q.1, h5 ws q.2⟩
        · obtain ⟨T, x', y', rfl, hT, rfl, k1, k2⟩ := y
          obtain ⟨c1, c2, c3⟩ := rds_get' (dpAll_rds (φ := φ3) (dpAll_mono e.sub hA)) k1
          obtain ⟨f1, f2, f3⟩ := rds_get' (dpAll_rds (φ := φ3) (dpAll_mono e.sub hA2)) k2
          rw [List.getElem?_map] at c2 f2
          obtain ⟨c4, c5, rfl⟩ := Option.map_eq_some_iff.mp c2
          obtain ⟨f4, f5, rfl⟩ := Option.map_eq_some_iff.mp f2
          obtain ⟨S4, e4⟩ := S.frz (o := .tup [x', y']) hT
          refine ⟨_, e4, S4, .two (.p c4) (.p f4), ?_, T, _, _, rfl, upd_same, c3.mono e4, f3.mono e4⟩
          rw [List.getElem?_map, show (List.zip _ _)[i]? = some (c4, f4) from List.getElem?_zip_eq_some.mpr ⟨c5, f5⟩]
          rfl
  · rename_i z ys _
    have q1 := rv.str
    have q2 := rv2
    cases q2 with
    | tup hS2 hA2 =>
      rename_i b ws
      have l2 := dpAll_len hA2
      refine ⟨.str z, b, by rw [q1], .inr (.inr ⟨z, ws, rfl, Evl.st_of (S2.sub _ _ hS2), h2.ok S2 _ ?_⟩)⟩
      refine ⟨fun H => SqT X.K H b ws, fun i H v H' => ∃ T c y, v = .ref T ∧ H T = none ∧ H' = upd H T (.tup [.str ⟨#[c]⟩, y]) ∧ z.cps[i]? = some c ∧ ws[i]? = some y, ⟨fun i H hi q => ?_, fun H q => ?_, fun i H x H' hi q y => ?_⟩, fun F3 φ3 st3 H3 x S g => Evl.st_of (S.sub _ _ (x.sub _ _ hS2)), fun F3 φ3 st3 H3 i x H4 e S g hi y => ?_⟩
      · rw [List.length_map, List.length_zip, Array.length_toList] at hi
        exact ⟨ws, q, by omega, by omega⟩
      · refine ⟨ws, q, ?_⟩
        rw [List.length_map, List.length_zip, Array.length_toList]
        omega
      · obtain ⟨T, c, y, h1, h2, h3, h4, h5⟩ := y
        exact ⟨T, c, y, h1, h2, h3, h4, h5 ws q⟩
      · obtain ⟨T, c, y', rfl, hT, rfl, k1, k2⟩ := y
        obtain ⟨f1, f2, f3⟩ := rds_get' (dpAll_rds (φ := φ3) (dpAll_mono e.sub hA2)) k2
        rw [List.getElem?_map] at f2
        obtain ⟨f4, f5, rfl⟩ := Option.map_eq_some_iff.mp f2
        obtain ⟨S4, e4⟩ := S.frz (o := .tup [.str ⟨#[c]⟩, y']) hT
        refine ⟨_, e4, S4, .two (.p (.str ⟨#[c]⟩)) (.p f4), ?_, T, _, _, rfl, upd_same, rd_str, f3.mono e4⟩
        rw [List.getElem?_map, show (List.zip _ _)[i]? = some (c, f4) from List.getElem?_zip_eq_some.mpr ⟨by rw [Array.getElem?_toList]; exact k1, f5⟩]
        rfl
  · split at h2
    · rename_i xs ys ex ey
      obtain ⟨a, vs, rfl, hS, k1⟩ := items_ok S2 rv ex
      obtain ⟨b, ws, rfl, hS2, k2⟩ := items_ok S2 rv2 ey
      refine ⟨.ref a, b, rfl, .inl ⟨a, vs, ws, rfl, hS, hS2, h2.ok S2 _ ?_⟩⟩
      have at1 : ∀ F3 φ3 st3 H3, Ext F2 φ2 F3 φ3 → SR X.K F3 φ3 st3 H3 → gdOf d xs st3 → ∃ vs, SqL X.K H3 a vs ∧ RDs X.K F3 φ3 vs xs := fun F2 φ2 st2 H2 x S g => by
        obtain ⟨b, vs, e, h1, h2⟩ := items_ok S (rv.mono x) g
        cases e
        exact ⟨vs, h1, h2⟩
      have at2 : ∀ F3 φ3 st3 H3, Ext F2 φ2 F3 φ3 → SR X.K F3 φ3 st3 H3 → gdOf d2 ys st3 → ∃ vs, SqL X.K H3 b vs ∧ RDs X.K F3 φ3 vs ys := fun F2 φ2 st2 H2 x S g => by
        obtain ⟨b, vs, e, h1, h2⟩ := items_ok S (rv2.mono x) g
        cases e
        exact ⟨vs, h1, h2⟩
      refine ⟨fun H => (∃ vs, SqL X.K H a vs ∧ vs.length = xs.length) ∧ ∃ ws, SqL X.K H b ws ∧ ws.length = ys.length,
        fun i H v H' => ∃ T x y, v = .ref T ∧ H T = none ∧ H' = upd H T (.tup [x, y]) ∧ (∀ xs, SqL X.K H a xs → xs[i]? = some x) ∧ ∀ ys, SqL X.K H b ys → ys[i]? = some y, ⟨fun i H hi q => ?_, fun H q => ?_, fun i H x H' hi q y => y⟩, fun F3 φ3 st3 H3 x S g => ?_, fun F3 φ3 st3 H3 i x H4 e S g hi y => ?_⟩
      · obtain ⟨⟨vs, q1, q2⟩, ws, q3, q4⟩ := q
        rw [List.length_map, List.length_zip] at hi
        have k1 : i < vs.length := by omega
        have k2 : i < ws.length := by omega
        exact ⟨vs, ws, vs[i], ws[i], q1, q3, by simp [k1], by simp [k2]⟩
      · obtain ⟨⟨vs, q1, q2⟩, ws, q3, q4⟩ := q
        refine ⟨vs, ws, q1, q3, ?_⟩
        rw [List.length_map, List.length_zip]
        omega
      · obtain ⟨vs, q1, q2⟩ := at1 F3 φ3 st3 H3 x S g.1
        obtain ⟨ws, q3, q4⟩ := at2 F3 φ3 st3 H3 x S g.2
        exact ⟨⟨vs, q1, rds_length q2⟩, ws, q3, rds_length q4⟩
      · obtain ⟨T, x', y', rfl, hT, rfl, y1, y2⟩ := y
        obtain ⟨vs, q1, q2⟩ := at1 F3 φ3 st3 H3 e S g.1
        obtain ⟨ws, q3, q4⟩ := at2 F3 φ3 st3 H3 e S g.2
        obtain ⟨c1, c2, c3⟩ := rds_get' q2 (y1 vs q1)
        obtain ⟨f1, f2, f3⟩ := rds_get' q4 (y2 ws q3)
        obtain ⟨S4, e4⟩ := S.frz (o := .tup [x', y']) hT
        refine ⟨_, e4, S4, .two c1 f1, ?_, T, _, _, rfl, upd_same, c3.mono e4, f3.mono e4⟩
        rw [List.getElem?_map, show (List.zip _ _)[i]? = some (c1, f1) from List.getElem?_zip_eq_some.mpr ⟨c2, f2⟩]
        rfl
    · exact h2.elim
end
end MP

set_option Elab.async false
set_option linter.all false
set_option autoImplicit false
set_option maxRecDepth 100000
set_option maxHeartbeats 2000000
/-! the meaning is right: comprehensions, the whole of expressions -/
namespace MP
open PySem PySem.Spec PyProof.Rows L2

theorem wipe_get {σ : L2.St} {j : Nat} : ∀ {vs : List Nat}, (L2.wipe σ vs)[j]? = if j ∈ vs ∧ j < σ.length then some none else σ[j]?
  | [] => by simp [L2.wipe]
  | v :: vs => by
    unfold L2.wipe
    by_cases hv : v = j
    · subst hv
      by_cases hl : v < σ.length
      · rw [List.getElem?_set_self (by rw [wipe_length]; exact hl), if_pos ⟨List.mem_cons_self, hl⟩]
      · rw [List.getElem?_eq_none (by rw [List.length_set, wipe_length]; omega), if_neg (fun z => hl z.2), List.getElem?_eq_none (by omega)]
    · rw [List.getElem?_set_ne hv, wipe_get]
      by_cases hj : j ∈ vs
      · simp [hj]
      · have : ¬ j = v := fun e => hv e.symm
        simp [hj, this]
/-- the block's own slots changed alone -/
theorem wipe_only {σ σ' : L2.St} {vs ts : List Nat} (h : OnlyAt ts (L2.wipe σ vs) σ') (hs : ∀ j ∈ ts, j ∈ vs) : L2.wipe σ' vs = L2.wipe σ vs := by
  apply List.ext_getElem?
  intro j
  have hl : σ'.length = σ.length := by rw [h.1, wipe_length]
  rw [wipe_get, wipe_get, hl]
  by_cases hj : j ∈ vs
  · by_cases hz : j < σ.length
    · rw [if_pos ⟨hj, hz⟩, if_pos ⟨hj, hz⟩]
    · rw [if_neg (fun z => hz z.2), if_neg (fun z => hz z.2), List.getElem?_eq_none (by omega), List.getElem?_eq_none (by omega)]
  · rw [if_neg (fun z => hj z.1), if_neg (fun z => hj z.1), h.2 j (fun z => hj (hs j z)), wipe_get, if_neg (fun z => hj z.1)]
section
variable {K : PySem.W.Frag} {F H : Hp} {φ : List Addr} {st : Store}
theorem rds_low {φ' : List Addr} {n : Nat} (low : ∀ v d, RD K F φ v d → dBelow n d = true → RD K F φ' v d) : ∀ {ds : List D} {vs : List V}, cellBelow n (.lst ds) = true → RDs K F φ vs ds → RDs K F φ' vs ds
  | _, _, _, .nil => .nil
  | d :: ds, _, hb, .cons r t => by
    have hb : (dBelow n d && ds.all (dBelow n)) = true := hb
    rw [Bool.and_eq_true] at hb
    exact .cons (low _ _ r hb.1) (rds_low low hb.2 t)
theorem rks_low {K : PySem.W.Frag} {F : Hp} {φ φ' : List Addr} {n : Nat} {α : Type} (low : ∀ v d, RD K F φ v d → dBelow n d = true → RD K F φ' v d) : ∀ {ws : List (α × V)} {kvs : List (α × D)}, (∀ kv ∈ kvs, dBelow n kv.2 = true) → RNs K F φ ws kvs → RNs K F φ' ws kvs
  | _, _, _, .nil => .nil
  | _, _, hb, .cons h t => .cons ⟨h.1, low _ _ h.2 (hb _ List.mem_cons_self)⟩ (rks_low low (fun kv hk => hb kv (List.mem_cons_of_mem _ hk)) t)
/-- cells dropped at the end -/
theorem SR.gc (S : SR K F φ st H) (n : Nat) : ∃ φ', SR K F φ' (gc n st) H ∧ ((φ' = φ) ∨ (φ' = φ.take n)) ∧ ∀ v d, RD K F φ v d → dBelow n d = true → RD K F φ' v d := by
  unfold MP.gc
  split
  · rename_i hc
    have low : ∀ v d, RD K F φ v d → dBelow n d = true → RD K F (φ.take n) v d := by
      intro v d r h
      cases d with
      | p x => exact r
      | c m =>
        obtain ⟨a, h1, rfl⟩ := r
        have hm : m < n := of_decide_eq_true h
        exact ⟨a, by rw [List.getElem?_take_of_lt hm]; exact h1, rfl⟩
    refine ⟨φ.take n, ⟨S.sub, by simp [S.len], S.nd.sublist (List.take_sublist _ _), fun m ds e hd => ?_, fun m e => ?_⟩, .inr rfl, low⟩
    · have hm : m < n := by
        have := (List.getElem?_eq_some_iff.mp e).1
        rw [List.length_take] at this; omega
      have e' := e
      rw [List.getElem?_take_of_lt hm] at e'
      obtain ⟨a, vs, h1, h2, h3, h4⟩ := S.live m ds e' hd
      refine ⟨a, vs, by rw [List.getElem?_take_of_lt hm]; exact h1, h2, h3, ?_⟩
      have hb := List.all_eq_true.mp hc _ (List.mem_of_getElem? e)
      cases h4 with
      | lst r => exact .lst (rds_low low hb r)
      | tup r => exact .tup (rds_low low hb r)
      | dct r => exact .dct (rks_low low (List.all_eq_true.mp hb) r)
      | dtt r => exact .dtt (rks_low low (List.all_eq_true.mp hb) r)
      | ins hc r => exact .ins hc (rks_low low (List.all_eq_true.mp hb) r)
    · have hm : m < n := by
        have := (List.getElem?_eq_some_iff.mp e).1
        rw [List.length_take] at this; omega
      rw [List.getElem?_take_of_lt hm] at e
      obtain ⟨a, h1, h2⟩ := S.dead m e
      exact ⟨a, by rw [List.getElem?_take_of_lt hm]; exact h1, h2⟩
  · exact ⟨φ, S, .inl rfl, fun _ _ r _ => r⟩
theorem pre_take {φ φ' : List Addr} (h : φ <+: φ') : φ <+: φ'.take φ.length := by
  obtain ⟨t, rfl⟩ := h
  rw [List.take_left' rfl]
  exact List.prefix_refl _
/-- a cell's list frozen -/
theorem SR.freeze (S : SR K F φ st H) {n : Nat} {ds : List D} {a : Addr} {vs : List V} (hn : st[n]? = some (.lst ds)) (ha : φ[n]? = some a) (hH : H a = some (.lst vs)) : SR K (upd F a (.lst vs)) φ (st.set n .dead) H ∧ Ext F φ (upd F a (.lst vs)) φ := by
  obtain ⟨a', vs', e1, e2, e3, e4⟩ := S.cell n ds hn
  rw [ha] at e1
  cases Option.some.inj e1
  have hl : n < st.length := (List.getElem?_eq_some_iff.mp hn).1
  have ex : Ext F φ (upd F a (.lst vs)) φ := ⟨Evl.Ex.new e2, List.prefix_refl φ⟩
  have other : ∀ m b, m ≠ n → φ[m]? = some b → b ≠ a := fun m b hm hb z => by
    subst z
    exact hm (nodup_at S.nd hb ha)
  refine ⟨⟨fun b u e => ?_, by rw [List.length_set]; exact S.len, S.nd, fun m ds' e hd => ?_, fun m e => ?_⟩, ex⟩
  · by_cases hb : b = a
    · subst hb; rw [upd_same] at e; rw [← e]; exact hH
    · rw [upd_ne hb] at e; exact S.sub b u e
  · by_cases hm : m = n
    · subst hm; rw [List.getElem?_set_self hl] at e; exact absurd (Option.some.inj e).symm hd
    · rw [List.getElem?_set_ne (Ne.symm hm)] at e
      obtain ⟨b, ws, h1, h2, h3, h4⟩ := S.live m ds' e hd
      exact ⟨b, ws, h1, by rw [upd_ne (other m b hm h1)]; exact h2, h3, h4.mono ex⟩
  · by_cases hm : m = n
    · subst hm
      exact ⟨a, ha, by rw [upd_same]; simp⟩
    · rw [List.getElem?_set_ne (Ne.symm hm)] at e
      obtain ⟨b, h1, h2⟩ := S.dead m e
      exact ⟨b, h1, by rw [upd_ne (other m b hm h1)]; exact h2⟩
end
section
variable {X : Cx} {C : Ctx} {G : Sem1} {XR : XRT} {E : EK}
theorem sat_noEx {α : Type} {E : XK} {K : PySem.W.Frag} {Rel : Hp → List Addr → Hp → α → Prop} {F : Hp} {φ : List Addr} {r : R α} (h : Sat K XR E Rel F φ (noEx r)) : Sat K XR E0 Rel F φ r := by
  cases r with
  | ok a st => exact h
  | ex c st => exact h.elim
  | bad => exact h.elim
theorem sat_noEx_bind {α β : Type} {E : XK} {K : PySem.W.Frag} {Rel : Hp → List Addr → Hp → β → Prop} {Rel' : Hp → List Addr → Hp → α → Prop} {F0 F : Hp} {φ0 φ : List Addr} {r : R α} {k : α → Store → R β} (h : Sat K XR E Rel F0 φ0 ((noEx r).bind k))
    (f : ∀ a st F1 φ1 H1, Ext F φ F1 φ1 → SR K F1 φ1 st H1 → Sat K XR E Rel F0 φ0 (k a st) → Rel' F1 φ1 H1 a) : Sat K XR E0 Rel' F φ r := by
  cases r with
  | ok a st => exact fun F' φ' H' x S => f a st F' φ' H' x S h
  | ex c st => exact h.elim
  | bad => exact h.elim
theorem okc_none : PTs X [] (rT X.K XR E fun env st => truR (evc G .none env st)) := by
  refine ⟨fun pins s σ H Q I hq => pts_nil.run pins s σ H Q I ?_⟩
  obtain ⟨env, st, F, φ, S, r, hq⟩ := hq
  exact hq.ok S
theorem okc_some {a : ME} {x : Expr} (h : OkP X XR E x (ev G a)) : PTs X [x] (rT X.K XR E fun env st => truR (evc G (.some a) env st)) :=
  ⟨fun pins s σ H Q I hq => (pts_one h.pt).run pins s σ H Q I hq⟩

theorem lc_sat {c : Bool} {own : List Nat} {tg : MT} {it : MI} {cond : MO} {elt : ME} {iter t x : Expr} {ifs : List Expr} {σ : L2.St} {H : Hp} {Q : VK}
    (hs : ∀ j ∈ tgVars tg, j ∈ own)
    (hq : rE X.K XR E (ev G (.lc c own tg it cond elt)) σ H Q) :
    tLc (rI X.K XR E (evi G it)) (gI X.K tg) (rT X.K XR (fun _ => E0) fun env st => truR (evc G cond env st)) (rE X.K XR (fun _ => E0) (ev G elt)) own σ H Q := by
  obtain ⟨env, st, F, φ, S, r, hq⟩ := hq
  simp only [ev] at hq
  refine ⟨env, st, F, φ, S, r, Sat.bind hq fun p st1 F1 φ1 H1 e1 S1 h1 J hJ Dl hD => ?_⟩
  have r1 := (r.mono e1).wipe own
  obtain ⟨Gd, Y, hw, hG, hY⟩ := hJ
  obtain ⟨S2, e2, hat⟩ := S1.newCell (vs := []) (ds := []) hD .nil
  -- the rest of the turns, and what follows
  refine lc_it hw (fun i H' => ∃ F' φ' st', Ext F1 (φ1 ++ [Dl]) F' φ' ∧ SR X.K F' φ' st' H' ∧ Sat X.K XR (E σ) (QE X.K Q) F1 φ1 ((lcL p.2 st1.length tg (evc G cond) (ev G elt) (wipeE env own) (p.1.drop i) st').bind fun _ st2 => lcEnd c st1.length st2))
    ⟨F1, φ1 ++ [Dl], _, Ext.refl, S2, by rw [List.drop_zero]; exact h1⟩ (fun i H' hi ⟨F', φ', st', e', S', h'⟩ => ?_) (fun i x H' H'' hi ⟨F', φ', st', e', S', h'⟩ hy => ?_) (fun H' ⟨F', φ', st', e', S', h'⟩ => ?_)
  · -- the walk's word stands
    refine hG F' φ' st' H' (e2.trans e') S' ?_
    cases hd : p.1.drop i with
    | nil =>
      rw [hd] at h'
      unfold lcL at h'
      split at h'
      · assumption
      · exact h'.elim
    | cons a b =>
      rw [hd] at h'
      unfold lcL at h'
      split at h'
      · assumption
      · exact h'.elim
  · -- a turn
    have hdr : p.1.drop i = p.1[i] :: p.1.drop (i + 1) := List.drop_eq_getElem_cons hi
    rw [hdr] at h'
    unfold lcL at h'
    split at h'
    · rename_i hg
      split at h'
      · exact h'.elim
      · rename_i env1 hb
        obtain ⟨F3, e3, S3, it, hit, rit⟩ := hY F' φ' st' H' i x H'' (e2.trans e') S' hg hi hy
        rw [List.getElem?_eq_getElem hi] at hit
        cases Option.some.inj hit
        refine ⟨wipeE env own, st', F3, φ', p.1[i], S3, ((r1.mono e2).mono e').mono e3, rit, env1, hb, fun σ2 r2 o2 => ⟨wipe_only o2 hs, env1, st', F3, φ', S3, r2, ?_⟩⟩
        have h'' := h'
        have h2 : Sat X.K XR (E σ) (QE X.K Q) F1 φ1 ((noEx (truR (evc G cond env1 st'))).bind fun b st => (if b = true then (noEx (ev G elt env1 st)).bind fun d st2 => match cellL st2 st1.length with
            | some acc => if acc.length < SZ then lcL p.2 st1.length tg (evc G cond) (ev G elt) (wipeE env own) (p.1.drop (i + 1)) (st2.set st1.length (.lst (acc ++ [d]))) else .bad
            | none => .bad
          else lcL p.2 st1.length tg (evc G cond) (ev G elt) (wipeE env own) (p.1.drop (i + 1)) st).bind fun _ st2 => lcEnd c st1.length st2) := by
          revert h''
          cases (noEx (truR (evc G cond env1 st'))) <;> exact id
        refine sat_noEx_bind h2 fun b st3 F4 φ4 H4 e4 S4 h4 => ?_
        cases b with
        | false =>
          exact ⟨F4, φ4, st3, (e'.trans e3).trans e4, S4, h4⟩
        | true =>
          simp only [if_true] at h4
          have h5 : Sat X.K XR (E σ) (QE X.K Q) F1 φ1 ((noEx (ev G elt env1 st3)).bind fun d st2 => (match cellL st2 st1.length with
            | some acc => if acc.length < SZ then lcL p.2 st1.length tg (evc G cond) (ev G elt) (wipeE env own) (p.1.drop (i + 1)) (st2.set st1.length (.lst (acc ++ [d]))) else .bad
            | none => .bad).bind fun _ st2 => lcEnd c st1.length st2) := by
            revert h4
            cases (noEx (ev G elt env1 st3)) <;> exact id
          refine ⟨env1, st3, F4, φ4, S4, r2.mono e4, sat_noEx_bind h5 fun d st5 F5 φ5 H5 e5 S5 h6 v rv => ?_⟩
          cases hc : cellL st5 st1.length with
          | none => rw [hc] at h6; exact h6.elim
          | some acc =>
            rw [hc] at h6
            simp only at h6
            split at h6
            · rename_i hz
              obtain ⟨a, vs, c1, c2, c3, c4⟩ := S5.cell _ _ (cellL_some hc)
              have hDa : φ5[st1.length]? = some Dl := ((e'.trans e3).trans (e4.trans e5)).at hat
              rw [hDa] at c1
              cases Option.some.inj c1
              refine ⟨vs, c3, by rw [rds_length c4]; exact Nat.lt_of_lt_of_le hz (sz_ok (Nat.le_refl _)), F5, φ5, _, ((e'.trans e3).trans (e4.trans e5)), S5.write (cellL_some hc) hDa (rds_append c4 (.cons rv .nil)), h6⟩
            · exact h6.elim
    · exact h'.elim
  · -- the end
    rw [List.drop_length] at h'
    unfold lcL at h'
    split at h'
    · simp only [R.bind_ok] at h'
      have hDa : φ'[st1.length]? = some Dl := e'.at hat
      unfold lcEnd at h'
      cases c with
      | true => exact h' _ _ _ (e2.trans e') S' _ ⟨Dl, hDa, rfl⟩
      | false =>
        simp only at h'
        split at h'
        · rename_i ds hc
          split at h'
          · rename_i xs hp
            obtain ⟨a, vs, c1, c2, c3, c4⟩ := S'.cell _ _ (cellL_some hc)
            rw [hDa] at c1
            cases Option.some.inj c1
            obtain ⟨S6, e6⟩ := S'.freeze (cellL_some hc) hDa c3
            obtain ⟨φ7, S7, hφ, _⟩ := S6.gc st1.length
            rw [pures_some hp] at c4
            have e7 : Ext F1 φ1 (upd F' Dl (.lst vs)) φ7 := by
              refine ⟨(e2.trans (e'.trans e6)).sub, ?_⟩
              have pre := (e2.trans e').pre
              rcases hφ with rfl | rfl
              · exact pre
              · rw [← S1.len]; exact pre_take pre
            exact h' _ _ _ e7 S7 _ (show RD X.K _ φ7 _ (.p _) from Dp.lst (Evl.sq_of upd_same) (dpAll_mono e6.sub c4.dpAll))
          · exact h'.elim
        · exact h'.elim
    · exact h'.elim
end
end MP

set_option Elab.async false
set_option linter.all false
set_option autoImplicit false
set_option maxRecDepth 100000
set_option maxHeartbeats 2000000
/-! the meaning is right: frozen lists, turned lists, dicts, instances, tables of defs, methods of lists -/
namespace MP
open PySem PySem.Spec PyProof.Rows L2
theorem base_of {o : Expr} {f : Str} {env : PySem.Env} (h : notSuper o = true) : attributeBase o f env (eval o env) = eval o env := by
  cases o with
  | Call fn args kws p =>
    cases fn with
    | Name x q =>
      cases args with
      | nil =>
        cases kws with
        | nil => cases h
        | cons a b => rfl
      | cons a b => rfl
    | _ => rfl
  | _ => rfl
section
variable {X : Cx} {C : Ctx} {G : Sem1} {XR : XRT} {E : EK}
theorem ok_frz {a : ME} {x : Str} {pos : Pos} (ha : OkP X XR E (.Name x pos) (ev G a)) : OkP X XR E (.Name x pos) (ev G (.frz a)) := by
  refine .plain (PE.imp ha.pe fun σ H Q hq => ?_) (fun _ => rfl) (fun _ _ _ e => nomatch e)
  obtain ⟨env, st, F, φ, S, r, hq⟩ := hq
  simp only [ev] at hq
  refine ⟨env, st, F, φ, S, r, Sat.bind hq fun d st1 F1 φ1 H1 e1 S1 h1 v rv => ?_⟩
  unfold frzD at h1
  split at h1
  · split at h1
    · rename_i ds hc
      split at h1
      · rename_i xs hp
        obtain ⟨l, c1, rfl⟩ := rv
        obtain ⟨b, vs, c2, c3, c4, c5⟩ := S1.cell _ _ (cellL_some hc)
        rw [c1] at c2
        cases Option.some.inj c2
        obtain ⟨S6, e6⟩ := S1.freeze (cellL_some hc) c1 c4
        rw [pures_some hp] at c5
        exact h1 _ _ _ e6 S6 _ (show RD X.K _ _ _ (.p _) from Dp.lst (Evl.sq_of upd_same) (dpAll_mono e6.sub c5.dpAll))
      · exact h1.elim
    · exact h1.elim
  · exact h1.ok S1 v rv
theorem ok_rev {a : ME} {x : Expr} {k : Nat} {p1 p2 p3 pos : Pos} (ha : OkP X XR E x (ev G a)) : OkP X XR E (.Subscript x (.Slice none none (some (.UnaryOp .USub (.Constant (.int 1) k p1) p2)) p3) pos) (ev G (.rev a)) := by
  refine .plain (PE.imp (pe_revL ha.pe) fun σ H Q hq => ?_) (fun _ => rfl) (fun _ _ _ e => nomatch e)
  obtain ⟨env, st, F, φ, S, r, hq⟩ := hq
  simp only [ev] at hq
  refine ⟨env, st, F, φ, S, r, Sat.bind hq fun d st1 F1 φ1 H1 e1 S1 h1 v rv => ?_⟩
  unfold revD at h1
  split at h1
  · rename_i xs e0
    obtain ⟨l, vs, rfl, hl, r1⟩ := items_ok S1 rv e0
    exact ⟨l, vs, rfl, hl, fun p hp => sat_mkL S1 hp (rds_reverse r1) h1⟩
  · exact h1.elim
theorem ok_dctE {t : Bool} {pos : Pos} : OkP X XR E (.Dict [] [] pos) (ev G (.dctE t)) := by
  cases t with
  | true =>
    refine .plain (PE.imp pe_dnewT fun σ H Q hq => ?_) (fun _ => rfl) (fun _ _ _ e => nomatch e)
    obtain ⟨env, st, F, φ, S, r, hq⟩ := hq
    simp only [ev] at hq
    exact fun p hp => sat_cell S hp (.dtt .nil) (fun z => nomatch z) hq
  | false =>
    refine .plain (PE.imp pe_dnewK fun σ H Q hq => ?_) (fun _ => rfl) (fun _ _ _ e => nomatch e)
    obtain ⟨env, st, F, φ, S, r, hq⟩ := hq
    simp only [ev] at hq
    exact fun p hp => sat_cell S hp (.dct .nil) (fun z => nomatch z) hq
/-! displays -/
def trsOf (K : PySem.W.Frag) (XR : XRT) (E : EK) (G : Sem1) : List Str → MEs → List (TE × TE)
  | k :: ks, .cons e r => (tC (.str k), rE K XR E (ev G e)) :: trsOf K XR E G ks r
  | _, _ => []
theorem bind_assoc {α β γ : Type} (r : R α) (f : α → Store → R β) (g : β → Store → R γ) : (r.bind f).bind g = r.bind fun a st => (f a st).bind g := by
  cases r <;> rfl
def lenE : MEs → Nat
  | .nil => 0
  | .cons _ r => lenE r + 1
theorem chks_len : ∀ {es : MEs} {xs : List Expr}, chks C es xs = true → lenE es = xs.length
  | .nil, [], _ => rfl
  | .cons e r, x :: xs, h => by
    simp only [chks, Bool.and_eq_true] at h
    simp [lenE, chks_len h.2]
  | .nil, _ :: _, h => by simp [chks] at h
  | .cons _ _, [], h => by simp [chks] at h
theorem keysAre_len : ∀ {ks : List Str} {keys : List (Option Expr)}, keysAre ks keys = true → ks.length = keys.length ∧ keys.all (·.isSome) = true
  | [], [], _ => ⟨rfl, rfl⟩
  | k :: ks, some (.Constant (.str x) _ _) :: r, h => by
    simp only [keysAre, Bool.and_eq_true] at h
    obtain ⟨h1, h2⟩ := keysAre_len h.2
    simp [h1, h2]
  | [], _ :: _, h => by simp [keysAre] at h
  | _ :: _, [], h => by simp [keysAre] at h
  | _ :: _, none :: _, h => by simp [keysAre] at h
  | _ :: _, some e :: _, h => by
    unfold keysAre at h
    split at h
    · contradiction
    · rename_i heq1 heq2
      cases heq1
      cases heq2
      simp only [Bool.and_eq_true] at h
      obtain ⟨h1, h2⟩ := keysAre_len h.2
      simp [h1, h2]
    · cases h
theorem tpairs_ok {β : Type} {Rel : Hp → List Addr → Hp → β → Prop} {σ : L2.St} {env : Env} : ∀ (ks : List Str) (es : MEs) (st : Store) (F : Hp) (φ : List Addr) (H : Hp) (k : List D → Store → R β) (Qp : List (V × V) → Hp → Prop), lenE es = ks.length → SR X.K F φ st H → ER X.K F φ env σ →
    Sat X.K XR (E σ) Rel F φ ((evs G es env st).bind k) →
    (∀ ds vs st2 F2 φ2 H2, ds.length = ks.length → Ext F φ F2 φ2 → SR X.K F2 φ2 st2 H2 → RDs X.K F2 φ2 vs ds → Sat X.K XR (E σ) Rel F2 φ2 (k ds st2) → Qp ((ks.zip vs).map fun q => (V.str q.1, q.2)) H2) →
    tPairs (trsOf X.K XR E G ks es) σ H Qp
  | [], .nil, st, F, φ, H, k, Qp, hl, S, r, h, f => by
    simp only [evs, R.bind_ok] at h
    exact f [] [] st F φ H rfl Ext.refl S .nil h
  | [], .cons e es, st, F, φ, H, k, Qp, hl, S, r, h, f => by simp [lenE] at hl
  | k :: ks, .nil, st, F, φ, H, kk, Qp, hl, S, r, h, f => by simp [lenE] at hl
  | k :: ks, .cons e es, st, F, φ, H, kk, Qp, hl, S, r, h, f => by
    simp only [evs, bind_assoc, R.bind_ok] at h
    refine ⟨env, st, F, φ, S, r, Sat.bind h fun d st1 F1 φ1 H1 e1 S1 h1 v rv => ?_⟩
    refine tpairs_ok ks es st1 F1 φ1 H1 (fun xs st => kk (d :: xs) st) _ (by simpa [lenE] using hl) S1 (r.mono e1) h1 (fun ds vs st2 F2 φ2 H2 hl e2 S2 rvs h2 => ?_)
    exact f (d :: ds) (v :: vs) st2 F2 φ2 H2 (by simp [hl]) (e1.trans e2) S2 (.cons (rv.mono e2) rvs) h2
inductive PesOk (X : Cx) (C : Ctx) (G : Sem1) (XR : XRT) (E : EK) : MEs → List Expr → Prop
  | nil : PesOk X C G XR E .nil []
  | cons {e : ME} {r : MEs} {x : Expr} {xs : List Expr} (h : PE X x (rE X.K XR E (ev G e))) (t : PesOk X C G XR E r xs) : PesOk X C G XR E (.cons e r) (x :: xs)
theorem pps_ok {pos : Pos} {es : MEs} {vals : List Expr} (h : PesOk X C G XR E es vals) : ∀ {ks : List Str} {keys : List (Option Expr)}, keysAre ks keys = true → lenE es = ks.length → PPs X pos keys vals (trsOf X.K XR E G ks es) := by
  induction h with
  | nil =>
    intro ks keys hk hl
    cases ks with
    | cons k ks => simp [lenE] at hl
    | nil =>
      cases keys with
      | nil => exact pps_nil
      | cons a b => simp [keysAre] at hk
  | @cons e r x xs h t ih =>
    intro ks keys hk hl
    cases ks with
    | nil => simp [lenE] at hl
    | cons k ks =>
      cases keys with
      | nil => simp [keysAre] at hk
      | cons y keys =>
        unfold keysAre at hk
        split at hk
        · contradiction
        · rename_i heq1 heq2
          cases heq1
          cases heq2
          simp only [Bool.and_eq_true] at hk
          cases eq_of_beq hk.1
          exact pps_cons pe_str h (ih hk.2 (by simpa [lenE] using hl))
        · cases hk
theorem rks_zip {K : PySem.W.Frag} {F : Hp} {φ : List Addr} : ∀ {ks : List Str} {vs : List V} {ds : List D}, RDs K F φ vs ds → RNs K F φ ((ks.zip vs).map fun q => ((Sum.inr q.1 : Key), q.2)) ((ks.zip ds).map fun q => ((Sum.inr q.1 : Key), q.2))
  | [], _, _, _ => .nil
  | _ :: _, _, _, .nil => .nil
  | k :: ks, _, _, .cons h t => .cons ⟨rfl, h⟩ (rks_zip t)
theorem ok_dct' {ks : List Str} {es : MEs} {keys : List (Option Expr)} {vals : List Expr} {pos : Pos} (h0 : ks.isEmpty = false) (h15 : ks.length ≤ 15) (hkv : keys.length = vals.length) (hk : keysAre ks keys = true) (hc : chks C es vals = true)
    (hs : PesOk X C G XR E es vals) : OkP X XR E (.Dict keys vals pos) (ev G (.dct ks es)) := by
  obtain ⟨k1, k2⟩ := keysAre_len hk
  have hl : lenE es = ks.length := by rw [chks_len hc, ← hkv, k1]
  refine .plain (PE.imp (pe_disp (pps_ok hs hk hl) k2 hkv (fun z => by subst z; rw [List.length_eq_zero_iff.mp k1] at h0; cases h0) (by rw [← k1]; exact h15)) fun σ H Q hq => ?_) (fun _ => rfl) (fun _ _ _ e => nomatch e)
  obtain ⟨env, st, F, φ, S, r, hq⟩ := hq
  simp only [ev] at hq
  intro p hp
  obtain ⟨S1, e1, ha⟩ := S.newC (c := .dct []) (o := .dK []) hp (.dct .nil) (fun z => nomatch z)
  refine tpairs_ok ks es _ _ _ _ _ _ hl S1 (r.mono e1) (hq.ext e1) fun ds vs st2 F2 φ2 H2 hl2 e2 S2 rvs h2 => ?_
  have ha2 := e2.at ha
  unfold dispD at h2
  split at h2
  · rename_i hc0
    split at h2
    · rename_i hz
      obtain ⟨l, ws, c1, c2, c3, c4⟩ := S2.dcell _ _ (dcellL_some hc0)
      rw [ha2] at c1
      cases Option.some.inj c1
      cases c4
      refine ⟨c3, (ks.zip vs).map fun q => ((Sum.inr q.1 : Key), q.2), ?_, ?_, ?_⟩
      · rw [List.map_map]; rfl
      · rw [List.length_map, List.length_zip]; omega
      · exact h2 _ _ _ Ext.refl (S2.writeC (dcellL_some hc0) (fun z => nomatch z) ha2 (.dct (rks_merge (rks_zip rvs) .nil)) (fun z => nomatch z)) _ ⟨p, ha2, rfl⟩
    · exact h2.elim
  · exact h2.elim
/-! instances -/
theorem insOf_ok {K : PySem.W.Frag} {F H : Hp} {φ : List Addr} {st : Store} {d : D} {v : V} {n : Nat} {c : Str} {fs : List (Str × D)} (S : SR K F φ st H) (r : RD K F φ v d) (h : insOf d st = some (n, c, fs)) :
    ∃ a A dx ws, v = .ref a ∧ d = .c n ∧ st[n]? = some (.ins c fs) ∧ φ[n]? = some a ∧ H a = some (.ins A dx ws) ∧ clsAt K c A ∧ RNs K F φ ws fs := by
  cases d with
  | p x => cases h
  | c m =>
    obtain ⟨a, h1, rfl⟩ := r
    unfold insOf at h
    simp only at h
    split at h
    · rename_i c' fs' e
      cases Option.some.inj h
      obtain ⟨b, A, dx, ws, e1, _, e2, e3, e4⟩ := S.icell n c fs e
      rw [h1] at e1
      cases Option.some.inj e1
      exact ⟨a, A, dx, ws, rfl, rfl, e, h1, e2, e3, e4⟩
    · cases h
theorem lookup_valV {ws : List (Str × V)} {f : Str} : ws.lookup f = valV ws f := by
  induction ws with
  | nil => rfl
  | cons a r ih =>
    obtain ⟨g, y⟩ := a
    rw [List.lookup_cons]
    unfold valV
    rw [List.find?_cons]
    by_cases h : g = f
    · subst h; simp
    · have : (f == g) = false := by simpa using fun z : f = g => h z.symm
      rw [this]
      simp only [h, decide_false]
      exact ih
theorem cls_one {K : PySem.W.Frag} {c : Str} {A B : Addr} (h1 : clsAt K c A) (h2 : clsAt K c B) : A = B := by
  unfold clsAt at h1 h2
  rw [h1] at h2
  exact Value.ref.inj (Option.some.inj (Option.some.inj h2))
theorem ok_fld (w : WF X C G XR E) {a : ME} {f : Str} {cs : List Str} {x : Expr} {pos : Pos} (hsu : notSuper x = true) (hcs : cs.all (fun c => C.clsF.contains (c, f)) = true) (ha : OkP X XR E x (ev G a)) : OkP X XR E (.Attribute x f pos) (ev G (.fld a f cs)) := by
  refine .plain (PE.imp (pe_fld ha.pe (base_of hsu)) fun σ H Q hq => ?_) (fun _ => rfl) (fun _ _ _ e => nomatch e)
  obtain ⟨env, st, F, φ, S, r, hq⟩ := hq
  simp only [ev] at hq
  refine ⟨env, st, F, φ, S, r, Sat.bind hq fun d st1 F1 φ1 H1 e1 S1 h1 v rv => ?_⟩
  unfold fldD at h1
  split at h1
  · rename_i n c fs e
    split at h1
    · rename_i hc
      split at h1
      · rename_i y hy
        obtain ⟨l, A, dx, ws, rfl, _, _, _, e2, e3, e4⟩ := insOf_ok S1 rv e
        have hm : (c, f) ∈ C.clsF := by simpa using List.all_eq_true.mp hcs c (by simpa using hc)
        obtain ⟨B, b1, b2, b3⟩ := w.clf c f hm
        cases cls_one e3 b1
        rcases rks_val (k := f) e4 with ⟨g1, _⟩ | ⟨y', u, g1, g2, g3⟩
        · rw [g1] at hy; cases hy
        · rw [g1] at hy
          cases Option.some.inj hy
          exact ⟨l, A, dx, ws, u, rfl, e2, b2, b3, by rw [lookup_valV]; exact g2, sat_val S1 g3 h1⟩
      · exact h1.elim
    · exact h1.elim
  · exact h1.elim
end
section
variable {X : Cx} {k : Nat} {A f : Addr} {fd : FuncData} {ps : List Str} {sp : Sp} {E : EK} {m : Str} {pos apos : Pos} {o : Expr} {ta : TE} {t : TA}
/-- o.m(..), the exceptions wished for at the slots -/
def tMethS (A : Addr) (m : Str) (sp : Sp) (E : EK) (ta : TE) (t : TA) : TE := fun σ H Q => ta σ H fun x H1 => ∃ a dx fs, x = .ref a ∧ H1 a = some (.ins A dx fs) ∧ fs.lookup m = none ∧ t σ H1 fun vs H2 => sp (x :: vs) H2 Q (E σ)
theorem evalMeth {o : Expr} {m : Str} {args : List Expr} {pos apos : Pos} {env : PySem.Env} (h : notSuper o = true) (hl : (apos.endLine == pos.line) = true) (hn : args.length ≤ 20) (hp : (backTo pos (starEach args env)).any (·.1) = false) : ∃ pl, eval (.Call (.Attribute o m apos) args [] pos) env = (do
      let ov ← eval o env
      standAt apos.atName
      let (f, first) ← holding [ov] (getMethod ov m pl)
      callWith pos f first (backTo pos (starEach args env)) (backToKw pos (keywordEach [] env))) := by
  have hform : methodCallForm (args.length + ([] : List Keyword).length) (backTo pos (starEach args env)) (backToKw pos (keywordEach [] env)) = true := by
    unfold methodCallForm
    have h1 : (backTo pos (starEach args env)).all (fun x => !x.1) = true := by
      rw [List.all_eq_not_any_not]
      simpa using hp
    have h2 : (backToKw pos (keywordEach [] env)) = [] := rfl
    rw [h1, h2]
    simp
    omega
  have hpos : methodCallPos true o env apos pos = pure pos := by unfold methodCallPos; simp [hl]
  refine ⟨(do return (← importBound o env).getD true), ?_⟩
  rw [PySem.arm_eval_Call, base_of h]
  unfold methodCall
  rw [hform, hpos]
  rfl
theorem pe_methS {e : Expr} {es : List Expr} (he : PE X o ta) (c : Cls X.K A) (hm : Meth X.K A m f) (F : FnOk X.prog X.w X.K X.mg X.base (L2.CX X.prog X.w) k f fd ps sp) (hr : Room k X.A) (hb : Binds X.K fd ps []) (hx : ∀ σ, PassesAt (L2.CX X.prog X.w) X σ (E σ)) (ha : PA X (e :: es) t)
    (hst : starEach (e :: es) X.env = (false, eval e X.env) :: starEach es X.env) (hpl : (backTo pos (starEach es X.env)).any (·.1) = false) (hrc : notSuper o = true) (hln : (apos.endLine == pos.line) = true) (hnn : (e :: es).length ≤ 20) :
    PE X (.Call (.Attribute o m apos) (e :: es) [] pos) (tMethS A m sp E ta t) := by
  obtain ⟨pl, ht⟩ := evalMeth (m := m) (args := e :: es) (pos := pos) (apos := apos) (env := X.env) hrc hln hnn (by rw [hst]; show (false || (backTo pos (starEach es X.env)).any (·.1)) = false; rw [hpl]; rfl)
  refine ⟨fun pins s σ H Q I h => ?_⟩
  refine PySem.W.methodCall_KW (pl := pl) (thn (he.run pins s σ H _ I h) fun u s1 ⟨x, H1, I1, rx, l, dx, fs, ex, ea, ll, q⟩ => ?_) ht
  subst ex
  obtain rfl : u = Value.ref l := rx
  refine getmeth_ok I1 ea c hm ll ?_
  refine PySem.W.callWith_K (first := [.ref l]) (h₀ := X.base) I.ok.mod.kin hm.kp (thn (ha.run pos pins s1 σ H1 _ I1 q) fun us s2 ⟨vs, H2, I2, r, q2⟩ => ⟨I2.kIn, ?_⟩) hst hpl
  exact run_fnS (us := .ref l :: us) (vs := .ref l :: vs) F hr hb (hx σ) I2 (.cons rfl r) q2
theorem pe_methS0 (he : PE X o ta) (c : Cls X.K A) (hm : Meth X.K A m f) (F : FnOk X.prog X.w X.K X.mg X.base (L2.CX X.prog X.w) k f fd ps sp) (hr : Room k X.A) (hb : Binds X.K fd ps []) (hx : ∀ σ, PassesAt (L2.CX X.prog X.w) X σ (E σ)) (hrc : notSuper o = true) (hln : (apos.endLine == pos.line) = true) :
    PE X (.Call (.Attribute o m apos) [] [] pos) (tMethS A m sp E ta tNil) := by
  obtain ⟨pl, ht⟩ := evalMeth (m := m) (args := []) (pos := pos) (apos := apos) (env := X.env) hrc hln (by simp) rfl
  refine ⟨fun pins s σ H Q I h => ?_⟩
  refine PySem.W.methodCall_KW (pl := pl) (thn (he.run pins s σ H _ I h) fun u s1 ⟨x, H1, I1, rx, l, dx, fs, ex, ea, ll, q⟩ => ?_) ht
  subst ex
  obtain rfl : u = Value.ref l := rx
  refine getmeth_ok I1 ea c hm ll ?_
  exact PySem.W.callWith_K0 (first := [.ref l]) I1.kIn hm.kp (run_fnS (us := [.ref l]) (vs := [.ref l]) F hr hb (hx σ) I1 (.cons rfl .nil) q)
end
section
variable {X : Cx} {C : Ctx} {G : Sem1} {XR : XRT} {E : EK}
theorem chks_star {es : MEs} {y : Expr} {ys : List Expr} {pos : Pos} (hc : chks C es (y :: ys) = true) : starEach (y :: ys) X.env = (false, eval y X.env) :: starEach ys X.env ∧ (backTo pos (starEach ys X.env)).any (·.1) = false := by
  cases es with
  | nil => simp [chks] at hc
  | cons e r =>
    simp only [chks, Bool.and_eq_true] at hc
    exact ⟨star1 hc.1.1, chks_plain hc.2⟩
theorem ok_meth (w : WF X C G XR E) {c m : Str} {i : Nat} {o : ME} {es : MEs} {x : Expr} {ys : List Expr} {p pos : Pos} (hln : (p.endLine == pos.line) = true) (hnn : ys.length ≤ 20) (hrc : notSuper x = true) (hm : (c, m, i) ∈ C.meths) (hc : chks C es ys = true) (ho : OkP X XR E x (ev G o)) (ha : OkA X XR E ys (evs G es)) :
    OkP X XR E (.Call (.Attribute x m p) ys [] pos) (ev G (.meth c i m o es)) := by
  refine .plain ?_ (fun _ => rfl) (fun _ _ _ e => nomatch e)
  obtain ⟨A, k, fa, fd, ps, h1, h2, h3, F, hr, hb⟩ := w.mts c m i hm
  have key : ∀ σ H Q, rE X.K XR E (ev G (.meth c i m o es)) σ H Q → tMethS A m (spOf X.K XR (G i)) E (rE X.K XR E (ev G o)) (rA X.K XR E (evs G es)) σ H Q := fun σ H Q hq => by
    obtain ⟨env, st, F, φ, S, r, hq⟩ := hq
    simp only [ev] at hq
    refine ⟨env, st, F, φ, S, r, Sat.bind hq fun d st1 F1 φ1 H1 e1 S1 g1 v rv => ?_⟩
    split at g1
    · rename_i n c' fs e
      split at g1
      · rename_i hcf
        obtain ⟨l, B, dx, ws, rfl, _, _, _, e2, e3, e4⟩ := insOf_ok S1 rv e
        obtain ⟨rfl, hno⟩ := hcf
        cases cls_one e3 h1
        refine ⟨l, dx, ws, rfl, e2, ?_, env, st1, F1, φ1, S1, r.mono e1, Sat.bind g1 fun ds st2 F2 φ2 H2 e5 S2 g2 vs rvs => ⟨_, st2, F2, φ2, S2, .cons (rv.mono e5) rvs, g2⟩⟩
        rw [lookup_valV]
        rcases rks_val (k := m) e4 with ⟨_, g⟩ | ⟨_, _, g, _⟩
        · exact g
        · rw [g] at hno; cases hno
      · exact g1.elim
    · exact g1.elim
  cases ys with
  | nil =>
    cases es with
    | nil =>
      refine PE.imp (pe_methS0 ho.pe h2 h3 F hr hb w.px hrc hln) fun σ H Q hq => ?_
      obtain ⟨env, st, F, φ, S, r, hq⟩ := key σ H Q hq
      refine ⟨env, st, F, φ, S, r, ?_⟩
      have hq := hq
      refine (show Sat X.K XR (E σ) _ F φ _ → Sat X.K XR (E σ) _ F φ _ from fun h => ?_) hq
      revert h
      cases ev G o env st with
      | bad => exact id
      | ex c st => exact id
      | ok d st1 =>
        intro h F' φ' H' x' S' v rv
        obtain ⟨a, dx, fs, z1, z2, z3, env2, st2, F2, φ2, S2, r2, z4⟩ := h F' φ' H' x' S' v rv
        refine ⟨a, dx, fs, z1, z2, z3, ?_⟩
        simp only [evs] at z4
        exact z4.ok S2 [] .nil
    | cons e r => simp [chks] at hc
  | cons y ys =>
    obtain ⟨s1, s2⟩ := chks_star (X := X) (pos := pos) hc
    exact PE.imp (pe_methS ho.pe h2 h3 F hr hb w.px ha s1 s2 hrc hln hnn) key
theorem ok_new (w : WF X C G XR E) {c : Str} {i : Nat} {es : MEs} {ys : List Expr} {p pos : Pos} (ht : C.tr = false) (hg : C.isGl c = true) (hn : (c, i) ∈ C.news) (hc : chks C es ys = true) (ha : OkA X XR E ys (evs G es)) :
    OkP X XR E (.Call (.Name c p) ys [] pos) (ev G (.new c i es)) := by
  refine .plain ?_ (fun _ => rfl) (fun _ _ _ e => nomatch e)
  obtain ⟨g1, g2⟩ := gl_of w hg
  obtain ⟨d1, _, _⟩ := okName_of g1
  obtain ⟨A, k, fa, fd, ps, h1, h2, M, F, hr, hb⟩ := w.nws c i hn
  obtain ⟨E0', rfl, hp⟩ := w.pas ht
  have key : ∀ σ H Q, rE X.K XR (fun _ => E0') (ev G (.new c i es)) σ H Q → tMake A (spOf X.K XR (G i)) [] E0' (rA X.K XR (fun _ => E0') (evs G es)) σ H Q := fun σ H Q hq => by
    obtain ⟨env, st, F, φ, S, r, hq⟩ := hq
    simp only [ev] at hq
    refine ⟨env, st, F, φ, S, r, Sat.bind hq fun ds st1 F1 φ1 H1 e1 S1 g1 vs rvs x dx hx hdx hne => ?_⟩
    have S2 := S1.junk (o := .own x) hdx
    obtain ⟨S3, e3, ha3⟩ := S2.newC (c := .ins c []) (o := .ins A dx []) (p := x) (by rw [upd_ne hne.symm]; exact hx) (.ins h1 .nil) (fun z => nomatch z)
    rw [List.append_nil]
    refine ⟨.c st1.length :: ds, _, _, _, S3, .cons (show RD X.K _ _ (.ref x) (.c st1.length) from ⟨x, ha3, rfl⟩) (RDs.mono e3 rvs), Sat.bind (g1.ext e3) fun d st4 F4 φ4 H4 e4 S4 g4 v rv => ?_⟩
    split at g4
    · exact ⟨rv.non, g4.ok S4 _ ⟨x, e4.at ha3, rfl⟩⟩
    · exact g4.elim
  cases ys with
  | nil =>
    cases es with
    | nil =>
      refine PE.imp (pe_make0 M F hr g2 h2 hb .nil hp d1) fun σ H Q hq => ?_
      obtain ⟨env, st, F, φ, S, r, hq⟩ := key σ H Q hq
      simp only [evs] at hq
      exact hq.ok S [] .nil
    | cons e r => simp [chks] at hc
  | cons y ys =>
    obtain ⟨s1, s2⟩ := chks_star (X := X) (pos := pos) hc
    exact PE.imp (pe_make M F hr g2 h2 hb .nil hp ha d1 s1 s2) key
theorem dpAll_none {K : PySem.W.Frag} {F : Hp} {vs : List V} {ds : List PyData} (h : DpAll K (fun _ => none) vs ds) : DpAll K F vs ds := dpAll_mono (fun _ _ q => (by cases q)) h
theorem ok_callD (w : WF X C G XR E) {i : Nat} {f : Str} {es : MEs} {dv : List PyData} {y : Expr} {ys : List Expr} {p pos : Pos} (hg : C.isGl f = true) (hf : C.fns[i]? = some (some f)) (hd : (i, dv) ∈ C.defs) (hc : chks C es (y :: ys) = true) (ha : OkA X XR E (y :: ys) (evs G es)) :
    OkP X XR E (.Call (.Name f p) (y :: ys) [] pos) (ev G (.callD i es dv)) := by
  refine .plain ?_ (fun _ => rfl) (fun _ _ _ e => nomatch e)
  obtain ⟨h1, h2⟩ := gl_of w hg
  obtain ⟨d1, _, _⟩ := okName_of h1
  obtain ⟨k, fa, fd, ps, ds, dvs, F, hr, hm, hk, hb, hv, hdp⟩ := w.dfs i dv f hd hf
  obtain ⟨s1, s2⟩ := chks_star (X := X) (pos := pos) hc
  refine PE.imp (pe_callSD (E := E) F hr h2 hm hk hb hv w.px ha d1 s1 s2) fun σ H Q hq => ?_
  obtain ⟨env, st, F, φ, S, r, hq⟩ := hq
  simp only [ev] at hq
  exact ⟨env, st, F, φ, S, r, Sat.bind hq fun ds st1 F1 φ1 H1 e1 S1 h1 vs rvs => ⟨_, st1, F1, φ1, S1, rds_append rvs (dpAll_rds (dpAll_none hdp)), h1⟩⟩
/-- where a def stands that a table names -/
def TabAt (X : Cx) (XR : XRT) (G : Sem1) (i : Nat) (a : Addr) : Prop :=
  ∃ k fd ps, FnOk X.prog X.w X.K X.mg X.base (L2.CX X.prog X.w) k a fd ps (spOf X.K XR (G i)) ∧ Room k X.A ∧ PySem.W.keepIn X.K (.ref a) = true ∧ Binds X.K fd ps []
theorem pa_fns (w : WF X C G XR E) : ∀ {fs : List Nat} {xs : List Expr}, fnsAre C fs xs = true → ∃ as : List Addr, PA X xs (fun _ H Q => Q (as.map V.ref) H) ∧ as.length = fs.length ∧ ∀ (j : Nat) (i : Nat), fs[j]? = some i → ∃ a, as[j]? = some a ∧ TabAt X XR G i a
  | [], [], _ => ⟨[], pa_nil, rfl, fun j i h => by simp at h⟩
  | f :: fs, .Name x p :: r, h => by
    simp only [fnsAre, Bool.and_eq_true, decide_eq_true_eq] at h
    obtain ⟨as, h1, h2, h3⟩ := pa_fns w h.2
    obtain ⟨g1, g2⟩ := gl_of w h.1.1
    obtain ⟨d1, _, _⟩ := okName_of g1
    obtain ⟨k, fa, fd, ps, F, hr, hm, hk, hb⟩ := w.fns f x h.1.2
    refine ⟨fa :: as, pa_cons (pe_glob g2 hm (v := .ref fa) rfl d1) h1 (star1 rfl), by simp [h2], fun j i hj => ?_⟩
    cases j with
    | zero => cases Option.some.inj hj; exact ⟨fa, rfl, k, fd, ps, F, hr, hk, hb⟩
    | succ j => exact h3 j i hj
  | [], _ :: _, h => by simp [fnsAre] at h
  | _ :: _, [], h => by simp [fnsAre] at h
  | _ :: _, e :: _, h => by
    cases e with
    | Name x p =>
      simp only [fnsAre, Bool.and_eq_true, decide_eq_true_eq] at h
      obtain ⟨as, h1, h2, h3⟩ := pa_fns w h.2
      obtain ⟨g1, g2⟩ := gl_of w h.1.1
      obtain ⟨d1, _, _⟩ := okName_of g1
      obtain ⟨k, fa, fd, ps, F, hr, hm, hk, hb⟩ := w.fns _ x h.1.2
      refine ⟨fa :: as, pa_cons (pe_glob g2 hm (v := .ref fa) rfl d1) h1 (star1 rfl), by simp [h2], fun j i hj => ?_⟩
      cases j with
      | zero => cases Option.some.inj hj; exact ⟨fa, rfl, k, fd, ps, F, hr, hk, hb⟩
      | succ j => exact h3 j i hj
    | _ => simp [fnsAre] at h
theorem ok_callT (w : WF X C G XR E) {fs : List Nat} {i : ME} {es : MEs} {xs : List Expr} {y z : Expr} {zs : List Expr} {p1 p2 pos : Pos} (hn : notSlice y = true) (hz : fs.length ≤ 20) (hf : fnsAre C fs xs = true) (hi : OkP X XR E y (ev G i)) (hc : chks C es (z :: zs) = true) (ha : OkA X XR E (z :: zs) (evs G es)) :
    OkP X XR E (.Call (.Subscript (.List xs p1) y p2) (z :: zs) [] pos) (ev G (.callT fs i es)) := by
  refine .plain ?_ (fun _ => rfl) (fun _ _ _ e => nomatch e)
  obtain ⟨as, h1, h2, h3⟩ := pa_fns w hf
  obtain ⟨s1, s2⟩ := chks_star (X := X) (pos := pos) hc
  refine ⟨fun pins s σ H Q I h => ?_⟩
  obtain ⟨env, st, F, φ, S, r, hq⟩ := h
  simp only [ev] at hq
  refine Call_ (thn ((pe_ix (pos := p2) ix_list (pe_lst (pos := p1) h1) hi.pe (plainIx hn)).run pins s σ H (fun v H1 => ∃ f a, v = .ref a ∧ TabAt X XR G f a ∧ rA X.K XR E (evs G es) σ H1 fun vs H2 => spOf X.K XR (G f) vs H2 Q (E σ)) I ?_) fun u s1' ⟨v, H1, I1, r1, f, a, ev, hT, q⟩ => ?_)
  · show (as.map V.ref).length ≤ sizeLine ∧ ∀ p, H p = none → _
    refine ⟨?_, fun p hp => ?_⟩
    · rw [List.length_map, h2]; exact Nat.le_trans hz (by decide)
    obtain ⟨S1, E1⟩ := S.frz (o := .lst (as.map V.ref)) hp
    have hq := hq.ext E1
    refine ⟨env, st, _, φ, S1, r.mono E1, ?_⟩
    cases hm : ev G i env st with
    | bad => rw [hm] at hq; exact hq.elim
    | ex c st1 => rw [hm] at hq; exact hq
    | ok d st1 =>
      rw [hm] at hq
      simp only [R.bind_ok] at hq
      intro F1 φ1 H1 e1 S2 w1 rw1
      replace hq := hq.ext e1
      split at hq
      · rename_i kk
        split at hq
        · rename_i f hf'
          obtain ⟨j, g1, g2⟩ := Option.bind_eq_some_iff.mp hf'
          obtain ⟨a, g3, g4⟩ := h3 j f g2
          refine ⟨p, as.map V.ref, kk, .ref a, rfl, rw1.int, ?_, ?_, f, a, rfl, g4, env, st1, F1, φ1, S2, (r.mono E1).mono e1, Sat.bind hq fun ds st2 F2 φ2 H2 e2 S3 g5 vs rvs => ⟨ds, st2, F2, φ2, S3, rvs, g5⟩⟩
          · exact Evl.sq_of (S2.sub _ _ (e1.sub _ _ upd_same))
          · unfold atI
            rw [List.length_map, h2, g1]
            show (as.map V.ref)[j]? = _
            rw [List.getElem?_map, g3]; rfl
        · exact hq.elim
      · exact hq.elim
  · subst ev
    cases r1
    obtain ⟨k, fd, ps, F, hr, hk, hb⟩ := hT
    refine PySem.W.callWith_K (h₀ := X.base) I.ok.mod.kin hk (thn (ha.run pos pins s1' σ H1 _ I1 q) fun us s2 ⟨vs, H2, I2, r, q⟩ => ⟨I2.kIn, ?_⟩) s1 s2
    exact run_fnS F hr hb (w.px σ) I2 r q
theorem ok_mcall0 {m : Mth} {o : ME} {x : Expr} {q p : Pos} (hm : mthA m = 0) (hl : (q.endLine == p.line) = true) (hsu : notSuper x = true) (ho : OkP X XR E x (ev G o)) : PE X (.Call (.Attribute x (mthN m) q) [] [] p) (rE X.K XR E (ev G (.mcall m o .nil))) := by
  have key : ∀ {r : V → List V → Hp → VK → Prop}, (∀ l n ds vs st F φ H Q E1, SR X.K F φ st H → φ[n]? = some l → cellL st n = some ds → H l = some (.lst vs) → RDs X.K F φ vs ds → Sat X.K XR E1 (QE X.K Q) F φ (mthD m (.c n) [] st) → r (.ref l) [] H Q) →
      ∀ σ H Q, rE X.K XR E (ev G (.mcall m o .nil)) σ H Q → tBM0 X.K "list" r (rE X.K XR E (ev G o)) σ H Q := fun {r} hr σ H Q hq => by
    obtain ⟨env, st, F, φ, S, rr, hq⟩ := hq
    simp only [ev, evs, R.bind_ok] at hq
    refine ⟨env, st, F, φ, S, rr, Sat.bind hq fun d st1 F1 φ1 H1 e1 S1 h1 v rv => ?_⟩
    split at h1
    · rename_i ds e0
      cases d with
      | p y => exact h1.elim
      | c n =>
        obtain ⟨l, c1, rfl⟩ := rv
        obtain ⟨l', vs, c2, c3, c4, c5⟩ := S1.cell n _ (cellL_some e0)
        rw [c1] at c2
        cases Option.some.inj c2
        exact ⟨.inl ⟨rfl, vs, Evl.sq_of c4⟩, hr l n ds vs st1 F1 φ1 H1 Q (E σ) S1 c1 e0 c4 c5 h1⟩
    · exact h1.elim
  cases m with
  | insert => cases hm
  | clear =>
    refine PE.imp (pe_bm0 PySem.F.plainAttrs_list PySem.F.slot_list_clear PySem.F.type_list_clear mt_clear ho.pe (base_of hsu) hl) (key fun l n ds vs st F φ H Q E1 S c1 e0 c4 c5 h => ?_)
    simp only [mthD, e0] at h
    exact ⟨l, vs, rfl, rfl, c4, h F φ _ Ext.refl (S.write (cellL_some e0) c1 .nil) .non rd_non⟩
  | reverse =>
    refine PE.imp (pe_bm0 PySem.F.plainAttrs_list PySem.F.slot_list_reverse PySem.F.type_list_reverse mt_reverse ho.pe (base_of hsu) hl) (key fun l n ds vs st F φ H Q E1 S c1 e0 c4 c5 h => ?_)
    simp only [mthD, e0] at h
    exact ⟨l, vs, rfl, rfl, c4, h F φ _ Ext.refl (S.write (cellL_some e0) c1 (rds_reverse c5)) .non rd_non⟩
  | pop =>
    refine PE.imp (pe_bm0 PySem.F.plainAttrs_list PySem.F.slot_list_pop PySem.F.type_list_pop mt_pop ho.pe (base_of hsu) hl) (key fun l n ds vs st F φ H Q E1 S c1 e0 c4 c5 h => ?_)
    simp only [mthD, e0] at h
    split at h
    · rename_i d hd
      obtain ⟨v, g1, g2⟩ := rds_get c5 hd
      refine ⟨l, vs, v, rfl, rfl, c4, by rw [rds_length c5]; exact g1, h F φ _ Ext.refl (S.write (cellL_some e0) c1 ?_) v g2⟩
      rw [List.dropLast_eq_take, List.dropLast_eq_take, rds_length c5]
      exact rds_take _ c5
    · exact h.elim
theorem ok_mcall2 {o : ME} {es : MEs} {x y z : Expr} {q p : Pos} (hl : (q.endLine == p.line) = true) (hsu : notSuper x = true) (hc : chks C es [y, z] = true) (ho : OkP X XR E x (ev G o)) (ha : OkA X XR E [y, z] (evs G es)) : PE X (.Call (.Attribute x "insert" q) [y, z] [] p) (rE X.K XR E (ev G (.mcall .insert o es))) := by
  obtain ⟨s1, s2⟩ := chks_star (X := X) (pos := p) hc
  refine PE.imp (pe_bm PySem.F.plainAttrs_list PySem.F.slot_list_insert PySem.F.type_list_insert mt_insert ho.pe ha (base_of hsu) (by
    rw [s1]
    have h1 : (backTo p (starEach [z] X.env)).all (fun x => !x.1) = true := by
      rw [List.all_eq_not_any_not]
      simpa using s2
    show (true && (backTo p (starEach [z] X.env)).all (fun x => !x.1) && true && decide _) = true
    rw [h1]
    rfl) hl s1 s2) fun σ H Q hq => ?_
  obtain ⟨env, st, F, φ, S, rr, hq⟩ := hq
  simp only [ev] at hq
  refine ⟨env, st, F, φ, S, rr, Sat.bind hq fun d st1 F1 φ1 H1 e1 S1 h1 v rv => ?_⟩
  split at h1
  · rename_i ds0 e0
    obtain ⟨l, vs0, rfl, hl0, _⟩ := items_ok S1 rv e0
    refine ⟨.inl ⟨rfl, vs0, hl0⟩, env, st1, F1, φ1, S1, rr.mono e1, Sat.bind h1 fun ds st2 F2 φ2 H2 e2 S2 h2 ws rws => ?_⟩
    cases d with
    | p y => exact h2.elim
    | c n =>
      obtain ⟨l1, c1, e⟩ := rv.mono e2
      cases e
      unfold mthD at h2
      simp only at h2
      split at h2
      · rename_i xs e3
        obtain ⟨l', vs, c2, c3, c4, c5⟩ := S2.cell n _ (cellL_some e3)
        rw [c1] at c2
        cases Option.some.inj c2
        split at h2
        · split at h2
          · rename_i hz
            cases rws with
            | cons r1 rws =>
              cases rws with
              | cons r2 rws =>
                cases rws
                rw [r1.int]
                refine ⟨l, vs, _, _, rfl, rfl, c4, by rw [rds_length c5]; exact Nat.lt_of_lt_of_le hz.1 (sz_ok (Nat.le_refl _)), hz.2.1, by omega, ?_⟩
                exact h2 F2 φ2 _ Ext.refl (S2.write (cellL_some e3) c1 (rds_append (rds_append (rds_take _ c5) (.cons r2 .nil)) (rds_drop _ c5))) .non rd_non
          · exact h2.elim
        · contradiction
        · contradiction
        · contradiction
        · exact h2.elim
      · exact h2.elim
  · exact h1.elim
end
theorem datasEq_eq : ∀ {a b : List PyData}, datasEq a b = true → a = b
  | [], [], _ => rfl
  | x :: r, y :: r', h => by
    simp only [datasEq, Bool.and_eq_true] at h
    rw [dataEq_eq h.1, datasEq_eq h.2]
  | [], _ :: _, h => by cases h
  | _ :: _, [], h => by cases h
end MP

set_option Elab.async false
set_option linter.all false
set_option autoImplicit false
set_option maxRecDepth 100000
set_option maxHeartbeats 4000000
/-! the meaning is right: the whole of expressions -/
namespace MP
open PySem PySem.Spec PyProof.Rows L2
section
variable {G : Sem1} {XR : XRT}
theorem folded {e : Expr} (h : notSet e = true) (env : PySem.Env) (x : Value) : foldedSetIterable e env x = pure x := by
  cases e <;> first | rfl | cases h
theorem ok_join {X : Cx} {C : Ctx} {E : EK} (w : WF X C G XR E) {a b : ME} {x y : Expr} {m : Str} {q p : Pos} (hm : m = ("join" : Str)) (hl : (q.endLine == p.line) = true) (hsu : notSuper x = true) (hn : notStar y = true) (ha : OkP X XR E x (ev G a)) (hb : OkP X XR E y (ev G b)) :
    OkP X XR E (.Call (.Attribute x m q) [y] [] p) (ev G (.join a b)) := by
  subst hm
  refine .plain (PE.imp (pe_bm (X := X) PySem.F.plainAttrs_str PySem.F.slot_str_join PySem.F.type_str_join mt_join ha.pe (pa_cons hb.pe pa_nil (star1 hn)) (base_of hsu) (by rw [star1 hn]; rfl) hl (star1 hn) rfl) fun σ H Q hq => ?_) (fun _ => rfl) (fun _ _ _ e => nomatch e)
  obtain ⟨env, st, F, φ, S, r, hq⟩ := hq
  simp only [ev] at hq
  refine ⟨env, st, F, φ, S, r, Sat.bind hq fun d st1 F1 φ1 H1 e1 S1 h1 v rv => ?_⟩
  split at h1
  · rename_i z
    rw [rv.str]
    refine ⟨rfl, env, st1, F1, φ1, S1, r.mono e1, Sat.bind h1 fun d2 st2 F2 φ2 H2 e2 S2 h2 v2 rv2 => ?_⟩
    unfold joinD at h2
    split at h2
    · rename_i ys e0
      split at h2
      · rename_i zs e3
        split at h2
        · rename_i hz
          have hz' : (zs.map (·.length)).sum + zs.length * z.length ≤ 16777216 := Nat.le_trans hz (by decide)
          split at e0
          · rename_i ws
            cases Option.some.inj e0
            obtain ⟨l, vs, rfl, hl2, _, r1⟩ := tup_ok S2 rv2
            have q := r1.dpAll
            rw [strs_some e3] at q
            rw [dp_strs q] at hl2
            exact ⟨z, l, zs, rfl, rfl, .inr hl2, hz', sat_val S2 rd_str h2⟩
          · obtain ⟨ds, e4, e5⟩ := Option.bind_eq_some_iff.mp e0
            obtain ⟨l, vs, rfl, hl2, r1⟩ := items_ok S2 rv2 e4
            rw [pures_some e5] at r1
            have q := r1.dpAll
            rw [strs_some e3] at q
            rw [dp_strs q] at hl2
            exact ⟨z, l, zs, rfl, rfl, .inl hl2, hz', sat_val S2 rd_str h2⟩
        · exact h2.elim
      · exact h2.elim
    · exact h2.elim
  · exact h1.elim
theorem own_map (N : List Str) : ∀ (own : List Nat), (own.map fun j => ((N[j]?).getD ("" : Str), j)).map (·.2) = own
  | [] => rfl
  | a :: r => by rw [List.map_cons, List.map_cons, own_map N r]
theorem chki_folded {C : Ctx} {it : MI} {i t : Expr} (h : chki C it i t = true) : ∀ (env : PySem.Env) (x : Value), foldedSetIterable i env x = pure x := by
  have : notSet i = true := by
    cases it with
    | seq e => simp only [chki, Bool.and_eq_true] at h; exact h.1
    | _ => (simp only [chki] at h; split at h <;> first | rfl | cases h)
  exact folded this
mutual
theorem snd : ∀ (e : ME) {X : Cx} {C : Ctx} {E : EK} {py : Expr}, WF X C G XR E → chk C e py = true → OkP X XR E py (ev G e)
  | .var i, X, C, E, py, w, h => by
    unfold chk at h
    split at h
    · exact ok_var w h
    · cases h
  | .lit v, X, C, E, py, w, h => by
    unfold chk at h
    split at h
    · exact ok_lit h
    · cases h
  | .glb v, X, C, E, py, w, h => by
    unfold chk at h
    split at h
    · exact ok_glb w h
    · cases h
  | .gix kvs a, X, C, E, py, w, h => by
    unfold chk at h
    split at h
    · simp only [Bool.and_eq_true] at h
      exact ok_gix w h.1.1.1 h.1.1.2 h.1.2 (snd a w h.2)
    · cases h
  | .bin o a b, X, C, E, py, w, h => by
    unfold chk at h
    split at h
    · simp only [Bool.and_eq_true, decide_eq_true_eq] at h
      obtain ⟨⟨rfl, h1⟩, h2⟩ := h
      exact ok_bin (snd a w h1) (snd b w h2)
    · cases h
  | .neg a, X, C, E, py, w, h => by
    unfold chk at h
    split at h
    · exact ok_neg (snd a w h)
    · cases h
  | .not a, X, C, E, py, w, h => by
    unfold chk at h
    split at h
    · exact ok_not (snd a w h)
    · cases h
  | .and a b, X, C, E, py, w, h => by
    unfold chk at h
    split at h
    · simp only [Bool.and_eq_true] at h
      exact ok_and (snd a w h.1) (snd b w h.2)
    · cases h
  | .or a b, X, C, E, py, w, h => by
    unfold chk at h
    split at h
    · simp only [Bool.and_eq_true] at h
      exact ok_or (snd a w h.1) (snd b w h.2)
    · cases h
  | .one a, X, C, E, py, w, h => by
    unfold chk at h
    split at h
    · exact ok_one (snd a w h)
    · cases h
  | .cmp o a b, X, C, E, py, w, h => by
    unfold chk at h
    split at h
    · simp only [Bool.and_eq_true, decide_eq_true_eq] at h
      obtain ⟨⟨⟨rfl, h0⟩, h1⟩, h2⟩ := h
      exact ok_cmp w h0 (snd a w h1) (snd b w h2)
    · cases h
  | .cmp2 o o' a b c, X, C, E, py, w, h => by
    unfold chk at h
    split at h
    · simp only [Bool.and_eq_true, decide_eq_true_eq] at h
      obtain ⟨⟨⟨⟨⟨⟨rfl, rfl⟩, h0⟩, h1⟩, h2⟩, h3⟩, h4⟩ := h
      exact ok_cmp2 w h0 h1 (snd a w h2) (snd b w h3) (snd c w h4)
    · cases h
  | .ife c a b, X, C, E, py, w, h => by
    unfold chk at h
    split at h
    · simp only [Bool.and_eq_true] at h
      exact ok_ife (snd c w h.1.1) (snd a w h.1.2) (snd b w h.2)
    · cases h
  | .tup es, X, C, E, py, w, h => by
    unfold chk at h
    split at h
    · exact ok_tup (snds es w h)
    · cases h
  | .lst c es, X, C, E, py, w, h => by
    unfold chk at h
    split at h
    · exact ok_lst (snds es w h)
    · cases h
  | .frz a, X, C, E, py, w, h => by
    unfold chk at h
    split at h
    · exact ok_frz (snd a w h)
    · cases h
  | .rev a, X, C, E, py, w, h => by
    unfold chk at h
    split at h
    · exact ok_rev (snd a w h)
    · cases h
  | .dctE t, X, C, E, py, w, h => by
    unfold chk at h
    split at h
    · exact ok_dctE
    · cases h
  | .dct ks es, X, C, E, py, w, h => by
    unfold chk at h
    split at h
    · simp only [Bool.and_eq_true, decide_eq_true_eq, Bool.not_eq_true'] at h
      obtain ⟨⟨⟨⟨h1, h2⟩, h3⟩, h4⟩, h5⟩ := h
      exact ok_dct' h1 h2 h3 h4 h5 (sndps es w h5)
    · cases h
  | .fld a f cs, X, C, E, py, w, h => by
    unfold chk at h
    split at h
    · simp only [Bool.and_eq_true, decide_eq_true_eq] at h
      obtain ⟨⟨⟨rfl, h2⟩, h3⟩, h4⟩ := h
      exact ok_fld w h2 h3 (snd a w h4)
    · cases h
  | .meth c i m o es, X, C, E, py, w, h => by
    unfold chk at h
    split at h
    · simp only [Bool.and_eq_true, decide_eq_true_eq] at h
      obtain ⟨⟨⟨⟨⟨⟨rfl, h2⟩, h3⟩, h4⟩, h5⟩, h6⟩, h7⟩ := h
      exact ok_meth w h2 h3 h4 (by simpa using h5) h7 (snd o w h6) (snds es w h7)
    · cases h
  | .new c i es, X, C, E, py, w, h => by
    unfold chk at h
    split at h
    · simp only [Bool.and_eq_true, decide_eq_true_eq, Bool.not_eq_true'] at h
      obtain ⟨⟨⟨⟨h1, h2⟩, rfl⟩, h4⟩, h5⟩ := h
      exact ok_new w h1 h2 (by simpa using h4) h5 (snds es w h5)
    · cases h
  | .callT fs i es, X, C, E, py, w, h => by
    unfold chk at h
    split at h
    · simp only [Bool.and_eq_true, decide_eq_true_eq] at h
      obtain ⟨⟨⟨⟨h1, h2⟩, h3⟩, h4⟩, h5⟩ := h
      exact ok_callT w h1 h2 h3 (snd i w h4) h5 (snds es w h5)
    · cases h
  | .callD f es dv, X, C, E, py, w, h => by
    unfold chk at h
    split at h
    · simp only [Bool.and_eq_true, decide_eq_true_eq] at h
      obtain ⟨⟨⟨h1, h2⟩, h3⟩, h4⟩ := h
      obtain ⟨q, hq, h5⟩ := List.any_eq_true.mp h3
      simp only [Bool.and_eq_true, beq_iff_eq] at h5
      obtain ⟨rfl, h6⟩ := h5
      cases datasEq_eq h6
      exact ok_callD w h1 h2 hq h4 (snds es w h4)
    · cases h
  | .mcall m o es, X, C, E, py, w, h => by
    unfold chk at h
    split at h
    · rename_i x f q ys p
      simp only [Bool.and_eq_true, decide_eq_true_eq] at h
      obtain ⟨⟨⟨⟨⟨rfl, h2⟩, h3⟩, h4⟩, h5⟩, h6⟩ := h
      refine .plain ?_ (fun _ => rfl) (fun _ _ _ e => nomatch e)
      by_cases hm : m = .insert
      · subst hm
        cases ys with
        | nil => cases h4
        | cons y ys =>
          cases ys with
          | nil => cases h4
          | cons z ys =>
            cases ys with
            | nil => exact ok_mcall2 h2 h3 h6 (snd o w h5) (snds es w h6)
            | cons _ _ => cases h4
      · have h0 : mthA m = 0 := by cases m <;> first | rfl | exact absurd rfl hm
        rw [h0] at h4
        cases ys with
        | nil =>
          cases es with
          | nil => exact ok_mcall0 h0 h2 h3 (snd o w h5)
          | cons e r => simp [chks] at h6
        | cons y ys => cases h4
    · cases h
  | .ix a b, X, C, E, py, w, h => by
    unfold chk at h
    split at h
    · simp only [Bool.and_eq_true] at h
      exact ok_ix w h.1.1 (snd a w h.1.2) (snd b w h.2)
    · cases h
  | .sl a lo hi, X, C, E, py, w, h => by
    unfold chk at h
    split at h
    · simp only [Bool.and_eq_true] at h
      exact ok_sl (snd a w h.1.1) (sndo lo w h.1.2) (sndo hi w h.2)
    · cases h
  | .bi f a, X, C, E, py, w, h => by
    unfold chk at h
    split at h
    · simp only [Bool.and_eq_true, decide_eq_true_eq] at h
      exact ok_bi w h.1.1.1 h.1.1.2 h.1.2 (snd a w h.2)
    · cases h
  | .mx2 m a b, X, C, E, py, w, h => by
    unfold chk at h
    split at h
    · simp only [Bool.and_eq_true, decide_eq_true_eq] at h
      obtain ⟨⟨⟨⟨⟨h1, h2⟩, h3⟩, h4⟩, h5⟩, h6⟩ := h
      exact ok_mx2 w h1 h2 h3 h4 (snd a w h5) (snd b w h6)
    · cases h
  | .isi T a, X, C, E, py, w, h => by
    unfold chk at h
    split at h
    · simp only [Bool.and_eq_true, decide_eq_true_eq] at h
      obtain ⟨⟨⟨⟨⟨⟨h1, h2⟩, h3⟩, h4⟩, h5⟩, h6⟩, h7⟩ := h
      exact ok_isi w h1 h2 h3 h4 h5 h6 (snd a w h7)
    · cases h
  | .call f es, X, C, E, py, w, h => by
    unfold chk at h
    split at h
    · simp only [Bool.and_eq_true, decide_eq_true_eq] at h
      exact ok_call w h.1.1 h.1.2 h.2 (snds es w h.2)
    · cases h
  | .join a b, X, C, E, py, w, h => by
    unfold chk at h
    split at h
    · simp only [Bool.and_eq_true, decide_eq_true_eq] at h
      obtain ⟨⟨⟨⟨⟨h1, h2⟩, h3⟩, h4⟩, h5⟩, h6⟩ := h
      exact ok_join w h1 h2 h3 h4 (snd a w h5) (snd b w h6)
    · cases h
  | .lc c own tg it cond elt, X, C, E, py, w, h => by
    unfold chk at h
    split at h
    · simp only [Bool.and_eq_true] at h
      obtain ⟨⟨h1, h2⟩, ⟨⟨h3, h4⟩, h5⟩, h6⟩ := h
      have hb := blkOk_by h1
      rw [← w.N, ← w.sc] at hb
      refine .plain (PE.imp (pe_lc (g := gI X.K tg) (tt := rT X.K XR (fun _ => E0) fun env st => truR (evc G cond env st)) (te := rE X.K XR (fun _ => E0) (ev G elt)) w.calm w.nd (sndi it w h4) hb (fun s H Ca cl fp => ok_tgI (w.blk s H _ cl Ca fp) h3)
        (fun s H Ca cl fp => sndc cond (w.blk s H _ cl Ca fp) h5) (fun s H Ca cl fp => (snd elt (w.blk s H _ cl Ca fp) h6).pe) (chki_folded h4 X.env)) fun σ H Q hq => ?_) (fun _ => rfl) (fun _ _ _ e => nomatch e)
      rw [w.N, own_map]
      exact lc_sat (iter := default) (t := default) (x := default) (ifs := []) (fun j hj => by simpa using List.all_eq_true.mp h2 j hj) hq
    · cases h
theorem snds : ∀ (es : MEs) {X : Cx} {C : Ctx} {E : EK} {xs : List Expr}, WF X C G XR E → chks C es xs = true → OkA X XR E xs (evs G es)
  | .nil, X, C, E, [], w, h => oka_nil
  | .cons e r, X, C, E, x :: xs, w, h => by
    simp only [chks, Bool.and_eq_true] at h
    exact oka_cons h.1.1 (snd e w h.1.2) (snds r w h.2)
  | .nil, X, C, E, _ :: _, w, h => by simp [chks] at h
  | .cons _ _, X, C, E, [], w, h => by simp [chks] at h
theorem sndps : ∀ (es : MEs) {X : Cx} {C : Ctx} {E : EK} {xs : List Expr}, WF X C G XR E → chks C es xs = true → PesOk X C G XR E es xs
  | .nil, X, C, E, [], w, h => .nil
  | .cons e r, X, C, E, x :: xs, w, h => by
    simp only [chks, Bool.and_eq_true] at h
    exact .cons (snd e w h.1.2).pe (sndps r w h.2)
  | .nil, X, C, E, _ :: _, w, h => by simp [chks] at h
  | .cons _ _, X, C, E, [], w, h => by simp [chks] at h
theorem sndo : ∀ (o : MO) {X : Cx} {C : Ctx} {E : EK} {x : Option Expr}, WF X C G XR E → chko C o x = true → PO X x (rO' X.K XR E (evo G o))
  | .none, X, C, E, none, w, h => oko_none
  | .some e, X, C, E, some x, w, h => by
    simp only [chko] at h
    exact oko_some (snd e w h)
  | .none, X, C, E, some _, w, h => by simp [chko] at h
  | .some _, X, C, E, none, w, h => by simp [chko] at h
theorem sndc : ∀ (o : MO) {X : Cx} {C : Ctx} {E : EK} {xs : List Expr}, WF X C G XR E → chkc C o xs = true → PTs X xs (rT X.K XR E fun env st => truR (evc G o env st))
  | .none, X, C, E, [], w, h => okc_none
  | .some e, X, C, E, [x], w, h => by
    simp only [chkc] at h
    exact okc_some (snd e w h)
  | .none, X, C, E, _ :: _, w, h => by simp [chkc] at h
  | .some _, X, C, E, [], w, h => by simp [chkc] at h
  | .some _, X, C, E, _ :: _ :: _, w, h => by simp [chkc] at h
theorem sndi : ∀ (it : MI) {X : Cx} {C : Ctx} {E : EK} {i t : Expr}, WF X C G XR E → chki C it i t = true → PI X t i (rI X.K XR E (evi G it))
  | .seq e, X, C, E, i, t, w, h => by
    simp only [chki, Bool.and_eq_true] at h
    exact ok_seq (snd e w h.2)
  | .rng1 a, X, C, E, i, t, w, h => by
    unfold chki at h
    split at h
    · simp only [Bool.and_eq_true, decide_eq_true_eq] at h
      exact ok_rng1 w h.1.1.1 h.1.1.2 h.1.2 (snd a w h.2)
    · cases h
  | .rng2 a b, X, C, E, i, t, w, h => by
    unfold chki at h
    split at h
    · simp only [Bool.and_eq_true, decide_eq_true_eq] at h
      obtain ⟨⟨⟨⟨⟨h1, h2⟩, h3⟩, h4⟩, h5⟩, h6⟩ := h
      exact ok_rng2 w h1 h2 h3 h4 (snd a w h5) (snd b w h6)
    · cases h
  | .enum a, X, C, E, i, t, w, h => by
    unfold chki at h
    split at h
    · simp only [Bool.and_eq_true, decide_eq_true_eq] at h
      obtain ⟨⟨⟨⟨h1, h2⟩, h3⟩, h4⟩, h5⟩ := h
      exact ok_enum w h1 h2 h3 h4 (snd a w h5)
    · cases h
  | .zip a b, X, C, E, i, t, w, h => by
    unfold chki at h
    split at h
    · simp only [Bool.and_eq_true, decide_eq_true_eq] at h
      obtain ⟨⟨⟨⟨⟨⟨h1, h2⟩, h3⟩, h4⟩, h5⟩, h6⟩, h7⟩ := h
      exact ok_zip w h1 h2 h3 h4 h5 (snd a w h6) (snd b w h7)
    · cases h
end
end
end MP

set_option Elab.async false
set_option linter.all false
set_option autoImplicit false
set_option maxRecDepth 100000
set_option maxHeartbeats 2000000
/-! exceptions: an own __init__ that calls its base's, raise, clauses of every kind -/
namespace MP
open PySem PySem.Spec PyProof.Rows L2
theorem SR.known {K : PySem.W.Frag} {F H : Hp} {φ : List Addr} {st : Store} {d : Addr} {ws : List (Str × V)} (S : SR K F φ st H) (hd : H d = some (.xd ws)) : SR K (upd F d (.xd ws)) φ st H ∧ Ext F φ (upd F d (.xd ws)) φ := by
  have hF : ∀ b u, F b = some u → upd F d (.xd ws) b = some u := fun b u e => by
    by_cases hb : b = d
    · subst hb; rw [upd_same]; rw [S.sub _ _ e] at hd; exact hd.symm
    · rw [upd_ne hb]; exact e
  have E : Ext F φ (upd F d (.xd ws)) φ := ⟨hF, List.prefix_refl φ⟩
  refine ⟨⟨fun b u e => ?_, S.len, S.nd, fun n c e hc => ?_, fun n e => ?_⟩, E⟩
  · by_cases hb : b = d
    · subst hb; rw [upd_same] at e; rw [hd, e]
    · rw [upd_ne hb] at e; exact S.sub b u e
  · obtain ⟨a, o, h1, h2, h3, h4⟩ := S.live n c e hc
    have : a ≠ d := fun z => by
      subst z
      rw [hd] at h3
      cases Option.some.inj h3
      cases h4
    exact ⟨a, o, h1, by rw [upd_ne this]; exact h2, h3, h4.mono E⟩
  · obtain ⟨a, h1, h2⟩ := S.dead n e
    refine ⟨a, h1, fun z => h2 ?_⟩
    cases hq : F a with
    | none => rfl
    | some u => rw [hF a u hq] at z; cases z
section
variable {X : Cx} {B : Str} {CB : Addr} {e : Expr} {es : List Expr} {p1 p2 pos : Pos} {ta : TA}
/-- Base.__init__(self, ..), Base an own class over ValueError without own __init__ -/
theorem pe_cinit (hg : Gl X B) (hm : X.mg B = some (.ref CB)) (hd : (B == ("__debug__" : Str)) = false) (hr : ClX.CRead X.K CB (.type "type")) (hv : PySem.W.findCls X.K (.ref CB) (.type "type") "__init__" = some (.val (.builtin "ValueError.__init__")))
    (ha : PA X (e :: es) ta) (hs : starEach (e :: es) X.env = (false, eval e X.env) :: starEach es X.env) (hpl : (backTo pos (starEach es X.env)).any (·.1) = false) (hl : (p2.endLine == pos.line) = true) (hn : (e :: es).length ≤ 20) :
    PE X (.Call (.Attribute (.Name B p1) "__init__" p2) (e :: es) [] pos) (tVeI X.K ta) := by
  obtain ⟨pl, ht⟩ := evalMeth (o := .Name B p1) (m := "__init__") (args := e :: es) (pos := pos) (apos := p2) (env := X.env) rfl hl hn (by rw [hs]; show (false || (backTo pos (starEach es X.env)).any (·.1)) = false; rw [hpl]; rfl)
  refine ⟨fun pins s σ H Q I h => ?_⟩
  refine PySem.W.methodCall_KW (ld_glob I hg hm ?_ hd) ht
  refine PySem.W.method_cls I.kIn hr.ga (PySem.W.cls_value I.kIn hr.rd hv rfl ?_)
  refine PyProof.Rows.callWith_method1 (thn (ha.run pos pins _ σ H _ (I.tok _) h) fun us s1 ⟨vs, H1, I1, r1, a, A, ws, ev, hz, T, ea, q⟩ => ?_) hs hpl
  subst ev
  cases r1 with
  | @cons _ u0 _ ur ra rw' =>
    obtain rfl : u0 = Value.ref a := ra
    refine oinit_ok T I1 ea ?_ fun s' J => ⟨.non, H1, J, rfl, q⟩
    rw [← Paired.length rw', sizeLine_eq]
    omega
end
/-! the own __init__ -/
def chkFv (C : Ctx) : FE → Expr → Bool
  | .arg i, .Name y _ => C.slot (i + 1) y && C.isVis y
  | .lst i, .Call (.Name l _) [.Name y _] [] _ => decide (l = ("list" : Str)) && C.isBl l && C.slot (i + 1) y && C.isVis y
  | _, _ => false
def chkF (C : Ctx) : List (Str × FE) → List Stmt → Bool
  | [], [] => true
  | (f, fe) :: r, .Assign [.Attribute (.Name s _) g _] v _ :: ss => decide (f = g) && C.slot 0 s && C.isVis s && chkFv C fe v && chkF C r ss
  | _, _ => false
def chkI (C : Ctx) (B : Str) (fs : List (Str × FE)) : List Stmt → Bool
  | .Expr (.Call (.Attribute (.Name b _) m p2) [.Name s _, .Constant (.str _) _ _] [] pos) _ :: r => decide (b = B) && C.isGl B && decide (m = ("__init__" : Str)) && (p2.endLine == pos.line) && C.slot 0 s && C.isVis s && !fs.isEmpty && decide (fs.length ≤ 50) && chkF C fs r
  | _ => false
def InitSt (F : Hp) (φ : List Addr) (H : Hp) (a A : Addr) (od : Option Addr) (gs : List (Str × V)) (H1 : Hp) : Prop :=
  F a = none ∧ a ∉ φ ∧ (∀ b, H b = none → H1 b = none) ∧ match od with
    | none => gs = [] ∧ H a = some (exo a A none)
    | some d => H a = some (exo a A (some d)) ∧ H d = some (exd d gs) ∧ H1 d = none ∧ F d = none ∧ d ∉ φ ∧ d ≠ a
def IniEnd (K : PySem.W.Frag) (F : Hp) (φ : List Addr) (a A : Addr) (H1 : Hp) (P : Hp → Prop) (r : R (List (Str × D))) : Prop :=
  match r with
  | .ok xs st' => ∀ F' φ' H2 d gs, Ext F φ F' φ' → SR K F' φ' st' H2 → H2 a = some (exo a A (some d)) → H2 d = some (exd d gs) → H1 d = none → F' d = none → d ∉ φ' → F' a = none → a ∉ φ' → RNs K F' φ' gs xs → P H2
  | _ => False
theorem IniEnd.ext {K : PySem.W.Frag} {F F1 : Hp} {φ φ1 : List Addr} {a A : Addr} {H1 : Hp} {P : Hp → Prop} {r : R (List (Str × D))} (e : Ext F φ F1 φ1) (h : IniEnd K F φ a A H1 P r) : IniEnd K F1 φ1 a A H1 P r := by
  cases r with
  | ok xs st => exact fun F' φ' H2 d gs x => h F' φ' H2 d gs (e.trans x)
  | ex c st => exact h
  | bad => exact h
def rIni (K : PySem.W.Frag) (A : Addr) (fs : List (Str × FE)) : TS := fun De σ H => ∃ ds st F φ a od gs acc H1, SR K F φ st H ∧ σ[0]? = some (some (.ref a)) ∧ (∀ i d, ds[i]? = some d → ∃ v : V, σ[i + 1]? = some (some v) ∧ RD K F φ v d) ∧ InitSt F φ H a A od gs H1 ∧
  gs.length + fs.length ≤ 100 ∧ (fs = [] → od ≠ none) ∧ RNs K F φ gs acc ∧ IniEnd K F φ a A H1 (De.nx σ) (mkX ds fs acc st)
section
variable {X : Cx} {C : Ctx}
structure IniX (X : Cx) (C : Ctx) (A : Addr) (fs : List (Str × FE)) : Prop where
  N : X.N = C.N
  sc : X.env.scope = C.sc
  bl : ∀ x, x ∈ C.bl → X.mg x = none
  ox : OexC X.K A
  no : ∀ f fe, (f, fe) ∈ fs → PySem.W.findIn X.K (.ref A) f = some none
theorem pe_slot (hN : X.N = C.N) (hs : X.env.scope = C.sc) {i : Nat} {x : Str} {pos : Pos} (h1 : C.slot i x = true) (h2 : C.isVis x = true) : PE X (.Name x pos) (tVar i) := by
  obtain ⟨g1, g2⟩ := slot_of h1
  obtain ⟨d1, d2, _⟩ := okName_of g1
  exact pe_var (i := i) (by rw [hN]; exact g2) (by rw [hs]; exact vis_of h2) d1 d2
/-- one field is stored -/
theorem ini_put {A : Addr} {f : Str} {σ : L2.St} {H H1 F : Hp} {φ : List Addr} {st : Store} {a : Addr} {od : Option Addr} {gs : List (Str × V)} {y : V} {De : Ends} (T : OexC X.K A) (hno : PySem.W.findIn X.K (.ref A) f = some none) (S : SR X.K F φ st H) (J : InitSt F φ H a A od gs H1) (hg : gs.length ≤ 100)
    (k : ∀ H2 d, SR X.K F φ st H2 → InitSt F φ H2 a A (some d) ((f, y) :: gs) H1 → De.nx σ H2) :
    ∃ a' A' : Addr, V.ref a = .ref a' ∧ OexC X.K A' ∧ PySem.W.findIn X.K (.ref A') f = some none ∧
      ((H a' = some (exo a' A' none) ∧ ∀ dx, H dx = none → dx ≠ a' → De.nx σ (upd (upd H dx (exd dx [(f, y)])) a' (exo a' A' (some dx)))) ∨
        ∃ (dx : Addr) (fs : List (Str × V)), H a' = some (exo a' A' (some dx)) ∧ H dx = some (exd dx fs) ∧ fs.length ≤ 900 ∧ De.nx σ (upd H dx (exd dx ((f, y) :: fs)))) := by
  obtain ⟨j1, j2, j3, j4⟩ := J
  refine ⟨a, A, rfl, T, hno, ?_⟩
  cases od with
  | none =>
    obtain ⟨rfl, j5⟩ := j4
    refine .inl ⟨j5, fun dx hdx hne => ?_⟩
    have hFd : F dx = none := Evl.fresh_back S.sub hdx
    have hφd : dx ∉ φ := fun z => S.dom z hdx
    refine k _ dx ((S.over hFd hφd).over j1 j2) ⟨j1, j2, fun b hb => ?_, by rw [upd_same], by rw [upd_ne hne, upd_same], j3 dx hdx, hFd, hφd, hne⟩
    have hba : b ≠ a := fun z => by subst z; rw [upd_same] at hb; cases hb
    rw [upd_ne hba] at hb
    have hbd : b ≠ dx := fun z => by subst z; rw [upd_same] at hb; cases hb
    rw [upd_ne hbd] at hb
    exact j3 b hb
  | some d =>
    obtain ⟨j5, j6, j7, j8, j9, j10⟩ := j4
    have hne : a ≠ d := j10.symm
    refine .inr ⟨d, gs, j5, j6, by omega, k _ d (S.over j8 j9) ⟨j1, j2, fun b hb => ?_, by rw [upd_ne hne]; exact j5, by rw [upd_same], j7, j8, j9, j10⟩⟩
    have hbd : b ≠ d := fun z => by subst z; rw [upd_same] at hb; cases hb
    rw [upd_ne hbd] at hb
    exact j3 b hb
theorem InitSt.of_ext {F F' : Hp} {φ φ' : List Addr} {H H' H1 : Hp} {a A : Addr} {od : Option Addr} {gs : List (Str × V)} (J : InitSt F φ H a A od gs H1) (hF : F' a = none) (hφ : a ∉ φ') (hH : ∀ b, H b ≠ none → H' b = H b) (hFd : ∀ d, od = some d → F' d = none ∧ d ∉ φ') : InitSt F' φ' H' a A od gs H1 := by
  obtain ⟨j1, j2, j3, j4⟩ := J
  refine ⟨hF, hφ, fun b hb => j3 b ?_, ?_⟩
  · cases hq : H b with
    | none => rfl
    | some o => rw [hH b (by rw [hq]; simp), hq] at hb; cases hb
  · cases od with
    | none => exact ⟨j4.1, by rw [hH a (by rw [j4.2]; simp)]; exact j4.2⟩
    | some d =>
      obtain ⟨j5, j6, j7, _, _, j10⟩ := j4
      exact ⟨by rw [hH a (by rw [j5]; simp)]; exact j5, by rw [hH d (by rw [j6]; simp)]; exact j6, j7, (hFd d rfl).1, (hFd d rfl).2, j10⟩
theorem ini_ok {A : Addr} : ∀ {fs : List (Str × FE)} {ss : List Stmt}, IniX X C A fs → chkF C fs ss = true → PSs X ss (rIni X.K A fs)
  | [], [], w, h => PSs.imp pss_nil fun De σ H hq => by
    obtain ⟨ds, st, F, φ, a, od, gs, acc, H1, S, h0, hp, J, hg, hne, hr, hk⟩ := hq
    cases od with
    | none => exact absurd rfl (hne rfl)
    | some d =>
      obtain ⟨j1, j2, j3, j5, j6, j7, j8, j9, _⟩ := J
      exact hk F φ H d gs Ext.refl S j5 j6 j7 j8 j9 j1 j2 hr
  | (f, fe) :: r, s :: ss, w, h => by
    unfold chkF at h
    split at h
    · rename_i e1 e2; cases e1
    · rename_i f' fe' r' sn q g p' v pos ss' e1 e2
      cases e1
      cases e2
      simp only [Bool.and_eq_true, decide_eq_true_eq] at h
      obtain ⟨⟨⟨⟨rfl, h1⟩, h2⟩, h3⟩, h4⟩ := h
      have ih := ini_ok (A := A) (fs := r) (ss := ss) ⟨w.N, w.sc, w.bl, w.ox, fun f fe hm => w.no f fe (List.mem_cons_of_mem _ hm)⟩ h4
      have ho : PE X (.Name sn q) (tVar 0) := pe_slot w.N w.sc h1 h2
      have hno := w.no f fe List.mem_cons_self
      unfold chkFv at h3
      split at h3
      · rename_i i y q2
        simp only [Bool.and_eq_true] at h3
        refine PSs.imp (pss_cons (ps_ost (f := f) ho (pe_slot (i := i + 1) w.N w.sc h3.1 h3.2)) ih) fun De σ H hq => ?_
        obtain ⟨ds, st, F, φ, a, od, gs, acc, H1, S, h0, hp, J, hg, hne, hr, hk⟩ := hq
        simp only [mkX] at hk
        split at hk
        · rename_i d hd
          obtain ⟨y, hy1, hy2⟩ := hp i d hd
          refine ⟨y, hy1, .ref a, h0, ini_put w.ox hno S J (by simp only [List.length_cons] at hg; omega) fun H2 dx S2 J2 => ?_⟩
          exact ⟨ds, st, F, φ, a, some dx, _, (f, d) :: acc, H1, S2, h0, hp, J2, by simp only [List.length_cons] at hg ⊢; omega, (fun _ z => nomatch z), .cons ⟨rfl, hy2⟩ hr, hk⟩
        · exact hk.elim
      · rename_i i l q2 y q3 q4
        simp only [Bool.and_eq_true, decide_eq_true_eq] at h3
        obtain ⟨⟨⟨rfl, h5⟩, h6⟩, h7⟩ := h3
        unfold Ctx.isBl Ctx.isGl at h5
        simp only [Bool.and_eq_true, decide_eq_true_eq] at h5
        obtain ⟨⟨g1, g2⟩, g3⟩ := h5
        obtain ⟨d1, _, d3⟩ := okName_of g1
        have hcl : PE X (.Call (.Name "list" q2) [.Name y q3] [] q4) _ := pe_callTy call_list_of (show X.env.scope.names.lookup _ = _ by rw [w.sc]; exact g2) (w.bl _ (by simpa using g3)) boot_list' (pa_cons (pe_slot (i := i + 1) w.N w.sc h6 h7) pa_nil (star1 rfl)) d3 d1 (star1 rfl)
        refine PSs.imp (pss_cons (ps_ost (f := f) ho hcl) ih) fun De σ H hq => ?_
        obtain ⟨ds, st, F, φ, a, od, gs, acc, H1, S, h0, hp, J, hg, hne, hr, hk⟩ := hq
        simp only [mkX] at hk
        split at hk
        · rename_i d hd
          obtain ⟨y, hy1, hy2⟩ := hp i d hd
          have go : ∀ (l0 : Addr) (vs : List V) (xs : List D), y = .ref l0 → (SqL X.K H l0 vs ∨ SqT X.K H l0 vs) → RDs X.K F φ vs xs → IniEnd X.K F φ a A H1 (De.nx σ) (mkX ds r ((f, .c st.length) :: acc) (st ++ [.lst xs])) →
              tOst X.K f (tVar 0) (fun σ H Q => tCons (tVar (i + 1)) tNil σ H fun xs H1 => ∃ p ys, xs = [.ref p] ∧ (SqL X.K H1 p ys ∨ SqT X.K H1 p ys) ∧ ∀ l, H1 l = none → Q (.ref l) (upd H1 l (.lst ys))) { De with nx := rIni X.K A r De } σ H := fun l0 vs xs ey hs hrx hk => by
            refine ⟨y, hy1, l0, vs, by rw [ey], hs, fun l hl => ?_⟩
            obtain ⟨S1, e1, ha1⟩ := S.newCell hl hrx
            have hHl : ∀ b, H b ≠ none → upd H l (.lst vs) b = H b := fun b hb => upd_ne (fun z => by subst z; exact hb hl)
            have notl : ∀ b, H b ≠ none → b ∉ φ → b ∉ φ ++ [l] := fun b hb hn hm => by
              rcases List.mem_append.mp hm with hm | hm
              · exact hn hm
              · rw [List.mem_singleton.mp hm] at hb; exact hb hl
            have ha0 : H a ≠ none := by
              obtain ⟨_, _, _, j4⟩ := J
              cases od with
              | none => rw [j4.2]; simp
              | some d => rw [j4.1]; simp
            have J1 : InitSt F (φ ++ [l]) (upd H l (.lst vs)) a A od gs H1 := J.of_ext J.1 (notl a ha0 J.2.1) hHl fun d hd' => by
              subst hd'
              obtain ⟨_, _, _, _, j6, _, j8, j9, _⟩ := J
              exact ⟨j8, notl d (by rw [j6]; simp) j9⟩
            refine ⟨.ref a, h0, ini_put w.ox hno S1 J1 (by simp only [List.length_cons] at hg; omega) fun H2 dx S2 J2 => ?_⟩
            refine ⟨ds, _, F, _, a, some dx, _, (f, .c st.length) :: acc, H1, S2, h0, fun j d hd => ?_, J2, by simp only [List.length_cons] at hg ⊢; omega, (fun _ z => nomatch z), .cons ⟨rfl, show RD X.K _ _ _ (.c _) from ⟨l, ha1, rfl⟩⟩ (RNs.mono e1 hr), IniEnd.ext e1 hk⟩
            obtain ⟨v, k1, k2⟩ := hp j d hd
            exact ⟨v, k1, k2.mono e1⟩
          unfold listD at hk
          split at hk
          · rename_i xs
            obtain ⟨l0, vs, e0, hl0, _, r1⟩ := tup_ok S hy2
            exact go l0 vs _ e0 (.inr hl0) r1 hk
          · split at hk
            · rename_i xs e3
              obtain ⟨l0, vs, e0, hl0, r1⟩ := items_ok S hy2 e3
              exact go l0 vs _ e0 (.inl hl0) r1 hk
            · exact hk.elim
        · exact hk.elim
      · cases h3
    · cases h
  | [], _ :: _, w, h => by simp [chkF] at h
  | _ :: _, [], w, h => by simp [chkF] at h
end
theorem start_at {N : List Str} {vs : List V} {i : Nat} {v : V} (h : vs[i]? = some v) : (L2.start N vs)[i]? = some (some v) := by
  unfold L2.start
  have hl := (List.getElem?_eq_some_iff.mp h).1
  rw [List.getElem?_append_left (by simpa using hl), List.getElem?_map, h]
  rfl
/-- an exception's own __init__ keeps what it promises -/
theorem initFn {P : Program} {w : World} {K : PySem.W.Frag} {mg : Str → Option Value} {base : Heap} {C : Ctx} {A CB fI : Addr} {B qual : Str} {np : Nat} {fs : List (Str × FE)} {st : Stmt} {fd : FuncData} (F : Fun K "__init__" qual st fI fd)
    (S : FnScope C.N (C.N.take (np + 1)) (defScope st)) (hl : (C.N.take (np + 1)).length = np + 1) (hsc : C.sc = defScope st) (hc : chkI C B fs (defBody st) = true) (ox : OexC K A) (no : ∀ f fe, (f, fe) ∈ fs → PySem.W.findIn K (.ref A) f = some none)
    (hB : mg B = some (.ref CB)) (hr : ClX.CRead K CB (.type "type")) (hv : PySem.W.findCls K (.ref CB) (.type "type") "__init__" = some (.val (.builtin "ValueError.__init__"))) (hbl : ∀ x, x ∈ C.bl → mg x = none) :
    FnOk P w K mg base (L2.CX P w) 1 fI fd (C.N.take (np + 1)) (spInit K A np fs) := by
  refine F.okX S (fun vs H Q E h => ?_) (fun cdv A0 outer s H vs Q E hro h => ?_)
  · obtain ⟨a, ws, ds, st, F', φ, rfl, e, _⟩ := h
    rw [List.length_cons, e, hl]
  · obtain ⟨a, ws, ds, stt, F', φ, rfl, e, h1, h2, h3, S', r, hk⟩ := h
    unfold chkI at hc
    split at hc
    · rename_i b q1 m p2 sn q2 mm q3 q4 pos q5 rest heq
      simp only [Bool.and_eq_true, decide_eq_true_eq, Bool.not_eq_true'] at hc
      obtain ⟨⟨⟨⟨⟨⟨⟨⟨rfl, c1⟩, rfl⟩, c2⟩, c3⟩, c4⟩, c5⟩, c6⟩, c7⟩ := hc
      rw [heq]
      unfold Ctx.isGl at c1
      simp only [Bool.and_eq_true, decide_eq_true_eq] at c1
      obtain ⟨d1, _, _⟩ := okName_of c1.1
      have hgl : Gl (cxOf (L2.CX P w) P w K mg base C.N qual (defScope st) fI cdv A0 outer s H E) b := by
        show (defScope st).names.lookup b = _
        rw [← hsc]; exact c1.2
      have hself : PE (cxOf (L2.CX P w) P w K mg base C.N qual (defScope st) fI cdv A0 outer s H E) (.Name sn q2) (tVar 0) := pe_slot (C := C) rfl hsc.symm c3 c4
      refine ⟨_, pss_cons (ps_expr (pe_cinit hgl hB d1 hr hv (pa_cons hself (pa_cons pe_str pa_nil (star1 rfl)) (star1 rfl)) (star1 rfl) rfl c2 (by simp)) rfl) (ini_ok (A := A) ⟨rfl, hsc.symm, hbl, ox, no⟩ c7), ?_⟩
      refine ⟨.ref a, start_at rfl, a, A, [.str mm], rfl, by simp, ox, h1, ?_⟩
      refine ⟨ds, stt, F', φ, a, none, [], [], H, S', start_at rfl, fun i d hd => ?_, ⟨h2, h3, fun b hb => hb, rfl, h1⟩, by simp; omega, fun z => ?_, .nil, ?_⟩
      · obtain ⟨v, g1, g2⟩ := rds_get r hd
        exact ⟨v, start_at (by simpa using g1), g2⟩
      · subst z; cases c5
      · revert hk
        cases mkX ds fs [] stt with
        | ok xs st' => exact fun hk F2 φ2 H2 d gs x y z1 z2 z3 z4 z5 z6 z7 z8 => hk F2 φ2 H2 d gs x y z1 z2 z3 z4 z5 z6 z7 z8
        | ex c st' => exact id
        | bad => exact id
    · cases hc
/-! clauses, with names and without -/
/-- the ends behind a clause's suite: its name is gone -/
def unEnds (oi : Option Nat) (De : Ends) : Ends :=
  match oi with
  | none => De
  | some i => { nx := fun σ' H' => De.nx (σ'.set i none) H', rt := De.rt, bk := fun σ' H' => De.bk (σ'.set i none) H', ct := fun σ' H' => De.ct (σ'.set i none) H' }
def inSlot (oi : Option Nat) (a : Addr) (σ : L2.St) : L2.St :=
  match oi with
  | none => σ
  | some i => σ.set i (some (.ref a))
abbrev Cl := Value × Option Nat × (Addr → Value → Option Addr → TS)
def wMix (K : PySem.W.Frag) (Wo : WX) (De : Ends) : List Cl → WX
  | [] => Wo
  | (c, oi, ts) :: r => fun cls d σ H => ∃ b, PySem.W.exmOne K cls c = some b ∧ (b = true → ∀ a, H a = none → ts a cls d (unEnds oi De) (inSlot oi a σ) H) ∧ (b = false → wMix K Wo De r cls d σ H)
inductive ClsOk (X : Cx) : List ExceptHandler → List Cl → Prop
  | nil : ClsOk X [] []
  | bare {x : Str} {c : Value} {ts : Addr → Value → Option Addr → TS} {s0 : Stmt} {sr : List Stmt} {q1 q2 : Pos} {hds : List ExceptHandler} {l : List Cl} (hc : Names X x c)
      (hsu : ∀ (a : Addr) (oe : Obj) (cls : Value) (d : Option Addr) (pn : List (Addr × Obj)), Zc cls d oe → (∃ vs, oe.data = .fields vs) → PSs (X.suite a ((a, oe) :: pn)) (s0 :: sr) (ts a cls d)) (r : ClsOk X hds l) :
      ClsOk X (.ExceptHandler (some (.Name x q1)) none (s0 :: sr) q2 :: hds) ((c, none, ts) :: l)
  | named {x n : Str} {i : Nat} {c : Value} {ts : Addr → Value → Option Addr → TS} {s0 : Stmt} {sr : List Stmt} {q1 q2 : Pos} {hds : List ExceptHandler} {l : List Cl} (hc : Names X x c) (hi : X.N[i]? = some n) (hln : X.env.kindOf n = some .local)
      (hsu : ∀ (a : Addr) (oe : Obj) (cls : Value) (d : Option Addr) (pn : List (Addr × Obj)), Zc cls d oe → (∃ vs, oe.data = .fields vs) → PSs (X.suite a ((a, oe) :: pn)) (s0 :: sr) (ts a cls d)) (r : ClsOk X hds l) :
      ClsOk X (.ExceptHandler (some (.Name x q1)) (some n) (s0 :: sr) q2 :: hds) ((c, some i, ts) :: l)
section
variable {X : Cx} {body : List Stmt} {h0 : ExceptHandler} {hds : List ExceptHandler} {l : List Cl} {pos : Pos} {tb : WX → TS} {Wo : WX}
theorem ps_try_mix (hstk : X.stack = X.env :: X.outer) (hfrm : X.env.frame = some X.env.locals) (hN : X.N.Nodup) (tk : Takes X Wo)
    (hb : ∀ (W : WX) (pn : List (Addr × Obj)) (xe : Value → Shared → Prop), Takes (X.tr pn xe) W → PassesOwn (model X.prog X.w) X.A X.env xe → PSs (X.tr pn xe) body (tb W))
    (hh : ClsOk X (h0 :: hds) l) : PS X (.Try body (h0 :: hds) [] [] pos) (fun De σ H => tb (wMix X.K Wo De l) De σ H) := by
  refine ⟨fun pins s σ H De I hq0 => ?_⟩
  have okX := I.ok
  have frm : X.A.frames = some (X.env :: X.outer) := by rw [okX.frames, hstk]
  refine wpAny_Try_except ?_
  have hbody := hb (wMix X.K Wo De l) (X.pn ++ pins) (fun ex s₁ => wpAny (model X.prog X.w) X.A (noteFrame ex X.env) (fun _ s₂ => wpAny (model X.prog X.w) X.A (setFlight ex none) (fun _ s₃ => wpAny (model X.prog X.w) X.A (handleBy ex X.env (h0 :: hds)) (SP X pins De) X.xe s₃) X.xe s₂) X.xe s₁) (fun u s' flown => ?_) PassesOwn.looking
  · refine wpAny_mono (hbody.run [] s σ H De (I.toTry _) hq0) (fun fl s1 hfl => ?_) (fun _ _ z => z)
    cases fl with
    | next => exact let ⟨σ', H', J', q⟩ := hfl; wpAny_execs_nil ⟨σ', H', J'.ofTry okX, q⟩
    | brk => exact let ⟨σ', H', J', q⟩ := hfl; ⟨σ', H', J'.ofTry okX, q⟩
    | cont => exact let ⟨σ', H', J', q⟩ := hfl; ⟨σ', H', J'.ofTry okX, q⟩
    | ret u => exact let ⟨v, σ', H', J', rv, q⟩ := hfl; ⟨v, σ', H', J'.ofTry okX, rv, q⟩
  · obtain ⟨a, Bs, sI, pins', σ', H', cls, d, rfl, J0, nb, up, sky, na, eos, ag, want⟩ := flown
    have J : Inv X pins σ' H' sI := J0.ofTry okX
    have sky1 : Sky Bs (X.env :: X.outer) a (Zc cls d) X.env.locals s'.heap := by rw [← hstk]; exact sky
    show wpAny (model X.prog X.w) X.A (noteFrame (.ref a) X.env) _ _ _
    refine Sky.land Zc.steady frm hfrm sky1 fun g3 fly3 up3 => ?_
    have J3 : Inv X pins σ' H' { s' with heap := g3 } := J.landed nb fly3.1 (up.trans up3) eos ag
    obtain ⟨oe3, vs3, eget3, ezc3, edat3⟩ := fly3.there
    have away : ∀ {g : Heap} {ob : Obj} {vs : Array Value}, g.FunFrames Bs (X.env :: X.outer) → g.get? a = some ob → ob.data = .fields vs → a ∉ frs (X.env :: X.outer) := fun {g ob vs} ff e dd hm => by
      obtain ⟨_, ob', e', hnf⟩ := ff.mem hm
      rw [e] at e'
      cases e'
      exact hnf _ dd
    have nfr := away fly3.2.2.1 eget3 edat3
    have nL : a ≠ X.env.locals := fun z => nfr (List.mem_filterMap.mpr ⟨X.env, List.mem_cons_self, by rw [hfrm, z]⟩)
    have nF : a ∉ X.fs := fun hm => by
      obtain ⟨ev, hev, q⟩ := List.mem_filterMap.mp hm
      exact nfr (List.mem_filterMap.mpr ⟨ev, List.mem_cons_of_mem _ hev, q⟩)
    have S3 := J3.suite eget3 edat3 na nL nF
    have test : ∀ {x : Str} {c : Value} {q1 : Pos} {Q : Value → Shared → Prop} {E : Value → Shared → Prop}, Names X x c → Q c { s' with heap := g3 } → wpAny (model X.prog X.w) (X.A.mark (some (.ref a))) (eval (.Name x q1) X.env) Q E { s' with heap := g3 } := fun {x c q1 Q E} hc q => by
      obtain ⟨hg, hdbg, hm | ⟨hm, hv, hnn⟩⟩ := hc
      · exact ld_glob (X := X.suite a ((a, oe3) :: (X.pn ++ pins))) S3 hg hm q hdbg
      · exact ld_blt (X := X.suite a ((a, oe3) :: (X.pn ++ pins))) S3 hg hm hv q hnn hdbg
    have LT : PySem.W.Looks (model X.prog X.w) g3 (typeOf (.ref a)) cls := fun A Q E t k q => wpAny_typeOf_ref (k _ _ eget3) (by rw [ezc3.1]; exact q)
    have go : ∀ {hs2 : List ExceptHandler} {l2 : List Cl}, ClsOk X hs2 l2 → wMix X.K Wo De l2 cls d σ' H' → wpAny (model X.prog X.w) X.A (handleBy (.ref a) X.env hs2) (SP X pins De) X.xe { s' with heap := g3 } := by
      intro hs2 l2 hk
      induction hk with
      | nil =>
        intro wish
        refine wpAny_handleBy_nil ?_
        obtain ⟨k1, k2, k3, oe, vs, T, oT, ts', eg, ez, ed, e1, hr⟩ := id fly3
        unfold PySem.passOn
        refine wpAny_bind (wpAny_field eg ed e1 ?_)
        rw [if_neg (show ¬ ((Value.ref T == Value.none) = true) from by simp)]
        have fin : wpAny (model X.prog X.w) X.A (setFlight (.ref a) X.env.frame) (fun _ s4 => wpAny (model X.prog X.w) X.A (throw (.ref a) : Sem Flow) (SP X pins De) X.xe s4) X.xe { s' with heap := g3 } := by
          rw [hfrm]
          refine HandSPX.setFlight_upZ fly3 fun g4 hh4 up4 => wpAny_throw (tk _ _ ⟨a, Bs, sI, pins, σ', H', cls, d, rfl, J, nb, (up.trans up3).trans up4, .inr (.inr (by rw [hstk]; exact hh4)), na, eos, ag, wish⟩)
        first
          | exact wpAny_bind (wpAny_pure (wpAny_bind fin))
          | exact wpAny_bind fin
      | @bare x c ts s0 sr q1 q2 hs3 l3 hc hsu r ih =>
        intro wish
        obtain ⟨b, hb1, hyes, hno⟩ := wish
        refine wpAny_handleBy_cons (codeAny_handlers_test ?_) (by intro q; cases q)
        refine test hc ((PySem.W.exm_one (M := model X.prog X.w) J3.kIn LT hb1).here ?_)
        cases b with
        | true =>
          refine codeAny_handlers_suite ?_
          refine HandSPX.lands_againZ fly3 fun g4 fly4 up4 => ?_
          have J4 : Inv X pins σ' H' { s' with heap := g4 } := J.landed nb fly4.1 ((up.trans up3).trans up4) eos ag
          obtain ⟨oe4, vs4, eget4, ezc4, edat4⟩ := fly4.there
          refine wpAny_mono ((hsu a oe4 cls d (X.pn ++ pins) ezc4 ⟨_, edat4⟩).run [] _ _ H' _ (J4.suite eget4 edat4 na nL nF) (hyes rfl a na)) (fun fl s6 hfl => ?_) (fun _ _ z => False.elim z)
          cases fl with
          | next => exact let ⟨σ6, H6, S6, q6⟩ := hfl; ⟨σ6, H6, S6.unsuite okX, q6⟩
          | brk => exact let ⟨σ6, H6, S6, q6⟩ := hfl; ⟨σ6, H6, S6.unsuite okX, q6⟩
          | cont => exact let ⟨σ6, H6, S6, q6⟩ := hfl; ⟨σ6, H6, S6.unsuite okX, q6⟩
          | ret u => exact let ⟨v6, σ6, H6, S6, r6, q6⟩ := hfl; ⟨v6, σ6, H6, S6.unsuite okX, r6, q6⟩
        | false =>
          show wpAny _ X.A (handleBy (.ref a) X.env hs3) _ _ _
          exact ih (hno rfl)
      | @named x n i c ts s0 sr q1 q2 hs3 l3 hc hi hln hsu r ih =>
        intro wish
        obtain ⟨b, hb1, hyes, hno⟩ := wish
        refine wpAny_handleBy_cons (codeAny_handlers_test ?_) (by intro q; cases q)
        refine test hc ((PySem.W.exm_one (M := model X.prog X.w) J3.kIn LT hb1).here ?_)
        cases b with
        | true =>
          refine codeAny_handlers_suite_as ?_
          refine HandSPX.lands_againZ fly3 fun g4 fly4 up4 => ?_
          have J4 : Inv X pins σ' H' { s' with heap := g4 } := J.landed nb fly4.1 ((up.trans up3).trans up4) eos ag
          obtain ⟨oe4, vs4, eget4, ezc4, edat4⟩ := fly4.there
          have S4 := J4.suite eget4 edat4 na nL nF
          refine store_ok (X := X.suite a ((a, oe4) :: (X.pn ++ pins))) (v := .ref a) S4 hN hi (.inl hln) rfl (fun s5 S5 => ?_) (.inr hln)
          refine wpAny_mono ((hsu a oe4 cls d (X.pn ++ pins) ezc4 ⟨_, edat4⟩).run [] s5 _ H' _ S5 (hyes rfl a na)) (fun fl s6 hfl => ?_) (fun _ _ z => False.elim z)
          have gone : ∀ {σ6 : L2.St} {H6 : Hp} {Q : Shared → Prop}, Inv (X.suite a ((a, oe4) :: (X.pn ++ pins))) [] σ6 H6 s6 → (∀ s7, Inv X pins (σ6.set i none) H6 s7 → Q s7) →
              wpAny (model X.prog X.w) X.A (do bindName X.env n .none; unbindBehindTheSuite X.env n q2) (fun _ s7 => Q s7) X.xe s6 := fun {σ6 H6 Q} S6 hq => gone_ok (S6.unsuite okX) hN hi hln hq
          cases fl with
          | next => exact let ⟨σ6, H6, S6, q6⟩ := hfl; gone S6 fun s7 J7 => ⟨_, _, J7, q6⟩
          | brk => exact let ⟨σ6, H6, S6, q6⟩ := hfl; gone S6 fun s7 J7 => ⟨_, _, J7, q6⟩
          | cont => exact let ⟨σ6, H6, S6, q6⟩ := hfl; gone S6 fun s7 J7 => ⟨_, _, J7, q6⟩
          | ret u => exact let ⟨v6, σ6, H6, S6, r6, q6⟩ := hfl; gone S6 fun s7 J7 => ⟨_, _, _, J7, r6, q6⟩
        | false =>
          show wpAny _ X.A (handleBy (.ref a) X.env hs3) _ _ _
          exact ih (hno rfl)
    exact go hh want
end
end MP

set_option Elab.async false
set_option linter.all false
set_option autoImplicit false
set_option maxRecDepth 100000
set_option maxHeartbeats 2000000
/-! statements -/
namespace MP
open PySem PySem.Spec PyProof.Rows L2

/-! what a clause's suite says: constants, fields of the exception, displays of such -/
mutual
inductive SE where
  | lit (x : PyData)
  | fld (c f : Str)
  | lst (es : SEs)
  | tup (es : SEs)
inductive SEs where
  | nil
  | cons (e : SE) (r : SEs)
end
/-- the body of a try: nothing is stored ahead of what may raise -/
inductive TB where
  | nil
  | ex (e : ME)
  | set (t : MT) (e : ME)
  | exSet (e : ME) (t : MT) (q : ME)
  | ife (c : ME) (a b : TB)
/-- a clause: which classes it takes, its name's slot, slot = what -/
structure Hd where
  tb : List (Str × Bool)
  oi : Option Nat
  j : Nat
  e : SE
mutual
inductive MS where
  | setFld (o : ME) (f : Str) (cs : List Str) (e : ME)
  | raise (c : Str) (np : Nat) (fs : List (Str × FE)) (es : MEs)
  | tryS (b : TB) (hs : List Hd)
  | whl (n : Nat) (c : ME) (b : MSs)
  | set (t : MT) (e : ME)
  | setLc (i : Nat) (e : ME)
  | setIx (o i v : ME)
  | app (o e : ME)
  | ex (e : ME)
  | ret (e : ME)
  | retN
  | ife (c : ME) (a b : MSs)
  | loop (t : MT) (it : MI) (b : MSs)
  | pass
  | brk
  | cont
inductive MSs where
  | nil
  | cons (s : MS) (r : MSs)
end

/-! ### meaning -/
def thenR (r : R Fl) (k : Env → Store → R Fl) : R Fl :=
  match r with
  | .ok (.nx env) st => k env st
  | r => r
@[simp] theorem thenR_nx (env : Env) (st : Store) (k : Env → Store → R Fl) : thenR (.ok (.nx env) st) k = k env st := rfl
@[simp] theorem thenR_rt (d : D) (st : Store) (k : Env → Store → R Fl) : thenR (.ok (.rt d) st) k = .ok (.rt d) st := rfl
@[simp] theorem thenR_bk (env : Env) (st : Store) (k : Env → Store → R Fl) : thenR (.ok (.bk env) st) k = .ok (.bk env) st := rfl
@[simp] theorem thenR_ct (env : Env) (st : Store) (k : Env → Store → R Fl) : thenR (.ok (.ct env) st) k = .ok (.ct env) st := rfl
@[simp] theorem thenR_ex (e : Exc) (st : Store) (k : Env → Store → R Fl) : thenR (.ex e st) k = .ex e st := rfl
@[simp] theorem thenR_bad (k : Env → Store → R Fl) : thenR .bad k = .bad := rfl
/-- the turns of a loop -/
def nextR (r : R Fl) (k : Env → Store → R Fl) : R Fl :=
  match r with
  | .ok (.nx env) st => k env st
  | .ok (.ct env) st => k env st
  | .ok (.bk env) st => .ok (.nx env) st
  | r => r
@[simp] theorem nextR_nx (env : Env) (st : Store) (k : Env → Store → R Fl) : nextR (.ok (.nx env) st) k = k env st := rfl
@[simp] theorem nextR_ct (env : Env) (st : Store) (k : Env → Store → R Fl) : nextR (.ok (.ct env) st) k = k env st := rfl
@[simp] theorem nextR_rt (d : D) (st : Store) (k : Env → Store → R Fl) : nextR (.ok (.rt d) st) k = .ok (.rt d) st := rfl
@[simp] theorem nextR_bk (env : Env) (st : Store) (k : Env → Store → R Fl) : nextR (.ok (.bk env) st) k = .ok (.nx env) st := rfl
@[simp] theorem nextR_ex (e : Exc) (st : Store) (k : Env → Store → R Fl) : nextR (.ex e st) k = .ex e st := rfl
@[simp] theorem nextR_bad (k : Env → Store → R Fl) : nextR .bad k = .bad := rfl
open Classical in
noncomputable def forL (gd : Store → Prop) (tg : MT) (body : Env → Store → R Fl) : List Itm → Env → Store → R Fl
  | [], env, st => if gd st then .ok (.nx env) st else .bad
  | it :: r, env, st => if gd st then match bindI st tg it env with
      | none => .bad
      | some env1 => nextR (body env1 st) (forL gd tg body r)
    else .bad
def setIxD (o i x : D) (env : Env) (st : Store) : R Fl :=
  match o with
  | .c n => match st[n]? with
    | some (.lst ds) => match i with
      | .p (.int k) => match ixN ds.length k with
        | some j => .ok (.nx env) (st.set n (.lst (ds.set j x)))
        | none => .bad
      | _ => .bad
    | some (.dct kvs) => match keyOf i with
      | some k => if kvs.length < SZ then .ok (.nx env) (st.set n (.dct (putD kvs k x))) else .bad
      | none => .bad
    | some (.dtt kvs) => match keyT i with
      | some k => if kvs.length < SZ then .ok (.nx env) (st.set n (.dtt (putD kvs k x))) else .bad
      | none => .bad
    | _ => .bad
  | _ => .bad
def putFD (f : Str) (x : D) : List (Str × D) → List (Str × D)
  | [] => [(f, x)]
  | (g, y) :: r => if g = f then (g, x) :: r else (g, y) :: putFD f x r
def setFldD (f : Str) (cs : List Str) (o x : D) (env : Env) (st : Store) : R Fl :=
  match insOf o st with
  | some (n, c, fs) => if fs.length < 100 ∧ cs.contains c = true then .ok (.nx env) (st.set n (.ins c (putFD f x fs))) else .bad
  | none => .bad
mutual
def seE (x : Exc) : SE → Store → R D
  | .lit v, st => .ok (.p v) st
  | .fld c f, st => if x.cls = c then match x.fs.lookup f with
    | some d => .ok d st
    | none => .bad
    else .bad
  | .lst es, st => (seEs x es st).bind fun ds st => if ds.length ≤ SZ then mkL false ds st else .bad
  | .tup es, st => (seEs x es st).bind fun ds st => if ds.length ≤ SZ then mkT ds st else .bad
def seEs (x : Exc) : SEs → Store → R (List D)
  | .nil, st => .ok [] st
  | .cons e r, st => (seE x e st).bind fun d st => (seEs x r st).bind fun ds st => .ok (d :: ds) st
end
def outE (oi : Option Nat) (env : Env) : Env :=
  match oi with
  | none => env
  | some i => env.set i none
def hdOk (oi : Option Nat) (env : Env) : Bool :=
  match oi with
  | none => true
  | some i => decide (i < env.length)
def hdL : List Hd → Exc → Env → Store → R Fl
  | [], x, _, st => .ex x st
  | h :: r, x, env, st => match valN h.tb x.cls with
    | none => .bad
    | some false => hdL r x env st
    | some true => if hdOk h.oi env = true then (noEx (seE x h.e st)).bind fun d st => .ok (.nx (outE h.oi ((outE h.oi env).set h.j (some d)))) st else .bad
def catchR (r : R Fl) (k : Exc → Store → R Fl) : R Fl :=
  match r with
  | .ex x st => k x st
  | r => r
noncomputable def tbv (G : Sem1) : TB → Env → Store → R Fl
  | .nil, env, st => .ok (.nx env) st
  | .ex e, env, st => (ev G e env st).bind fun _ st => .ok (.nx env) st
  | .set t e, env, st => (ev G e env st).bind fun d st => match bindD st t d env with
    | some env => .ok (.nx env) st
    | none => .bad
  | .exSet e t q, env, st => (ev G e env st).bind fun _ st => (noEx (ev G q env st)).bind fun d st => match bindD st t d env with
    | some env => .ok (.nx env) st
    | none => .bad
  | .ife c a b, env, st => (truR (ev G c env st)).bind fun k st => if k = true then tbv G a env st else tbv G b env st
/-- the turns of a while, at most n -/
def whlL (c : Env → Store → R Bool) (body : Env → Store → R Fl) : Nat → Env → Store → R Fl
  | 0, _, _ => .bad
  | n + 1, env, st => (c env st).bind fun k st => if k = true then nextR (body env st) (whlL c body n) else .ok (.nx env) st
mutual
noncomputable def sv (G : Sem1) : MS → Env → Store → R Fl
  | .set t e, env, st => (ev G e env st).bind fun d st => match bindD st t d env with
    | some env => .ok (.nx env) st
    | none => .bad
  | .setLc i e, env, st => (ev G e env st).bind fun d st => .ok (.nx (env.set i (some d))) st
  | .setIx o i v, env, st => (ev G v env st).bind fun x st => (ev G o env st).bind fun o st => (ev G i env st).bind fun i st => setIxD o i x env st
  | .app o e, env, st => (ev G o env st).bind fun o st => match o with
    | .c n => match cellL st n with
      | some _ => (ev G e env st).bind fun x st => match cellL st n with
        | some ds => if ds.length < SZ then .ok (.nx env) (st.set n (.lst (ds ++ [x]))) else .bad
        | none => .bad
      | none => .bad
    | _ => .bad
  | .setFld o f cs e, env, st => (ev G e env st).bind fun x st => (ev G o env st).bind fun o st => setFldD f cs o x env st
  | .raise c np fs es, env, st => (evs G es env st).bind fun ds st => if ds.length = np then (mkX ds fs [] st).bind fun xs st => .ex ⟨c, xs⟩ st else .bad
  | .tryS b hs, env, st => catchR (tbv G b env st) fun x st => hdL hs x env st
  | .whl n c b, env, st => whlL (fun env st => truR (ev G c env st)) (svs G b) n env st
  | .ex e, env, st => (ev G e env st).bind fun _ st => .ok (.nx env) st
  | .ret e, env, st => (ev G e env st).bind fun d st => .ok (.rt d) st
  | .retN, env, st => .ok (.rt (.p .none)) st
  | .ife c a b, env, st => (truR (ev G c env st)).bind fun k st => if k = true then svs G a env st else svs G b env st
  | .loop t it b, env, st => (evi G it env st).bind fun p st => forL p.2 t (svs G b) p.1 env st
  | .pass, env, st => .ok (.nx env) st
  | .brk, env, st => .ok (.bk env) st
  | .cont, env, st => .ok (.ct env) st
noncomputable def svs (G : Sem1) : MSs → Env → Store → R Fl
  | .nil, env, st => .ok (.nx env) st
  | .cons s r, env, st => thenR (sv G s env st) (svs G r)
end

/-! ### the text -/
def isLc : Expr → Bool
  | .ListComp .. => true
  | .SetComp .. => true
  | .DictComp .. => true
  | _ => false
/-- the exchange of stores of a tuple display does not come in -/
def noSwap (t e : Expr) : Bool :=
  match t, e with
  | .Tuple .., .Tuple .. => false
  | .List .., .Tuple .. => false
  | _, _ => true
def isText1 : MEs → Bool
  | .cons (.lit (.str _)) .nil => true
  | _ => false
mutual
def chkSE (C : Ctx) (hc : Str) (oi : Option Nat) : SE → Expr → Bool
  | .lit v, py => match py with
    | .Constant c _ _ => litC c v
    | _ => false
  | .fld c f, py => match py with
    | .Attribute (.Name n _) g _ => decide (c = hc) && decide (f = g) && C.xfld.contains (hc, f) && (match oi with | some i => C.slot i n && C.isVis n | none => false)
    | _ => false
  | .lst es, py => match py with
    | .List xs _ => chkSEs C hc oi es xs
    | _ => false
  | .tup es, py => match py with
    | .Tuple xs _ _ => chkSEs C hc oi es xs
    | _ => false
def chkSEs (C : Ctx) (hc : Str) (oi : Option Nat) : SEs → List Expr → Bool
  | .nil, [] => true
  | .cons e r, x :: xs => notStar x && chkSE C hc oi e x && chkSEs C hc oi r xs
  | _, _ => false
end
def chkTab (C : Ctx) (hc : Str) (tb : List (Str × Bool)) : Bool := tb.all fun q => C.xtab.contains ((q.1, hc), q.2)
def chkHd (C : Ctx) (h : Hd) : ExceptHandler → Bool
  | .ExceptHandler (some (.Name x _)) n [.Assign [.Name y _] v _] _ => C.isGl x && C.hcs.contains x && chkTab C x h.tb && chkSE C x h.oi h.e v && C.slot h.j y && decide (C.sc.names.lookup y = some .local) &&
      (match n, h.oi with
        | none, none => true
        | some m, some i => C.slot i m && decide (C.sc.names.lookup m = some .local)
        | _, _ => false)
  | _ => false
def chkHds (C : Ctx) : List Hd → List ExceptHandler → Bool
  | [], [] => true
  | h :: r, x :: xs => chkHd C h x && chkHds C r xs
  | _, _ => false
def chkTB (C : Ctx) : TB → List Stmt → Bool
  | .nil, py => py.isEmpty
  | .ex e, py => match py with
    | [.Expr x _] => !isLc x && chk C e x
    | _ => false
  | .set t e, py => match py with
    | [.Assign [tg] x _] => !isLc x && noSwap tg x && notStar tg && chkT C t tg && chk C e x
    | _ => false
  | .exSet e t q, py => match py with
    | [.Expr x _, .Assign [tg] y _] => !isLc x && chk C e x && !isLc y && noSwap tg y && notStar tg && chkT C t tg && chk { C with tr := false } q y
    | _ => false
  | .ife c a b, py => match py with
    | [.If t x y _] => chk C c t && chkTB C a x && chkTB C b y
    | _ => false
mutual
def chkS (C : Ctx) : MS → Stmt → Bool
  | .set t e, py => match py with
    | .Assign [tg] x _ => !isLc x && noSwap tg x && notStar tg && chkT C t tg && chk C e x
    | _ => false
  | .setLc i e, py => match py with
    | .Assign [.Name y q] (.ListComp elt gs scope pos) sp => C.slot i y && decide (C.sc.names.lookup y = some .local) && (q.line == pos.line) &&
        !(scope.names.any fun p => p.1 == y && (p.2 == .local || p.2 == .cell)) && (match e with | .lc .. => true | _ => false) && chk C e (.ListComp elt gs scope pos)
    | _ => false
  | .setIx o i v, py => match py with
    | .Assign [.Subscript a b _] x _ => !isLc x && notSlice b && chk C o a && chk C i b && chk C v x
    | _ => false
  | .setFld o f cs e, py => match py with
    | .Assign [.Attribute a g _] x _ => decide (f = g) && !isLc x && cs.all (fun c => C.clsF.contains (c, f)) && chk C o a && chk C e x
    | _ => false
  | .raise c np fs es, py => match py with
    | .Raise (some (.Call (.Name x _) (y :: ys) [] _)) none _ => C.isGl x && decide (c = x) && C.xcls.any (fun q => q.1 == c && q.2.1 == np && fesEq fs q.2.2) && (!fs.isEmpty || isText1 es) && decide (np ≤ 100) && chks C es (y :: ys)
    | _ => false
  | .tryS b hs, py => match py with
    | .Try body (h :: hds) [] [] _ => chkTB { C with tr := true } b body && chkHds C hs (h :: hds)
    | _ => false
  | .whl _ c b, py => match py with
    | .While t x [] _ => chk C c t && chkSs C b x
    | _ => false
  | .app o e, py => match py with
    | .Expr (.Call (.Attribute a m q) [b] [] p) _ => decide (m = ("append" : Str)) && (q.endLine == p.line) && notSuper a && notStar b && chk C o a && chk C e b
    | _ => false
  | .ex e, py => match py with
    | .Expr x _ => !isLc x && chk C e x
    | _ => false
  | .ret e, py => match py with
    | .Return (some x) _ => chk C e x
    | _ => false
  | .retN, py => match py with
    | .Return none _ => true
    | _ => false
  | .ife c a b, py => match py with
    | .If t x y _ => chk C c t && chkSs C a x && chkSs C b y
    | _ => false
  | .loop t it b, py => match py with
    | .For tg i x [] _ => chkT C t tg && chki C it i tg && chkSs C b x
    | _ => false
  | .pass, py => match py with
    | .Pass _ => true
    | _ => false
  | .brk, py => match py with
    | .Break _ => true
    | _ => false
  | .cont, py => match py with
    | .Continue _ => true
    | _ => false
def chkSs (C : Ctx) : MSs → List Stmt → Bool
  | .nil, [] => true
  | .cons s r, x :: xs => chkS C s x && chkSs C r xs
  | _, _ => false
end

/-! ### right -/
section
variable {G : Sem1} {XR : XRT} {X : Cx} {C : Ctx} {E : XK}
structure WFS (X : Cx) (C : Ctx) (G : Sem1) (XR : XRT) (E : XK) : Prop where
  wf : WF X C G XR (fun _ => E)
  po : PassesOwn (model X.prog X.w) X.A X.env X.xe
  kind : X.env.scope.kind = .function
  xr : XR = XRel X.K
  tk : Takes X fun cls d _ H => E cls d H
  stk : X.stack = X.env :: X.outer
  frm : X.env.frame = some X.env.locals
theorem sw_no {e : Expr} (h : isLc e = false) (t : Option Expr) (l : Nat) (env : PySem.Env) : swapsWith e t l env = pure false := by
  cases e <;> first | rfl | cases h
theorem sw1_no {e t : Expr} (h : isLc e = false) (l : Nat) (env : PySem.Env) : swapsWithSole [t] e l env = pure false := sw_no h _ _ _
theorem noSwap_of {t e : Expr} (h : noSwap t e = true) (env : PySem.Env) : swappedStores [t] e env = pure none := by
  cases t with
  | Tuple a b c => cases e <;> first | rfl | cases h
  | List a b => cases e <;> first | rfl | cases h
  | _ => rfl
theorem oks_nil : PSs X [] (rS X.K XR (fun _ => E) (svs G .nil)) := PSs.imp pss_nil fun De σ H hq => by
  obtain ⟨env, st, F, φ, S, r, hq⟩ := hq
  simp only [svs] at hq
  exact hq.ok S σ r
theorem sat_then {r : R Fl} {k : Env → Store → R Fl} {F : Hp} {φ : List Addr} {De : Ends} {σ : L2.St} (h : Sat X.K XR E (QS X.K De) F φ (thenR r k)) : Sat X.K XR E (QS X.K { De with nx := rS X.K XR (fun _ => E) k De }) F φ r := by
  cases r with
  | bad => exact h.elim
  | ex c st => exact h
  | ok f st =>
    cases f with
    | nx env => exact fun F' φ' H' x S σ' r' => ⟨env, st, F', φ', S, r', Sat.ext x h⟩
    | rt d => exact h
    | bk env => exact h
    | ct env => exact h
theorem oks_cons {s : MS} {r : MSs} {x : Stmt} {xs : List Stmt} (h1 : PS X x (rS X.K XR (fun _ => E) (sv G s))) (h2 : PSs X xs (rS X.K XR (fun _ => E) (svs G r))) : PSs X (x :: xs) (rS X.K XR (fun _ => E) (svs G (.cons s r))) := PSs.imp (pss_cons h1 h2) fun De σ H hq => by
  obtain ⟨env, st, F, φ, S, rr, hq⟩ := hq
  simp only [svs] at hq
  exact ⟨env, st, F, φ, S, rr, sat_then (σ := σ) hq⟩
theorem oks_set (w : WFS X C G XR E) {t : MT} {e : ME} {tg x : Expr} {pos : Pos} (hl : isLc x = false) (hn : noSwap tg x = true) (hst : notStar tg = true) (ht : chkT C t tg = true) (he : OkP X XR (fun _ => E) x (ev G e)) : PS X (.Assign [tg] x pos) (rS X.K XR (fun _ => E) (sv G (.set t e))) := by
  have hb : C.fnC = true ∨ C.fnC = false := by cases C.fnC <;> simp
  have h1 : (assignEach [tg] X.env).map (·.2) = [assign tg X.env] := by cases tg <;> first | rfl | cases hst
  refine PS.imp (ps_asg he.pe (ok_tg w.wf hb ht) (sw1_no hl _ _) (noSwap_of hn _) h1) fun De σ H hq => ?_
  obtain ⟨env, st, F, φ, S, r, hq⟩ := hq
  simp only [sv] at hq
  refine ⟨env, st, F, φ, S, r, Sat.bind hq fun d st1 F1 φ1 H1 e1 S1 h1 v rv => ?_⟩
  split at h1
  · rename_i env' eb
    exact ⟨env, st1, F1, φ1, d, S1, r.mono e1, rv, env', eb, fun σ' r' _ => h1.ok S1 σ' r'⟩
  · exact h1.elim
theorem set_any (hu : X.A.units + 1 < cLine) : PSet X (fun o i v H Q => rSetL o i v H Q ∨ rSetD o i v H Q) := by
  intro pins s σ H o i v ov iv u Q I ro ri rv h
  rcases h with h | h
  · exact set_list pins s σ H o i v ov iv u Q I ro ri rv h
  · exact set_dict hu pins s σ H o i v ov iv u Q I ro ri rv h
theorem oks_setIx {o i v : ME} {a b x : Expr} {p pos : Pos} (hu : X.A.units + 1 < cLine) (hl : isLc x = false) (hb : notSlice b = true) (ho : OkP X XR (fun _ => E) a (ev G o)) (hi : OkP X XR (fun _ => E) b (ev G i)) (hv : OkP X XR (fun _ => E) x (ev G v)) : PS X (.Assign [.Subscript a b p] x pos) (rS X.K XR (fun _ => E) (sv G (.setIx o i v))) := by
  have ha : ∀ u, assign (.Subscript a b p) X.env u = (do
      let ov ← holding [u] (eval a X.env)
      let iv ← holding [u, ov] (eval b X.env)
      standAt p
      holding [u, ov, iv] (setItem ov iv u)
      release [u, ov, iv] []) := by
    intro u
    cases b <;> first | rfl | cases hb
  refine PS.imp (ps_asg hv.pe (pg_sub ho.pe hi.pe (set_any hu) ha) (sw1_no hl _ _) (by cases x <;> rfl) rfl) fun De σ H hq => ?_
  obtain ⟨env, st, F, φ, S, r, hq⟩ := hq
  simp only [sv] at hq
  refine ⟨env, st, F, φ, S, r, Sat.bind hq fun d st1 F1 φ1 H1 e1 S1 h1 w rw => ⟨env, st1, F1, φ1, S1, r.mono e1, Sat.bind h1 fun d2 st2 F2 φ2 H2 e2 S2 h2 w2 rw2 => ⟨env, st2, F2, φ2, S2, (r.mono e1).mono e2, Sat.bind h2 fun d3 st3 F3 φ3 H3 e3 S3 h3 w3 rw3 => ?_⟩⟩⟩
  have rw' := (rw.mono e2).mono e3
  have rr := ((r.mono e1).mono e2).mono e3
  unfold setIxD at h3
  split at h3
  · rename_i n
    obtain ⟨l, c1, rfl⟩ := rw2.mono e3
    split at h3
    · rename_i ds hc
      split at h3
      · rename_i k
        split at h3
        · rename_i j hj
          obtain ⟨l', vs, c2, c3, c4, c5⟩ := S3.cell n ds hc
          rw [c1] at c2
          cases Option.some.inj c2
          refine .inl ⟨l, vs, k, j, rfl, rw3.int, c4, by rw [rds_length c5]; exact hj, ?_⟩
          exact h3 F3 φ3 _ Ext.refl (S3.write hc c1 (rds_set rw' j c5)) σ rr
        · exact h3.elim
      · exact h3.elim
    · rename_i kvs hc
      split at h3
      · rename_i k ek
        split at h3
        · rename_i hz
          obtain ⟨l', ws, c2, c3, c4, c5⟩ := S3.dcell n kvs hc
          rw [c1] at c2
          cases Option.some.inj c2
          rw [keyOf_ok rw3 ek]
          refine .inr ⟨l, _, rfl, .k c4 (by rw [rks_length c5]; exact Nat.lt_of_lt_of_le hz (sz_ok (Nat.le_refl _))), ?_⟩
          exact h3 F3 φ3 _ Ext.refl (S3.writeC hc (fun z => nomatch z) c1 (.dct (rks_put rw' c5)) (fun z => nomatch z)) σ rr
        · exact h3.elim
      · exact h3.elim
    · rename_i kvs hc
      split at h3
      · rename_i k ek
        split at h3
        · rename_i hz
          obtain ⟨l', ws, c2, c3, c4, c5⟩ := S3.ttcell n kvs hc
          rw [c1] at c2
          cases Option.some.inj c2
          obtain ⟨b, rfl, hb⟩ := keyT_ok rw3 ek
          refine .inr ⟨l, _, rfl, .t c4 (S3.sub _ _ hb) (by rw [rks_length c5]; exact Nat.lt_of_lt_of_le hz (sz_ok (Nat.le_refl _))), ?_⟩
          exact h3 F3 φ3 _ Ext.refl (S3.writeC hc (fun z => nomatch z) c1 (.dtt (rks_put rw' c5)) (fun z => nomatch z)) σ rr
        · exact h3.elim
      · exact h3.elim
    · exact h3.elim
  · exact h3.elim
theorem oks_app {o e : ME} {a b : Expr} {m : Str} {q p pos : Pos} (hm : m = ("append" : Str)) (hl : (q.endLine == p.line) = true) (hsu : notSuper a = true) (hn : notStar b = true) (ho : OkP X XR (fun _ => E) a (ev G o)) (he : OkP X XR (fun _ => E) b (ev G e)) : PS X (.Expr (.Call (.Attribute a m q) [b] [] p) pos) (rS X.K XR (fun _ => E) (sv G (.app o e))) := by
  subst hm
  refine PS.imp (ps_expr (pe_bm PySem.F.plainAttrs_list PySem.F.slot_list_append PySem.F.type_list_append mt_append ho.pe (pa_cons he.pe pa_nil (star1 hn)) (base_of hsu) (by rw [star1 hn]; rfl) hl (star1 hn) rfl) (sw_no rfl _ _ _)) fun De σ H hq => ?_
  obtain ⟨env, st, F, φ, S, r, hq⟩ := hq
  simp only [sv] at hq
  refine ⟨env, st, F, φ, S, r, Sat.bind hq fun d st1 F1 φ1 H1 e1 S1 h1 v rv => ?_⟩
  split at h1
  · rename_i n
    split at h1
    · rename_i ds0 hc0
      obtain ⟨l, c1, rfl⟩ := rv
      obtain ⟨l', vs, c2, c3, c4, c5⟩ := S1.cell n _ (cellL_some hc0)
      rw [c1] at c2
      cases Option.some.inj c2
      refine ⟨.inl ⟨rfl, vs, Evl.sq_of c4⟩, env, st1, F1, φ1, S1, r.mono e1, Sat.bind h1 fun d2 st2 F2 φ2 H2 e2 S2 h2 w2 rw2 => ?_⟩
      split at h2
      · rename_i ds hc
        split at h2
        · rename_i hz
          have k1 := e2.at c1
          obtain ⟨l', vs, c2, c3, c4, c5⟩ := S2.cell n ds (cellL_some hc)
          rw [k1] at c2
          cases Option.some.inj c2
          refine ⟨l, vs, w2, rfl, rfl, c4, by rw [rds_length c5]; exact Nat.lt_of_lt_of_le hz (sz_ok (Nat.le_refl _)), ?_⟩
          exact h2 F2 φ2 _ Ext.refl (S2.write (cellL_some hc) k1 (rds_append c5 (.cons rw2 .nil))) σ ((r.mono e1).mono e2)
        · exact h2.elim
      · exact h2.elim
    · exact h1.elim
  · exact h1.elim
theorem oks_ex {e : ME} {x : Expr} {pos : Pos} (hl : isLc x = false) (he : OkP X XR (fun _ => E) x (ev G e)) : PS X (.Expr x pos) (rS X.K XR (fun _ => E) (sv G (.ex e))) := by
  refine PS.imp (ps_expr he.pe (sw_no hl _ _ _)) fun De σ H hq => ?_
  obtain ⟨env, st, F, φ, S, r, hq⟩ := hq
  simp only [sv] at hq
  exact ⟨env, st, F, φ, S, r, Sat.bind hq fun d st1 F1 φ1 H1 e1 S1 h1 v rv => h1.ok S1 σ (r.mono e1)⟩
theorem oks_ret {e : ME} {x : Expr} {pos : Pos} (he : OkP X XR (fun _ => E) x (ev G e)) : PS X (.Return (some x) pos) (rS X.K XR (fun _ => E) (sv G (.ret e))) := by
  refine PS.imp (ps_ret he.pe) fun De σ H hq => ?_
  obtain ⟨env, st, F, φ, S, r, hq⟩ := hq
  simp only [sv] at hq
  exact ⟨env, st, F, φ, S, r, Sat.bind hq fun d st1 F1 φ1 H1 e1 S1 h1 v rv => h1.ok S1 v rv⟩
theorem oks_retN {pos : Pos} : PS X (.Return none pos) (rS X.K XR (fun _ => E) (sv G .retN)) := by
  refine PS.imp ps_retN fun De σ H hq => ?_
  obtain ⟨env, st, F, φ, S, r, hq⟩ := hq
  simp only [sv] at hq
  exact hq.ok S .non rd_non
theorem oks_pass {pos : Pos} : PS X (.Pass pos) (rS X.K XR (fun _ => E) (sv G .pass)) := by
  refine PS.imp ps_pass fun De σ H hq => ?_
  obtain ⟨env, st, F, φ, S, r, hq⟩ := hq
  simp only [sv] at hq
  exact hq.ok S σ r
theorem oks_brk {pos : Pos} : PS X (.Break pos) (rS X.K XR (fun _ => E) (sv G .brk)) := by
  refine PS.imp ps_break fun De σ H hq => ?_
  obtain ⟨env, st, F, φ, S, r, hq⟩ := hq
  simp only [sv] at hq
  exact hq.ok S σ r
theorem oks_cont {pos : Pos} : PS X (.Continue pos) (rS X.K XR (fun _ => E) (sv G .cont)) := by
  refine PS.imp ps_continue fun De σ H hq => ?_
  obtain ⟨env, st, F, φ, S, r, hq⟩ := hq
  simp only [sv] at hq
  exact hq.ok S σ r
theorem oks_ife {c : ME} {a b : MSs} {t : Expr} {x y : List Stmt} {pos : Pos} (hc : OkP X XR (fun _ => E) t (ev G c)) (ha : PSs X x (rS X.K XR (fun _ => E) (svs G a))) (hb : PSs X y (rS X.K XR (fun _ => E) (svs G b))) : PS X (.If t x y pos) (rS X.K XR (fun _ => E) (sv G (.ife c a b))) := by
  refine PS.imp (ps_if hc.pt ha hb) fun De σ H hq => ?_
  obtain ⟨env, st, F, φ, S, r, hq⟩ := hq
  simp only [sv] at hq
  refine ⟨env, st, F, φ, S, r, Sat.bind hq fun k st1 F1 φ1 H1 e1 S1 h1 => ?_⟩
  cases k with
  | true => exact ⟨env, st1, F1, φ1, S1, r.mono e1, h1⟩
  | false => exact ⟨env, st1, F1, φ1, S1, r.mono e1, h1⟩
theorem sat_next {r : R Fl} {k : Env → Store → R Fl} {F0 F : Hp} {φ0 φ : List Addr} {De : Ends} {P : L2.St → Hp → Prop} (x : Ext F0 φ0 F φ) (h : Sat X.K XR E (QS X.K De) F0 φ0 (nextR r k))
    (hP : ∀ env st F' φ' σ' H', Ext F φ F' φ' → SR X.K F' φ' st H' → ER X.K F' φ' env σ' → Sat X.K XR E (QS X.K De) F0 φ0 (k env st) → P σ' H') :
    Sat X.K XR E (QS X.K { De with nx := P, ct := P, bk := De.nx }) F φ r := by
  cases r with
  | bad => exact h.elim
  | ex c st => exact Sat.ext (r := R.ex c st) x h
  | ok f st =>
    cases f with
    | nx env => exact fun F' φ' H' y S σ' r' => hP env st F' φ' σ' H' y S r' h
    | ct env => exact fun F' φ' H' y S σ' r' => hP env st F' φ' σ' H' y S r' h
    | rt d => exact Sat.ext (r := R.ok (Fl.rt d) st) x h
    | bk env => exact fun F' φ' H' y S σ' r' => h F' φ' H' (x.trans y) S σ' r'
theorem oks_loop (w : WFS X C G XR E) {t : MT} {it : MI} {b : MSs} {tg i : Expr} {x : List Stmt} {pos : Pos} (ht : chkT C t tg = true) (hi : chki C it i tg = true) (hb : PSs X x (rS X.K XR (fun _ => E) (svs G b))) : PS X (.For tg i x [] pos) (rS X.K XR (fun _ => E) (sv G (.loop t it b))) := by
  refine PS.imp (ps_for w.po w.wf.calm (sndi it w.wf hi) (ok_tgI w.wf ht) hb (chki_folded hi X.env)) fun De σ H hq => ?_
  obtain ⟨env, st, F, φ, S, r, hq⟩ := hq
  simp only [sv] at hq
  refine ⟨env, st, F, φ, S, r, Sat.bind hq fun p st1 F1 φ1 H1 e1 S1 h1 J hJ => ?_⟩
  obtain ⟨Gd, Y, hw, hG, hY⟩ := hJ
  refine for_it hw (fun j σ' H' => ∃ F' φ' st' env', Ext F1 φ1 F' φ' ∧ SR X.K F' φ' st' H' ∧ ER X.K F' φ' env' σ' ∧ Sat X.K XR E (QS X.K De) F1 φ1 (forL p.2 t (svs G b) (p.1.drop j) env' st'))
    ⟨F1, φ1, st1, env, Ext.refl, S1, r.mono e1, by rw [List.drop_zero]; exact h1⟩ (fun j σ' H' hj ⟨F', φ', st', env', e', S', r', h'⟩ => ?_) (fun j z σ' H' H'' hj ⟨F', φ', st', env', e', S', r', h'⟩ hy => ?_) (fun σ' H' ⟨F', φ', st', env', e', S', r', h'⟩ => ?_)
  · refine hG F' φ' st' H' e' S' ?_
    cases hd : p.1.drop j with
    | nil =>
      rw [hd] at h'
      unfold forL at h'
      split at h'
      · assumption
      · exact h'.elim
    | cons a b =>
      rw [hd] at h'
      unfold forL at h'
      split at h'
      · assumption
      · exact h'.elim
  · have hdr : p.1.drop j = p.1[j] :: p.1.drop (j + 1) := List.drop_eq_getElem_cons hj
    rw [hdr] at h'
    unfold forL at h'
    split at h'
    · rename_i hg
      split at h'
      · exact h'.elim
      · rename_i env1 hbd
        obtain ⟨F3, e3, S3, itm, hit, rit⟩ := hY F' φ' st' H' j z H'' e' S' hg hj hy
        rw [List.getElem?_eq_getElem hj] at hit
        cases Option.some.inj hit
        refine ⟨env', st', F3, φ', p.1[j], S3, r'.mono e3, rit, env1, hbd, fun σ2 r2 o2 => ⟨env1, st', F3, φ', S3, r2, sat_next (e'.trans e3) h' fun env5 st5 F5 φ5 σ5 H5 e5 S5 r5 h5 => ?_⟩⟩
        exact ⟨F5, φ5, st5, env5, (e'.trans e3).trans e5, S5, r5, h5⟩
    · exact h'.elim
  · rw [List.drop_length] at h'
    unfold forL at h'
    split at h'
    · exact h' F' φ' H' e' S' σ' r'
    · exact h'.elim

theorem oks_setLc (w : WFS X C G XR E) {i : Nat} {e : ME} {y : Str} {q : Pos} {elt : Expr} {gs : List Comprehension} {scope : Scope} {pos sp : Pos}
    (hs : C.slot i y = true) (hy : C.sc.names.lookup y = some .local) (hl : (q.line == pos.line) = true) (ha : (scope.names.any fun p => p.1 == y && (p.2 == .local || p.2 == .cell)) = false) (he : (match e with | .lc .. => true | _ => false) = true)
    (hc : chk C e (.ListComp elt gs scope pos) = true) : PS X (.Assign [.Name y q] (.ListComp elt gs scope pos) sp) (rS X.K XR (fun _ => E) (sv G (.setLc i e))) := by
  cases e with
  | lc c own tg it cond el =>
    unfold chk at hc
    split at hc
    · rename_i x t i' ifs sc' pos' heq
      cases heq
      simp only [Bool.and_eq_true] at hc
      obtain ⟨⟨h1, h2⟩, ⟨⟨h3, h4⟩, h5⟩, h6⟩ := hc
      have hb := blkOk_by h1
      rw [← w.wf.N, ← w.wf.sc] at hb
      have hyl : X.env.scope.names.lookup y = some .local := by rw [w.wf.sc]; exact hy
      obtain ⟨_, hN⟩ := slot_of hs
      refine PS.imp (ps_setLc (i := i) (g := gI X.K tg) (tt := rT X.K XR (fun _ => E0) fun env st => truR (evc G cond env st)) (te := rE X.K XR (fun _ => E0) (ev G el)) w.wf.calm w.wf.nd (by rw [w.wf.N]; exact hN) hyl (sw_true w.kind hyl hl ha) (sndi it w.wf h4) hb
        (fun s H Ca cl fp => ok_tgI (w.wf.blk s H _ cl Ca fp) h3) (fun s H Ca cl fp => sndc cond (w.wf.blk s H _ cl Ca fp) h5) (fun s H Ca cl fp => (snd el (w.wf.blk s H _ cl Ca fp) h6).pe) (chki_folded h4 X.env)) fun De σ H hq => ?_
      rw [w.wf.N, own_map]
      refine lc_sat (c := c) (iter := default) (t := default) (x := default) (ifs := []) (fun j hj => by simpa using List.all_eq_true.mp h2 j hj) ?_
      obtain ⟨env, st, F, φ, S, r, hq⟩ := hq
      simp only [sv] at hq
      exact ⟨env, st, F, φ, S, r, Sat.bind hq fun d st1 F1 φ1 H1 e1 S1 h1 v rv => h1.ok S1 _ ((r.mono e1).set rv)⟩
    · cases hc
  | _ => cases he
theorem ER.unset {K : PySem.W.Frag} {F : Hp} {φ : List Addr} {env : Env} {σ : L2.St} (r : ER K F φ env σ) (i : Nat) (y : Option V) : ER K F φ (env.set i none) (σ.set i y) := by
  refine ⟨by rw [List.length_set, List.length_set]; exact r.len, fun j e hj => ?_⟩
  by_cases hij : i = j
  · subst hij
    have hl : i < env.length := by
      have := (List.getElem?_eq_some_iff.mp hj).1
      rwa [List.length_set] at this
    rw [List.getElem?_set_self hl] at hj
    cases hj
  · rw [List.getElem?_set_ne hij] at hj ⊢
    exact r.val j e hj
/-! o.f = e -/
theorem rns_putF {K : PySem.W.Frag} {F : Hp} {φ : List Addr} {f : Str} {v : V} {d : D} (r : RD K F φ v d) : ∀ {ws : List (Str × V)} {fs : List (Str × D)}, RNs K F φ ws fs → RNs K F φ (putF f v ws) (putFD f d fs)
  | _, _, .nil => .cons ⟨rfl, r⟩ .nil
  | (g, x) :: ws, (g', y) :: fs, .cons h t => by
    obtain ⟨e, q⟩ := h
    have e : g = g' := e
    subst e
    unfold putF putFD
    by_cases hg : g = f
    · rw [if_pos hg, if_pos hg]; exact .cons ⟨rfl, r⟩ t
    · rw [if_neg hg, if_neg hg]; exact .cons ⟨rfl, q⟩ (rns_putF r t)
theorem mkX_nex {ds : List D} {x : Exc} {st' : Store} : ∀ {fs : List (Str × FE)} {acc : List (Str × D)} {st : Store}, mkX ds fs acc st ≠ .ex x st'
  | [], acc, st, h => by cases h
  | (f, .arg i) :: r, acc, st, h => by
    simp only [mkX] at h
    split at h
    · exact mkX_nex h
    · cases h
  | (f, .lst i) :: r, acc, st, h => by
    simp only [mkX] at h
    split at h
    · unfold listD mkL at h
      split at h
      · exact mkX_nex h
      · split at h
        · exact mkX_nex h
        · cases h
    · cases h
theorem isText1_of {es : MEs} (h : isText1 es = true) : ∃ m, es = .cons (.lit (.str m)) .nil := by
  unfold isText1 at h
  split at h
  · exact ⟨_, rfl⟩
  · cases h
theorem oks_setFld (w : WF X C G XR (fun _ => E)) {o e : ME} {f : Str} {cs : List Str} {a x : Expr} {p pos : Pos} (hl : isLc x = false) (hcs : cs.all (fun c => C.clsF.contains (c, f)) = true) (ho : OkP X XR (fun _ => E) a (ev G o)) (he : OkP X XR (fun _ => E) x (ev G e)) : PS X (.Assign [.Attribute a f p] x pos) (rS X.K XR (fun _ => E) (sv G (.setFld o f cs e))) := by
  refine PS.imp (ps_fld ho.pe he.pe (sw_no hl _ _ _)) fun De σ H hq => ?_
  obtain ⟨env, st, F, φ, S, r, hq⟩ := hq
  simp only [sv] at hq
  refine ⟨env, st, F, φ, S, r, Sat.bind hq fun d st1 F1 φ1 H1 e1 S1 h1 v rv => ⟨env, st1, F1, φ1, S1, r.mono e1, Sat.bind h1 fun d2 st2 F2 φ2 H2 e2 S2 h2 v2 rv2 => ?_⟩⟩
  unfold setFldD at h2
  split at h2
  · rename_i n c fs e
    split at h2
    · rename_i hz
      obtain ⟨l, A, dx, ws, rfl, _, k1, k2, k3, k4, k5⟩ := insOf_ok S2 rv2 e
      have hm : (c, f) ∈ C.clsF := by simpa using List.all_eq_true.mp hcs c (by simpa using hz.2)
      obtain ⟨B, b1, b2, b3⟩ := w.clf c f hm
      cases cls_one k4 b1
      refine ⟨l, A, dx, ws, rfl, k3, b2, b3, by rw [rks_length k5]; omega, ?_⟩
      exact h2 F2 φ2 _ Ext.refl (S2.writeC k1 (fun z => nomatch z) k2 (.ins k4 (rns_putF (rv.mono e2) k5)) (fun z => nomatch z)) σ ((r.mono e1).mono e2)
    · exact h2.elim
  · exact h2.elim
/-! raise -/
theorem feEq_eq {a b : FE} (h : feEq a b = true) : a = b := by
  cases a <;> cases b <;> first | (cases h; done) | (rw [eq_of_beq (show (_ == _) = true from h)])
theorem fesEq_eq : ∀ {a b : List (Str × FE)}, fesEq a b = true → a = b
  | [], [], _ => rfl
  | (x, u) :: r, (y, v) :: r', h => by
    simp only [fesEq, Bool.and_eq_true] at h
    rw [eq_of_beq h.1.1, feEq_eq h.1.2, fesEq_eq h.2]
  | [], _ :: _, h => by cases h
  | _ :: _, [], h => by cases h
theorem rns_xrel {K : PySem.W.Frag} {F : Hp} {φ : List Addr} {gs : List (Str × V)} {xs : List (Str × D)} (h : RNs K F φ gs xs) : ∀ f x, xs.lookup f = some x → ∃ v, gs.lookup f = some v ∧ RD K F φ v x := by
  induction h with
  | nil => intro f x h; cases h
  | @cons a b as bs h t ih =>
    intro f x hf
    obtain ⟨g, u⟩ := a
    obtain ⟨g', y⟩ := b
    obtain ⟨e, r⟩ := h
    have e : g = g' := e
    subst e
    rw [List.lookup_cons] at hf ⊢
    split at hf
    · cases Option.some.inj hf; exact ⟨u, rfl, r⟩
    · exact ih f x hf
theorem oks_raise (w : WFS X C G XR E) {c : Str} {np : Nat} {fs : List (Str × FE)} {es : MEs} {y : Expr} {ys : List Expr} {p q pos : Pos} (hg : C.isGl c = true) (hm : (c, np, fs) ∈ C.xcls) (ht : (!fs.isEmpty || isText1 es) = true) (hn : np ≤ 100) (hc : chks C es (y :: ys) = true) (ha : OkA X XR (fun _ => E) (y :: ys) (evs G es)) :
    PS X (.Raise (some (.Call (.Name c p) (y :: ys) [] q)) none pos) (rS X.K XR (fun _ => E) (sv G (.raise c np fs es))) := by
  obtain ⟨h1, h2⟩ := gl_of w.wf hg
  obtain ⟨d1, _, _⟩ := okName_of h1
  obtain ⟨A, g1, g2, gr, g3⟩ := w.wf.xmk c np fs hm
  obtain ⟨s1, s2⟩ := chks_star (X := X) (pos := q) hc
  have hxr := w.xr
  rcases g3 with ⟨rfl, kk, kx⟩ | ⟨ox, k, fI, fd, ps, i1, i2, i3, i4, i5⟩
  · have ht : isText1 es = true := ht
    obtain ⟨m, rfl⟩ := isText1_of ht
    simp only [chks, Bool.and_eq_true] at hc
    obtain ⟨⟨_, hc1⟩, hc2⟩ := hc
    cases ys with
    | cons _ _ => simp [chks] at hc2
    | nil =>
      unfold chk at hc1
      split at hc1
      · rename_i c0 k0 j0 p0
        obtain ⟨m', rfl⟩ : ∃ m' : Str, c0 = Const.str m' := by
          cases c0 <;> first | exact ⟨_, rfl⟩ | simp [litC] at hc1
        refine PS.imp (ps_raise w.wf.calm w.tk (pmk_own PySem.F.excBase_ValueError kx g2 kk gr h2 d1)) fun De σ H hq => ?_
        obtain ⟨env, st, F, φ, S, r, hq⟩ := hq
        simp only [sv, evs, ev, R.bind_ok] at hq
        split at hq
        · simp only [mkX, R.bind_ok] at hq
          refine hq F φ H _ _ Ext.refl S ?_
          rw [hxr]
          exact ⟨A, g1, rfl, .inl rfl⟩
        · exact hq.elim
      · cases hc1
  · refine PS.imp (ps_raise w.wf.calm w.tk (pmk_oex ox i1 i2 i3 i4 i5 .nil (fun pins σ H s e s' I => passL pins σ H s e s' I) h2 g2 ha d1 s1 s2)) fun De σ H hq => ?_
    obtain ⟨env, st, F, φ, S, r, hq⟩ := hq
    simp only [sv] at hq
    refine ⟨env, st, F, φ, S, r, Sat.bind hq fun ds st1 F1 φ1 H1 e1 S1 h1 vs rvs => ?_⟩
    split at h1
    · rename_i hnp
      refine ⟨by have := rds_length rvs; omega, fun a hna => ?_⟩
      have hFa : F1 a = none := Evl.fresh_back S1.sub hna
      have hφa : a ∉ φ1 := fun z => S1.dom z hna
      rw [List.append_nil]
      refine ⟨a, vs, ds, st1, F1, φ1, rfl, by rw [rds_length rvs]; exact hnp, upd_same, hFa, hφa, S1.junk hna, rvs, ?_⟩
      cases hx : mkX ds fs [] st1 with
      | bad => rw [hx] at h1; exact h1.elim
      | ex x st2 => exact absurd hx mkX_nex
      | ok xs st2 =>
        rw [hx] at h1
        intro F2 φ2 H2 d gs e2 S2 z1 z2 z3 z4 z5 z6 z7 z8
        have hda : d ≠ a := fun z => by subst z; rw [upd_same] at z3; cases z3
        refine ⟨rfl, d, gs, z1, z2, by rw [upd_ne hda] at z3; exact z3, ?_⟩
        have S3 : SR X.K F2 φ2 st2 (upd (L2.del H2 a) d (.xd gs)) := by
          refine S2.congr (fun b u hb => ?_) fun b hb hF => ?_
          · have n1 : b ≠ d := fun z => by subst z; rw [z4] at hb; cases hb
            have n2 : b ≠ a := fun z => by subst z; rw [z6] at hb; cases hb
            rw [upd_ne n1, del_ne n2]
            exact S2.sub b u hb
          · have n1 : b ≠ d := fun z => by subst z; exact z5 hb
            have n2 : b ≠ a := fun z => by subst z; exact z7 hb
            rw [upd_ne n1, del_ne n2]
        refine h1 F2 φ2 _ _ _ e2 S3 ?_
        rw [hxr]
        exact ⟨A, g1, rfl, .inr ⟨d, gs, rfl, upd_same, rns_xrel z8⟩⟩
    · exact h1.elim
/-! try -/
def FRel (K : PySem.W.Frag) (F : Hp) (φ : List Addr) (d : Option Addr) (x : Exc) : Prop :=
  x.fs = [] ∨ ∃ dd ws, d = some dd ∧ F dd = some (.xd ws) ∧ ∀ f y, x.fs.lookup f = some y → ∃ v, ws.lookup f = some v ∧ RD K F φ v y
theorem FRel.mono {K : PySem.W.Frag} {F F1 : Hp} {φ φ1 : List Addr} {d : Option Addr} {x : Exc} (e : Ext F φ F1 φ1) (h : FRel K F φ d x) : FRel K F1 φ1 d x := by
  rcases h with h | ⟨dd, ws, h1, h2, h3⟩
  · exact .inl h
  · exact .inr ⟨dd, ws, h1, e.sub _ _ h2, fun f y hf => let ⟨v, g1, g2⟩ := h3 f y hf; ⟨v, g1, g2.mono e⟩⟩
def rSE (K : PySem.W.Frag) (XR : XRT) (a : Addr) (cls : Value) (d : Option Addr) (oi : Option Nat) (m : Exc → Store → R D) : TE := fun σ H Q => ∃ st F φ x, SR K F φ st H ∧ (∀ i, oi = some i → σ[i]? = some (some (.ref a))) ∧ FRel K F φ d x ∧ (∃ A, clsAt K x.cls A ∧ cls = .ref A) ∧ Sat K XR E0 (QE K Q) F φ (m x st)
def rSA (K : PySem.W.Frag) (XR : XRT) (a : Addr) (cls : Value) (d : Option Addr) (oi : Option Nat) (m : Exc → Store → R (List D)) : TA := fun σ H Q => ∃ st F φ x, SR K F φ st H ∧ (∀ i, oi = some i → σ[i]? = some (some (.ref a))) ∧ FRel K F φ d x ∧ (∃ A, clsAt K x.cls A ∧ cls = .ref A) ∧ Sat K XR E0 (QA K Q) F φ (m x st)
theorem lit_suite {v : PyData} {c : Const} {k : Nat} {pos : Pos} {a : Addr} {oe : Obj} {cls : Value} {d : Option Addr} {oi : Option Nat} {pn : List (Addr × Obj)} (h : litC c v = true) : PE (X.suite a ((a, oe) :: pn)) (.Constant c k pos) (rSE X.K XR a cls d oi fun x st => seE x (.lit v) st) := by
  unfold litC at h
  split at h
  · refine PE.imp pe_non fun σ H Q hq => ?_
    obtain ⟨st, F, φ, x, S, _, _, _, hq⟩ := hq
    simp only [seE] at hq
    exact sat_val S rd_non hq
  · cases eq_of_beq h
    refine PE.imp pe_bl fun σ H Q hq => ?_
    obtain ⟨st, F, φ, x, S, _, _, _, hq⟩ := hq
    simp only [seE] at hq
    exact sat_val S rd_bl hq
  · cases eq_of_beq h
    refine PE.imp pe_int fun σ H Q hq => ?_
    obtain ⟨st, F, φ, x, S, _, _, _, hq⟩ := hq
    simp only [seE] at hq
    exact sat_val S rd_int hq
  · cases eq_of_beq h
    refine PE.imp pe_str fun σ H Q hq => ?_
    obtain ⟨st, F, φ, x, S, _, _, _, hq⟩ := hq
    simp only [seE] at hq
    exact sat_val S rd_str hq
  · cases h
theorem fld_suite {E' : EK} (w : WF X C G XR E') {hc f n : Str} {i : Nat} {a : Addr} {oe : Obj} {cls : Value} {d : Option Addr} {pn : List (Addr × Obj)} {q pos : Pos} (hz : Zc cls d oe) (hf : ∃ vs, oe.data = .fields vs) (h1 : (hc, f) ∈ C.xfld) (h2 : C.slot i n = true) (h3 : C.isVis n = true) :
    PE (X.suite a ((a, oe) :: pn)) (.Attribute (.Name n q) f pos) (rSE X.K XR a cls d (some i) fun x st => seE x (.fld hc f) st) := by
  obtain ⟨A, a1, a2, a3⟩ := w.xcf hc f h1
  have hn : PE (X.suite a ((a, oe) :: pn)) (.Name n q) (tVar i) := pe_slot (X := X.suite a ((a, oe) :: pn)) (C := C) w.N w.sc h2 h3
  refine PE.imp (pe_xf (X := X) a2 a3 hz hf hn rfl) fun σ H Q hq => ?_
  obtain ⟨st, F, φ, x, S, hs, hfr, ⟨B, hB, hcls⟩, hq⟩ := hq
  simp only [seE] at hq
  split at hq
  · rename_i hcx
    split at hq
    · rename_i y hy
      rcases hfr with he | ⟨dd, ws, e1, e2, e3⟩
      · rw [he] at hy; cases hy
      · obtain ⟨v, g1, g2⟩ := e3 f y hy
        rw [hcx] at hB
        cases cls_one hB a1
        exact ⟨.ref a, hs i rfl, rfl, hcls, dd, ws, v, e1, S.sub _ _ e2, g1, sat_val S g2 hq⟩
    · exact hq.elim
  · exact hq.elim
mutual
theorem se_ok {E' : EK} (w : WF X C G XR E') {hc : Str} {oi : Option Nat} {a : Addr} {oe : Obj} {cls : Value} {d : Option Addr} {pn : List (Addr × Obj)} (hz : Zc cls d oe) (hf : ∃ vs, oe.data = .fields vs) : ∀ (e : SE) {py : Expr}, chkSE C hc oi e py = true → PE (X.suite a ((a, oe) :: pn)) py (rSE X.K XR a cls d oi fun x st => seE x e st)
  | .lit v, py, h => by
    unfold chkSE at h
    split at h
    · exact lit_suite h
    · cases h
  | .fld c f, py, h => by
    unfold chkSE at h
    split at h
    · simp only [Bool.and_eq_true, decide_eq_true_eq] at h
      obtain ⟨⟨⟨rfl, rfl⟩, h3⟩, h4⟩ := h
      cases oi with
      | none => cases h4
      | some i =>
        simp only [Bool.and_eq_true] at h4
        exact fld_suite w hz hf (by simpa using h3) h4.1 h4.2
    · cases h
  | .lst es, py, h => by
    unfold chkSE at h
    split at h
    · refine PE.imp (pe_lst (ses_ok w hz hf es h)) fun σ H Q hq => ?_
      obtain ⟨st, F, φ, x, S, hs, hfr, hcl, hq⟩ := hq
      simp only [seE] at hq
      refine ⟨st, F, φ, x, S, hs, hfr, hcl, Sat.bind hq fun ds st1 F1 φ1 H1 e1 S1 h1 vs rvs => ?_⟩
      split at h1
      · rename_i hz'
        exact ⟨by rw [rds_length rvs]; exact sz_ok hz', fun p hp => sat_mkL S1 hp rvs h1⟩
      · exact h1.elim
    · cases h
  | .tup es, py, h => by
    unfold chkSE at h
    split at h
    · refine PE.imp (pe_tup (ses_ok w hz hf es h)) fun σ H Q hq => ?_
      obtain ⟨st, F, φ, x, S, hs, hfr, hcl, hq⟩ := hq
      simp only [seE] at hq
      refine ⟨st, F, φ, x, S, hs, hfr, hcl, Sat.bind hq fun ds st1 F1 φ1 H1 e1 S1 h1 vs rvs => ?_⟩
      split at h1
      · rename_i hz'
        exact ⟨by rw [rds_length rvs]; exact sz_ok hz', fun p hp => sat_mkT S1 hp rvs h1⟩
      · exact h1.elim
    · cases h
theorem ses_ok {E' : EK} (w : WF X C G XR E') {hc : Str} {oi : Option Nat} {a : Addr} {oe : Obj} {cls : Value} {d : Option Addr} {pn : List (Addr × Obj)} (hz : Zc cls d oe) (hf : ∃ vs, oe.data = .fields vs) : ∀ (es : SEs) {xs : List Expr}, chkSEs C hc oi es xs = true → PA (X.suite a ((a, oe) :: pn)) xs (rSA X.K XR a cls d oi fun x st => seEs x es st)
  | .nil, [], h => PA.imp pa_nil fun σ H Q hq => by
    obtain ⟨st, F, φ, x, S, hs, hfr, hcl, hq⟩ := hq
    simp only [seEs] at hq
    exact hq.ok S [] .nil
  | .cons e r, x :: xs, h => by
    simp only [chkSEs, Bool.and_eq_true] at h
    refine PA.imp (pa_cons (se_ok w hz hf e h.1.2) (ses_ok w hz hf r h.2) (star1 h.1.1)) fun σ H Q hq => ?_
    obtain ⟨st, F, φ, y, S, hs, hfr, hcl, hq⟩ := hq
    simp only [seEs] at hq
    exact ⟨st, F, φ, y, S, hs, hfr, hcl, Sat.bind hq fun dd st1 F1 φ1 H1 e1 S1 h1 v rv => ⟨st1, F1, φ1, y, S1, hs, hfr.mono e1, hcl, Sat.bind h1 fun ds st2 F2 φ2 H2 e2 S2 h2 vs rvs => h2.ok S2 _ (.cons (rv.mono e2) rvs)⟩⟩
  | .nil, _ :: _, h => by simp [chkSEs] at h
  | .cons _ _, [], h => by simp [chkSEs] at h
end
theorem suite_ok {E' : EK} (w : WF X C G XR E') {hc : Str} {h : Hd} {y : Str} {v : Expr} {q pos : Pos} {a : Addr} {oe : Obj} {cls : Value} {d : Option Addr} {pn : List (Addr × Obj)} (hz : Zc cls d oe) (hf : ∃ vs, oe.data = .fields vs) (he : chkSE C hc h.oi h.e v = true) (hj : C.slot h.j y = true) (hy : C.sc.names.lookup y = some .local) :
    PSs (X.suite a ((a, oe) :: pn)) [.Assign [.Name y q] v pos] (fun De σ H => rSE X.K XR a cls d h.oi (fun x st => seE x h.e st) σ H fun u H1 => De.nx (σ.set h.j (some u)) H1) := by
  have hl : isLc v = false := by
    cases he' : h.e with
    | lit z => rw [he'] at he; unfold chkSE at he; split at he <;> first | rfl | cases he
    | fld c f => rw [he'] at he; unfold chkSE at he; split at he <;> first | rfl | cases he
    | lst es => rw [he'] at he; unfold chkSE at he; split at he <;> first | rfl | cases he
    | tup es => rw [he'] at he; unfold chkSE at he; split at he <;> first | rfl | cases he
  obtain ⟨_, g2⟩ := slot_of hj
  have hloc : (X.suite a ((a, oe) :: pn)).env.scope.names.lookup y = some .local := by
    show X.env.scope.names.lookup y = _
    rw [w.sc]; exact hy
  refine PSs.imp (pss_one (ps_asg (se_ok w hz hf h.e he) (pg_name (i := h.j) w.nd (show X.N[h.j]? = some y by rw [w.N]; exact g2) (.inl hloc) (.inr hloc)) (sw1_no hl _ _) (noSwap_of (by cases v <;> rfl) _) rfl)) fun De σ H hq => ?_
  exact hq
theorem tb_ok {Xa : Cx} {E1 : EK} : ∀ (b : TB) {C : Ctx} {body : List Stmt}, WF Xa C G XR E1 → WF Xa { C with tr := false } G XR (fun _ => E0) → chkTB C b body = true → PSs Xa body (rS Xa.K XR E1 (tbv G b))
  | .nil, C, body, w, w0, h => by
    unfold chkTB at h
    cases body with
    | nil =>
      refine PSs.imp pss_nil fun De σ H hq => ?_
      obtain ⟨env, st, F, φ, S, r, hq⟩ := hq
      simp only [tbv] at hq
      exact hq.ok S σ r
    | cons a r => cases h
  | .ex e, C, body, w, w0, h => by
    unfold chkTB at h
    split at h
    · simp only [Bool.and_eq_true, Bool.not_eq_true'] at h
      refine PSs.imp (pss_one (ps_expr (snd e w h.2).pe (sw_no h.1 _ _ _))) fun De σ H hq => ?_
      obtain ⟨env, st, F, φ, S, r, hq⟩ := hq
      simp only [tbv] at hq
      exact ⟨env, st, F, φ, S, r, Sat.bind hq fun d st1 F1 φ1 H1 e1 S1 h1 v rv => h1.ok S1 σ (r.mono e1)⟩
    · cases h
  | .set t e, C, body, w, w0, h => by
    unfold chkTB at h
    split at h
    · rename_i tg x pos
      simp only [Bool.and_eq_true, Bool.not_eq_true'] at h
      obtain ⟨⟨⟨⟨h1, h2⟩, h3⟩, h4⟩, h5⟩ := h
      have hb : C.fnC = true ∨ C.fnC = false := by cases C.fnC <;> simp
      have has : (assignEach [tg] Xa.env).map (·.2) = [assign tg Xa.env] := by cases tg <;> first | rfl | cases h3
      refine PSs.imp (pss_one (ps_asg (snd e w h5).pe (ok_tg w hb h4) (sw1_no h1 _ _) (noSwap_of h2 _) has)) fun De σ H hq => ?_
      obtain ⟨env, st, F, φ, S, r, hq⟩ := hq
      simp only [tbv] at hq
      refine ⟨env, st, F, φ, S, r, Sat.bind hq fun d st1 F1 φ1 H1 e1 S1 h1 v rv => ?_⟩
      split at h1
      · rename_i env' eb
        exact ⟨env, st1, F1, φ1, d, S1, r.mono e1, rv, env', eb, fun σ' r' _ => h1.ok S1 σ' r'⟩
      · exact h1.elim
    · cases h
  | .exSet e t q, C, body, w, w0, h => by
    unfold chkTB at h
    split at h
    · rename_i x p1 tg y p2
      simp only [Bool.and_eq_true, Bool.not_eq_true'] at h
      obtain ⟨⟨⟨⟨⟨⟨h0, h1⟩, h2⟩, h3⟩, h4⟩, h5⟩, h6⟩ := h
      have hb : C.fnC = true ∨ C.fnC = false := by cases C.fnC <;> simp
      have has : (assignEach [tg] Xa.env).map (·.2) = [assign tg Xa.env] := by cases tg <;> first | rfl | cases h4
      refine PSs.imp (pss_cons (ps_expr (snd e w h1).pe (sw_no h0 _ _ _)) (pss_one (ps_asg (snd q w0 h6).pe (ok_tg w hb h5) (sw1_no h2 _ _) (noSwap_of h3 _) has))) fun De σ H hq => ?_
      obtain ⟨env, st, F, φ, S, r, hq⟩ := hq
      simp only [tbv] at hq
      refine ⟨env, st, F, φ, S, r, Sat.bind hq fun d0 st0 F0 φ0 H0 e0 S0 g0 v0 rv0 => ⟨env, st0, F0, φ0, S0, r.mono e0, sat_noEx_bind g0 fun d st1 F1 φ1 H1 e1 S1 h1 v rv => ?_⟩⟩
      split at h1
      · rename_i env' eb
        exact ⟨env, st1, F1, φ1, d, S1, (r.mono e0).mono e1, rv, env', eb, fun σ' r' _ => (h1.ext e1).ok S1 σ' r'⟩
      · exact h1.elim
    · cases h
  | .ife c a b, C, body, w, w0, h => by
    unfold chkTB at h
    split at h
    · simp only [Bool.and_eq_true] at h
      refine PSs.imp (pss_one (ps_if (snd c w h.1.1).pt (tb_ok a w w0 h.1.2) (tb_ok b w w0 h.2))) fun De σ H hq => ?_
      obtain ⟨env, st, F, φ, S, r, hq⟩ := hq
      simp only [tbv] at hq
      refine ⟨env, st, F, φ, S, r, Sat.bind hq fun k st1 F1 φ1 H1 e1 S1 h1 => ?_⟩
      cases k with
      | true => exact ⟨env, st1, F1, φ1, S1, r.mono e1, h1⟩
      | false => exact ⟨env, st1, F1, φ1, S1, r.mono e1, h1⟩
    · cases h
/-- the clauses' readings -/
def clsOf (K : PySem.W.Frag) (XR : XRT) (mg : Str → Option Value) : List Hd → List ExceptHandler → List Cl
  | h :: r, .ExceptHandler (some (.Name x _)) _ _ _ :: hs => ((mg x).getD .none, h.oi, fun a cls d De σ H => rSE K XR a cls d h.oi (fun x st => seE x h.e st) σ H fun u H1 => De.nx (σ.set h.j (some u)) H1) :: clsOf K XR mg r hs
  | _, _ => []
theorem cls_ok {E' : EK} (w : WF X C G XR E') : ∀ {hs : List Hd} {hds : List ExceptHandler}, chkHds C hs hds = true → ClsOk X hds (clsOf X.K XR X.mg hs hds)
  | [], [], _ => .nil
  | h :: r, x :: xs, hc => by
    simp only [chkHds, Bool.and_eq_true] at hc
    have ih := cls_ok w hc.2
    have h1 := hc.1
    unfold chkHd at h1
    split at h1
    · rename_i xn q0 n y q1 v q2 q3
      simp only [Bool.and_eq_true, decide_eq_true_eq] at h1
      obtain ⟨⟨⟨⟨⟨⟨a1, a2⟩, a3⟩, a4⟩, a5⟩, a6⟩, a7⟩ := h1
      obtain ⟨g1, g2⟩ := gl_of w a1
      obtain ⟨d1, _, _⟩ := okName_of g1
      obtain ⟨B, b1, b2⟩ := w.hcl _ (by simpa using a2)
      have hN : Names X _ ((X.mg _).getD .none) := ⟨g2, d1, .inl (by rw [b2]; rfl)⟩
      unfold clsOf
      split at a7
      · rename_i e2
        rw [e2]
        refine .bare hN (fun a oe cls d pn hz hf => ?_) ih
        have := suite_ok (h := h) (q := q1) (pos := q2) (pn := pn) (a := a) w hz hf a4 a5 a6
        rw [e2] at this
        exact this
      · rename_i m i e2
        simp only [Bool.and_eq_true, decide_eq_true_eq] at a7
        rw [e2]
        obtain ⟨_, s2⟩ := slot_of a7.1
        refine .named (i := i) hN (by rw [w.N]; exact s2) (show X.env.scope.names.lookup m = _ by rw [w.sc]; exact a7.2) (fun a oe cls d pn hz hf => ?_) ih
        have := suite_ok (h := h) (q := q1) (pos := q2) (pn := pn) (a := a) w hz hf a4 a5 a6
        rw [e2] at this
        exact this
      · cases a7
    · cases h1
  | [], _ :: _, h => by simp [chkHds] at h
  | _ :: _, [], h => by simp [chkHds] at h
theorem valN_mem {α : Type} {kvs : List (Str × α)} {k : Str} {v : α} (h : valN kvs k = some v) : (k, v) ∈ kvs := by
  unfold valN at h
  obtain ⟨q, h1, rfl⟩ := Option.map_eq_some_iff.mp h
  have h2 := List.find?_some h1
  have h3 := List.mem_of_find?_eq_some h1
  simp only [decide_eq_true_eq] at h2
  rw [← h2]
  exact h3
theorem wmix_ok (w : WFS X C G XR E) {De : Ends} {σ : L2.St} {x : Exc} {env : Env} {st : Store} : ∀ {hs : List Hd} {hds : List ExceptHandler} {F H : Hp} {φ : List Addr} {cls : Value} {oa : Option Addr}, chkHds C hs hds = true → SR X.K F φ st H → ER X.K F φ env σ → XRel X.K F φ x cls oa H →
    Sat X.K XR E (QS X.K De) F φ (hdL hs x env st) → wMix X.K (fun cls d _ H => E cls d H) De (clsOf X.K XR X.mg hs hds) cls oa σ H
  | [], [], F, H, φ, cls, oa, _, S, r, hx, h => by
    simp only [hdL] at h
    refine h F φ H cls oa Ext.refl S ?_
    rw [w.xr]; exact hx
  | hd :: rs, y :: ys, F, H, φ, cls, oa, hc, S, r, hx, h => by
    simp only [chkHds, Bool.and_eq_true] at hc
    have h1 := hc.1
    unfold chkHd at h1
    split at h1
    · simp only [Bool.and_eq_true, decide_eq_true_eq] at h1
      obtain ⟨⟨⟨⟨⟨⟨a1, a2⟩, a3⟩, a4⟩, a5⟩, a6⟩, a7⟩ := h1
      obtain ⟨A, x1, x2, x3⟩ := id hx
      unfold clsOf
      simp only [hdL] at h
      cases hv : valN hd.tb x.cls with
      | none => rw [hv] at h; exact h.elim
      | some bb =>
        rw [hv] at h
        have hm := List.all_eq_true.mp a3 _ (valN_mem hv)
        obtain ⟨A', B', m1, m2, m3, m4⟩ := w.wf.xmt _ _ _ (by simpa using hm)
        cases cls_one m1 x1
        refine ⟨bb, by rw [m3, x2]; exact m4, fun hb a hna => ?_, fun hb => ?_⟩
        · subst hb
          simp only at h
          split at h
          · rename_i hok
            have key : ∃ F1, Ext F φ F1 φ ∧ SR X.K F1 φ st H ∧ FRel X.K F1 φ oa x := by
              rcases x3 with e | ⟨dd, ws, e1, e2, e3⟩
              · exact ⟨F, Ext.refl, S, .inl e⟩
              · obtain ⟨S1, E1⟩ := S.known e2
                exact ⟨_, E1, S1, .inr ⟨dd, ws, e1, upd_same, fun f y hf => let ⟨v, g1, g2⟩ := e3 f y hf; ⟨v, g1, g2.mono E1⟩⟩⟩
            obtain ⟨F1, E1, S1, hfr⟩ := key
            have r1 := r.mono E1
            refine ⟨st, F1, φ, x, S1, fun i hi => ?_, hfr, ⟨_, x1, x2⟩, ?_⟩
            · rw [hi] at hok
              rw [hi]
              have : i < σ.length := by rw [← r.len]; exact of_decide_eq_true hok
              show (σ.set i (some (.ref a)))[i]? = _
              rw [List.getElem?_set_self this]
            · refine sat_noEx_bind (h.ext E1) fun d st2 F2 φ2 H2 e2 S2 h2 v rv => ?_
              have h3 := (h2.ext e2).ok S2
              cases ho : hd.oi with
              | none =>
                rw [ho] at h3
                exact h3 _ ((r1.mono e2).set rv)
              | some i =>
                rw [ho] at h3
                exact h3 _ ((((r1.mono e2).unset i _).set rv).unset i _)
          · exact h.elim
        · subst hb
          exact wmix_ok w hc.2 S r hx h
    · cases h1
  | [], _ :: _, _, _, _, _, _, h, _, _, _, _ => by simp [chkHds] at h
  | _ :: _, [], _, _, _, _, _, h, _, _, _, _ => by simp [chkHds] at h
theorem oks_try (w : WFS X C G XR E) {b : TB} {hs : List Hd} {body : List Stmt} {h0 : ExceptHandler} {hds : List ExceptHandler} {pos : Pos} (hb : chkTB { C with tr := true } b body = true) (hh : chkHds C hs (h0 :: hds) = true) : PS X (.Try body (h0 :: hds) [] [] pos) (rS X.K XR (fun _ => E) (sv G (.tryS b hs))) := by
  refine PS.imp (ps_try_mix (tb := fun W => rS X.K XR (WE W) (tbv G b)) w.stk w.frm w.wf.nd w.tk (fun W pn xe tk _ => tb_ok (Xa := X.tr pn xe) b (w.wf.tr W pn xe tk) (w.wf.tr0 pn xe) hb) (cls_ok w.wf hh)) fun De σ H hq => ?_
  obtain ⟨env, st, F, φ, S, r, hq⟩ := hq
  simp only [sv] at hq
  refine ⟨env, st, F, φ, S, r, ?_⟩
  cases hm : tbv G b env st with
  | bad => rw [hm] at hq; exact hq.elim
  | ok f st1 => rw [hm] at hq; exact hq
  | ex x st1 =>
    rw [hm] at hq
    intro F1 φ1 H1 cls oa e1 S1 hx
    rw [w.xr] at hx
    exact wmix_ok w hh S1 (r.mono e1) hx (hq.ext e1)
theorem oks_whl (w : WFS X C G XR E) {n : Nat} {c : ME} {b : MSs} {t : Expr} {x : List Stmt} {pos : Pos} (hc : OkP X XR (fun _ => E) t (ev G c)) (hb : PSs X x (rS X.K XR (fun _ => E) (svs G b))) : PS X (.While t x [] pos) (rS X.K XR (fun _ => E) (sv G (.whl n c b))) := by
  refine PS.imp (ps_while w.po hc.pt hb) fun De σ H hq => ?_
  obtain ⟨env, st, F, φ, S, r, hq⟩ := hq
  simp only [sv] at hq
  refine ⟨fun m σ H => ∃ env st F' φ', SR X.K F' φ' st H ∧ ER X.K F' φ' env σ ∧ Sat X.K XR E (QS X.K De) F' φ' (whlL (fun env st => truR (ev G c env st)) (svs G b) m env st), ⟨n, env, st, F, φ, S, r, hq⟩, ?_⟩
  rintro m σ' H' ⟨env', st', F', φ', S', r', h'⟩
  cases m with
  | zero => exact h'.elim
  | succ m =>
    unfold whlL at h'
    refine ⟨env', st', F', φ', S', r', Sat.bind h' fun k st1 F1 φ1 H1 e1 S1 h1 => ?_⟩
    cases k with
    | true =>
      refine ⟨fun σ2 H2 => ∃ env st F2 φ2, Ext F1 φ1 F2 φ2 ∧ SR X.K F2 φ2 st H2 ∧ ER X.K F2 φ2 env σ2 ∧ Sat X.K XR E (QS X.K De) F1 φ1 (whlL (fun env st => truR (ev G c env st)) (svs G b) m env st), ?_, ?_⟩
      · rintro σ2 H2 ⟨env2, st2, F2, φ2, e2, S2, r2, h2⟩
        exact ⟨m, Nat.lt_succ_self m, env2, st2, F2, φ2, S2, r2, h2.ext e2⟩
      · exact ⟨env', st1, F1, φ1, S1, r'.mono e1, sat_next Ext.refl h1 fun env5 st5 F5 φ5 σ5 H5 e5 S5 r5 h5 => ⟨env5, st5, F5, φ5, e5, S5, r5, h5⟩⟩
    | false => exact h1.ok S1 σ' (r'.mono e1)
mutual
theorem sndS (w : WFS X C G XR E) : ∀ (s : MS) {py : Stmt}, chkS C s py = true → PS X py (rS X.K XR (fun _ => E) (sv G s))
  | .set t e, py, h => by
    unfold chkS at h
    split at h
    · simp only [Bool.and_eq_true, Bool.not_eq_true'] at h
      obtain ⟨⟨⟨⟨h1, h2⟩, h3⟩, h4⟩, h5⟩ := h
      exact oks_set w h1 h2 h3 h4 (snd e w.wf h5)
    · cases h
  | .setFld o f cs e, py, h => by
    unfold chkS at h
    split at h
    · simp only [Bool.and_eq_true, decide_eq_true_eq, Bool.not_eq_true'] at h
      obtain ⟨⟨⟨⟨rfl, h2⟩, h3⟩, h4⟩, h5⟩ := h
      exact oks_setFld w.wf h2 h3 (snd o w.wf h4) (snd e w.wf h5)
    · cases h
  | .raise c np fs es, py, h => by
    unfold chkS at h
    split at h
    · simp only [Bool.and_eq_true, decide_eq_true_eq] at h
      obtain ⟨⟨⟨⟨⟨h1, rfl⟩, h3⟩, h4⟩, h5⟩, h6⟩ := h
      obtain ⟨q, hq, h7⟩ := List.any_eq_true.mp h3
      simp only [Bool.and_eq_true, beq_iff_eq] at h7
      obtain ⟨⟨k1, k2⟩, k3⟩ := h7
      have k3 := fesEq_eq k3
      obtain ⟨q1, q2, q3⟩ := q
      dsimp only at k1 k2 k3
      subst k1 k2 k3
      exact oks_raise w h1 hq h4 h5 h6 (snds es w.wf h6)
    · cases h
  | .tryS b hs, py, h => by
    unfold chkS at h
    split at h
    · simp only [Bool.and_eq_true] at h
      exact oks_try w h.1 h.2
    · cases h
  | .whl n c b, py, h => by
    unfold chkS at h
    split at h
    · simp only [Bool.and_eq_true] at h
      exact oks_whl w (snd c w.wf h.1) (sndSs w b h.2)
    · cases h
  | .setLc i e, py, h => by
    unfold chkS at h
    split at h
    · simp only [Bool.and_eq_true, decide_eq_true_eq, Bool.not_eq_true'] at h
      obtain ⟨⟨⟨⟨⟨h1, h2⟩, h3⟩, h4⟩, h5⟩, h6⟩ := h
      exact oks_setLc w h1 h2 h3 h4 h5 h6
    · cases h
  | .setIx o i v, py, h => by
    unfold chkS at h
    split at h
    · simp only [Bool.and_eq_true, Bool.not_eq_true'] at h
      obtain ⟨⟨⟨⟨h1, h2⟩, h3⟩, h4⟩, h5⟩ := h
      exact oks_setIx (by have := w.wf.un; omega) h1 h2 (snd o w.wf h3) (snd i w.wf h4) (snd v w.wf h5)
    · cases h
  | .app o e, py, h => by
    unfold chkS at h
    split at h
    · simp only [Bool.and_eq_true, decide_eq_true_eq] at h
      obtain ⟨⟨⟨⟨⟨h1, h2⟩, h3⟩, h4⟩, h5⟩, h6⟩ := h
      exact oks_app h1 h2 h3 h4 (snd o w.wf h5) (snd e w.wf h6)
    · cases h
  | .ex e, py, h => by
    unfold chkS at h
    split at h
    · simp only [Bool.and_eq_true, Bool.not_eq_true'] at h
      exact oks_ex h.1 (snd e w.wf h.2)
    · cases h
  | .ret e, py, h => by
    unfold chkS at h
    split at h
    · exact oks_ret (snd e w.wf h)
    · cases h
  | .retN, py, h => by
    unfold chkS at h
    split at h
    · exact oks_retN
    · cases h
  | .ife c a b, py, h => by
    unfold chkS at h
    split at h
    · simp only [Bool.and_eq_true] at h
      exact oks_ife (snd c w.wf h.1.1) (sndSs w a h.1.2) (sndSs w b h.2)
    · cases h
  | .loop t it b, py, h => by
    unfold chkS at h
    split at h
    · simp only [Bool.and_eq_true] at h
      exact oks_loop w h.1.1 h.1.2 (sndSs w b h.2)
    · cases h
  | .pass, py, h => by
    unfold chkS at h
    split at h
    · exact oks_pass
    · cases h
  | .brk, py, h => by
    unfold chkS at h
    split at h
    · exact oks_brk
    · cases h
  | .cont, py, h => by
    unfold chkS at h
    split at h
    · exact oks_cont
    · cases h
theorem sndSs (w : WFS X C G XR E) : ∀ (ss : MSs) {py : List Stmt}, chkSs C ss py = true → PSs X py (rS X.K XR (fun _ => E) (svs G ss))
  | .nil, [], h => oks_nil
  | .cons s r, x :: xs, h => by
    simp only [chkSs, Bool.and_eq_true] at h
    exact oks_cons (sndS w s h.1) (sndSs w r h.2)
  | .nil, _ :: _, h => by simp [chkSs] at h
  | .cons _ _, [], h => by simp [chkSs] at h
end
end
end MP

set_option Elab.async false
set_option linter.all false
set_option autoImplicit false
set_option maxRecDepth 100000
set_option maxHeartbeats 2000000
/-! defs -/
namespace MP
open PySem PySem.Spec PyProof.Rows L2

structure Def where
  name : Str
  qual : Str
  cls : Option Str
  N : List Str
  np : Nat
  dfl : List PyData
  body : MSs
  st : Stmt
/-- what else is told of a text -/
structure Tabs where
  glbs : List (Str × PyData)
  gds : List (Str × List (Str × PyData))
  bl : List Str
  clsF : List (Str × Str)
  xcls : List (Str × Nat × List (Str × FE))
  xtab : List ((Str × Str) × Bool)
  xfld : List (Str × Str)
  hcs : List Str
/-- a call's end: the cells that it made dropped -/
def finD (n : Nat) (d : D) (st : Store) : R D := if dBelow n d = true then .ok d (gc n st) else .ok d st
def exBelow (n : Nat) (e : Exc) : Bool := e.fs.all fun q => dBelow n q.2
def finX (n : Nat) (e : Exc) (st : Store) : R D := if exBelow n e = true then .ex e (gc n st) else .ex e st
def finR (n : Nat) (r : R Fl) : R D :=
  match r with
  | .ok (.nx _) st => finD n (.p .none) st
  | .ok (.rt d) st => finD n d st
  | .ex e st => finX n e st
  | _ => .bad
/-- the names at the entry -/
def env0 (n : Nat) (ds : List D) : Env := ds.map some ++ List.replicate (n - ds.length) none
noncomputable def fnSem (G : Sem1) (d : Def) (ds : List D) (st : Store) : R D :=
  if ds.length = d.np then finR st.length (svs G d.body (env0 d.N.length ds) st) else .bad
noncomputable def semK (defs : List Def) : Nat → Sem1
  | 0, _, _, _ => .bad
  | k + 1, i, ds, st => match defs[i]? with
    | some d => fnSem (semK defs k) d ds st
    | none => semK defs k (i - defs.length) ds st
termination_by n => n
theorem semK_zero (defs : List Def) (i : Nat) (ds : List D) (st : Store) : semK defs 0 i ds st = .bad := by rw [semK]
theorem semK_succ (defs : List Def) (k i : Nat) (ds : List D) (st : Store) : semK defs (k + 1) i ds st = match defs[i]? with
    | some d => fnSem (semK defs k) d ds st
    | none => semK defs k (i - defs.length) ds st := by rw [semK]
def scC (d : Def) : Bool :=
  let sc := defScope d.st
  decide (sc.kind = .function) && !sc.isCoroutine && !sc.isGenerator && decide d.N.Nodup && decide (d.N.take (d.N.take d.np).length = d.N.take d.np) && decide (d.np ≤ d.N.length) &&
    (d.N.take d.np).all (fun x => decide (sc.names.lookup x = some .local ∨ sc.names.lookup x = some .cell)) && sc.names.all (fun y => decide (y.2 ≠ .free))
theorem scC_of {d : Def} (h : scC d = true) : FnScope d.N (d.N.take d.np) (defScope d.st) ∧ (d.N.take d.np).length = d.np := by
  unfold scC at h
  simp only [Bool.and_eq_true, decide_eq_true_eq, Bool.not_eq_true', List.all_eq_true] at h
  obtain ⟨⟨⟨⟨⟨⟨⟨h1, h2⟩, h3⟩, h4⟩, h5⟩, h6⟩, h7⟩, h8⟩ := h
  exact ⟨⟨h1, h2, h3, h4, h5, h7, h8⟩, by rw [List.length_take]; omega⟩
def methsOf (defs : List Def) : List (Str × Str × Nat) := (defs.zipIdx).filterMap fun q => match q.1.cls with
  | some c => if q.1.name == ("__init__" : Str) then none else some (c, q.1.name, q.2)
  | none => none
def newsOf (defs : List Def) : List (Str × Nat) := (defs.zipIdx).filterMap fun q => match q.1.cls with
  | some c => if q.1.name == ("__init__" : Str) then some (c, q.2 + defs.length) else none
  | none => none
def dfsOf (defs : List Def) : List (Nat × List PyData) := (defs.zipIdx).filterMap fun q => match q.1.cls with
  | some _ => none
  | none => if q.1.dfl.isEmpty then none else some (q.2, q.1.dfl)
def fnName (d : Def) : Option Str := match d.cls with
  | some _ => none
  | none => some d.name
/-- what is checked of a def's text -/
def ctxOf (defs : List Def) (T : Tabs) (d : Def) : Ctx := { N := d.N, sc := defScope d.st, fnC := true, tr := false, glbs := T.glbs, gds := T.gds, fns := defs.map fnName, bl := T.bl, clsF := T.clsF, meths := methsOf defs, news := newsOf defs, defs := dfsOf defs, xcls := T.xcls, xtab := T.xtab, xfld := T.xfld, hcs := T.hcs }
def defC (defs : List Def) (T : Tabs) (d : Def) : Bool := scC d && chkSs (ctxOf defs T d) d.body (defBody d.st)
/-- where a def stands behind the top -/
def FunAt (K : PySem.W.Frag) (mg : Str → Option Value) (d : Def) : Prop := match d.cls with
  | none => ∃ fa fd, Fun K d.name d.qual d.st fa fd ∧ mg d.name = some (.ref fa) ∧ Binds K fd (d.N.take d.np) [] ∧ (d.dfl ≠ [] → ∃ ds dvs, Binds K fd (d.N.take d.np) ds ∧ Vals dvs ds ∧ DpAll K (fun _ => none) dvs d.dfl)
  | some c => ∃ A fa fd, clsAt K c A ∧ Fun K d.name d.qual d.st fa fd ∧ Binds K fd (d.N.take d.np) [] ∧
      (if d.name == ("__init__" : Str) then mg c = some (.ref A) ∧ Mk K A fa else Cls K A ∧ Meth K A d.name fa)
structure Mods (K : PySem.W.Frag) (w : World) (mg : Str → Option Value) (defs : List Def) (T : Tabs) : Prop where
  fns : ∀ d ∈ defs, FunAt K mg d
  glb : ∀ x d, T.glbs.lookup x = some d → ∃ u v, mg x = some u ∧ RelV v u ∧ Dp K (fun _ => none) v d
  gds : ∀ x kvs, T.gds.lookup x = some kvs → ∃ p, mg x = some (.ref p) ∧ ∀ z d, kvs.lookup z = some d → ∃ v, KDct K w p z v ∧ Dp K (fun _ => none) v d
  bl : ∀ x, x ∈ T.bl → mg x = none
  clf : ∀ c f, (c, f) ∈ T.clsF → ∃ A, clsAt K c A ∧ Cls K A ∧ NoAttr K A f
  xmk : ∀ c np fs, (c, np, fs) ∈ T.xcls → ∃ A, clsAt K c A ∧ mg c = some (.ref A) ∧ PySem.W.subIn K (.ref A) (.type "BaseException") = some true ∧ PySem.W.typeIn K (.ref A) = some (.type "type") ∧
    ((fs = [] ∧ PySem.W.keepIn K (.ref A) = true ∧ PySem.W.excIn K A veBases "ValueError.__new__" = true) ∨
      (OexC K A ∧ ∃ fI fd ps, PySem.W.findIn K (.ref A) "__init__" = some (some (.ref fI)) ∧ PySem.W.typeIn K (.ref fI) = some (.type "function") ∧ (∀ (P : Program) (w : World) (base : Heap), FnOk P w K mg base (L2.CX P w) 1 fI fd ps (spInit K A np fs)) ∧ Binds K fd ps []))
  xmt : ∀ c d b, ((c, d), b) ∈ T.xtab → ∃ A B, clsAt K c A ∧ clsAt K d B ∧ mg d = some (.ref B) ∧ PySem.W.exmOne K (.ref A) (.ref B) = some b
  xcf : ∀ c f, (c, f) ∈ T.xfld → ∃ A, clsAt K c A ∧ XfC K A ∧ PySem.W.findIn K (.ref A) f = some none
  hcl : ∀ d, d ∈ T.hcs → ∃ B, clsAt K d B ∧ mg d = some (.ref B)
section
variable {P : Program} {w : World} {K : PySem.W.Frag} {mg : Str → Option Value} {base : Heap} {E : XK}
theorem er_start {F : Hp} {φ : List Addr} {N : List Str} {vs : List V} {ds : List D} (r : RDs K F φ vs ds) : ER K F φ (env0 N.length ds) (L2.start N vs) := by
  have hl := rds_length r
  unfold env0 L2.start
  refine ⟨by simp [hl], fun i d hi => ?_⟩
  by_cases hz : i < ds.length
  · rw [List.getElem?_append_left (by simpa using hz), List.getElem?_map] at hi
    obtain ⟨e, h1, h2⟩ := Option.map_eq_some_iff.mp hi
    cases h2
    obtain ⟨v, h3, h4⟩ := rds_get r h1
    refine ⟨v, ?_, h4⟩
    rw [List.getElem?_append_left (by simp; omega), List.getElem?_map, h3]
    rfl
  · rw [List.getElem?_append_right (by simp; omega), List.getElem?_replicate] at hi
    split at hi <;> cases hi
theorem XRel.low {F H : Hp} {φ φ' : List Addr} {n : Nat} {e : Exc} {cls : Value} {oa : Option Addr} (low : ∀ v d, RD K F φ v d → dBelow n d = true → RD K F φ' v d) (hb : exBelow n e = true) (h : XRel K F φ e cls oa H) : XRel K F φ' e cls oa H := by
  obtain ⟨C, h1, h2, h3⟩ := h
  refine ⟨C, h1, h2, h3.imp id ?_⟩
  rintro ⟨d, ws, e1, e2, e3⟩
  refine ⟨d, ws, e1, e2, fun f x hf => ?_⟩
  obtain ⟨v, g1, g2⟩ := e3 f x hf
  refine ⟨v, g1, low v x g2 ?_⟩
  have hm : (f, x) ∈ e.fs := by
    have key : ∀ {l : List (Str × D)}, l.lookup f = some x → (f, x) ∈ l := by
      intro l
      induction l with
      | nil => intro h; cases h
      | cons a r ih =>
        intro h
        obtain ⟨g, y⟩ := a
        rw [List.lookup_cons] at h
        split at h
        · rename_i hfg
          cases Option.some.inj h
          rw [eq_of_beq hfg]
          exact List.mem_cons_self
        · exact List.mem_cons_of_mem _ (ih h)
    exact key hf
  exact List.all_eq_true.mp hb _ hm
theorem sat_fin {r : R Fl} {F H : Hp} {φ : List Addr} {st : Store} {Q : VK} (S : SR K F φ st H) (h : Sat K (XRel K) E (QE K Q) F φ (finR st.length r)) :
    Sat K (XRel K) E (QS K { nx := fun _ H' => Q .non H', rt := Q }) F φ r := by
  have back : ∀ {F' H' : Hp} {φ' φ2 : List Addr}, Ext F φ F' φ' → (φ2 = φ' ∨ φ2 = φ'.take st.length) → Ext F φ F' φ2 := by
    intro F' H' φ' φ2 x hφ
    refine ⟨x.sub, ?_⟩
    rcases hφ with rfl | rfl
    · exact x.pre
    · rw [← S.len]; exact pre_take x.pre
  have key : ∀ d st', Sat K (XRel K) E (QE K Q) F φ (finD st.length d st') → ∀ F' φ' H', Ext F φ F' φ' → SR K F' φ' st' H' → ∀ v, RD K F' φ' v d → Q v H' := by
    intro d st' h F' φ' H' x S' v rv
    unfold finD at h
    split at h
    · rename_i hb
      obtain ⟨φ2, S2, hφ, low⟩ := S'.gc st.length
      exact h F' φ2 H' (back (H' := H') x hφ) S2 v (low v d rv hb)
    · exact h F' φ' H' x S' v rv
  cases r with
  | bad => exact h.elim
  | ex c st' =>
    intro F' φ' H' cls oa x S' hxr
    have h : Sat K (XRel K) E (QE K Q) F φ (finX st.length c st') := h
    unfold finX at h
    split at h
    · rename_i hb
      obtain ⟨φ2, S2, hφ, low⟩ := S'.gc st.length
      exact h F' φ2 H' cls oa (back (H' := H') x hφ) S2 (hxr.low low hb)
    · exact h F' φ' H' cls oa x S' hxr
  | ok f st' =>
    cases f with
    | nx env => exact fun F' φ' H' x S' σ' _ => key _ _ h F' φ' H' x S' .non rd_non
    | rt d => exact fun F' φ' H' x S' v rv => key _ _ h F' φ' H' x S' v rv
    | bk env => exact h.elim
    | ct env => exact h.elim
theorem dp_of_ints {K : PySem.W.Frag} {F : Hp} : ∀ ns : List Int, DpAll K F (ns.map V.int) (ns.map PyData.int)
  | [] => .nil
  | n :: r => .cons (.int n) (dp_of_ints r)
theorem semK_at {defs : List Def} {k i : Nat} {d : Def} (hd : defs[i]? = some d) (ds : List D) (st : Store) : semK defs (k + 1) i ds st = fnSem (semK defs k) d ds st := by
  rw [semK_succ, hd]
theorem semK_new {defs : List Def} {k i : Nat} (ds : List D) (st : Store) : semK defs (k + 1) (i + defs.length) ds st = semK defs k i ds st := by
  rw [semK_succ, List.getElem?_eq_none (by omega), Nat.add_sub_cancel]
theorem fnBad {k : Nat} {fa : Addr} {fd : FuncData} {ps : List Str} {XR : XRT} {sem : List D → Store → R D} (h : ∀ ds st, sem ds st = .bad) : FnOk P w K mg base (L2.CX P w) k fa fd ps (spOf K XR sem) := by
  refine ⟨fun vs H Q E hq => ?_, fun A outer s H args us vs Q E hr e0 hb r hq => ?_⟩
  · obtain ⟨ds, st, _, _, _, _, hq⟩ := hq
    rw [h ds st] at hq
    exact hq.elim
  · obtain ⟨ds, st, _, _, _, _, hq⟩ := hq
    rw [h ds st] at hq
    exact hq.elim
theorem zipIdx_mem {α : Type} {l : List α} {a : α} {i : Nat} (h : (a, i) ∈ l.zipIdx) : l[i]? = some a := by
  obtain ⟨j, hj, e⟩ := List.getElem_of_mem h
  rw [List.getElem_zipIdx] at e
  cases e
  simp only [List.length_zipIdx] at hj
  simp [hj]
/-- each def keeps its meaning, k calls deep -/
theorem fnOk {defs : List Def} {T : Tabs} (M : Mods K w mg defs T) (hc : ∀ d ∈ defs, defC defs T d = true) : ∀ (k : Nat) (i : Nat) (d : Def), defs[i]? = some d → ∀ fa fd, Fun K d.name d.qual d.st fa fd →
    FnOk P w K mg base (L2.CX P w) (k + 2) fa fd (d.N.take d.np) (spOf K (XRel K) (semK defs k i))
  | 0, i, d, hd, fa, fd, F => fnBad fun _ _ => semK_zero ..
  | k + 1, i, d, hd, fa, fd, F => by
    have hdm := List.mem_of_getElem? hd
    have hcd := hc d hdm
    unfold defC at hcd
    rw [Bool.and_eq_true] at hcd
    obtain ⟨hsc, hlen⟩ := scC_of hcd.1
    have sem_eq := fun ds st => semK_at (k := k) hd ds st
    refine F.okX hsc (fun vs H Q E h => ?_) (fun cdv A outer s H vs Q E hr h => ?_)
    · obtain ⟨ds, st, F', φ, S, r, h⟩ := h
      rw [sem_eq] at h
      unfold fnSem at h
      split at h
      · rename_i e
        rw [rds_length r, e, hlen]
      · exact h.elim
    · obtain ⟨ds, st, F', φ, S, r, h⟩ := h
      rw [sem_eq] at h
      unfold fnSem at h
      split at h
      · have tk : Takes (cxOf (L2.CX P w) P w K mg base d.N d.qual (defScope d.st) fa cdv A outer s H E) fun cls d σ H => E cls d H := takes_of rfl rfl rfl rfl
        have pcall : Passes (L2.CX P w) (cxOf (L2.CX P w) P w K mg base d.N d.qual (defScope d.st) fa cdv A outer s H E) E := passes_call tk fun cls d σ H h => h
        have wf : WF (cxOf (L2.CX P w) P w K mg base d.N d.qual (defScope d.st) fa cdv A outer s H E) (ctxOf defs T d) (semK defs k) (XRel K) (fun _ => E) := by
          refine ⟨rfl, rfl, hsc.nd, rfl, fun _ _ => rfl, M.glb, M.gds, M.bl, fun j f hj => ?_, M.clf, fun c m j hj => ?_, fun c j hj => ?_, fun j dv f hj hf => ?_, fun c np fs hm => ?_, M.xmt, M.xcf, M.hcl, fun _ => ⟨E, rfl, pcall⟩, fun σ pins H s e s' I c => pcall pins σ H s e s' I c, ?_⟩
          · have hj : (defs.map fnName)[j]? = some (some f) := hj
            rw [List.getElem?_map] at hj
            obtain ⟨d', h1, h2⟩ := Option.map_eq_some_iff.mp hj
            have hf := M.fns d' (List.mem_of_getElem? h1)
            unfold FunAt at hf
            unfold fnName at h2
            cases hcl : d'.cls with
            | none =>
              rw [hcl] at hf h2
              cases Option.some.inj h2
              obtain ⟨fa', fd', F2, hm, hb, _⟩ := hf
              exact ⟨k + 2, fa', fd', d'.N.take d'.np, fnOk M hc k j d' h1 fa' fd' F2, hr, hm, F2.kp, hb⟩
            | some c =>
              rw [hcl] at h2
              cases h2
          · obtain ⟨⟨d', j'⟩, h1, h2⟩ := List.mem_filterMap.mp hj
            have hf := M.fns d' (List.mem_of_getElem? (zipIdx_mem h1))
            unfold FunAt at hf
            dsimp only at h2
            split at h2
            · rename_i c' hcl
              split at h2
              · cases h2
              · rename_i hni
                cases Option.some.inj h2
                rw [hcl] at hf
                obtain ⟨A', fa', fd', g1, F2, hb, g2⟩ := hf
                rw [if_neg hni] at g2
                exact ⟨A', k + 2, fa', fd', d'.N.take d'.np, g1, g2.1, g2.2, fnOk M hc k j d' (zipIdx_mem h1) fa' fd' F2, hr, hb⟩
            · cases h2
          · obtain ⟨⟨d', j'⟩, h1, h2⟩ := List.mem_filterMap.mp hj
            have hf := M.fns d' (List.mem_of_getElem? (zipIdx_mem h1))
            unfold FunAt at hf
            dsimp only at h2
            split at h2
            · rename_i c' hcl
              split at h2
              · rename_i hni
                cases Option.some.inj h2
                rw [hcl] at hf
                obtain ⟨A', fa', fd', g1, F2, hb, g2⟩ := hf
                rw [if_pos hni] at g2
                cases k with
                | zero => exact ⟨A', 0, fa', fd', d'.N.take d'.np, g1, g2.1, g2.2, fnBad fun _ _ => semK_zero .., hr.mono (by omega), hb⟩
                | succ k =>
                  refine ⟨A', k + 2, fa', fd', d'.N.take d'.np, g1, g2.1, g2.2, ?_, hr.mono (by omega), hb⟩
                  have e : semK defs (k + 1) (j' + defs.length) = semK defs k j' := by funext ds st; exact semK_new ds st
                  rw [e]
                  exact fnOk M hc k j' d' (zipIdx_mem h1) fa' fd' F2
              · cases h2
            · cases h2
          · obtain ⟨⟨d', j'⟩, h1, h2⟩ := List.mem_filterMap.mp hj
            have hg := zipIdx_mem h1
            have hff := M.fns d' (List.mem_of_getElem? hg)
            unfold FunAt at hff
            dsimp only at h2
            split at h2
            · cases h2
            · rename_i hcl
              split at h2
              · cases h2
              · rename_i hne
                cases Option.some.inj h2
                rw [hcl] at hff
                obtain ⟨fa', fd', F2, hm, hb, hd2⟩ := hff
                obtain ⟨ds2, dvs, q1, q2, q3⟩ := hd2 (fun z => by rw [z] at hne; exact hne rfl)
                have hj2 : (defs.map fnName)[j]? = some (some f) := hf
                rw [List.getElem?_map, hg] at hj2
                have hfn : fnName d' = some f := Option.some.inj hj2
                unfold fnName at hfn
                rw [hcl] at hfn
                cases Option.some.inj hfn
                exact ⟨k + 2, fa', fd', d'.N.take d'.np, ds2, dvs, fnOk M hc k j d' hg fa' fd' F2, hr, hm, F2.kp, q1, q2, q3⟩
          · obtain ⟨A', g1, g2, g3, g4, g5⟩ := M.xmk c np fs hm
            refine ⟨A', g1, g2, raises_own g3 g4, ?_⟩
            rcases g5 with g5 | ⟨ox, fI, fd', ps, q1, q2, q3, q4⟩
            · exact .inl g5
            · exact .inr ⟨ox, 1, fI, fd', ps, q1, q2, q3 P w base, hr.mono (by omega), q4⟩
          · have := hr.un
            show (A.deeper _).units + 200 < cLine
            omega
        have wfs : WFS (cxOf (L2.CX P w) P w K mg base d.N d.qual (defScope d.st) fa cdv A outer s H E) (ctxOf defs T d) (semK defs k) (XRel K) E := ⟨wf, passes_of rfl, hsc.kind, rfl, tk, rfl, rfl⟩
        refine ⟨_, sndSs wfs d.body hcd.2, env0 d.N.length ds, st, F', φ, S, er_start r, sat_fin S h⟩
      · exact h.elim
end
end MP

set_option Elab.async false
set_option linter.all false
set_option autoImplicit false
set_option maxRecDepth 100000
set_option maxHeartbeats 1000000
/-! what holds behind a reading: a plain calculus -/
namespace MP
open PySem PySem.Spec PyProof.Rows L2

def wpe {α : Type} (X : Exc → Store → Prop) (r : R α) (Q : α → Store → Prop) : Prop :=
  match r with
  | .ok a st => Q a st
  | .ex e st => X e st
  | .bad => False
/-- nothing is raised -/
def NoX : Exc → Store → Prop := fun _ _ => False
variable {X : Exc → Store → Prop}
@[simp] theorem noX_F (e : Exc) (st : Store) : NoX e st = False := Eq.trans rfl rfl
section
variable {α β : Type} {Q : α → Store → Prop}
@[simp] theorem wp_ok (a : α) (st : Store) : wpe X (.ok a st) Q = Q a st := Eq.trans rfl rfl
@[simp] theorem wp_bad : wpe X (.bad : R α) Q = False := Eq.trans rfl rfl
@[simp] theorem wp_ex (e : Exc) (st : Store) : wpe X (.ex e st : R α) Q = X e st := Eq.trans rfl rfl
@[simp] theorem wp_bind (r : R α) (k : α → Store → R β) (Q : β → Store → Prop) : wpe X (r.bind k) Q = wpe X r fun a st => wpe X (k a st) Q := by cases r <;> rfl
theorem wp_mono {r : R α} {Q' : α → Store → Prop} (h : wpe X r Q) (i : ∀ a st, Q a st → Q' a st) : wpe X r Q' := by
  cases r with
  | ok a st => exact i a st h
  | _ => exact h
theorem wpe_of {r : R α} (h : wpe NoX r Q) : wpe X r Q := by
  cases r with
  | ok a st => exact h
  | _ => exact h.elim
theorem wpe_mono {X' : Exc → Store → Prop} {r : R α} {Q' : α → Store → Prop} (h : wpe X r Q) (i : ∀ a st, Q a st → Q' a st) (j : ∀ e st, X e st → X' e st) : wpe X' r Q' := by
  cases r with
  | ok a st => exact i a st h
  | ex e st => exact j e st h
  | bad => exact h
theorem wp_elim {r : R α} (h : wpe NoX r Q) : ∃ a st, r = .ok a st ∧ Q a st := by
  cases r with
  | ok a st => exact ⟨a, st, rfl, h⟩
  | _ => exact h.elim
@[simp] theorem wp_noEx (r : R α) : wpe X (noEx r) Q = wpe NoX r Q := by cases r <;> rfl
theorem wp_catch (r : R Fl) (k : Exc → Store → R Fl) (Q : Fl → Store → Prop) : wpe X (catchR r k) Q = wpe (fun e st => wpe X (k e st) Q) r Q := by cases r <;> rfl
@[simp] theorem wp_ite (c : Prop) [Decidable c] (a b : R α) : wpe X (if c then a else b) Q = if c then wpe X a Q else wpe X b Q := by split <;> rfl
end
def QF (Q : Fl → Store → Prop) (k : Env → Store → Prop) : Fl → Store → Prop
  | .nx env, st => k env st
  | f, st => Q f st
@[simp] theorem QF_nx (Q : Fl → Store → Prop) (k : Env → Store → Prop) (env : Env) (st : Store) : QF Q k (.nx env) st = k env st := Eq.trans rfl rfl
@[simp] theorem QF_rt (Q : Fl → Store → Prop) (k : Env → Store → Prop) (d : D) (st : Store) : QF Q k (.rt d) st = Q (.rt d) st := Eq.trans rfl rfl
@[simp] theorem QF_bk (Q : Fl → Store → Prop) (k : Env → Store → Prop) (env : Env) (st : Store) : QF Q k (.bk env) st = Q (.bk env) st := Eq.trans rfl rfl
@[simp] theorem QF_ct (Q : Fl → Store → Prop) (k : Env → Store → Prop) (env : Env) (st : Store) : QF Q k (.ct env) st = Q (.ct env) st := Eq.trans rfl rfl
@[simp] theorem wp_then (r : R Fl) (k : Env → Store → R Fl) (Q : Fl → Store → Prop) : wpe X (thenR r k) Q = wpe X r (QF Q fun env st => wpe X (k env st) Q) := by
  cases r with
  | ok f st => cases f <;> rfl
  | _ => rfl
/-- a loop's turn -/
def QN (Q : Fl → Store → Prop) (k : Env → Store → Prop) : Fl → Store → Prop
  | .nx env, st => k env st
  | .ct env, st => k env st
  | .bk env, st => Q (.nx env) st
  | .rt d, st => Q (.rt d) st
@[simp] theorem QN_nx (Q : Fl → Store → Prop) (k : Env → Store → Prop) (env : Env) (st : Store) : QN Q k (.nx env) st = k env st := Eq.trans rfl rfl
@[simp] theorem QN_rt (Q : Fl → Store → Prop) (k : Env → Store → Prop) (d : D) (st : Store) : QN Q k (.rt d) st = Q (.rt d) st := Eq.trans rfl rfl
@[simp] theorem QN_bk (Q : Fl → Store → Prop) (k : Env → Store → Prop) (env : Env) (st : Store) : QN Q k (.bk env) st = Q (.nx env) st := Eq.trans rfl rfl
@[simp] theorem QN_ct (Q : Fl → Store → Prop) (k : Env → Store → Prop) (env : Env) (st : Store) : QN Q k (.ct env) st = k env st := Eq.trans rfl rfl
theorem wp_next (r : R Fl) (k : Env → Store → R Fl) (Q : Fl → Store → Prop) : wpe X (nextR r k) Q = wpe X r (QN Q fun env st => wpe X (k env st) Q) := by
  cases r with
  | ok f st => cases f <;> rfl
  | _ => rfl
def QT1 (Q : Bool → Store → Prop) : D → Store → Prop := fun d st => ∃ k, tru d st = some k ∧ Q k st
@[simp] theorem wp_truR (r : R D) (Q : Bool → Store → Prop) : wpe X (truR r) Q = wpe X r (QT1 Q) := by
  unfold truR
  rw [wp_bind]
  congr 1
  funext d st
  unfold QT1
  cases tru d st with
  | none => simp
  | some k => simp
@[simp] theorem QT1_bool (Q : Bool → Store → Prop) (b : Bool) (st : Store) : QT1 Q (.p (.bool b)) st = Q b st := by
  unfold QT1; simp [tru]
/-- the end of a call -/
def QE1 (X : Exc → Store → Prop) (n : Nat) (Q : D → Store → Prop) : Fl → Store → Prop
  | .nx _, st => wpe X (finD n (.p .none) st) Q
  | .rt d, st => wpe X (finD n d st) Q
  | _, _ => False
/-- .. where it raises -/
def XE1 (X : Exc → Store → Prop) (n : Nat) : Exc → Store → Prop := fun e st => if exBelow n e = true then X e (gc n st) else X e st
theorem wp_finX (n : Nat) (e : Exc) (st : Store) (Q : D → Store → Prop) : wpe X (finX n e st) Q = XE1 X n e st := by
  unfold finX XE1
  split <;> rfl
@[simp] theorem wp_fin (n : Nat) (r : R Fl) (Q : D → Store → Prop) : wpe X (finR n r) Q = wpe (XE1 X n) r (QE1 X n Q) := by
  cases r with
  | ok f st => cases f <;> rfl
  | ex e st => exact wp_finX n e st Q
  | bad => rfl
@[simp] theorem QE1_nx (n : Nat) (Q : D → Store → Prop) (env : Env) (st : Store) : QE1 X n Q (.nx env) st = wpe X (finD n (.p .none) st) Q := Eq.trans rfl rfl
@[simp] theorem QE1_rt (n : Nat) (Q : D → Store → Prop) (d : D) (st : Store) : QE1 X n Q (.rt d) st = wpe X (finD n d st) Q := Eq.trans rfl rfl
theorem wp_finP {n : Nat} {x : PyData} {st : Store} {Q : D → Store → Prop} : wpe X (finD n (.p x) st) Q = Q (.p x) (gc n st) := Eq.trans rfl rfl
theorem sem_eq {defs : List Def} {k i : Nat} {d : Def} (h : defs[i]? = some d) {ds : List D} {st : Store} (hl : ds.length = d.np) : semK defs (k + 1) i ds st = finR st.length (svs (semK defs k) d.body (env0 d.N.length ds) st) := by
  rw [semK_at h, fnSem, if_pos hl]
/-- a call -/
theorem wpe_sem {defs : List Def} {k i : Nat} {d : Def} (h : defs[i]? = some d) {ds : List D} {st : Store} {Q : D → Store → Prop} (hl : ds.length = d.np)
    (hw : wpe (XE1 X st.length) (svs (semK defs k) d.body (env0 d.N.length ds) st) (QE1 X st.length Q)) : wpe X (semK defs (k + 1) i ds st) Q := by
  rw [sem_eq h hl, wp_fin]
  exact hw
theorem wp_sem {defs : List Def} {k i : Nat} {d : Def} (h : defs[i]? = some d) {ds : List D} {st : Store} {Q : D → Store → Prop} (hl : ds.length = d.np)
    (hw : wpe NoX (svs (semK defs k) d.body (env0 d.N.length ds) st) (QE1 X st.length Q)) : wpe X (semK defs (k + 1) i ds st) Q :=
  wpe_sem h hl (wpe_of hw)
/-- the cells above are dropped -/
theorem gc_app {st ex : Store} (h : st.all (cellBelow st.length) = true) : gc st.length (st ++ ex) = st := by
  unfold gc
  rw [List.take_left, if_pos h]
theorem gc_at {n : Nat} {st ex : Store} (e : n = st.length) (h : st.all (cellBelow n) = true) : gc n (st ++ ex) = st := by
  subst e; exact gc_app h
theorem gc_self {n : Nat} {st : Store} (e : n = st.length) : gc n st = st := by
  subst e; unfold gc; rw [List.take_length]; split <;> rfl
/-- a loop over items, an invariant by the place -/
theorem wp_for {gd : Store → Prop} {tg : MT} {body : Env → Store → R Fl} {Q : Fl → Store → Prop} (I : Nat → Env → Store → Prop) (its : List Itm)
    (hg : ∀ j env st, I j env st → gd st)
    (hb : ∀ j (h : j < its.length) env st, I j env st → ∃ env1, bindI st tg its[j] env = some env1 ∧ wpe X (body env1 st) (QN Q (I (j + 1))))
    (he : ∀ env st, I its.length env st → Q (.nx env) st) : ∀ (n j : Nat) (env : Env) (st : Store), j + n = its.length → I j env st → wpe X (forL gd tg body (its.drop j) env st) Q
  | 0, j, env, st, e, hi => by
    have : its.drop j = [] := List.drop_of_length_le (by omega)
    rw [this]
    unfold forL
    rw [if_pos (hg j env st hi)]
    have e : j = its.length := by omega
    subst e
    exact he env st hi
  | n + 1, j, env, st, e, hi => by
    have hj : j < its.length := by omega
    have : its.drop j = its[j] :: its.drop (j + 1) := List.drop_eq_getElem_cons hj
    rw [this]
    unfold forL
    rw [if_pos (hg j env st hi)]
    obtain ⟨env1, h1, h2⟩ := hb j hj env st hi
    rw [h1]
    show wpe X (nextR _ _) Q
    rw [wp_next]
    refine wp_mono h2 fun f st' h => ?_
    have ih := fun env st => wp_for I its hg hb he n (j + 1) env st (by omega)
    cases f with
    | nx env' => exact ih env' st' h
    | ct env' => exact ih env' st' h
    | rt d => exact h
    | bk env' => exact h
theorem wp_for0 {gd : Store → Prop} {tg : MT} {body : Env → Store → R Fl} {Q : Fl → Store → Prop} (I : Nat → Env → Store → Prop) {its : List Itm} {env : Env} {st : Store} (h0 : I 0 env st)
    (hg : ∀ j env st, I j env st → gd st)
    (hb : ∀ j (h : j < its.length) env st, I j env st → ∃ env1, bindI st tg its[j] env = some env1 ∧ wpe X (body env1 st) (QN Q (I (j + 1))))
    (he : ∀ env st, I its.length env st → Q (.nx env) st) : wpe X (forL gd tg body its env st) Q := by
  have := wp_for I its hg hb he its.length 0 env st (by omega) h0
  rwa [List.drop_zero] at this
/-- .. a comprehension -/
theorem wp_lc {gd : Store → Prop} {n : Nat} {tg : MT} {cond elt : MD} {env0 : Env} {Q : Unit → Store → Prop} (I : Nat → List D → Store → Prop) (its : List Itm)
    (hn : ∀ j acc st, I j acc st → cellL st n = some acc)
    (hg : ∀ j acc st, I j acc st → gd st)
    (hb : ∀ j (h : j < its.length) acc st, I j acc st → ∃ env1, bindI st tg its[j] env0 = some env1 ∧ wpe NoX (cond env1 st) (QT1 fun b st1 => if b = true then wpe NoX (elt env1 st1) fun d st2 => ∃ acc', cellL st2 n = some acc' ∧ acc'.length < SZ ∧ I (j + 1) (acc' ++ [d]) (st2.set n (.lst (acc' ++ [d])))
        else ∃ acc', I (j + 1) acc' st1))
    (he : ∀ acc st, I its.length acc st → Q () st) : ∀ (m j : Nat) (acc : List D) (st : Store), j + m = its.length → I j acc st → wpe X (lcL gd n tg cond elt env0 (its.drop j) st) Q
  | 0, j, acc, st, e, hi => by
    have : its.drop j = [] := List.drop_of_length_le (by omega)
    rw [this]
    unfold lcL
    rw [if_pos (hg j acc st hi)]
    have e : j = its.length := by omega
    subst e
    exact he acc st hi
  | m + 1, j, acc, st, e, hi => by
    have hj : j < its.length := by omega
    have : its.drop j = its[j] :: its.drop (j + 1) := List.drop_eq_getElem_cons hj
    rw [this]
    unfold lcL
    rw [if_pos (hg j acc st hi)]
    obtain ⟨env1, h1, h2⟩ := hb j hj acc st hi
    rw [h1]
    have ih := fun acc st => wp_lc I its hn hg hb he m (j + 1) acc st (by omega)
    simp only [wp_bind, wp_noEx, wp_truR]
    refine wp_mono h2 fun d st1 ⟨k, hk, h3⟩ => ⟨k, hk, ?_⟩
    cases k with
    | true =>
      simp only [if_true, wp_bind, wp_noEx] at h3 ⊢
      refine wp_mono h3 fun d st2 ⟨acc', h4, h5, h6⟩ => ?_
      rw [h4]
      simp only [wp_ite]
      rw [if_pos h5]
      exact ih _ _ h6
    | false =>
      obtain ⟨acc', h4⟩ := h3
      exact ih acc' st1 h4
/-- a comprehension that changes nothing else: the values are a map of the items that stay -/
theorem wp_lcMap {gd : Store → Prop} {tg : MT} {cond elt : MD} {env0 : Env} {Q : Unit → Store → Prop} {its : List Itm} {base : Store} (f : Itm → D)
    (hg : ∀ acc, gd (base ++ [.lst acc])) (hz : its.length ≤ SZ)
    (hb : ∀ it ∈ its, ∀ acc, ∃ env1, bindI (base ++ [.lst acc]) tg it env0 = some env1 ∧ cond env1 (base ++ [.lst acc]) = .ok (.p (.bool true)) (base ++ [.lst acc]) ∧ elt env1 (base ++ [.lst acc]) = .ok (f it) (base ++ [.lst acc]))
    (he : Q () (base ++ [.lst (its.map f)])) : wpe X (lcL gd base.length tg cond elt env0 its (base ++ [.lst []])) Q := by
  have hc : ∀ acc, cellL (base ++ [Cell.lst acc]) base.length = some acc := fun acc => by
    unfold cellL
    rw [List.getElem?_concat_length]
  have := wp_lc (X := X) (gd := gd) (n := base.length) (tg := tg) (cond := cond) (elt := elt) (env0 := env0) (Q := Q) (fun j acc st => acc = (its.take j).map f ∧ st = base ++ [.lst acc]) its (fun j acc st h => by rw [h.2]; exact hc acc) (fun j acc st h => by rw [h.2]; exact hg acc)
    (fun j hj acc st h => by
      obtain ⟨h1, rfl⟩ := h
      obtain ⟨env1, q1, q2, q3⟩ := hb its[j] (List.getElem_mem hj) acc
      refine ⟨env1, q1, ?_⟩
      rw [q2, wp_ok, QT1_bool, if_pos rfl, q3, wp_ok]
      refine ⟨acc, hc acc, ?_, ?_, ?_⟩
      · rw [h1, List.length_map, List.length_take]; omega
      · rw [h1, List.take_succ_eq_append_getElem hj, List.map_append]; rfl
      · rw [List.set_append_right _ _ (Nat.le_refl _)]; simp)
    (fun acc st h => by
      obtain ⟨h1, rfl⟩ := h
      rw [List.take_length] at h1
      rw [h1]
      exact he) its.length 0 [] (base ++ [.lst []]) (by omega) ⟨rfl, rfl⟩
  rwa [List.drop_zero] at this
theorem wp_lc0 {gd : Store → Prop} {n : Nat} {tg : MT} {cond elt : MD} {env0 : Env} {Q : Unit → Store → Prop} (I : Nat → List D → Store → Prop) {its : List Itm} {st : Store} (h0 : I 0 [] st)
    (hn : ∀ j acc st, I j acc st → cellL st n = some acc)
    (hg : ∀ j acc st, I j acc st → gd st)
    (hb : ∀ j (h : j < its.length) acc st, I j acc st → ∃ env1, bindI st tg its[j] env0 = some env1 ∧ wpe NoX (cond env1 st) (QT1 fun b st1 => if b = true then wpe NoX (elt env1 st1) fun d st2 => ∃ acc', cellL st2 n = some acc' ∧ acc'.length < SZ ∧ I (j + 1) (acc' ++ [d]) (st2.set n (.lst (acc' ++ [d])))
        else ∃ acc', I (j + 1) acc' st1))
    (he : ∀ acc st, I its.length acc st → Q () st) : wpe X (lcL gd n tg cond elt env0 its st) Q := by
  have := wp_lc (X := X) I its hn hg hb he its.length 0 [] st (by omega) h0
  rwa [List.drop_zero] at this

/-! operations on known kinds (as equations that are not unfolded again) -/
section
variable {st : Store}
theorem nr {α : Sort _} {a b : α} (h : a = b) : a = b := Eq.trans h rfl
theorem e_add (i j : Int) : binD .Add (.p (.int i)) (.p (.int j)) st = .ok (.p (.int (i + j))) st := nr rfl
theorem e_sub (i j : Int) : binD .Sub (.p (.int i)) (.p (.int j)) st = .ok (.p (.int (i - j))) st := nr rfl
theorem e_mul (i j : Int) : binD .Mult (.p (.int i)) (.p (.int j)) st = if mulOk i j = true then .ok (.p (.int (i * j))) st else .bad := nr rfl
theorem e_div (i j : Int) : binD .FloorDiv (.p (.int i)) (.p (.int j)) st = if 0 < j ∧ j < 2 ^ 100 then .ok (.p (.int (i / j))) st else .bad := nr rfl
theorem e_mod (i j : Int) : binD .Mod (.p (.int i)) (.p (.int j)) st = if 0 < j then .ok (.p (.int (i % j))) st else .bad := nr rfl
theorem e_pow18 : binD .Pow (.p (.int 10)) (.p (.int 18)) st = .ok (.p (.int 1000000000000000000)) st := by
  simp [binD, powD]
theorem e_pow17 : binD .Pow (.p (.int 10)) (.p (.int 17)) st = .ok (.p (.int 100000000000000000)) st := by
  simp [binD, powD]
theorem e_pow12 : binD .Pow (.p (.int 10)) (.p (.int 12)) st = .ok (.p (.int 1000000000000)) st := by
  simp [binD, powD]
theorem e_lt (i j : Int) : cmpD .Lt (.p (.int i)) (.p (.int j)) st = .ok (.p (.bool (decide (i < j)))) st := nr rfl
theorem e_gt (i j : Int) : cmpD .Gt (.p (.int i)) (.p (.int j)) st = .ok (.p (.bool (decide (j < i)))) st := nr rfl
theorem e_le (i j : Int) : cmpD .LtE (.p (.int i)) (.p (.int j)) st = .ok (.p (.bool (!decide (j < i)))) st := nr rfl
theorem e_ge (i j : Int) : cmpD .GtE (.p (.int i)) (.p (.int j)) st = .ok (.p (.bool (!decide (i < j)))) st := nr rfl
theorem e_eqi (i j : Int) : cmpD .Eq (.p (.int i)) (.p (.int j)) st = .ok (.p (.bool (i == j))) st := nr rfl
theorem e_nei (i j : Int) : cmpD .NotEq (.p (.int i)) (.p (.int j)) st = .ok (.p (.bool (!(i == j)))) st := nr rfl
theorem e_eqs (i j : Str) : cmpD .Eq (.p (.str i)) (.p (.str j)) st = .ok (.p (.bool (i == j))) st := nr rfl
theorem e_nes (i j : Str) : cmpD .NotEq (.p (.str i)) (.p (.str j)) st = .ok (.p (.bool (!(i == j)))) st := nr rfl
theorem mulOk_r {i j : Int} (h : j.natAbs < 18446744073709551616) : mulOk i j = true := by
  unfold mulOk
  rw [Bool.or_eq_true]
  exact .inr (decide_eq_true h)
theorem mulOk_l {i j : Int} (h : i.natAbs < 18446744073709551616) : mulOk i j = true := by
  unfold mulOk
  rw [Bool.or_eq_true]
  exact .inl (decide_eq_true h)
theorem wp_if {α : Type} {c : Prop} [Decidable c] {a b : R α} {Q : α → Store → Prop} (hc : c) (h : wpe X a Q) : wpe X (if c then a else b) Q := by rw [if_pos hc]; exact h
end
section
variable {G : Sem1}
theorem e_ev_var (i : Nat) (env : Env) (st : Store) : ev G (ME.var i) env st = (varD env i st) := nr rfl
theorem e_ev_lit (x : PyData) (env : Env) (st : Store) : ev G (ME.lit x) env st = (.ok (.p x) st) := nr rfl
theorem e_ev_glb (x : PyData) (env : Env) (st : Store) : ev G (ME.glb x) env st = (.ok (.p x) st) := nr rfl
theorem e_ev_gix (kvs : List (Str × PyData)) (e : ME) (env : Env) (st : Store) : ev G (ME.gix kvs e) env st = ((ev G e env st).bind fun x st => gixD kvs x st) := nr rfl
theorem e_ev_bin (o : Operator) (a b : ME) (env : Env) (st : Store) : ev G (ME.bin o a b) env st = ((ev G a env st).bind fun x st => (ev G b env st).bind fun y st => binD o x y st) := nr rfl
theorem e_ev_neg (a : ME) (env : Env) (st : Store) : ev G (ME.neg a) env st = ((ev G a env st).bind fun x st => negD x st) := nr rfl
theorem e_ev_not (a : ME) (env : Env) (st : Store) : ev G (ME.not a) env st = ((truR (ev G a env st)).bind fun k st => .ok (.p (.bool (!k))) st) := nr rfl
theorem e_ev_and (a b : ME) (env : Env) (st : Store) : ev G (ME.and a b) env st = ((ev G a env st).bind fun x st => match tru x st with
    | some true => ev G b env st
    | some false => .ok x st
    | none => .bad) := nr rfl
theorem e_ev_or (a b : ME) (env : Env) (st : Store) : ev G (ME.or a b) env st = ((ev G a env st).bind fun x st => match tru x st with
    | some true => .ok x st
    | some false => ev G b env st
    | none => .bad) := nr rfl
theorem e_ev_one (a : ME) (env : Env) (st : Store) : ev G (ME.one a) env st = (ev G a env st) := nr rfl
theorem e_ev_cmp (o : CmpOp) (a b : ME) (env : Env) (st : Store) : ev G (ME.cmp o a b) env st = ((ev G a env st).bind fun x st => (ev G b env st).bind fun y st => cmpD o x y st) := nr rfl
theorem e_ev_cmp2 (o o2 : CmpOp) (a b c : ME) (env : Env) (st : Store) : ev G (ME.cmp2 o o2 a b c) env st = ((ev G a env st).bind fun x st => (ev G b env st).bind fun y st => (cmpD o x y st).bind fun k st => match k with
    | .p (.bool true) => (ev G c env st).bind fun z st => cmpD o2 y z st
    | .p (.bool false) => .ok (.p (.bool false)) st
    | _ => .bad) := nr rfl
theorem e_ev_ife (c a b : ME) (env : Env) (st : Store) : ev G (ME.ife c a b) env st = ((truR (ev G c env st)).bind fun k st => if k = true then ev G a env st else ev G b env st) := nr rfl
theorem e_ev_tup (es : MEs) (env : Env) (st : Store) : ev G (ME.tup es) env st = ((evs G es env st).bind fun ds st => if ds.length ≤ SZ then mkT ds st else .bad) := nr rfl
theorem e_ev_lst (c : Bool) (es : MEs) (env : Env) (st : Store) : ev G (ME.lst c es) env st = ((evs G es env st).bind fun ds st => if ds.length ≤ SZ then mkL c ds st else .bad) := nr rfl
theorem e_ev_frz (a : ME) (env : Env) (st : Store) : ev G (ME.frz a) env st = ((ev G a env st).bind fun x st => frzD x st) := nr rfl
theorem e_ev_rev (a : ME) (env : Env) (st : Store) : ev G (ME.rev a) env st = ((ev G a env st).bind fun x st => revD x st) := nr rfl
theorem e_ev_dctE (t : Bool) (env : Env) (st : Store) : ev G (ME.dctE t) env st = (.ok (.c st.length) (st ++ [if t = true then .dtt [] else .dct []])) := nr rfl
theorem e_ev_dct (ks : List Str) (es : MEs) (env : Env) (st : Store) : ev G (ME.dct ks es) env st = ((evs G es env (st ++ [.dct []])).bind fun ds st1 => dispD st.length ks ds st1) := nr rfl
theorem e_ev_fld (a : ME) (f : Str) (cs : List Str) (env : Env) (st : Store) : ev G (ME.fld a f cs) env st = ((ev G a env st).bind fun x st => fldD f cs x st) := nr rfl
theorem e_ev_meth (c : Str) (i : Nat) (m : Str) (o : ME) (es : MEs) (env : Env) (st : Store) : ev G (ME.meth c i m o es) env st = ((ev G o env st).bind fun x st => match insOf x st with
    | some (_, c', fs) => if c' = c ∧ (valD fs m).isSome = false then (evs G es env st).bind fun ds st => G i (x :: ds) st else .bad
    | none => .bad) := nr rfl
theorem e_ev_new (c : Str) (i : Nat) (es : MEs) (env : Env) (st : Store) : ev G (ME.new c i es) env st = ((evs G es env st).bind fun ds st => (G i (.c st.length :: ds) (st ++ [.ins c []])).bind fun d st1 => match d with
    | .p .none => .ok (.c st.length) st1
    | _ => .bad) := nr rfl
theorem e_ev_callT (fs : List Nat) (i : ME) (es : MEs) (env : Env) (st : Store) : ev G (ME.callT fs i es) env st = ((ev G i env st).bind fun x st => match x with
    | .p (.int k) => match atI fs k with
      | some f => (evs G es env st).bind fun ds st => G f ds st
      | none => .bad
    | _ => .bad) := nr rfl
theorem e_ev_callD (f : Nat) (es : MEs) (dv : List PyData) (env : Env) (st : Store) : ev G (ME.callD f es dv) env st = ((evs G es env st).bind fun ds st => G f (ds ++ dv.map .p) st) := nr rfl
theorem e_ev_mcall (m : Mth) (o : ME) (es : MEs) (env : Env) (st : Store) : ev G (ME.mcall m o es) env st = ((ev G o env st).bind fun x st => match items x st with
    | some _ => (evs G es env st).bind fun ds st => mthD m x ds st
    | none => .bad) := nr rfl
theorem e_ev_ix (a b : ME) (env : Env) (st : Store) : ev G (ME.ix a b) env st = ((ev G a env st).bind fun x st => (ev G b env st).bind fun y st => ixD x y st) := nr rfl
theorem e_ev_sl (a : ME) (lo hi : MO) (env : Env) (st : Store) : ev G (ME.sl a lo hi) env st = ((ev G a env st).bind fun x st => (evo G lo env st).bind fun l st => (evo G hi env st).bind fun h st => slD x l h st) := nr rfl
theorem e_ev_bi (f : Bi) (a : ME) (env : Env) (st : Store) : ev G (ME.bi f a) env st = ((ev G a env st).bind fun x st => bi1D f x st) := nr rfl
theorem e_ev_mx2 (m : Bool) (a b : ME) (env : Env) (st : Store) : ev G (ME.mx2 m a b) env st = ((ev G a env st).bind fun x st => (ev G b env st).bind fun y st => max2D m x y st) := nr rfl
theorem e_ev_isi (T : String) (a : ME) (env : Env) (st : Store) : ev G (ME.isi T a) env st = ((ev G a env st).bind fun x st => isiD T x st) := nr rfl
theorem e_ev_call (f : Nat) (es : MEs) (env : Env) (st : Store) : ev G (ME.call f es) env st = ((evs G es env st).bind fun ds st => G f ds st) := nr rfl
theorem e_ev_join (a b : ME) (env : Env) (st : Store) : ev G (ME.join a b) env st = ((ev G a env st).bind fun x st => match x with
    | .p (.str z) => (ev G b env st).bind fun y st => joinD z y st
    | _ => .bad) := nr rfl
theorem e_ev_lc (c : Bool) (own : List Nat) (tg : MT) (it : MI) (cond : MO) (elt : ME) (env : Env) (st : Store) : ev G (ME.lc c own tg it cond elt) env st = ((evi G it env st).bind fun p st1 =>
      (lcL p.2 st1.length tg (evc G cond) (ev G elt) (wipeE env own) p.1 (st1 ++ [.lst []])).bind fun _ st2 => lcEnd c st1.length st2) := nr rfl
theorem e_evs_nil  (env : Env) (st : Store) : evs G (MEs.nil) env st = (.ok [] st) := nr rfl
theorem e_evs_cons (e : ME) (r : MEs) (env : Env) (st : Store) : evs G (MEs.cons e r) env st = ((ev G e env st).bind fun x st => (evs G r env st).bind fun xs st => .ok (x :: xs) st) := nr rfl
theorem e_evo_none  (env : Env) (st : Store) : evo G (MO.none) env st = (.ok none st) := nr rfl
theorem e_evo_some (e : ME) (env : Env) (st : Store) : evo G (MO.some e) env st = ((ev G e env st).bind fun x st => match x with
    | .p (.int i) => .ok (some i) st
    | _ => .bad) := nr rfl
theorem e_evc_none  (env : Env) (st : Store) : evc G (MO.none) env st = (.ok (.p (.bool true)) st) := nr rfl
theorem e_evc_some (e : ME) (env : Env) (st : Store) : evc G (MO.some e) env st = (ev G e env st) := nr rfl
theorem e_evi_seq (e : ME) (env : Env) (st : Store) : evi G (MI.seq e) env st = ((ev G e env st).bind fun x st => seqI x st) := nr rfl
theorem e_evi_rng1 (a : ME) (env : Env) (st : Store) : evi G (MI.rng1 a) env st = ((ev G a env st).bind fun x st => match x with
    | .p (.int i) => rngI 0 i st
    | _ => .bad) := nr rfl
theorem e_evi_rng2 (a b : ME) (env : Env) (st : Store) : evi G (MI.rng2 a b) env st = ((ev G a env st).bind fun x st => (ev G b env st).bind fun y st => match x, y with
    | .p (.int i), .p (.int j) => rngI i j st
    | _, _ => .bad) := nr rfl
theorem e_evi_enum (a : ME) (env : Env) (st : Store) : evi G (MI.enum a) env st = ((ev G a env st).bind fun x st => enumI x st) := nr rfl
theorem e_evi_zip (a b : ME) (env : Env) (st : Store) : evi G (MI.zip a b) env st = ((ev G a env st).bind fun x st => (ev G b env st).bind fun y st => zipI x y st) := nr rfl
theorem e_tbv_nil  (env : Env) (st : Store) : tbv G (TB.nil) env st = (.ok (.nx env) st) := nr rfl
theorem e_tbv_ex (e : ME) (env : Env) (st : Store) : tbv G (TB.ex e) env st = ((ev G e env st).bind fun _ st => .ok (.nx env) st) := nr rfl
theorem e_tbv_set (t : MT) (e : ME) (env : Env) (st : Store) : tbv G (TB.set t e) env st = ((ev G e env st).bind fun d st => match bindD st t d env with
    | some env => .ok (.nx env) st
    | none => .bad) := nr rfl
theorem e_tbv_exSet (e : ME) (t : MT) (q : ME) (env : Env) (st : Store) : tbv G (TB.exSet e t q) env st = ((ev G e env st).bind fun _ st => (noEx (ev G q env st)).bind fun d st => match bindD st t d env with
    | some env => .ok (.nx env) st
    | none => .bad) := nr rfl
theorem e_tbv_ife (c : ME) (a b : TB) (env : Env) (st : Store) : tbv G (TB.ife c a b) env st = ((truR (ev G c env st)).bind fun k st => if k = true then tbv G a env st else tbv G b env st) := nr rfl
theorem e_sv_set (t : MT) (e : ME) (env : Env) (st : Store) : sv G (MS.set t e) env st = ((ev G e env st).bind fun d st => match bindD st t d env with
    | some env => .ok (.nx env) st
    | none => .bad) := nr rfl
theorem e_sv_setLc (i : Nat) (e : ME) (env : Env) (st : Store) : sv G (MS.setLc i e) env st = ((ev G e env st).bind fun d st => .ok (.nx (env.set i (some d))) st) := nr rfl
theorem e_sv_setIx (o i v : ME) (env : Env) (st : Store) : sv G (MS.setIx o i v) env st = ((ev G v env st).bind fun x st => (ev G o env st).bind fun o st => (ev G i env st).bind fun i st => setIxD o i x env st) := nr rfl
theorem e_sv_app (o e : ME) (env : Env) (st : Store) : sv G (MS.app o e) env st = ((ev G o env st).bind fun o st => match o with
    | .c n => match cellL st n with
      | some _ => (ev G e env st).bind fun x st => match cellL st n with
        | some ds => if ds.length < SZ then .ok (.nx env) (st.set n (.lst (ds ++ [x]))) else .bad
        | none => .bad
      | none => .bad
    | _ => .bad) := nr rfl
theorem e_sv_setFld (o : ME) (f : Str) (cs : List Str) (e : ME) (env : Env) (st : Store) : sv G (MS.setFld o f cs e) env st = ((ev G e env st).bind fun x st => (ev G o env st).bind fun o st => setFldD f cs o x env st) := nr rfl
theorem e_sv_raise (c : Str) (np : Nat) (fs : List (Str × FE)) (es : MEs) (env : Env) (st : Store) : sv G (MS.raise c np fs es) env st = ((evs G es env st).bind fun ds st => if ds.length = np then (mkX ds fs [] st).bind fun xs st => .ex ⟨c, xs⟩ st else .bad) := nr rfl
theorem e_sv_tryS (b : TB) (hs : List Hd) (env : Env) (st : Store) : sv G (MS.tryS b hs) env st = (catchR (tbv G b env st) fun x st => hdL hs x env st) := nr rfl
theorem e_sv_whl (n : Nat) (c : ME) (b : MSs) (env : Env) (st : Store) : sv G (MS.whl n c b) env st = (whlL (fun env st => truR (ev G c env st)) (svs G b) n env st) := nr rfl
theorem e_sv_ex (e : ME) (env : Env) (st : Store) : sv G (MS.ex e) env st = ((ev G e env st).bind fun _ st => .ok (.nx env) st) := nr rfl
theorem e_sv_ret (e : ME) (env : Env) (st : Store) : sv G (MS.ret e) env st = ((ev G e env st).bind fun d st => .ok (.rt d) st) := nr rfl
theorem e_sv_retN  (env : Env) (st : Store) : sv G (MS.retN) env st = (.ok (.rt (.p .none)) st) := nr rfl
theorem e_sv_ife (c : ME) (a b : MSs) (env : Env) (st : Store) : sv G (MS.ife c a b) env st = ((truR (ev G c env st)).bind fun k st => if k = true then svs G a env st else svs G b env st) := nr rfl
theorem e_sv_loop (t : MT) (it : MI) (b : MSs) (env : Env) (st : Store) : sv G (MS.loop t it b) env st = ((evi G it env st).bind fun p st => forL p.2 t (svs G b) p.1 env st) := nr rfl
theorem e_sv_pass  (env : Env) (st : Store) : sv G (MS.pass) env st = (.ok (.nx env) st) := nr rfl
theorem e_sv_brk  (env : Env) (st : Store) : sv G (MS.brk) env st = (.ok (.bk env) st) := nr rfl
theorem e_sv_cont  (env : Env) (st : Store) : sv G (MS.cont) env st = (.ok (.ct env) st) := nr rfl
theorem e_svs_nil  (env : Env) (st : Store) : svs G (MSs.nil) env st = (.ok (.nx env) st) := nr rfl
theorem e_svs_cons (s : MS) (r : MSs) (env : Env) (st : Store) : svs G (MSs.cons s r) env st = (thenR (sv G s env st) (svs G r)) := nr rfl
-- e_ev_var, e_ev_lit, e_ev_glb, e_ev_gix, e_ev_bin, e_ev_neg, e_ev_not, e_ev_and, e_ev_or, e_ev_one, e_ev_cmp, e_ev_cmp2, e_ev_ife, e_ev_tup, e_ev_lst, e_ev_frz, e_ev_rev, e_ev_dctE, e_ev_dct, e_ev_fld, e_ev_meth, e_ev_new, e_ev_callT, e_ev_callD, e_ev_mcall, e_ev_ix, e_ev_sl, e_ev_bi, e_ev_mx2, e_ev_isi, e_ev_call, e_ev_join, e_ev_lc, e_evs_nil, e_evs_cons, e_evo_none, e_evo_some, e_evc_none, e_evc_some, e_evi_seq, e_evi_rng1, e_evi_rng2, e_evi_enum, e_evi_zip, e_tbv_nil, e_tbv_ex, e_tbv_set, e_tbv_exSet, e_tbv_ife, e_sv_set, e_sv_setLc, e_sv_setIx, e_sv_app, e_sv_setFld, e_sv_raise, e_sv_tryS, e_sv_whl, e_sv_ex, e_sv_ret, e_sv_retN, e_sv_ife, e_sv_loop, e_sv_pass, e_sv_brk, e_sv_cont, e_svs_nil, e_svs_cons
end
theorem if_go {c : Prop} [Decidable c] {p q : Prop} (h : c) (hp : p) : if c then p else q := by rw [if_pos h]; exact hp
theorem abs_mod {x m : Int} (h : 0 < m) (h2 : m < 18446744073709551616) : (x % m).natAbs < 18446744073709551616 := by
  have h3 := Int.emod_nonneg x (Int.ne_of_gt h)
  have h4 := Int.emod_lt_of_pos x h
  omega
section
variable {st : Store}
theorem e_slL (xs : List PyData) (lo hi : Option Int) : slD (.p (.list xs)) lo hi st = .ok (.p (.list (cut xs lo hi))) st := by
  unfold slD items
  simp only [← List.map_map]
  rw [cut_map, mkL_p]
theorem e_slT (xs : List PyData) (lo hi : Option Int) : slD (.p (.tuple xs)) lo hi st = .ok (.p (.tuple (cut xs lo hi))) st := nr rfl
theorem e_slS (z : Str) (lo hi : Option Int) : slD (.p (.str z)) lo hi st = if z.length ≤ SZ then .ok (.p (.str (cutS z lo hi))) st else .bad := nr rfl
theorem e_listCL (xs : List PyData) : bi1D (.list true) (.p (.list xs)) st = .ok (.c st.length) (st ++ [.lst (xs.map .p)]) := nr rfl
theorem e_listPT (xs : List PyData) : bi1D (.list false) (.p (.tuple xs)) st = .ok (.p (.list xs)) st := nr (mkL_p xs st)
theorem e_listPL (xs : List PyData) : bi1D (.list false) (.p (.list xs)) st = .ok (.p (.list xs)) st := nr (mkL_p xs st)
theorem e_tupL (xs : List PyData) : bi1D .tuple (.p (.list xs)) st = .ok (.p (.tuple xs)) st := by
  unfold bi1D tupleD items
  simp only [pures_map]
theorem e_lenT (xs : List PyData) : bi1D .len (.p (.tuple xs)) st = .ok (.p (.int xs.length)) st := nr rfl
theorem e_lenL (xs : List PyData) : bi1D .len (.p (.list xs)) st = .ok (.p (.int xs.length)) st := by
  unfold bi1D lenD items
  simp only [List.length_map]
theorem e_lenS (x : Str) : bi1D .len (.p (.str x)) st = if x.length ≤ SZ then .ok (.p (.int x.length)) st else .bad := nr rfl
theorem e_enumL (xs : List PyData) : enumI (.p (.list xs)) st = .ok ((xs.map D.p).mapIdx fun i d => .two (.p (.int (i : Nat))) d, gdOf (.p (.list xs)) (xs.map D.p)) st := nr rfl
theorem e_rng (lo hi : Int) : rngI lo hi st = if -(2 ^ 62) ≤ lo ∧ lo < 2 ^ 62 ∧ -(2 ^ 62) ≤ hi ∧ hi < 2 ^ 62 then .ok ((List.range (hi - lo).toNat).map fun (i : Nat) => .one (.p (.int (lo + (i : Int)))), fun _ => True) st else .bad := nr rfl
theorem e_rng0 (n : Nat) (h : n ≤ 1000) : rngI 0 (n : Int) st = .ok ((List.range n).map fun (i : Nat) => .one (.p (.int (i : Int))), fun _ => True) st := by
  rw [e_rng, if_pos (by omega)]
  simp
theorem e_ixT (xs : List PyData) (i : Int) : ixD (.p (.tuple xs)) (.p (.int i)) st = match atI xs i with | some x => .ok (.p x) st | none => .bad := nr rfl
theorem e_ixL (xs : List PyData) (i : Int) : ixD (.p (.list xs)) (.p (.int i)) st = match atI xs i with | some x => .ok (.p x) st | none => .bad := by
  unfold ixD isDict dictOf dttOf ixD0 items
  simp only [Option.isSome_none, Bool.or_self, Bool.false_eq_true, if_false]
  cases e : atI xs i with
  | none =>
    have : atI (xs.map D.p) i = none := by
      unfold atI at e ⊢
      rw [List.length_map]
      cases e2 : ixN xs.length i with
      | none => rfl
      | some j => rw [e2] at e; simpa using e
    rw [this]
  | some x => rw [atI_map e]
theorem cut_take {α : Type} (xs : List α) (n : Nat) : cut xs none (some (n : Int)) = xs.take n := by
  unfold cut
  rw [HT.sIx_none, HT.sIx_nat, List.drop_zero, Nat.sub_zero]
  by_cases h : n ≤ xs.length
  · rw [Nat.min_eq_left h]
  · rw [Nat.min_eq_right (by omega), List.take_length, List.take_of_length_le (by omega)]
theorem cut_drop {α : Type} (xs : List α) (n : Nat) : cut xs (some (n : Int)) none = xs.drop n := by
  unfold cut
  rw [HT.sIx_none, HT.sIx_nat]
  by_cases h : n ≤ xs.length
  · rw [Nat.min_eq_left h, List.take_of_length_le (by rw [List.length_drop]; omega)]
  · rw [Nat.min_eq_right (by omega), List.drop_length, List.drop_of_length_le (by omega)]; simp
theorem cut_len {α : Type} (xs : List α) (lo hi : Option Int) : (cut xs lo hi).length ≤ xs.length := by
  unfold cut
  rw [List.length_take, List.length_drop]; omega
theorem gd_list (xs : List PyData) (st : Store) : gdOf (.p (.list xs)) (xs.map D.p) st := rfl
end
theorem e_mkLT (ds : List D) (st : Store) : mkL true ds st = .ok (.c st.length) (st ++ [.lst ds]) := nr rfl
theorem e_mkLF (xs : List PyData) (st : Store) : mkL false (xs.map .p) st = .ok (.p (.list xs)) st := nr (mkL_p xs st)
theorem e_mkL1 (x : PyData) (st : Store) : mkL false [.p x] st = .ok (.p (.list [x])) st := e_mkLF [x] st
theorem e_mkL2 (x y : PyData) (st : Store) : mkL false [.p x, .p y] st = .ok (.p (.list [x, y])) st := e_mkLF [x, y] st
theorem e_mkL3 (x y z : PyData) (st : Store) : mkL false [.p x, .p y, .p z] st = .ok (.p (.list [x, y, z])) st := e_mkLF [x, y, z] st
theorem sz_le {n : Nat} (h : n ≤ 1000) : n ≤ SZ := Nat.le_trans h (by decide)
theorem e_adds (x y : Str) (st : Store) : binD .Add (.p (.str x)) (.p (.str y)) st = if x.length + y.length ≤ SZ then .ok (.p (.str (x ++ y))) st else .bad := nr rfl
theorem e_addS (x y : Str) (st : Store) (h : x.length + y.length ≤ 1000) : binD .Add (.p (.str x)) (.p (.str y)) st = .ok (.p (.str (x ++ y))) st := by rw [e_adds, if_pos (sz_le h)]
theorem str_app_len (x y : Str) : (x ++ y).length = x.length + y.length := by
  show (x.cps ++ y.cps).size = _
  rw [Array.size_append]; rfl
theorem str_app_tl (x y : Str) : (x ++ y).cps.toList = x.cps.toList ++ y.cps.toList := by
  show (x.cps ++ y.cps).toList = _
  rw [Array.toList_append]
theorem fin_new {n m : Nat} (h : n ≤ m) (st : Store) : finD n (.c m) st = .ok (.c m) st := by
  unfold finD
  rw [if_neg]
  simp [dBelow]; omega
theorem sz_0 : (0 ≤ SZ) = True := eq_true (by decide)
theorem sz_1 : (1 ≤ SZ) = True := eq_true (by decide)
theorem sz_2 : (2 ≤ SZ) = True := eq_true (by decide)
theorem sz_3 : (3 ≤ SZ) = True := eq_true (by decide)
theorem sz_4 : (4 ≤ SZ) = True := eq_true (by decide)
theorem sz_5 : (5 ≤ SZ) = True := eq_true (by decide)
theorem sz_6 : (6 ≤ SZ) = True := eq_true (by decide)
theorem sz_7 : (7 ≤ SZ) = True := eq_true (by decide)
theorem sz_8 : (8 ≤ SZ) = True := eq_true (by decide)
theorem sz_9 : (9 ≤ SZ) = True := eq_true (by decide)
theorem sz_10 : (10 ≤ SZ) = True := eq_true (by decide)
theorem sz_11 : (11 ≤ SZ) = True := eq_true (by decide)
theorem sz_12 : (12 ≤ SZ) = True := eq_true (by decide)
theorem sz_13 : (13 ≤ SZ) = True := eq_true (by decide)
theorem sz_14 : (14 ≤ SZ) = True := eq_true (by decide)
theorem sz_15 : (15 ≤ SZ) = True := eq_true (by decide)
theorem sz_16 : (16 ≤ SZ) = True := eq_true (by decide)
theorem sz_17 : (17 ≤ SZ) = True := eq_true (by decide)
theorem sz_18 : (18 ≤ SZ) = True := eq_true (by decide)
theorem sz_19 : (19 ≤ SZ) = True := eq_true (by decide)
theorem sz_20 : (20 ≤ SZ) = True := eq_true (by decide)
theorem sz_21 : (21 ≤ SZ) = True := eq_true (by decide)
theorem sz_22 : (22 ≤ SZ) = True := eq_true (by decide)
theorem sz_23 : (23 ≤ SZ) = True := eq_true (by decide)
theorem sz_24 : (24 ≤ SZ) = True := eq_true (by decide)
theorem sz_25 : (25 ≤ SZ) = True := eq_true (by decide)
theorem sz_26 : (26 ≤ SZ) = True := eq_true (by decide)
theorem sz_27 : (27 ≤ SZ) = True := eq_true (by decide)
theorem sz_28 : (28 ≤ SZ) = True := eq_true (by decide)
theorem sz_29 : (29 ≤ SZ) = True := eq_true (by decide)
theorem sz_30 : (30 ≤ SZ) = True := eq_true (by decide)
theorem sz_31 : (31 ≤ SZ) = True := eq_true (by decide)
theorem sz_32 : (32 ≤ SZ) = True := eq_true (by decide)
theorem sz_33 : (33 ≤ SZ) = True := eq_true (by decide)
theorem sz_34 : (34 ≤ SZ) = True := eq_true (by decide)
theorem sz_35 : (35 ≤ SZ) = True := eq_true (by decide)
theorem sz_36 : (36 ≤ SZ) = True := eq_true (by decide)
theorem sz_37 : (37 ≤ SZ) = True := eq_true (by decide)
theorem sz_38 : (38 ≤ SZ) = True := eq_true (by decide)
theorem sz_39 : (39 ≤ SZ) = True := eq_true (by decide)
theorem sz_40 : (40 ≤ SZ) = True := eq_true (by decide)
theorem tru_b (b : Bool) (st : Store) : tru (.p (.bool b)) st = some b := nr rfl
theorem seqI_L (xs : List PyData) (st : Store) : seqI (.p (.list xs)) st = .ok (xs.map fun x => .one (.p x), fun _ => True) st := nr rfl
theorem seqI_T (xs : List PyData) (st : Store) : seqI (.p (.tuple xs)) st = .ok (xs.map fun x => .one (.p x), fun _ => True) st := nr rfl
theorem pures_map' {α : Type} (f : α → PyData) (l : List α) : pures (l.map fun x => D.p (f x)) = some (l.map f) := by
  have := pures_map (l.map f)
  rw [List.map_map] at this
  exact this
theorem atI_0 {α : Type} (a : α) (r : List α) : atI (a :: r) 0 = some a := atI_nat (j := 0) rfl
theorem atI_1 {α : Type} (a b : α) (r : List α) : atI (a :: b :: r) 1 = some b := atI_nat (j := 1) rfl
theorem atI_2 {α : Type} (a b c : α) (r : List α) : atI (a :: b :: c :: r) 2 = some c := atI_nat (j := 2) rfl
theorem atI_3 {α : Type} (a b c d : α) (r : List α) : atI (a :: b :: c :: d :: r) 3 = some d := atI_nat (j := 3) rfl
theorem atI_4 {α : Type} (a b c d e : α) (r : List α) : atI (a :: b :: c :: d :: e :: r) 4 = some e := atI_nat (j := 4) rfl
theorem atI_5 {α : Type} (a b c d e f : α) (r : List α) : atI (a :: b :: c :: d :: e :: f :: r) 5 = some f := atI_nat (j := 5) rfl
theorem atI_6 {α : Type} (a b c d e f g : α) (r : List α) : atI (a :: b :: c :: d :: e :: f :: g :: r) 6 = some g := atI_nat (j := 6) rfl
/-- a place that is in the list -/
theorem atI_in {α : Type} {l : List α} {x : Int} (h0 : 0 ≤ x) (h1 : x < l.length) : ∃ a ∈ l, atI l x = some a := by
  obtain ⟨n, rfl⟩ : ∃ n : Nat, x = n := ⟨x.toNat, by omega⟩
  have hn : n < l.length := by omega
  exact ⟨l[n], List.getElem_mem hn, atI_nat (by simp [hn])⟩
theorem ixL_in {l : List PyData} {x : Int} (st : Store) (h0 : 0 ≤ x) (h1 : x < l.length) : ∃ a ∈ l, ixD (.p (.list l)) (.p (.int x)) st = .ok (.p a) st := by
  obtain ⟨a, h, e⟩ := atI_in h0 h1
  exact ⟨a, h, by rw [e_ixL, e]⟩
theorem ixT_in {l : List PyData} {x : Int} (st : Store) (h0 : 0 ≤ x) (h1 : x < l.length) : ∃ a ∈ l, ixD (.p (.tuple l)) (.p (.int x)) st = .ok (.p a) st := by
  obtain ⟨a, h, e⟩ := atI_in h0 h1
  exact ⟨a, h, by rw [e_ixT, e]⟩
theorem e_sorted2 (a b : Int) (st : Store) : ∃ x y : Int, x ≤ y ∧ (x = a ∨ x = b) ∧ (y = a ∨ y = b) ∧ bi1D (.sorted false) (.p (.list [.int a, .int b])) st = .ok (.p (.list [.int x, .int y])) st := by
  have hok : sortOk [.int a, .int b] = true := by simp [sortOk, PySem.W.alike, PyData.depth, sz_2]
  have hs : sortP [.int a, .int b] = if a ≤ b then [.int a, .int b] else [.int b, .int a] := by
    unfold sortP
    rw [PySem.W.dataLe_eq]
    simp only [List.mergeSort, List.MergeSort.Internal.splitInTwo, List.length, List.splitAt, List.splitAt.go, List.reverse, List.reverseAux, List.merge, PySem.W.dataLt_int, cond]
    simp
  have h : bi1D (.sorted false) (.p (.list [.int a, .int b])) st = .ok (.p (.list (sortP [.int a, .int b]))) st := by
    unfold bi1D sortedD
    simp only [items, pures_map, hok, Bool.true_or, if_true, mkL_p]
  rw [h, hs]
  split
  · exact ⟨a, b, by assumption, .inl rfl, .inr rfl, rfl⟩
  · exact ⟨b, a, by omega, .inr rfl, .inl rfl, rfl⟩
theorem e_b_nm (st : Store) (i : Nat) (d : D) (env : Env) : bindD st (.nm i) d env = some (env.set i (some d)) := nr rfl
theorem e_b_tT (st : Store) (ts : MTs) (xs : List PyData) (env : Env) : bindD st (.tup ts) (.p (.tuple xs)) env = bindDs st ts (xs.map .p) env := nr rfl
theorem e_b_tL (st : Store) (ts : MTs) (xs : List PyData) (env : Env) : bindD st (.tup ts) (.p (.list xs)) env = bindDs st ts (xs.map .p) env := nr rfl
theorem e_b_nil (st : Store) (env : Env) : bindDs st .nil [] env = some env := nr rfl
theorem e_b_cons (st : Store) (t : MT) (r : MTs) (d : D) (ds : List D) (env : Env) : bindDs st (.cons t r) (d :: ds) env = (bindD st t d env).bind fun env => bindDs st r ds env := nr rfl
/-- a test's outcome, its value at hand -/
def QT2 (P : Bool → D → Store → Prop) : D → Store → Prop := fun d st => ∃ k, tru d st = some k ∧ P k d st
theorem QT2_bool (P : Bool → D → Store → Prop) (b : Bool) (st : Store) : QT2 P (.p (.bool b)) st = P b (.p (.bool b)) st := by
  unfold QT2; simp [tru]
def QB (P : Bool → Store → Prop) : D → Store → Prop
  | .p (.bool k), st => P k st
  | _, _ => False
theorem QB_bool (P : Bool → Store → Prop) (b : Bool) (st : Store) : QB P (.p (.bool b)) st = P b st := nr rfl
section
variable {G : Sem1} {Q : D → Store → Prop}
theorem w_and (a b : ME) (env : Env) (st : Store) : wpe X (ev G (.and a b) env st) Q = wpe X (ev G a env st) (QT2 fun k x st => if k = true then wpe X (ev G b env st) Q else Q x st) := by
  rw [e_ev_and, wp_bind]
  congr 1
  funext d st
  unfold QT2
  cases tru d st with
  | none => simp
  | some k => cases k <;> simp
theorem w_or (a b : ME) (env : Env) (st : Store) : wpe X (ev G (.or a b) env st) Q = wpe X (ev G a env st) (QT2 fun k x st => if k = true then Q x st else wpe X (ev G b env st) Q) := by
  rw [e_ev_or, wp_bind]
  congr 1
  funext d st
  unfold QT2
  cases tru d st with
  | none => simp
  | some k => cases k <;> simp
theorem w_cmp2 (o o2 : CmpOp) (a b c : ME) (env : Env) (st : Store) : wpe X (ev G (.cmp2 o o2 a b c) env st) Q = wpe X (ev G a env st) fun x st => wpe X (ev G b env st) fun y st => wpe X (cmpD o x y st) (QB fun k st => if k = true then wpe X (ev G c env st) fun z st => wpe X (cmpD o2 y z st) Q else Q (.p (.bool false)) st) := by
  rw [e_ev_cmp2]
  simp only [wp_bind]
  congr 1
  funext x st
  congr 1
  funext y st
  congr 1
  funext d st
  unfold QB
  cases d with
  | c n => rfl
  | p z =>
    cases z with
    | bool k => cases k <;> simp
    | _ => rfl
end
theorem e_eqX {x y : PyData} (h : min x.depth y.depth ≤ 64) (st : Store) : cmpD .Eq (.p x) (.p y) st = .ok (.p (.bool (PyData.eqv x y))) st := by
  unfold cmpD eqD
  simp only [toP_p]
  rw [if_pos]
  · rfl
  · unfold eqRoom
    exact decide_eq_true h
theorem e_gix (kvs : List (Str × PyData)) (z : Str) (v : PyData) (h : kvs.lookup z = some v) (st : Store) : gixD kvs (.p (.str z)) st = .ok (.p v) st := by
  unfold gixD
  simp only [h]
theorem sort_two (x y : PyData) (h : mixB [x, y] = true) (st : Store) : bi1D (.sorted false) (.p (.list [x, y])) st = .ok (.p (.list (if PySem.W.dataLt y x = true then [y, x] else [x, y]))) st := by
  have hs : sortP [x, y] = if PySem.W.dataLt y x = true then [y, x] else [x, y] := by
    unfold sortP
    rw [PySem.W.dataLe_eq]
    simp only [List.mergeSort, List.MergeSort.Internal.splitInTwo, List.length, List.splitAt, List.splitAt.go, List.reverse, List.reverseAux, List.merge, cond]
    cases PySem.W.dataLt y x <;> simp
  unfold bi1D sortedD
  simp only [items, pures_map, h, Bool.or_true, if_true, mkL_p, hs]
theorem gc_st (st : Store) : gc st.length st = st := gc_self rfl
theorem wp_for_cons {gd : Store → Prop} {tg : MT} {body : Env → Store → R Fl} {it : Itm} {r : List Itm} {env env1 : Env} {st : Store} {Q : Fl → Store → Prop} (hg : gd st) (hb : bindI st tg it env = some env1)
    (h : wpe X (body env1 st) (QN Q fun env st => wpe X (forL gd tg body r env st) Q)) : wpe X (forL gd tg body (it :: r) env st) Q := by
  unfold forL
  rw [if_pos hg, hb]
  show wpe X (nextR _ _) Q
  rw [wp_next]
  exact h
theorem wp_for_nil {gd : Store → Prop} {tg : MT} {body : Env → Store → R Fl} {env : Env} {st : Store} {Q : Fl → Store → Prop} (hg : gd st) (h : Q (.nx env) st) : wpe X (forL gd tg body [] env st) Q := by
  unfold forL
  rw [if_pos hg]
  exact h
theorem seqI_C {n : Nat} {st : Store} {ds : List D} (h : cellL st n = some ds) : seqI (.c n) st = .ok (ds.map .one, fun st' => cellL st' n = some ds) st := by
  unfold seqI
  simp only [h]
theorem e_isi_bb (b : Bool) (st : Store) : isiD "bool" (.p (.bool b)) st = .ok (.p (.bool true)) st := nr rfl
theorem e_neb (a b : Bool) (st : Store) : cmpD .NotEq (.p (.bool a)) (.p (.bool b)) st = .ok (.p (.bool (!(a == b)))) st := by
  cases a <;> cases b <;> exact nr rfl
theorem not_true_false : (!true) = false := rfl
end MP

set_option Elab.async false
set_option linter.all false
set_option autoImplicit false
set_option maxRecDepth 100000
set_option maxHeartbeats 2000000
/-! the facts of a text's head, gathered -/
namespace MP
open PySem PySem.Spec PyProof.Rows L2
section
variable {w : World} {K : PySem.W.Frag} {h : Heap} {mg : Str → Option Value}
theorem funAt {d : Def} {f : Addr} {od an : Option Addr} {sl : Array (Option Value)} {oc kV dc pm cd ct : Value} (X : K.In h) (G : h.Ns mainGlobals mg) (hc : d.cls = none) (hd : d.dfl = [])
    (a : PySem.W.nsIn K mainGlobals d.name = some (some (.ref f))) (l : K.lookup f = some ⟨oc, od, .func (PySem.W.fnOf d.name d.qual (defArgs d.st) (defBody d.st) (defScope d.st) .none kV dc pm an cd ct), sl⟩) (c : PySem.W.codeIn K cd d.qual = true) (k : PySem.W.keepIn K (.ref f) = true)
    (hb : ∀ F : Fun K d.name d.qual d.st f (PySem.W.fnOf d.name d.qual (defArgs d.st) (defBody d.st) (defScope d.st) .none kV dc pm an cd ct), Binds K (PySem.W.fnOf d.name d.qual (defArgs d.st) (defBody d.st) (defScope d.st) .none kV dc pm an cd ct) (d.N.take d.np) []) : FunAt K mg d := by
  have F := fun_mk (st := d.st) l c k
  unfold FunAt
  rw [hc]
  exact ⟨f, _, F, PySem.W.mg_of X G a, hb F, fun z => absurd hd z⟩
/-- an own exception with fields -/
theorem xmk_own {c B : Str} {np : Nat} {fs : List (Str × FE)} {A CB fI : Addr} {T : Tabs} {d : Def} {fd : FuncData} {nm q : Str} {N : Addr} {bs bm : List Value} {sn : List Str} {sub : List Value} {ab : Bool} {col : Option Bool} {dd : Option Addr} {k0 k1 k2 k3 k5 : Option Value}
    (X : K.In h) (G : h.Ns mainGlobals mg) (a : PySem.W.nsIn K mainGlobals c = some (some (.ref A))) (l : K.lookup A = some (excClassObj nm q A N bs bm true sn sub ab col dd k0 k1 k2 k3 k5 "ValueError.__new__")) (hv : PySem.HandSPX.refsVE bm = true)
    (sa : PySem.W.findIn K (.ref A) "__setattr__" = some (some (.builtin "object.__setattr__"))) (ex : PySem.W.subIn K (.ref A) (.type "BaseException") = some true) (ty : PySem.W.typeIn K (.ref A) = some (.type "type")) (kp : PySem.W.keepIn K (.ref A) = true)
    (fi : PySem.W.findIn K (.ref A) "__init__" = some (some (.ref fI))) (tf : PySem.W.typeIn K (.ref fI) = some (.type "function")) (hd : d.name = "__init__") (hnp : d.np = np + 1) (F : Fun K d.name d.qual d.st fI fd) (hb : Binds K fd (d.N.take d.np) [])
    (hs : scC d = true) (hc : chkI (ctxOf [] T d) B fs (defBody d.st) = true) (no : ∀ f fe, (f, fe) ∈ fs → PySem.W.findIn K (.ref A) f = some none) (hB : PySem.W.nsIn K mainGlobals B = some (some (.ref CB)))
    (rd : PySem.W.readsIn K CB (.type "type") = true) (sp : PySem.W.specialIn K (.ref CB) "__getattribute__" = some (some (.builtin "type.__getattribute__"))) (fc : PySem.W.findCls K (.ref CB) (.type "type") "__init__" = some (.val (.builtin "ValueError.__init__")))
    (hbl : ∀ x, x ∈ T.bl → mg x = none) :
    ∃ A, clsAt K c A ∧ mg c = some (.ref A) ∧ PySem.W.subIn K (.ref A) (.type "BaseException") = some true ∧ PySem.W.typeIn K (.ref A) = some (.type "type") ∧
    ((fs = [] ∧ PySem.W.keepIn K (.ref A) = true ∧ PySem.W.excIn K A veBases "ValueError.__new__" = true) ∨
      (OexC K A ∧ ∃ fI fd ps, PySem.W.findIn K (.ref A) "__init__" = some (some (.ref fI)) ∧ PySem.W.typeIn K (.ref fI) = some (.type "function") ∧ (∀ (P : Program) (w : World) (base : Heap), FnOk P w K mg base (L2.CX P w) 1 fI fd ps (spInit K A np fs)) ∧ Binds K fd ps [])) := by
  obtain ⟨S, hl⟩ := scC_of hs
  have ox : OexC K A := ⟨⟨nm, q, N, bs, bm, sn, sub, ab, col, dd, k0, k1, k2, k3, k5, l, hv⟩, sa, ex, ty, kp⟩
  rw [hd] at F
  rw [hnp] at S hl hb
  exact ⟨A, a, PySem.W.mg_of X G a, ex, ty, .inr ⟨ox, fI, fd, d.N.take (np + 1), fi, tf, fun P w base => initFn (C := ctxOf [] T d) F S hl rfl hc ox no (PySem.W.mg_of X G hB) ⟨rd, sp⟩ fc hbl, hb⟩⟩
/-- .. without an __init__ of its own -/
theorem xmk_plain {c : Str} {np : Nat} {A : Addr} (X : K.In h) (G : h.Ns mainGlobals mg) (a : PySem.W.nsIn K mainGlobals c = some (some (.ref A))) (ex : PySem.W.subIn K (.ref A) (.type "BaseException") = some true) (ty : PySem.W.typeIn K (.ref A) = some (.type "type")) (kp : PySem.W.keepIn K (.ref A) = true)
    (xi : PySem.W.excIn K A veBases "ValueError.__new__" = true) :
    ∃ A, clsAt K c A ∧ mg c = some (.ref A) ∧ PySem.W.subIn K (.ref A) (.type "BaseException") = some true ∧ PySem.W.typeIn K (.ref A) = some (.type "type") ∧
    ((([] : List (Str × FE)) = [] ∧ PySem.W.keepIn K (.ref A) = true ∧ PySem.W.excIn K A veBases "ValueError.__new__" = true) ∨
      (OexC K A ∧ ∃ fI fd ps, PySem.W.findIn K (.ref A) "__init__" = some (some (.ref fI)) ∧ PySem.W.typeIn K (.ref fI) = some (.type "function") ∧ (∀ (P : Program) (w : World) (base : Heap), FnOk P w K mg base (L2.CX P w) 1 fI fd ps (spInit K A np [])) ∧ Binds K fd ps [])) :=
  ⟨A, a, PySem.W.mg_of X G a, ex, ty, .inl ⟨rfl, kp, xi⟩⟩
theorem xmt_of {c d : Str} {b : Bool} {A B : Addr} (X : K.In h) (G : h.Ns mainGlobals mg) (a : PySem.W.nsIn K mainGlobals c = some (some (.ref A))) (e : PySem.W.nsIn K mainGlobals d = some (some (.ref B))) (ex : PySem.W.subIn K (.ref B) (.type "BaseException") = some true) (ic : PySem.W.isClsIn K B = true) (ty : PySem.W.typeIn K (.ref B) = some (.type "type"))
    (s : PySem.W.subIn K (.ref A) (.ref B) = some b) : ∃ A B, clsAt K c A ∧ clsAt K d B ∧ mg d = some (.ref B) ∧ PySem.W.exmOne K (.ref A) (.ref B) = some b :=
  ⟨A, B, a, e, PySem.W.mg_of X G e, by
    have h2 : ((PySem.W.clsIn K B).isSome && PySem.W.typeIn K (.ref B) == some (.type "type")) = true := by
      rw [show (PySem.W.clsIn K B).isSome = true from ic, ty] <;> rfl
    unfold PySem.W.exmOne
    rw [if_pos (by rw [ex] <;> rfl)]
    show (if ((PySem.W.clsIn K B).isSome && PySem.W.typeIn K (.ref B) == some (.type "type")) = true then PySem.W.subIn K (.ref A) (.ref B) else none) = some b
    rw [if_pos h2]
    exact s⟩
theorem xcf_of {c f : Str} {A : Addr} (a : PySem.W.nsIn K mainGlobals c = some (some (.ref A))) (ga : PySem.W.findIn K (.ref A) "__getattribute__" = some (some (.builtin "BaseException.__getattribute__"))) (gg : PySem.W.findIn K (.ref A) "__getattr__" = some none) (ex : PySem.W.subIn K (.ref A) (.type "BaseException") = some true) (hd : PySem.W.hasDictIn K A = true)
    (no : PySem.W.findIn K (.ref A) f = some none) : ∃ A, clsAt K c A ∧ XfC K A ∧ PySem.W.findIn K (.ref A) f = some none := ⟨A, a, ⟨ga, gg, ex, hd⟩, no⟩
theorem hcl_of {d : Str} {B : Addr} (X : K.In h) (G : h.Ns mainGlobals mg) (e : PySem.W.nsIn K mainGlobals d = some (some (.ref B))) : ∃ B, clsAt K d B ∧ mg d = some (.ref B) := ⟨B, e, PySem.W.mg_of X G e⟩
end
end MP

set_option Elab.async false
set_option linter.all false
set_option autoImplicit false
set_option maxRecDepth 100000
set_option maxHeartbeats 1000000
/-! more of the plain calculus: dicts, kinds, exceptions -/
namespace MP
open PySem PySem.Spec PyProof.Rows L2
section
variable {st : Store}
theorem e_mkT (ds : List D) (st : Store) : mkT ds st = match pures ds with
  | some xs => .ok (.p (.tuple xs)) st
  | none => .ok (.c st.length) (st ++ [.tup ds]) := nr rfl
theorem isDict_p (x : PyData) : isDict (.p x) st = false := nr rfl
theorem isDict_c {n : Nat} {ds : List D} (h : cellL st n = some ds) : isDict (.c n) st = false := by
  have h' := cellL_some h
  unfold isDict dictOf dttOf dcellL
  simp only [h', Option.isSome_none, Bool.or_self]
  try rfl
theorem isDict_d {n : Nat} {kvs : List (Key × D)} (h : st[n]? = some (.dct kvs)) : isDict (.c n) st = true := by
  unfold isDict dictOf dcellL
  simp only [h, Option.isSome_some, Bool.true_or]
theorem ix_c {n : Nat} {ds : List D} (h : cellL st n = some ds) (i : Int) : ixD (.c n) (.p (.int i)) st = match atI ds i with | some d => .ok d st | none => .bad := by
  have h0 : items (.c n) st = some ds := h
  unfold ixD
  rw [isDict_c h]
  simp only [ixD0, h0, Bool.false_eq_true, if_false] <;> (cases atI ds i <;> rfl)
theorem look_d {n : Nat} {kvs : List (Key × D)} (h : st[n]? = some (.dct kvs)) (z : Str) : lookD (.c n) (.p (.str z)) st = some (valD kvs (.inr z)) := by
  unfold lookD dictOf dcellL
  simp only [h]
  rfl
theorem in_d {n : Nat} {kvs : List (Key × D)} (h : st[n]? = some (.dct kvs)) (z : Str) : cmpD .In (.p (.str z)) (.c n) st = .ok (.p (.bool (valD kvs (.inr z)).isSome)) st := by
  show inD false _ _ st = _
  unfold inD
  rw [isDict_d h, look_d h]
  rfl
theorem notIn_d {n : Nat} {kvs : List (Key × D)} (h : st[n]? = some (.dct kvs)) (z : Str) : cmpD .NotIn (.p (.str z)) (.c n) st = .ok (.p (.bool (!(valD kvs (.inr z)).isSome))) st := by
  show inD true _ _ st = _
  unfold inD
  rw [isDict_d h, look_d h]
  rfl
theorem ix_d {n : Nat} {kvs : List (Key × D)} (h : st[n]? = some (.dct kvs)) {z : Str} {d : D} (hv : valD kvs (.inr z) = some d) : ixD (.c n) (.p (.str z)) st = .ok d st := by
  unfold ixD
  rw [isDict_d h, look_d h, hv]
  rfl
theorem valD_cons {k k' : Str} {d : D} {r : List (Key × D)} : valD ((.inr k', d) :: r) (.inr k : Key) = if k' = k then some d else valD r (.inr k) := by
  unfold valD
  rw [List.find?_cons]
  by_cases h : k' = k
  · subst h; simp
  · have : (Sum.inr k' : Key) ≠ Sum.inr k := fun e => h (Sum.inr.inj e)
    simp [h, this]
theorem valD_nil (k : Key) : valD ([] : List (Key × D)) k = none := nr rfl
theorem disp3 {n : Nat} (h : dcellL st n = some []) (a b c : Str) (x y z : D) (h1 : a ≠ b) (h2 : a ≠ c) (h3 : b ≠ c) : dispD n [a, b, c] [x, y, z] st = .ok (.c n) (st.set n (.dct [(.inr a, x), (.inr b, y), (.inr c, z)])) := by
  have i1 : (Sum.inr a : Key) ≠ Sum.inr b := fun e => h1 (Sum.inr.inj e)
  have i2 : (Sum.inr a : Key) ≠ Sum.inr c := fun e => h2 (Sum.inr.inj e)
  have i3 : (Sum.inr b : Key) ≠ Sum.inr c := fun e => h3 (Sum.inr.inj e)
  unfold dispD
  simp only [h]
  rw [if_pos ⟨rfl, by show 3 ≤ 15; decide⟩]
  have : mergeD [] (([a, b, c].zip [x, y, z]).map fun p => (Sum.inr p.1, p.2)) = [(.inr a, x), (.inr b, y), (.inr c, z)] := by
    simp [mergeD, putD, h1, h2, h3, i1, i2, i3]
  rw [this]
theorem dcell_new (st : Store) : dcellL (st ++ [.dct []]) st.length = some [] := by
  unfold dcellL
  rw [List.getElem?_concat_length]
def isInt : PyData → Bool
  | .int _ => true
  | .bool _ => true
  | _ => false
def isBool : PyData → Bool
  | .bool _ => true
  | _ => false
def isStr : PyData → Bool
  | .str _ => true
  | _ => false
def isTuple : PyData → Bool
  | .tuple _ => true
  | _ => false
def isList : PyData → Bool
  | .list _ => true
  | _ => false
theorem e_isInt {x : PyData} (h : x.plain = true) : isiD "int" (.p x) st = .ok (.p (.bool (isInt x))) st := by
  cases x <;> first | exact nr rfl | cases h
theorem e_isBool {x : PyData} (h : x.plain = true) : isiD "bool" (.p x) st = .ok (.p (.bool (isBool x))) st := by
  cases x <;> first | exact nr rfl | cases h
theorem e_isStr {x : PyData} (h : x.plain = true) : isiD "str" (.p x) st = .ok (.p (.bool (isStr x))) st := by
  cases x <;> first | exact nr rfl | cases h
theorem e_isTuple {x : PyData} (h : x.plain = true) : isiD "tuple" (.p x) st = .ok (.p (.bool (isTuple x))) st := by
  cases x <;> first | exact nr rfl | cases h
theorem e_isList {x : PyData} (h : x.plain = true) : isiD "list" (.p x) st = .ok (.p (.bool (isList x))) st := by
  cases x <;> first | exact nr rfl | cases h
theorem e_addLL (xs ys : List PyData) (h : xs.length + ys.length ≤ 1000) : binD .Add (.p (.list xs)) (.p (.list ys)) st = .ok (.p (.list (xs ++ ys))) st := by
  unfold binD addD
  simp only [items, List.length_map, if_pos (sz_le h)]
  rw [← List.map_append, mkL_p]
theorem e_addTT (xs ys : List PyData) (h : xs.length + ys.length ≤ 1000) : binD .Add (.p (.tuple xs)) (.p (.tuple ys)) st = .ok (.p (.tuple (xs ++ ys))) st := by
  unfold binD addD
  simp only [if_pos (sz_le h)]
theorem e_isN (d : D) : cmpD .Is d (.p .none) st = .ok (.p (.bool (isC .none d))) st := nr rfl
theorem e_isK (d : D) (k : Bool) : cmpD .Is d (.p (.bool k)) st = .ok (.p (.bool (isC (.bool k) d))) st := nr rfl
theorem e_all (bs : List Bool) : bi1D .all (.p (.list (bs.map .bool))) st = .ok (.p (.bool (bs.all id))) st := by
  unfold bi1D allD items
  simp only
  have h := bools_map (fun b : Bool => b) bs
  rw [show (bs.map PyData.bool).map D.p = bs.map fun x => D.p (.bool x) from by rw [List.map_map]; rfl, h]
  simp
theorem e_neX {x y : PyData} (h : min x.depth y.depth ≤ 64) : cmpD .NotEq (.p x) (.p y) st = .ok (.p (.bool (!PyData.eqv x y))) st := by
  unfold cmpD eqD
  simp only [toP_p]
  rw [if_pos]
  · rfl
  · unfold eqRoom
    exact decide_eq_true h
theorem e_inT {x : PyData} {ys : List PyData} (h : x.depth ≤ 64) : cmpD .In (.p x) (.p (.tuple ys)) st = .ok (.p (.bool (ys.any fun y => PyData.eqv y x))) st := by
  show inD false _ _ st = _
  unfold inD
  rw [isDict_p, if_neg (by simp)]
  unfold inD0
  simp only [toP_p, decide_eq_true h, if_true, Bool.false_eq_true, if_false]
theorem e_notInT {x : PyData} {ys : List PyData} (h : x.depth ≤ 64) : cmpD .NotIn (.p x) (.p (.tuple ys)) st = .ok (.p (.bool (!(ys.any fun y => PyData.eqv y x)))) st := by
  show inD true _ _ st = _
  unfold inD
  rw [isDict_p, if_neg (by simp)]
  unfold inD0
  simp only [toP_p, decide_eq_true h, if_true]
theorem any_strs (hs : List Str) (z : Str) : ((hs.map PyData.str).any fun y => PyData.eqv y (.str z)) = hs.contains z := by
  induction hs with
  | nil => rfl
  | cons a r ih =>
    rw [List.map_cons, List.any_cons, ih, List.contains_cons]
    congr 1
    simp only [PyData.eqv]
    exact BEq.comm
theorem cellBelow_mono {n m : Nat} (hnm : n ≤ m) {c : Cell} (h : cellBelow n c = true) : cellBelow m c = true := by
  have hd : ∀ {d : D}, dBelow n d = true → dBelow m d = true := fun {d} h => by
    cases d with
    | p x => rfl
    | c k => simp only [dBelow, decide_eq_true_eq] at h ⊢; omega
  cases c <;> first | rfl | (simp only [cellBelow, List.all_eq_true] at h ⊢; exact fun x hx => hd (h x hx))
/-- the cells hold nothing beyond -/
def Clo (st : Store) : Prop := st.all (cellBelow st.length) = true
theorem gc_cl {st ex : Store} (h : Clo st) : gc st.length (st ++ ex) = st := gc_app h
theorem frz_c {n : Nat} {xs : List PyData} (h : cellL st n = some (xs.map .p)) : frzD (.c n) st = .ok (.p (.list xs)) (st.set n .dead) := by
  unfold frzD
  simp only [h, pures_map]
theorem ins_c {n : Nat} {xs : List D} (h : cellL st n = some xs) (i : Int) (y : D) (hz : xs.length ≤ 1000) (h0 : 0 ≤ i) (h1 : i ≤ 1000) : mthD .insert (.c n) [.p (.int i), y] st = .ok (.p .none) (st.set n (.lst (xs.take i.toNat ++ [y] ++ xs.drop i.toNat))) := by
  unfold mthD
  simp only [h]
  rw [if_pos ⟨Nat.lt_of_le_of_lt hz (by decide), h0, by omega⟩]
theorem items_c {n : Nat} {xs : List D} (h : cellL st n = some xs) : items (.c n) st = some xs := h
theorem e_zipST (z : Str) (ys : List PyData) : zipI (.p (.str z)) (.p (.tuple ys)) st = .ok ((z.cps.toList.zip ys).map fun p => .two (.p (.str ⟨#[p.1]⟩)) (.p p.2), fun _ => True) st := nr rfl
end
theorem eqv_self {x : PyData} (h : x.plain = true) : PyData.eqv x x = true := PySem.SeqAt.eqv_refl_plain x h
end MP
set_option Elab.async false
set_option linter.all false
set_option autoImplicit false
set_option maxRecDepth 100000
set_option maxHeartbeats 2000000
namespace K04
open PySem PySem.Spec PyProof.Rows L2 MP
def tS (i : Nat) : Stmt := PySem.Challenge.pw_gapcalls_k04_books_or_not.main.body.getD i (.Pass ⟨0, 0, 0, 0⟩)
def cS (i j : Nat) : Stmt := match tS i with | .ClassDef _ _ _ body _ _ _ _ _ _ _ => body.getD j (.Pass ⟨0, 0, 0, 0⟩) | _ => .Pass ⟨0, 0, 0, 0⟩
/-- is_between -/
def b0 : MSs :=
    (.cons (.ret (.and (.isi "int" (.var 0)) (.and (.not (.isi "bool" (.var 0))) (.one (.cmp2 .LtE .LtE (.var 1) (.var 0) (.var 2)))))) .nil)
def d0 : Def := { name := "is_between", qual := "is_between", cls := none, N := ["thing", "low", "high"], np := 3, dfl := [], body := b0, st := tS 10 }
/-- is_time -/
def b1 : MSs :=
    (.cons (.ret (.call 0 (.cons (.var 0) (.cons (.bin .Sub (.lit (.int 0)) (.glb (.int 1000000000000))) (.cons (.glb (.int 1000000000000)) .nil)))))
    .nil)
def d1 : Def := { name := "is_time", qual := "is_time", cls := none, N := ["thing"], np := 1, dfl := [], body := b1, st := tS 11 }
/-- is_number -/
def b2 : MSs :=
    (.cons (.ret (.call 0 (.cons (.var 0) (.cons (.lit (.int 0)) (.cons (.glb (.int 14)) .nil))))) .nil)
def d2 : Def := { name := "is_number", qual := "is_number", cls := none, N := ["thing"], np := 1, dfl := [], body := b2, st := tS 12 }
/-- is_house -/
def b3 : MSs :=
    (.cons (.ife (.or (.not (.isi "str" (.var 0))) (.one (.not (.cmp2 .LtE .LtE (.lit (.int 1)) (.bi .len (.var 0)) (.glb (.int 8)))))) (.cons (.ret (.lit
    (.bool false))) .nil) .nil) (.cons (.ret (.bi .all (.lc false [1] (.nm 1) (.seq (.var 0)) .none (.cmp .In (.var 1) (.glb (.str
    "abcdefghijklmnopqrstuvwxyz")))))) .nil))
def d3 : Def := { name := "is_house", qual := "is_house", cls := none, N := ["thing", "sign"], np := 1, dfl := [], body := b3, st := tS 13 }
/-- is_of -/
def b4 : MSs :=
    (.cons (.ret (.and (.call 3 (.cons (.var 1) .nil)) (.one (.cmp .In (.var 1) (.ix (.var 0) (.lit (.int 0))))))) .nil)
def d4 : Def := { name := "is_of", qual := "is_of", cls := none, N := ["town", "thing"], np := 2, dfl := [], body := b4, st := tS 14 }
/-- is_ask_row -/
def b5 : MSs :=
    (.cons (.ife (.or (.cmp .NotEq (.bi .len (.var 1)) (.lit (.int 7))) (.or (.not (.call 4 (.cons (.var 0) (.cons (.ix (.var 1) (.lit (.int 1))) .nil))))
    (.one (.not (.call 4 (.cons (.var 0) (.cons (.ix (.var 1) (.lit (.int 4))) .nil))))))) (.cons (.ret (.lit (.bool false))) .nil) .nil) (.cons (.ife
    (.or (.not (.call 2 (.cons (.ix (.var 1) (.lit (.int 2))) .nil))) (.or (.not (.call 2 (.cons (.ix (.var 1) (.lit (.int 3))) .nil))) (.or (.not (.call
    1 (.cons (.ix (.var 1) (.lit (.int 5))) .nil))) (.one (.not (.call 1 (.cons (.ix (.var 1) (.lit (.int 6))) .nil))))))) (.cons (.ret (.lit (.bool
    false))) .nil) .nil) (.cons (.ret (.cmp .LtE (.ix (.var 1) (.lit (.int 5))) (.ix (.var 1) (.lit (.int 6))))) .nil)))
def d5 : Def := { name := "is_ask_row", qual := "is_ask_row", cls := none, N := ["town", "thing"], np := 2, dfl := [], body := b5, st := tS 15 }
/-- is_job_row -/
def b6 : MSs :=
    (.cons (.ife (.or (.cmp .NotEq (.bi .len (.var 1)) (.lit (.int 5))) (.or (.not (.call 4 (.cons (.var 0) (.cons (.ix (.var 1) (.lit (.int 1))) .nil))))
    (.one (.not (.call 2 (.cons (.ix (.var 1) (.lit (.int 2))) .nil)))))) (.cons (.ret (.lit (.bool false))) .nil) .nil) (.cons (.ret (.and (.call 1
    (.cons (.ix (.var 1) (.lit (.int 3))) .nil)) (.and (.call 1 (.cons (.ix (.var 1) (.lit (.int 4))) .nil)) (.one (.cmp .LtE (.ix (.var 1) (.lit (.int
    3))) (.ix (.var 1) (.lit (.int 4)))))))) .nil))
def d6 : Def := { name := "is_job_row", qual := "is_job_row", cls := none, N := ["town", "thing"], np := 2, dfl := [], body := b6, st := tS 16 }
/-- is_all_row -/
def b7 : MSs :=
    (.cons (.ife (.or (.cmp .NotEq (.bi .len (.var 1)) (.lit (.int 4))) (.one (.not (.call 4 (.cons (.var 0) (.cons (.ix (.var 1) (.lit (.int 1)))
    .nil)))))) (.cons (.ret (.lit (.bool false))) .nil) .nil) (.cons (.ret (.and (.call 0 (.cons (.ix (.var 1) (.lit (.int 2))) (.cons (.lit (.int 0))
    (.cons (.glb (.int 15)) .nil)))) (.one (.call 0 (.cons (.ix (.var 1) (.lit (.int 3))) (.cons (.lit (.int 0)) (.cons (.glb (.int 15)) .nil)))))))
    .nil))
def d7 : Def := { name := "is_all_row", qual := "is_all_row", cls := none, N := ["town", "thing"], np := 2, dfl := [], body := b7, st := tS 17 }
/-- is_row -/
def b8 : MSs :=
    (.cons (.ife (.or (.not (.isi "tuple" (.var 1))) (.or (.cmp .Eq (.bi .len (.var 1)) (.lit (.int 0))) (.one (.not (.isi "str" (.ix (.var 1) (.lit (.int
    0)))))))) (.cons (.ret (.lit (.bool false))) .nil) .nil) (.cons (.ife (.cmp .Eq (.ix (.var 1) (.lit (.int 0))) (.lit (.str "ask"))) (.cons (.ret
    (.call 5 (.cons (.var 0) (.cons (.var 1) .nil)))) .nil) .nil) (.cons (.ife (.cmp .Eq (.ix (.var 1) (.lit (.int 0))) (.lit (.str "job"))) (.cons (.ret
    (.call 6 (.cons (.var 0) (.cons (.var 1) .nil)))) .nil) .nil) (.cons (.ret (.and (.cmp .Eq (.ix (.var 1) (.lit (.int 0))) (.lit (.str "all"))) (.one
    (.call 7 (.cons (.var 0) (.cons (.var 1) .nil)))))) .nil))))
def d8 : Def := { name := "is_row", qual := "is_row", cls := none, N := ["town", "thing"], np := 2, dfl := [], body := b8, st := tS 18 }
/-- do_like_clash -/
def b9 : MSs :=
    (.cons (.ife (.or (.cmp .Eq (.ix (.var 0) (.lit (.int 0))) (.lit (.str "all"))) (.one (.cmp .Eq (.ix (.var 0) (.lit (.int 2))) (.ix (.var 1) (.lit
    (.int 2)))))) (.cons (.ret (.lit (.bool true))) .nil) .nil) (.cons (.set (.nm 2) (.gix [("ask", (.int 5)), ("job", (.int 3))] (.ix (.var 0) (.lit
    (.int 0))))) (.cons (.ife (.cmp .Lt (.ix (.var 0) (.lit (.int 2))) (.ix (.var 1) (.lit (.int 2)))) (.cons (.ret (.cmp .Gt (.ix (.var 0) (.var 2)) (.ix
    (.var 1) (.var 2)))) .nil) .nil) (.cons (.ret (.cmp .Gt (.ix (.var 1) (.var 2)) (.ix (.var 0) (.var 2)))) .nil))))
def d9 : Def := { name := "do_like_clash", qual := "do_like_clash", cls := none, N := ["one", "other", "at"], np := 2, dfl := [], body := b9, st := tS 21 }
/-- is_beyond -/
def b10 : MSs :=
    (.cons (.ife (.cmp .Eq (.ix (.var 1) (.lit (.int 0))) (.lit (.str "job"))) (.cons (.ret (.cmp .GtE (.ix (.var 1) (.lit (.int 2))) (.ix (.var 0) (.lit
    (.int 3))))) .nil) .nil) (.cons (.ret (.or (.cmp .GtE (.ix (.var 1) (.lit (.int 2))) (.ix (.var 0) (.lit (.int 2)))) (.one (.cmp .GtE (.ix (.var 1)
    (.lit (.int 3))) (.ix (.var 0) (.lit (.int 3))))))) .nil))
def d10 : Def := { name := "is_beyond", qual := "is_beyond", cls := none, N := ["counts", "row"], np := 2, dfl := [], body := b10, st := tS 22 }
/-- do_job_and_ask_clash -/
def b11 : MSs :=
    (.cons (.ife (.and (.cmp .LtE (.ix (.var 0) (.lit (.int 2))) (.ix (.var 1) (.lit (.int 3)))) (.one (.cmp .GtE (.ix (.var 0) (.lit (.int 3))) (.ix
    (.var 1) (.lit (.int 5)))))) (.cons (.ret (.lit (.bool true))) .nil) .nil) (.cons (.ret (.and (.cmp .Eq (.ix (.var 0) (.lit (.int 2))) (.ix (.var 1)
    (.lit (.int 3)))) (.one (.cmp .LtE (.ix (.var 0) (.lit (.int 4))) (.ix (.var 1) (.lit (.int 6))))))) .nil))
def d11 : Def := { name := "do_job_and_ask_clash", qual := "do_job_and_ask_clash", cls := none, N := ["job", "ask"], np := 2, dfl := [], body := b11, st := tS 23 }
/-- do_clash -/
def b12 : MSs :=
    (.cons (.ife (.or (.cmp .Eq (.var 0) (.var 1)) (.one (.cmp .NotEq (.ix (.var 0) (.lit (.int 1))) (.ix (.var 1) (.lit (.int 1)))))) (.cons (.ret (.lit
    (.bool false))) .nil) .nil) (.cons (.ife (.cmp .Eq (.ix (.var 0) (.lit (.int 0))) (.ix (.var 1) (.lit (.int 0)))) (.cons (.ret (.call 9 (.cons (.var
    0) (.cons (.var 1) .nil)))) .nil) .nil) (.cons (.ife (.cmp .Eq (.ix (.var 0) (.lit (.int 0))) (.lit (.str "all"))) (.cons (.ret (.call 10 (.cons (.var
    0) (.cons (.var 1) .nil)))) .nil) .nil) (.cons (.ife (.cmp .Eq (.ix (.var 1) (.lit (.int 0))) (.lit (.str "all"))) (.cons (.ret (.call 10 (.cons (.var
    1) (.cons (.var 0) .nil)))) .nil) .nil) (.cons (.ife (.cmp .Eq (.ix (.var 0) (.lit (.int 0))) (.lit (.str "job"))) (.cons (.ret (.call 11 (.cons (.var
    0) (.cons (.var 1) .nil)))) .nil) .nil) (.cons (.ret (.call 11 (.cons (.var 1) (.cons (.var 0) .nil)))) .nil))))))
def d12 : Def := { name := "do_clash", qual := "do_clash", cls := none, N := ["one", "other"], np := 2, dfl := [], body := b12, st := tS 24 }
def b13_l0 : MSs :=
    (.cons (.ife (.call 12 (.cons (.ix (.var 1) (.var 5)) (.cons (.var 3) .nil))) (.cons (.raise "Clash" 2 [("first", .arg 0), ("second", .arg 1)] (.cons
    (.var 5) (.cons (.var 4) .nil))) .nil) .nil) .nil)
def b13_l1 : MSs :=
    (.cons (.loop (.nm 5) (.rng1 (.var 4)) b13_l0) .nil)
def b13_l2 : MSs :=
    (.cons (.ife (.not (.call 8 (.cons (.var 0) (.cons (.var 3) .nil)))) (.cons (.raise "NoRow" 1 [("number", .arg 0)] (.cons (.var 2) .nil)) .nil) .nil)
    .nil)
/-- need_book -/
def b13 : MSs :=
    (.cons (.loop (.tup (.cons (.nm 2) (.cons (.nm 3) .nil))) (.enum (.var 1)) b13_l2) (.cons (.loop (.tup (.cons (.nm 4) (.cons (.nm 3) .nil))) (.enum
    (.var 1)) b13_l1) .nil))
def d13 : Def := { name := "need_book", qual := "need_book", cls := none, N := ["town", "rows", "number", "row", "second", "first"], np := 2, dfl := [], body := b13, st := tS 25 }
/-- _law_spread -/
def b14 : MSs :=
    (.cons (.ife (.cmp .GtE (.var 0) (.bin .Pow (.lit (.int 10)) (.lit (.int 18)))) (.cons (.ret (.var 0)) .nil) .nil) (.cons (.set (.nm 2) (.bin .Mod
    (.bin .Add (.bin .Add (.bin .Mult (.bin .Mod (.var 0) (.lit (.int 1000000007))) (.lit (.int 69069))) (.bin .Mult (.var 1) (.lit (.int 40503)))) (.lit
    (.int 977))) (.lit (.int 2147483629)))) (.cons (.set (.nm 3) (.bin .Mod (.bin .Add (.bin .Add (.bin .Mult (.var 2) (.var 2)) (.bin .Mult (.var 1)
    (.lit (.int 7919)))) (.bin .Mod (.var 0) (.lit (.int 65537)))) (.lit (.int 2147483587)))) (.cons (.set (.nm 4) (.bin .Mod (.bin .Add (.bin .Add (.bin
    .Mult (.var 3) (.var 3)) (.bin .Mult (.var 2) (.lit (.int 31)))) (.lit (.int 5))) (.lit (.int 2147483563)))) (.cons (.ret (.bin .Add (.bin .Mult (.bin
    .Add (.bin .Mult (.var 2) (.lit (.int 2147483659))) (.var 3)) (.lit (.int 2147483693))) (.var 4))) .nil)))))
def d14 : Def := { name := "_law_spread", qual := "_law_spread", cls := none, N := ["_law_cell", "_law_at", "_law_one", "_law_two", "_law_three"], np := 2, dfl := [], body := b14, st := tS 27 }
/-- _law_open -/
def b15 : MSs :=
    (.cons (.set (.nm 1) (.bi (.list true) (.sl (.var 0) .none (.some (.lit (.int 12)))))) (.cons (.loop (.tup (.cons (.nm 2) (.cons (.nm 3) .nil)))
    (.enum (.sl (.var 0) (.some (.lit (.int 12))) (.some (.lit (.int 63))))) (.cons (.setIx (.var 1) (.bin .Mod (.var 2) (.lit (.int 12))) (.bin .Add (.ix
    (.var 1) (.bin .Mod (.var 2) (.lit (.int 12)))) (.var 3))) .nil)) (.cons (.ret (.lst true (.cons (.var 1) (.cons (.lit (.int 0)) (.cons (.lit (.int
    0)) .nil))))) .nil)))
def d15 : Def := { name := "_law_open", qual := "_law_open", cls := none, N := ["_law_script", "_law_cells", "_law_k", "_law_cell"], np := 1, dfl := [], body := b15, st := tS 28 }
/-- _law_anew -/
def b16 : MSs :=
    (.cons (.setIx (.var 0) (.lit (.int 2)) (.lit (.int 0))) (.cons (.ret (.var 0)) .nil))
def d16 : Def := { name := "_law_anew", qual := "_law_anew", cls := none, N := ["_law_pen"], np := 1, dfl := [], body := b16, st := tS 29 }
/-- _law_take -/
def b17 : MSs :=
    (.cons (.ife (.cmp .Lt (.ix (.var 0) (.lit (.int 2))) (.var 1)) (.cons (.set (.nm 3) (.ix (.var 0) (.lit (.int 1)))) (.cons (.set (.nm 4) (.lit (.int
    0))) (.cons (.ife (.cmp .Lt (.var 3) (.bi .len (.ix (.var 0) (.lit (.int 0))))) (.cons (.set (.nm 4) (.ix (.ix (.var 0) (.lit (.int 0))) (.var 3)))
    .nil) (.cons (.ife (.cmp .Gt (.bi .len (.ix (.var 0) (.lit (.int 0)))) (.lit (.int 0))) (.cons (.set (.nm 4) (.bin .Mod (.ix (.ix (.var 0) (.lit (.int
    0))) (.bin .Mod (.bin .Add (.bin .Mult (.var 3) (.lit (.int 5))) (.lit (.int 3))) (.bi .len (.ix (.var 0) (.lit (.int 0)))))) (.bin .Add (.bin .Pow
    (.lit (.int 10)) (.lit (.int 17))) (.var 3)))) .nil) .nil) .nil)) (.cons (.setIx (.var 0) (.lit (.int 1)) (.bin .Add (.var 3) (.lit (.int 1)))) (.cons
    (.setIx (.var 0) (.lit (.int 2)) (.call 14 (.cons (.var 4) (.cons (.var 3) .nil)))) .nil))))) .nil) (.cons (.set (.nm 2) (.bin .Mod (.ix (.var 0)
    (.lit (.int 2))) (.var 1))) (.cons (.setIx (.var 0) (.lit (.int 2)) (.bin .FloorDiv (.ix (.var 0) (.lit (.int 2))) (.var 1))) (.cons (.ret (.var 2))
    .nil))))
def d17 : Def := { name := "_law_take", qual := "_law_take", cls := none, N := ["_law_pen", "_law_many", "_law_found", "_law_at", "_law_cell"], np := 2, dfl := [], body := b17, st := tS 30 }
/-- _law_names -/
def b18 : MSs :=
    (.cons (.set (.nm 2) (.lit (.str "abcdefghijklmnopqrstuvwxyz"))) (.cons (.set (.nm 3) (.join (.lit (.str "")) (.lc false [8] (.nm 8) (.rng1 (.lit
    (.int 7))) .none (.ix (.var 2) (.call 17 (.cons (.var 0) (.cons (.lit (.int 26)) .nil))))))) (.cons (.set (.nm 4) (.call 17 (.cons (.var 0) (.cons
    (.lit (.int 3)) .nil)))) (.cons (.set (.nm 5) (.call 17 (.cons (.var 0) (.cons (.lit (.int 26)) .nil)))) (.cons (.set (.nm 6) (.call 17 (.cons (.var
    0) (.cons (.lit (.int 8)) .nil)))) (.cons (.set (.nm 7) (.lst true .nil)) (.cons (.loop (.nm 8) (.rng1 (.var 1)) (.cons (.set (.nm 9) (.ix (.var 2)
    (.bin .Mod (.bin .Add (.var 5) (.bin .Mult (.lit (.int 3)) (.var 8))) (.lit (.int 26))))) (.cons (.set (.nm 10) (.sl (.var 3) .none (.some (.bin .Mod
    (.bin .Add (.var 6) (.bin .Mult (.var 8) (.bin .Mod (.var 4) (.lit (.int 2))))) (.lit (.int 8)))))) (.cons (.set (.nm 11) (.ix (.lst false (.cons
    (.lit (.int 0)) (.cons (.bi .len (.var 10)) (.cons (.bin .FloorDiv (.bi .len (.var 10)) (.lit (.int 2))) .nil)))) (.var 4))) (.cons (.app (.var 7)
    (.bin .Add (.bin .Add (.sl (.var 10) .none (.some (.var 11))) (.var 9)) (.sl (.var 10) (.some (.var 11)) .none))) .nil))))) (.cons (.ret (.var 7))
    .nil))))))))
def d18 : Def := { name := "_law_names", qual := "_law_names", cls := none, N := ["_law_pen", "_law_many", "_law_letters", "_law_base", "_law_way", "_law_turn", "_law_size", "_law_found", "_law_k", "_law_sign", "_law_part", "_law_at"], np := 2, dfl := [], body := b18, st := tS 31 }
/-- _law_town -/
def b19 : MSs :=
    (.cons (.set (.nm 2) (.bi (.sorted false) (.call 18 (.cons (.var 0) (.cons (.bin .Add (.lit (.int 1)) (.call 17 (.cons (.var 0) (.cons (.var 1)
    .nil)))) .nil))))) (.cons (.setLc 3 (.lc false [4] (.nm 4) (.seq (.var 2)) (.some (.cmp .Gt (.call 17 (.cons (.var 0) (.cons (.lit (.int 3)) .nil)))
    (.lit (.int 0)))) (.var 4))) (.cons (.ife (.and (.cmp .Eq (.var 3) (.lst false .nil)) (.one (.cmp .Gt (.call 17 (.cons (.var 0) (.cons (.lit (.int 4))
    .nil))) (.lit (.int 0))))) (.cons (.set (.nm 3) (.sl (.var 2) .none (.some (.lit (.int 1))))) .nil) .nil) (.cons (.ret (.tup (.cons (.bi .tuple (.var
    2)) (.cons (.bi .tuple (.var 3)) .nil)))) .nil))))
def d19 : Def := { name := "_law_town", qual := "_law_town", cls := none, N := ["_law_pen", "_law_most", "_law_houses", "_law_gates", "_law_house"], np := 2, dfl := [], body := b19, st := tS 32 }
/-- _law_whole -/
def b20 : MSs :=
    (.cons (.ret (.and (.isi "int" (.var 0)) (.one (.not (.isi "bool" (.var 0)))))) .nil)
def d20 : Def := { name := "_law_whole", qual := "_law_whole", cls := none, N := ["_law_thing"], np := 1, dfl := [], body := b20, st := tS 33 }
def b21_l0 : MSs :=
    (.cons (.ife (.cmp .Eq (.var 3) (.lit (.str "h"))) (.cons (.ife (.or (.not (.isi "str" (.var 4))) (.one (.cmp .NotIn (.var 4) (.ix (.var 0) (.lit
    (.int 0)))))) (.cons (.ret (.lit (.bool false))) .nil) .nil) .nil) (.cons (.set (.tup (.cons (.nm 5) (.cons (.nm 6) .nil))) (.ix (.dct ["n", "t", "c"]
    (.cons (.tup (.cons (.lit (.int 0)) (.cons (.lit (.int 14)) .nil))) (.cons (.tup (.cons (.bin .Sub (.lit (.int 0)) (.bin .Pow (.lit (.int 10)) (.lit
    (.int 12)))) (.cons (.bin .Pow (.lit (.int 10)) (.lit (.int 12))) .nil))) (.cons (.tup (.cons (.lit (.int 0)) (.cons (.lit (.int 15)) .nil))) .nil))))
    (.var 3))) (.cons (.ife (.or (.not (.call 20 (.cons (.var 4) .nil))) (.one (.not (.cmp2 .LtE .LtE (.var 5) (.var 4) (.var 6))))) (.cons (.ret (.lit
    (.bool false))) .nil) .nil) .nil))) .nil)
/-- _law_is_row -/
def b21 : MSs :=
    (.cons (.set (.nm 2) (.dct ["ask", "job", "all"] (.cons (.lit (.str "hnnhtt")) (.cons (.lit (.str "hntt")) (.cons (.lit (.str "hcc")) .nil))))) (.cons
    (.ife (.or (.not (.isi "tuple" (.var 1))) (.or (.cmp .Eq (.var 1) (.tup .nil)) (.or (.not (.isi "str" (.ix (.var 1) (.lit (.int 0))))) (.one (.cmp
    .NotIn (.ix (.var 1) (.lit (.int 0))) (.var 2)))))) (.cons (.ret (.lit (.bool false))) .nil) .nil) (.cons (.ife (.cmp .NotEq (.bi .len (.var 1)) (.bin
    .Add (.lit (.int 1)) (.bi .len (.ix (.var 2) (.ix (.var 1) (.lit (.int 0))))))) (.cons (.ret (.lit (.bool false))) .nil) .nil) (.cons (.loop (.tup
    (.cons (.nm 3) (.cons (.nm 4) .nil))) (.zip (.ix (.var 2) (.ix (.var 1) (.lit (.int 0)))) (.sl (.var 1) (.some (.lit (.int 1))) .none)) b21_l0) (.cons
    (.ret (.or (.cmp .Eq (.ix (.var 1) (.lit (.int 0))) (.lit (.str "all"))) (.one (.cmp .LtE (.ix (.var 1) (.neg (.lit (.int 2)))) (.ix (.var 1) (.neg
    (.lit (.int 1)))))))) .nil)))))
def d21 : Def := { name := "_law_is_row", qual := "_law_is_row", cls := none, N := ["_law_town_here", "_law_thing", "_law_forms", "_law_sort", "_law_part", "_law_low", "_law_high"], np := 2, dfl := [], body := b21, st := tS 34 }
/-- _law_do_clash -/
def b22 : MSs :=
    (.cons (.ife (.or (.cmp .NotEq (.ix (.var 0) (.lit (.int 1))) (.ix (.var 1) (.lit (.int 1)))) (.one (.cmp .Eq (.var 0) (.var 1)))) (.cons (.ret (.lit
    (.bool false))) .nil) .nil) (.cons (.set (.tup (.cons (.nm 3) (.cons (.nm 4) .nil))) (.bi (.sorted false) (.lst false (.cons (.var 0) (.cons (.var 1)
    .nil))))) (.cons (.set (.nm 2) (.bin .Add (.ix (.var 3) (.lit (.int 0))) (.ix (.var 4) (.lit (.int 0))))) (.cons (.ife (.cmp .In (.var 2) (.tup (.cons
    (.lit (.str "askask")) (.cons (.lit (.str "jobjob")) .nil)))) (.cons (.set (.nm 5) (.ix (.lst false (.cons (.lit (.int 3)) (.cons (.lit (.int 5))
    .nil))) (.bi .int (.cmp .Eq (.var 2) (.lit (.str "askask")))))) (.cons (.ret (.or (.cmp .Eq (.ix (.var 3) (.lit (.int 2))) (.ix (.var 4) (.lit (.int
    2)))) (.one (.cmp .Lt (.bin .Mult (.bin .Sub (.ix (.var 3) (.lit (.int 2))) (.ix (.var 4) (.lit (.int 2)))) (.bin .Sub (.ix (.var 3) (.var 5)) (.ix
    (.var 4) (.var 5)))) (.lit (.int 0)))))) .nil)) .nil) (.cons (.ife (.cmp .Eq (.var 2) (.lit (.str "allask"))) (.cons (.ret (.or (.cmp .GtE (.ix (.var
    4) (.lit (.int 2))) (.ix (.var 3) (.lit (.int 2)))) (.one (.cmp .GtE (.ix (.var 4) (.lit (.int 3))) (.ix (.var 3) (.lit (.int 3))))))) .nil) .nil)
    (.cons (.ife (.cmp .Eq (.var 2) (.lit (.str "alljob"))) (.cons (.ret (.cmp .GtE (.ix (.var 4) (.lit (.int 2))) (.ix (.var 3) (.lit (.int 3))))) .nil)
    .nil) (.cons (.ife (.and (.cmp .Eq (.var 2) (.lit (.str "askjob"))) (.and (.cmp .Eq (.ix (.var 4) (.lit (.int 2))) (.ix (.var 3) (.lit (.int 3))))
    (.one (.cmp .LtE (.ix (.var 4) (.lit (.int 4))) (.ix (.var 3) (.lit (.int 6))))))) (.cons (.ret (.lit (.bool true))) .nil) .nil) (.cons (.ret (.or
    (.cmp .Eq (.var 2) (.lit (.str "allall"))) (.one (.and (.cmp .LtE (.ix (.var 4) (.lit (.int 2))) (.ix (.var 3) (.lit (.int 3)))) (.one (.cmp .GtE (.ix
    (.var 4) (.lit (.int 3))) (.ix (.var 3) (.lit (.int 5))))))))) .nil))))))))
def d22 : Def := { name := "_law_do_clash", qual := "_law_do_clash", cls := none, N := ["_law_one", "_law_other", "_law_words", "_law_first", "_law_second", "_law_at"], np := 2, dfl := [], body := b22, st := tS 35 }
def b23_l0 : MSs :=
    (.cons (.ife (.call 22 (.cons (.ix (.var 0) (.var 2)) (.cons (.ix (.var 0) (.var 1)) .nil))) (.cons (.ret (.tup (.cons (.var 2) (.cons (.var 1)
    .nil)))) .nil) .nil) .nil)
def b23_l1 : MSs :=
    (.cons (.loop (.nm 2) (.rng1 (.var 1)) b23_l0) .nil)
/-- _law_first_clash -/
def b23 : MSs :=
    (.cons (.loop (.nm 1) (.rng1 (.bi .len (.var 0))) b23_l1) (.cons (.ret (.lit .none)) .nil))
def d23 : Def := { name := "_law_first_clash", qual := "_law_first_clash", cls := none, N := ["_law_rows", "_law_second", "_law_first"], np := 1, dfl := [], body := b23, st := tS 36 }
/-- _law_number -/
def b24 : MSs :=
    (.cons (.ret (.ix (.lst false (.cons (.lit (.int 0)) (.cons (.lit (.int 14)) (.cons (.call 17 (.cons (.var 0) (.cons (.lit (.int 15)) .nil))) .nil))))
    (.call 17 (.cons (.var 0) (.cons (.lit (.int 3)) .nil))))) .nil)
def d24 : Def := { name := "_law_number", qual := "_law_number", cls := none, N := ["_law_pen"], np := 1, dfl := [], body := b24, st := tS 37 }
/-- _law_two_times -/
def b25 : MSs :=
    (.cons (.set (.nm 1) (.lst false (.cons (.bin .Sub (.call 17 (.cons (.var 0) (.cons (.bin .Add (.bin .Mult (.lit (.int 2)) (.bin .Pow (.lit (.int 10))
    (.lit (.int 12)))) (.lit (.int 1))) .nil))) (.bin .Pow (.lit (.int 10)) (.lit (.int 12)))) (.cons (.call 17 (.cons (.var 0) (.cons (.lit (.int 9))
    .nil))) (.cons (.bin .Pow (.lit (.int 10)) (.lit (.int 12))) (.cons (.bin .Sub (.lit (.int 0)) (.bin .Pow (.lit (.int 10)) (.lit (.int 12))))
    .nil)))))) (.cons (.ret (.bi (.sorted false) (.lst false (.cons (.ix (.var 1) (.call 17 (.cons (.var 0) (.cons (.lit (.int 4)) .nil)))) (.cons (.ix
    (.var 1) (.call 17 (.cons (.var 0) (.cons (.lit (.int 4)) .nil)))) .nil))))) .nil))
def d25 : Def := { name := "_law_two_times", qual := "_law_two_times", cls := none, N := ["_law_pen", "_law_some"], np := 1, dfl := [], body := b25, st := tS 38 }
/-- _law_any_row -/
def b26 : MSs :=
    (.cons (.set (.nm 2) (.ix (.ix (.var 1) (.lit (.int 0))) (.call 17 (.cons (.var 0) (.cons (.bi .len (.ix (.var 1) (.lit (.int 0)))) .nil))))) (.cons
    (.set (.nm 3) (.call 17 (.cons (.var 0) (.cons (.lit (.int 3)) .nil)))) (.cons (.set (.tup (.cons (.nm 4) (.cons (.nm 5) .nil))) (.call 25 (.cons
    (.var 0) .nil))) (.cons (.ife (.cmp .Eq (.var 3) (.lit (.int 0))) (.cons (.set (.nm 6) (.ix (.ix (.var 1) (.lit (.int 0))) (.call 17 (.cons (.var 0)
    (.cons (.bi .len (.ix (.var 1) (.lit (.int 0)))) .nil))))) (.cons (.ret (.tup (.cons (.lit (.str "ask")) (.cons (.var 2) (.cons (.call 24 (.cons (.var
    0) .nil)) (.cons (.call 24 (.cons (.var 0) .nil)) (.cons (.var 6) (.cons (.var 4) (.cons (.var 5) .nil))))))))) .nil)) .nil) (.cons (.ife (.cmp .Eq
    (.var 3) (.lit (.int 1))) (.cons (.ret (.tup (.cons (.lit (.str "job")) (.cons (.var 2) (.cons (.call 24 (.cons (.var 0) .nil)) (.cons (.var 4) (.cons
    (.var 5) .nil))))))) .nil) .nil) (.cons (.ret (.tup (.cons (.lit (.str "all")) (.cons (.var 2) (.cons (.bin .Add (.call 24 (.cons (.var 0) .nil))
    (.call 17 (.cons (.var 0) (.cons (.lit (.int 2)) .nil)))) (.cons (.bin .Add (.call 24 (.cons (.var 0) .nil)) (.call 17 (.cons (.var 0) (.cons (.lit
    (.int 2)) .nil)))) .nil)))))) .nil))))))
def d26 : Def := { name := "_law_any_row", qual := "_law_any_row", cls := none, N := ["_law_pen", "_law_town_here", "_law_house", "_law_way", "_law_out", "_law_back", "_law_goal"], np := 2, dfl := [], body := b26, st := tS 39 }
/-- _law_few_row -/
def b27 : MSs :=
    (.cons (.set (.nm 2) (.ix (.ix (.var 1) (.lit (.int 0))) (.call 17 (.cons (.var 0) (.cons (.bi .len (.ix (.var 1) (.lit (.int 0)))) .nil))))) (.cons
    (.set (.nm 3) (.call 17 (.cons (.var 0) (.cons (.lit (.int 7)) .nil)))) (.cons (.set (.nm 4) (.call 17 (.cons (.var 0) (.cons (.lit (.int 6)) .nil))))
    (.cons (.set (.nm 5) (.bin .Add (.var 4) (.call 17 (.cons (.var 0) (.cons (.lit (.int 4)) .nil))))) (.cons (.ife (.cmp .Lt (.var 3) (.lit (.int 3)))
    (.cons (.set (.nm 6) (.ix (.ix (.var 1) (.lit (.int 0))) (.call 17 (.cons (.var 0) (.cons (.bi .len (.ix (.var 1) (.lit (.int 0)))) .nil))))) (.cons
    (.ret (.tup (.cons (.lit (.str "ask")) (.cons (.var 2) (.cons (.call 17 (.cons (.var 0) (.cons (.lit (.int 3)) .nil))) (.cons (.call 17 (.cons (.var
    0) (.cons (.lit (.int 3)) .nil))) (.cons (.var 6) (.cons (.var 4) (.cons (.var 5) .nil))))))))) .nil)) .nil) (.cons (.ife (.cmp .Lt (.var 3) (.lit
    (.int 6))) (.cons (.ret (.tup (.cons (.lit (.str "job")) (.cons (.var 2) (.cons (.call 17 (.cons (.var 0) (.cons (.lit (.int 3)) .nil))) (.cons (.var
    4) (.cons (.var 5) .nil))))))) .nil) .nil) (.cons (.ret (.tup (.cons (.lit (.str "all")) (.cons (.var 2) (.cons (.call 17 (.cons (.var 0) (.cons (.lit
    (.int 5)) .nil))) (.cons (.call 17 (.cons (.var 0) (.cons (.lit (.int 5)) .nil))) .nil)))))) .nil)))))))
def d27 : Def := { name := "_law_few_row", qual := "_law_few_row", cls := none, N := ["_law_pen", "_law_town_here", "_law_house", "_law_way", "_law_out", "_law_back", "_law_goal"], np := 2, dfl := [], body := b27, st := tS 40 }
/-- _law_no_row -/
def b28 : MSs :=
    (.cons (.set (.nm 2) (.call 26 (.cons (.var 0) (.cons (.var 1) .nil)))) (.cons (.set (.nm 3) (.call 17 (.cons (.var 0) (.cons (.bi .len (.var 2))
    .nil)))) (.cons (.set (.nm 4) (.lst false (.cons (.lit (.str "")) (.cons (.lit (.str "zzzzzzzzz")) (.cons (.lit (.str "A")) (.cons (.lit .none) (.cons
    (.lit (.bool true)) (.cons (.lit (.bool false)) (.cons (.neg (.lit (.int 1))) (.cons (.lit (.int 15)) (.cons (.lit (.int 16)) (.cons (.bin .Add (.bin
    .Pow (.lit (.int 10)) (.lit (.int 12))) (.lit (.int 1))) (.cons (.bin .Sub (.bin .Sub (.lit (.int 0)) (.bin .Pow (.lit (.int 10)) (.lit (.int 12))))
    (.lit (.int 1))) (.cons (.lit (.str "0")) (.cons (.tup (.cons (.lit (.str "a")) .nil)) (.cons (.lst false (.cons (.lit (.int 0)) .nil))
    .nil)))))))))))))))) (.cons (.set (.nm 5) (.ix (.bin .Add (.var 4) (.lst false (.cons (.lit (.int 0)) (.cons (.lit (.int 14)) (.cons (.ix (.ix (.var
    1) (.lit (.int 0))) (.lit (.int 0))) (.cons (.lit (.str "ask")) (.cons (.lit (.str "job")) (.cons (.lit (.str "all")) .nil)))))))) (.call 17 (.cons
    (.var 0) (.cons (.lit (.int 20)) .nil))))) (.cons (.set (.nm 6) (.call 17 (.cons (.var 0) (.cons (.lit (.int 8)) .nil)))) (.cons (.ife (.cmp .Eq (.var
    6) (.lit (.int 0))) (.cons (.ret (.bin .Add (.sl (.var 2) .none (.some (.var 3))) (.sl (.var 2) (.some (.bin .Add (.var 3) (.lit (.int 1)))) .none)))
    .nil) .nil) (.cons (.ife (.cmp .Eq (.var 6) (.lit (.int 1))) (.cons (.ret (.bin .Add (.bin .Add (.sl (.var 2) .none (.some (.var 3))) (.tup (.cons
    (.var 5) .nil))) (.sl (.var 2) (.some (.var 3)) .none))) .nil) .nil) (.cons (.ife (.cmp .Eq (.var 6) (.lit (.int 2))) (.cons (.ret (.ix (.lst false
    (.cons (.bi (.list false) (.var 2)) (.cons (.lit .none) (.cons (.tup .nil) (.cons (.lit (.int 7)) (.cons (.lit (.bool true)) (.cons (.lit (.str
    "ask")) (.cons (.lst false (.cons (.var 2) .nil)) (.cons (.tup (.cons (.var 2) .nil)) (.cons (.ix (.var 2) (.lit (.int 0))) (.cons (.tup (.cons (.lit
    (.str "ask")) .nil)) .nil))))))))))) (.call 17 (.cons (.var 0) (.cons (.lit (.int 10)) .nil))))) .nil) .nil) (.cons (.ife (.cmp .Eq (.var 6) (.lit
    (.int 3))) (.cons (.ret (.bin .Add (.sl (.var 2) .none (.some (.neg (.lit (.int 2))))) (.tup (.cons (.ix (.var 2) (.neg (.lit (.int 1)))) (.cons (.ix
    (.var 2) (.neg (.lit (.int 2)))) .nil))))) .nil) .nil) (.cons (.ret (.bin .Add (.bin .Add (.sl (.var 2) .none (.some (.var 3))) (.tup (.cons (.var 5)
    .nil))) (.sl (.var 2) (.some (.bin .Add (.var 3) (.lit (.int 1)))) .none))) .nil))))))))))
def d28 : Def := { name := "_law_no_row", qual := "_law_no_row", cls := none, N := ["_law_pen", "_law_town_here", "_law_row", "_law_at", "_law_some", "_law_part", "_law_way"], np := 2, dfl := [], body := b28, st := tS 41 }
def b29_l0 : MSs :=
    (.cons (.ife (.not (.call 29 (.cons (.var 2) (.cons (.var 3) .nil)))) (.cons (.ret (.lit (.bool false))) .nil) .nil) .nil)
/-- _law_same -/
def b29 : MSs :=
    (.cons (.ife (.cmp .Is (.var 1) (.lit .none)) (.cons (.ret (.cmp .Is (.var 0) (.lit .none))) .nil) .nil) (.cons (.ife (.cmp .Is (.var 1) (.lit (.bool
    true))) (.cons (.ret (.cmp .Is (.var 0) (.lit (.bool true)))) .nil) .nil) (.cons (.ife (.cmp .Is (.var 1) (.lit (.bool false))) (.cons (.ret (.cmp .Is
    (.var 0) (.lit (.bool false)))) .nil) .nil) (.cons (.ife (.isi "int" (.var 1)) (.cons (.ret (.and (.isi "int" (.var 0)) (.and (.not (.isi "bool" (.var
    0))) (.one (.cmp .Eq (.var 0) (.var 1)))))) .nil) .nil) (.cons (.ife (.isi "str" (.var 1)) (.cons (.ret (.and (.isi "str" (.var 0)) (.one (.cmp .Eq
    (.var 0) (.var 1))))) .nil) .nil) (.cons (.ife (.or (.cmp .NotEq (.isi "tuple" (.var 1)) (.isi "tuple" (.var 0))) (.one (.cmp .NotEq (.isi "list"
    (.var 1)) (.isi "list" (.var 0))))) (.cons (.ret (.lit (.bool false))) .nil) .nil) (.cons (.ife (.cmp .NotEq (.bi .len (.var 0)) (.bi .len (.var 1)))
    (.cons (.ret (.lit (.bool false))) .nil) .nil) (.cons (.loop (.tup (.cons (.nm 2) (.cons (.nm 3) .nil))) (.zip (.var 0) (.var 1)) b29_l0) (.cons (.ret
    (.lit (.bool true))) .nil)))))))))
def d29 : Def := { name := "_law_same", qual := "_law_same", cls := none, N := ["_law_found", "_law_due_here", "_law_one", "_law_other"], np := 2, dfl := [], body := b29, st := tS 42 }
def b30_t5 : MSs :=
    (.cons (.ret (.frz (.var 2))) .nil)
def b30_l0 : MSs :=
    (.cons (.ex (.mcall .insert (.var 2) (.cons (.call 17 (.cons (.var 0) (.cons (.bin .Add (.bi .len (.var 2)) (.lit (.int 1))) .nil))) (.cons (.call 28
    (.cons (.var 0) (.cons (.var 1) .nil))) .nil)))) .nil)
def b30_t4 : MSs :=
    (.cons (.loop (.nm 4) (.rng1 (.ix (.lst false (.cons (.lit (.int 0)) (.cons (.lit (.int 0)) (.cons (.lit (.int 1)) (.cons (.lit (.int 2)) .nil)))))
    (.call 17 (.cons (.var 0) (.cons (.lit (.int 4)) .nil))))) b30_l0) b30_t5)
def b30_t3 : MSs :=
    (.cons (.ife (.and (.cmp .NotEq (.var 2) (.lst false .nil)) (.one (.cmp .Eq (.call 17 (.cons (.var 0) (.cons (.lit (.int 2)) .nil))) (.lit (.int
    0))))) (.cons (.ex (.mcall .insert (.var 2) (.cons (.call 17 (.cons (.var 0) (.cons (.bin .Add (.bi .len (.var 2)) (.lit (.int 1))) .nil))) (.cons
    (.ix (.var 2) (.call 17 (.cons (.var 0) (.cons (.bi .len (.var 2)) .nil)))) .nil)))) .nil) .nil) b30_t4)
def b30_l1 : MSs :=
    (.cons (.set (.nm 5) (.call 27 (.cons (.var 0) (.cons (.var 1) .nil)))) (.cons (.ife (.or (.cmp .Eq (.var 3) (.lit (.int 0))) (.or (.cmp .Is (.call 23
    (.cons (.bin .Add (.var 2) (.lst false (.cons (.var 5) .nil))) .nil)) (.lit .none)) (.one (.cmp .Eq (.call 17 (.cons (.var 0) (.cons (.lit (.int 12))
    .nil))) (.lit (.int 0)))))) (.cons (.app (.var 2) (.var 5)) .nil) .nil) .nil))
/-- _law_list -/
def b30 : MSs :=
    (.cons (.set (.nm 2) (.lst true .nil)) (.cons (.set (.nm 3) (.call 17 (.cons (.var 0) (.cons (.lit (.int 4)) .nil)))) (.cons (.loop (.nm 4) (.rng1
    (.call 17 (.cons (.var 0) (.cons (.lit (.int 13)) .nil)))) b30_l1) b30_t3)))
def d30 : Def := { name := "_law_list", qual := "_law_list", cls := none, N := ["_law_pen", "_law_town_here", "_law_rows", "_law_keen", "_law_k", "_law_row"], np := 2, dfl := [], body := b30, st := tS 43 }
def b31_l0 : MSs :=
    (.cons (.ife (.not (.call 21 (.cons (.var 0) (.cons (.ix (.var 1) (.var 2)) .nil)))) (.cons (.ret (.lst false (.cons (.lit (.str "row")) (.cons (.var
    2) .nil)))) .nil) .nil) .nil)
/-- _law_due -/
def b31 : MSs :=
    (.cons (.loop (.nm 2) (.rng1 (.bi .len (.var 1))) b31_l0) (.cons (.set (.nm 3) (.call 23 (.cons (.var 1) .nil))) (.cons (.ife (.cmp .Is (.var 3) (.lit
    .none)) (.cons (.ret (.lst false (.cons (.lit (.str "told")) (.cons (.lit .none) .nil)))) .nil) .nil) (.cons (.ret (.lst false (.cons (.lit (.str
    "clash")) (.cons (.ix (.var 3) (.lit (.int 0))) (.cons (.ix (.var 3) (.lit (.int 1))) .nil))))) .nil))))
def d31 : Def := { name := "_law_due", qual := "_law_due", cls := none, N := ["_law_town_here", "_law_rows", "_law_number_here", "_law_found"], np := 2, dfl := [], body := b31, st := tS 44 }
/-- _law_told -/
def b32 : MSs :=
    (.cons (.set (.nm 2) (.lst false .nil)) (.cons (.tryS (.set (.nm 2) (.lst false (.cons (.lit (.str "told")) (.cons (.call 13 (.cons (.var 0) (.cons
    (.var 1) .nil))) .nil)))) [⟨[("Clash", false), ("NoRow", true)], some 3, 2, (.lst (.cons (.lit (.str "row")) (.cons (.fld "NoRow" "number") .nil)))⟩,
    ⟨[("Clash", true), ("NoRow", false)], some 3, 2, (.lst (.cons (.lit (.str "clash")) (.cons (.fld "Clash" "first") (.cons (.fld "Clash" "second")
    .nil))))⟩]) (.cons (.ret (.var 2)) .nil)))
def d32 : Def := { name := "_law_told", qual := "_law_told", cls := none, N := ["_law_town_here", "_law_rows", "_law_told_here", "e"], np := 2, dfl := [], body := b32, st := tS 45 }
/-- law -/
def b33 : MSs :=
    (.cons (.set (.nm 1) (.call 15 (.cons (.var 0) .nil))) (.cons (.loop (.nm 2) (.rng1 (.lit (.int 8))) (.cons (.set (.nm 3) (.call 19 (.cons (.call 16
    (.cons (.var 1) .nil)) (.cons (.lit (.int 3)) .nil)))) (.cons (.set (.nm 4) (.call 30 (.cons (.var 1) (.cons (.var 3) .nil)))) (.cons (.set (.nm 5)
    (.bi (.list false) (.var 4))) (.cons (.loop (.nm 6) (.rng1 (.lit (.int 2))) (.cons (.ife (.or (.not (.call 29 (.cons (.call 32 (.cons (.var 3) (.cons
    (.var 5) .nil))) (.cons (.call 31 (.cons (.var 3) (.cons (.var 4) .nil))) .nil)))) (.one (.cmp .NotEq (.var 5) (.var 4)))) (.cons (.ret (.lit (.bool
    false))) .nil) .nil) .nil)) .nil))))) (.cons (.ret (.cmp .Eq (.call 32 (.cons (.tup (.cons (.tup (.cons (.lit (.str "a")) .nil)) (.cons (.tup .nil)
    .nil))) (.cons (.lst false .nil) .nil))) (.lst false (.cons (.lit (.str "told")) (.cons (.lit .none) .nil))))) .nil)))
def d33 : Def := { name := "law", qual := "law", cls := none, N := ["_law_script", "_law_pen", "_law_turn", "_law_town_here", "_law_rows", "_law_handed", "_law_again"], np := 1, dfl := [], body := b33, st := tS 46 }
def defs : List Def := [d0, d1, d2, d3, d4, d5, d6, d7, d8, d9, d10, d11, d12, d13, d14, d15, d16, d17, d18, d19, d20, d21, d22, d23, d24, d25, d26, d27, d28, d29, d30, d31, d32, d33]
def glbs : List (Str × PyData) := [("LETTERS", (.str "abcdefghijklmnopqrstuvwxyz")), ("LONGEST", (.int 8)), ("LAST_NUMBER", (.int 14)), ("MOST_COUNTED", (.int 15)), ("FARTHEST", (.int 1000000000000))]
def gds : List (Str × List (Str × PyData)) := [("TIMES", [("ask", (.int 5)), ("job", (.int 3))])]
def bl : List Str := ["len", "all", "sorted", "tuple", "list", "int", "isinstance", "range", "enumerate", "zip", "str", "bool"]
def xcls : List (Str × Nat × List (Str × FE)) := [("Clash", 2, [("first", .arg 0), ("second", .arg 1)]), ("NoRow", 1, [("number", .arg 0)])]
def xtab : List ((Str × Str) × Bool) := [(("Clash", "Clash"), true), (("NoRow", "Clash"), false), (("Clash", "NoRow"), false), (("NoRow", "NoRow"), true)]
def xfld : List (Str × Str) := [("Clash", "first"), ("Clash", "second"), ("NoRow", "number")]
def hcs : List Str := ["Clash", "NoRow"]
def T : Tabs := ⟨glbs, gds, bl, [], xcls, xtab, xfld, hcs⟩
theorem k0 : defC defs T d0 = true := by decide +kernel
theorem k1 : defC defs T d1 = true := by decide +kernel
theorem k2 : defC defs T d2 = true := by decide +kernel
theorem k3 : defC defs T d3 = true := by decide +kernel
theorem k4 : defC defs T d4 = true := by decide +kernel
theorem k5 : defC defs T d5 = true := by decide +kernel
theorem k6 : defC defs T d6 = true := by decide +kernel
theorem k7 : defC defs T d7 = true := by decide +kernel
theorem k8 : defC defs T d8 = true := by decide +kernel
theorem k9 : defC defs T d9 = true := by decide +kernel
theorem k10 : defC defs T d10 = true := by decide +kernel
theorem k11 : defC defs T d11 = true := by decide +kernel
theorem k12 : defC defs T d12 = true := by decide +kernel
theorem k13 : defC defs T d13 = true := by decide +kernel
theorem k14 : defC defs T d14 = true := by decide +kernel
theorem k15 : defC defs T d15 = true := by decide +kernel
theorem k16 : defC defs T d16 = true := by decide +kernel
theorem k17 : defC defs T d17 = true := by decide +kernel
theorem k18 : defC defs T d18 = true := by decide +kernel
theorem k19 : defC defs T d19 = true := by decide +kernel
theorem k20 : defC defs T d20 = true := by decide +kernel
theorem k21 : defC defs T d21 = true := by decide +kernel
theorem k22 : defC defs T d22 = true := by decide +kernel
theorem k23 : defC defs T d23 = true := by decide +kernel
theorem k24 : defC defs T d24 = true := by decide +kernel
theorem k25 : defC defs T d25 = true := by decide +kernel
theorem k26 : defC defs T d26 = true := by decide +kernel
theorem k27 : defC defs T d27 = true := by decide +kernel
theorem k28 : defC defs T d28 = true := by decide +kernel
theorem k29 : defC defs T d29 = true := by decide +kernel
theorem k30 : defC defs T d30 = true := by decide +kernel
theorem k31 : defC defs T d31 = true := by decide +kernel
theorem k32 : defC defs T d32 = true := by decide +kernel
theorem k33 : defC defs T d33 = true := by decide +kernel
def e0 : Def := { name := "__init__", qual := "Clash.__init__", cls := some "Clash", N := ["self", "first", "second"], np := 3, dfl := [], body := .nil, st := cS 3 0 }
theorem s0 : scC e0 = true := by decide +kernel
theorem i0 : chkI (ctxOf [] T e0) "CallError" [("first", .arg 0), ("second", .arg 1)] (defBody e0.st) = true := by decide +kernel
def e1 : Def := { name := "__init__", qual := "NoRow.__init__", cls := some "NoRow", N := ["self", "number"], np := 2, dfl := [], body := .nil, st := cS 2 0 }
theorem s1 : scC e1 = true := by decide +kernel
theorem i1 : chkI (ctxOf [] T e1) "CallError" [("number", .arg 0)] (defBody e1.st) = true := by decide +kernel

/-! the pen: it draws numbers -/
def pen (cs : List Int) (i : Nat) (v : Int) : Store := [.lst (cs.map fun c => .p (.int c)), .lst [.c 0, .p (.int i), .p (.int v)]]
def OkEx (ex : Store) : Prop := ex.all (cellBelow (2 + ex.length)) = true
theorem gc_pen {cs : List Int} {i : Nat} {v : Int} {ex more : Store} {n : Nat} (h : OkEx ex) (e : n = 2 + ex.length) : gc n (pen cs i v ++ ex ++ more) = pen cs i v ++ ex := by
  refine gc_at (by rw [e]; simp [pen]; omega) ?_
  rw [List.all_append, Bool.and_eq_true]
  refine ⟨?_, by rw [e]; exact h⟩
  have : 0 < 2 + ex.length := by omega
  simp [pen, cellBelow, dBelow, e, this]
theorem gc_pen0 {cs : List Int} {i : Nat} {v : Int} {ex : Store} {n : Nat} (e : n = 2 + ex.length) : gc n (pen cs i v ++ ex) = pen cs i v ++ ex := gc_self (by rw [e]; simp [pen]; omega)
theorem spread_ok (k : Nat) (c a : Int) (st : Store) : wpe NoX (semK defs (k + 1) 14 [.p (.int c), .p (.int a)] st) fun d st' => ∃ x : Int, d = .p (.int x) ∧ st' = st := by
  refine wp_sem (d := d14) rfl rfl ?_
  simp only [d14, b14, e_svs_cons, e_svs_nil, e_sv_ife, e_sv_ret, e_sv_retN, e_sv_set, e_sv_setIx, e_sv_setLc, e_sv_app, e_sv_ex, e_sv_loop, e_sv_pass, e_ev_var, e_ev_lit, e_ev_glb, e_ev_gix, e_ev_bin, e_ev_neg, e_ev_not, w_and, w_or, QT2_bool, QB_bool, e_ev_one, e_ev_cmp, w_cmp2, e_ev_ife, e_ev_tup, e_mkT, e_ev_lst, e_ev_frz, e_ev_rev, e_ev_dct, e_ev_mcall, e_ev_callD, e_ev_callT, e_sv_tryS, e_sv_raise, e_tbv_ex, e_tbv_set, e_tbv_ife, e_tbv_exSet, e_sv_brk, e_sv_cont, wp_catch, e_evc_none, e_evc_some, e_ev_ix, e_ev_sl, e_ev_bi, e_ev_mx2, e_ev_isi, e_ev_call, e_ev_join, e_ev_lc, e_evs_nil, e_evs_cons, e_evo_none, e_evo_some, e_evi_seq, e_evi_rng1, e_evi_rng2, e_evi_enum, e_evi_zip, env0, varD, e_b_nm, e_b_tT, e_b_tL, e_b_nil, e_b_cons, wp_bind, wp_then, wp_ok, wp_truR, wp_finP, QF_nx, QF_rt, QE1_rt, QE1_nx, QT1_bool, List.map, List.length, List.replicate, List.getElem?_cons_zero, List.getElem?_cons_succ, List.set, Nat.reduceSub, List.cons_append, List.nil_append, Nat.reduceAdd, wp_ite, e_mkLT, tru_b, seqI_L, seqI_T, pures_p, pures_nil, Option.map_some, Option.bind_some, if_true, sz_0, sz_1, sz_2, sz_3, sz_4, sz_5, sz_6, sz_7, sz_8, sz_9, sz_10, sz_11, sz_12, sz_13, sz_14, sz_15, sz_16, sz_17, sz_18, sz_19, sz_20, sz_21, sz_22, sz_23, sz_24, sz_25, sz_26, sz_27, sz_28, sz_29, sz_30, sz_31, sz_32, sz_33, sz_34, sz_35, sz_36, sz_37, sz_38, sz_39, sz_40, e_pow18, e_ge]
  split
  · exact ⟨c, rfl, gc_self rfl⟩
  · simp only [e_svs_cons, e_svs_nil, e_sv_ife, e_sv_ret, e_sv_retN, e_sv_set, e_sv_setIx, e_sv_setLc, e_sv_app, e_sv_ex, e_sv_loop, e_sv_pass, e_ev_var, e_ev_lit, e_ev_glb, e_ev_gix, e_ev_bin, e_ev_neg, e_ev_not, w_and, w_or, QT2_bool, QB_bool, e_ev_one, e_ev_cmp, w_cmp2, e_ev_ife, e_ev_tup, e_mkT, e_ev_lst, e_ev_frz, e_ev_rev, e_ev_dct, e_ev_mcall, e_ev_callD, e_ev_callT, e_sv_tryS, e_sv_raise, e_tbv_ex, e_tbv_set, e_tbv_ife, e_tbv_exSet, e_sv_brk, e_sv_cont, wp_catch, e_evc_none, e_evc_some, e_ev_ix, e_ev_sl, e_ev_bi, e_ev_mx2, e_ev_isi, e_ev_call, e_ev_join, e_ev_lc, e_evs_nil, e_evs_cons, e_evo_none, e_evo_some, e_evi_seq, e_evi_rng1, e_evi_rng2, e_evi_enum, e_evi_zip, env0, varD, e_b_nm, e_b_tT, e_b_tL, e_b_nil, e_b_cons, wp_bind, wp_then, wp_ok, wp_truR, wp_finP, QF_nx, QF_rt, QE1_rt, QE1_nx, QT1_bool, List.map, List.length, List.replicate, List.getElem?_cons_zero, List.getElem?_cons_succ, List.set, Nat.reduceSub, List.cons_append, List.nil_append, Nat.reduceAdd, wp_ite, e_mkLT, tru_b, seqI_L, seqI_T, pures_p, pures_nil, Option.map_some, Option.bind_some, if_true, sz_0, sz_1, sz_2, sz_3, sz_4, sz_5, sz_6, sz_7, sz_8, sz_9, sz_10, sz_11, sz_12, sz_13, sz_14, sz_15, sz_16, sz_17, sz_18, sz_19, sz_20, sz_21, sz_22, sz_23, sz_24, sz_25, sz_26, sz_27, sz_28, sz_29, sz_30, sz_31, sz_32, sz_33, sz_34, sz_35, sz_36, sz_37, sz_38, sz_39, sz_40, e_mod, e_mul, e_add, Int.reduceLT, if_true]
    refine if_go (mulOk_r (by decide)) (if_go (mulOk_r (by decide)) (if_go (mulOk_r (abs_mod (by decide) (by decide))) (if_go (mulOk_r (by decide)) (if_go (mulOk_r (abs_mod (by decide) (by decide))) (if_go (mulOk_r (by decide)) (if_go (mulOk_r (by decide)) (if_go (mulOk_r (by decide)) ?_)))))))
    exact ⟨_, rfl, gc_self rfl⟩
theorem pen_len (cs : List Int) (i : Nat) (v : Int) (ex : Store) : (pen cs i v ++ ex).length = 2 + ex.length := by simp [pen]; omega
theorem pen_1 (cs : List Int) (i : Nat) (v : Int) (ex : Store) : cellL (pen cs i v ++ ex) 1 = some [.c 0, .p (.int i), .p (.int v)] := rfl
theorem pen_0 (cs : List Int) (i : Nat) (v : Int) (ex : Store) : cellL (pen cs i v ++ ex) 0 = some (cs.map fun c => .p (.int c)) := rfl
theorem pen_set (cs : List Int) (i j : Nat) (v u : Int) (ex : Store) : (pen cs i v ++ ex).set 1 (.lst [.c 0, .p (.int j), .p (.int u)]) = pen cs j u ++ ex := rfl
theorem len_c {n : Nat} {st : Store} {ds : List D} (h : cellL st n = some ds) : bi1D .len (.c n) st = .ok (.p (.int ds.length)) st := by
  have : items (.c n) st = some ds := h
  unfold bi1D lenD
  simp only [this]
theorem setIx_c {n : Nat} {st : Store} {ds : List D} (h : cellL st n = some ds) (j : Nat) (hj : j < ds.length) (x : D) (env : MP.Env) : setIxD (.c n) (.p (.int (j : Int))) x env st = .ok (.nx env) (st.set n (.lst (ds.set j x))) := by
  unfold setIxD
  simp only [cellL_some h]
  have : ixN ds.length (j : Int) = some j := by unfold ixN; simp [hj]
  rw [this]
section
variable {cs : List Int} {i : Nat} {v m : Int} {ex : Store}
theorem p_ix0 : ixD (.c 1) (.p (.int 0)) (pen cs i v ++ ex) = .ok (.c 0) (pen cs i v ++ ex) := nr rfl
theorem p_ix1 : ixD (.c 1) (.p (.int 1)) (pen cs i v ++ ex) = .ok (.p (.int i)) (pen cs i v ++ ex) := nr rfl
theorem p_ix2 : ixD (.c 1) (.p (.int 2)) (pen cs i v ++ ex) = .ok (.p (.int v)) (pen cs i v ++ ex) := nr rfl
theorem p_len : bi1D .len (.c 0) (pen cs i v ++ ex) = .ok (.p (.int cs.length)) (pen cs i v ++ ex) := by
  rw [len_c (pen_0 cs i v ex), List.length_map]
theorem p_cell {j : Nat} (hj : j < cs.length) : ixD (.c 0) (.p (.int j)) (pen cs i v ++ ex) = .ok (.p (.int cs[j])) (pen cs i v ++ ex) := by
  rw [ix_c (pen_0 cs i v ex)]
  have : atI (cs.map fun c => D.p (.int c)) (j : Int) = some (.p (.int cs[j])) := by
    exact atI_nat (by simp [hj])
  rw [this]
theorem p_set1 (env : MP.Env) (u : Int) (j : Nat) (hu : u = j) : setIxD (.c 1) (.p (.int 1)) (.p (.int u)) env (pen cs i v ++ ex) = .ok (.nx env) (pen cs j v ++ ex) := by
  subst hu; exact nr rfl
theorem p_set2 (env : MP.Env) (u : Int) : setIxD (.c 1) (.p (.int 2)) (.p (.int u)) env (pen cs i v ++ ex) = .ok (.nx env) (pen cs i u ++ ex) := nr rfl
end
theorem take_ok (k : Nat) {cs : List Int} {i : Nat} {v m : Int} {ex : Store} (hm : 0 < m) (hm2 : m < 2 ^ 100) :
    wpe NoX (semK defs (k + 2) 17 [.c 1, .p (.int m)] (pen cs i v ++ ex)) fun d st' => ∃ (x : Int) (j : Nat) (u : Int), 0 ≤ x ∧ x < m ∧ d = .p (.int x) ∧ st' = pen cs j u ++ ex := by
  refine wp_sem (d := d17) rfl rfl ?_
  have hg : ∀ (j : Nat) (u : Int), gc (pen cs i v ++ ex).length (pen cs j u ++ ex) = pen cs j u ++ ex := fun j u => gc_pen0 (pen_len cs i v ex)
  have h1 := Int.emod_nonneg
  have h2 := fun x : Int => Int.emod_lt_of_pos x hm
  simp only [d17, b17, e_svs_cons, e_svs_nil, e_sv_ife, e_sv_ret, e_sv_retN, e_sv_set, e_sv_setIx, e_sv_setLc, e_sv_app, e_sv_ex, e_sv_loop, e_sv_pass, e_ev_var, e_ev_lit, e_ev_glb, e_ev_gix, e_ev_bin, e_ev_neg, e_ev_not, w_and, w_or, QT2_bool, QB_bool, e_ev_one, e_ev_cmp, w_cmp2, e_ev_ife, e_ev_tup, e_mkT, e_ev_lst, e_ev_frz, e_ev_rev, e_ev_dct, e_ev_mcall, e_ev_callD, e_ev_callT, e_sv_tryS, e_sv_raise, e_tbv_ex, e_tbv_set, e_tbv_ife, e_tbv_exSet, e_sv_brk, e_sv_cont, wp_catch, e_evc_none, e_evc_some, e_ev_ix, e_ev_sl, e_ev_bi, e_ev_mx2, e_ev_isi, e_ev_call, e_ev_join, e_ev_lc, e_evs_nil, e_evs_cons, e_evo_none, e_evo_some, e_evi_seq, e_evi_rng1, e_evi_rng2, e_evi_enum, e_evi_zip, env0, varD, e_b_nm, e_b_tT, e_b_tL, e_b_nil, e_b_cons, wp_bind, wp_then, wp_ok, wp_truR, wp_finP, QF_nx, QF_rt, QE1_rt, QE1_nx, QT1_bool, List.map, List.length, List.replicate, List.getElem?_cons_zero, List.getElem?_cons_succ, List.set, Nat.reduceSub, List.cons_append, List.nil_append, Nat.reduceAdd, wp_ite, e_mkLT, tru_b, seqI_L, seqI_T, pures_p, pures_nil, Option.map_some, Option.bind_some, if_true, sz_0, sz_1, sz_2, sz_3, sz_4, sz_5, sz_6, sz_7, sz_8, sz_9, sz_10, sz_11, sz_12, sz_13, sz_14, sz_15, sz_16, sz_17, sz_18, sz_19, sz_20, sz_21, sz_22, sz_23, sz_24, sz_25, sz_26, sz_27, sz_28, sz_29, sz_30, sz_31, sz_32, sz_33, sz_34, sz_35, sz_36, sz_37, sz_38, sz_39, sz_40, p_ix2, e_lt]
  split
  · simp only [e_svs_cons, e_svs_nil, e_sv_ife, e_sv_ret, e_sv_retN, e_sv_set, e_sv_setIx, e_sv_setLc, e_sv_app, e_sv_ex, e_sv_loop, e_sv_pass, e_ev_var, e_ev_lit, e_ev_glb, e_ev_gix, e_ev_bin, e_ev_neg, e_ev_not, w_and, w_or, QT2_bool, QB_bool, e_ev_one, e_ev_cmp, w_cmp2, e_ev_ife, e_ev_tup, e_mkT, e_ev_lst, e_ev_frz, e_ev_rev, e_ev_dct, e_ev_mcall, e_ev_callD, e_ev_callT, e_sv_tryS, e_sv_raise, e_tbv_ex, e_tbv_set, e_tbv_ife, e_tbv_exSet, e_sv_brk, e_sv_cont, wp_catch, e_evc_none, e_evc_some, e_ev_ix, e_ev_sl, e_ev_bi, e_ev_mx2, e_ev_isi, e_ev_call, e_ev_join, e_ev_lc, e_evs_nil, e_evs_cons, e_evo_none, e_evo_some, e_evi_seq, e_evi_rng1, e_evi_rng2, e_evi_enum, e_evi_zip, env0, varD, e_b_nm, e_b_tT, e_b_tL, e_b_nil, e_b_cons, wp_bind, wp_then, wp_ok, wp_truR, wp_finP, QF_nx, QF_rt, QE1_rt, QE1_nx, QT1_bool, List.map, List.length, List.replicate, List.getElem?_cons_zero, List.getElem?_cons_succ, List.set, Nat.reduceSub, List.cons_append, List.nil_append, Nat.reduceAdd, wp_ite, e_mkLT, tru_b, seqI_L, seqI_T, pures_p, pures_nil, Option.map_some, Option.bind_some, if_true, sz_0, sz_1, sz_2, sz_3, sz_4, sz_5, sz_6, sz_7, sz_8, sz_9, sz_10, sz_11, sz_12, sz_13, sz_14, sz_15, sz_16, sz_17, sz_18, sz_19, sz_20, sz_21, sz_22, sz_23, sz_24, sz_25, sz_26, sz_27, sz_28, sz_29, sz_30, sz_31, sz_32, sz_33, sz_34, sz_35, sz_36, sz_37, sz_38, sz_39, sz_40, p_ix1, p_ix0, p_len, e_lt]
    have fin : ∀ (c : Int), True := fun _ => trivial
    split
    · rename_i hlt
      have hlt : i < cs.length := by simpa using hlt
      simp only [e_svs_cons, e_svs_nil, e_sv_ife, e_sv_ret, e_sv_retN, e_sv_set, e_sv_setIx, e_sv_setLc, e_sv_app, e_sv_ex, e_sv_loop, e_sv_pass, e_ev_var, e_ev_lit, e_ev_glb, e_ev_gix, e_ev_bin, e_ev_neg, e_ev_not, w_and, w_or, QT2_bool, QB_bool, e_ev_one, e_ev_cmp, w_cmp2, e_ev_ife, e_ev_tup, e_mkT, e_ev_lst, e_ev_frz, e_ev_rev, e_ev_dct, e_ev_mcall, e_ev_callD, e_ev_callT, e_sv_tryS, e_sv_raise, e_tbv_ex, e_tbv_set, e_tbv_ife, e_tbv_exSet, e_sv_brk, e_sv_cont, wp_catch, e_evc_none, e_evc_some, e_ev_ix, e_ev_sl, e_ev_bi, e_ev_mx2, e_ev_isi, e_ev_call, e_ev_join, e_ev_lc, e_evs_nil, e_evs_cons, e_evo_none, e_evo_some, e_evi_seq, e_evi_rng1, e_evi_rng2, e_evi_enum, e_evi_zip, env0, varD, e_b_nm, e_b_tT, e_b_tL, e_b_nil, e_b_cons, wp_bind, wp_then, wp_ok, wp_truR, wp_finP, QF_nx, QF_rt, QE1_rt, QE1_nx, QT1_bool, List.map, List.length, List.replicate, List.getElem?_cons_zero, List.getElem?_cons_succ, List.set, Nat.reduceSub, List.cons_append, List.nil_append, Nat.reduceAdd, wp_ite, e_mkLT, tru_b, seqI_L, seqI_T, pures_p, pures_nil, Option.map_some, Option.bind_some, if_true, sz_0, sz_1, sz_2, sz_3, sz_4, sz_5, sz_6, sz_7, sz_8, sz_9, sz_10, sz_11, sz_12, sz_13, sz_14, sz_15, sz_16, sz_17, sz_18, sz_19, sz_20, sz_21, sz_22, sz_23, sz_24, sz_25, sz_26, sz_27, sz_28, sz_29, sz_30, sz_31, sz_32, sz_33, sz_34, sz_35, sz_36, sz_37, sz_38, sz_39, sz_40, p_ix0, p_cell hlt, e_add, p_set1 (cs := cs) _ ((i : Int) + 1) (i + 1) (by simp)]
      refine wp_mono (spread_ok k _ _ _) ?_
      rintro _ _ ⟨x, rfl, rfl⟩
      simp only [e_svs_cons, e_svs_nil, e_sv_ife, e_sv_ret, e_sv_retN, e_sv_set, e_sv_setIx, e_sv_setLc, e_sv_app, e_sv_ex, e_sv_loop, e_sv_pass, e_ev_var, e_ev_lit, e_ev_glb, e_ev_gix, e_ev_bin, e_ev_neg, e_ev_not, w_and, w_or, QT2_bool, QB_bool, e_ev_one, e_ev_cmp, w_cmp2, e_ev_ife, e_ev_tup, e_mkT, e_ev_lst, e_ev_frz, e_ev_rev, e_ev_dct, e_ev_mcall, e_ev_callD, e_ev_callT, e_sv_tryS, e_sv_raise, e_tbv_ex, e_tbv_set, e_tbv_ife, e_tbv_exSet, e_sv_brk, e_sv_cont, wp_catch, e_evc_none, e_evc_some, e_ev_ix, e_ev_sl, e_ev_bi, e_ev_mx2, e_ev_isi, e_ev_call, e_ev_join, e_ev_lc, e_evs_nil, e_evs_cons, e_evo_none, e_evo_some, e_evi_seq, e_evi_rng1, e_evi_rng2, e_evi_enum, e_evi_zip, env0, varD, e_b_nm, e_b_tT, e_b_tL, e_b_nil, e_b_cons, wp_bind, wp_then, wp_ok, wp_truR, wp_finP, QF_nx, QF_rt, QE1_rt, QE1_nx, QT1_bool, List.map, List.length, List.replicate, List.getElem?_cons_zero, List.getElem?_cons_succ, List.set, Nat.reduceSub, List.cons_append, List.nil_append, Nat.reduceAdd, wp_ite, e_mkLT, tru_b, seqI_L, seqI_T, pures_p, pures_nil, Option.map_some, Option.bind_some, if_true, sz_0, sz_1, sz_2, sz_3, sz_4, sz_5, sz_6, sz_7, sz_8, sz_9, sz_10, sz_11, sz_12, sz_13, sz_14, sz_15, sz_16, sz_17, sz_18, sz_19, sz_20, sz_21, sz_22, sz_23, sz_24, sz_25, sz_26, sz_27, sz_28, sz_29, sz_30, sz_31, sz_32, sz_33, sz_34, sz_35, sz_36, sz_37, sz_38, sz_39, sz_40, p_set2, p_ix2, e_mod, e_div]
      rw [if_pos hm, if_pos ⟨hm, hm2⟩]
      exact ⟨_, _, _, h1 _ (Int.ne_of_gt hm), h2 _, rfl, hg _ _⟩
    · simp only [e_svs_cons, e_svs_nil, e_sv_ife, e_sv_ret, e_sv_retN, e_sv_set, e_sv_setIx, e_sv_setLc, e_sv_app, e_sv_ex, e_sv_loop, e_sv_pass, e_ev_var, e_ev_lit, e_ev_glb, e_ev_gix, e_ev_bin, e_ev_neg, e_ev_not, w_and, w_or, QT2_bool, QB_bool, e_ev_one, e_ev_cmp, w_cmp2, e_ev_ife, e_ev_tup, e_mkT, e_ev_lst, e_ev_frz, e_ev_rev, e_ev_dct, e_ev_mcall, e_ev_callD, e_ev_callT, e_sv_tryS, e_sv_raise, e_tbv_ex, e_tbv_set, e_tbv_ife, e_tbv_exSet, e_sv_brk, e_sv_cont, wp_catch, e_evc_none, e_evc_some, e_ev_ix, e_ev_sl, e_ev_bi, e_ev_mx2, e_ev_isi, e_ev_call, e_ev_join, e_ev_lc, e_evs_nil, e_evs_cons, e_evo_none, e_evo_some, e_evi_seq, e_evi_rng1, e_evi_rng2, e_evi_enum, e_evi_zip, env0, varD, e_b_nm, e_b_tT, e_b_tL, e_b_nil, e_b_cons, wp_bind, wp_then, wp_ok, wp_truR, wp_finP, QF_nx, QF_rt, QE1_rt, QE1_nx, QT1_bool, List.map, List.length, List.replicate, List.getElem?_cons_zero, List.getElem?_cons_succ, List.set, Nat.reduceSub, List.cons_append, List.nil_append, Nat.reduceAdd, wp_ite, e_mkLT, tru_b, seqI_L, seqI_T, pures_p, pures_nil, Option.map_some, Option.bind_some, if_true, sz_0, sz_1, sz_2, sz_3, sz_4, sz_5, sz_6, sz_7, sz_8, sz_9, sz_10, sz_11, sz_12, sz_13, sz_14, sz_15, sz_16, sz_17, sz_18, sz_19, sz_20, sz_21, sz_22, sz_23, sz_24, sz_25, sz_26, sz_27, sz_28, sz_29, sz_30, sz_31, sz_32, sz_33, sz_34, sz_35, sz_36, sz_37, sz_38, sz_39, sz_40, p_ix0, p_len, e_gt]
      split
      · rename_i hlt
        have hlt : 0 < cs.length := by simpa using hlt
        simp only [e_svs_cons, e_svs_nil, e_sv_ife, e_sv_ret, e_sv_retN, e_sv_set, e_sv_setIx, e_sv_setLc, e_sv_app, e_sv_ex, e_sv_loop, e_sv_pass, e_ev_var, e_ev_lit, e_ev_glb, e_ev_gix, e_ev_bin, e_ev_neg, e_ev_not, w_and, w_or, QT2_bool, QB_bool, e_ev_one, e_ev_cmp, w_cmp2, e_ev_ife, e_ev_tup, e_mkT, e_ev_lst, e_ev_frz, e_ev_rev, e_ev_dct, e_ev_mcall, e_ev_callD, e_ev_callT, e_sv_tryS, e_sv_raise, e_tbv_ex, e_tbv_set, e_tbv_ife, e_tbv_exSet, e_sv_brk, e_sv_cont, wp_catch, e_evc_none, e_evc_some, e_ev_ix, e_ev_sl, e_ev_bi, e_ev_mx2, e_ev_isi, e_ev_call, e_ev_join, e_ev_lc, e_evs_nil, e_evs_cons, e_evo_none, e_evo_some, e_evi_seq, e_evi_rng1, e_evi_rng2, e_evi_enum, e_evi_zip, env0, varD, e_b_nm, e_b_tT, e_b_tL, e_b_nil, e_b_cons, wp_bind, wp_then, wp_ok, wp_truR, wp_finP, QF_nx, QF_rt, QE1_rt, QE1_nx, QT1_bool, List.map, List.length, List.replicate, List.getElem?_cons_zero, List.getElem?_cons_succ, List.set, Nat.reduceSub, List.cons_append, List.nil_append, Nat.reduceAdd, wp_ite, e_mkLT, tru_b, seqI_L, seqI_T, pures_p, pures_nil, Option.map_some, Option.bind_some, if_true, sz_0, sz_1, sz_2, sz_3, sz_4, sz_5, sz_6, sz_7, sz_8, sz_9, sz_10, sz_11, sz_12, sz_13, sz_14, sz_15, sz_16, sz_17, sz_18, sz_19, sz_20, sz_21, sz_22, sz_23, sz_24, sz_25, sz_26, sz_27, sz_28, sz_29, sz_30, sz_31, sz_32, sz_33, sz_34, sz_35, sz_36, sz_37, sz_38, sz_39, sz_40, p_ix0, p_len, e_mul, e_add, e_mod, e_pow17]
        rw [if_pos (mulOk_r (by decide))]
        rw [if_pos (by omega)]
        obtain ⟨q, hq⟩ : ∃ q : Nat, ((i : Int) * 5 + 3) % (cs.length : Int) = q := ⟨((i * 5 + 3) % cs.length : Nat), by simp⟩
        have hq2 : q < cs.length := by
          have := Int.emod_lt_of_pos ((i : Int) * 5 + 3) (show (0 : Int) < cs.length by omega)
          omega
        rw [hq]
        simp only [e_svs_cons, e_svs_nil, e_sv_ife, e_sv_ret, e_sv_retN, e_sv_set, e_sv_setIx, e_sv_setLc, e_sv_app, e_sv_ex, e_sv_loop, e_sv_pass, e_ev_var, e_ev_lit, e_ev_glb, e_ev_gix, e_ev_bin, e_ev_neg, e_ev_not, w_and, w_or, QT2_bool, QB_bool, e_ev_one, e_ev_cmp, w_cmp2, e_ev_ife, e_ev_tup, e_mkT, e_ev_lst, e_ev_frz, e_ev_rev, e_ev_dct, e_ev_mcall, e_ev_callD, e_ev_callT, e_sv_tryS, e_sv_raise, e_tbv_ex, e_tbv_set, e_tbv_ife, e_tbv_exSet, e_sv_brk, e_sv_cont, wp_catch, e_evc_none, e_evc_some, e_ev_ix, e_ev_sl, e_ev_bi, e_ev_mx2, e_ev_isi, e_ev_call, e_ev_join, e_ev_lc, e_evs_nil, e_evs_cons, e_evo_none, e_evo_some, e_evi_seq, e_evi_rng1, e_evi_rng2, e_evi_enum, e_evi_zip, env0, varD, e_b_nm, e_b_tT, e_b_tL, e_b_nil, e_b_cons, wp_bind, wp_then, wp_ok, wp_truR, wp_finP, QF_nx, QF_rt, QE1_rt, QE1_nx, QT1_bool, List.map, List.length, List.replicate, List.getElem?_cons_zero, List.getElem?_cons_succ, List.set, Nat.reduceSub, List.cons_append, List.nil_append, Nat.reduceAdd, wp_ite, e_mkLT, tru_b, seqI_L, seqI_T, pures_p, pures_nil, Option.map_some, Option.bind_some, if_true, sz_0, sz_1, sz_2, sz_3, sz_4, sz_5, sz_6, sz_7, sz_8, sz_9, sz_10, sz_11, sz_12, sz_13, sz_14, sz_15, sz_16, sz_17, sz_18, sz_19, sz_20, sz_21, sz_22, sz_23, sz_24, sz_25, sz_26, sz_27, sz_28, sz_29, sz_30, sz_31, sz_32, sz_33, sz_34, sz_35, sz_36, sz_37, sz_38, sz_39, sz_40, p_cell hq2, e_add, e_mod, p_set1 (cs := cs) _ ((i : Int) + 1) (i + 1) (by simp)]
        rw [if_pos (by omega)]
        refine wp_mono (spread_ok k _ _ _) ?_
        rintro _ _ ⟨x, rfl, rfl⟩
        simp only [e_svs_cons, e_svs_nil, e_sv_ife, e_sv_ret, e_sv_retN, e_sv_set, e_sv_setIx, e_sv_setLc, e_sv_app, e_sv_ex, e_sv_loop, e_sv_pass, e_ev_var, e_ev_lit, e_ev_glb, e_ev_gix, e_ev_bin, e_ev_neg, e_ev_not, w_and, w_or, QT2_bool, QB_bool, e_ev_one, e_ev_cmp, w_cmp2, e_ev_ife, e_ev_tup, e_mkT, e_ev_lst, e_ev_frz, e_ev_rev, e_ev_dct, e_ev_mcall, e_ev_callD, e_ev_callT, e_sv_tryS, e_sv_raise, e_tbv_ex, e_tbv_set, e_tbv_ife, e_tbv_exSet, e_sv_brk, e_sv_cont, wp_catch, e_evc_none, e_evc_some, e_ev_ix, e_ev_sl, e_ev_bi, e_ev_mx2, e_ev_isi, e_ev_call, e_ev_join, e_ev_lc, e_evs_nil, e_evs_cons, e_evo_none, e_evo_some, e_evi_seq, e_evi_rng1, e_evi_rng2, e_evi_enum, e_evi_zip, env0, varD, e_b_nm, e_b_tT, e_b_tL, e_b_nil, e_b_cons, wp_bind, wp_then, wp_ok, wp_truR, wp_finP, QF_nx, QF_rt, QE1_rt, QE1_nx, QT1_bool, List.map, List.length, List.replicate, List.getElem?_cons_zero, List.getElem?_cons_succ, List.set, Nat.reduceSub, List.cons_append, List.nil_append, Nat.reduceAdd, wp_ite, e_mkLT, tru_b, seqI_L, seqI_T, pures_p, pures_nil, Option.map_some, Option.bind_some, if_true, sz_0, sz_1, sz_2, sz_3, sz_4, sz_5, sz_6, sz_7, sz_8, sz_9, sz_10, sz_11, sz_12, sz_13, sz_14, sz_15, sz_16, sz_17, sz_18, sz_19, sz_20, sz_21, sz_22, sz_23, sz_24, sz_25, sz_26, sz_27, sz_28, sz_29, sz_30, sz_31, sz_32, sz_33, sz_34, sz_35, sz_36, sz_37, sz_38, sz_39, sz_40, p_set2, p_ix2, e_mod, e_div]
        rw [if_pos hm, if_pos ⟨hm, hm2⟩]
        exact ⟨_, _, _, h1 _ (Int.ne_of_gt hm), h2 _, rfl, hg _ _⟩
      · simp only [e_svs_cons, e_svs_nil, e_sv_ife, e_sv_ret, e_sv_retN, e_sv_set, e_sv_setIx, e_sv_setLc, e_sv_app, e_sv_ex, e_sv_loop, e_sv_pass, e_ev_var, e_ev_lit, e_ev_glb, e_ev_gix, e_ev_bin, e_ev_neg, e_ev_not, w_and, w_or, QT2_bool, QB_bool, e_ev_one, e_ev_cmp, w_cmp2, e_ev_ife, e_ev_tup, e_mkT, e_ev_lst, e_ev_frz, e_ev_rev, e_ev_dct, e_ev_mcall, e_ev_callD, e_ev_callT, e_sv_tryS, e_sv_raise, e_tbv_ex, e_tbv_set, e_tbv_ife, e_tbv_exSet, e_sv_brk, e_sv_cont, wp_catch, e_evc_none, e_evc_some, e_ev_ix, e_ev_sl, e_ev_bi, e_ev_mx2, e_ev_isi, e_ev_call, e_ev_join, e_ev_lc, e_evs_nil, e_evs_cons, e_evo_none, e_evo_some, e_evi_seq, e_evi_rng1, e_evi_rng2, e_evi_enum, e_evi_zip, env0, varD, e_b_nm, e_b_tT, e_b_tL, e_b_nil, e_b_cons, wp_bind, wp_then, wp_ok, wp_truR, wp_finP, QF_nx, QF_rt, QE1_rt, QE1_nx, QT1_bool, List.map, List.length, List.replicate, List.getElem?_cons_zero, List.getElem?_cons_succ, List.set, Nat.reduceSub, List.cons_append, List.nil_append, Nat.reduceAdd, wp_ite, e_mkLT, tru_b, seqI_L, seqI_T, pures_p, pures_nil, Option.map_some, Option.bind_some, if_true, sz_0, sz_1, sz_2, sz_3, sz_4, sz_5, sz_6, sz_7, sz_8, sz_9, sz_10, sz_11, sz_12, sz_13, sz_14, sz_15, sz_16, sz_17, sz_18, sz_19, sz_20, sz_21, sz_22, sz_23, sz_24, sz_25, sz_26, sz_27, sz_28, sz_29, sz_30, sz_31, sz_32, sz_33, sz_34, sz_35, sz_36, sz_37, sz_38, sz_39, sz_40, e_add, p_set1 (cs := cs) _ ((i : Int) + 1) (i + 1) (by simp)]
        refine wp_mono (spread_ok k _ _ _) ?_
        rintro _ _ ⟨x, rfl, rfl⟩
        simp only [e_svs_cons, e_svs_nil, e_sv_ife, e_sv_ret, e_sv_retN, e_sv_set, e_sv_setIx, e_sv_setLc, e_sv_app, e_sv_ex, e_sv_loop, e_sv_pass, e_ev_var, e_ev_lit, e_ev_glb, e_ev_gix, e_ev_bin, e_ev_neg, e_ev_not, w_and, w_or, QT2_bool, QB_bool, e_ev_one, e_ev_cmp, w_cmp2, e_ev_ife, e_ev_tup, e_mkT, e_ev_lst, e_ev_frz, e_ev_rev, e_ev_dct, e_ev_mcall, e_ev_callD, e_ev_callT, e_sv_tryS, e_sv_raise, e_tbv_ex, e_tbv_set, e_tbv_ife, e_tbv_exSet, e_sv_brk, e_sv_cont, wp_catch, e_evc_none, e_evc_some, e_ev_ix, e_ev_sl, e_ev_bi, e_ev_mx2, e_ev_isi, e_ev_call, e_ev_join, e_ev_lc, e_evs_nil, e_evs_cons, e_evo_none, e_evo_some, e_evi_seq, e_evi_rng1, e_evi_rng2, e_evi_enum, e_evi_zip, env0, varD, e_b_nm, e_b_tT, e_b_tL, e_b_nil, e_b_cons, wp_bind, wp_then, wp_ok, wp_truR, wp_finP, QF_nx, QF_rt, QE1_rt, QE1_nx, QT1_bool, List.map, List.length, List.replicate, List.getElem?_cons_zero, List.getElem?_cons_succ, List.set, Nat.reduceSub, List.cons_append, List.nil_append, Nat.reduceAdd, wp_ite, e_mkLT, tru_b, seqI_L, seqI_T, pures_p, pures_nil, Option.map_some, Option.bind_some, if_true, sz_0, sz_1, sz_2, sz_3, sz_4, sz_5, sz_6, sz_7, sz_8, sz_9, sz_10, sz_11, sz_12, sz_13, sz_14, sz_15, sz_16, sz_17, sz_18, sz_19, sz_20, sz_21, sz_22, sz_23, sz_24, sz_25, sz_26, sz_27, sz_28, sz_29, sz_30, sz_31, sz_32, sz_33, sz_34, sz_35, sz_36, sz_37, sz_38, sz_39, sz_40, p_set2, p_ix2, e_mod, e_div]
        rw [if_pos hm, if_pos ⟨hm, hm2⟩]
        exact ⟨_, _, _, h1 _ (Int.ne_of_gt hm), h2 _, rfl, hg _ _⟩
  · simp only [e_svs_cons, e_svs_nil, e_sv_ife, e_sv_ret, e_sv_retN, e_sv_set, e_sv_setIx, e_sv_setLc, e_sv_app, e_sv_ex, e_sv_loop, e_sv_pass, e_ev_var, e_ev_lit, e_ev_glb, e_ev_gix, e_ev_bin, e_ev_neg, e_ev_not, w_and, w_or, QT2_bool, QB_bool, e_ev_one, e_ev_cmp, w_cmp2, e_ev_ife, e_ev_tup, e_mkT, e_ev_lst, e_ev_frz, e_ev_rev, e_ev_dct, e_ev_mcall, e_ev_callD, e_ev_callT, e_sv_tryS, e_sv_raise, e_tbv_ex, e_tbv_set, e_tbv_ife, e_tbv_exSet, e_sv_brk, e_sv_cont, wp_catch, e_evc_none, e_evc_some, e_ev_ix, e_ev_sl, e_ev_bi, e_ev_mx2, e_ev_isi, e_ev_call, e_ev_join, e_ev_lc, e_evs_nil, e_evs_cons, e_evo_none, e_evo_some, e_evi_seq, e_evi_rng1, e_evi_rng2, e_evi_enum, e_evi_zip, env0, varD, e_b_nm, e_b_tT, e_b_tL, e_b_nil, e_b_cons, wp_bind, wp_then, wp_ok, wp_truR, wp_finP, QF_nx, QF_rt, QE1_rt, QE1_nx, QT1_bool, List.map, List.length, List.replicate, List.getElem?_cons_zero, List.getElem?_cons_succ, List.set, Nat.reduceSub, List.cons_append, List.nil_append, Nat.reduceAdd, wp_ite, e_mkLT, tru_b, seqI_L, seqI_T, pures_p, pures_nil, Option.map_some, Option.bind_some, if_true, sz_0, sz_1, sz_2, sz_3, sz_4, sz_5, sz_6, sz_7, sz_8, sz_9, sz_10, sz_11, sz_12, sz_13, sz_14, sz_15, sz_16, sz_17, sz_18, sz_19, sz_20, sz_21, sz_22, sz_23, sz_24, sz_25, sz_26, sz_27, sz_28, sz_29, sz_30, sz_31, sz_32, sz_33, sz_34, sz_35, sz_36, sz_37, sz_38, sz_39, sz_40, p_ix2, p_set2, e_mod, e_div]
    rw [if_pos hm, if_pos ⟨hm, hm2⟩]
    exact ⟨_, _, _, h1 _ (Int.ne_of_gt hm), h2 _, rfl, hg _ _⟩
theorem take_then (k : Nat) {cs : List Int} {i : Nat} {v m : Int} {ex : Store} (hm : 0 < m) (hm2 : m < 2 ^ 100) {Q : D → Store → Prop} (h : ∀ (x : Int) (j : Nat) (u : Int), 0 ≤ x → x < m → Q (.p (.int x)) (pen cs j u ++ ex)) :
    wpe NoX (semK defs (k + 2) 17 [.c 1, .p (.int m)] (pen cs i v ++ ex)) Q :=
  wp_mono (take_ok k hm hm2) (by rintro _ _ ⟨x, j, u, h0, h1, rfl, rfl⟩; exact h x j u h0 h1)
theorem anew_ok (k : Nat) {cs : List Int} {i : Nat} {v : Int} {ex : Store} : wpe NoX (semK defs (k + 1) 16 [.c 1] (pen cs i v ++ ex)) fun d st' => d = .c 1 ∧ st' = pen cs i 0 ++ ex := by
  refine wp_sem (d := d16) rfl rfl ?_
  simp only [d16, b16, e_svs_cons, e_svs_nil, e_sv_ife, e_sv_ret, e_sv_retN, e_sv_set, e_sv_setIx, e_sv_setLc, e_sv_app, e_sv_ex, e_sv_loop, e_sv_pass, e_ev_var, e_ev_lit, e_ev_glb, e_ev_gix, e_ev_bin, e_ev_neg, e_ev_not, w_and, w_or, QT2_bool, QB_bool, e_ev_one, e_ev_cmp, w_cmp2, e_ev_ife, e_ev_tup, e_mkT, e_ev_lst, e_ev_frz, e_ev_rev, e_ev_dct, e_ev_mcall, e_ev_callD, e_ev_callT, e_sv_tryS, e_sv_raise, e_tbv_ex, e_tbv_set, e_tbv_ife, e_tbv_exSet, e_sv_brk, e_sv_cont, wp_catch, e_evc_none, e_evc_some, e_ev_ix, e_ev_sl, e_ev_bi, e_ev_mx2, e_ev_isi, e_ev_call, e_ev_join, e_ev_lc, e_evs_nil, e_evs_cons, e_evo_none, e_evo_some, e_evi_seq, e_evi_rng1, e_evi_rng2, e_evi_enum, e_evi_zip, env0, varD, e_b_nm, e_b_tT, e_b_tL, e_b_nil, e_b_cons, wp_bind, wp_then, wp_ok, wp_truR, wp_finP, QF_nx, QF_rt, QE1_rt, QE1_nx, QT1_bool, List.map, List.length, List.replicate, List.getElem?_cons_zero, List.getElem?_cons_succ, List.set, Nat.reduceSub, List.cons_append, List.nil_append, Nat.reduceAdd, wp_ite, e_mkLT, tru_b, seqI_L, seqI_T, pures_p, pures_nil, Option.map_some, Option.bind_some, if_true, sz_0, sz_1, sz_2, sz_3, sz_4, sz_5, sz_6, sz_7, sz_8, sz_9, sz_10, sz_11, sz_12, sz_13, sz_14, sz_15, sz_16, sz_17, sz_18, sz_19, sz_20, sz_21, sz_22, sz_23, sz_24, sz_25, sz_26, sz_27, sz_28, sz_29, sz_30, sz_31, sz_32, sz_33, sz_34, sz_35, sz_36, sz_37, sz_38, sz_39, sz_40, p_set2]
  have h : dBelow (pen cs i v ++ ex).length (.c 1) = true := by rw [pen_len]; simp [dBelow]; omega
  unfold finD
  rw [if_pos h]
  exact ⟨rfl, gc_pen0 (pen_len cs i v ex)⟩
theorem open_ok (k : Nat) (ns : List Int) : wpe NoX (semK defs (k + 1) 15 [.p (.list (ns.map .int))] []) fun d st' => ∃ cs : List Int, d = .c 1 ∧ st' = pen cs 0 0 := by
  refine wp_sem (d := d15) rfl rfl ?_
  simp only [d15, b15, e_svs_cons, e_svs_nil, e_sv_ife, e_sv_ret, e_sv_retN, e_sv_set, e_sv_setIx, e_sv_setLc, e_sv_app, e_sv_ex, e_sv_loop, e_sv_pass, e_ev_var, e_ev_lit, e_ev_glb, e_ev_gix, e_ev_bin, e_ev_neg, e_ev_not, w_and, w_or, QT2_bool, QB_bool, e_ev_one, e_ev_cmp, w_cmp2, e_ev_ife, e_ev_tup, e_mkT, e_ev_lst, e_ev_frz, e_ev_rev, e_ev_dct, e_ev_mcall, e_ev_callD, e_ev_callT, e_sv_tryS, e_sv_raise, e_tbv_ex, e_tbv_set, e_tbv_ife, e_tbv_exSet, e_sv_brk, e_sv_cont, wp_catch, e_evc_none, e_evc_some, e_ev_ix, e_ev_sl, e_ev_bi, e_ev_mx2, e_ev_isi, e_ev_call, e_ev_join, e_ev_lc, e_evs_nil, e_evs_cons, e_evo_none, e_evo_some, e_evi_seq, e_evi_rng1, e_evi_rng2, e_evi_enum, e_evi_zip, env0, varD, e_b_nm, e_b_tT, e_b_tL, e_b_nil, e_b_cons, wp_bind, wp_then, wp_ok, wp_truR, wp_finP, QF_nx, QF_rt, QE1_rt, QE1_nx, QT1_bool, List.map, List.length, List.replicate, List.getElem?_cons_zero, List.getElem?_cons_succ, List.set, Nat.reduceSub, List.cons_append, List.nil_append, Nat.reduceAdd, wp_ite, e_mkLT, tru_b, seqI_L, seqI_T, pures_p, pures_nil, Option.map_some, Option.bind_some, if_true, sz_0, sz_1, sz_2, sz_3, sz_4, sz_5, sz_6, sz_7, sz_8, sz_9, sz_10, sz_11, sz_12, sz_13, sz_14, sz_15, sz_16, sz_17, sz_18, sz_19, sz_20, sz_21, sz_22, sz_23, sz_24, sz_25, sz_26, sz_27, sz_28, sz_29, sz_30, sz_31, sz_32, sz_33, sz_34, sz_35, sz_36, sz_37, sz_38, sz_39, sz_40, e_slL, e_listCL, e_enumL]
  have c1 : cut (ns.map PyData.int) none (some 12) = (ns.take 12).map PyData.int := by rw [show (12 : Int) = ((12 : Nat) : Int) from rfl, cut_take, List.map_take]
  obtain ⟨r, c2, hr⟩ : ∃ r : List Int, cut (ns.map PyData.int) (some 12) (some 63) = r.map PyData.int ∧ (r ≠ [] → 12 < ns.length) := by
    refine ⟨cut ns (some 12) (some 63), cut_map _ _ _ _, fun h => ?_⟩
    by_cases hl : 12 < ns.length
    · exact hl
    · refine absurd ?_ h
      unfold cut
      rw [show (12 : Int) = ((12 : Nat) : Int) from rfl, HT.sIx_nat, Nat.min_eq_right (by omega), List.drop_length, List.take_nil]
  rw [c1, c2]
  refine wp_for0 (fun _ env st => ∃ (cs : List Int) (x y : Option D), cs.length = (ns.take 12).length ∧ env = [some (.p (.list (ns.map .int))), some (.c 0), x, y] ∧ st = [.lst (cs.map fun c => .p (.int c))])
    ⟨ns.take 12, _, _, rfl, rfl, by simp; rfl⟩ (fun j env st h => gd_list _ _) (fun j hj env st h => ?_) (fun env st h => ?_)
  · obtain ⟨cs, x, y, h1, rfl, rfl⟩ := h
    simp only [List.length_mapIdx, List.length_map] at hj
    have h12 : 12 < ns.length := hr (by intro e; rw [e] at hj; simp at hj)
    have hcs : cs.length = 12 := by rw [h1, List.length_take]; omega
    refine ⟨[some (.p (.list (ns.map .int))), some (.c 0), some (.p (.int (j : Nat))), some (.p (.int r[j]))], ?_, ?_⟩
    · simp [bindI, bindDs, bindD]
    · have hc0 : cellL [Cell.lst (cs.map fun c => D.p (.int c))] 0 = some (cs.map fun c => D.p (.int c)) := rfl
      obtain ⟨q, hq⟩ : ∃ q : Nat, (j : Int) % 12 = q := ⟨j % 12, by simp⟩
      have hq2 : q < cs.length := by omega
      have hat : atI (cs.map fun c => D.p (.int c)) (q : Int) = some (.p (.int cs[q])) := atI_nat (by simp [hq2])
      simp only [e_svs_cons, e_svs_nil, e_sv_ife, e_sv_ret, e_sv_retN, e_sv_set, e_sv_setIx, e_sv_setLc, e_sv_app, e_sv_ex, e_sv_loop, e_sv_pass, e_ev_var, e_ev_lit, e_ev_glb, e_ev_gix, e_ev_bin, e_ev_neg, e_ev_not, w_and, w_or, QT2_bool, QB_bool, e_ev_one, e_ev_cmp, w_cmp2, e_ev_ife, e_ev_tup, e_mkT, e_ev_lst, e_ev_frz, e_ev_rev, e_ev_dct, e_ev_mcall, e_ev_callD, e_ev_callT, e_sv_tryS, e_sv_raise, e_tbv_ex, e_tbv_set, e_tbv_ife, e_tbv_exSet, e_sv_brk, e_sv_cont, wp_catch, e_evc_none, e_evc_some, e_ev_ix, e_ev_sl, e_ev_bi, e_ev_mx2, e_ev_isi, e_ev_call, e_ev_join, e_ev_lc, e_evs_nil, e_evs_cons, e_evo_none, e_evo_some, e_evi_seq, e_evi_rng1, e_evi_rng2, e_evi_enum, e_evi_zip, env0, varD, e_b_nm, e_b_tT, e_b_tL, e_b_nil, e_b_cons, wp_bind, wp_then, wp_ok, wp_truR, wp_finP, QF_nx, QF_rt, QE1_rt, QE1_nx, QT1_bool, List.map, List.length, List.replicate, List.getElem?_cons_zero, List.getElem?_cons_succ, List.set, Nat.reduceSub, List.cons_append, List.nil_append, Nat.reduceAdd, wp_ite, e_mkLT, tru_b, seqI_L, seqI_T, pures_p, pures_nil, Option.map_some, Option.bind_some, if_true, sz_0, sz_1, sz_2, sz_3, sz_4, sz_5, sz_6, sz_7, sz_8, sz_9, sz_10, sz_11, sz_12, sz_13, sz_14, sz_15, sz_16, sz_17, sz_18, sz_19, sz_20, sz_21, sz_22, sz_23, sz_24, sz_25, sz_26, sz_27, sz_28, sz_29, sz_30, sz_31, sz_32, sz_33, sz_34, sz_35, sz_36, sz_37, sz_38, sz_39, sz_40, e_mod, Int.reduceLT, if_true, hq, ix_c hc0, hat, e_add, setIx_c hc0 q (by simpa using hq2), QN_nx]
      refine ⟨cs.set q (cs[q] + r[j]), _, _, by rw [List.length_set]; exact h1, rfl, ?_⟩
      simp [List.map_set]
  · obtain ⟨cs, x, y, h1, rfl, rfl⟩ := h
    simp only [e_svs_cons, e_svs_nil, e_sv_ife, e_sv_ret, e_sv_retN, e_sv_set, e_sv_setIx, e_sv_setLc, e_sv_app, e_sv_ex, e_sv_loop, e_sv_pass, e_ev_var, e_ev_lit, e_ev_glb, e_ev_gix, e_ev_bin, e_ev_neg, e_ev_not, w_and, w_or, QT2_bool, QB_bool, e_ev_one, e_ev_cmp, w_cmp2, e_ev_ife, e_ev_tup, e_mkT, e_ev_lst, e_ev_frz, e_ev_rev, e_ev_dct, e_ev_mcall, e_ev_callD, e_ev_callT, e_sv_tryS, e_sv_raise, e_tbv_ex, e_tbv_set, e_tbv_ife, e_tbv_exSet, e_sv_brk, e_sv_cont, wp_catch, e_evc_none, e_evc_some, e_ev_ix, e_ev_sl, e_ev_bi, e_ev_mx2, e_ev_isi, e_ev_call, e_ev_join, e_ev_lc, e_evs_nil, e_evs_cons, e_evo_none, e_evo_some, e_evi_seq, e_evi_rng1, e_evi_rng2, e_evi_enum, e_evi_zip, env0, varD, e_b_nm, e_b_tT, e_b_tL, e_b_nil, e_b_cons, wp_bind, wp_then, wp_ok, wp_truR, wp_finP, QF_nx, QF_rt, QE1_rt, QE1_nx, QT1_bool, List.map, List.length, List.replicate, List.getElem?_cons_zero, List.getElem?_cons_succ, List.set, Nat.reduceSub, List.cons_append, List.nil_append, Nat.reduceAdd, wp_ite, e_mkLT, tru_b, seqI_L, seqI_T, pures_p, pures_nil, Option.map_some, Option.bind_some, if_true, sz_0, sz_1, sz_2, sz_3, sz_4, sz_5, sz_6, sz_7, sz_8, sz_9, sz_10, sz_11, sz_12, sz_13, sz_14, sz_15, sz_16, sz_17, sz_18, sz_19, sz_20, sz_21, sz_22, sz_23, sz_24, sz_25, sz_26, sz_27, sz_28, sz_29, sz_30, sz_31, sz_32, sz_33, sz_34, sz_35, sz_36, sz_37, sz_38, sz_39, sz_40]
    exact ⟨cs, rfl, rfl⟩
/-! comprehensions while the pen draws -/
theorem pen_app (cs : List Int) (i : Nat) (v : Int) (ex : Store) (c : Cell) : pen cs i v ++ ex ++ [c] = pen cs i v ++ (ex ++ [c]) := List.append_assoc _ _ _
theorem pen_last (cs : List Int) (i : Nat) (v : Int) (ex : Store) (acc : List D) : cellL (pen cs i v ++ (ex ++ [.lst acc])) (2 + ex.length) = some acc := by
  rw [← pen_app, ← pen_len cs i v ex]
  unfold cellL
  rw [List.getElem?_concat_length]
theorem pen_setLast (cs : List Int) (i : Nat) (v : Int) (ex : Store) (c c' : Cell) : (pen cs i v ++ (ex ++ [c])).set (2 + ex.length) c' = pen cs i v ++ (ex ++ [c']) := by
  rw [← pen_app, ← pen_app, ← pen_len cs i v ex, List.set_append_right _ _ (Nat.le_refl _)]
  simp
theorem lc_core {cs : List Int} {i : Nat} {v : Int} {ex : Store} {tg : MT} {cond elt : MD} {env0 : MP.Env} {its : List Itm} (P : Nat → PyData → Prop) (full : Bool) (hz : its.length ≤ 1000)
    (hb : ∀ j (h : j < its.length) acc i' u', ∃ env1, bindI (pen cs i' u' ++ (ex ++ [.lst acc])) tg its[j] env0 = some env1 ∧ wpe NoX (cond env1 (pen cs i' u' ++ (ex ++ [.lst acc]))) (QT1 fun b st1 => ∃ i2 u2, st1 = pen cs i2 u2 ++ (ex ++ [.lst acc]) ∧ (full = true → b = true) ∧
      (b = true → wpe NoX (elt env1 st1) fun d st2 => ∃ x i3 u3, d = .p x ∧ P j x ∧ st2 = pen cs i3 u3 ++ (ex ++ [.lst acc])))) :
    wpe NoX (lcL (fun _ => True) (pen cs i v ++ ex).length tg cond elt env0 its (pen cs i v ++ ex ++ [.lst []])) fun _ st => ∃ (xs : List PyData) (i' : Nat) (u' : Int), st = pen cs i' u' ++ (ex ++ [.lst (xs.map .p)]) ∧ (∀ x ∈ xs, ∃ j, j < its.length ∧ P j x) ∧ xs.length ≤ its.length ∧
      (full = true → xs.length = its.length ∧ ∀ j (h : j < xs.length), P j xs[j]) := by
  rw [pen_len, pen_app]
  refine wp_lc0 (fun j acc st => ∃ (xs : List PyData) (i' : Nat) (u' : Int), acc = xs.map D.p ∧ st = pen cs i' u' ++ (ex ++ [.lst acc]) ∧ (∀ x ∈ xs, ∃ j, j < its.length ∧ P j x) ∧ xs.length ≤ j ∧ (full = true → xs.length = j ∧ ∀ j (h : j < xs.length), P j xs[j]))
    ⟨[], i, v, rfl, rfl, (by simp), Nat.le_refl _, fun _ => ⟨rfl, fun j h => absurd h (Nat.not_lt_zero _)⟩⟩ (fun j acc st h => ?_) (fun _ _ _ _ => trivial) (fun j hj acc st h => ?_) (fun acc st h => ?_)
  · obtain ⟨xs, i', u', rfl, rfl, _⟩ := h
    exact pen_last _ _ _ _ _
  · obtain ⟨xs, i', u', rfl, rfl, h1, h2, h3⟩ := h
    obtain ⟨env1, e1, hw⟩ := hb j hj (xs.map .p) i' u'
    refine ⟨env1, e1, wp_mono hw fun d st1 ⟨b, hb1, i2, u2, es, hfull, h4⟩ => ⟨b, hb1, ?_⟩⟩
    subst es
    cases b with
    | true =>
      rw [if_pos rfl]
      refine wp_mono (h4 rfl) fun d st2 ⟨x, i3, u3, ed, hP, es⟩ => ?_
      subst ed es
      refine ⟨_, pen_last _ _ _ _ _, by rw [List.length_map]; exact Nat.lt_of_le_of_lt h2 (Nat.lt_of_lt_of_le hj (Nat.le_trans hz (by decide))), xs ++ [x], i3, u3, by simp, by rw [pen_setLast], ?_, by simp; omega, fun hf => ?_⟩
      · intro y hy
        rcases List.mem_append.mp hy with hy | hy
        · exact h1 y hy
        · rw [List.mem_singleton.mp hy]; exact ⟨j, hj, hP⟩
      · obtain ⟨q1, q2⟩ := h3 hf
        refine ⟨by simp [q1], fun m hm => ?_⟩
        by_cases hl : m < xs.length
        · rw [List.getElem_append_left hl]; exact q2 m hl
        · have : m = xs.length := by simp at hm; omega
          subst this
          rw [List.getElem_append_right (Nat.le_refl _)]
          simp only [Nat.sub_self, List.getElem_cons_zero]
          rw [q1]; exact hP
    | false =>
      rw [if_neg (by simp)]
      refine ⟨xs.map .p, xs, i2, u2, rfl, rfl, h1, by omega, fun hf => absurd (hfull hf) (by simp)⟩
  · obtain ⟨xs, i', u', rfl, rfl, h1, h2, h3⟩ := h
    exact ⟨xs, i', u', rfl, h1, h2, h3⟩
theorem lcEnd_pen {cs : List Int} {i : Nat} {v : Int} {ex : Store} {xs : List PyData} {n : Nat} (hn : n = 2 + ex.length) (hx : OkEx ex) : lcEnd false n (pen cs i v ++ (ex ++ [.lst (xs.map .p)])) = .ok (.p (.list xs)) (pen cs i v ++ ex) := by
  subst hn
  unfold lcEnd
  simp only [pen_last, pures_map, pen_setLast]
  rw [← pen_app, gc_pen hx rfl]
theorem lcEnd_penC {cs : List Int} {i : Nat} {v : Int} {ex : Store} {n : Nat} {st : Store} : lcEnd true n st = .ok (.c n) st := rfl
/-! names -/
def isL (c : Nat) : Prop := 97 ≤ c ∧ c ≤ 122
def abc : Str := "abcdefghijklmnopqrstuvwxyz"
theorem abc_len : abc.length = 26 := by decide +kernel
theorem abc_at (x : Int) (h0 : 0 ≤ x) (h1 : x < 26) : atI abc.cps.toList x = some (97 + x.toNat) := by
  have key : ∀ n : Fin 26, abc.cps.toList[n.val]? = some (97 + n.val) := by decide +kernel
  obtain ⟨n, rfl⟩ : ∃ n : Nat, x = n := ⟨x.toNat, by omega⟩
  have hn : n < 26 := by omega
  rw [atI_nat (key ⟨n, hn⟩)]
  simp
theorem abc_ix (x : Int) (h0 : 0 ≤ x) (h1 : x < 26) (st : Store) : ixD (.p (.str abc)) (.p (.int x)) st = .ok (.p (.str ⟨#[97 + x.toNat]⟩)) st := by
  unfold ixD
  rw [isDict_p, if_neg (by simp)]
  unfold ixD0
  simp only
  rw [if_pos (by rw [abc_len]; decide), abc_at x h0 h1]
def atOf (w : Int) (n : Nat) : Int := if w = 0 then 0 else if w = 1 then n else (n : Int) / 2
def partOf (b : Str) (w s : Int) (k : Nat) : Str := cutS b none (some ((s + k * (w % 2)) % 8))
def nameAt (b : Str) (w t s : Int) (k : Nat) : Str :=
  cutS (partOf b w s k) none (some (atOf w (partOf b w s k).length)) ++ (⟨#[97 + ((t + 3 * (k : Int)) % 26).toNat]⟩ : Str) ++ cutS (partOf b w s k) (some (atOf w (partOf b w s k).length)) none
theorem joinL_nil : ∀ l : List (List Nat), TL.joinL [] l = l.flatten
  | [] => rfl
  | [x] => by simp [TL.joinL]
  | x :: y :: r => by
    have := joinL_nil (y :: r)
    simp [TL.joinL] at this ⊢
    rw [this]
theorem tl_join0 (zs : List Str) : (Txt.join "" zs).cps.toList = (zs.map fun z => z.cps.toList).flatten := by
  rw [TL.join_eq]
  have := TL.tl_join "" zs
  rw [show TL.tl "" = [] from rfl, joinL_nil] at this
  exact this
theorem ones_join (zs : List Nat) : (Txt.join "" (zs.map fun c => (⟨#[c]⟩ : Str))).cps.toList = zs := by
  rw [tl_join0]
  induction zs with
  | nil => rfl
  | cons c r ih => simpa using ih
theorem strs_of : ∀ {xs : List PyData} {P : Nat → Prop}, (∀ x ∈ xs, ∃ c, P c ∧ x = .str ⟨#[c]⟩) → ∃ zs : List Nat, xs = zs.map (fun c => PyData.str ⟨#[c]⟩) ∧ ∀ c ∈ zs, P c
  | [], _, _ => ⟨[], rfl, by simp⟩
  | x :: r, P, h => by
    obtain ⟨c, hc, rfl⟩ := h _ List.mem_cons_self
    obtain ⟨zs, rfl, h2⟩ := strs_of (xs := r) fun x hx => h x (List.mem_cons_of_mem _ hx)
    exact ⟨c :: zs, rfl, by simpa using ⟨hc, h2⟩⟩
theorem join_ones (zs : List Nat) (hz : zs.length ≤ 1000) (st : Store) : joinD "" (.p (.list (zs.map fun c => PyData.str ⟨#[c]⟩))) st = .ok (.p (.str (Txt.join "" (zs.map fun c => (⟨#[c]⟩ : Str))))) st := by
  have h1 : pures ((zs.map fun c => PyData.str ⟨#[c]⟩).map D.p) = some (zs.map fun c => PyData.str ⟨#[c]⟩) := pures_map _
  have h2 : strsP (zs.map fun c => PyData.str ⟨#[c]⟩) = some (zs.map fun c => (⟨#[c]⟩ : Str)) := by
    have := MP.strs_map (zs.map fun c => (⟨#[c]⟩ : Str))
    rw [List.map_map] at this
    exact this
  have h3 : ((zs.map fun c => (⟨#[c]⟩ : Str)).map (·.length)).sum = zs.length := by
    rw [List.map_map]
    clear h1 h2 hz
    induction zs with
    | nil => rfl
    | cons c r ih => rw [List.map_cons, List.sum_cons, ih]; show 1 + r.length = r.length + 1; omega
  unfold joinD
  simp only [items, Option.bind_some, h1, h2]
  rw [if_pos (by rw [h3]; show zs.length + _ * 0 ≤ 100000; omega)]
theorem cutS_le (z : Str) (lo hi : Option Int) : (cutS z lo hi).length ≤ z.length := cutS_length z lo hi
theorem names_ok (k : Nat) {cs : List Int} {i : Nat} {v : Int} {ex : Store} (m : Nat) (hm : m ≤ 10) (hx : OkEx ex) :
    wpe NoX (semK defs (k + 3) 18 [.c 1, .p (.int (m : Nat))] (pen cs i v ++ ex)) fun d st' => ∃ (b : Str) (w t s : Int) (j : Nat) (u : Int), (∀ c ∈ b.cps.toList, isL c) ∧ b.length = 7 ∧ 0 ≤ w ∧ w < 3 ∧ 0 ≤ t ∧ t < 26 ∧ 0 ≤ s ∧ s < 8 ∧
      d = .c (2 + ex.length) ∧ st' = pen cs j u ++ (ex ++ [.lst (((List.range m).map (nameAt b w t s)).map fun x => .p (.str x))]) := by
  refine wp_sem (d := d18) rfl rfl ?_
  have e0 : (0 : Int) = ((0 : Nat) : Int) := rfl
  simp only [d18, b18, e_svs_cons, e_svs_nil, e_sv_ife, e_sv_ret, e_sv_retN, e_sv_set, e_sv_setIx, e_sv_setLc, e_sv_app, e_sv_ex, e_sv_loop, e_sv_pass, e_ev_var, e_ev_lit, e_ev_glb, e_ev_gix, e_ev_bin, e_ev_neg, e_ev_not, w_and, w_or, QT2_bool, QB_bool, e_ev_one, e_ev_cmp, w_cmp2, e_ev_ife, e_ev_tup, e_mkT, e_ev_lst, e_ev_frz, e_ev_rev, e_ev_dct, e_ev_mcall, e_ev_callD, e_ev_callT, e_sv_tryS, e_sv_raise, e_tbv_ex, e_tbv_set, e_tbv_ife, e_tbv_exSet, e_sv_brk, e_sv_cont, wp_catch, e_evc_none, e_evc_some, e_ev_ix, e_ev_sl, e_ev_bi, e_ev_mx2, e_ev_isi, e_ev_call, e_ev_join, e_ev_lc, e_evs_nil, e_evs_cons, e_evo_none, e_evo_some, e_evi_seq, e_evi_rng1, e_evi_rng2, e_evi_enum, e_evi_zip, env0, varD, e_b_nm, e_b_tT, e_b_tL, e_b_nil, e_b_cons, wp_bind, wp_then, wp_ok, wp_truR, wp_finP, QF_nx, QF_rt, QE1_rt, QE1_nx, QT1_bool, List.map, List.length, List.replicate, List.getElem?_cons_zero, List.getElem?_cons_succ, List.set, Nat.reduceSub, List.cons_append, List.nil_append, Nat.reduceAdd, wp_ite, e_mkLT, tru_b, seqI_L, seqI_T, pures_p, pures_nil, Option.map_some, Option.bind_some, if_true, sz_0, sz_1, sz_2, sz_3, sz_4, sz_5, sz_6, sz_7, sz_8, sz_9, sz_10, sz_11, sz_12, sz_13, sz_14, sz_15, sz_16, sz_17, sz_18, sz_19, sz_20, sz_21, sz_22, sz_23, sz_24, sz_25, sz_26, sz_27, sz_28, sz_29, sz_30, sz_31, sz_32, sz_33, sz_34, sz_35, sz_36, sz_37, sz_38, sz_39, sz_40, Nat.zero_le, if_true, e_mkLT, show (7 : Int) = ((7 : Nat) : Int) from rfl, e_rng0 7 (by decide)]
  have habc : ("abcdefghijklmnopqrstuvwxyz" : Str) = abc := rfl
  rw [habc]
  refine wp_mono (lc_core (fun _ x => ∃ c, isL c ∧ x = .str ⟨#[c]⟩) true (by simp) fun j hj acc i' u' => ?_) ?_
  · simp only [List.length_map, List.length_range] at hj
    refine ⟨_, by rw [List.getElem_map]; rfl, ?_⟩
    rw [e_evc_none, wp_ok, QT1_bool]
    refine ⟨i', u', rfl, fun _ => rfl, fun _ => ?_⟩
    simp only [e_svs_cons, e_svs_nil, e_sv_ife, e_sv_ret, e_sv_retN, e_sv_set, e_sv_setIx, e_sv_setLc, e_sv_app, e_sv_ex, e_sv_loop, e_sv_pass, e_ev_var, e_ev_lit, e_ev_glb, e_ev_gix, e_ev_bin, e_ev_neg, e_ev_not, w_and, w_or, QT2_bool, QB_bool, e_ev_one, e_ev_cmp, w_cmp2, e_ev_ife, e_ev_tup, e_mkT, e_ev_lst, e_ev_frz, e_ev_rev, e_ev_dct, e_ev_mcall, e_ev_callD, e_ev_callT, e_sv_tryS, e_sv_raise, e_tbv_ex, e_tbv_set, e_tbv_ife, e_tbv_exSet, e_sv_brk, e_sv_cont, wp_catch, e_evc_none, e_evc_some, e_ev_ix, e_ev_sl, e_ev_bi, e_ev_mx2, e_ev_isi, e_ev_call, e_ev_join, e_ev_lc, e_evs_nil, e_evs_cons, e_evo_none, e_evo_some, e_evi_seq, e_evi_rng1, e_evi_rng2, e_evi_enum, e_evi_zip, env0, varD, e_b_nm, e_b_tT, e_b_tL, e_b_nil, e_b_cons, wp_bind, wp_then, wp_ok, wp_truR, wp_finP, QF_nx, QF_rt, QE1_rt, QE1_nx, QT1_bool, List.map, List.length, List.replicate, List.getElem?_cons_zero, List.getElem?_cons_succ, List.set, Nat.reduceSub, List.cons_append, List.nil_append, Nat.reduceAdd, wp_ite, e_mkLT, tru_b, seqI_L, seqI_T, pures_p, pures_nil, Option.map_some, Option.bind_some, if_true, sz_0, sz_1, sz_2, sz_3, sz_4, sz_5, sz_6, sz_7, sz_8, sz_9, sz_10, sz_11, sz_12, sz_13, sz_14, sz_15, sz_16, sz_17, sz_18, sz_19, sz_20, sz_21, sz_22, sz_23, sz_24, sz_25, sz_26, sz_27, sz_28, sz_29, sz_30, sz_31, sz_32, sz_33, sz_34, sz_35, sz_36, sz_37, sz_38, sz_39, sz_40, wipeE]
    refine wp_mono (take_ok k (by decide) (by decide)) ?_
    rintro _ _ ⟨x, j', u', h0, h1, rfl, rfl⟩
    rw [abc_ix x h0 h1]
    exact ⟨_, _, _, rfl, ⟨_, ⟨by omega, by omega⟩, rfl⟩, rfl⟩
  · rintro _ _ ⟨xs, i1, u1, rfl, h1, h2, h3⟩
    obtain ⟨hl, -⟩ := h3 rfl
    obtain ⟨zs, rfl, hzs⟩ := strs_of (P := isL) (fun x hx => let ⟨_, _, h⟩ := h1 x hx; h)
    simp only [List.length_map, List.length_range] at hl
    rw [lcEnd_pen (pen_len cs i v ex) hx, wp_ok, join_ones zs (by omega), wp_ok]
    obtain ⟨b, hb⟩ : ∃ b, b = Txt.join "" (zs.map fun c => (⟨#[c]⟩ : Str)) := ⟨_, rfl⟩
    have hbl : b.cps.toList = zs := by rw [hb, ones_join]
    have hb7 : b.length = 7 := by rw [← hl, ← hbl]; simp [Str.length]
    rw [← hb]
    refine wp_mono (take_ok k (by decide) (by decide)) ?_
    rintro _ _ ⟨w, i2, u2, w0, w1, rfl, rfl⟩
    refine wp_mono (take_ok k (by decide) (by decide)) ?_
    rintro _ _ ⟨t, i3, u3, t0, t1, rfl, rfl⟩
    refine take_then k (by decide) (by decide) fun s i4 u4 s0 s1 => ?_
    rw [e_rng0 m (by omega), wp_ok, pen_len, pen_app]
    refine wp_for0 (fun j env st => ∃ x8 x9 x10 x11, env = [some (.c 1), some (.p (.int (m : Nat))), some (.p (.str abc)), some (.p (.str b)), some (.p (.int w)), some (.p (.int t)), some (.p (.int s)), some (.c (2 + ex.length)), x8, x9, x10, x11] ∧
        st = pen cs i4 u4 ++ (ex ++ [.lst (((List.range j).map (nameAt b w t s)).map fun x => .p (.str x))]))
      ⟨_, _, _, _, rfl, rfl⟩ (fun _ _ _ _ => trivial) (fun j hj env st h => ?_) (fun env st h => ?_)
    · obtain ⟨x8, x9, x10, x11, rfl, rfl⟩ := h
      simp only [List.length_map, List.length_range] at hj
      refine ⟨_, by rw [List.getElem_map]; rfl, ?_⟩
      have hlen : (partOf b w s j).length ≤ 7 := by rw [← hb7]; exact cutS_le _ _ _
      have hsl : ∀ (z : Str) (lo hi : Option Int) (st : Store), z.length ≤ 7 → slD (.p (.str z)) lo hi st = .ok (.p (.str (cutS z lo hi))) st := fun z lo hi st h => by rw [e_slS, if_pos (Nat.le_trans h (by decide))]
      have hlen2 : ∀ (z : Str) (st : Store), z.length ≤ 7 → bi1D .len (.p (.str z)) st = .ok (.p (.int z.length)) st := fun z st h => by rw [e_lenS, if_pos (Nat.le_trans h (by decide))]
      have hpart : cutS b none (some ((s + (j : Int) * (w % 2)) % 8)) = partOf b w s j := rfl
      have hsign := abc_ix ((t + 3 * (j : Int)) % 26) (Int.emod_nonneg _ (by decide)) (Int.emod_lt_of_pos _ (by decide))
      have hat : ∀ st, ixD (.p (.list [.int 0, .int (partOf b w s j).length, .int ((partOf b w s j).length / 2)])) (.p (.int w)) st = .ok (.p (.int (atOf w (partOf b w s j).length))) st := fun st => by
        rw [e_ixL]
        have : w = 0 ∨ w = 1 ∨ w = 2 := by omega
        rcases this with rfl | rfl | rfl <;> rfl
      have hmk : ∀ (x y z : PyData) (st : Store), mkL false [.p x, .p y, .p z] st = .ok (.p (.list [x, y, z])) st := fun x y z st => mkL_p [x, y, z] st
      simp only [List.getElem_range, e_svs_cons, e_svs_nil, e_sv_ife, e_sv_ret, e_sv_retN, e_sv_set, e_sv_setIx, e_sv_setLc, e_sv_app, e_sv_ex, e_sv_loop, e_sv_pass, e_ev_var, e_ev_lit, e_ev_glb, e_ev_gix, e_ev_bin, e_ev_neg, e_ev_not, w_and, w_or, QT2_bool, QB_bool, e_ev_one, e_ev_cmp, w_cmp2, e_ev_ife, e_ev_tup, e_mkT, e_ev_lst, e_ev_frz, e_ev_rev, e_ev_dct, e_ev_mcall, e_ev_callD, e_ev_callT, e_sv_tryS, e_sv_raise, e_tbv_ex, e_tbv_set, e_tbv_ife, e_tbv_exSet, e_sv_brk, e_sv_cont, wp_catch, e_evc_none, e_evc_some, e_ev_ix, e_ev_sl, e_ev_bi, e_ev_mx2, e_ev_isi, e_ev_call, e_ev_join, e_ev_lc, e_evs_nil, e_evs_cons, e_evo_none, e_evo_some, e_evi_seq, e_evi_rng1, e_evi_rng2, e_evi_enum, e_evi_zip, env0, varD, e_b_nm, e_b_tT, e_b_tL, e_b_nil, e_b_cons, wp_bind, wp_then, wp_ok, wp_truR, wp_finP, QF_nx, QF_rt, QE1_rt, QE1_nx, QT1_bool, List.map, List.length, List.replicate, List.getElem?_cons_zero, List.getElem?_cons_succ, List.set, Nat.reduceSub, List.cons_append, List.nil_append, Nat.reduceAdd, wp_ite, e_mkLT, tru_b, seqI_L, seqI_T, pures_p, pures_nil, Option.map_some, Option.bind_some, if_true, sz_0, sz_1, sz_2, sz_3, sz_4, sz_5, sz_6, sz_7, sz_8, sz_9, sz_10, sz_11, sz_12, sz_13, sz_14, sz_15, sz_16, sz_17, sz_18, sz_19, sz_20, sz_21, sz_22, sz_23, sz_24, sz_25, sz_26, sz_27, sz_28, sz_29, sz_30, sz_31, sz_32, sz_33, sz_34, sz_35, sz_36, sz_37, sz_38, sz_39, sz_40, e_mul, mulOk_l (i := 3) (show (3 : Int).natAbs < _ by decide), mulOk_r (abs_mod (x := w) (m := 2) (by decide) (by decide)), e_add, e_mod, e_div, Int.reduceLT, Int.reducePow, and_self, if_true, hsign, hsl b _ _ _ (Nat.le_of_eq hb7), hpart, hlen2 _ _ hlen, hmk, hat, pen_last]
      have hp : nameAt b w t s j = cutS (partOf b w s j) none (some (atOf w (partOf b w s j).length)) ++ (⟨#[97 + ((t + 3 * (j : Int)) % 26).toNat]⟩ : Str) ++ cutS (partOf b w s j) (some (atOf w (partOf b w s j).length)) none := rfl
      have l1 := Nat.le_trans (cutS_le (partOf b w s j) none (some (atOf w (partOf b w s j).length))) hlen
      have l2 := Nat.le_trans (cutS_le (partOf b w s j) (some (atOf w (partOf b w s j).length)) none) hlen
      have l3 : (⟨#[97 + ((t + 3 * (j : Int)) % 26).toNat]⟩ : Str).length = 1 := rfl
      rw [hsl _ _ _ _ hlen, wp_ok, e_addS _ _ _ (by omega), wp_ok, hsl _ _ _ _ hlen, wp_ok, e_addS _ _ _ (by rw [str_app_len]; omega), wp_ok, ← hp, pen_last]
      simp only [List.length_map, List.length_range, if_pos (show j < SZ from Nat.lt_of_lt_of_le hj (sz_le (by omega))), wp_ok, QF_nx, QN_nx, pen_setLast]
      exact ⟨_, _, _, _, rfl, by simp [List.range_succ]⟩
    · obtain ⟨x8, x9, x10, x11, rfl, rfl⟩ := h
      simp only [List.length_map, List.length_range, e_svs_cons, e_svs_nil, e_sv_ife, e_sv_ret, e_sv_retN, e_sv_set, e_sv_setIx, e_sv_setLc, e_sv_app, e_sv_ex, e_sv_loop, e_sv_pass, e_ev_var, e_ev_lit, e_ev_glb, e_ev_gix, e_ev_bin, e_ev_neg, e_ev_not, w_and, w_or, QT2_bool, QB_bool, e_ev_one, e_ev_cmp, w_cmp2, e_ev_ife, e_ev_tup, e_mkT, e_ev_lst, e_ev_frz, e_ev_rev, e_ev_dct, e_ev_mcall, e_ev_callD, e_ev_callT, e_sv_tryS, e_sv_raise, e_tbv_ex, e_tbv_set, e_tbv_ife, e_tbv_exSet, e_sv_brk, e_sv_cont, wp_catch, e_evc_none, e_evc_some, e_ev_ix, e_ev_sl, e_ev_bi, e_ev_mx2, e_ev_isi, e_ev_call, e_ev_join, e_ev_lc, e_evs_nil, e_evs_cons, e_evo_none, e_evo_some, e_evi_seq, e_evi_rng1, e_evi_rng2, e_evi_enum, e_evi_zip, env0, varD, e_b_nm, e_b_tT, e_b_tL, e_b_nil, e_b_cons, wp_bind, wp_then, wp_ok, wp_truR, wp_finP, QF_nx, QF_rt, QE1_rt, QE1_nx, QT1_bool, List.map, List.length, List.replicate, List.getElem?_cons_zero, List.getElem?_cons_succ, List.set, Nat.reduceSub, List.cons_append, List.nil_append, Nat.reduceAdd, wp_ite, e_mkLT, tru_b, seqI_L, seqI_T, pures_p, pures_nil, Option.map_some, Option.bind_some, if_true, sz_0, sz_1, sz_2, sz_3, sz_4, sz_5, sz_6, sz_7, sz_8, sz_9, sz_10, sz_11, sz_12, sz_13, sz_14, sz_15, sz_16, sz_17, sz_18, sz_19, sz_20, sz_21, sz_22, sz_23, sz_24, sz_25, sz_26, sz_27, sz_28, sz_29, sz_30, sz_31, sz_32, sz_33, sz_34, sz_35, sz_36, sz_37, sz_38, sz_39, sz_40]
      rw [fin_new (Nat.le_of_eq (pen_len _ _ _ _)), wp_ok]
      exact ⟨b, w, t, s, i4, u4, fun c hc => hzs c (hbl ▸ hc), hb7, w0, w1, t0, t1, s0, s1, rfl, rfl⟩
/-! a town -/
def sLe (a b : Str) : Bool := decide (a.cps.toList ≤ b.cps.toList)
def sortS (l : List Str) : List Str := l.mergeSort sLe
theorem sort_strs (l : List Str) : sortP (l.map .str) = (sortS l).map .str := by
  unfold sortP sortS
  rw [List.map_mergeSort (r := sLe) (s := PySem.W.dataLe false fun x : PyData => x) (f := PyData.str)]
  intro a _ b _
  exact (congrFun (congrFun (PySem.W.dataLe_str (fun x : Str => x)) a) b).symm
theorem sortOk_strs (l : List Str) (h : l.length ≤ 1000) : sortOk (l.map .str) = true := by
  unfold sortOk
  simp only [Bool.and_eq_true, List.all_eq_true, Bool.or_eq_true, decide_eq_true_eq, List.length_map, List.mem_map]
  refine ⟨⟨⟨?_, .inr ?_⟩, ?_⟩, sz_le h⟩
  · rintro _ ⟨a, _, rfl⟩ _ ⟨b, _, rfl⟩; rfl
  · rintro _ ⟨a, _, rfl⟩; rfl
  · rintro _ ⟨a, _, rfl⟩; exact Nat.zero_le _
theorem sorted_c {n : Nat} {st : Store} {l : List Str} (h : cellL st n = some (l.map fun x => .p (.str x))) (hl : l.length ≤ 1000) : bi1D (.sorted false) (.c n) st = .ok (.p (.list ((sortS l).map .str))) st := by
  have h1 : items (.c n) st = some (l.map fun x => .p (.str x)) := h
  have h2 : pures (l.map fun x => D.p (.str x)) = some (l.map .str) := by
    exact pures_map' PyData.str l
  show sortedD false (.c n) st = _
  unfold sortedD
  simp only [h1, h2, sortOk_strs l hl, Bool.true_or, if_true, sort_strs]
  exact mkL_p _ _
theorem sortS_len (l : List Str) : (sortS l).length = l.length := List.length_mergeSort l
theorem sortS_mem {l : List Str} {x : Str} : x ∈ sortS l ↔ x ∈ l := List.mem_mergeSort
theorem okEx_snoc {ex : Store} {ds : List D} (h : OkEx ex) (hd : ∀ d ∈ ds, ∃ x, d = .p x) : OkEx (ex ++ [.lst ds]) := by
  unfold OkEx at h ⊢
  rw [List.all_eq_true] at h ⊢
  intro c hc
  rw [List.length_append, List.length_singleton]
  rcases List.mem_append.mp hc with hc | hc
  · exact cellBelow_mono (by omega) (h c hc)
  · rw [List.mem_singleton.mp hc]
    simp only [cellBelow, List.all_eq_true]
    intro d hd'
    obtain ⟨x, rfl⟩ := hd d hd'
    rfl
def townD (hs gs : List Str) : PyData := .tuple [.tuple (hs.map .str), .tuple (gs.map .str)]
structure Town (m : Nat) (hs gs : List Str) : Prop where
  names : ∃ (b : Str) (w t s : Int) (n : Nat), (∀ c ∈ b.cps.toList, isL c) ∧ b.length = 7 ∧ 0 ≤ w ∧ w < 3 ∧ 0 ≤ t ∧ t < 26 ∧ 0 ≤ s ∧ s < 8 ∧ 1 ≤ n ∧ n ≤ m ∧ hs = sortS ((List.range n).map (nameAt b w t s))
  gates : ∀ g ∈ gs, g ∈ hs
theorem Town.ne {m : Nat} {hs gs : List Str} (h : Town m hs gs) : 1 ≤ hs.length ∧ hs.length ≤ m := by
  obtain ⟨b, w, t, s, n, _, _, _, _, _, _, _, _, h1, h2, rfl⟩ := h.names
  rw [sortS_len, List.length_map, List.length_range]
  exact ⟨h1, h2⟩
theorem strs_in : ∀ {xs : List PyData} {hs : List Str}, (∀ x ∈ xs, ∃ h ∈ hs, x = .str h) → ∃ gs : List Str, xs = gs.map .str ∧ ∀ g ∈ gs, g ∈ hs
  | [], _, _ => ⟨[], rfl, by simp⟩
  | x :: r, hs, h => by
    obtain ⟨g, hg, rfl⟩ := h _ List.mem_cons_self
    obtain ⟨gs, rfl, h2⟩ := strs_in (xs := r) fun x hx => h x (List.mem_cons_of_mem _ hx)
    exact ⟨g :: gs, rfl, by simpa using ⟨hg, h2⟩⟩
theorem e_eqEmpty (xs : List PyData) (st : Store) : cmpD .Eq (.p (.list xs)) (.p (.list [])) st = .ok (.p (.bool xs.isEmpty)) st := by
  unfold cmpD eqD
  simp only [toP_p]
  rw [if_pos]
  · cases xs with
    | nil => rfl
    | cons x r => rfl
  · unfold eqRoom
    rw [decide_eq_true_eq]
    exact Nat.le_trans (Nat.min_le_right _ _) (by decide)
theorem town_ok (k : Nat) {cs : List Int} {i : Nat} {v : Int} {ex : Store} (m : Nat) (h1 : 1 ≤ m) (hm : m ≤ 10) (hx : OkEx ex) :
    wpe NoX (semK defs (k + 4) 19 [.c 1, .p (.int (m : Nat))] (pen cs i v ++ ex)) fun d st' => ∃ (hs gs : List Str) (j : Nat) (u : Int), Town m hs gs ∧ d = .p (townD hs gs) ∧ st' = pen cs j u ++ ex := by
  refine wp_sem (d := d19) rfl rfl ?_
  simp only [d19, b19, e_svs_cons, e_svs_nil, e_sv_ife, e_sv_ret, e_sv_retN, e_sv_set, e_sv_setIx, e_sv_setLc, e_sv_app, e_sv_ex, e_sv_loop, e_sv_pass, e_ev_var, e_ev_lit, e_ev_glb, e_ev_gix, e_ev_bin, e_ev_neg, e_ev_not, w_and, w_or, QT2_bool, QB_bool, e_ev_one, e_ev_cmp, w_cmp2, e_ev_ife, e_ev_tup, e_mkT, e_ev_lst, e_ev_frz, e_ev_rev, e_ev_dct, e_ev_mcall, e_ev_callD, e_ev_callT, e_sv_tryS, e_sv_raise, e_tbv_ex, e_tbv_set, e_tbv_ife, e_tbv_exSet, e_sv_brk, e_sv_cont, wp_catch, e_evc_none, e_evc_some, e_ev_ix, e_ev_sl, e_ev_bi, e_ev_mx2, e_ev_isi, e_ev_call, e_ev_join, e_ev_lc, e_evs_nil, e_evs_cons, e_evo_none, e_evo_some, e_evi_seq, e_evi_rng1, e_evi_rng2, e_evi_enum, e_evi_zip, env0, varD, e_b_nm, e_b_tT, e_b_tL, e_b_nil, e_b_cons, wp_bind, wp_then, wp_ok, wp_truR, wp_finP, QF_nx, QF_rt, QE1_rt, QE1_nx, QT1_bool, List.map, List.length, List.replicate, List.getElem?_cons_zero, List.getElem?_cons_succ, List.set, Nat.reduceSub, List.cons_append, List.nil_append, Nat.reduceAdd, wp_ite, e_mkLT, tru_b, seqI_L, seqI_T, pures_p, pures_nil, Option.map_some, Option.bind_some, if_true, sz_0, sz_1, sz_2, sz_3, sz_4, sz_5, sz_6, sz_7, sz_8, sz_9, sz_10, sz_11, sz_12, sz_13, sz_14, sz_15, sz_16, sz_17, sz_18, sz_19, sz_20, sz_21, sz_22, sz_23, sz_24, sz_25, sz_26, sz_27, sz_28, sz_29, sz_30, sz_31, sz_32, sz_33, sz_34, sz_35, sz_36, sz_37, sz_38, sz_39, sz_40]
  refine take_then (k + 1) (by omega) (by omega) fun x i1 u1 x0 x1 => ?_
  obtain ⟨n, rfl⟩ : ∃ n : Nat, x = n := ⟨x.toNat, by omega⟩
  rw [e_add, wp_ok, show (1 : Int) + (n : Int) = ((n + 1 : Nat) : Int) by omega]
  refine wp_mono (names_ok k (n + 1) (by omega) hx) ?_
  rintro _ _ ⟨b, w, t, s, i2, u2, hb, hb7, w0, w1, t0, t1, s0, s1, rfl, rfl⟩
  obtain ⟨hs, ehs⟩ : ∃ hs, hs = sortS ((List.range (n + 1)).map (nameAt b w t s)) := ⟨_, rfl⟩
  have hlen : hs.length = n + 1 := by rw [ehs, sortS_len, List.length_map, List.length_range]
  rw [sorted_c (pen_last _ _ _ _ _) (by rw [List.length_map, List.length_range]; omega), wp_ok, ← ehs]
  rw [seqI_L, wp_ok]
  have hx2 : OkEx (ex ++ [.lst (((List.range (n + 1)).map (nameAt b w t s)).map fun x => .p (.str x))]) := okEx_snoc hx (by
    intro d hd
    obtain ⟨x, _, rfl⟩ := List.mem_map.mp hd
    exact ⟨_, rfl⟩)
  obtain ⟨ex2, eex2⟩ : ∃ ex2 : Store, ex2 = ex ++ [.lst (((List.range (n + 1)).map (nameAt b w t s)).map fun x => .p (.str x))] := ⟨_, rfl⟩
  rw [← eex2] at hx2 ⊢
  refine wp_mono (lc_core (fun _ x => ∃ h ∈ hs, x = .str h) false (by rw [List.length_map, List.length_map, hlen]; omega) fun j hj acc i' u' => ?_) ?_
  · simp only [List.length_map] at hj
    refine ⟨_, by rw [List.getElem_map]; rfl, ?_⟩
    simp only [e_evc_some, e_svs_cons, e_svs_nil, e_sv_ife, e_sv_ret, e_sv_retN, e_sv_set, e_sv_setIx, e_sv_setLc, e_sv_app, e_sv_ex, e_sv_loop, e_sv_pass, e_ev_var, e_ev_lit, e_ev_glb, e_ev_gix, e_ev_bin, e_ev_neg, e_ev_not, w_and, w_or, QT2_bool, QB_bool, e_ev_one, e_ev_cmp, w_cmp2, e_ev_ife, e_ev_tup, e_mkT, e_ev_lst, e_ev_frz, e_ev_rev, e_ev_dct, e_ev_mcall, e_ev_callD, e_ev_callT, e_sv_tryS, e_sv_raise, e_tbv_ex, e_tbv_set, e_tbv_ife, e_tbv_exSet, e_sv_brk, e_sv_cont, wp_catch, e_evc_none, e_evc_some, e_ev_ix, e_ev_sl, e_ev_bi, e_ev_mx2, e_ev_isi, e_ev_call, e_ev_join, e_ev_lc, e_evs_nil, e_evs_cons, e_evo_none, e_evo_some, e_evi_seq, e_evi_rng1, e_evi_rng2, e_evi_enum, e_evi_zip, env0, varD, e_b_nm, e_b_tT, e_b_tL, e_b_nil, e_b_cons, wp_bind, wp_then, wp_ok, wp_truR, wp_finP, QF_nx, QF_rt, QE1_rt, QE1_nx, QT1_bool, List.map, List.length, List.replicate, List.getElem?_cons_zero, List.getElem?_cons_succ, List.set, Nat.reduceSub, List.cons_append, List.nil_append, Nat.reduceAdd, wp_ite, e_mkLT, tru_b, seqI_L, seqI_T, pures_p, pures_nil, Option.map_some, Option.bind_some, if_true, sz_0, sz_1, sz_2, sz_3, sz_4, sz_5, sz_6, sz_7, sz_8, sz_9, sz_10, sz_11, sz_12, sz_13, sz_14, sz_15, sz_16, sz_17, sz_18, sz_19, sz_20, sz_21, sz_22, sz_23, sz_24, sz_25, sz_26, sz_27, sz_28, sz_29, sz_30, sz_31, sz_32, sz_33, sz_34, sz_35, sz_36, sz_37, sz_38, sz_39, sz_40, wipeE]
    refine take_then (k + 1) (by decide) (by decide) fun x i3 u3 x0 x1 => ?_
    rw [e_gt, wp_ok, QT1_bool]
    refine ⟨i3, u3, rfl, fun h => (nomatch h), fun _ => ?_⟩
    try simp only [e_svs_cons, e_svs_nil, e_sv_ife, e_sv_ret, e_sv_retN, e_sv_set, e_sv_setIx, e_sv_setLc, e_sv_app, e_sv_ex, e_sv_loop, e_sv_pass, e_ev_var, e_ev_lit, e_ev_glb, e_ev_gix, e_ev_bin, e_ev_neg, e_ev_not, w_and, w_or, QT2_bool, QB_bool, e_ev_one, e_ev_cmp, w_cmp2, e_ev_ife, e_ev_tup, e_mkT, e_ev_lst, e_ev_frz, e_ev_rev, e_ev_dct, e_ev_mcall, e_ev_callD, e_ev_callT, e_sv_tryS, e_sv_raise, e_tbv_ex, e_tbv_set, e_tbv_ife, e_tbv_exSet, e_sv_brk, e_sv_cont, wp_catch, e_evc_none, e_evc_some, e_ev_ix, e_ev_sl, e_ev_bi, e_ev_mx2, e_ev_isi, e_ev_call, e_ev_join, e_ev_lc, e_evs_nil, e_evs_cons, e_evo_none, e_evo_some, e_evi_seq, e_evi_rng1, e_evi_rng2, e_evi_enum, e_evi_zip, env0, varD, e_b_nm, e_b_tT, e_b_tL, e_b_nil, e_b_cons, wp_bind, wp_then, wp_ok, wp_truR, wp_finP, QF_nx, QF_rt, QE1_rt, QE1_nx, QT1_bool, List.map, List.length, List.replicate, List.getElem?_cons_zero, List.getElem?_cons_succ, List.set, Nat.reduceSub, List.cons_append, List.nil_append, Nat.reduceAdd, wp_ite, e_mkLT, tru_b, seqI_L, seqI_T, pures_p, pures_nil, Option.map_some, Option.bind_some, if_true, sz_0, sz_1, sz_2, sz_3, sz_4, sz_5, sz_6, sz_7, sz_8, sz_9, sz_10, sz_11, sz_12, sz_13, sz_14, sz_15, sz_16, sz_17, sz_18, sz_19, sz_20, sz_21, sz_22, sz_23, sz_24, sz_25, sz_26, sz_27, sz_28, sz_29, sz_30, sz_31, sz_32, sz_33, sz_34, sz_35, sz_36, sz_37, sz_38, sz_39, sz_40]
    exact ⟨_, i3, u3, rfl, ⟨hs[j], List.getElem_mem hj, by rw [List.getElem_map]⟩, rfl⟩
  · rintro _ _ ⟨xs, i3, u3, rfl, g1, g2, -⟩
    obtain ⟨gs, rfl, hgs⟩ := strs_in (fun x hx => let ⟨_, _, h⟩ := g1 x hx; h)
    rw [lcEnd_pen (pen_len _ _ _ _) hx2, wp_ok]
    have hT : Town m hs gs := ⟨⟨b, w, t, s, n + 1, hb, hb7, w0, w1, t0, t1, s0, s1, by omega, by omega, ehs⟩, hgs⟩
    have hg : ∀ (j : Nat) (u : Int), gc (pen cs i v ++ ex).length (pen cs j u ++ ex2) = pen cs j u ++ ex := fun j u => by
      rw [eex2, ← List.append_assoc]
      exact gc_pen hx (pen_len cs i v ex)
    simp only [mkL, e_svs_cons, e_svs_nil, e_sv_ife, e_sv_ret, e_sv_retN, e_sv_set, e_sv_setIx, e_sv_setLc, e_sv_app, e_sv_ex, e_sv_loop, e_sv_pass, e_ev_var, e_ev_lit, e_ev_glb, e_ev_gix, e_ev_bin, e_ev_neg, e_ev_not, w_and, w_or, QT2_bool, QB_bool, e_ev_one, e_ev_cmp, w_cmp2, e_ev_ife, e_ev_tup, e_mkT, e_ev_lst, e_ev_frz, e_ev_rev, e_ev_dct, e_ev_mcall, e_ev_callD, e_ev_callT, e_sv_tryS, e_sv_raise, e_tbv_ex, e_tbv_set, e_tbv_ife, e_tbv_exSet, e_sv_brk, e_sv_cont, wp_catch, e_evc_none, e_evc_some, e_ev_ix, e_ev_sl, e_ev_bi, e_ev_mx2, e_ev_isi, e_ev_call, e_ev_join, e_ev_lc, e_evs_nil, e_evs_cons, e_evo_none, e_evo_some, e_evi_seq, e_evi_rng1, e_evi_rng2, e_evi_enum, e_evi_zip, env0, varD, e_b_nm, e_b_tT, e_b_tL, e_b_nil, e_b_cons, wp_bind, wp_then, wp_ok, wp_truR, wp_finP, QF_nx, QF_rt, QE1_rt, QE1_nx, QT1_bool, List.map, List.length, List.replicate, List.getElem?_cons_zero, List.getElem?_cons_succ, List.set, Nat.reduceSub, List.cons_append, List.nil_append, Nat.reduceAdd, wp_ite, e_mkLT, tru_b, seqI_L, seqI_T, pures_p, pures_nil, Option.map_some, Option.bind_some, if_true, sz_0, sz_1, sz_2, sz_3, sz_4, sz_5, sz_6, sz_7, sz_8, sz_9, sz_10, sz_11, sz_12, sz_13, sz_14, sz_15, sz_16, sz_17, sz_18, sz_19, sz_20, sz_21, sz_22, sz_23, sz_24, sz_25, sz_26, sz_27, sz_28, sz_29, sz_30, sz_31, sz_32, sz_33, sz_34, sz_35, sz_36, sz_37, sz_38, sz_39, sz_40, e_eqEmpty, e_tupL]
    cases gs with
    | nil =>
      simp only [List.map_nil, List.isEmpty_nil, e_svs_cons, e_svs_nil, e_sv_ife, e_sv_ret, e_sv_retN, e_sv_set, e_sv_setIx, e_sv_setLc, e_sv_app, e_sv_ex, e_sv_loop, e_sv_pass, e_ev_var, e_ev_lit, e_ev_glb, e_ev_gix, e_ev_bin, e_ev_neg, e_ev_not, w_and, w_or, QT2_bool, QB_bool, e_ev_one, e_ev_cmp, w_cmp2, e_ev_ife, e_ev_tup, e_mkT, e_ev_lst, e_ev_frz, e_ev_rev, e_ev_dct, e_ev_mcall, e_ev_callD, e_ev_callT, e_sv_tryS, e_sv_raise, e_tbv_ex, e_tbv_set, e_tbv_ife, e_tbv_exSet, e_sv_brk, e_sv_cont, wp_catch, e_evc_none, e_evc_some, e_ev_ix, e_ev_sl, e_ev_bi, e_ev_mx2, e_ev_isi, e_ev_call, e_ev_join, e_ev_lc, e_evs_nil, e_evs_cons, e_evo_none, e_evo_some, e_evi_seq, e_evi_rng1, e_evi_rng2, e_evi_enum, e_evi_zip, env0, varD, e_b_nm, e_b_tT, e_b_tL, e_b_nil, e_b_cons, wp_bind, wp_then, wp_ok, wp_truR, wp_finP, QF_nx, QF_rt, QE1_rt, QE1_nx, QT1_bool, List.map, List.length, List.replicate, List.getElem?_cons_zero, List.getElem?_cons_succ, List.set, Nat.reduceSub, List.cons_append, List.nil_append, Nat.reduceAdd, wp_ite, e_mkLT, tru_b, seqI_L, seqI_T, pures_p, pures_nil, Option.map_some, Option.bind_some, if_true, sz_0, sz_1, sz_2, sz_3, sz_4, sz_5, sz_6, sz_7, sz_8, sz_9, sz_10, sz_11, sz_12, sz_13, sz_14, sz_15, sz_16, sz_17, sz_18, sz_19, sz_20, sz_21, sz_22, sz_23, sz_24, sz_25, sz_26, sz_27, sz_28, sz_29, sz_30, sz_31, sz_32, sz_33, sz_34, sz_35, sz_36, sz_37, sz_38, sz_39, sz_40]
      refine take_then (k + 1) (by decide) (by decide) fun x i4 u4 x0 x1 => ?_
      simp only [e_svs_cons, e_svs_nil, e_sv_ife, e_sv_ret, e_sv_retN, e_sv_set, e_sv_setIx, e_sv_setLc, e_sv_app, e_sv_ex, e_sv_loop, e_sv_pass, e_ev_var, e_ev_lit, e_ev_glb, e_ev_gix, e_ev_bin, e_ev_neg, e_ev_not, w_and, w_or, QT2_bool, QB_bool, e_ev_one, e_ev_cmp, w_cmp2, e_ev_ife, e_ev_tup, e_mkT, e_ev_lst, e_ev_frz, e_ev_rev, e_ev_dct, e_ev_mcall, e_ev_callD, e_ev_callT, e_sv_tryS, e_sv_raise, e_tbv_ex, e_tbv_set, e_tbv_ife, e_tbv_exSet, e_sv_brk, e_sv_cont, wp_catch, e_evc_none, e_evc_some, e_ev_ix, e_ev_sl, e_ev_bi, e_ev_mx2, e_ev_isi, e_ev_call, e_ev_join, e_ev_lc, e_evs_nil, e_evs_cons, e_evo_none, e_evo_some, e_evi_seq, e_evi_rng1, e_evi_rng2, e_evi_enum, e_evi_zip, env0, varD, e_b_nm, e_b_tT, e_b_tL, e_b_nil, e_b_cons, wp_bind, wp_then, wp_ok, wp_truR, wp_finP, QF_nx, QF_rt, QE1_rt, QE1_nx, QT1_bool, List.map, List.length, List.replicate, List.getElem?_cons_zero, List.getElem?_cons_succ, List.set, Nat.reduceSub, List.cons_append, List.nil_append, Nat.reduceAdd, wp_ite, e_mkLT, tru_b, seqI_L, seqI_T, pures_p, pures_nil, Option.map_some, Option.bind_some, if_true, sz_0, sz_1, sz_2, sz_3, sz_4, sz_5, sz_6, sz_7, sz_8, sz_9, sz_10, sz_11, sz_12, sz_13, sz_14, sz_15, sz_16, sz_17, sz_18, sz_19, sz_20, sz_21, sz_22, sz_23, sz_24, sz_25, sz_26, sz_27, sz_28, sz_29, sz_30, sz_31, sz_32, sz_33, sz_34, sz_35, sz_36, sz_37, sz_38, sz_39, sz_40, e_gt]
      split
      · try simp only [e_svs_cons, e_svs_nil, e_sv_ife, e_sv_ret, e_sv_retN, e_sv_set, e_sv_setIx, e_sv_setLc, e_sv_app, e_sv_ex, e_sv_loop, e_sv_pass, e_ev_var, e_ev_lit, e_ev_glb, e_ev_gix, e_ev_bin, e_ev_neg, e_ev_not, w_and, w_or, QT2_bool, QB_bool, e_ev_one, e_ev_cmp, w_cmp2, e_ev_ife, e_ev_tup, e_mkT, e_ev_lst, e_ev_frz, e_ev_rev, e_ev_dct, e_ev_mcall, e_ev_callD, e_ev_callT, e_sv_tryS, e_sv_raise, e_tbv_ex, e_tbv_set, e_tbv_ife, e_tbv_exSet, e_sv_brk, e_sv_cont, wp_catch, e_evc_none, e_evc_some, e_ev_ix, e_ev_sl, e_ev_bi, e_ev_mx2, e_ev_isi, e_ev_call, e_ev_join, e_ev_lc, e_evs_nil, e_evs_cons, e_evo_none, e_evo_some, e_evi_seq, e_evi_rng1, e_evi_rng2, e_evi_enum, e_evi_zip, env0, varD, e_b_nm, e_b_tT, e_b_tL, e_b_nil, e_b_cons, wp_bind, wp_then, wp_ok, wp_truR, wp_finP, QF_nx, QF_rt, QE1_rt, QE1_nx, QT1_bool, List.map, List.length, List.replicate, List.getElem?_cons_zero, List.getElem?_cons_succ, List.set, Nat.reduceSub, List.cons_append, List.nil_append, Nat.reduceAdd, wp_ite, e_mkLT, tru_b, seqI_L, seqI_T, pures_p, pures_nil, Option.map_some, Option.bind_some, if_true, sz_0, sz_1, sz_2, sz_3, sz_4, sz_5, sz_6, sz_7, sz_8, sz_9, sz_10, sz_11, sz_12, sz_13, sz_14, sz_15, sz_16, sz_17, sz_18, sz_19, sz_20, sz_21, sz_22, sz_23, sz_24, sz_25, sz_26, sz_27, sz_28, sz_29, sz_30, sz_31, sz_32, sz_33, sz_34, sz_35, sz_36, sz_37, sz_38, sz_39, sz_40, e_slL, e_tupL]
        rw [show (1 : Int) = ((1 : Nat) : Int) from rfl, cut_take, ← List.map_take, hg]
        exact ⟨hs, hs.take 1, i4, u4, ⟨hT.names, fun g hg => List.mem_of_mem_take hg⟩, rfl, rfl⟩
      · try simp only [e_svs_cons, e_svs_nil, e_sv_ife, e_sv_ret, e_sv_retN, e_sv_set, e_sv_setIx, e_sv_setLc, e_sv_app, e_sv_ex, e_sv_loop, e_sv_pass, e_ev_var, e_ev_lit, e_ev_glb, e_ev_gix, e_ev_bin, e_ev_neg, e_ev_not, w_and, w_or, QT2_bool, QB_bool, e_ev_one, e_ev_cmp, w_cmp2, e_ev_ife, e_ev_tup, e_mkT, e_ev_lst, e_ev_frz, e_ev_rev, e_ev_dct, e_ev_mcall, e_ev_callD, e_ev_callT, e_sv_tryS, e_sv_raise, e_tbv_ex, e_tbv_set, e_tbv_ife, e_tbv_exSet, e_sv_brk, e_sv_cont, wp_catch, e_evc_none, e_evc_some, e_ev_ix, e_ev_sl, e_ev_bi, e_ev_mx2, e_ev_isi, e_ev_call, e_ev_join, e_ev_lc, e_evs_nil, e_evs_cons, e_evo_none, e_evo_some, e_evi_seq, e_evi_rng1, e_evi_rng2, e_evi_enum, e_evi_zip, env0, varD, e_b_nm, e_b_tT, e_b_tL, e_b_nil, e_b_cons, wp_bind, wp_then, wp_ok, wp_truR, wp_finP, QF_nx, QF_rt, QE1_rt, QE1_nx, QT1_bool, List.map, List.length, List.replicate, List.getElem?_cons_zero, List.getElem?_cons_succ, List.set, Nat.reduceSub, List.cons_append, List.nil_append, Nat.reduceAdd, wp_ite, e_mkLT, tru_b, seqI_L, seqI_T, pures_p, pures_nil, Option.map_some, Option.bind_some, if_true, sz_0, sz_1, sz_2, sz_3, sz_4, sz_5, sz_6, sz_7, sz_8, sz_9, sz_10, sz_11, sz_12, sz_13, sz_14, sz_15, sz_16, sz_17, sz_18, sz_19, sz_20, sz_21, sz_22, sz_23, sz_24, sz_25, sz_26, sz_27, sz_28, sz_29, sz_30, sz_31, sz_32, sz_33, sz_34, sz_35, sz_36, sz_37, sz_38, sz_39, sz_40, e_tupL, List.map_nil]
        rw [hg]
        exact ⟨hs, [], i4, u4, hT, rfl, rfl⟩
    | cons g r =>
      simp only [List.map_cons, List.isEmpty_cons, e_svs_cons, e_svs_nil, e_sv_ife, e_sv_ret, e_sv_retN, e_sv_set, e_sv_setIx, e_sv_setLc, e_sv_app, e_sv_ex, e_sv_loop, e_sv_pass, e_ev_var, e_ev_lit, e_ev_glb, e_ev_gix, e_ev_bin, e_ev_neg, e_ev_not, w_and, w_or, QT2_bool, QB_bool, e_ev_one, e_ev_cmp, w_cmp2, e_ev_ife, e_ev_tup, e_mkT, e_ev_lst, e_ev_frz, e_ev_rev, e_ev_dct, e_ev_mcall, e_ev_callD, e_ev_callT, e_sv_tryS, e_sv_raise, e_tbv_ex, e_tbv_set, e_tbv_ife, e_tbv_exSet, e_sv_brk, e_sv_cont, wp_catch, e_evc_none, e_evc_some, e_ev_ix, e_ev_sl, e_ev_bi, e_ev_mx2, e_ev_isi, e_ev_call, e_ev_join, e_ev_lc, e_evs_nil, e_evs_cons, e_evo_none, e_evo_some, e_evi_seq, e_evi_rng1, e_evi_rng2, e_evi_enum, e_evi_zip, env0, varD, e_b_nm, e_b_tT, e_b_tL, e_b_nil, e_b_cons, wp_bind, wp_then, wp_ok, wp_truR, wp_finP, QF_nx, QF_rt, QE1_rt, QE1_nx, QT1_bool, List.map, List.length, List.replicate, List.getElem?_cons_zero, List.getElem?_cons_succ, List.set, Nat.reduceSub, List.cons_append, List.nil_append, Nat.reduceAdd, wp_ite, e_mkLT, tru_b, seqI_L, seqI_T, pures_p, pures_nil, Option.map_some, Option.bind_some, if_true, sz_0, sz_1, sz_2, sz_3, sz_4, sz_5, sz_6, sz_7, sz_8, sz_9, sz_10, sz_11, sz_12, sz_13, sz_14, sz_15, sz_16, sz_17, sz_18, sz_19, sz_20, sz_21, sz_22, sz_23, sz_24, sz_25, sz_26, sz_27, sz_28, sz_29, sz_30, sz_31, sz_32, sz_33, sz_34, sz_35, sz_36, sz_37, sz_38, sz_39, sz_40, Bool.false_eq_true, if_false]
      rw [hg]
      exact ⟨hs, g :: r, i3, u3, hT, rfl, rfl⟩
/-! rows -/
inductive Row (hs : List Str) : PyData → Prop
  | ask (h g : Str) (n1 n2 o b : Int) (hh : h ∈ hs) (hg : g ∈ hs) (h1 : 0 ≤ n1 ∧ n1 ≤ 14) (h2 : 0 ≤ n2 ∧ n2 ≤ 14) (ho : -1000000000000 ≤ o) (hob : o ≤ b) (hb : b ≤ 1000000000000) : Row hs (.tuple [.str "ask", .str h, .int n1, .int n2, .str g, .int o, .int b])
  | job (h : Str) (n o b : Int) (hh : h ∈ hs) (h1 : 0 ≤ n ∧ n ≤ 14) (ho : -1000000000000 ≤ o) (hob : o ≤ b) (hb : b ≤ 1000000000000) : Row hs (.tuple [.str "job", .str h, .int n, .int o, .int b])
  | all (h : Str) (c1 c2 : Int) (hh : h ∈ hs) (h1 : 0 ≤ c1 ∧ c1 ≤ 15) (h2 : 0 ≤ c2 ∧ c2 ≤ 15) : Row hs (.tuple [.str "all", .str h, .int c1, .int c2])
section
variable {cs : List Int} {i : Nat} {v : Int} {ex : Store}
theorem gc_p (cs' : List Int) (j : Nat) (u : Int) : gc (pen cs i v ++ ex).length (pen cs' j u ++ ex) = pen cs' j u ++ ex := gc_pen0 (pen_len cs i v ex)
theorem town_ix (hs gs : List Str) (st : Store) : ixD (.p (townD hs gs)) (.p (.int 0)) st = .ok (.p (.tuple (hs.map .str))) st := nr rfl
theorem house_ix {hs : List Str} {x : Int} (st : Store) (h0 : 0 ≤ x) (h1 : x < (hs.map PyData.str).length) : ∃ h ∈ hs, ixD (.p (.tuple (hs.map .str))) (.p (.int x)) st = .ok (.p (.str h)) st := by
  obtain ⟨a, h, e⟩ := ixT_in st h0 h1
  obtain ⟨y, hy, rfl⟩ := List.mem_map.mp h
  exact ⟨y, hy, e⟩
theorem number_ok (k : Nat) : wpe NoX (semK defs (k + 3) 24 [.c 1] (pen cs i v ++ ex)) fun d st' => ∃ (x : Int) (j : Nat) (u : Int), 0 ≤ x ∧ x ≤ 14 ∧ d = .p (.int x) ∧ st' = pen cs j u ++ ex := by
  refine wp_sem (d := d24) rfl rfl ?_
  simp only [d24, b24, e_svs_cons, e_svs_nil, e_sv_ife, e_sv_ret, e_sv_retN, e_sv_set, e_sv_setIx, e_sv_setLc, e_sv_app, e_sv_ex, e_sv_loop, e_sv_pass, e_ev_var, e_ev_lit, e_ev_glb, e_ev_gix, e_ev_bin, e_ev_neg, e_ev_not, w_and, w_or, QT2_bool, QB_bool, e_ev_one, e_ev_cmp, w_cmp2, e_ev_ife, e_ev_tup, e_mkT, e_ev_lst, e_ev_frz, e_ev_rev, e_ev_dct, e_ev_mcall, e_ev_callD, e_ev_callT, e_sv_tryS, e_sv_raise, e_tbv_ex, e_tbv_set, e_tbv_ife, e_tbv_exSet, e_sv_brk, e_sv_cont, wp_catch, e_evc_none, e_evc_some, e_ev_ix, e_ev_sl, e_ev_bi, e_ev_mx2, e_ev_isi, e_ev_call, e_ev_join, e_ev_lc, e_evs_nil, e_evs_cons, e_evo_none, e_evo_some, e_evi_seq, e_evi_rng1, e_evi_rng2, e_evi_enum, e_evi_zip, env0, varD, e_b_nm, e_b_tT, e_b_tL, e_b_nil, e_b_cons, wp_bind, wp_then, wp_ok, wp_truR, wp_finP, QF_nx, QF_rt, QE1_rt, QE1_nx, QT1_bool, List.map, List.length, List.replicate, List.getElem?_cons_zero, List.getElem?_cons_succ, List.set, Nat.reduceSub, List.cons_append, List.nil_append, Nat.reduceAdd, wp_ite, e_mkLT, tru_b, seqI_L, seqI_T, pures_p, pures_nil, Option.map_some, Option.bind_some, if_true, sz_0, sz_1, sz_2, sz_3, sz_4, sz_5, sz_6, sz_7, sz_8, sz_9, sz_10, sz_11, sz_12, sz_13, sz_14, sz_15, sz_16, sz_17, sz_18, sz_19, sz_20, sz_21, sz_22, sz_23, sz_24, sz_25, sz_26, sz_27, sz_28, sz_29, sz_30, sz_31, sz_32, sz_33, sz_34, sz_35, sz_36, sz_37, sz_38, sz_39, sz_40]
  refine take_then k (by decide) (by decide) fun x i1 u1 x0 x1 => ?_
  simp only [e_mkL3, e_svs_cons, e_svs_nil, e_sv_ife, e_sv_ret, e_sv_retN, e_sv_set, e_sv_setIx, e_sv_setLc, e_sv_app, e_sv_ex, e_sv_loop, e_sv_pass, e_ev_var, e_ev_lit, e_ev_glb, e_ev_gix, e_ev_bin, e_ev_neg, e_ev_not, w_and, w_or, QT2_bool, QB_bool, e_ev_one, e_ev_cmp, w_cmp2, e_ev_ife, e_ev_tup, e_mkT, e_ev_lst, e_ev_frz, e_ev_rev, e_ev_dct, e_ev_mcall, e_ev_callD, e_ev_callT, e_sv_tryS, e_sv_raise, e_tbv_ex, e_tbv_set, e_tbv_ife, e_tbv_exSet, e_sv_brk, e_sv_cont, wp_catch, e_evc_none, e_evc_some, e_ev_ix, e_ev_sl, e_ev_bi, e_ev_mx2, e_ev_isi, e_ev_call, e_ev_join, e_ev_lc, e_evs_nil, e_evs_cons, e_evo_none, e_evo_some, e_evi_seq, e_evi_rng1, e_evi_rng2, e_evi_enum, e_evi_zip, env0, varD, e_b_nm, e_b_tT, e_b_tL, e_b_nil, e_b_cons, wp_bind, wp_then, wp_ok, wp_truR, wp_finP, QF_nx, QF_rt, QE1_rt, QE1_nx, QT1_bool, List.map, List.length, List.replicate, List.getElem?_cons_zero, List.getElem?_cons_succ, List.set, Nat.reduceSub, List.cons_append, List.nil_append, Nat.reduceAdd, wp_ite, e_mkLT, tru_b, seqI_L, seqI_T, pures_p, pures_nil, Option.map_some, Option.bind_some, if_true, sz_0, sz_1, sz_2, sz_3, sz_4, sz_5, sz_6, sz_7, sz_8, sz_9, sz_10, sz_11, sz_12, sz_13, sz_14, sz_15, sz_16, sz_17, sz_18, sz_19, sz_20, sz_21, sz_22, sz_23, sz_24, sz_25, sz_26, sz_27, sz_28, sz_29, sz_30, sz_31, sz_32, sz_33, sz_34, sz_35, sz_36, sz_37, sz_38, sz_39, sz_40]
  refine take_then k (by decide) (by decide) fun y i2 u2 y0 y1 => ?_
  obtain ⟨a, ha, e⟩ := ixL_in (l := [.int 0, .int 14, .int x]) (pen cs i2 u2 ++ ex) y0 y1
  rw [e, wp_ok]
  try simp only [e_svs_cons, e_svs_nil, e_sv_ife, e_sv_ret, e_sv_retN, e_sv_set, e_sv_setIx, e_sv_setLc, e_sv_app, e_sv_ex, e_sv_loop, e_sv_pass, e_ev_var, e_ev_lit, e_ev_glb, e_ev_gix, e_ev_bin, e_ev_neg, e_ev_not, w_and, w_or, QT2_bool, QB_bool, e_ev_one, e_ev_cmp, w_cmp2, e_ev_ife, e_ev_tup, e_mkT, e_ev_lst, e_ev_frz, e_ev_rev, e_ev_dct, e_ev_mcall, e_ev_callD, e_ev_callT, e_sv_tryS, e_sv_raise, e_tbv_ex, e_tbv_set, e_tbv_ife, e_tbv_exSet, e_sv_brk, e_sv_cont, wp_catch, e_evc_none, e_evc_some, e_ev_ix, e_ev_sl, e_ev_bi, e_ev_mx2, e_ev_isi, e_ev_call, e_ev_join, e_ev_lc, e_evs_nil, e_evs_cons, e_evo_none, e_evo_some, e_evi_seq, e_evi_rng1, e_evi_rng2, e_evi_enum, e_evi_zip, env0, varD, e_b_nm, e_b_tT, e_b_tL, e_b_nil, e_b_cons, wp_bind, wp_then, wp_ok, wp_truR, wp_finP, QF_nx, QF_rt, QE1_rt, QE1_nx, QT1_bool, List.map, List.length, List.replicate, List.getElem?_cons_zero, List.getElem?_cons_succ, List.set, Nat.reduceSub, List.cons_append, List.nil_append, Nat.reduceAdd, wp_ite, e_mkLT, tru_b, seqI_L, seqI_T, pures_p, pures_nil, Option.map_some, Option.bind_some, if_true, sz_0, sz_1, sz_2, sz_3, sz_4, sz_5, sz_6, sz_7, sz_8, sz_9, sz_10, sz_11, sz_12, sz_13, sz_14, sz_15, sz_16, sz_17, sz_18, sz_19, sz_20, sz_21, sz_22, sz_23, sz_24, sz_25, sz_26, sz_27, sz_28, sz_29, sz_30, sz_31, sz_32, sz_33, sz_34, sz_35, sz_36, sz_37, sz_38, sz_39, sz_40]
  rw [gc_p]
  simp only [List.mem_cons, List.not_mem_nil, or_false] at ha
  rcases ha with rfl | rfl | rfl
  · exact ⟨_, _, _, by decide, by decide, rfl, rfl⟩
  · exact ⟨_, _, _, by decide, by decide, rfl, rfl⟩
  · exact ⟨_, _, _, x0, by omega, rfl, rfl⟩
theorem number_then (k : Nat) {Q : D → Store → Prop} (h : ∀ (x : Int) (j : Nat) (u : Int), 0 ≤ x → x ≤ 14 → Q (.p (.int x)) (pen cs j u ++ ex)) : wpe NoX (semK defs (k + 3) 24 [.c 1] (pen cs i v ++ ex)) Q :=
  wp_mono (number_ok k) (by rintro _ _ ⟨x, j, u, h0, h1, rfl, rfl⟩; exact h x j u h0 h1)
theorem times_then (k : Nat) {Q : D → Store → Prop} (h : ∀ (x y : Int) (j : Nat) (u : Int), -1000000000000 ≤ x → x ≤ y → y ≤ 1000000000000 → Q (.p (.list [.int x, .int y])) (pen cs j u ++ ex)) :
    wpe NoX (semK defs (k + 3) 25 [.c 1] (pen cs i v ++ ex)) Q := by
  refine wp_sem (d := d25) rfl rfl ?_
  simp only [d25, b25, e_svs_cons, e_svs_nil, e_sv_ife, e_sv_ret, e_sv_retN, e_sv_set, e_sv_setIx, e_sv_setLc, e_sv_app, e_sv_ex, e_sv_loop, e_sv_pass, e_ev_var, e_ev_lit, e_ev_glb, e_ev_gix, e_ev_bin, e_ev_neg, e_ev_not, w_and, w_or, QT2_bool, QB_bool, e_ev_one, e_ev_cmp, w_cmp2, e_ev_ife, e_ev_tup, e_mkT, e_ev_lst, e_ev_frz, e_ev_rev, e_ev_dct, e_ev_mcall, e_ev_callD, e_ev_callT, e_sv_tryS, e_sv_raise, e_tbv_ex, e_tbv_set, e_tbv_ife, e_tbv_exSet, e_sv_brk, e_sv_cont, wp_catch, e_evc_none, e_evc_some, e_ev_ix, e_ev_sl, e_ev_bi, e_ev_mx2, e_ev_isi, e_ev_call, e_ev_join, e_ev_lc, e_evs_nil, e_evs_cons, e_evo_none, e_evo_some, e_evi_seq, e_evi_rng1, e_evi_rng2, e_evi_enum, e_evi_zip, env0, varD, e_b_nm, e_b_tT, e_b_tL, e_b_nil, e_b_cons, wp_bind, wp_then, wp_ok, wp_truR, wp_finP, QF_nx, QF_rt, QE1_rt, QE1_nx, QT1_bool, List.map, List.length, List.replicate, List.getElem?_cons_zero, List.getElem?_cons_succ, List.set, Nat.reduceSub, List.cons_append, List.nil_append, Nat.reduceAdd, wp_ite, e_mkLT, tru_b, seqI_L, seqI_T, pures_p, pures_nil, Option.map_some, Option.bind_some, if_true, sz_0, sz_1, sz_2, sz_3, sz_4, sz_5, sz_6, sz_7, sz_8, sz_9, sz_10, sz_11, sz_12, sz_13, sz_14, sz_15, sz_16, sz_17, sz_18, sz_19, sz_20, sz_21, sz_22, sz_23, sz_24, sz_25, sz_26, sz_27, sz_28, sz_29, sz_30, sz_31, sz_32, sz_33, sz_34, sz_35, sz_36, sz_37, sz_38, sz_39, sz_40, e_pow12, e_mul, e_add, e_sub]
  rw [if_pos (mulOk_l (by decide))]
  refine take_then k (by decide) (by decide) fun x1 i1 u1 a0 a1 => ?_
  try simp only [e_svs_cons, e_svs_nil, e_sv_ife, e_sv_ret, e_sv_retN, e_sv_set, e_sv_setIx, e_sv_setLc, e_sv_app, e_sv_ex, e_sv_loop, e_sv_pass, e_ev_var, e_ev_lit, e_ev_glb, e_ev_gix, e_ev_bin, e_ev_neg, e_ev_not, w_and, w_or, QT2_bool, QB_bool, e_ev_one, e_ev_cmp, w_cmp2, e_ev_ife, e_ev_tup, e_mkT, e_ev_lst, e_ev_frz, e_ev_rev, e_ev_dct, e_ev_mcall, e_ev_callD, e_ev_callT, e_sv_tryS, e_sv_raise, e_tbv_ex, e_tbv_set, e_tbv_ife, e_tbv_exSet, e_sv_brk, e_sv_cont, wp_catch, e_evc_none, e_evc_some, e_ev_ix, e_ev_sl, e_ev_bi, e_ev_mx2, e_ev_isi, e_ev_call, e_ev_join, e_ev_lc, e_evs_nil, e_evs_cons, e_evo_none, e_evo_some, e_evi_seq, e_evi_rng1, e_evi_rng2, e_evi_enum, e_evi_zip, env0, varD, e_b_nm, e_b_tT, e_b_tL, e_b_nil, e_b_cons, wp_bind, wp_then, wp_ok, wp_truR, wp_finP, QF_nx, QF_rt, QE1_rt, QE1_nx, QT1_bool, List.map, List.length, List.replicate, List.getElem?_cons_zero, List.getElem?_cons_succ, List.set, Nat.reduceSub, List.cons_append, List.nil_append, Nat.reduceAdd, wp_ite, e_mkLT, tru_b, seqI_L, seqI_T, pures_p, pures_nil, Option.map_some, Option.bind_some, if_true, sz_0, sz_1, sz_2, sz_3, sz_4, sz_5, sz_6, sz_7, sz_8, sz_9, sz_10, sz_11, sz_12, sz_13, sz_14, sz_15, sz_16, sz_17, sz_18, sz_19, sz_20, sz_21, sz_22, sz_23, sz_24, sz_25, sz_26, sz_27, sz_28, sz_29, sz_30, sz_31, sz_32, sz_33, sz_34, sz_35, sz_36, sz_37, sz_38, sz_39, sz_40, e_sub]
  refine take_then k (by decide) (by decide) fun x2 i2 u2 b0 b1 => ?_
  have hm : ∀ (st : Store), mkL false [.p (.int (x1 - 1000000000000)), .p (.int x2), .p (.int 1000000000000), .p (.int (0 - 1000000000000))] st = .ok (.p (.list [.int (x1 - 1000000000000), .int x2, .int 1000000000000, .int (0 - 1000000000000)])) st := fun st => e_mkLF [_, _, _, _] st
  try simp only [e_svs_cons, e_svs_nil, e_sv_ife, e_sv_ret, e_sv_retN, e_sv_set, e_sv_setIx, e_sv_setLc, e_sv_app, e_sv_ex, e_sv_loop, e_sv_pass, e_ev_var, e_ev_lit, e_ev_glb, e_ev_gix, e_ev_bin, e_ev_neg, e_ev_not, w_and, w_or, QT2_bool, QB_bool, e_ev_one, e_ev_cmp, w_cmp2, e_ev_ife, e_ev_tup, e_mkT, e_ev_lst, e_ev_frz, e_ev_rev, e_ev_dct, e_ev_mcall, e_ev_callD, e_ev_callT, e_sv_tryS, e_sv_raise, e_tbv_ex, e_tbv_set, e_tbv_ife, e_tbv_exSet, e_sv_brk, e_sv_cont, wp_catch, e_evc_none, e_evc_some, e_ev_ix, e_ev_sl, e_ev_bi, e_ev_mx2, e_ev_isi, e_ev_call, e_ev_join, e_ev_lc, e_evs_nil, e_evs_cons, e_evo_none, e_evo_some, e_evi_seq, e_evi_rng1, e_evi_rng2, e_evi_enum, e_evi_zip, env0, varD, e_b_nm, e_b_tT, e_b_tL, e_b_nil, e_b_cons, wp_bind, wp_then, wp_ok, wp_truR, wp_finP, QF_nx, QF_rt, QE1_rt, QE1_nx, QT1_bool, List.map, List.length, List.replicate, List.getElem?_cons_zero, List.getElem?_cons_succ, List.set, Nat.reduceSub, List.cons_append, List.nil_append, Nat.reduceAdd, wp_ite, e_mkLT, tru_b, seqI_L, seqI_T, pures_p, pures_nil, Option.map_some, Option.bind_some, if_true, sz_0, sz_1, sz_2, sz_3, sz_4, sz_5, sz_6, sz_7, sz_8, sz_9, sz_10, sz_11, sz_12, sz_13, sz_14, sz_15, sz_16, sz_17, sz_18, sz_19, sz_20, sz_21, sz_22, sz_23, sz_24, sz_25, sz_26, sz_27, sz_28, sz_29, sz_30, sz_31, sz_32, sz_33, sz_34, sz_35, sz_36, sz_37, sz_38, sz_39, sz_40, hm]
  have bd : ∀ a ∈ [PyData.int (x1 - 1000000000000), .int x2, .int 1000000000000, .int (0 - 1000000000000)], ∃ z : Int, a = .int z ∧ -1000000000000 ≤ z ∧ z ≤ 1000000000000 := by
    intro a ha
    simp only [List.mem_cons, List.not_mem_nil, or_false] at ha
    rcases ha with rfl | rfl | rfl | rfl
    · exact ⟨_, rfl, by omega, by omega⟩
    · exact ⟨_, rfl, by omega, by omega⟩
    · exact ⟨_, rfl, by omega, by omega⟩
    · exact ⟨_, rfl, by omega, by omega⟩
  refine take_then k (by decide) (by decide) fun p i3 u3 p0 p1 => ?_
  obtain ⟨a, ha, ea⟩ := ixL_in (l := [.int (x1 - 1000000000000), .int x2, .int 1000000000000, .int (0 - 1000000000000)]) (pen cs i3 u3 ++ ex) p0 p1
  rw [ea, wp_ok]
  refine take_then k (by decide) (by decide) fun q i4 u4 q0 q1 => ?_
  obtain ⟨b, hb, eb⟩ := ixL_in (l := [.int (x1 - 1000000000000), .int x2, .int 1000000000000, .int (0 - 1000000000000)]) (pen cs i4 u4 ++ ex) q0 q1
  rw [eb, wp_ok]
  obtain ⟨z1, rfl, z2, z3⟩ := bd a ha
  obtain ⟨z4, rfl, z5, z6⟩ := bd b hb
  obtain ⟨x, y, hxy, hx, hy, e⟩ := e_sorted2 z1 z4 (pen cs i4 u4 ++ ex)
  try simp only [e_svs_cons, e_svs_nil, e_sv_ife, e_sv_ret, e_sv_retN, e_sv_set, e_sv_setIx, e_sv_setLc, e_sv_app, e_sv_ex, e_sv_loop, e_sv_pass, e_ev_var, e_ev_lit, e_ev_glb, e_ev_gix, e_ev_bin, e_ev_neg, e_ev_not, w_and, w_or, QT2_bool, QB_bool, e_ev_one, e_ev_cmp, w_cmp2, e_ev_ife, e_ev_tup, e_mkT, e_ev_lst, e_ev_frz, e_ev_rev, e_ev_dct, e_ev_mcall, e_ev_callD, e_ev_callT, e_sv_tryS, e_sv_raise, e_tbv_ex, e_tbv_set, e_tbv_ife, e_tbv_exSet, e_sv_brk, e_sv_cont, wp_catch, e_evc_none, e_evc_some, e_ev_ix, e_ev_sl, e_ev_bi, e_ev_mx2, e_ev_isi, e_ev_call, e_ev_join, e_ev_lc, e_evs_nil, e_evs_cons, e_evo_none, e_evo_some, e_evi_seq, e_evi_rng1, e_evi_rng2, e_evi_enum, e_evi_zip, env0, varD, e_b_nm, e_b_tT, e_b_tL, e_b_nil, e_b_cons, wp_bind, wp_then, wp_ok, wp_truR, wp_finP, QF_nx, QF_rt, QE1_rt, QE1_nx, QT1_bool, List.map, List.length, List.replicate, List.getElem?_cons_zero, List.getElem?_cons_succ, List.set, Nat.reduceSub, List.cons_append, List.nil_append, Nat.reduceAdd, wp_ite, e_mkLT, tru_b, seqI_L, seqI_T, pures_p, pures_nil, Option.map_some, Option.bind_some, if_true, sz_0, sz_1, sz_2, sz_3, sz_4, sz_5, sz_6, sz_7, sz_8, sz_9, sz_10, sz_11, sz_12, sz_13, sz_14, sz_15, sz_16, sz_17, sz_18, sz_19, sz_20, sz_21, sz_22, sz_23, sz_24, sz_25, sz_26, sz_27, sz_28, sz_29, sz_30, sz_31, sz_32, sz_33, sz_34, sz_35, sz_36, sz_37, sz_38, sz_39, sz_40, e_mkL2, e]
  rw [gc_p]
  exact h x y i4 u4 (by rcases hx with rfl | rfl <;> assumption) hxy (by rcases hy with rfl | rfl <;> assumption)
end
section
variable {cs : List Int} {i : Nat} {v : Int} {ex : Store}
theorem any_then (k : Nat) {m : Nat} {hs gs : List Str} (T : Town m hs gs) (hm : m ≤ 10) {Q : D → Store → Prop} (h : ∀ (x : PyData) (j : Nat) (u : Int), Row hs x → Q (.p x) (pen cs j u ++ ex)) :
    wpe NoX (semK defs (k + 4) 26 [.c 1, .p (townD hs gs)] (pen cs i v ++ ex)) Q := by
  refine wp_sem (d := d26) rfl rfl ?_
  have hl := T.ne
  have hlm : (hs.map PyData.str).length = hs.length := List.length_map _
  simp only [d26, b26, e_svs_cons, e_svs_nil, e_sv_ife, e_sv_ret, e_sv_retN, e_sv_set, e_sv_setIx, e_sv_setLc, e_sv_app, e_sv_ex, e_sv_loop, e_sv_pass, e_ev_var, e_ev_lit, e_ev_glb, e_ev_gix, e_ev_bin, e_ev_neg, e_ev_not, w_and, w_or, QT2_bool, QB_bool, e_ev_one, e_ev_cmp, w_cmp2, e_ev_ife, e_ev_tup, e_mkT, e_ev_lst, e_ev_frz, e_ev_rev, e_ev_dct, e_ev_mcall, e_ev_callD, e_ev_callT, e_sv_tryS, e_sv_raise, e_tbv_ex, e_tbv_set, e_tbv_ife, e_tbv_exSet, e_sv_brk, e_sv_cont, wp_catch, e_evc_none, e_evc_some, e_ev_ix, e_ev_sl, e_ev_bi, e_ev_mx2, e_ev_isi, e_ev_call, e_ev_join, e_ev_lc, e_evs_nil, e_evs_cons, e_evo_none, e_evo_some, e_evi_seq, e_evi_rng1, e_evi_rng2, e_evi_enum, e_evi_zip, env0, varD, e_b_nm, e_b_tT, e_b_tL, e_b_nil, e_b_cons, wp_bind, wp_then, wp_ok, wp_truR, wp_finP, QF_nx, QF_rt, QE1_rt, QE1_nx, QT1_bool, List.map, List.length, List.replicate, List.getElem?_cons_zero, List.getElem?_cons_succ, List.set, Nat.reduceSub, List.cons_append, List.nil_append, Nat.reduceAdd, wp_ite, e_mkLT, tru_b, seqI_L, seqI_T, pures_p, pures_nil, Option.map_some, Option.bind_some, if_true, sz_0, sz_1, sz_2, sz_3, sz_4, sz_5, sz_6, sz_7, sz_8, sz_9, sz_10, sz_11, sz_12, sz_13, sz_14, sz_15, sz_16, sz_17, sz_18, sz_19, sz_20, sz_21, sz_22, sz_23, sz_24, sz_25, sz_26, sz_27, sz_28, sz_29, sz_30, sz_31, sz_32, sz_33, sz_34, sz_35, sz_36, sz_37, sz_38, sz_39, sz_40, town_ix, e_lenT]
  refine take_then (k + 1) (by omega) (by omega) fun x i1 u1 x0 x1 => ?_
  obtain ⟨h1, hh1, e1⟩ := house_ix (pen cs i1 u1 ++ ex) x0 x1
  rw [e1, wp_ok]
  refine take_then (k + 1) (by decide) (by decide) fun w i2 u2 w0 w1 => ?_
  try simp only [e_svs_cons, e_svs_nil, e_sv_ife, e_sv_ret, e_sv_retN, e_sv_set, e_sv_setIx, e_sv_setLc, e_sv_app, e_sv_ex, e_sv_loop, e_sv_pass, e_ev_var, e_ev_lit, e_ev_glb, e_ev_gix, e_ev_bin, e_ev_neg, e_ev_not, w_and, w_or, QT2_bool, QB_bool, e_ev_one, e_ev_cmp, w_cmp2, e_ev_ife, e_ev_tup, e_mkT, e_ev_lst, e_ev_frz, e_ev_rev, e_ev_dct, e_ev_mcall, e_ev_callD, e_ev_callT, e_sv_tryS, e_sv_raise, e_tbv_ex, e_tbv_set, e_tbv_ife, e_tbv_exSet, e_sv_brk, e_sv_cont, wp_catch, e_evc_none, e_evc_some, e_ev_ix, e_ev_sl, e_ev_bi, e_ev_mx2, e_ev_isi, e_ev_call, e_ev_join, e_ev_lc, e_evs_nil, e_evs_cons, e_evo_none, e_evo_some, e_evi_seq, e_evi_rng1, e_evi_rng2, e_evi_enum, e_evi_zip, env0, varD, e_b_nm, e_b_tT, e_b_tL, e_b_nil, e_b_cons, wp_bind, wp_then, wp_ok, wp_truR, wp_finP, QF_nx, QF_rt, QE1_rt, QE1_nx, QT1_bool, List.map, List.length, List.replicate, List.getElem?_cons_zero, List.getElem?_cons_succ, List.set, Nat.reduceSub, List.cons_append, List.nil_append, Nat.reduceAdd, wp_ite, e_mkLT, tru_b, seqI_L, seqI_T, pures_p, pures_nil, Option.map_some, Option.bind_some, if_true, sz_0, sz_1, sz_2, sz_3, sz_4, sz_5, sz_6, sz_7, sz_8, sz_9, sz_10, sz_11, sz_12, sz_13, sz_14, sz_15, sz_16, sz_17, sz_18, sz_19, sz_20, sz_21, sz_22, sz_23, sz_24, sz_25, sz_26, sz_27, sz_28, sz_29, sz_30, sz_31, sz_32, sz_33, sz_34, sz_35, sz_36, sz_37, sz_38, sz_39, sz_40]
  refine times_then k fun o b i3 u3 ho hob hb => ?_
  try simp only [e_svs_cons, e_svs_nil, e_sv_ife, e_sv_ret, e_sv_retN, e_sv_set, e_sv_setIx, e_sv_setLc, e_sv_app, e_sv_ex, e_sv_loop, e_sv_pass, e_ev_var, e_ev_lit, e_ev_glb, e_ev_gix, e_ev_bin, e_ev_neg, e_ev_not, w_and, w_or, QT2_bool, QB_bool, e_ev_one, e_ev_cmp, w_cmp2, e_ev_ife, e_ev_tup, e_mkT, e_ev_lst, e_ev_frz, e_ev_rev, e_ev_dct, e_ev_mcall, e_ev_callD, e_ev_callT, e_sv_tryS, e_sv_raise, e_tbv_ex, e_tbv_set, e_tbv_ife, e_tbv_exSet, e_sv_brk, e_sv_cont, wp_catch, e_evc_none, e_evc_some, e_ev_ix, e_ev_sl, e_ev_bi, e_ev_mx2, e_ev_isi, e_ev_call, e_ev_join, e_ev_lc, e_evs_nil, e_evs_cons, e_evo_none, e_evo_some, e_evi_seq, e_evi_rng1, e_evi_rng2, e_evi_enum, e_evi_zip, env0, varD, e_b_nm, e_b_tT, e_b_tL, e_b_nil, e_b_cons, wp_bind, wp_then, wp_ok, wp_truR, wp_finP, QF_nx, QF_rt, QE1_rt, QE1_nx, QT1_bool, List.map, List.length, List.replicate, List.getElem?_cons_zero, List.getElem?_cons_succ, List.set, Nat.reduceSub, List.cons_append, List.nil_append, Nat.reduceAdd, wp_ite, e_mkLT, tru_b, seqI_L, seqI_T, pures_p, pures_nil, Option.map_some, Option.bind_some, if_true, sz_0, sz_1, sz_2, sz_3, sz_4, sz_5, sz_6, sz_7, sz_8, sz_9, sz_10, sz_11, sz_12, sz_13, sz_14, sz_15, sz_16, sz_17, sz_18, sz_19, sz_20, sz_21, sz_22, sz_23, sz_24, sz_25, sz_26, sz_27, sz_28, sz_29, sz_30, sz_31, sz_32, sz_33, sz_34, sz_35, sz_36, sz_37, sz_38, sz_39, sz_40, e_eqi, town_ix, e_lenT, e_add]
  split
  · refine take_then (k + 1) (by omega) (by omega) fun x i1 u1 x0 x1 => ?_
    obtain ⟨h2, hh2, e2⟩ := house_ix (pen cs i1 u1 ++ ex) x0 x1
    rw [e2, wp_ok]
    try simp only [e_svs_cons, e_svs_nil, e_sv_ife, e_sv_ret, e_sv_retN, e_sv_set, e_sv_setIx, e_sv_setLc, e_sv_app, e_sv_ex, e_sv_loop, e_sv_pass, e_ev_var, e_ev_lit, e_ev_glb, e_ev_gix, e_ev_bin, e_ev_neg, e_ev_not, w_and, w_or, QT2_bool, QB_bool, e_ev_one, e_ev_cmp, w_cmp2, e_ev_ife, e_ev_tup, e_mkT, e_ev_lst, e_ev_frz, e_ev_rev, e_ev_dct, e_ev_mcall, e_ev_callD, e_ev_callT, e_sv_tryS, e_sv_raise, e_tbv_ex, e_tbv_set, e_tbv_ife, e_tbv_exSet, e_sv_brk, e_sv_cont, wp_catch, e_evc_none, e_evc_some, e_ev_ix, e_ev_sl, e_ev_bi, e_ev_mx2, e_ev_isi, e_ev_call, e_ev_join, e_ev_lc, e_evs_nil, e_evs_cons, e_evo_none, e_evo_some, e_evi_seq, e_evi_rng1, e_evi_rng2, e_evi_enum, e_evi_zip, env0, varD, e_b_nm, e_b_tT, e_b_tL, e_b_nil, e_b_cons, wp_bind, wp_then, wp_ok, wp_truR, wp_finP, QF_nx, QF_rt, QE1_rt, QE1_nx, QT1_bool, List.map, List.length, List.replicate, List.getElem?_cons_zero, List.getElem?_cons_succ, List.set, Nat.reduceSub, List.cons_append, List.nil_append, Nat.reduceAdd, wp_ite, e_mkLT, tru_b, seqI_L, seqI_T, pures_p, pures_nil, Option.map_some, Option.bind_some, if_true, sz_0, sz_1, sz_2, sz_3, sz_4, sz_5, sz_6, sz_7, sz_8, sz_9, sz_10, sz_11, sz_12, sz_13, sz_14, sz_15, sz_16, sz_17, sz_18, sz_19, sz_20, sz_21, sz_22, sz_23, sz_24, sz_25, sz_26, sz_27, sz_28, sz_29, sz_30, sz_31, sz_32, sz_33, sz_34, sz_35, sz_36, sz_37, sz_38, sz_39, sz_40]
    refine number_then k fun n1 i4 u4 a0 a1 => ?_
    refine number_then k fun n2 i5 u5 b0 b1 => ?_
    try simp only [e_svs_cons, e_svs_nil, e_sv_ife, e_sv_ret, e_sv_retN, e_sv_set, e_sv_setIx, e_sv_setLc, e_sv_app, e_sv_ex, e_sv_loop, e_sv_pass, e_ev_var, e_ev_lit, e_ev_glb, e_ev_gix, e_ev_bin, e_ev_neg, e_ev_not, w_and, w_or, QT2_bool, QB_bool, e_ev_one, e_ev_cmp, w_cmp2, e_ev_ife, e_ev_tup, e_mkT, e_ev_lst, e_ev_frz, e_ev_rev, e_ev_dct, e_ev_mcall, e_ev_callD, e_ev_callT, e_sv_tryS, e_sv_raise, e_tbv_ex, e_tbv_set, e_tbv_ife, e_tbv_exSet, e_sv_brk, e_sv_cont, wp_catch, e_evc_none, e_evc_some, e_ev_ix, e_ev_sl, e_ev_bi, e_ev_mx2, e_ev_isi, e_ev_call, e_ev_join, e_ev_lc, e_evs_nil, e_evs_cons, e_evo_none, e_evo_some, e_evi_seq, e_evi_rng1, e_evi_rng2, e_evi_enum, e_evi_zip, env0, varD, e_b_nm, e_b_tT, e_b_tL, e_b_nil, e_b_cons, wp_bind, wp_then, wp_ok, wp_truR, wp_finP, QF_nx, QF_rt, QE1_rt, QE1_nx, QT1_bool, List.map, List.length, List.replicate, List.getElem?_cons_zero, List.getElem?_cons_succ, List.set, Nat.reduceSub, List.cons_append, List.nil_append, Nat.reduceAdd, wp_ite, e_mkLT, tru_b, seqI_L, seqI_T, pures_p, pures_nil, Option.map_some, Option.bind_some, if_true, sz_0, sz_1, sz_2, sz_3, sz_4, sz_5, sz_6, sz_7, sz_8, sz_9, sz_10, sz_11, sz_12, sz_13, sz_14, sz_15, sz_16, sz_17, sz_18, sz_19, sz_20, sz_21, sz_22, sz_23, sz_24, sz_25, sz_26, sz_27, sz_28, sz_29, sz_30, sz_31, sz_32, sz_33, sz_34, sz_35, sz_36, sz_37, sz_38, sz_39, sz_40]
    rw [gc_p]
    exact h _ _ _ (.ask h1 h2 n1 n2 o b hh1 hh2 ⟨a0, a1⟩ ⟨b0, b1⟩ ho hob hb)
  · split
    · refine number_then k fun n1 i4 u4 a0 a1 => ?_
      try simp only [e_svs_cons, e_svs_nil, e_sv_ife, e_sv_ret, e_sv_retN, e_sv_set, e_sv_setIx, e_sv_setLc, e_sv_app, e_sv_ex, e_sv_loop, e_sv_pass, e_ev_var, e_ev_lit, e_ev_glb, e_ev_gix, e_ev_bin, e_ev_neg, e_ev_not, w_and, w_or, QT2_bool, QB_bool, e_ev_one, e_ev_cmp, w_cmp2, e_ev_ife, e_ev_tup, e_mkT, e_ev_lst, e_ev_frz, e_ev_rev, e_ev_dct, e_ev_mcall, e_ev_callD, e_ev_callT, e_sv_tryS, e_sv_raise, e_tbv_ex, e_tbv_set, e_tbv_ife, e_tbv_exSet, e_sv_brk, e_sv_cont, wp_catch, e_evc_none, e_evc_some, e_ev_ix, e_ev_sl, e_ev_bi, e_ev_mx2, e_ev_isi, e_ev_call, e_ev_join, e_ev_lc, e_evs_nil, e_evs_cons, e_evo_none, e_evo_some, e_evi_seq, e_evi_rng1, e_evi_rng2, e_evi_enum, e_evi_zip, env0, varD, e_b_nm, e_b_tT, e_b_tL, e_b_nil, e_b_cons, wp_bind, wp_then, wp_ok, wp_truR, wp_finP, QF_nx, QF_rt, QE1_rt, QE1_nx, QT1_bool, List.map, List.length, List.replicate, List.getElem?_cons_zero, List.getElem?_cons_succ, List.set, Nat.reduceSub, List.cons_append, List.nil_append, Nat.reduceAdd, wp_ite, e_mkLT, tru_b, seqI_L, seqI_T, pures_p, pures_nil, Option.map_some, Option.bind_some, if_true, sz_0, sz_1, sz_2, sz_3, sz_4, sz_5, sz_6, sz_7, sz_8, sz_9, sz_10, sz_11, sz_12, sz_13, sz_14, sz_15, sz_16, sz_17, sz_18, sz_19, sz_20, sz_21, sz_22, sz_23, sz_24, sz_25, sz_26, sz_27, sz_28, sz_29, sz_30, sz_31, sz_32, sz_33, sz_34, sz_35, sz_36, sz_37, sz_38, sz_39, sz_40]
      rw [gc_p]
      exact h _ _ _ (.job h1 n1 o b hh1 ⟨a0, a1⟩ ho hob hb)
    · refine number_then k fun n1 i4 u4 a0 a1 => ?_
      refine take_then (k + 1) (by decide) (by decide) fun c1 i5 u5 c0 c1' => ?_
      try simp only [e_svs_cons, e_svs_nil, e_sv_ife, e_sv_ret, e_sv_retN, e_sv_set, e_sv_setIx, e_sv_setLc, e_sv_app, e_sv_ex, e_sv_loop, e_sv_pass, e_ev_var, e_ev_lit, e_ev_glb, e_ev_gix, e_ev_bin, e_ev_neg, e_ev_not, w_and, w_or, QT2_bool, QB_bool, e_ev_one, e_ev_cmp, w_cmp2, e_ev_ife, e_ev_tup, e_mkT, e_ev_lst, e_ev_frz, e_ev_rev, e_ev_dct, e_ev_mcall, e_ev_callD, e_ev_callT, e_sv_tryS, e_sv_raise, e_tbv_ex, e_tbv_set, e_tbv_ife, e_tbv_exSet, e_sv_brk, e_sv_cont, wp_catch, e_evc_none, e_evc_some, e_ev_ix, e_ev_sl, e_ev_bi, e_ev_mx2, e_ev_isi, e_ev_call, e_ev_join, e_ev_lc, e_evs_nil, e_evs_cons, e_evo_none, e_evo_some, e_evi_seq, e_evi_rng1, e_evi_rng2, e_evi_enum, e_evi_zip, env0, varD, e_b_nm, e_b_tT, e_b_tL, e_b_nil, e_b_cons, wp_bind, wp_then, wp_ok, wp_truR, wp_finP, QF_nx, QF_rt, QE1_rt, QE1_nx, QT1_bool, List.map, List.length, List.replicate, List.getElem?_cons_zero, List.getElem?_cons_succ, List.set, Nat.reduceSub, List.cons_append, List.nil_append, Nat.reduceAdd, wp_ite, e_mkLT, tru_b, seqI_L, seqI_T, pures_p, pures_nil, Option.map_some, Option.bind_some, if_true, sz_0, sz_1, sz_2, sz_3, sz_4, sz_5, sz_6, sz_7, sz_8, sz_9, sz_10, sz_11, sz_12, sz_13, sz_14, sz_15, sz_16, sz_17, sz_18, sz_19, sz_20, sz_21, sz_22, sz_23, sz_24, sz_25, sz_26, sz_27, sz_28, sz_29, sz_30, sz_31, sz_32, sz_33, sz_34, sz_35, sz_36, sz_37, sz_38, sz_39, sz_40, e_add]
      refine number_then k fun n2 i6 u6 b0 b1 => ?_
      refine take_then (k + 1) (by decide) (by decide) fun c2 i7 u7 d0 d1 => ?_
      try simp only [e_svs_cons, e_svs_nil, e_sv_ife, e_sv_ret, e_sv_retN, e_sv_set, e_sv_setIx, e_sv_setLc, e_sv_app, e_sv_ex, e_sv_loop, e_sv_pass, e_ev_var, e_ev_lit, e_ev_glb, e_ev_gix, e_ev_bin, e_ev_neg, e_ev_not, w_and, w_or, QT2_bool, QB_bool, e_ev_one, e_ev_cmp, w_cmp2, e_ev_ife, e_ev_tup, e_mkT, e_ev_lst, e_ev_frz, e_ev_rev, e_ev_dct, e_ev_mcall, e_ev_callD, e_ev_callT, e_sv_tryS, e_sv_raise, e_tbv_ex, e_tbv_set, e_tbv_ife, e_tbv_exSet, e_sv_brk, e_sv_cont, wp_catch, e_evc_none, e_evc_some, e_ev_ix, e_ev_sl, e_ev_bi, e_ev_mx2, e_ev_isi, e_ev_call, e_ev_join, e_ev_lc, e_evs_nil, e_evs_cons, e_evo_none, e_evo_some, e_evi_seq, e_evi_rng1, e_evi_rng2, e_evi_enum, e_evi_zip, env0, varD, e_b_nm, e_b_tT, e_b_tL, e_b_nil, e_b_cons, wp_bind, wp_then, wp_ok, wp_truR, wp_finP, QF_nx, QF_rt, QE1_rt, QE1_nx, QT1_bool, List.map, List.length, List.replicate, List.getElem?_cons_zero, List.getElem?_cons_succ, List.set, Nat.reduceSub, List.cons_append, List.nil_append, Nat.reduceAdd, wp_ite, e_mkLT, tru_b, seqI_L, seqI_T, pures_p, pures_nil, Option.map_some, Option.bind_some, if_true, sz_0, sz_1, sz_2, sz_3, sz_4, sz_5, sz_6, sz_7, sz_8, sz_9, sz_10, sz_11, sz_12, sz_13, sz_14, sz_15, sz_16, sz_17, sz_18, sz_19, sz_20, sz_21, sz_22, sz_23, sz_24, sz_25, sz_26, sz_27, sz_28, sz_29, sz_30, sz_31, sz_32, sz_33, sz_34, sz_35, sz_36, sz_37, sz_38, sz_39, sz_40, e_add]
      rw [gc_p]
      exact h _ _ _ (.all h1 (n1 + c1) (n2 + c2) hh1 (by omega) (by omega))
end
/-! what a row is: the program's way -/
structure Sm (x : PyData) : Prop where
  pl : x.plain = true
  dp : x.depth ≤ 20
  sh : ∀ z, x = .str z → z.length ≤ 1000
def okH (hs : List Str) : PyData → Bool
  | .str z => hs.contains z
  | _ => false
def okB (lo hi : Int) : PyData → Bool
  | .int n => decide (lo ≤ n) && decide (n ≤ hi)
  | _ => false
def leI : PyData → PyData → Bool
  | .int a, .int b => decide (a ≤ b)
  | _, _ => false
def askB (hs : List Str) : List PyData → Bool
  | [a, b, c, d, e, f] => okH hs a && (okH hs d && (okB 0 14 b && (okB 0 14 c && (okB (-1000000000000) 1000000000000 e && (okB (-1000000000000) 1000000000000 f && leI e f)))))
  | _ => false
def jobB (hs : List Str) : List PyData → Bool
  | [a, b, c, d] => okH hs a && (okB 0 14 b && (okB (-1000000000000) 1000000000000 c && (okB (-1000000000000) 1000000000000 d && leI c d)))
  | _ => false
def allB (hs : List Str) : List PyData → Bool
  | [a, b, c] => okH hs a && (okB 0 15 b && okB 0 15 c)
  | _ => false
def rowB (hs : List Str) : PyData → Bool
  | .tuple (.str w :: r) => if w == "ask" then askB hs r else if w == "job" then jobB hs r else (w == "all") && allB hs r
  | _ => false
structure House (z : Str) : Prop where
  lo : 1 ≤ z.length
  hi : z.length ≤ 8
  ab : ∀ c ∈ z.cps.toList, isL c
theorem six {α : Type} : ∀ {r : List α}, r.length = 6 → ∃ a b c d e f, r = [a, b, c, d, e, f]
  | [a, b, c, d, e, f], _ => ⟨a, b, c, d, e, f, rfl⟩
theorem four {α : Type} : ∀ {r : List α}, r.length = 4 → ∃ a b c d, r = [a, b, c, d]
  | [a, b, c, d], _ => ⟨a, b, c, d, rfl⟩
theorem three {α : Type} : ∀ {r : List α}, r.length = 3 → ∃ a b c, r = [a, b, c]
  | [a, b, c], _ => ⟨a, b, c, rfl⟩
theorem askB_no {hs : List Str} {r : List PyData} (h : r.length ≠ 6) : askB hs r = false := by
  unfold askB
  split
  · exact absurd rfl h
  · rfl
theorem jobB_no {hs : List Str} {r : List PyData} (h : r.length ≠ 4) : jobB hs r = false := by
  unfold jobB
  split
  · exact absurd rfl h
  · rfl
theorem allB_no {hs : List Str} {r : List PyData} (h : r.length ≠ 3) : allB hs r = false := by
  unfold allB
  split
  · exact absurd rfl h
  · rfl
theorem between_then (k : Nat) {x : PyData} (hp : x.plain = true) (lo hi : Int) {st : Store} {X : Exc → Store → Prop} {Q : D → Store → Prop} (h : Q (.p (.bool (okB lo hi x))) st) : wpe X (semK defs (k + 1) 0 [.p x, .p (.int lo), .p (.int hi)] st) Q := by
  refine wp_sem (d := d0) rfl rfl ?_
  simp only [d0, b0, e_svs_cons, e_svs_nil, e_sv_ife, e_sv_ret, e_sv_retN, e_sv_set, e_sv_setIx, e_sv_setLc, e_sv_app, e_sv_ex, e_sv_loop, e_sv_pass, e_ev_var, e_ev_lit, e_ev_glb, e_ev_gix, e_ev_bin, e_ev_neg, e_ev_not, w_and, w_or, QT2_bool, QB_bool, e_ev_one, e_ev_cmp, w_cmp2, e_ev_ife, e_ev_tup, e_mkT, e_ev_lst, e_ev_frz, e_ev_rev, e_ev_dct, e_ev_mcall, e_ev_callD, e_ev_callT, e_sv_tryS, e_sv_raise, e_tbv_ex, e_tbv_set, e_tbv_ife, e_tbv_exSet, e_sv_brk, e_sv_cont, wp_catch, e_evc_none, e_evc_some, e_ev_ix, e_ev_sl, e_ev_bi, e_ev_mx2, e_ev_isi, e_ev_call, e_ev_join, e_ev_lc, e_evs_nil, e_evs_cons, e_evo_none, e_evo_some, e_evi_seq, e_evi_rng1, e_evi_rng2, e_evi_enum, e_evi_zip, env0, varD, e_b_nm, e_b_tT, e_b_tL, e_b_nil, e_b_cons, wp_bind, wp_then, wp_ok, wp_truR, wp_finP, QF_nx, QF_rt, QE1_rt, QE1_nx, QT1_bool, List.map, List.length, List.replicate, List.getElem?_cons_zero, List.getElem?_cons_succ, List.set, Nat.reduceSub, List.cons_append, List.nil_append, Nat.reduceAdd, wp_ite, e_mkLT, tru_b, seqI_L, seqI_T, pures_p, pures_nil, Option.map_some, Option.bind_some, if_true, sz_0, sz_1, sz_2, sz_3, sz_4, sz_5, sz_6, sz_7, sz_8, sz_9, sz_10, sz_11, sz_12, sz_13, sz_14, sz_15, sz_16, sz_17, sz_18, sz_19, sz_20, sz_21, sz_22, sz_23, sz_24, sz_25, sz_26, sz_27, sz_28, sz_29, sz_30, sz_31, sz_32, sz_33, sz_34, sz_35, sz_36, sz_37, sz_38, sz_39, sz_40, e_isInt hp, e_isBool hp]
  cases x with
  | int n =>
    simp only [MP.isInt, isBool, okB, e_svs_cons, e_svs_nil, e_sv_ife, e_sv_ret, e_sv_retN, e_sv_set, e_sv_setIx, e_sv_setLc, e_sv_app, e_sv_ex, e_sv_loop, e_sv_pass, e_ev_var, e_ev_lit, e_ev_glb, e_ev_gix, e_ev_bin, e_ev_neg, e_ev_not, w_and, w_or, QT2_bool, QB_bool, e_ev_one, e_ev_cmp, w_cmp2, e_ev_ife, e_ev_tup, e_mkT, e_ev_lst, e_ev_frz, e_ev_rev, e_ev_dct, e_ev_mcall, e_ev_callD, e_ev_callT, e_sv_tryS, e_sv_raise, e_tbv_ex, e_tbv_set, e_tbv_ife, e_tbv_exSet, e_sv_brk, e_sv_cont, wp_catch, e_evc_none, e_evc_some, e_ev_ix, e_ev_sl, e_ev_bi, e_ev_mx2, e_ev_isi, e_ev_call, e_ev_join, e_ev_lc, e_evs_nil, e_evs_cons, e_evo_none, e_evo_some, e_evi_seq, e_evi_rng1, e_evi_rng2, e_evi_enum, e_evi_zip, env0, varD, e_b_nm, e_b_tT, e_b_tL, e_b_nil, e_b_cons, wp_bind, wp_then, wp_ok, wp_truR, wp_finP, QF_nx, QF_rt, QE1_rt, QE1_nx, QT1_bool, List.map, List.length, List.replicate, List.getElem?_cons_zero, List.getElem?_cons_succ, List.set, Nat.reduceSub, List.cons_append, List.nil_append, Nat.reduceAdd, wp_ite, e_mkLT, tru_b, seqI_L, seqI_T, pures_p, pures_nil, Option.map_some, Option.bind_some, if_true, sz_0, sz_1, sz_2, sz_3, sz_4, sz_5, sz_6, sz_7, sz_8, sz_9, sz_10, sz_11, sz_12, sz_13, sz_14, sz_15, sz_16, sz_17, sz_18, sz_19, sz_20, sz_21, sz_22, sz_23, sz_24, sz_25, sz_26, sz_27, sz_28, sz_29, sz_30, sz_31, sz_32, sz_33, sz_34, sz_35, sz_36, sz_37, sz_38, sz_39, sz_40, e_le, gc_st, Bool.not_false] at h ⊢
    by_cases h1 : n < lo
    · rw [decide_eq_false (show ¬ lo ≤ n by omega)] at h
      simpa [h1, QB_bool] using h
    · rw [decide_eq_true (show lo ≤ n by omega), Bool.true_and] at h
      simp only [h1, decide_false, Bool.not_false, if_true, e_le, e_svs_cons, e_svs_nil, e_sv_ife, e_sv_ret, e_sv_retN, e_sv_set, e_sv_setIx, e_sv_setLc, e_sv_app, e_sv_ex, e_sv_loop, e_sv_pass, e_ev_var, e_ev_lit, e_ev_glb, e_ev_gix, e_ev_bin, e_ev_neg, e_ev_not, w_and, w_or, QT2_bool, QB_bool, e_ev_one, e_ev_cmp, w_cmp2, e_ev_ife, e_ev_tup, e_mkT, e_ev_lst, e_ev_frz, e_ev_rev, e_ev_dct, e_ev_mcall, e_ev_callD, e_ev_callT, e_sv_tryS, e_sv_raise, e_tbv_ex, e_tbv_set, e_tbv_ife, e_tbv_exSet, e_sv_brk, e_sv_cont, wp_catch, e_evc_none, e_evc_some, e_ev_ix, e_ev_sl, e_ev_bi, e_ev_mx2, e_ev_isi, e_ev_call, e_ev_join, e_ev_lc, e_evs_nil, e_evs_cons, e_evo_none, e_evo_some, e_evi_seq, e_evi_rng1, e_evi_rng2, e_evi_enum, e_evi_zip, env0, varD, e_b_nm, e_b_tT, e_b_tL, e_b_nil, e_b_cons, wp_bind, wp_then, wp_ok, wp_truR, wp_finP, QF_nx, QF_rt, QE1_rt, QE1_nx, QT1_bool, List.map, List.length, List.replicate, List.getElem?_cons_zero, List.getElem?_cons_succ, List.set, Nat.reduceSub, List.cons_append, List.nil_append, Nat.reduceAdd, wp_ite, e_mkLT, tru_b, seqI_L, seqI_T, pures_p, pures_nil, Option.map_some, Option.bind_some, if_true, sz_0, sz_1, sz_2, sz_3, sz_4, sz_5, sz_6, sz_7, sz_8, sz_9, sz_10, sz_11, sz_12, sz_13, sz_14, sz_15, sz_16, sz_17, sz_18, sz_19, sz_20, sz_21, sz_22, sz_23, sz_24, sz_25, sz_26, sz_27, sz_28, sz_29, sz_30, sz_31, sz_32, sz_33, sz_34, sz_35, sz_36, sz_37, sz_38, sz_39, sz_40]
      have : (!decide (hi < n)) = decide (n ≤ hi) := by rw [Bool.eq_iff_iff]; simp
      rw [this]
      exact h
  | bool b => simpa [MP.isInt, isBool, okB, gc_st, QB_bool] using h
  | dict kvs => cases hp
  | _ => simpa [MP.isInt, isBool, okB, gc_st, QB_bool] using h
theorem number_is (k : Nat) {x : PyData} (hp : x.plain = true) {st : Store} {X : Exc → Store → Prop} {Q : D → Store → Prop} (h : Q (.p (.bool (okB 0 14 x))) st) : wpe X (semK defs (k + 2) 2 [.p x] st) Q := by
  refine wp_sem (d := d2) rfl rfl ?_
  simp only [d2, b2, e_svs_cons, e_svs_nil, e_sv_ife, e_sv_ret, e_sv_retN, e_sv_set, e_sv_setIx, e_sv_setLc, e_sv_app, e_sv_ex, e_sv_loop, e_sv_pass, e_ev_var, e_ev_lit, e_ev_glb, e_ev_gix, e_ev_bin, e_ev_neg, e_ev_not, w_and, w_or, QT2_bool, QB_bool, e_ev_one, e_ev_cmp, w_cmp2, e_ev_ife, e_ev_tup, e_mkT, e_ev_lst, e_ev_frz, e_ev_rev, e_ev_dct, e_ev_mcall, e_ev_callD, e_ev_callT, e_sv_tryS, e_sv_raise, e_tbv_ex, e_tbv_set, e_tbv_ife, e_tbv_exSet, e_sv_brk, e_sv_cont, wp_catch, e_evc_none, e_evc_some, e_ev_ix, e_ev_sl, e_ev_bi, e_ev_mx2, e_ev_isi, e_ev_call, e_ev_join, e_ev_lc, e_evs_nil, e_evs_cons, e_evo_none, e_evo_some, e_evi_seq, e_evi_rng1, e_evi_rng2, e_evi_enum, e_evi_zip, env0, varD, e_b_nm, e_b_tT, e_b_tL, e_b_nil, e_b_cons, wp_bind, wp_then, wp_ok, wp_truR, wp_finP, QF_nx, QF_rt, QE1_rt, QE1_nx, QT1_bool, List.map, List.length, List.replicate, List.getElem?_cons_zero, List.getElem?_cons_succ, List.set, Nat.reduceSub, List.cons_append, List.nil_append, Nat.reduceAdd, wp_ite, e_mkLT, tru_b, seqI_L, seqI_T, pures_p, pures_nil, Option.map_some, Option.bind_some, if_true, sz_0, sz_1, sz_2, sz_3, sz_4, sz_5, sz_6, sz_7, sz_8, sz_9, sz_10, sz_11, sz_12, sz_13, sz_14, sz_15, sz_16, sz_17, sz_18, sz_19, sz_20, sz_21, sz_22, sz_23, sz_24, sz_25, sz_26, sz_27, sz_28, sz_29, sz_30, sz_31, sz_32, sz_33, sz_34, sz_35, sz_36, sz_37, sz_38, sz_39, sz_40]
  refine between_then k hp 0 14 ?_
  simp only [e_svs_cons, e_svs_nil, e_sv_ife, e_sv_ret, e_sv_retN, e_sv_set, e_sv_setIx, e_sv_setLc, e_sv_app, e_sv_ex, e_sv_loop, e_sv_pass, e_ev_var, e_ev_lit, e_ev_glb, e_ev_gix, e_ev_bin, e_ev_neg, e_ev_not, w_and, w_or, QT2_bool, QB_bool, e_ev_one, e_ev_cmp, w_cmp2, e_ev_ife, e_ev_tup, e_mkT, e_ev_lst, e_ev_frz, e_ev_rev, e_ev_dct, e_ev_mcall, e_ev_callD, e_ev_callT, e_sv_tryS, e_sv_raise, e_tbv_ex, e_tbv_set, e_tbv_ife, e_tbv_exSet, e_sv_brk, e_sv_cont, wp_catch, e_evc_none, e_evc_some, e_ev_ix, e_ev_sl, e_ev_bi, e_ev_mx2, e_ev_isi, e_ev_call, e_ev_join, e_ev_lc, e_evs_nil, e_evs_cons, e_evo_none, e_evo_some, e_evi_seq, e_evi_rng1, e_evi_rng2, e_evi_enum, e_evi_zip, env0, varD, e_b_nm, e_b_tT, e_b_tL, e_b_nil, e_b_cons, wp_bind, wp_then, wp_ok, wp_truR, wp_finP, QF_nx, QF_rt, QE1_rt, QE1_nx, QT1_bool, List.map, List.length, List.replicate, List.getElem?_cons_zero, List.getElem?_cons_succ, List.set, Nat.reduceSub, List.cons_append, List.nil_append, Nat.reduceAdd, wp_ite, e_mkLT, tru_b, seqI_L, seqI_T, pures_p, pures_nil, Option.map_some, Option.bind_some, if_true, sz_0, sz_1, sz_2, sz_3, sz_4, sz_5, sz_6, sz_7, sz_8, sz_9, sz_10, sz_11, sz_12, sz_13, sz_14, sz_15, sz_16, sz_17, sz_18, sz_19, sz_20, sz_21, sz_22, sz_23, sz_24, sz_25, sz_26, sz_27, sz_28, sz_29, sz_30, sz_31, sz_32, sz_33, sz_34, sz_35, sz_36, sz_37, sz_38, sz_39, sz_40, gc_st]
  exact h
theorem time_is (k : Nat) {x : PyData} (hp : x.plain = true) {st : Store} {X : Exc → Store → Prop} {Q : D → Store → Prop} (h : Q (.p (.bool (okB (-1000000000000) 1000000000000 x))) st) : wpe X (semK defs (k + 2) 1 [.p x] st) Q := by
  refine wp_sem (d := d1) rfl rfl ?_
  simp only [d1, b1, e_svs_cons, e_svs_nil, e_sv_ife, e_sv_ret, e_sv_retN, e_sv_set, e_sv_setIx, e_sv_setLc, e_sv_app, e_sv_ex, e_sv_loop, e_sv_pass, e_ev_var, e_ev_lit, e_ev_glb, e_ev_gix, e_ev_bin, e_ev_neg, e_ev_not, w_and, w_or, QT2_bool, QB_bool, e_ev_one, e_ev_cmp, w_cmp2, e_ev_ife, e_ev_tup, e_mkT, e_ev_lst, e_ev_frz, e_ev_rev, e_ev_dct, e_ev_mcall, e_ev_callD, e_ev_callT, e_sv_tryS, e_sv_raise, e_tbv_ex, e_tbv_set, e_tbv_ife, e_tbv_exSet, e_sv_brk, e_sv_cont, wp_catch, e_evc_none, e_evc_some, e_ev_ix, e_ev_sl, e_ev_bi, e_ev_mx2, e_ev_isi, e_ev_call, e_ev_join, e_ev_lc, e_evs_nil, e_evs_cons, e_evo_none, e_evo_some, e_evi_seq, e_evi_rng1, e_evi_rng2, e_evi_enum, e_evi_zip, env0, varD, e_b_nm, e_b_tT, e_b_tL, e_b_nil, e_b_cons, wp_bind, wp_then, wp_ok, wp_truR, wp_finP, QF_nx, QF_rt, QE1_rt, QE1_nx, QT1_bool, List.map, List.length, List.replicate, List.getElem?_cons_zero, List.getElem?_cons_succ, List.set, Nat.reduceSub, List.cons_append, List.nil_append, Nat.reduceAdd, wp_ite, e_mkLT, tru_b, seqI_L, seqI_T, pures_p, pures_nil, Option.map_some, Option.bind_some, if_true, sz_0, sz_1, sz_2, sz_3, sz_4, sz_5, sz_6, sz_7, sz_8, sz_9, sz_10, sz_11, sz_12, sz_13, sz_14, sz_15, sz_16, sz_17, sz_18, sz_19, sz_20, sz_21, sz_22, sz_23, sz_24, sz_25, sz_26, sz_27, sz_28, sz_29, sz_30, sz_31, sz_32, sz_33, sz_34, sz_35, sz_36, sz_37, sz_38, sz_39, sz_40, e_sub]
  refine between_then k hp (0 - 1000000000000) 1000000000000 ?_
  simp only [e_svs_cons, e_svs_nil, e_sv_ife, e_sv_ret, e_sv_retN, e_sv_set, e_sv_setIx, e_sv_setLc, e_sv_app, e_sv_ex, e_sv_loop, e_sv_pass, e_ev_var, e_ev_lit, e_ev_glb, e_ev_gix, e_ev_bin, e_ev_neg, e_ev_not, w_and, w_or, QT2_bool, QB_bool, e_ev_one, e_ev_cmp, w_cmp2, e_ev_ife, e_ev_tup, e_mkT, e_ev_lst, e_ev_frz, e_ev_rev, e_ev_dct, e_ev_mcall, e_ev_callD, e_ev_callT, e_sv_tryS, e_sv_raise, e_tbv_ex, e_tbv_set, e_tbv_ife, e_tbv_exSet, e_sv_brk, e_sv_cont, wp_catch, e_evc_none, e_evc_some, e_ev_ix, e_ev_sl, e_ev_bi, e_ev_mx2, e_ev_isi, e_ev_call, e_ev_join, e_ev_lc, e_evs_nil, e_evs_cons, e_evo_none, e_evo_some, e_evi_seq, e_evi_rng1, e_evi_rng2, e_evi_enum, e_evi_zip, env0, varD, e_b_nm, e_b_tT, e_b_tL, e_b_nil, e_b_cons, wp_bind, wp_then, wp_ok, wp_truR, wp_finP, QF_nx, QF_rt, QE1_rt, QE1_nx, QT1_bool, List.map, List.length, List.replicate, List.getElem?_cons_zero, List.getElem?_cons_succ, List.set, Nat.reduceSub, List.cons_append, List.nil_append, Nat.reduceAdd, wp_ite, e_mkLT, tru_b, seqI_L, seqI_T, pures_p, pures_nil, Option.map_some, Option.bind_some, if_true, sz_0, sz_1, sz_2, sz_3, sz_4, sz_5, sz_6, sz_7, sz_8, sz_9, sz_10, sz_11, sz_12, sz_13, sz_14, sz_15, sz_16, sz_17, sz_18, sz_19, sz_20, sz_21, sz_22, sz_23, sz_24, sz_25, sz_26, sz_27, sz_28, sz_29, sz_30, sz_31, sz_32, sz_33, sz_34, sz_35, sz_36, sz_37, sz_38, sz_39, sz_40, gc_st]
  exact h
def inAbc (c : Nat) : Bool := !(Builtin.Str.occurrences abc ⟨#[c]⟩ 0 abc.length 1).isEmpty
theorem inAbc_L {c : Nat} (h : isL c) : inAbc c = true := by
  have key : ∀ n : Fin 26, inAbc (97 + n.val) = true := by decide +kernel
  have := key ⟨c - 97, by have := h.1; have := h.2; omega⟩
  rwa [show 97 + (c - 97) = c by have := h.1; omega] at this
theorem in_abc (c : Nat) (st : Store) : cmpD .In (.p (.str ⟨#[c]⟩)) (.p (.str abc)) st = .ok (.p (.bool (inAbc c))) st := nr rfl
theorem lcEnd_cl {st : Store} (hc : Clo st) (xs : List PyData) : lcEnd false st.length (st ++ [.lst (xs.map .p)]) = .ok (.p (.list xs)) st := by
  unfold lcEnd
  have h1 : cellL (st ++ [Cell.lst (xs.map D.p)]) st.length = some (xs.map .p) := by
    unfold cellL
    rw [List.getElem?_concat_length]
  simp only [h1, pures_map]
  rw [List.set_append_right _ _ (Nat.le_refl _)]
  simp only [Nat.sub_self, List.set_cons_zero]
  rw [gc_cl hc]
theorem house_is (k : Nat) {x : PyData} (hx : Sm x) {st : Store} (hc : Clo st) {X : Exc → Store → Prop} {Q : D → Store → Prop} (h : ∀ b : Bool, (∀ z, x = .str z → House z → b = true) → (isStr x = false → b = false) → Q (.p (.bool b)) st) : wpe X (semK defs (k + 1) 3 [.p x] st) Q := by
  refine wp_sem (d := d3) rfl rfl ?_
  simp only [d3, b3, e_svs_cons, e_svs_nil, e_sv_ife, e_sv_ret, e_sv_retN, e_sv_set, e_sv_setIx, e_sv_setLc, e_sv_app, e_sv_ex, e_sv_loop, e_sv_pass, e_ev_var, e_ev_lit, e_ev_glb, e_ev_gix, e_ev_bin, e_ev_neg, e_ev_not, w_and, w_or, QT2_bool, QB_bool, e_ev_one, e_ev_cmp, w_cmp2, e_ev_ife, e_ev_tup, e_mkT, e_ev_lst, e_ev_frz, e_ev_rev, e_ev_dct, e_ev_mcall, e_ev_callD, e_ev_callT, e_sv_tryS, e_sv_raise, e_tbv_ex, e_tbv_set, e_tbv_ife, e_tbv_exSet, e_sv_brk, e_sv_cont, wp_catch, e_evc_none, e_evc_some, e_ev_ix, e_ev_sl, e_ev_bi, e_ev_mx2, e_ev_isi, e_ev_call, e_ev_join, e_ev_lc, e_evs_nil, e_evs_cons, e_evo_none, e_evo_some, e_evi_seq, e_evi_rng1, e_evi_rng2, e_evi_enum, e_evi_zip, env0, varD, e_b_nm, e_b_tT, e_b_tL, e_b_nil, e_b_cons, wp_bind, wp_then, wp_ok, wp_truR, wp_finP, QF_nx, QF_rt, QE1_rt, QE1_nx, QT1_bool, List.map, List.length, List.replicate, List.getElem?_cons_zero, List.getElem?_cons_succ, List.set, Nat.reduceSub, List.cons_append, List.nil_append, Nat.reduceAdd, wp_ite, e_mkLT, tru_b, seqI_L, seqI_T, pures_p, pures_nil, Option.map_some, Option.bind_some, if_true, sz_0, sz_1, sz_2, sz_3, sz_4, sz_5, sz_6, sz_7, sz_8, sz_9, sz_10, sz_11, sz_12, sz_13, sz_14, sz_15, sz_16, sz_17, sz_18, sz_19, sz_20, sz_21, sz_22, sz_23, sz_24, sz_25, sz_26, sz_27, sz_28, sz_29, sz_30, sz_31, sz_32, sz_33, sz_34, sz_35, sz_36, sz_37, sz_38, sz_39, sz_40, e_isStr hx.pl]
  cases x with
  | str z =>
    have hz := hx.sh z rfl
    have hl : bi1D .len (.p (.str z)) st = .ok (.p (.int z.length)) st := by rw [e_lenS, if_pos (sz_le hz)]
    simp only [isStr, Bool.not_true, Bool.false_eq_true, if_false, e_svs_cons, e_svs_nil, e_sv_ife, e_sv_ret, e_sv_retN, e_sv_set, e_sv_setIx, e_sv_setLc, e_sv_app, e_sv_ex, e_sv_loop, e_sv_pass, e_ev_var, e_ev_lit, e_ev_glb, e_ev_gix, e_ev_bin, e_ev_neg, e_ev_not, w_and, w_or, QT2_bool, QB_bool, e_ev_one, e_ev_cmp, w_cmp2, e_ev_ife, e_ev_tup, e_mkT, e_ev_lst, e_ev_frz, e_ev_rev, e_ev_dct, e_ev_mcall, e_ev_callD, e_ev_callT, e_sv_tryS, e_sv_raise, e_tbv_ex, e_tbv_set, e_tbv_ife, e_tbv_exSet, e_sv_brk, e_sv_cont, wp_catch, e_evc_none, e_evc_some, e_ev_ix, e_ev_sl, e_ev_bi, e_ev_mx2, e_ev_isi, e_ev_call, e_ev_join, e_ev_lc, e_evs_nil, e_evs_cons, e_evo_none, e_evo_some, e_evi_seq, e_evi_rng1, e_evi_rng2, e_evi_enum, e_evi_zip, env0, varD, e_b_nm, e_b_tT, e_b_tL, e_b_nil, e_b_cons, wp_bind, wp_then, wp_ok, wp_truR, wp_finP, QF_nx, QF_rt, QE1_rt, QE1_nx, QT1_bool, List.map, List.length, List.replicate, List.getElem?_cons_zero, List.getElem?_cons_succ, List.set, Nat.reduceSub, List.cons_append, List.nil_append, Nat.reduceAdd, wp_ite, e_mkLT, tru_b, seqI_L, seqI_T, pures_p, pures_nil, Option.map_some, Option.bind_some, if_true, sz_0, sz_1, sz_2, sz_3, sz_4, sz_5, sz_6, sz_7, sz_8, sz_9, sz_10, sz_11, sz_12, sz_13, sz_14, sz_15, sz_16, sz_17, sz_18, sz_19, sz_20, sz_21, sz_22, sz_23, sz_24, sz_25, sz_26, sz_27, sz_28, sz_29, sz_30, sz_31, sz_32, sz_33, sz_34, sz_35, sz_36, sz_37, sz_38, sz_39, sz_40, hl, e_le]
    have done : Q (.p (.bool false)) st ∨ House z := by
      by_cases hh : House z
      · exact .inr hh
      · exact .inl (h false (fun z' e hz' => by cases e; exact absurd hz' hh) (fun _ => rfl))
    have nd : ¬ House z → Q (.p (.bool false)) st := fun hh => h false (fun z' e hz' => by cases e; exact absurd hz' hh) (fun _ => rfl)
    by_cases h1 : z.length = 0
    · have := nd (fun hh => by have := hh.lo; omega)
      simp only [h1, e_svs_cons, e_svs_nil, e_sv_ife, e_sv_ret, e_sv_retN, e_sv_set, e_sv_setIx, e_sv_setLc, e_sv_app, e_sv_ex, e_sv_loop, e_sv_pass, e_ev_var, e_ev_lit, e_ev_glb, e_ev_gix, e_ev_bin, e_ev_neg, e_ev_not, w_and, w_or, QT2_bool, QB_bool, e_ev_one, e_ev_cmp, w_cmp2, e_ev_ife, e_ev_tup, e_mkT, e_ev_lst, e_ev_frz, e_ev_rev, e_ev_dct, e_ev_mcall, e_ev_callD, e_ev_callT, e_sv_tryS, e_sv_raise, e_tbv_ex, e_tbv_set, e_tbv_ife, e_tbv_exSet, e_sv_brk, e_sv_cont, wp_catch, e_evc_none, e_evc_some, e_ev_ix, e_ev_sl, e_ev_bi, e_ev_mx2, e_ev_isi, e_ev_call, e_ev_join, e_ev_lc, e_evs_nil, e_evs_cons, e_evo_none, e_evo_some, e_evi_seq, e_evi_rng1, e_evi_rng2, e_evi_enum, e_evi_zip, env0, varD, e_b_nm, e_b_tT, e_b_tL, e_b_nil, e_b_cons, wp_bind, wp_then, wp_ok, wp_truR, wp_finP, QF_nx, QF_rt, QE1_rt, QE1_nx, QT1_bool, List.map, List.length, List.replicate, List.getElem?_cons_zero, List.getElem?_cons_succ, List.set, Nat.reduceSub, List.cons_append, List.nil_append, Nat.reduceAdd, wp_ite, e_mkLT, tru_b, seqI_L, seqI_T, pures_p, pures_nil, Option.map_some, Option.bind_some, if_true, sz_0, sz_1, sz_2, sz_3, sz_4, sz_5, sz_6, sz_7, sz_8, sz_9, sz_10, sz_11, sz_12, sz_13, sz_14, sz_15, sz_16, sz_17, sz_18, sz_19, sz_20, sz_21, sz_22, sz_23, sz_24, sz_25, sz_26, sz_27, sz_28, sz_29, sz_30, sz_31, sz_32, sz_33, sz_34, sz_35, sz_36, sz_37, sz_38, sz_39, sz_40, gc_st]
      simpa [gc_st, QB_bool] using this
    · by_cases h2 : z.length ≤ 8
      · have c1 : ((z.length : Int) < 1) = False := eq_false (by omega)
        have c2 : ((8 : Int) < z.length) = False := eq_false (by omega)
        simp only [c1, c2, decide_false, Bool.not_false, Bool.not_true, if_true, e_le, e_svs_cons, e_svs_nil, e_sv_ife, e_sv_ret, e_sv_retN, e_sv_set, e_sv_setIx, e_sv_setLc, e_sv_app, e_sv_ex, e_sv_loop, e_sv_pass, e_ev_var, e_ev_lit, e_ev_glb, e_ev_gix, e_ev_bin, e_ev_neg, e_ev_not, w_and, w_or, QT2_bool, QB_bool, e_ev_one, e_ev_cmp, w_cmp2, e_ev_ife, e_ev_tup, e_mkT, e_ev_lst, e_ev_frz, e_ev_rev, e_ev_dct, e_ev_mcall, e_ev_callD, e_ev_callT, e_sv_tryS, e_sv_raise, e_tbv_ex, e_tbv_set, e_tbv_ife, e_tbv_exSet, e_sv_brk, e_sv_cont, wp_catch, e_evc_none, e_evc_some, e_ev_ix, e_ev_sl, e_ev_bi, e_ev_mx2, e_ev_isi, e_ev_call, e_ev_join, e_ev_lc, e_evs_nil, e_evs_cons, e_evo_none, e_evo_some, e_evi_seq, e_evi_rng1, e_evi_rng2, e_evi_enum, e_evi_zip, env0, varD, e_b_nm, e_b_tT, e_b_tL, e_b_nil, e_b_cons, wp_bind, wp_then, wp_ok, wp_truR, wp_finP, QF_nx, QF_rt, QE1_rt, QE1_nx, QT1_bool, List.map, List.length, List.replicate, List.getElem?_cons_zero, List.getElem?_cons_succ, List.set, Nat.reduceSub, List.cons_append, List.nil_append, Nat.reduceAdd, wp_ite, e_mkLT, tru_b, seqI_L, seqI_T, pures_p, pures_nil, Option.map_some, Option.bind_some, if_true, sz_0, sz_1, sz_2, sz_3, sz_4, sz_5, sz_6, sz_7, sz_8, sz_9, sz_10, sz_11, sz_12, sz_13, sz_14, sz_15, sz_16, sz_17, sz_18, sz_19, sz_20, sz_21, sz_22, sz_23, sz_24, sz_25, sz_26, sz_27, sz_28, sz_29, sz_30, sz_31, sz_32, sz_33, sz_34, sz_35, sz_36, sz_37, sz_38, sz_39, sz_40, Bool.false_eq_true, if_false, seqI]
        refine wp_lcMap (fun it => match it with | .one (.p (.str y)) => .p (.bool (inAbc (y.cps.getD 0 0))) | _ => .p .none) (fun _ => trivial) ?_ (fun it hit acc => ?_) ?_
        · rw [List.length_map, Array.length_toList]
          exact sz_le hz
        · obtain ⟨c, hcm, rfl⟩ := List.mem_map.mp hit
          refine ⟨_, rfl, nr rfl, ?_⟩
          simp only [e_svs_cons, e_svs_nil, e_sv_ife, e_sv_ret, e_sv_retN, e_sv_set, e_sv_setIx, e_sv_setLc, e_sv_app, e_sv_ex, e_sv_loop, e_sv_pass, e_ev_var, e_ev_lit, e_ev_glb, e_ev_gix, e_ev_bin, e_ev_neg, e_ev_not, w_and, w_or, QT2_bool, QB_bool, e_ev_one, e_ev_cmp, w_cmp2, e_ev_ife, e_ev_tup, e_mkT, e_ev_lst, e_ev_frz, e_ev_rev, e_ev_dct, e_ev_mcall, e_ev_callD, e_ev_callT, e_sv_tryS, e_sv_raise, e_tbv_ex, e_tbv_set, e_tbv_ife, e_tbv_exSet, e_sv_brk, e_sv_cont, wp_catch, e_evc_none, e_evc_some, e_ev_ix, e_ev_sl, e_ev_bi, e_ev_mx2, e_ev_isi, e_ev_call, e_ev_join, e_ev_lc, e_evs_nil, e_evs_cons, e_evo_none, e_evo_some, e_evi_seq, e_evi_rng1, e_evi_rng2, e_evi_enum, e_evi_zip, env0, varD, e_b_nm, e_b_tT, e_b_tL, e_b_nil, e_b_cons, wp_bind, wp_then, wp_ok, wp_truR, wp_finP, QF_nx, QF_rt, QE1_rt, QE1_nx, QT1_bool, List.map, List.length, List.replicate, List.getElem?_cons_zero, List.getElem?_cons_succ, List.set, Nat.reduceSub, List.cons_append, List.nil_append, Nat.reduceAdd, wp_ite, e_mkLT, tru_b, seqI_L, seqI_T, pures_p, pures_nil, Option.map_some, Option.bind_some, if_true, sz_0, sz_1, sz_2, sz_3, sz_4, sz_5, sz_6, sz_7, sz_8, sz_9, sz_10, sz_11, sz_12, sz_13, sz_14, sz_15, sz_16, sz_17, sz_18, sz_19, sz_20, sz_21, sz_22, sz_23, sz_24, sz_25, sz_26, sz_27, sz_28, sz_29, sz_30, sz_31, sz_32, sz_33, sz_34, sz_35, sz_36, sz_37, sz_38, sz_39, sz_40, wipeE]
          exact in_abc c _
        · rw [List.map_map, show ((fun it => match it with | Itm.one (.p (.str y)) => D.p (.bool (inAbc (y.cps.getD 0 0))) | _ => .p .none) ∘ fun c => Itm.one (.p (.str ⟨#[c]⟩))) = (fun c => D.p (.bool (inAbc c))) from rfl]
          have e1 : (z.cps.toList.map fun c => D.p (.bool (inAbc c))) = ((z.cps.toList.map inAbc).map PyData.bool).map D.p := by
            rw [List.map_map, List.map_map]; rfl
          rw [e1, lcEnd_cl hc]
          simp only [e_svs_cons, e_svs_nil, e_sv_ife, e_sv_ret, e_sv_retN, e_sv_set, e_sv_setIx, e_sv_setLc, e_sv_app, e_sv_ex, e_sv_loop, e_sv_pass, e_ev_var, e_ev_lit, e_ev_glb, e_ev_gix, e_ev_bin, e_ev_neg, e_ev_not, w_and, w_or, QT2_bool, QB_bool, e_ev_one, e_ev_cmp, w_cmp2, e_ev_ife, e_ev_tup, e_mkT, e_ev_lst, e_ev_frz, e_ev_rev, e_ev_dct, e_ev_mcall, e_ev_callD, e_ev_callT, e_sv_tryS, e_sv_raise, e_tbv_ex, e_tbv_set, e_tbv_ife, e_tbv_exSet, e_sv_brk, e_sv_cont, wp_catch, e_evc_none, e_evc_some, e_ev_ix, e_ev_sl, e_ev_bi, e_ev_mx2, e_ev_isi, e_ev_call, e_ev_join, e_ev_lc, e_evs_nil, e_evs_cons, e_evo_none, e_evo_some, e_evi_seq, e_evi_rng1, e_evi_rng2, e_evi_enum, e_evi_zip, env0, varD, e_b_nm, e_b_tT, e_b_tL, e_b_nil, e_b_cons, wp_bind, wp_then, wp_ok, wp_truR, wp_finP, QF_nx, QF_rt, QE1_rt, QE1_nx, QT1_bool, List.map, List.length, List.replicate, List.getElem?_cons_zero, List.getElem?_cons_succ, List.set, Nat.reduceSub, List.cons_append, List.nil_append, Nat.reduceAdd, wp_ite, e_mkLT, tru_b, seqI_L, seqI_T, pures_p, pures_nil, Option.map_some, Option.bind_some, if_true, sz_0, sz_1, sz_2, sz_3, sz_4, sz_5, sz_6, sz_7, sz_8, sz_9, sz_10, sz_11, sz_12, sz_13, sz_14, sz_15, sz_16, sz_17, sz_18, sz_19, sz_20, sz_21, sz_22, sz_23, sz_24, sz_25, sz_26, sz_27, sz_28, sz_29, sz_30, sz_31, sz_32, sz_33, sz_34, sz_35, sz_36, sz_37, sz_38, sz_39, sz_40, e_all, gc_st]
          refine h _ (fun z' e hz' => ?_) (fun e => by cases e)
          cases e
          rw [List.all_map, List.all_eq_true]
          exact fun c hcm => inAbc_L (hz'.ab c hcm)
      · have := nd (fun hh => h2 hh.hi)
        have c1 : ((z.length : Int) < 1) = False := eq_false (by omega)
        have c2 : ((8 : Int) < z.length) = True := eq_true (by omega)
        simp only [c1, c2, decide_false, decide_true, Bool.not_false, Bool.not_true, if_true, e_le, e_svs_cons, e_svs_nil, e_sv_ife, e_sv_ret, e_sv_retN, e_sv_set, e_sv_setIx, e_sv_setLc, e_sv_app, e_sv_ex, e_sv_loop, e_sv_pass, e_ev_var, e_ev_lit, e_ev_glb, e_ev_gix, e_ev_bin, e_ev_neg, e_ev_not, w_and, w_or, QT2_bool, QB_bool, e_ev_one, e_ev_cmp, w_cmp2, e_ev_ife, e_ev_tup, e_mkT, e_ev_lst, e_ev_frz, e_ev_rev, e_ev_dct, e_ev_mcall, e_ev_callD, e_ev_callT, e_sv_tryS, e_sv_raise, e_tbv_ex, e_tbv_set, e_tbv_ife, e_tbv_exSet, e_sv_brk, e_sv_cont, wp_catch, e_evc_none, e_evc_some, e_ev_ix, e_ev_sl, e_ev_bi, e_ev_mx2, e_ev_isi, e_ev_call, e_ev_join, e_ev_lc, e_evs_nil, e_evs_cons, e_evo_none, e_evo_some, e_evi_seq, e_evi_rng1, e_evi_rng2, e_evi_enum, e_evi_zip, env0, varD, e_b_nm, e_b_tT, e_b_tL, e_b_nil, e_b_cons, wp_bind, wp_then, wp_ok, wp_truR, wp_finP, QF_nx, QF_rt, QE1_rt, QE1_nx, QT1_bool, List.map, List.length, List.replicate, List.getElem?_cons_zero, List.getElem?_cons_succ, List.set, Nat.reduceSub, List.cons_append, List.nil_append, Nat.reduceAdd, wp_ite, e_mkLT, tru_b, seqI_L, seqI_T, pures_p, pures_nil, Option.map_some, Option.bind_some, if_true, sz_0, sz_1, sz_2, sz_3, sz_4, sz_5, sz_6, sz_7, sz_8, sz_9, sz_10, sz_11, sz_12, sz_13, sz_14, sz_15, sz_16, sz_17, sz_18, sz_19, sz_20, sz_21, sz_22, sz_23, sz_24, sz_25, sz_26, sz_27, sz_28, sz_29, sz_30, sz_31, sz_32, sz_33, sz_34, sz_35, sz_36, sz_37, sz_38, sz_39, sz_40, Bool.false_eq_true, if_false, gc_st]
        exact this
  | dict kvs => cases hx.pl
  | _ =>
    simp only [isStr, Bool.not_false, if_true, e_svs_cons, e_svs_nil, e_sv_ife, e_sv_ret, e_sv_retN, e_sv_set, e_sv_setIx, e_sv_setLc, e_sv_app, e_sv_ex, e_sv_loop, e_sv_pass, e_ev_var, e_ev_lit, e_ev_glb, e_ev_gix, e_ev_bin, e_ev_neg, e_ev_not, w_and, w_or, QT2_bool, QB_bool, e_ev_one, e_ev_cmp, w_cmp2, e_ev_ife, e_ev_tup, e_mkT, e_ev_lst, e_ev_frz, e_ev_rev, e_ev_dct, e_ev_mcall, e_ev_callD, e_ev_callT, e_sv_tryS, e_sv_raise, e_tbv_ex, e_tbv_set, e_tbv_ife, e_tbv_exSet, e_sv_brk, e_sv_cont, wp_catch, e_evc_none, e_evc_some, e_ev_ix, e_ev_sl, e_ev_bi, e_ev_mx2, e_ev_isi, e_ev_call, e_ev_join, e_ev_lc, e_evs_nil, e_evs_cons, e_evo_none, e_evo_some, e_evi_seq, e_evi_rng1, e_evi_rng2, e_evi_enum, e_evi_zip, env0, varD, e_b_nm, e_b_tT, e_b_tL, e_b_nil, e_b_cons, wp_bind, wp_then, wp_ok, wp_truR, wp_finP, QF_nx, QF_rt, QE1_rt, QE1_nx, QT1_bool, List.map, List.length, List.replicate, List.getElem?_cons_zero, List.getElem?_cons_succ, List.set, Nat.reduceSub, List.cons_append, List.nil_append, Nat.reduceAdd, wp_ite, e_mkLT, tru_b, seqI_L, seqI_T, pures_p, pures_nil, Option.map_some, Option.bind_some, if_true, sz_0, sz_1, sz_2, sz_3, sz_4, sz_5, sz_6, sz_7, sz_8, sz_9, sz_10, sz_11, sz_12, sz_13, sz_14, sz_15, sz_16, sz_17, sz_18, sz_19, sz_20, sz_21, sz_22, sz_23, sz_24, sz_25, sz_26, sz_27, sz_28, sz_29, sz_30, sz_31, sz_32, sz_33, sz_34, sz_35, sz_36, sz_37, sz_38, sz_39, sz_40, gc_st]
    exact h false (fun z e _ => by cases e) (fun _ => rfl)
theorem of_is (k : Nat) {hs gs : List Str} (hh : ∀ z ∈ hs, House z) {x : PyData} (hx : Sm x) {st : Store} (hc : Clo st) {X : Exc → Store → Prop} {Q : D → Store → Prop} (h : Q (.p (.bool (okH hs x))) st) : wpe X (semK defs (k + 2) 4 [.p (townD hs gs), .p x] st) Q := by
  refine wp_sem (d := d4) rfl rfl ?_
  simp only [d4, b4, e_svs_cons, e_svs_nil, e_sv_ife, e_sv_ret, e_sv_retN, e_sv_set, e_sv_setIx, e_sv_setLc, e_sv_app, e_sv_ex, e_sv_loop, e_sv_pass, e_ev_var, e_ev_lit, e_ev_glb, e_ev_gix, e_ev_bin, e_ev_neg, e_ev_not, w_and, w_or, QT2_bool, QB_bool, e_ev_one, e_ev_cmp, w_cmp2, e_ev_ife, e_ev_tup, e_mkT, e_ev_lst, e_ev_frz, e_ev_rev, e_ev_dct, e_ev_mcall, e_ev_callD, e_ev_callT, e_sv_tryS, e_sv_raise, e_tbv_ex, e_tbv_set, e_tbv_ife, e_tbv_exSet, e_sv_brk, e_sv_cont, wp_catch, e_evc_none, e_evc_some, e_ev_ix, e_ev_sl, e_ev_bi, e_ev_mx2, e_ev_isi, e_ev_call, e_ev_join, e_ev_lc, e_evs_nil, e_evs_cons, e_evo_none, e_evo_some, e_evi_seq, e_evi_rng1, e_evi_rng2, e_evi_enum, e_evi_zip, env0, varD, e_b_nm, e_b_tT, e_b_tL, e_b_nil, e_b_cons, wp_bind, wp_then, wp_ok, wp_truR, wp_finP, QF_nx, QF_rt, QE1_rt, QE1_nx, QT1_bool, List.map, List.length, List.replicate, List.getElem?_cons_zero, List.getElem?_cons_succ, List.set, Nat.reduceSub, List.cons_append, List.nil_append, Nat.reduceAdd, wp_ite, e_mkLT, tru_b, seqI_L, seqI_T, pures_p, pures_nil, Option.map_some, Option.bind_some, if_true, sz_0, sz_1, sz_2, sz_3, sz_4, sz_5, sz_6, sz_7, sz_8, sz_9, sz_10, sz_11, sz_12, sz_13, sz_14, sz_15, sz_16, sz_17, sz_18, sz_19, sz_20, sz_21, sz_22, sz_23, sz_24, sz_25, sz_26, sz_27, sz_28, sz_29, sz_30, sz_31, sz_32, sz_33, sz_34, sz_35, sz_36, sz_37, sz_38, sz_39, sz_40]
  refine house_is k hx hc fun b h1 h2 => ?_
  simp only [e_svs_cons, e_svs_nil, e_sv_ife, e_sv_ret, e_sv_retN, e_sv_set, e_sv_setIx, e_sv_setLc, e_sv_app, e_sv_ex, e_sv_loop, e_sv_pass, e_ev_var, e_ev_lit, e_ev_glb, e_ev_gix, e_ev_bin, e_ev_neg, e_ev_not, w_and, w_or, QT2_bool, QB_bool, e_ev_one, e_ev_cmp, w_cmp2, e_ev_ife, e_ev_tup, e_mkT, e_ev_lst, e_ev_frz, e_ev_rev, e_ev_dct, e_ev_mcall, e_ev_callD, e_ev_callT, e_sv_tryS, e_sv_raise, e_tbv_ex, e_tbv_set, e_tbv_ife, e_tbv_exSet, e_sv_brk, e_sv_cont, wp_catch, e_evc_none, e_evc_some, e_ev_ix, e_ev_sl, e_ev_bi, e_ev_mx2, e_ev_isi, e_ev_call, e_ev_join, e_ev_lc, e_evs_nil, e_evs_cons, e_evo_none, e_evo_some, e_evi_seq, e_evi_rng1, e_evi_rng2, e_evi_enum, e_evi_zip, env0, varD, e_b_nm, e_b_tT, e_b_tL, e_b_nil, e_b_cons, wp_bind, wp_then, wp_ok, wp_truR, wp_finP, QF_nx, QF_rt, QE1_rt, QE1_nx, QT1_bool, List.map, List.length, List.replicate, List.getElem?_cons_zero, List.getElem?_cons_succ, List.set, Nat.reduceSub, List.cons_append, List.nil_append, Nat.reduceAdd, wp_ite, e_mkLT, tru_b, seqI_L, seqI_T, pures_p, pures_nil, Option.map_some, Option.bind_some, if_true, sz_0, sz_1, sz_2, sz_3, sz_4, sz_5, sz_6, sz_7, sz_8, sz_9, sz_10, sz_11, sz_12, sz_13, sz_14, sz_15, sz_16, sz_17, sz_18, sz_19, sz_20, sz_21, sz_22, sz_23, sz_24, sz_25, sz_26, sz_27, sz_28, sz_29, sz_30, sz_31, sz_32, sz_33, sz_34, sz_35, sz_36, sz_37, sz_38, sz_39, sz_40, town_ix, e_inT (Nat.le_trans hx.dp (by decide)), gc_st]
  cases x with
  | str z =>
    rw [any_strs]
    have h : Q (.p (.bool (hs.contains z))) st := h
    by_cases hm : z ∈ hs
    · rw [h1 z rfl (hh z hm), if_pos rfl]
      exact h
    · have e : hs.contains z = false := by simpa using hm
      rw [e] at h ⊢
      split
      · exact h
      · rename_i hb
        have : b = false := by simpa using hb
        rw [this]
        exact h
  | _ =>
    have e := h2 rfl
    subst e
    rw [if_neg (by simp)]
    exact h

theorem row_w {hs : List Str} {w : Str} {r : List PyData} : rowB hs (.tuple (.str w :: r)) = if w == "ask" then askB hs r else if w == "job" then jobB hs r else (w == "all") && allB hs r := rfl
theorem ne_len (n m : Nat) (j : Int) (h : j = m + 1) : (!(((n + 1 : Nat) : Int) == j)) = !decide (n = m) := by
  subst h
  congr 1
  rw [Bool.eq_iff_iff]
  simp
  try omega
theorem le_fin {e f : PyData} {lo hi lo' hi' : Int} (h1 : okB lo hi e = true) (h2 : okB lo' hi' f = true) {st : Store} {X : Exc → Store → Prop} {Q : D → Store → Prop} (h : Q (.p (.bool (leI e f))) st) : wpe NoX (cmpD .LtE (.p e) (.p f) st) (fun a st1 => wpe X (finD st.length a st1) Q) := by
  cases e with
  | int a =>
    cases f with
    | int b =>
      have : (!decide (b < a)) = decide (a ≤ b) := by rw [Bool.eq_iff_iff]; simp
      rw [e_le, wp_ok, this, wp_finP, gc_st]
      exact h
    | _ => cases h2
  | _ => cases h1
theorem ask_is (k : Nat) {hs gs : List Str} (hh : ∀ z ∈ hs, House z) {w : PyData} {r : List PyData} (hr : ∀ x ∈ r, Sm x) {st : Store} (hc : Clo st) {X : Exc → Store → Prop} {Q : D → Store → Prop} (h : Q (.p (.bool (askB hs r))) st) : wpe X (semK defs (k + 3) 5 [.p (townD hs gs), .p (.tuple (w :: r))] st) Q := by
  refine wp_sem (d := d5) rfl rfl ?_
  simp only [d5, b5, e_svs_cons, e_svs_nil, e_sv_ife, e_sv_ret, e_sv_retN, e_sv_set, e_sv_setIx, e_sv_setLc, e_sv_app, e_sv_ex, e_sv_loop, e_sv_pass, e_ev_var, e_ev_lit, e_ev_glb, e_ev_gix, e_ev_bin, e_ev_neg, e_ev_not, w_and, w_or, QT2_bool, QB_bool, e_ev_one, e_ev_cmp, w_cmp2, e_ev_ife, e_ev_tup, e_mkT, e_ev_lst, e_ev_frz, e_ev_rev, e_ev_dct, e_ev_mcall, e_ev_callD, e_ev_callT, e_sv_tryS, e_sv_raise, e_tbv_ex, e_tbv_set, e_tbv_ife, e_tbv_exSet, e_sv_brk, e_sv_cont, wp_catch, e_evc_none, e_evc_some, e_ev_ix, e_ev_sl, e_ev_bi, e_ev_mx2, e_ev_isi, e_ev_call, e_ev_join, e_ev_lc, e_evs_nil, e_evs_cons, e_evo_none, e_evo_some, e_evi_seq, e_evi_rng1, e_evi_rng2, e_evi_enum, e_evi_zip, env0, varD, e_b_nm, e_b_tT, e_b_tL, e_b_nil, e_b_cons, wp_bind, wp_then, wp_ok, wp_truR, wp_finP, QF_nx, QF_rt, QE1_rt, QE1_nx, QT1_bool, List.map, List.length, List.replicate, List.getElem?_cons_zero, List.getElem?_cons_succ, List.set, Nat.reduceSub, List.cons_append, List.nil_append, Nat.reduceAdd, wp_ite, e_mkLT, tru_b, seqI_L, seqI_T, pures_p, pures_nil, Option.map_some, Option.bind_some, if_true, sz_0, sz_1, sz_2, sz_3, sz_4, sz_5, sz_6, sz_7, sz_8, sz_9, sz_10, sz_11, sz_12, sz_13, sz_14, sz_15, sz_16, sz_17, sz_18, sz_19, sz_20, sz_21, sz_22, sz_23, sz_24, sz_25, sz_26, sz_27, sz_28, sz_29, sz_30, sz_31, sz_32, sz_33, sz_34, sz_35, sz_36, sz_37, sz_38, sz_39, sz_40, e_lenT, e_nei]
  rw [ne_len r.length 6 7 rfl]
  by_cases hl : r.length = 6
  · obtain ⟨a, b, c, d, e, f, rfl⟩ := six hl
    simp only [List.mem_cons, List.not_mem_nil, or_false, forall_eq_or_imp, forall_eq] at hr
    obtain ⟨ha, hb, hcc, hd, he, hf⟩ := hr
    have h : Q (.p (.bool (okH hs a && (okH hs d && (okB 0 14 b && (okB 0 14 c && (okB (-1000000000000) 1000000000000 e && (okB (-1000000000000) 1000000000000 f && leI e f)))))))) st := h
    simp only [e_svs_cons, e_svs_nil, e_sv_ife, e_sv_ret, e_sv_retN, e_sv_set, e_sv_setIx, e_sv_setLc, e_sv_app, e_sv_ex, e_sv_loop, e_sv_pass, e_ev_var, e_ev_lit, e_ev_glb, e_ev_gix, e_ev_bin, e_ev_neg, e_ev_not, w_and, w_or, QT2_bool, QB_bool, e_ev_one, e_ev_cmp, w_cmp2, e_ev_ife, e_ev_tup, e_mkT, e_ev_lst, e_ev_frz, e_ev_rev, e_ev_dct, e_ev_mcall, e_ev_callD, e_ev_callT, e_sv_tryS, e_sv_raise, e_tbv_ex, e_tbv_set, e_tbv_ife, e_tbv_exSet, e_sv_brk, e_sv_cont, wp_catch, e_evc_none, e_evc_some, e_ev_ix, e_ev_sl, e_ev_bi, e_ev_mx2, e_ev_isi, e_ev_call, e_ev_join, e_ev_lc, e_evs_nil, e_evs_cons, e_evo_none, e_evo_some, e_evi_seq, e_evi_rng1, e_evi_rng2, e_evi_enum, e_evi_zip, env0, varD, e_b_nm, e_b_tT, e_b_tL, e_b_nil, e_b_cons, wp_bind, wp_then, wp_ok, wp_truR, wp_finP, QF_nx, QF_rt, QE1_rt, QE1_nx, QT1_bool, List.map, List.length, List.replicate, List.getElem?_cons_zero, List.getElem?_cons_succ, List.set, Nat.reduceSub, List.cons_append, List.nil_append, Nat.reduceAdd, wp_ite, e_mkLT, tru_b, seqI_L, seqI_T, pures_p, pures_nil, Option.map_some, Option.bind_some, if_true, sz_0, sz_1, sz_2, sz_3, sz_4, sz_5, sz_6, sz_7, sz_8, sz_9, sz_10, sz_11, sz_12, sz_13, sz_14, sz_15, sz_16, sz_17, sz_18, sz_19, sz_20, sz_21, sz_22, sz_23, sz_24, sz_25, sz_26, sz_27, sz_28, sz_29, sz_30, sz_31, sz_32, sz_33, sz_34, sz_35, sz_36, sz_37, sz_38, sz_39, sz_40, decide_true, Bool.not_true, Bool.false_eq_true, if_false, e_ixT, atI_0, atI_1, atI_2, atI_3, atI_4, atI_5, atI_6]
    refine of_is k hh ha hc ?_
    simp only [e_svs_cons, e_svs_nil, e_sv_ife, e_sv_ret, e_sv_retN, e_sv_set, e_sv_setIx, e_sv_setLc, e_sv_app, e_sv_ex, e_sv_loop, e_sv_pass, e_ev_var, e_ev_lit, e_ev_glb, e_ev_gix, e_ev_bin, e_ev_neg, e_ev_not, w_and, w_or, QT2_bool, QB_bool, e_ev_one, e_ev_cmp, w_cmp2, e_ev_ife, e_ev_tup, e_mkT, e_ev_lst, e_ev_frz, e_ev_rev, e_ev_dct, e_ev_mcall, e_ev_callD, e_ev_callT, e_sv_tryS, e_sv_raise, e_tbv_ex, e_tbv_set, e_tbv_ife, e_tbv_exSet, e_sv_brk, e_sv_cont, wp_catch, e_evc_none, e_evc_some, e_ev_ix, e_ev_sl, e_ev_bi, e_ev_mx2, e_ev_isi, e_ev_call, e_ev_join, e_ev_lc, e_evs_nil, e_evs_cons, e_evo_none, e_evo_some, e_evi_seq, e_evi_rng1, e_evi_rng2, e_evi_enum, e_evi_zip, env0, varD, e_b_nm, e_b_tT, e_b_tL, e_b_nil, e_b_cons, wp_bind, wp_then, wp_ok, wp_truR, wp_finP, QF_nx, QF_rt, QE1_rt, QE1_nx, QT1_bool, List.map, List.length, List.replicate, List.getElem?_cons_zero, List.getElem?_cons_succ, List.set, Nat.reduceSub, List.cons_append, List.nil_append, Nat.reduceAdd, wp_ite, e_mkLT, tru_b, seqI_L, seqI_T, pures_p, pures_nil, Option.map_some, Option.bind_some, if_true, sz_0, sz_1, sz_2, sz_3, sz_4, sz_5, sz_6, sz_7, sz_8, sz_9, sz_10, sz_11, sz_12, sz_13, sz_14, sz_15, sz_16, sz_17, sz_18, sz_19, sz_20, sz_21, sz_22, sz_23, sz_24, sz_25, sz_26, sz_27, sz_28, sz_29, sz_30, sz_31, sz_32, sz_33, sz_34, sz_35, sz_36, sz_37, sz_38, sz_39, sz_40, e_ixT, atI_0, atI_1, atI_2, atI_3, atI_4, atI_5, atI_6]
    cases q1 : okH hs a
    · rw [q1] at h; simpa [gc_st, QT2_bool, wp_finP] using h
    rw [q1, Bool.true_and] at h
    simp only [e_svs_cons, e_svs_nil, e_sv_ife, e_sv_ret, e_sv_retN, e_sv_set, e_sv_setIx, e_sv_setLc, e_sv_app, e_sv_ex, e_sv_loop, e_sv_pass, e_ev_var, e_ev_lit, e_ev_glb, e_ev_gix, e_ev_bin, e_ev_neg, e_ev_not, w_and, w_or, QT2_bool, QB_bool, e_ev_one, e_ev_cmp, w_cmp2, e_ev_ife, e_ev_tup, e_mkT, e_ev_lst, e_ev_frz, e_ev_rev, e_ev_dct, e_ev_mcall, e_ev_callD, e_ev_callT, e_sv_tryS, e_sv_raise, e_tbv_ex, e_tbv_set, e_tbv_ife, e_tbv_exSet, e_sv_brk, e_sv_cont, wp_catch, e_evc_none, e_evc_some, e_ev_ix, e_ev_sl, e_ev_bi, e_ev_mx2, e_ev_isi, e_ev_call, e_ev_join, e_ev_lc, e_evs_nil, e_evs_cons, e_evo_none, e_evo_some, e_evi_seq, e_evi_rng1, e_evi_rng2, e_evi_enum, e_evi_zip, env0, varD, e_b_nm, e_b_tT, e_b_tL, e_b_nil, e_b_cons, wp_bind, wp_then, wp_ok, wp_truR, wp_finP, QF_nx, QF_rt, QE1_rt, QE1_nx, QT1_bool, List.map, List.length, List.replicate, List.getElem?_cons_zero, List.getElem?_cons_succ, List.set, Nat.reduceSub, List.cons_append, List.nil_append, Nat.reduceAdd, wp_ite, e_mkLT, tru_b, seqI_L, seqI_T, pures_p, pures_nil, Option.map_some, Option.bind_some, if_true, sz_0, sz_1, sz_2, sz_3, sz_4, sz_5, sz_6, sz_7, sz_8, sz_9, sz_10, sz_11, sz_12, sz_13, sz_14, sz_15, sz_16, sz_17, sz_18, sz_19, sz_20, sz_21, sz_22, sz_23, sz_24, sz_25, sz_26, sz_27, sz_28, sz_29, sz_30, sz_31, sz_32, sz_33, sz_34, sz_35, sz_36, sz_37, sz_38, sz_39, sz_40, Bool.not_true, Bool.false_eq_true, if_false, e_ixT, atI_4]
    refine of_is k hh hd hc ?_
    cases q2 : okH hs d
    · rw [q2] at h; simpa [gc_st, QT2_bool, wp_finP] using h
    rw [q2, Bool.true_and] at h
    simp only [e_svs_cons, e_svs_nil, e_sv_ife, e_sv_ret, e_sv_retN, e_sv_set, e_sv_setIx, e_sv_setLc, e_sv_app, e_sv_ex, e_sv_loop, e_sv_pass, e_ev_var, e_ev_lit, e_ev_glb, e_ev_gix, e_ev_bin, e_ev_neg, e_ev_not, w_and, w_or, QT2_bool, QB_bool, e_ev_one, e_ev_cmp, w_cmp2, e_ev_ife, e_ev_tup, e_mkT, e_ev_lst, e_ev_frz, e_ev_rev, e_ev_dct, e_ev_mcall, e_ev_callD, e_ev_callT, e_sv_tryS, e_sv_raise, e_tbv_ex, e_tbv_set, e_tbv_ife, e_tbv_exSet, e_sv_brk, e_sv_cont, wp_catch, e_evc_none, e_evc_some, e_ev_ix, e_ev_sl, e_ev_bi, e_ev_mx2, e_ev_isi, e_ev_call, e_ev_join, e_ev_lc, e_evs_nil, e_evs_cons, e_evo_none, e_evo_some, e_evi_seq, e_evi_rng1, e_evi_rng2, e_evi_enum, e_evi_zip, env0, varD, e_b_nm, e_b_tT, e_b_tL, e_b_nil, e_b_cons, wp_bind, wp_then, wp_ok, wp_truR, wp_finP, QF_nx, QF_rt, QE1_rt, QE1_nx, QT1_bool, List.map, List.length, List.replicate, List.getElem?_cons_zero, List.getElem?_cons_succ, List.set, Nat.reduceSub, List.cons_append, List.nil_append, Nat.reduceAdd, wp_ite, e_mkLT, tru_b, seqI_L, seqI_T, pures_p, pures_nil, Option.map_some, Option.bind_some, if_true, sz_0, sz_1, sz_2, sz_3, sz_4, sz_5, sz_6, sz_7, sz_8, sz_9, sz_10, sz_11, sz_12, sz_13, sz_14, sz_15, sz_16, sz_17, sz_18, sz_19, sz_20, sz_21, sz_22, sz_23, sz_24, sz_25, sz_26, sz_27, sz_28, sz_29, sz_30, sz_31, sz_32, sz_33, sz_34, sz_35, sz_36, sz_37, sz_38, sz_39, sz_40, Bool.not_true, Bool.false_eq_true, if_false, e_ixT, atI_2]
    refine number_is k hb.pl ?_
    cases q3 : okB 0 14 b
    · rw [q3] at h; simpa [gc_st, QT2_bool, wp_finP] using h
    rw [q3, Bool.true_and] at h
    simp only [e_svs_cons, e_svs_nil, e_sv_ife, e_sv_ret, e_sv_retN, e_sv_set, e_sv_setIx, e_sv_setLc, e_sv_app, e_sv_ex, e_sv_loop, e_sv_pass, e_ev_var, e_ev_lit, e_ev_glb, e_ev_gix, e_ev_bin, e_ev_neg, e_ev_not, w_and, w_or, QT2_bool, QB_bool, e_ev_one, e_ev_cmp, w_cmp2, e_ev_ife, e_ev_tup, e_mkT, e_ev_lst, e_ev_frz, e_ev_rev, e_ev_dct, e_ev_mcall, e_ev_callD, e_ev_callT, e_sv_tryS, e_sv_raise, e_tbv_ex, e_tbv_set, e_tbv_ife, e_tbv_exSet, e_sv_brk, e_sv_cont, wp_catch, e_evc_none, e_evc_some, e_ev_ix, e_ev_sl, e_ev_bi, e_ev_mx2, e_ev_isi, e_ev_call, e_ev_join, e_ev_lc, e_evs_nil, e_evs_cons, e_evo_none, e_evo_some, e_evi_seq, e_evi_rng1, e_evi_rng2, e_evi_enum, e_evi_zip, env0, varD, e_b_nm, e_b_tT, e_b_tL, e_b_nil, e_b_cons, wp_bind, wp_then, wp_ok, wp_truR, wp_finP, QF_nx, QF_rt, QE1_rt, QE1_nx, QT1_bool, List.map, List.length, List.replicate, List.getElem?_cons_zero, List.getElem?_cons_succ, List.set, Nat.reduceSub, List.cons_append, List.nil_append, Nat.reduceAdd, wp_ite, e_mkLT, tru_b, seqI_L, seqI_T, pures_p, pures_nil, Option.map_some, Option.bind_some, if_true, sz_0, sz_1, sz_2, sz_3, sz_4, sz_5, sz_6, sz_7, sz_8, sz_9, sz_10, sz_11, sz_12, sz_13, sz_14, sz_15, sz_16, sz_17, sz_18, sz_19, sz_20, sz_21, sz_22, sz_23, sz_24, sz_25, sz_26, sz_27, sz_28, sz_29, sz_30, sz_31, sz_32, sz_33, sz_34, sz_35, sz_36, sz_37, sz_38, sz_39, sz_40, Bool.not_true, Bool.false_eq_true, if_false, e_ixT, atI_3]
    refine number_is k hcc.pl ?_
    cases q4 : okB 0 14 c
    · rw [q4] at h; simpa [gc_st, QT2_bool, wp_finP] using h
    rw [q4, Bool.true_and] at h
    simp only [e_svs_cons, e_svs_nil, e_sv_ife, e_sv_ret, e_sv_retN, e_sv_set, e_sv_setIx, e_sv_setLc, e_sv_app, e_sv_ex, e_sv_loop, e_sv_pass, e_ev_var, e_ev_lit, e_ev_glb, e_ev_gix, e_ev_bin, e_ev_neg, e_ev_not, w_and, w_or, QT2_bool, QB_bool, e_ev_one, e_ev_cmp, w_cmp2, e_ev_ife, e_ev_tup, e_mkT, e_ev_lst, e_ev_frz, e_ev_rev, e_ev_dct, e_ev_mcall, e_ev_callD, e_ev_callT, e_sv_tryS, e_sv_raise, e_tbv_ex, e_tbv_set, e_tbv_ife, e_tbv_exSet, e_sv_brk, e_sv_cont, wp_catch, e_evc_none, e_evc_some, e_ev_ix, e_ev_sl, e_ev_bi, e_ev_mx2, e_ev_isi, e_ev_call, e_ev_join, e_ev_lc, e_evs_nil, e_evs_cons, e_evo_none, e_evo_some, e_evi_seq, e_evi_rng1, e_evi_rng2, e_evi_enum, e_evi_zip, env0, varD, e_b_nm, e_b_tT, e_b_tL, e_b_nil, e_b_cons, wp_bind, wp_then, wp_ok, wp_truR, wp_finP, QF_nx, QF_rt, QE1_rt, QE1_nx, QT1_bool, List.map, List.length, List.replicate, List.getElem?_cons_zero, List.getElem?_cons_succ, List.set, Nat.reduceSub, List.cons_append, List.nil_append, Nat.reduceAdd, wp_ite, e_mkLT, tru_b, seqI_L, seqI_T, pures_p, pures_nil, Option.map_some, Option.bind_some, if_true, sz_0, sz_1, sz_2, sz_3, sz_4, sz_5, sz_6, sz_7, sz_8, sz_9, sz_10, sz_11, sz_12, sz_13, sz_14, sz_15, sz_16, sz_17, sz_18, sz_19, sz_20, sz_21, sz_22, sz_23, sz_24, sz_25, sz_26, sz_27, sz_28, sz_29, sz_30, sz_31, sz_32, sz_33, sz_34, sz_35, sz_36, sz_37, sz_38, sz_39, sz_40, Bool.not_true, Bool.false_eq_true, if_false, e_ixT, atI_5]
    refine time_is k he.pl ?_
    cases q5 : okB (-1000000000000) 1000000000000 e
    · rw [q5] at h; simpa [gc_st, QT2_bool, wp_finP] using h
    rw [q5, Bool.true_and] at h
    simp only [e_svs_cons, e_svs_nil, e_sv_ife, e_sv_ret, e_sv_retN, e_sv_set, e_sv_setIx, e_sv_setLc, e_sv_app, e_sv_ex, e_sv_loop, e_sv_pass, e_ev_var, e_ev_lit, e_ev_glb, e_ev_gix, e_ev_bin, e_ev_neg, e_ev_not, w_and, w_or, QT2_bool, QB_bool, e_ev_one, e_ev_cmp, w_cmp2, e_ev_ife, e_ev_tup, e_mkT, e_ev_lst, e_ev_frz, e_ev_rev, e_ev_dct, e_ev_mcall, e_ev_callD, e_ev_callT, e_sv_tryS, e_sv_raise, e_tbv_ex, e_tbv_set, e_tbv_ife, e_tbv_exSet, e_sv_brk, e_sv_cont, wp_catch, e_evc_none, e_evc_some, e_ev_ix, e_ev_sl, e_ev_bi, e_ev_mx2, e_ev_isi, e_ev_call, e_ev_join, e_ev_lc, e_evs_nil, e_evs_cons, e_evo_none, e_evo_some, e_evi_seq, e_evi_rng1, e_evi_rng2, e_evi_enum, e_evi_zip, env0, varD, e_b_nm, e_b_tT, e_b_tL, e_b_nil, e_b_cons, wp_bind, wp_then, wp_ok, wp_truR, wp_finP, QF_nx, QF_rt, QE1_rt, QE1_nx, QT1_bool, List.map, List.length, List.replicate, List.getElem?_cons_zero, List.getElem?_cons_succ, List.set, Nat.reduceSub, List.cons_append, List.nil_append, Nat.reduceAdd, wp_ite, e_mkLT, tru_b, seqI_L, seqI_T, pures_p, pures_nil, Option.map_some, Option.bind_some, if_true, sz_0, sz_1, sz_2, sz_3, sz_4, sz_5, sz_6, sz_7, sz_8, sz_9, sz_10, sz_11, sz_12, sz_13, sz_14, sz_15, sz_16, sz_17, sz_18, sz_19, sz_20, sz_21, sz_22, sz_23, sz_24, sz_25, sz_26, sz_27, sz_28, sz_29, sz_30, sz_31, sz_32, sz_33, sz_34, sz_35, sz_36, sz_37, sz_38, sz_39, sz_40, Bool.not_true, Bool.false_eq_true, if_false, e_ixT, atI_6]
    refine time_is k hf.pl ?_
    cases q6 : okB (-1000000000000) 1000000000000 f
    · rw [q6] at h; simpa [gc_st, QT2_bool, wp_finP] using h
    rw [q6, Bool.true_and] at h
    simp only [e_svs_cons, e_svs_nil, e_sv_ife, e_sv_ret, e_sv_retN, e_sv_set, e_sv_setIx, e_sv_setLc, e_sv_app, e_sv_ex, e_sv_loop, e_sv_pass, e_ev_var, e_ev_lit, e_ev_glb, e_ev_gix, e_ev_bin, e_ev_neg, e_ev_not, w_and, w_or, QT2_bool, QB_bool, e_ev_one, e_ev_cmp, w_cmp2, e_ev_ife, e_ev_tup, e_mkT, e_ev_lst, e_ev_frz, e_ev_rev, e_ev_dct, e_ev_mcall, e_ev_callD, e_ev_callT, e_sv_tryS, e_sv_raise, e_tbv_ex, e_tbv_set, e_tbv_ife, e_tbv_exSet, e_sv_brk, e_sv_cont, wp_catch, e_evc_none, e_evc_some, e_ev_ix, e_ev_sl, e_ev_bi, e_ev_mx2, e_ev_isi, e_ev_call, e_ev_join, e_ev_lc, e_evs_nil, e_evs_cons, e_evo_none, e_evo_some, e_evi_seq, e_evi_rng1, e_evi_rng2, e_evi_enum, e_evi_zip, env0, varD, e_b_nm, e_b_tT, e_b_tL, e_b_nil, e_b_cons, wp_bind, wp_then, wp_ok, wp_truR, wp_finP, QF_nx, QF_rt, QE1_rt, QE1_nx, QT1_bool, List.map, List.length, List.replicate, List.getElem?_cons_zero, List.getElem?_cons_succ, List.set, Nat.reduceSub, List.cons_append, List.nil_append, Nat.reduceAdd, wp_ite, e_mkLT, tru_b, seqI_L, seqI_T, pures_p, pures_nil, Option.map_some, Option.bind_some, if_true, sz_0, sz_1, sz_2, sz_3, sz_4, sz_5, sz_6, sz_7, sz_8, sz_9, sz_10, sz_11, sz_12, sz_13, sz_14, sz_15, sz_16, sz_17, sz_18, sz_19, sz_20, sz_21, sz_22, sz_23, sz_24, sz_25, sz_26, sz_27, sz_28, sz_29, sz_30, sz_31, sz_32, sz_33, sz_34, sz_35, sz_36, sz_37, sz_38, sz_39, sz_40, Bool.not_true, Bool.false_eq_true, if_false, e_ixT, atI_5, atI_6]
    exact le_fin q5 q6 h
  · rw [askB_no hl] at h
    simpa [gc_st, hl] using h
theorem job_is (k : Nat) {hs gs : List Str} (hh : ∀ z ∈ hs, House z) {w : PyData} {r : List PyData} (hr : ∀ x ∈ r, Sm x) {st : Store} (hc : Clo st) {X : Exc → Store → Prop} {Q : D → Store → Prop} (h : Q (.p (.bool (jobB hs r))) st) : wpe X (semK defs (k + 3) 6 [.p (townD hs gs), .p (.tuple (w :: r))] st) Q := by
  refine wp_sem (d := d6) rfl rfl ?_
  simp only [d6, b6, e_svs_cons, e_svs_nil, e_sv_ife, e_sv_ret, e_sv_retN, e_sv_set, e_sv_setIx, e_sv_setLc, e_sv_app, e_sv_ex, e_sv_loop, e_sv_pass, e_ev_var, e_ev_lit, e_ev_glb, e_ev_gix, e_ev_bin, e_ev_neg, e_ev_not, w_and, w_or, QT2_bool, QB_bool, e_ev_one, e_ev_cmp, w_cmp2, e_ev_ife, e_ev_tup, e_mkT, e_ev_lst, e_ev_frz, e_ev_rev, e_ev_dct, e_ev_mcall, e_ev_callD, e_ev_callT, e_sv_tryS, e_sv_raise, e_tbv_ex, e_tbv_set, e_tbv_ife, e_tbv_exSet, e_sv_brk, e_sv_cont, wp_catch, e_evc_none, e_evc_some, e_ev_ix, e_ev_sl, e_ev_bi, e_ev_mx2, e_ev_isi, e_ev_call, e_ev_join, e_ev_lc, e_evs_nil, e_evs_cons, e_evo_none, e_evo_some, e_evi_seq, e_evi_rng1, e_evi_rng2, e_evi_enum, e_evi_zip, env0, varD, e_b_nm, e_b_tT, e_b_tL, e_b_nil, e_b_cons, wp_bind, wp_then, wp_ok, wp_truR, wp_finP, QF_nx, QF_rt, QE1_rt, QE1_nx, QT1_bool, List.map, List.length, List.replicate, List.getElem?_cons_zero, List.getElem?_cons_succ, List.set, Nat.reduceSub, List.cons_append, List.nil_append, Nat.reduceAdd, wp_ite, e_mkLT, tru_b, seqI_L, seqI_T, pures_p, pures_nil, Option.map_some, Option.bind_some, if_true, sz_0, sz_1, sz_2, sz_3, sz_4, sz_5, sz_6, sz_7, sz_8, sz_9, sz_10, sz_11, sz_12, sz_13, sz_14, sz_15, sz_16, sz_17, sz_18, sz_19, sz_20, sz_21, sz_22, sz_23, sz_24, sz_25, sz_26, sz_27, sz_28, sz_29, sz_30, sz_31, sz_32, sz_33, sz_34, sz_35, sz_36, sz_37, sz_38, sz_39, sz_40, e_lenT, e_nei]
  rw [ne_len r.length 4 5 rfl]
  by_cases hl : r.length = 4
  · obtain ⟨a, b, c, d, rfl⟩ := four hl
    simp only [List.mem_cons, List.not_mem_nil, or_false, forall_eq_or_imp, forall_eq] at hr
    obtain ⟨ha, hb, hcc, hd⟩ := hr
    have h : Q (.p (.bool (okH hs a && (okB 0 14 b && (okB (-1000000000000) 1000000000000 c && (okB (-1000000000000) 1000000000000 d && leI c d)))))) st := h
    simp only [e_svs_cons, e_svs_nil, e_sv_ife, e_sv_ret, e_sv_retN, e_sv_set, e_sv_setIx, e_sv_setLc, e_sv_app, e_sv_ex, e_sv_loop, e_sv_pass, e_ev_var, e_ev_lit, e_ev_glb, e_ev_gix, e_ev_bin, e_ev_neg, e_ev_not, w_and, w_or, QT2_bool, QB_bool, e_ev_one, e_ev_cmp, w_cmp2, e_ev_ife, e_ev_tup, e_mkT, e_ev_lst, e_ev_frz, e_ev_rev, e_ev_dct, e_ev_mcall, e_ev_callD, e_ev_callT, e_sv_tryS, e_sv_raise, e_tbv_ex, e_tbv_set, e_tbv_ife, e_tbv_exSet, e_sv_brk, e_sv_cont, wp_catch, e_evc_none, e_evc_some, e_ev_ix, e_ev_sl, e_ev_bi, e_ev_mx2, e_ev_isi, e_ev_call, e_ev_join, e_ev_lc, e_evs_nil, e_evs_cons, e_evo_none, e_evo_some, e_evi_seq, e_evi_rng1, e_evi_rng2, e_evi_enum, e_evi_zip, env0, varD, e_b_nm, e_b_tT, e_b_tL, e_b_nil, e_b_cons, wp_bind, wp_then, wp_ok, wp_truR, wp_finP, QF_nx, QF_rt, QE1_rt, QE1_nx, QT1_bool, List.map, List.length, List.replicate, List.getElem?_cons_zero, List.getElem?_cons_succ, List.set, Nat.reduceSub, List.cons_append, List.nil_append, Nat.reduceAdd, wp_ite, e_mkLT, tru_b, seqI_L, seqI_T, pures_p, pures_nil, Option.map_some, Option.bind_some, if_true, sz_0, sz_1, sz_2, sz_3, sz_4, sz_5, sz_6, sz_7, sz_8, sz_9, sz_10, sz_11, sz_12, sz_13, sz_14, sz_15, sz_16, sz_17, sz_18, sz_19, sz_20, sz_21, sz_22, sz_23, sz_24, sz_25, sz_26, sz_27, sz_28, sz_29, sz_30, sz_31, sz_32, sz_33, sz_34, sz_35, sz_36, sz_37, sz_38, sz_39, sz_40, decide_true, Bool.not_true, Bool.false_eq_true, if_false, e_ixT, atI_0, atI_1, atI_2, atI_3, atI_4]
    refine of_is k hh ha hc ?_
    cases q1 : okH hs a
    · rw [q1] at h; simpa [gc_st, QT2_bool, wp_finP] using h
    rw [q1, Bool.true_and] at h
    simp only [e_svs_cons, e_svs_nil, e_sv_ife, e_sv_ret, e_sv_retN, e_sv_set, e_sv_setIx, e_sv_setLc, e_sv_app, e_sv_ex, e_sv_loop, e_sv_pass, e_ev_var, e_ev_lit, e_ev_glb, e_ev_gix, e_ev_bin, e_ev_neg, e_ev_not, w_and, w_or, QT2_bool, QB_bool, e_ev_one, e_ev_cmp, w_cmp2, e_ev_ife, e_ev_tup, e_mkT, e_ev_lst, e_ev_frz, e_ev_rev, e_ev_dct, e_ev_mcall, e_ev_callD, e_ev_callT, e_sv_tryS, e_sv_raise, e_tbv_ex, e_tbv_set, e_tbv_ife, e_tbv_exSet, e_sv_brk, e_sv_cont, wp_catch, e_evc_none, e_evc_some, e_ev_ix, e_ev_sl, e_ev_bi, e_ev_mx2, e_ev_isi, e_ev_call, e_ev_join, e_ev_lc, e_evs_nil, e_evs_cons, e_evo_none, e_evo_some, e_evi_seq, e_evi_rng1, e_evi_rng2, e_evi_enum, e_evi_zip, env0, varD, e_b_nm, e_b_tT, e_b_tL, e_b_nil, e_b_cons, wp_bind, wp_then, wp_ok, wp_truR, wp_finP, QF_nx, QF_rt, QE1_rt, QE1_nx, QT1_bool, List.map, List.length, List.replicate, List.getElem?_cons_zero, List.getElem?_cons_succ, List.set, Nat.reduceSub, List.cons_append, List.nil_append, Nat.reduceAdd, wp_ite, e_mkLT, tru_b, seqI_L, seqI_T, pures_p, pures_nil, Option.map_some, Option.bind_some, if_true, sz_0, sz_1, sz_2, sz_3, sz_4, sz_5, sz_6, sz_7, sz_8, sz_9, sz_10, sz_11, sz_12, sz_13, sz_14, sz_15, sz_16, sz_17, sz_18, sz_19, sz_20, sz_21, sz_22, sz_23, sz_24, sz_25, sz_26, sz_27, sz_28, sz_29, sz_30, sz_31, sz_32, sz_33, sz_34, sz_35, sz_36, sz_37, sz_38, sz_39, sz_40, Bool.not_true, Bool.false_eq_true, if_false, e_ixT, atI_2]
    refine number_is k hb.pl ?_
    cases q3 : okB 0 14 b
    · rw [q3] at h; simpa [gc_st, QT2_bool, wp_finP] using h
    rw [q3, Bool.true_and] at h
    simp only [e_svs_cons, e_svs_nil, e_sv_ife, e_sv_ret, e_sv_retN, e_sv_set, e_sv_setIx, e_sv_setLc, e_sv_app, e_sv_ex, e_sv_loop, e_sv_pass, e_ev_var, e_ev_lit, e_ev_glb, e_ev_gix, e_ev_bin, e_ev_neg, e_ev_not, w_and, w_or, QT2_bool, QB_bool, e_ev_one, e_ev_cmp, w_cmp2, e_ev_ife, e_ev_tup, e_mkT, e_ev_lst, e_ev_frz, e_ev_rev, e_ev_dct, e_ev_mcall, e_ev_callD, e_ev_callT, e_sv_tryS, e_sv_raise, e_tbv_ex, e_tbv_set, e_tbv_ife, e_tbv_exSet, e_sv_brk, e_sv_cont, wp_catch, e_evc_none, e_evc_some, e_ev_ix, e_ev_sl, e_ev_bi, e_ev_mx2, e_ev_isi, e_ev_call, e_ev_join, e_ev_lc, e_evs_nil, e_evs_cons, e_evo_none, e_evo_some, e_evi_seq, e_evi_rng1, e_evi_rng2, e_evi_enum, e_evi_zip, env0, varD, e_b_nm, e_b_tT, e_b_tL, e_b_nil, e_b_cons, wp_bind, wp_then, wp_ok, wp_truR, wp_finP, QF_nx, QF_rt, QE1_rt, QE1_nx, QT1_bool, List.map, List.length, List.replicate, List.getElem?_cons_zero, List.getElem?_cons_succ, List.set, Nat.reduceSub, List.cons_append, List.nil_append, Nat.reduceAdd, wp_ite, e_mkLT, tru_b, seqI_L, seqI_T, pures_p, pures_nil, Option.map_some, Option.bind_some, if_true, sz_0, sz_1, sz_2, sz_3, sz_4, sz_5, sz_6, sz_7, sz_8, sz_9, sz_10, sz_11, sz_12, sz_13, sz_14, sz_15, sz_16, sz_17, sz_18, sz_19, sz_20, sz_21, sz_22, sz_23, sz_24, sz_25, sz_26, sz_27, sz_28, sz_29, sz_30, sz_31, sz_32, sz_33, sz_34, sz_35, sz_36, sz_37, sz_38, sz_39, sz_40, Bool.not_true, Bool.false_eq_true, if_false, e_ixT, atI_3]
    refine time_is k hcc.pl ?_
    cases q5 : okB (-1000000000000) 1000000000000 c
    · rw [q5] at h; simpa [gc_st, QT2_bool, wp_finP] using h
    rw [q5, Bool.true_and] at h
    simp only [e_svs_cons, e_svs_nil, e_sv_ife, e_sv_ret, e_sv_retN, e_sv_set, e_sv_setIx, e_sv_setLc, e_sv_app, e_sv_ex, e_sv_loop, e_sv_pass, e_ev_var, e_ev_lit, e_ev_glb, e_ev_gix, e_ev_bin, e_ev_neg, e_ev_not, w_and, w_or, QT2_bool, QB_bool, e_ev_one, e_ev_cmp, w_cmp2, e_ev_ife, e_ev_tup, e_mkT, e_ev_lst, e_ev_frz, e_ev_rev, e_ev_dct, e_ev_mcall, e_ev_callD, e_ev_callT, e_sv_tryS, e_sv_raise, e_tbv_ex, e_tbv_set, e_tbv_ife, e_tbv_exSet, e_sv_brk, e_sv_cont, wp_catch, e_evc_none, e_evc_some, e_ev_ix, e_ev_sl, e_ev_bi, e_ev_mx2, e_ev_isi, e_ev_call, e_ev_join, e_ev_lc, e_evs_nil, e_evs_cons, e_evo_none, e_evo_some, e_evi_seq, e_evi_rng1, e_evi_rng2, e_evi_enum, e_evi_zip, env0, varD, e_b_nm, e_b_tT, e_b_tL, e_b_nil, e_b_cons, wp_bind, wp_then, wp_ok, wp_truR, wp_finP, QF_nx, QF_rt, QE1_rt, QE1_nx, QT1_bool, List.map, List.length, List.replicate, List.getElem?_cons_zero, List.getElem?_cons_succ, List.set, Nat.reduceSub, List.cons_append, List.nil_append, Nat.reduceAdd, wp_ite, e_mkLT, tru_b, seqI_L, seqI_T, pures_p, pures_nil, Option.map_some, Option.bind_some, if_true, sz_0, sz_1, sz_2, sz_3, sz_4, sz_5, sz_6, sz_7, sz_8, sz_9, sz_10, sz_11, sz_12, sz_13, sz_14, sz_15, sz_16, sz_17, sz_18, sz_19, sz_20, sz_21, sz_22, sz_23, sz_24, sz_25, sz_26, sz_27, sz_28, sz_29, sz_30, sz_31, sz_32, sz_33, sz_34, sz_35, sz_36, sz_37, sz_38, sz_39, sz_40, Bool.not_true, Bool.false_eq_true, if_false, e_ixT, atI_4]
    refine time_is k hd.pl ?_
    cases q6 : okB (-1000000000000) 1000000000000 d
    · rw [q6] at h; simpa [gc_st, QT2_bool, wp_finP] using h
    rw [q6, Bool.true_and] at h
    simp only [e_svs_cons, e_svs_nil, e_sv_ife, e_sv_ret, e_sv_retN, e_sv_set, e_sv_setIx, e_sv_setLc, e_sv_app, e_sv_ex, e_sv_loop, e_sv_pass, e_ev_var, e_ev_lit, e_ev_glb, e_ev_gix, e_ev_bin, e_ev_neg, e_ev_not, w_and, w_or, QT2_bool, QB_bool, e_ev_one, e_ev_cmp, w_cmp2, e_ev_ife, e_ev_tup, e_mkT, e_ev_lst, e_ev_frz, e_ev_rev, e_ev_dct, e_ev_mcall, e_ev_callD, e_ev_callT, e_sv_tryS, e_sv_raise, e_tbv_ex, e_tbv_set, e_tbv_ife, e_tbv_exSet, e_sv_brk, e_sv_cont, wp_catch, e_evc_none, e_evc_some, e_ev_ix, e_ev_sl, e_ev_bi, e_ev_mx2, e_ev_isi, e_ev_call, e_ev_join, e_ev_lc, e_evs_nil, e_evs_cons, e_evo_none, e_evo_some, e_evi_seq, e_evi_rng1, e_evi_rng2, e_evi_enum, e_evi_zip, env0, varD, e_b_nm, e_b_tT, e_b_tL, e_b_nil, e_b_cons, wp_bind, wp_then, wp_ok, wp_truR, wp_finP, QF_nx, QF_rt, QE1_rt, QE1_nx, QT1_bool, List.map, List.length, List.replicate, List.getElem?_cons_zero, List.getElem?_cons_succ, List.set, Nat.reduceSub, List.cons_append, List.nil_append, Nat.reduceAdd, wp_ite, e_mkLT, tru_b, seqI_L, seqI_T, pures_p, pures_nil, Option.map_some, Option.bind_some, if_true, sz_0, sz_1, sz_2, sz_3, sz_4, sz_5, sz_6, sz_7, sz_8, sz_9, sz_10, sz_11, sz_12, sz_13, sz_14, sz_15, sz_16, sz_17, sz_18, sz_19, sz_20, sz_21, sz_22, sz_23, sz_24, sz_25, sz_26, sz_27, sz_28, sz_29, sz_30, sz_31, sz_32, sz_33, sz_34, sz_35, sz_36, sz_37, sz_38, sz_39, sz_40, Bool.not_true, Bool.false_eq_true, if_false, e_ixT, atI_3, atI_4]
    exact le_fin q5 q6 h
  · rw [jobB_no hl] at h
    simpa [gc_st, hl] using h
theorem all_is (k : Nat) {hs gs : List Str} (hh : ∀ z ∈ hs, House z) {w : PyData} {r : List PyData} (hr : ∀ x ∈ r, Sm x) {st : Store} (hc : Clo st) {X : Exc → Store → Prop} {Q : D → Store → Prop} (h : Q (.p (.bool (allB hs r))) st) : wpe X (semK defs (k + 3) 7 [.p (townD hs gs), .p (.tuple (w :: r))] st) Q := by
  refine wp_sem (d := d7) rfl rfl ?_
  simp only [d7, b7, e_svs_cons, e_svs_nil, e_sv_ife, e_sv_ret, e_sv_retN, e_sv_set, e_sv_setIx, e_sv_setLc, e_sv_app, e_sv_ex, e_sv_loop, e_sv_pass, e_ev_var, e_ev_lit, e_ev_glb, e_ev_gix, e_ev_bin, e_ev_neg, e_ev_not, w_and, w_or, QT2_bool, QB_bool, e_ev_one, e_ev_cmp, w_cmp2, e_ev_ife, e_ev_tup, e_mkT, e_ev_lst, e_ev_frz, e_ev_rev, e_ev_dct, e_ev_mcall, e_ev_callD, e_ev_callT, e_sv_tryS, e_sv_raise, e_tbv_ex, e_tbv_set, e_tbv_ife, e_tbv_exSet, e_sv_brk, e_sv_cont, wp_catch, e_evc_none, e_evc_some, e_ev_ix, e_ev_sl, e_ev_bi, e_ev_mx2, e_ev_isi, e_ev_call, e_ev_join, e_ev_lc, e_evs_nil, e_evs_cons, e_evo_none, e_evo_some, e_evi_seq, e_evi_rng1, e_evi_rng2, e_evi_enum, e_evi_zip, env0, varD, e_b_nm, e_b_tT, e_b_tL, e_b_nil, e_b_cons, wp_bind, wp_then, wp_ok, wp_truR, wp_finP, QF_nx, QF_rt, QE1_rt, QE1_nx, QT1_bool, List.map, List.length, List.replicate, List.getElem?_cons_zero, List.getElem?_cons_succ, List.set, Nat.reduceSub, List.cons_append, List.nil_append, Nat.reduceAdd, wp_ite, e_mkLT, tru_b, seqI_L, seqI_T, pures_p, pures_nil, Option.map_some, Option.bind_some, if_true, sz_0, sz_1, sz_2, sz_3, sz_4, sz_5, sz_6, sz_7, sz_8, sz_9, sz_10, sz_11, sz_12, sz_13, sz_14, sz_15, sz_16, sz_17, sz_18, sz_19, sz_20, sz_21, sz_22, sz_23, sz_24, sz_25, sz_26, sz_27, sz_28, sz_29, sz_30, sz_31, sz_32, sz_33, sz_34, sz_35, sz_36, sz_37, sz_38, sz_39, sz_40, e_lenT, e_nei]
  rw [ne_len r.length 3 4 rfl]
  by_cases hl : r.length = 3
  · obtain ⟨a, b, c, rfl⟩ := three hl
    simp only [List.mem_cons, List.not_mem_nil, or_false, forall_eq_or_imp, forall_eq] at hr
    obtain ⟨ha, hb, hcc⟩ := hr
    have h : Q (.p (.bool (okH hs a && (okB 0 15 b && okB 0 15 c)))) st := h
    simp only [e_svs_cons, e_svs_nil, e_sv_ife, e_sv_ret, e_sv_retN, e_sv_set, e_sv_setIx, e_sv_setLc, e_sv_app, e_sv_ex, e_sv_loop, e_sv_pass, e_ev_var, e_ev_lit, e_ev_glb, e_ev_gix, e_ev_bin, e_ev_neg, e_ev_not, w_and, w_or, QT2_bool, QB_bool, e_ev_one, e_ev_cmp, w_cmp2, e_ev_ife, e_ev_tup, e_mkT, e_ev_lst, e_ev_frz, e_ev_rev, e_ev_dct, e_ev_mcall, e_ev_callD, e_ev_callT, e_sv_tryS, e_sv_raise, e_tbv_ex, e_tbv_set, e_tbv_ife, e_tbv_exSet, e_sv_brk, e_sv_cont, wp_catch, e_evc_none, e_evc_some, e_ev_ix, e_ev_sl, e_ev_bi, e_ev_mx2, e_ev_isi, e_ev_call, e_ev_join, e_ev_lc, e_evs_nil, e_evs_cons, e_evo_none, e_evo_some, e_evi_seq, e_evi_rng1, e_evi_rng2, e_evi_enum, e_evi_zip, env0, varD, e_b_nm, e_b_tT, e_b_tL, e_b_nil, e_b_cons, wp_bind, wp_then, wp_ok, wp_truR, wp_finP, QF_nx, QF_rt, QE1_rt, QE1_nx, QT1_bool, List.map, List.length, List.replicate, List.getElem?_cons_zero, List.getElem?_cons_succ, List.set, Nat.reduceSub, List.cons_append, List.nil_append, Nat.reduceAdd, wp_ite, e_mkLT, tru_b, seqI_L, seqI_T, pures_p, pures_nil, Option.map_some, Option.bind_some, if_true, sz_0, sz_1, sz_2, sz_3, sz_4, sz_5, sz_6, sz_7, sz_8, sz_9, sz_10, sz_11, sz_12, sz_13, sz_14, sz_15, sz_16, sz_17, sz_18, sz_19, sz_20, sz_21, sz_22, sz_23, sz_24, sz_25, sz_26, sz_27, sz_28, sz_29, sz_30, sz_31, sz_32, sz_33, sz_34, sz_35, sz_36, sz_37, sz_38, sz_39, sz_40, decide_true, Bool.not_true, Bool.false_eq_true, if_false, e_ixT, atI_0, atI_1, atI_2, atI_3, atI_4]
    refine of_is k hh ha hc ?_
    cases q1 : okH hs a
    · rw [q1] at h; simpa [gc_st, QT2_bool, wp_finP] using h
    rw [q1, Bool.true_and] at h
    simp only [e_svs_cons, e_svs_nil, e_sv_ife, e_sv_ret, e_sv_retN, e_sv_set, e_sv_setIx, e_sv_setLc, e_sv_app, e_sv_ex, e_sv_loop, e_sv_pass, e_ev_var, e_ev_lit, e_ev_glb, e_ev_gix, e_ev_bin, e_ev_neg, e_ev_not, w_and, w_or, QT2_bool, QB_bool, e_ev_one, e_ev_cmp, w_cmp2, e_ev_ife, e_ev_tup, e_mkT, e_ev_lst, e_ev_frz, e_ev_rev, e_ev_dct, e_ev_mcall, e_ev_callD, e_ev_callT, e_sv_tryS, e_sv_raise, e_tbv_ex, e_tbv_set, e_tbv_ife, e_tbv_exSet, e_sv_brk, e_sv_cont, wp_catch, e_evc_none, e_evc_some, e_ev_ix, e_ev_sl, e_ev_bi, e_ev_mx2, e_ev_isi, e_ev_call, e_ev_join, e_ev_lc, e_evs_nil, e_evs_cons, e_evo_none, e_evo_some, e_evi_seq, e_evi_rng1, e_evi_rng2, e_evi_enum, e_evi_zip, env0, varD, e_b_nm, e_b_tT, e_b_tL, e_b_nil, e_b_cons, wp_bind, wp_then, wp_ok, wp_truR, wp_finP, QF_nx, QF_rt, QE1_rt, QE1_nx, QT1_bool, List.map, List.length, List.replicate, List.getElem?_cons_zero, List.getElem?_cons_succ, List.set, Nat.reduceSub, List.cons_append, List.nil_append, Nat.reduceAdd, wp_ite, e_mkLT, tru_b, seqI_L, seqI_T, pures_p, pures_nil, Option.map_some, Option.bind_some, if_true, sz_0, sz_1, sz_2, sz_3, sz_4, sz_5, sz_6, sz_7, sz_8, sz_9, sz_10, sz_11, sz_12, sz_13, sz_14, sz_15, sz_16, sz_17, sz_18, sz_19, sz_20, sz_21, sz_22, sz_23, sz_24, sz_25, sz_26, sz_27, sz_28, sz_29, sz_30, sz_31, sz_32, sz_33, sz_34, sz_35, sz_36, sz_37, sz_38, sz_39, sz_40, Bool.not_true, Bool.false_eq_true, if_false, e_ixT, atI_2]
    refine between_then (k + 1) hb.pl 0 15 ?_
    cases q3 : okB 0 15 b
    · rw [q3] at h; simpa [gc_st, QT2_bool, wp_finP] using h
    rw [q3, Bool.true_and] at h
    simp only [e_svs_cons, e_svs_nil, e_sv_ife, e_sv_ret, e_sv_retN, e_sv_set, e_sv_setIx, e_sv_setLc, e_sv_app, e_sv_ex, e_sv_loop, e_sv_pass, e_ev_var, e_ev_lit, e_ev_glb, e_ev_gix, e_ev_bin, e_ev_neg, e_ev_not, w_and, w_or, QT2_bool, QB_bool, e_ev_one, e_ev_cmp, w_cmp2, e_ev_ife, e_ev_tup, e_mkT, e_ev_lst, e_ev_frz, e_ev_rev, e_ev_dct, e_ev_mcall, e_ev_callD, e_ev_callT, e_sv_tryS, e_sv_raise, e_tbv_ex, e_tbv_set, e_tbv_ife, e_tbv_exSet, e_sv_brk, e_sv_cont, wp_catch, e_evc_none, e_evc_some, e_ev_ix, e_ev_sl, e_ev_bi, e_ev_mx2, e_ev_isi, e_ev_call, e_ev_join, e_ev_lc, e_evs_nil, e_evs_cons, e_evo_none, e_evo_some, e_evi_seq, e_evi_rng1, e_evi_rng2, e_evi_enum, e_evi_zip, env0, varD, e_b_nm, e_b_tT, e_b_tL, e_b_nil, e_b_cons, wp_bind, wp_then, wp_ok, wp_truR, wp_finP, QF_nx, QF_rt, QE1_rt, QE1_nx, QT1_bool, List.map, List.length, List.replicate, List.getElem?_cons_zero, List.getElem?_cons_succ, List.set, Nat.reduceSub, List.cons_append, List.nil_append, Nat.reduceAdd, wp_ite, e_mkLT, tru_b, seqI_L, seqI_T, pures_p, pures_nil, Option.map_some, Option.bind_some, if_true, sz_0, sz_1, sz_2, sz_3, sz_4, sz_5, sz_6, sz_7, sz_8, sz_9, sz_10, sz_11, sz_12, sz_13, sz_14, sz_15, sz_16, sz_17, sz_18, sz_19, sz_20, sz_21, sz_22, sz_23, sz_24, sz_25, sz_26, sz_27, sz_28, sz_29, sz_30, sz_31, sz_32, sz_33, sz_34, sz_35, sz_36, sz_37, sz_38, sz_39, sz_40, Bool.not_true, Bool.false_eq_true, if_false, e_ixT, atI_3]
    refine between_then (k + 1) hcc.pl 0 15 ?_
    simp only [e_svs_cons, e_svs_nil, e_sv_ife, e_sv_ret, e_sv_retN, e_sv_set, e_sv_setIx, e_sv_setLc, e_sv_app, e_sv_ex, e_sv_loop, e_sv_pass, e_ev_var, e_ev_lit, e_ev_glb, e_ev_gix, e_ev_bin, e_ev_neg, e_ev_not, w_and, w_or, QT2_bool, QB_bool, e_ev_one, e_ev_cmp, w_cmp2, e_ev_ife, e_ev_tup, e_mkT, e_ev_lst, e_ev_frz, e_ev_rev, e_ev_dct, e_ev_mcall, e_ev_callD, e_ev_callT, e_sv_tryS, e_sv_raise, e_tbv_ex, e_tbv_set, e_tbv_ife, e_tbv_exSet, e_sv_brk, e_sv_cont, wp_catch, e_evc_none, e_evc_some, e_ev_ix, e_ev_sl, e_ev_bi, e_ev_mx2, e_ev_isi, e_ev_call, e_ev_join, e_ev_lc, e_evs_nil, e_evs_cons, e_evo_none, e_evo_some, e_evi_seq, e_evi_rng1, e_evi_rng2, e_evi_enum, e_evi_zip, env0, varD, e_b_nm, e_b_tT, e_b_tL, e_b_nil, e_b_cons, wp_bind, wp_then, wp_ok, wp_truR, wp_finP, QF_nx, QF_rt, QE1_rt, QE1_nx, QT1_bool, List.map, List.length, List.replicate, List.getElem?_cons_zero, List.getElem?_cons_succ, List.set, Nat.reduceSub, List.cons_append, List.nil_append, Nat.reduceAdd, wp_ite, e_mkLT, tru_b, seqI_L, seqI_T, pures_p, pures_nil, Option.map_some, Option.bind_some, if_true, sz_0, sz_1, sz_2, sz_3, sz_4, sz_5, sz_6, sz_7, sz_8, sz_9, sz_10, sz_11, sz_12, sz_13, sz_14, sz_15, sz_16, sz_17, sz_18, sz_19, sz_20, sz_21, sz_22, sz_23, sz_24, sz_25, sz_26, sz_27, sz_28, sz_29, sz_30, sz_31, sz_32, sz_33, sz_34, sz_35, sz_36, sz_37, sz_38, sz_39, sz_40, gc_st]
    exact h
  · rw [allB_no hl] at h
    simpa [gc_st, hl] using h
theorem sm_tup {vs : List PyData} (h : ∀ x ∈ vs, Sm x) : PyData.plain (.tuple vs) = true := by
  show PyData.plainAll vs = true
  induction vs with
  | nil => rfl
  | cons a r ih =>
    show (PyData.plain a && PyData.plainAll r) = true
    rw [(h a List.mem_cons_self).pl, ih fun x hx => h x (List.mem_cons_of_mem _ hx)]
    rfl
/-- a thing that may be a row -/
structure Th (x : PyData) : Prop where
  pl : x.plain = true
  sh : ∀ vs, x = .tuple vs → ∀ y ∈ vs, Sm y
theorem row_is (k : Nat) {hs gs : List Str} (hh : ∀ z ∈ hs, House z) {x : PyData} (hx : Th x) {st : Store} (hc : Clo st) {X : Exc → Store → Prop} {Q : D → Store → Prop} (h : Q (.p (.bool (rowB hs x))) st) : wpe X (semK defs (k + 4) 8 [.p (townD hs gs), .p x] st) Q := by
  refine wp_sem (d := d8) rfl rfl ?_
  simp only [d8, b8, e_svs_cons, e_svs_nil, e_sv_ife, e_sv_ret, e_sv_retN, e_sv_set, e_sv_setIx, e_sv_setLc, e_sv_app, e_sv_ex, e_sv_loop, e_sv_pass, e_ev_var, e_ev_lit, e_ev_glb, e_ev_gix, e_ev_bin, e_ev_neg, e_ev_not, w_and, w_or, QT2_bool, QB_bool, e_ev_one, e_ev_cmp, w_cmp2, e_ev_ife, e_ev_tup, e_mkT, e_ev_lst, e_ev_frz, e_ev_rev, e_ev_dct, e_ev_mcall, e_ev_callD, e_ev_callT, e_sv_tryS, e_sv_raise, e_tbv_ex, e_tbv_set, e_tbv_ife, e_tbv_exSet, e_sv_brk, e_sv_cont, wp_catch, e_evc_none, e_evc_some, e_ev_ix, e_ev_sl, e_ev_bi, e_ev_mx2, e_ev_isi, e_ev_call, e_ev_join, e_ev_lc, e_evs_nil, e_evs_cons, e_evo_none, e_evo_some, e_evi_seq, e_evi_rng1, e_evi_rng2, e_evi_enum, e_evi_zip, env0, varD, e_b_nm, e_b_tT, e_b_tL, e_b_nil, e_b_cons, wp_bind, wp_then, wp_ok, wp_truR, wp_finP, QF_nx, QF_rt, QE1_rt, QE1_nx, QT1_bool, List.map, List.length, List.replicate, List.getElem?_cons_zero, List.getElem?_cons_succ, List.set, Nat.reduceSub, List.cons_append, List.nil_append, Nat.reduceAdd, wp_ite, e_mkLT, tru_b, seqI_L, seqI_T, pures_p, pures_nil, Option.map_some, Option.bind_some, if_true, sz_0, sz_1, sz_2, sz_3, sz_4, sz_5, sz_6, sz_7, sz_8, sz_9, sz_10, sz_11, sz_12, sz_13, sz_14, sz_15, sz_16, sz_17, sz_18, sz_19, sz_20, sz_21, sz_22, sz_23, sz_24, sz_25, sz_26, sz_27, sz_28, sz_29, sz_30, sz_31, sz_32, sz_33, sz_34, sz_35, sz_36, sz_37, sz_38, sz_39, sz_40, e_isTuple hx.pl]
  cases x with
  | tuple vs =>
    have hv := hx.sh vs rfl
    cases vs with
    | nil =>
      have h : Q (.p (.bool false)) st := h
      simpa [isTuple, e_lenT, e_eqi, gc_st, QT2_bool, QT1_bool] using h
    | cons w r =>
      have hw := hv w List.mem_cons_self
      have hr : ∀ x ∈ r, Sm x := fun x hx => hv x (List.mem_cons_of_mem _ hx)
      have e0 : ((((w :: r).length : Nat) : Int) == 0) = false := by
        rw [Bool.eq_false_iff]
        intro e
        have := eq_of_beq e
        simp at this
        omega
      simp only [isTuple, Bool.not_true, Bool.false_eq_true, if_false, e_svs_cons, e_svs_nil, e_sv_ife, e_sv_ret, e_sv_retN, e_sv_set, e_sv_setIx, e_sv_setLc, e_sv_app, e_sv_ex, e_sv_loop, e_sv_pass, e_ev_var, e_ev_lit, e_ev_glb, e_ev_gix, e_ev_bin, e_ev_neg, e_ev_not, w_and, w_or, QT2_bool, QB_bool, e_ev_one, e_ev_cmp, w_cmp2, e_ev_ife, e_ev_tup, e_mkT, e_ev_lst, e_ev_frz, e_ev_rev, e_ev_dct, e_ev_mcall, e_ev_callD, e_ev_callT, e_sv_tryS, e_sv_raise, e_tbv_ex, e_tbv_set, e_tbv_ife, e_tbv_exSet, e_sv_brk, e_sv_cont, wp_catch, e_evc_none, e_evc_some, e_ev_ix, e_ev_sl, e_ev_bi, e_ev_mx2, e_ev_isi, e_ev_call, e_ev_join, e_ev_lc, e_evs_nil, e_evs_cons, e_evo_none, e_evo_some, e_evi_seq, e_evi_rng1, e_evi_rng2, e_evi_enum, e_evi_zip, env0, varD, e_b_nm, e_b_tT, e_b_tL, e_b_nil, e_b_cons, wp_bind, wp_then, wp_ok, wp_truR, wp_finP, QF_nx, QF_rt, QE1_rt, QE1_nx, QT1_bool, List.map, List.length, List.replicate, List.getElem?_cons_zero, List.getElem?_cons_succ, List.set, Nat.reduceSub, List.cons_append, List.nil_append, Nat.reduceAdd, wp_ite, e_mkLT, tru_b, seqI_L, seqI_T, pures_p, pures_nil, Option.map_some, Option.bind_some, if_true, sz_0, sz_1, sz_2, sz_3, sz_4, sz_5, sz_6, sz_7, sz_8, sz_9, sz_10, sz_11, sz_12, sz_13, sz_14, sz_15, sz_16, sz_17, sz_18, sz_19, sz_20, sz_21, sz_22, sz_23, sz_24, sz_25, sz_26, sz_27, sz_28, sz_29, sz_30, sz_31, sz_32, sz_33, sz_34, sz_35, sz_36, sz_37, sz_38, sz_39, sz_40, e_lenT, e_eqi, e_ixT, atI_0, e_isStr hw.pl]
      have e1 : ((((r.length + 1 : Nat) : Nat) : Int) == 0) = false := e0
      simp only [e1, Bool.false_eq_true, if_false]
      cases w with
      | str w =>
        rw [row_w] at h
        simp only [isStr, Bool.not_true, Bool.false_eq_true, if_false, e_svs_cons, e_svs_nil, e_sv_ife, e_sv_ret, e_sv_retN, e_sv_set, e_sv_setIx, e_sv_setLc, e_sv_app, e_sv_ex, e_sv_loop, e_sv_pass, e_ev_var, e_ev_lit, e_ev_glb, e_ev_gix, e_ev_bin, e_ev_neg, e_ev_not, w_and, w_or, QT2_bool, QB_bool, e_ev_one, e_ev_cmp, w_cmp2, e_ev_ife, e_ev_tup, e_mkT, e_ev_lst, e_ev_frz, e_ev_rev, e_ev_dct, e_ev_mcall, e_ev_callD, e_ev_callT, e_sv_tryS, e_sv_raise, e_tbv_ex, e_tbv_set, e_tbv_ife, e_tbv_exSet, e_sv_brk, e_sv_cont, wp_catch, e_evc_none, e_evc_some, e_ev_ix, e_ev_sl, e_ev_bi, e_ev_mx2, e_ev_isi, e_ev_call, e_ev_join, e_ev_lc, e_evs_nil, e_evs_cons, e_evo_none, e_evo_some, e_evi_seq, e_evi_rng1, e_evi_rng2, e_evi_enum, e_evi_zip, env0, varD, e_b_nm, e_b_tT, e_b_tL, e_b_nil, e_b_cons, wp_bind, wp_then, wp_ok, wp_truR, wp_finP, QF_nx, QF_rt, QE1_rt, QE1_nx, QT1_bool, List.map, List.length, List.replicate, List.getElem?_cons_zero, List.getElem?_cons_succ, List.set, Nat.reduceSub, List.cons_append, List.nil_append, Nat.reduceAdd, wp_ite, e_mkLT, tru_b, seqI_L, seqI_T, pures_p, pures_nil, Option.map_some, Option.bind_some, if_true, sz_0, sz_1, sz_2, sz_3, sz_4, sz_5, sz_6, sz_7, sz_8, sz_9, sz_10, sz_11, sz_12, sz_13, sz_14, sz_15, sz_16, sz_17, sz_18, sz_19, sz_20, sz_21, sz_22, sz_23, sz_24, sz_25, sz_26, sz_27, sz_28, sz_29, sz_30, sz_31, sz_32, sz_33, sz_34, sz_35, sz_36, sz_37, sz_38, sz_39, sz_40, e_eqs]
        cases q1 : w == "ask"
        · rw [q1, if_neg (by simp)] at h
          simp only [Bool.false_eq_true, if_false]
          cases q2 : w == "job"
          · rw [q2, if_neg (by simp)] at h
            simp only [Bool.false_eq_true, if_false]
            cases q3 : w == "all"
            · rw [q3] at h
              simpa [gc_st, QT2_bool, wp_finP] using h
            · rw [q3] at h
              simp only [if_true]
              refine all_is k hh hr hc ?_
              simp only [e_svs_cons, e_svs_nil, e_sv_ife, e_sv_ret, e_sv_retN, e_sv_set, e_sv_setIx, e_sv_setLc, e_sv_app, e_sv_ex, e_sv_loop, e_sv_pass, e_ev_var, e_ev_lit, e_ev_glb, e_ev_gix, e_ev_bin, e_ev_neg, e_ev_not, w_and, w_or, QT2_bool, QB_bool, e_ev_one, e_ev_cmp, w_cmp2, e_ev_ife, e_ev_tup, e_mkT, e_ev_lst, e_ev_frz, e_ev_rev, e_ev_dct, e_ev_mcall, e_ev_callD, e_ev_callT, e_sv_tryS, e_sv_raise, e_tbv_ex, e_tbv_set, e_tbv_ife, e_tbv_exSet, e_sv_brk, e_sv_cont, wp_catch, e_evc_none, e_evc_some, e_ev_ix, e_ev_sl, e_ev_bi, e_ev_mx2, e_ev_isi, e_ev_call, e_ev_join, e_ev_lc, e_evs_nil, e_evs_cons, e_evo_none, e_evo_some, e_evi_seq, e_evi_rng1, e_evi_rng2, e_evi_enum, e_evi_zip, env0, varD, e_b_nm, e_b_tT, e_b_tL, e_b_nil, e_b_cons, wp_bind, wp_then, wp_ok, wp_truR, wp_finP, QF_nx, QF_rt, QE1_rt, QE1_nx, QT1_bool, List.map, List.length, List.replicate, List.getElem?_cons_zero, List.getElem?_cons_succ, List.set, Nat.reduceSub, List.cons_append, List.nil_append, Nat.reduceAdd, wp_ite, e_mkLT, tru_b, seqI_L, seqI_T, pures_p, pures_nil, Option.map_some, Option.bind_some, if_true, sz_0, sz_1, sz_2, sz_3, sz_4, sz_5, sz_6, sz_7, sz_8, sz_9, sz_10, sz_11, sz_12, sz_13, sz_14, sz_15, sz_16, sz_17, sz_18, sz_19, sz_20, sz_21, sz_22, sz_23, sz_24, sz_25, sz_26, sz_27, sz_28, sz_29, sz_30, sz_31, sz_32, sz_33, sz_34, sz_35, sz_36, sz_37, sz_38, sz_39, sz_40, gc_st]
              simpa using h
          · rw [q2, if_pos rfl] at h
            simp only [if_true]
            refine job_is k hh hr hc ?_
            simp only [e_svs_cons, e_svs_nil, e_sv_ife, e_sv_ret, e_sv_retN, e_sv_set, e_sv_setIx, e_sv_setLc, e_sv_app, e_sv_ex, e_sv_loop, e_sv_pass, e_ev_var, e_ev_lit, e_ev_glb, e_ev_gix, e_ev_bin, e_ev_neg, e_ev_not, w_and, w_or, QT2_bool, QB_bool, e_ev_one, e_ev_cmp, w_cmp2, e_ev_ife, e_ev_tup, e_mkT, e_ev_lst, e_ev_frz, e_ev_rev, e_ev_dct, e_ev_mcall, e_ev_callD, e_ev_callT, e_sv_tryS, e_sv_raise, e_tbv_ex, e_tbv_set, e_tbv_ife, e_tbv_exSet, e_sv_brk, e_sv_cont, wp_catch, e_evc_none, e_evc_some, e_ev_ix, e_ev_sl, e_ev_bi, e_ev_mx2, e_ev_isi, e_ev_call, e_ev_join, e_ev_lc, e_evs_nil, e_evs_cons, e_evo_none, e_evo_some, e_evi_seq, e_evi_rng1, e_evi_rng2, e_evi_enum, e_evi_zip, env0, varD, e_b_nm, e_b_tT, e_b_tL, e_b_nil, e_b_cons, wp_bind, wp_then, wp_ok, wp_truR, wp_finP, QF_nx, QF_rt, QE1_rt, QE1_nx, QT1_bool, List.map, List.length, List.replicate, List.getElem?_cons_zero, List.getElem?_cons_succ, List.set, Nat.reduceSub, List.cons_append, List.nil_append, Nat.reduceAdd, wp_ite, e_mkLT, tru_b, seqI_L, seqI_T, pures_p, pures_nil, Option.map_some, Option.bind_some, if_true, sz_0, sz_1, sz_2, sz_3, sz_4, sz_5, sz_6, sz_7, sz_8, sz_9, sz_10, sz_11, sz_12, sz_13, sz_14, sz_15, sz_16, sz_17, sz_18, sz_19, sz_20, sz_21, sz_22, sz_23, sz_24, sz_25, sz_26, sz_27, sz_28, sz_29, sz_30, sz_31, sz_32, sz_33, sz_34, sz_35, sz_36, sz_37, sz_38, sz_39, sz_40, gc_st]
            exact h
        · rw [q1, if_pos rfl] at h
          simp only [if_true]
          refine ask_is k hh hr hc ?_
          simp only [e_svs_cons, e_svs_nil, e_sv_ife, e_sv_ret, e_sv_retN, e_sv_set, e_sv_setIx, e_sv_setLc, e_sv_app, e_sv_ex, e_sv_loop, e_sv_pass, e_ev_var, e_ev_lit, e_ev_glb, e_ev_gix, e_ev_bin, e_ev_neg, e_ev_not, w_and, w_or, QT2_bool, QB_bool, e_ev_one, e_ev_cmp, w_cmp2, e_ev_ife, e_ev_tup, e_mkT, e_ev_lst, e_ev_frz, e_ev_rev, e_ev_dct, e_ev_mcall, e_ev_callD, e_ev_callT, e_sv_tryS, e_sv_raise, e_tbv_ex, e_tbv_set, e_tbv_ife, e_tbv_exSet, e_sv_brk, e_sv_cont, wp_catch, e_evc_none, e_evc_some, e_ev_ix, e_ev_sl, e_ev_bi, e_ev_mx2, e_ev_isi, e_ev_call, e_ev_join, e_ev_lc, e_evs_nil, e_evs_cons, e_evo_none, e_evo_some, e_evi_seq, e_evi_rng1, e_evi_rng2, e_evi_enum, e_evi_zip, env0, varD, e_b_nm, e_b_tT, e_b_tL, e_b_nil, e_b_cons, wp_bind, wp_then, wp_ok, wp_truR, wp_finP, QF_nx, QF_rt, QE1_rt, QE1_nx, QT1_bool, List.map, List.length, List.replicate, List.getElem?_cons_zero, List.getElem?_cons_succ, List.set, Nat.reduceSub, List.cons_append, List.nil_append, Nat.reduceAdd, wp_ite, e_mkLT, tru_b, seqI_L, seqI_T, pures_p, pures_nil, Option.map_some, Option.bind_some, if_true, sz_0, sz_1, sz_2, sz_3, sz_4, sz_5, sz_6, sz_7, sz_8, sz_9, sz_10, sz_11, sz_12, sz_13, sz_14, sz_15, sz_16, sz_17, sz_18, sz_19, sz_20, sz_21, sz_22, sz_23, sz_24, sz_25, sz_26, sz_27, sz_28, sz_29, sz_30, sz_31, sz_32, sz_33, sz_34, sz_35, sz_36, sz_37, sz_38, sz_39, sz_40, gc_st]
          exact h
      | dict kvs => cases hw.pl
      | _ =>
        have h : Q (.p (.bool false)) st := h
        simpa [isStr, gc_st] using h
  | dict kvs => cases hx.pl
  | _ =>
    have h : Q (.p (.bool false)) st := h
    simpa [isTuple, gc_st] using h
/-! a drawn town's names are houses -/
theorem cutS_tl (z : Str) (lo hi : Option Int) : (cutS z lo hi).cps.toList = cut z.cps.toList lo hi := by
  unfold cutS cut
  rw [Array.length_toList]
  rfl
theorem at_nat (w : Int) (n : Nat) : ∃ a : Nat, atOf w n = a := by
  unfold atOf
  split
  · exact ⟨0, rfl⟩
  · split
    · exact ⟨n, rfl⟩
    · exact ⟨n / 2, by omega⟩
theorem tl_len (z : Str) : z.length = z.cps.toList.length := by
  rw [Array.length_toList]; rfl
theorem name_house {b : Str} (hb : ∀ c ∈ b.cps.toList, isL c) (h7 : b.length = 7) (w t s : Int) (k : Nat) : House (nameAt b w t s k) := by
  obtain ⟨p, hp⟩ : ∃ p, p = partOf b w s k := ⟨_, rfl⟩
  have hpl : p.length ≤ 7 := by rw [hp, ← h7]; exact cutS_le _ _ _
  have hpm : ∀ c ∈ p.cps.toList, isL c := fun c hc => by
    rw [hp] at hc
    unfold partOf at hc
    rw [cutS_tl] at hc
    exact hb c (List.mem_of_mem_drop (List.mem_of_mem_take hc))
  obtain ⟨a, ha⟩ := at_nat w p.length
  have e : (nameAt b w t s k).cps.toList = p.cps.toList.take a ++ [97 + ((t + 3 * (k : Int)) % 26).toNat] ++ p.cps.toList.drop a := by
    unfold nameAt
    rw [← hp, ha, str_app_tl, str_app_tl, cutS_tl, cutS_tl, cut_take, cut_drop]
  have hl : (nameAt b w t s k).length = p.length + 1 := by
    rw [tl_len, e, tl_len p]
    simp only [List.length_append, List.length_take, List.length_drop, List.length_singleton]
    omega
  refine ⟨by omega, by omega, fun c hc => ?_⟩
  rw [e] at hc
  have h1 := Int.emod_nonneg (t + 3 * (k : Int)) (show (26 : Int) ≠ 0 by decide)
  have h2 := Int.emod_lt_of_pos (t + 3 * (k : Int)) (show (0 : Int) < 26 by decide)
  rcases List.mem_append.mp hc with hc | hc
  · rcases List.mem_append.mp hc with hc | hc
    · exact hpm c (List.mem_of_mem_take hc)
    · rw [List.mem_singleton.mp hc]
      exact ⟨by omega, by omega⟩
  · exact hpm c (List.mem_of_mem_drop hc)
theorem Town.house {m : Nat} {hs gs : List Str} (T : Town m hs gs) : ∀ z ∈ hs, House z := by
  obtain ⟨b, w, t, s, n, hb, h7, _, _, _, _, _, _, _, _, rfl⟩ := T.names
  intro z hz
  obtain ⟨k, _, rfl⟩ := List.mem_map.mp (sortS_mem.mp hz)
  exact name_house hb h7 w t s k
/-! what a row is: the law's way -/
def whole : PyData → Bool
  | .int _ => true
  | _ => false
theorem whole_is (k : Nat) {x : PyData} (hp : x.plain = true) {st : Store} {X : Exc → Store → Prop} {Q : D → Store → Prop} (h : Q (.p (.bool (whole x))) st) : wpe X (semK defs (k + 1) 20 [.p x] st) Q := by
  refine wp_sem (d := d20) rfl rfl ?_
  simp only [d20, b20, e_svs_cons, e_svs_nil, e_sv_ife, e_sv_ret, e_sv_retN, e_sv_set, e_sv_setIx, e_sv_setLc, e_sv_app, e_sv_ex, e_sv_loop, e_sv_pass, e_ev_var, e_ev_lit, e_ev_glb, e_ev_gix, e_ev_bin, e_ev_neg, e_ev_not, w_and, w_or, QT2_bool, QB_bool, e_ev_one, e_ev_cmp, w_cmp2, e_ev_ife, e_ev_tup, e_mkT, e_ev_lst, e_ev_frz, e_ev_rev, e_ev_dct, e_ev_mcall, e_ev_callD, e_ev_callT, e_sv_tryS, e_sv_raise, e_tbv_ex, e_tbv_set, e_tbv_ife, e_tbv_exSet, e_sv_brk, e_sv_cont, wp_catch, e_evc_none, e_evc_some, e_ev_ix, e_ev_sl, e_ev_bi, e_ev_mx2, e_ev_isi, e_ev_call, e_ev_join, e_ev_lc, e_evs_nil, e_evs_cons, e_evo_none, e_evo_some, e_evi_seq, e_evi_rng1, e_evi_rng2, e_evi_enum, e_evi_zip, env0, varD, e_b_nm, e_b_tT, e_b_tL, e_b_nil, e_b_cons, wp_bind, wp_then, wp_ok, wp_truR, wp_finP, QF_nx, QF_rt, QE1_rt, QE1_nx, QT1_bool, List.map, List.length, List.replicate, List.getElem?_cons_zero, List.getElem?_cons_succ, List.set, Nat.reduceSub, List.cons_append, List.nil_append, Nat.reduceAdd, wp_ite, e_mkLT, tru_b, seqI_L, seqI_T, pures_p, pures_nil, Option.map_some, Option.bind_some, if_true, sz_0, sz_1, sz_2, sz_3, sz_4, sz_5, sz_6, sz_7, sz_8, sz_9, sz_10, sz_11, sz_12, sz_13, sz_14, sz_15, sz_16, sz_17, sz_18, sz_19, sz_20, sz_21, sz_22, sz_23, sz_24, sz_25, sz_26, sz_27, sz_28, sz_29, sz_30, sz_31, sz_32, sz_33, sz_34, sz_35, sz_36, sz_37, sz_38, sz_39, sz_40, e_isInt hp, e_isBool hp, gc_st]
  cases x <;> first | (cases hp; done) | simpa [MP.isInt, isBool, whole, gc_st] using h
def okS (hs : List Str) (c : Nat) (x : PyData) : Bool := if c = 104 then okH hs x else if c = 110 then okB 0 14 x else if c = 116 then okB (-1000000000000) 1000000000000 x else okB 0 15 x
theorem set_new (st : Store) (c c' : Cell) : (st ++ [c]).set st.length c' = st ++ [c'] := by
  rw [List.set_append_right _ _ (Nat.le_refl _)]; simp
theorem get_new (st : Store) (c : Cell) : (st ++ [c])[st.length]? = some c := List.getElem?_concat_length ..
theorem disp_new (st : Store) (a b c : Str) (x y z : D) (h1 : a ≠ b) (h2 : a ≠ c) (h3 : b ≠ c) : dispD st.length [a, b, c] [x, y, z] (st ++ [.dct []]) = .ok (.c st.length) (st ++ [.dct [(.inr a, x), (.inr b, y), (.inr c, z)]]) := by
  rw [disp3 (dcell_new st) a b c x y z h1 h2 h3, set_new]
def ntc : List (Key × D) := [(.inr "n", .p (.tuple [.int 0, .int 14])), (.inr "t", .p (.tuple [.int (0 - 1000000000000), .int 1000000000000])), (.inr "c", .p (.tuple [.int 0, .int 15]))]
theorem ne_nt : ("n" : Str) ≠ "t" := by decide +kernel
theorem ne_nc : ("n" : Str) ≠ "c" := by decide +kernel
theorem ne_tc : ("t" : Str) ≠ "c" := by decide +kernel
theorem ntc_disp (st : Store) : dispD st.length ["n", "t", "c"] [.p (.tuple [.int 0, .int 14]), .p (.tuple [.int (0 - 1000000000000), .int 1000000000000]), .p (.tuple [.int 0, .int 15])] (st ++ [.dct []]) = .ok (.c st.length) (st ++ [.dct ntc]) := disp_new st _ _ _ _ _ _ ne_nt ne_nc ne_tc
theorem s_n : (⟨#[110]⟩ : Str) = "n" := by decide +kernel
theorem s_t : (⟨#[116]⟩ : Str) = "t" := by decide +kernel
theorem s_c : (⟨#[99]⟩ : Str) = "c" := by decide +kernel
theorem s_h : (⟨#[104]⟩ : Str) = "h" := by decide +kernel
theorem eq_nh : (("n" : Str) == "h") = false := by decide +kernel
theorem eq_th : (("t" : Str) == "h") = false := by decide +kernel
theorem eq_ch : (("c" : Str) == "h") = false := by decide +kernel
theorem ntc_n : valD ntc (.inr "n") = some (.p (.tuple [.int 0, .int 14])) := by unfold ntc; rw [valD_cons, if_pos rfl]
theorem ntc_t : valD ntc (.inr "t") = some (.p (.tuple [.int (0 - 1000000000000), .int 1000000000000])) := by unfold ntc; rw [valD_cons, if_neg ne_nt, valD_cons, if_pos rfl]
theorem ntc_c : valD ntc (.inr "c") = some (.p (.tuple [.int 0, .int 15])) := by unfold ntc; rw [valD_cons, if_neg ne_nc, valD_cons, if_neg ne_tc, valD_cons, if_pos rfl]
theorem ntc_ix (st : Store) {z : Str} {d : D} (h : valD ntc (.inr z) = some d) : ixD (.c st.length) (.p (.str z)) (st ++ [.dct ntc]) = .ok d (st ++ [.dct ntc]) := ix_d (get_new st _) h
theorem okB_whole {lo hi : Int} {x : PyData} (h : whole x = false) : okB lo hi x = false := by
  cases x <;> first | rfl | cases h
theorem loop_row (k : Nat) {hs gs : List Str} {st : Store} {u0 u1 : Option D} {Q : Fl → Store → Prop} : ∀ (l : List (Nat × PyData)) (ex : Store) (x3 x4 x5 x6 : Option D), (∀ p ∈ l, (p.1 = 104 ∨ p.1 = 110 ∨ p.1 = 116 ∨ p.1 = 99) ∧ Sm p.2) →
    ((l.all fun p => okS hs p.1 p.2) = true → ∀ ex x3 x4 x5 x6, Q (.nx [some (.p (townD hs gs)), u0, u1, x3, x4, x5, x6]) (st ++ ex)) → ((l.all fun p => okS hs p.1 p.2) = false → ∀ ex, Q (.rt (.p (.bool false))) (st ++ ex)) →
    wpe NoX (forL (fun _ => True) (.tup (.cons (.nm 3) (.cons (.nm 4) .nil))) (svs (semK defs (k + 1)) b21_l0) (l.map fun p => .two (.p (.str ⟨#[p.1]⟩)) (.p p.2)) [some (.p (townD hs gs)), u0, u1, x3, x4, x5, x6] (st ++ ex)) Q
  | [], ex, x3, x4, x5, x6, hl, h1, h2 => wp_for_nil trivial (h1 rfl ex x3 x4 x5 x6)
  | (c, x) :: r, ex, x3, x4, x5, x6, hl, h1, h2 => by
    obtain ⟨hc, hx⟩ := hl (c, x) List.mem_cons_self
    have hx : Sm x := hx
    have hc : c = 104 ∨ c = 110 ∨ c = 116 ∨ c = 99 := hc
    have hr := fun p hp => hl p (List.mem_cons_of_mem _ hp)
    have ih := loop_row k (hs := hs) (st := st) (u0 := u0) (u1 := u1) (gs := gs) (Q := Q) r
    refine wp_for_cons trivial rfl ?_
    rw [List.all_cons] at h1 h2
    have fin0 : okS hs c x = false → ∀ ex, Q (.rt (.p (.bool false))) (st ++ ex) := fun e ex => h2 (by show (okS hs c x && _) = false; rw [e]; rfl) ex
    have fin1 : okS hs c x = true → ∀ ex x3 x4 x5 x6, wpe NoX (forL (fun _ => True) (.tup (.cons (.nm 3) (.cons (.nm 4) .nil))) (svs (semK defs (k + 1)) b21_l0) (r.map fun p => .two (.p (.str ⟨#[p.1]⟩)) (.p p.2)) [some (.p (townD hs gs)), u0, u1, x3, x4, x5, x6] (st ++ ex)) Q := fun e ex x3 x4 x5 x6 =>
      ih ex x3 x4 x5 x6 hr (fun q => h1 (by show (okS hs c x && _) = true; rw [e, q]; rfl)) (fun q => h2 (by show (okS hs c x && _) = false; rw [q, Bool.and_false]))
    have num : ∀ (lo hi : Int) (n : Int) (k2 : Bool), okS hs c x = okB lo hi (.int n) → (!decide (n < lo)) = k2 → k2 = false → okS hs c x = false := fun lo hi n k2 e e1 e2 => by
      rw [e]
      subst e2
      simp at e1
      have : ¬ lo ≤ n := by omega
      simp [okB, this]
    have num2 : ∀ (lo hi : Int) (n : Int), okS hs c x = okB lo hi (.int n) → (!decide (n < lo)) = true → okS hs c x = !decide (hi < n) := fun lo hi n e e1 => by
      rw [e]
      simp at e1
      rw [Bool.eq_iff_iff]
      simp [okB]
      omega
    have step : ∀ (lo hi : Int) (z : Str), okS hs c x = okB lo hi x → (z == "h") = false → valD ntc (.inr z) = some (.p (.tuple [.int lo, .int hi])) →
        wpe NoX (svs (semK defs (k + 1)) b21_l0 [some (.p (townD hs gs)), u0, u1, some (.p (.str z)), some (.p x), x5, x6] (st ++ ex)) (QN Q fun env st' => wpe NoX (forL (fun _ => True) (.tup (.cons (.nm 3) (.cons (.nm 4) .nil))) (svs (semK defs (k + 1)) b21_l0) (r.map fun p => .two (.p (.str ⟨#[p.1]⟩)) (.p p.2)) env st') Q) := fun lo hi z e ez ev => by
      unfold b21_l0
      simp only [e_svs_cons, e_svs_nil, e_sv_ife, e_sv_ret, e_sv_retN, e_sv_set, e_sv_setIx, e_sv_setLc, e_sv_app, e_sv_ex, e_sv_loop, e_sv_pass, e_ev_var, e_ev_lit, e_ev_glb, e_ev_gix, e_ev_bin, e_ev_neg, e_ev_not, w_and, w_or, QT2_bool, QB_bool, e_ev_one, e_ev_cmp, w_cmp2, e_ev_ife, e_ev_tup, e_mkT, e_ev_lst, e_ev_frz, e_ev_rev, e_ev_dct, e_ev_mcall, e_ev_callD, e_ev_callT, e_sv_tryS, e_sv_raise, e_tbv_ex, e_tbv_set, e_tbv_ife, e_tbv_exSet, e_sv_brk, e_sv_cont, wp_catch, e_evc_none, e_evc_some, e_ev_ix, e_ev_sl, e_ev_bi, e_ev_mx2, e_ev_isi, e_ev_call, e_ev_join, e_ev_lc, e_evs_nil, e_evs_cons, e_evo_none, e_evo_some, e_evi_seq, e_evi_rng1, e_evi_rng2, e_evi_enum, e_evi_zip, env0, varD, e_b_nm, e_b_tT, e_b_tL, e_b_nil, e_b_cons, wp_bind, wp_then, wp_ok, wp_truR, wp_finP, QF_nx, QF_rt, QE1_rt, QE1_nx, QT1_bool, List.map, List.length, List.replicate, List.getElem?_cons_zero, List.getElem?_cons_succ, List.set, Nat.reduceSub, List.cons_append, List.nil_append, Nat.reduceAdd, wp_ite, e_mkLT, tru_b, seqI_L, seqI_T, pures_p, pures_nil, Option.map_some, Option.bind_some, if_true, sz_0, sz_1, sz_2, sz_3, sz_4, sz_5, sz_6, sz_7, sz_8, sz_9, sz_10, sz_11, sz_12, sz_13, sz_14, sz_15, sz_16, sz_17, sz_18, sz_19, sz_20, sz_21, sz_22, sz_23, sz_24, sz_25, sz_26, sz_27, sz_28, sz_29, sz_30, sz_31, sz_32, sz_33, sz_34, sz_35, sz_36, sz_37, sz_38, sz_39, sz_40, e_eqs, ez, Bool.false_eq_true, if_false, e_pow12, e_sub, ntc_disp, ntc_ix _ ev]
      refine whole_is k hx.pl ?_
      cases hw : whole x
      · have := fin0 (by rw [e, okB_whole hw]) (ex ++ [.dct ntc])
        rw [← List.append_assoc] at this
        simpa [QN_rt] using this
      · cases x with
        | int n =>
          simp only [e_svs_cons, e_svs_nil, e_sv_ife, e_sv_ret, e_sv_retN, e_sv_set, e_sv_setIx, e_sv_setLc, e_sv_app, e_sv_ex, e_sv_loop, e_sv_pass, e_ev_var, e_ev_lit, e_ev_glb, e_ev_gix, e_ev_bin, e_ev_neg, e_ev_not, w_and, w_or, QT2_bool, QB_bool, e_ev_one, e_ev_cmp, w_cmp2, e_ev_ife, e_ev_tup, e_mkT, e_ev_lst, e_ev_frz, e_ev_rev, e_ev_dct, e_ev_mcall, e_ev_callD, e_ev_callT, e_sv_tryS, e_sv_raise, e_tbv_ex, e_tbv_set, e_tbv_ife, e_tbv_exSet, e_sv_brk, e_sv_cont, wp_catch, e_evc_none, e_evc_some, e_ev_ix, e_ev_sl, e_ev_bi, e_ev_mx2, e_ev_isi, e_ev_call, e_ev_join, e_ev_lc, e_evs_nil, e_evs_cons, e_evo_none, e_evo_some, e_evi_seq, e_evi_rng1, e_evi_rng2, e_evi_enum, e_evi_zip, env0, varD, e_b_nm, e_b_tT, e_b_tL, e_b_nil, e_b_cons, wp_bind, wp_then, wp_ok, wp_truR, wp_finP, QF_nx, QF_rt, QE1_rt, QE1_nx, QT1_bool, List.map, List.length, List.replicate, List.getElem?_cons_zero, List.getElem?_cons_succ, List.set, Nat.reduceSub, List.cons_append, List.nil_append, Nat.reduceAdd, wp_ite, e_mkLT, tru_b, seqI_L, seqI_T, pures_p, pures_nil, Option.map_some, Option.bind_some, if_true, sz_0, sz_1, sz_2, sz_3, sz_4, sz_5, sz_6, sz_7, sz_8, sz_9, sz_10, sz_11, sz_12, sz_13, sz_14, sz_15, sz_16, sz_17, sz_18, sz_19, sz_20, sz_21, sz_22, sz_23, sz_24, sz_25, sz_26, sz_27, sz_28, sz_29, sz_30, sz_31, sz_32, sz_33, sz_34, sz_35, sz_36, sz_37, sz_38, sz_39, sz_40, Bool.not_true, Bool.false_eq_true, if_false, e_le]
          cases hk : !decide (n < lo)
          · have := fin0 (num lo hi n false e hk rfl) (ex ++ [.dct ntc])
            rw [← List.append_assoc] at this
            simpa [QN_rt] using this
          · have e2 := num2 lo hi n e hk
            simp only [e_svs_cons, e_svs_nil, e_sv_ife, e_sv_ret, e_sv_retN, e_sv_set, e_sv_setIx, e_sv_setLc, e_sv_app, e_sv_ex, e_sv_loop, e_sv_pass, e_ev_var, e_ev_lit, e_ev_glb, e_ev_gix, e_ev_bin, e_ev_neg, e_ev_not, w_and, w_or, QT2_bool, QB_bool, e_ev_one, e_ev_cmp, w_cmp2, e_ev_ife, e_ev_tup, e_mkT, e_ev_lst, e_ev_frz, e_ev_rev, e_ev_dct, e_ev_mcall, e_ev_callD, e_ev_callT, e_sv_tryS, e_sv_raise, e_tbv_ex, e_tbv_set, e_tbv_ife, e_tbv_exSet, e_sv_brk, e_sv_cont, wp_catch, e_evc_none, e_evc_some, e_ev_ix, e_ev_sl, e_ev_bi, e_ev_mx2, e_ev_isi, e_ev_call, e_ev_join, e_ev_lc, e_evs_nil, e_evs_cons, e_evo_none, e_evo_some, e_evi_seq, e_evi_rng1, e_evi_rng2, e_evi_enum, e_evi_zip, env0, varD, e_b_nm, e_b_tT, e_b_tL, e_b_nil, e_b_cons, wp_bind, wp_then, wp_ok, wp_truR, wp_finP, QF_nx, QF_rt, QE1_rt, QE1_nx, QT1_bool, List.map, List.length, List.replicate, List.getElem?_cons_zero, List.getElem?_cons_succ, List.set, Nat.reduceSub, List.cons_append, List.nil_append, Nat.reduceAdd, wp_ite, e_mkLT, tru_b, seqI_L, seqI_T, pures_p, pures_nil, Option.map_some, Option.bind_some, if_true, sz_0, sz_1, sz_2, sz_3, sz_4, sz_5, sz_6, sz_7, sz_8, sz_9, sz_10, sz_11, sz_12, sz_13, sz_14, sz_15, sz_16, sz_17, sz_18, sz_19, sz_20, sz_21, sz_22, sz_23, sz_24, sz_25, sz_26, sz_27, sz_28, sz_29, sz_30, sz_31, sz_32, sz_33, sz_34, sz_35, sz_36, sz_37, sz_38, sz_39, sz_40, if_true, e_le]
            cases hk2 : !decide (hi < n)
            · rw [hk2] at e2
              have := fin0 e2 (ex ++ [.dct ntc])
              rw [← List.append_assoc] at this
              simpa [QN_rt] using this
            · rw [hk2] at e2
              have := fin1 e2 (ex ++ [.dct ntc])
              rw [← List.append_assoc] at this
              unfold b21_l0 at this
              simpa [QN_nx] using this _ _ _ _
        | _ => cases hw
    rcases hc with rfl | rfl | rfl | rfl
    · show wpe NoX (svs (semK defs (k + 1)) b21_l0 [some (.p (townD hs gs)), u0, u1, some (.p (.str ⟨#[104]⟩)), some (.p x), x5, x6] (st ++ ex)) _
      rw [s_h]
      unfold b21_l0
      simp only [e_svs_cons, e_svs_nil, e_sv_ife, e_sv_ret, e_sv_retN, e_sv_set, e_sv_setIx, e_sv_setLc, e_sv_app, e_sv_ex, e_sv_loop, e_sv_pass, e_ev_var, e_ev_lit, e_ev_glb, e_ev_gix, e_ev_bin, e_ev_neg, e_ev_not, w_and, w_or, QT2_bool, QB_bool, e_ev_one, e_ev_cmp, w_cmp2, e_ev_ife, e_ev_tup, e_mkT, e_ev_lst, e_ev_frz, e_ev_rev, e_ev_dct, e_ev_mcall, e_ev_callD, e_ev_callT, e_sv_tryS, e_sv_raise, e_tbv_ex, e_tbv_set, e_tbv_ife, e_tbv_exSet, e_sv_brk, e_sv_cont, wp_catch, e_evc_none, e_evc_some, e_ev_ix, e_ev_sl, e_ev_bi, e_ev_mx2, e_ev_isi, e_ev_call, e_ev_join, e_ev_lc, e_evs_nil, e_evs_cons, e_evo_none, e_evo_some, e_evi_seq, e_evi_rng1, e_evi_rng2, e_evi_enum, e_evi_zip, env0, varD, e_b_nm, e_b_tT, e_b_tL, e_b_nil, e_b_cons, wp_bind, wp_then, wp_ok, wp_truR, wp_finP, QF_nx, QF_rt, QE1_rt, QE1_nx, QT1_bool, List.map, List.length, List.replicate, List.getElem?_cons_zero, List.getElem?_cons_succ, List.set, Nat.reduceSub, List.cons_append, List.nil_append, Nat.reduceAdd, wp_ite, e_mkLT, tru_b, seqI_L, seqI_T, pures_p, pures_nil, Option.map_some, Option.bind_some, if_true, sz_0, sz_1, sz_2, sz_3, sz_4, sz_5, sz_6, sz_7, sz_8, sz_9, sz_10, sz_11, sz_12, sz_13, sz_14, sz_15, sz_16, sz_17, sz_18, sz_19, sz_20, sz_21, sz_22, sz_23, sz_24, sz_25, sz_26, sz_27, sz_28, sz_29, sz_30, sz_31, sz_32, sz_33, sz_34, sz_35, sz_36, sz_37, sz_38, sz_39, sz_40, e_eqs, beq_self_eq_true, e_isStr hx.pl, town_ix, e_notInT (Nat.le_trans hx.dp (by decide))]
      have e0 : okS hs 104 x = okH hs x := rfl
      cases x with
      | str z =>
        rw [any_strs]
        simp only [isStr, Bool.not_true, Bool.false_eq_true, if_false]
        cases hz : hs.contains z
        · have := fin0 (by rw [e0]; exact hz) ex
          simpa [QN_rt] using this
        · have := fin1 (by rw [e0]; exact hz) ex
          unfold b21_l0 at this
          simpa [QN_nx] using this _ _ _ _
      | dict kvs => cases hx.pl
      | _ =>
        have := fin0 rfl ex
        simpa [isStr, QN_rt, QT1_bool] using this
    · show wpe NoX (svs (semK defs (k + 1)) b21_l0 [some (.p (townD hs gs)), u0, u1, some (.p (.str ⟨#[110]⟩)), some (.p x), x5, x6] (st ++ ex)) _
      rw [s_n]
      exact step 0 14 "n" rfl eq_nh ntc_n
    · show wpe NoX (svs (semK defs (k + 1)) b21_l0 [some (.p (townD hs gs)), u0, u1, some (.p (.str ⟨#[116]⟩)), some (.p x), x5, x6] (st ++ ex)) _
      rw [s_t]
      exact step (-1000000000000) 1000000000000 "t" rfl eq_th ntc_t
    · show wpe NoX (svs (semK defs (k + 1)) b21_l0 [some (.p (townD hs gs)), u0, u1, some (.p (.str ⟨#[99]⟩)), some (.p x), x5, x6] (st ++ ex)) _
      rw [s_c]
      exact step 0 15 "c" rfl eq_ch ntc_c
def forms : List (Key × D) := [(.inr "ask", .p (.str "hnnhtt")), (.inr "job", .p (.str "hntt")), (.inr "all", .p (.str "hcc"))]
theorem ne_aj : ("ask" : Str) ≠ "job" := by decide +kernel
theorem ne_al : ("ask" : Str) ≠ "all" := by decide +kernel
theorem ne_jl : ("job" : Str) ≠ "all" := by decide +kernel
theorem forms_disp (st : Store) : dispD st.length ["ask", "job", "all"] [.p (.str "hnnhtt"), .p (.str "hntt"), .p (.str "hcc")] (st ++ [.dct []]) = .ok (.c st.length) (st ++ [.dct forms]) := disp_new st _ _ _ _ _ _ ne_aj ne_al ne_jl
theorem forms_in (w : Str) : (valD forms (.inr w)).isSome = (w == "ask" || (w == "job" || w == "all")) := by
  have h : valD forms (.inr w) = if "ask" = w then some (.p (.str "hnnhtt")) else if "job" = w then some (.p (.str "hntt")) else if "all" = w then some (.p (.str "hcc")) else none := by
    unfold forms
    rw [valD_cons, valD_cons, valD_cons, valD_nil]
  rw [h, Bool.eq_iff_iff]
  simp only [Bool.or_eq_true, beq_iff_eq]
  split
  · rename_i e; simp [e]
  · rename_i e1
    split
    · rename_i e; simp [e]
    · rename_i e2
      split
      · rename_i e; simp [e]
      · rename_i e3
        simp only [Option.isSome_none, Bool.false_eq_true, false_iff]
        exact fun h => h.elim (fun h => e1 h.symm) fun h => h.elim (fun h => e2 h.symm) fun h => e3 h.symm
theorem forms_ask : valD forms (.inr "ask") = some (.p (.str "hnnhtt")) := by unfold forms; rw [valD_cons, if_pos rfl]
theorem forms_job : valD forms (.inr "job") = some (.p (.str "hntt")) := by unfold forms; rw [valD_cons, if_neg ne_aj, valD_cons, if_pos rfl]
theorem forms_all : valD forms (.inr "all") = some (.p (.str "hcc")) := by unfold forms; rw [valD_cons, if_neg ne_al, valD_cons, if_neg ne_jl, valD_cons, if_pos rfl]
theorem forms_ix (st : Store) {z : Str} {d : D} (h : valD forms (.inr z) = some d) : ixD (.c st.length) (.p (.str z)) (st ++ [.dct forms]) = .ok d (st ++ [.dct forms]) := ix_d (get_new st _) h
theorem forms_notIn (st : Store) (w : Str) : cmpD .NotIn (.p (.str w)) (.c st.length) (st ++ [.dct forms]) = .ok (.p (.bool (!(w == "ask" || (w == "job" || w == "all"))))) (st ++ [.dct forms]) := by
  rw [notIn_d (get_new st _), forms_in]
theorem l_ask : ("hnnhtt" : Str).cps.toList = [104, 110, 110, 104, 116, 116] := by decide +kernel
theorem l_job : ("hntt" : Str).cps.toList = [104, 110, 116, 116] := by decide +kernel
theorem l_all : ("hcc" : Str).cps.toList = [104, 99, 99] := by decide +kernel
theorem n_ask (st : Store) : bi1D .len (.p (.str "hnnhtt")) st = .ok (.p (.int 6)) st := by rw [e_lenS, if_pos (by decide +kernel)]; rfl
theorem n_job (st : Store) : bi1D .len (.p (.str "hntt")) st = .ok (.p (.int 4)) st := by rw [e_lenS, if_pos (by decide +kernel)]; rfl
theorem n_all (st : Store) : bi1D .len (.p (.str "hcc")) st = .ok (.p (.int 3)) st := by rw [e_lenS, if_pos (by decide +kernel)]; rfl
theorem cut1 {α : Type} (w : α) (r : List α) : cut (w :: r) (some 1) none = r := cut_drop (w :: r) 1
theorem at7a {α : Type} (x0 x1 x2 x3 x4 x5 x6 : α) : atI [x0, x1, x2, x3, x4, x5, x6] (-2) = some x5 := rfl
theorem at7b {α : Type} (x0 x1 x2 x3 x4 x5 x6 : α) : atI [x0, x1, x2, x3, x4, x5, x6] (-1) = some x6 := rfl
theorem at5a {α : Type} (x0 x1 x2 x3 x4 : α) : atI [x0, x1, x2, x3, x4] (-2) = some x3 := rfl
theorem at5b {α : Type} (x0 x1 x2 x3 x4 : α) : atI [x0, x1, x2, x3, x4] (-1) = some x4 := rfl
theorem e_neg' (i : Int) (st : Store) : negD (.p (.int i)) st = .ok (.p (.int (-i))) st := nr rfl
theorem e_eqT0 (vs : List PyData) (st : Store) : cmpD .Eq (.p (.tuple vs)) (.p (.tuple [])) st = .ok (.p (.bool vs.isEmpty)) st := by
  rw [e_eqX (Nat.le_trans (Nat.min_le_right _ _) (by decide))]
  cases vs <;> rfl
theorem le_fin2 {e f : PyData} {lo hi lo' hi' : Int} (h1 : okB lo hi e = true) (h2 : okB lo' hi' f = true) {st ex : Store} (hc : Clo st) {X : Exc → Store → Prop} {Q : D → Store → Prop} (h : Q (.p (.bool (leI e f))) st) : wpe NoX (cmpD .LtE (.p e) (.p f) (st ++ ex)) (fun a st1 => wpe X (finD st.length a st1) Q) := by
  cases e with
  | int a =>
    cases f with
    | int b =>
      have : (!decide (b < a)) = decide (a ≤ b) := by rw [Bool.eq_iff_iff]; simp
      rw [e_le, wp_ok, this, wp_finP, gc_cl hc]
      exact h
    | _ => cases h2
  | _ => cases h1
theorem zsm {cs : List Nat} {r : List PyData} (hr : ∀ x ∈ r, Sm x) (hcs : ∀ c ∈ cs, c = 104 ∨ c = 110 ∨ c = 116 ∨ c = 99) : ∀ p ∈ cs.zip r, (p.1 = 104 ∨ p.1 = 110 ∨ p.1 = 116 ∨ p.1 = 99) ∧ Sm p.2 := fun p hp =>
  ⟨hcs _ (List.of_mem_zip (show (p.1, p.2) ∈ cs.zip r from hp)).1, hr _ (List.of_mem_zip (show (p.1, p.2) ∈ cs.zip r from hp)).2⟩
theorem law_row_is (k : Nat) {hs gs : List Str} {x : PyData} (hx : Th x) {st : Store} (hc : Clo st) {X : Exc → Store → Prop} {Q : D → Store → Prop} (h : Q (.p (.bool (rowB hs x))) st) : wpe X (semK defs (k + 2) 21 [.p (townD hs gs), .p x] st) Q := by
  refine wp_sem (d := d21) rfl rfl ?_
  simp only [d21, b21, e_svs_cons, e_svs_nil, e_sv_ife, e_sv_ret, e_sv_retN, e_sv_set, e_sv_setIx, e_sv_setLc, e_sv_app, e_sv_ex, e_sv_loop, e_sv_pass, e_ev_var, e_ev_lit, e_ev_glb, e_ev_gix, e_ev_bin, e_ev_neg, e_ev_not, w_and, w_or, QT2_bool, QB_bool, e_ev_one, e_ev_cmp, w_cmp2, e_ev_ife, e_ev_tup, e_mkT, e_ev_lst, e_ev_frz, e_ev_rev, e_ev_dct, e_ev_mcall, e_ev_callD, e_ev_callT, e_sv_tryS, e_sv_raise, e_tbv_ex, e_tbv_set, e_tbv_ife, e_tbv_exSet, e_sv_brk, e_sv_cont, wp_catch, e_evc_none, e_evc_some, e_ev_ix, e_ev_sl, e_ev_bi, e_ev_mx2, e_ev_isi, e_ev_call, e_ev_join, e_ev_lc, e_evs_nil, e_evs_cons, e_evo_none, e_evo_some, e_evi_seq, e_evi_rng1, e_evi_rng2, e_evi_enum, e_evi_zip, env0, varD, e_b_nm, e_b_tT, e_b_tL, e_b_nil, e_b_cons, wp_bind, wp_then, wp_ok, wp_truR, wp_finP, QF_nx, QF_rt, QE1_rt, QE1_nx, QT1_bool, List.map, List.length, List.replicate, List.getElem?_cons_zero, List.getElem?_cons_succ, List.set, Nat.reduceSub, List.cons_append, List.nil_append, Nat.reduceAdd, wp_ite, e_mkLT, tru_b, seqI_L, seqI_T, pures_p, pures_nil, Option.map_some, Option.bind_some, if_true, sz_0, sz_1, sz_2, sz_3, sz_4, sz_5, sz_6, sz_7, sz_8, sz_9, sz_10, sz_11, sz_12, sz_13, sz_14, sz_15, sz_16, sz_17, sz_18, sz_19, sz_20, sz_21, sz_22, sz_23, sz_24, sz_25, sz_26, sz_27, sz_28, sz_29, sz_30, sz_31, sz_32, sz_33, sz_34, sz_35, sz_36, sz_37, sz_38, sz_39, sz_40, forms_disp, e_isTuple hx.pl]
  have gcx : ∀ ex, gc st.length (st ++ ex) = st := fun ex => gc_cl hc
  cases x with
  | tuple vs =>
    have hv := hx.sh vs rfl
    simp only [isTuple, Bool.not_true, Bool.false_eq_true, if_false, e_svs_cons, e_svs_nil, e_sv_ife, e_sv_ret, e_sv_retN, e_sv_set, e_sv_setIx, e_sv_setLc, e_sv_app, e_sv_ex, e_sv_loop, e_sv_pass, e_ev_var, e_ev_lit, e_ev_glb, e_ev_gix, e_ev_bin, e_ev_neg, e_ev_not, w_and, w_or, QT2_bool, QB_bool, e_ev_one, e_ev_cmp, w_cmp2, e_ev_ife, e_ev_tup, e_mkT, e_ev_lst, e_ev_frz, e_ev_rev, e_ev_dct, e_ev_mcall, e_ev_callD, e_ev_callT, e_sv_tryS, e_sv_raise, e_tbv_ex, e_tbv_set, e_tbv_ife, e_tbv_exSet, e_sv_brk, e_sv_cont, wp_catch, e_evc_none, e_evc_some, e_ev_ix, e_ev_sl, e_ev_bi, e_ev_mx2, e_ev_isi, e_ev_call, e_ev_join, e_ev_lc, e_evs_nil, e_evs_cons, e_evo_none, e_evo_some, e_evi_seq, e_evi_rng1, e_evi_rng2, e_evi_enum, e_evi_zip, env0, varD, e_b_nm, e_b_tT, e_b_tL, e_b_nil, e_b_cons, wp_bind, wp_then, wp_ok, wp_truR, wp_finP, QF_nx, QF_rt, QE1_rt, QE1_nx, QT1_bool, List.map, List.length, List.replicate, List.getElem?_cons_zero, List.getElem?_cons_succ, List.set, Nat.reduceSub, List.cons_append, List.nil_append, Nat.reduceAdd, wp_ite, e_mkLT, tru_b, seqI_L, seqI_T, pures_p, pures_nil, Option.map_some, Option.bind_some, if_true, sz_0, sz_1, sz_2, sz_3, sz_4, sz_5, sz_6, sz_7, sz_8, sz_9, sz_10, sz_11, sz_12, sz_13, sz_14, sz_15, sz_16, sz_17, sz_18, sz_19, sz_20, sz_21, sz_22, sz_23, sz_24, sz_25, sz_26, sz_27, sz_28, sz_29, sz_30, sz_31, sz_32, sz_33, sz_34, sz_35, sz_36, sz_37, sz_38, sz_39, sz_40, e_eqT0]
    cases vs with
    | nil =>
      have h : Q (.p (.bool false)) st := h
      simpa [gcx, QT2_bool, QT1_bool] using h
    | cons w r =>
      have hw := hv w List.mem_cons_self
      have hr : ∀ x ∈ r, Sm x := fun x hx => hv x (List.mem_cons_of_mem _ hx)
      simp only [List.isEmpty_cons, Bool.false_eq_true, if_false, e_svs_cons, e_svs_nil, e_sv_ife, e_sv_ret, e_sv_retN, e_sv_set, e_sv_setIx, e_sv_setLc, e_sv_app, e_sv_ex, e_sv_loop, e_sv_pass, e_ev_var, e_ev_lit, e_ev_glb, e_ev_gix, e_ev_bin, e_ev_neg, e_ev_not, w_and, w_or, QT2_bool, QB_bool, e_ev_one, e_ev_cmp, w_cmp2, e_ev_ife, e_ev_tup, e_mkT, e_ev_lst, e_ev_frz, e_ev_rev, e_ev_dct, e_ev_mcall, e_ev_callD, e_ev_callT, e_sv_tryS, e_sv_raise, e_tbv_ex, e_tbv_set, e_tbv_ife, e_tbv_exSet, e_sv_brk, e_sv_cont, wp_catch, e_evc_none, e_evc_some, e_ev_ix, e_ev_sl, e_ev_bi, e_ev_mx2, e_ev_isi, e_ev_call, e_ev_join, e_ev_lc, e_evs_nil, e_evs_cons, e_evo_none, e_evo_some, e_evi_seq, e_evi_rng1, e_evi_rng2, e_evi_enum, e_evi_zip, env0, varD, e_b_nm, e_b_tT, e_b_tL, e_b_nil, e_b_cons, wp_bind, wp_then, wp_ok, wp_truR, wp_finP, QF_nx, QF_rt, QE1_rt, QE1_nx, QT1_bool, List.map, List.length, List.replicate, List.getElem?_cons_zero, List.getElem?_cons_succ, List.set, Nat.reduceSub, List.cons_append, List.nil_append, Nat.reduceAdd, wp_ite, e_mkLT, tru_b, seqI_L, seqI_T, pures_p, pures_nil, Option.map_some, Option.bind_some, if_true, sz_0, sz_1, sz_2, sz_3, sz_4, sz_5, sz_6, sz_7, sz_8, sz_9, sz_10, sz_11, sz_12, sz_13, sz_14, sz_15, sz_16, sz_17, sz_18, sz_19, sz_20, sz_21, sz_22, sz_23, sz_24, sz_25, sz_26, sz_27, sz_28, sz_29, sz_30, sz_31, sz_32, sz_33, sz_34, sz_35, sz_36, sz_37, sz_38, sz_39, sz_40, e_ixT, atI_0, e_isStr hw.pl]
      cases w with
      | str w =>
        rw [row_w] at h
        simp only [isStr, Bool.not_true, Bool.false_eq_true, if_false, e_svs_cons, e_svs_nil, e_sv_ife, e_sv_ret, e_sv_retN, e_sv_set, e_sv_setIx, e_sv_setLc, e_sv_app, e_sv_ex, e_sv_loop, e_sv_pass, e_ev_var, e_ev_lit, e_ev_glb, e_ev_gix, e_ev_bin, e_ev_neg, e_ev_not, w_and, w_or, QT2_bool, QB_bool, e_ev_one, e_ev_cmp, w_cmp2, e_ev_ife, e_ev_tup, e_mkT, e_ev_lst, e_ev_frz, e_ev_rev, e_ev_dct, e_ev_mcall, e_ev_callD, e_ev_callT, e_sv_tryS, e_sv_raise, e_tbv_ex, e_tbv_set, e_tbv_ife, e_tbv_exSet, e_sv_brk, e_sv_cont, wp_catch, e_evc_none, e_evc_some, e_ev_ix, e_ev_sl, e_ev_bi, e_ev_mx2, e_ev_isi, e_ev_call, e_ev_join, e_ev_lc, e_evs_nil, e_evs_cons, e_evo_none, e_evo_some, e_evi_seq, e_evi_rng1, e_evi_rng2, e_evi_enum, e_evi_zip, env0, varD, e_b_nm, e_b_tT, e_b_tL, e_b_nil, e_b_cons, wp_bind, wp_then, wp_ok, wp_truR, wp_finP, QF_nx, QF_rt, QE1_rt, QE1_nx, QT1_bool, List.map, List.length, List.replicate, List.getElem?_cons_zero, List.getElem?_cons_succ, List.set, Nat.reduceSub, List.cons_append, List.nil_append, Nat.reduceAdd, wp_ite, e_mkLT, tru_b, seqI_L, seqI_T, pures_p, pures_nil, Option.map_some, Option.bind_some, if_true, sz_0, sz_1, sz_2, sz_3, sz_4, sz_5, sz_6, sz_7, sz_8, sz_9, sz_10, sz_11, sz_12, sz_13, sz_14, sz_15, sz_16, sz_17, sz_18, sz_19, sz_20, sz_21, sz_22, sz_23, sz_24, sz_25, sz_26, sz_27, sz_28, sz_29, sz_30, sz_31, sz_32, sz_33, sz_34, sz_35, sz_36, sz_37, sz_38, sz_39, sz_40, forms_notIn, e_ixT, atI_0]
        by_cases w1 : w = "ask"
        · subst w1
          rw [beq_self_eq_true, if_pos rfl] at h
          simp only [beq_self_eq_true, Bool.true_or, Bool.not_true, Bool.false_eq_true, if_false, e_svs_cons, e_svs_nil, e_sv_ife, e_sv_ret, e_sv_retN, e_sv_set, e_sv_setIx, e_sv_setLc, e_sv_app, e_sv_ex, e_sv_loop, e_sv_pass, e_ev_var, e_ev_lit, e_ev_glb, e_ev_gix, e_ev_bin, e_ev_neg, e_ev_not, w_and, w_or, QT2_bool, QB_bool, e_ev_one, e_ev_cmp, w_cmp2, e_ev_ife, e_ev_tup, e_mkT, e_ev_lst, e_ev_frz, e_ev_rev, e_ev_dct, e_ev_mcall, e_ev_callD, e_ev_callT, e_sv_tryS, e_sv_raise, e_tbv_ex, e_tbv_set, e_tbv_ife, e_tbv_exSet, e_sv_brk, e_sv_cont, wp_catch, e_evc_none, e_evc_some, e_ev_ix, e_ev_sl, e_ev_bi, e_ev_mx2, e_ev_isi, e_ev_call, e_ev_join, e_ev_lc, e_evs_nil, e_evs_cons, e_evo_none, e_evo_some, e_evi_seq, e_evi_rng1, e_evi_rng2, e_evi_enum, e_evi_zip, env0, varD, e_b_nm, e_b_tT, e_b_tL, e_b_nil, e_b_cons, wp_bind, wp_then, wp_ok, wp_truR, wp_finP, QF_nx, QF_rt, QE1_rt, QE1_nx, QT1_bool, List.map, List.length, List.replicate, List.getElem?_cons_zero, List.getElem?_cons_succ, List.set, Nat.reduceSub, List.cons_append, List.nil_append, Nat.reduceAdd, wp_ite, e_mkLT, tru_b, seqI_L, seqI_T, pures_p, pures_nil, Option.map_some, Option.bind_some, if_true, sz_0, sz_1, sz_2, sz_3, sz_4, sz_5, sz_6, sz_7, sz_8, sz_9, sz_10, sz_11, sz_12, sz_13, sz_14, sz_15, sz_16, sz_17, sz_18, sz_19, sz_20, sz_21, sz_22, sz_23, sz_24, sz_25, sz_26, sz_27, sz_28, sz_29, sz_30, sz_31, sz_32, sz_33, sz_34, sz_35, sz_36, sz_37, sz_38, sz_39, sz_40, e_lenT, e_ixT, atI_0, forms_ix st forms_ask, n_ask, e_add, e_nei]
          rw [ne_len r.length 6 (1 + 6) rfl]
          by_cases hl : r.length = 6
          · simp only [hl, decide_true, Bool.not_true, Bool.false_eq_true, if_false, e_svs_cons, e_svs_nil, e_sv_ife, e_sv_ret, e_sv_retN, e_sv_set, e_sv_setIx, e_sv_setLc, e_sv_app, e_sv_ex, e_sv_loop, e_sv_pass, e_ev_var, e_ev_lit, e_ev_glb, e_ev_gix, e_ev_bin, e_ev_neg, e_ev_not, w_and, w_or, QT2_bool, QB_bool, e_ev_one, e_ev_cmp, w_cmp2, e_ev_ife, e_ev_tup, e_mkT, e_ev_lst, e_ev_frz, e_ev_rev, e_ev_dct, e_ev_mcall, e_ev_callD, e_ev_callT, e_sv_tryS, e_sv_raise, e_tbv_ex, e_tbv_set, e_tbv_ife, e_tbv_exSet, e_sv_brk, e_sv_cont, wp_catch, e_evc_none, e_evc_some, e_ev_ix, e_ev_sl, e_ev_bi, e_ev_mx2, e_ev_isi, e_ev_call, e_ev_join, e_ev_lc, e_evs_nil, e_evs_cons, e_evo_none, e_evo_some, e_evi_seq, e_evi_rng1, e_evi_rng2, e_evi_enum, e_evi_zip, env0, varD, e_b_nm, e_b_tT, e_b_tL, e_b_nil, e_b_cons, wp_bind, wp_then, wp_ok, wp_truR, wp_finP, QF_nx, QF_rt, QE1_rt, QE1_nx, QT1_bool, List.map, List.length, List.replicate, List.getElem?_cons_zero, List.getElem?_cons_succ, List.set, Nat.reduceSub, List.cons_append, List.nil_append, Nat.reduceAdd, wp_ite, e_mkLT, tru_b, seqI_L, seqI_T, pures_p, pures_nil, Option.map_some, Option.bind_some, if_true, sz_0, sz_1, sz_2, sz_3, sz_4, sz_5, sz_6, sz_7, sz_8, sz_9, sz_10, sz_11, sz_12, sz_13, sz_14, sz_15, sz_16, sz_17, sz_18, sz_19, sz_20, sz_21, sz_22, sz_23, sz_24, sz_25, sz_26, sz_27, sz_28, sz_29, sz_30, sz_31, sz_32, sz_33, sz_34, sz_35, sz_36, sz_37, sz_38, sz_39, sz_40, e_ixT, atI_0, forms_ix st forms_ask, e_slT, cut1, e_zipST, l_ask]
            refine loop_row k _ _ _ _ _ _ (zsm hr (by decide)) (fun ha ex x3 x4 x5 x6 => ?_) (fun ha ex => ?_)
            · obtain ⟨a, b, c, d, e, f, rfl⟩ := six hl
              simp only [List.zip_cons_cons, List.zip_nil_right, List.all_cons, List.all_nil, Bool.and_eq_true, Bool.and_true] at ha
              obtain ⟨q1, q2, q3, q4, q5, q6⟩ := ha
              have q1 : okH hs a = true := q1
              have q2 : okB 0 14 b = true := q2
              have q3 : okB 0 14 c = true := q3
              have q4 : okH hs d = true := q4
              have q5 : okB (-1000000000000) 1000000000000 e = true := q5
              have q6 : okB (-1000000000000) 1000000000000 f = true := q6
              have h : Q (.p (.bool (okH hs a && (okH hs d && (okB 0 14 b && (okB 0 14 c && (okB (-1000000000000) 1000000000000 e && (okB (-1000000000000) 1000000000000 f && leI e f)))))))) st := h
              rw [q1, q2, q3, q4, q5, q6] at h
              simp only [QF_nx, e_svs_cons, e_svs_nil, e_sv_ife, e_sv_ret, e_sv_retN, e_sv_set, e_sv_setIx, e_sv_setLc, e_sv_app, e_sv_ex, e_sv_loop, e_sv_pass, e_ev_var, e_ev_lit, e_ev_glb, e_ev_gix, e_ev_bin, e_ev_neg, e_ev_not, w_and, w_or, QT2_bool, QB_bool, e_ev_one, e_ev_cmp, w_cmp2, e_ev_ife, e_ev_tup, e_mkT, e_ev_lst, e_ev_frz, e_ev_rev, e_ev_dct, e_ev_mcall, e_ev_callD, e_ev_callT, e_sv_tryS, e_sv_raise, e_tbv_ex, e_tbv_set, e_tbv_ife, e_tbv_exSet, e_sv_brk, e_sv_cont, wp_catch, e_evc_none, e_evc_some, e_ev_ix, e_ev_sl, e_ev_bi, e_ev_mx2, e_ev_isi, e_ev_call, e_ev_join, e_ev_lc, e_evs_nil, e_evs_cons, e_evo_none, e_evo_some, e_evi_seq, e_evi_rng1, e_evi_rng2, e_evi_enum, e_evi_zip, env0, varD, e_b_nm, e_b_tT, e_b_tL, e_b_nil, e_b_cons, wp_bind, wp_then, wp_ok, wp_truR, wp_finP, QF_nx, QF_rt, QE1_rt, QE1_nx, QT1_bool, List.map, List.length, List.replicate, List.getElem?_cons_zero, List.getElem?_cons_succ, List.set, Nat.reduceSub, List.cons_append, List.nil_append, Nat.reduceAdd, wp_ite, e_mkLT, tru_b, seqI_L, seqI_T, pures_p, pures_nil, Option.map_some, Option.bind_some, if_true, sz_0, sz_1, sz_2, sz_3, sz_4, sz_5, sz_6, sz_7, sz_8, sz_9, sz_10, sz_11, sz_12, sz_13, sz_14, sz_15, sz_16, sz_17, sz_18, sz_19, sz_20, sz_21, sz_22, sz_23, sz_24, sz_25, sz_26, sz_27, sz_28, sz_29, sz_30, sz_31, sz_32, sz_33, sz_34, sz_35, sz_36, sz_37, sz_38, sz_39, sz_40, e_ixT, atI_0, e_eqs, show (("ask" : Str) == "all") = false from by decide +kernel, Bool.false_eq_true, if_false, e_neg', at7a, at7b]
              exact le_fin2 q5 q6 hc h
            · simp only [e_svs_cons, e_svs_nil, e_sv_ife, e_sv_ret, e_sv_retN, e_sv_set, e_sv_setIx, e_sv_setLc, e_sv_app, e_sv_ex, e_sv_loop, e_sv_pass, e_ev_var, e_ev_lit, e_ev_glb, e_ev_gix, e_ev_bin, e_ev_neg, e_ev_not, w_and, w_or, QT2_bool, QB_bool, e_ev_one, e_ev_cmp, w_cmp2, e_ev_ife, e_ev_tup, e_mkT, e_ev_lst, e_ev_frz, e_ev_rev, e_ev_dct, e_ev_mcall, e_ev_callD, e_ev_callT, e_sv_tryS, e_sv_raise, e_tbv_ex, e_tbv_set, e_tbv_ife, e_tbv_exSet, e_sv_brk, e_sv_cont, wp_catch, e_evc_none, e_evc_some, e_ev_ix, e_ev_sl, e_ev_bi, e_ev_mx2, e_ev_isi, e_ev_call, e_ev_join, e_ev_lc, e_evs_nil, e_evs_cons, e_evo_none, e_evo_some, e_evi_seq, e_evi_rng1, e_evi_rng2, e_evi_enum, e_evi_zip, env0, varD, e_b_nm, e_b_tT, e_b_tL, e_b_nil, e_b_cons, wp_bind, wp_then, wp_ok, wp_truR, wp_finP, QF_nx, QF_rt, QE1_rt, QE1_nx, QT1_bool, List.map, List.length, List.replicate, List.getElem?_cons_zero, List.getElem?_cons_succ, List.set, Nat.reduceSub, List.cons_append, List.nil_append, Nat.reduceAdd, wp_ite, e_mkLT, tru_b, seqI_L, seqI_T, pures_p, pures_nil, Option.map_some, Option.bind_some, if_true, sz_0, sz_1, sz_2, sz_3, sz_4, sz_5, sz_6, sz_7, sz_8, sz_9, sz_10, sz_11, sz_12, sz_13, sz_14, sz_15, sz_16, sz_17, sz_18, sz_19, sz_20, sz_21, sz_22, sz_23, sz_24, sz_25, sz_26, sz_27, sz_28, sz_29, sz_30, sz_31, sz_32, sz_33, sz_34, sz_35, sz_36, sz_37, sz_38, sz_39, sz_40, gcx]
              have e0 : askB hs r = false := by
                obtain ⟨a, b, c, d, e, f, rfl⟩ := six hl
                simp only [List.zip_cons_cons, List.zip_nil_right, List.all_cons, List.all_nil, Bool.and_true] at ha
                have ha : (okH hs a && (okB 0 14 b && (okB 0 14 c && (okH hs d && (okB (-1000000000000) 1000000000000 e && okB (-1000000000000) 1000000000000 f))))) = false := ha
                show (okH hs a && (okH hs d && (okB 0 14 b && (okB 0 14 c && (okB (-1000000000000) 1000000000000 e && (okB (-1000000000000) 1000000000000 f && leI e f)))))) = false
                generalize okH hs a = p1 at ha ⊢
                generalize okH hs d = p2 at ha ⊢
                generalize okB 0 14 b = p3 at ha ⊢
                generalize okB 0 14 c = p4 at ha ⊢
                generalize okB (-1000000000000) 1000000000000 e = p5 at ha ⊢
                generalize okB (-1000000000000) 1000000000000 f = p6 at ha ⊢
                revert ha
                cases p1 <;> cases p2 <;> cases p3 <;> cases p4 <;> cases p5 <;> cases p6 <;> simp
              rw [e0] at h
              exact h
          · rw [askB_no hl] at h
            simpa [hl, gcx] using h
        · rw [show (w == "ask") = false by simpa using w1, if_neg (by simp)] at h
          by_cases w2 : w = "job"
          · subst w2
            rw [beq_self_eq_true, if_pos rfl] at h
            simp only [show (("job" : Str) == "ask") = false from by decide +kernel, beq_self_eq_true, Bool.true_or, Bool.or_true, Bool.not_true, Bool.false_eq_true, if_false, e_svs_cons, e_svs_nil, e_sv_ife, e_sv_ret, e_sv_retN, e_sv_set, e_sv_setIx, e_sv_setLc, e_sv_app, e_sv_ex, e_sv_loop, e_sv_pass, e_ev_var, e_ev_lit, e_ev_glb, e_ev_gix, e_ev_bin, e_ev_neg, e_ev_not, w_and, w_or, QT2_bool, QB_bool, e_ev_one, e_ev_cmp, w_cmp2, e_ev_ife, e_ev_tup, e_mkT, e_ev_lst, e_ev_frz, e_ev_rev, e_ev_dct, e_ev_mcall, e_ev_callD, e_ev_callT, e_sv_tryS, e_sv_raise, e_tbv_ex, e_tbv_set, e_tbv_ife, e_tbv_exSet, e_sv_brk, e_sv_cont, wp_catch, e_evc_none, e_evc_some, e_ev_ix, e_ev_sl, e_ev_bi, e_ev_mx2, e_ev_isi, e_ev_call, e_ev_join, e_ev_lc, e_evs_nil, e_evs_cons, e_evo_none, e_evo_some, e_evi_seq, e_evi_rng1, e_evi_rng2, e_evi_enum, e_evi_zip, env0, varD, e_b_nm, e_b_tT, e_b_tL, e_b_nil, e_b_cons, wp_bind, wp_then, wp_ok, wp_truR, wp_finP, QF_nx, QF_rt, QE1_rt, QE1_nx, QT1_bool, List.map, List.length, List.replicate, List.getElem?_cons_zero, List.getElem?_cons_succ, List.set, Nat.reduceSub, List.cons_append, List.nil_append, Nat.reduceAdd, wp_ite, e_mkLT, tru_b, seqI_L, seqI_T, pures_p, pures_nil, Option.map_some, Option.bind_some, if_true, sz_0, sz_1, sz_2, sz_3, sz_4, sz_5, sz_6, sz_7, sz_8, sz_9, sz_10, sz_11, sz_12, sz_13, sz_14, sz_15, sz_16, sz_17, sz_18, sz_19, sz_20, sz_21, sz_22, sz_23, sz_24, sz_25, sz_26, sz_27, sz_28, sz_29, sz_30, sz_31, sz_32, sz_33, sz_34, sz_35, sz_36, sz_37, sz_38, sz_39, sz_40, e_lenT, e_ixT, atI_0, forms_ix st forms_job, n_job, e_add, e_nei]
            rw [ne_len r.length 4 (1 + 4) rfl]
            by_cases hl : r.length = 4
            · simp only [hl, decide_true, Bool.not_true, Bool.false_eq_true, if_false, e_svs_cons, e_svs_nil, e_sv_ife, e_sv_ret, e_sv_retN, e_sv_set, e_sv_setIx, e_sv_setLc, e_sv_app, e_sv_ex, e_sv_loop, e_sv_pass, e_ev_var, e_ev_lit, e_ev_glb, e_ev_gix, e_ev_bin, e_ev_neg, e_ev_not, w_and, w_or, QT2_bool, QB_bool, e_ev_one, e_ev_cmp, w_cmp2, e_ev_ife, e_ev_tup, e_mkT, e_ev_lst, e_ev_frz, e_ev_rev, e_ev_dct, e_ev_mcall, e_ev_callD, e_ev_callT, e_sv_tryS, e_sv_raise, e_tbv_ex, e_tbv_set, e_tbv_ife, e_tbv_exSet, e_sv_brk, e_sv_cont, wp_catch, e_evc_none, e_evc_some, e_ev_ix, e_ev_sl, e_ev_bi, e_ev_mx2, e_ev_isi, e_ev_call, e_ev_join, e_ev_lc, e_evs_nil, e_evs_cons, e_evo_none, e_evo_some, e_evi_seq, e_evi_rng1, e_evi_rng2, e_evi_enum, e_evi_zip, env0, varD, e_b_nm, e_b_tT, e_b_tL, e_b_nil, e_b_cons, wp_bind, wp_then, wp_ok, wp_truR, wp_finP, QF_nx, QF_rt, QE1_rt, QE1_nx, QT1_bool, List.map, List.length, List.replicate, List.getElem?_cons_zero, List.getElem?_cons_succ, List.set, Nat.reduceSub, List.cons_append, List.nil_append, Nat.reduceAdd, wp_ite, e_mkLT, tru_b, seqI_L, seqI_T, pures_p, pures_nil, Option.map_some, Option.bind_some, if_true, sz_0, sz_1, sz_2, sz_3, sz_4, sz_5, sz_6, sz_7, sz_8, sz_9, sz_10, sz_11, sz_12, sz_13, sz_14, sz_15, sz_16, sz_17, sz_18, sz_19, sz_20, sz_21, sz_22, sz_23, sz_24, sz_25, sz_26, sz_27, sz_28, sz_29, sz_30, sz_31, sz_32, sz_33, sz_34, sz_35, sz_36, sz_37, sz_38, sz_39, sz_40, e_ixT, atI_0, forms_ix st forms_job, e_slT, cut1, e_zipST, l_job]
              refine loop_row k _ _ _ _ _ _ (zsm hr (by decide)) (fun ha ex x3 x4 x5 x6 => ?_) (fun ha ex => ?_)
              · obtain ⟨a, b, c, d, rfl⟩ := four hl
                simp only [List.zip_cons_cons, List.zip_nil_right, List.all_cons, List.all_nil, Bool.and_eq_true, Bool.and_true] at ha
                obtain ⟨q1, q2, q3, q4⟩ := ha
                have q1 : okH hs a = true := q1
                have q2 : okB 0 14 b = true := q2
                have q3 : okB (-1000000000000) 1000000000000 c = true := q3
                have q4 : okB (-1000000000000) 1000000000000 d = true := q4
                have h : Q (.p (.bool (okH hs a && (okB 0 14 b && (okB (-1000000000000) 1000000000000 c && (okB (-1000000000000) 1000000000000 d && leI c d)))))) st := h
                rw [q1, q2, q3, q4] at h
                simp only [QF_nx, e_svs_cons, e_svs_nil, e_sv_ife, e_sv_ret, e_sv_retN, e_sv_set, e_sv_setIx, e_sv_setLc, e_sv_app, e_sv_ex, e_sv_loop, e_sv_pass, e_ev_var, e_ev_lit, e_ev_glb, e_ev_gix, e_ev_bin, e_ev_neg, e_ev_not, w_and, w_or, QT2_bool, QB_bool, e_ev_one, e_ev_cmp, w_cmp2, e_ev_ife, e_ev_tup, e_mkT, e_ev_lst, e_ev_frz, e_ev_rev, e_ev_dct, e_ev_mcall, e_ev_callD, e_ev_callT, e_sv_tryS, e_sv_raise, e_tbv_ex, e_tbv_set, e_tbv_ife, e_tbv_exSet, e_sv_brk, e_sv_cont, wp_catch, e_evc_none, e_evc_some, e_ev_ix, e_ev_sl, e_ev_bi, e_ev_mx2, e_ev_isi, e_ev_call, e_ev_join, e_ev_lc, e_evs_nil, e_evs_cons, e_evo_none, e_evo_some, e_evi_seq, e_evi_rng1, e_evi_rng2, e_evi_enum, e_evi_zip, env0, varD, e_b_nm, e_b_tT, e_b_tL, e_b_nil, e_b_cons, wp_bind, wp_then, wp_ok, wp_truR, wp_finP, QF_nx, QF_rt, QE1_rt, QE1_nx, QT1_bool, List.map, List.length, List.replicate, List.getElem?_cons_zero, List.getElem?_cons_succ, List.set, Nat.reduceSub, List.cons_append, List.nil_append, Nat.reduceAdd, wp_ite, e_mkLT, tru_b, seqI_L, seqI_T, pures_p, pures_nil, Option.map_some, Option.bind_some, if_true, sz_0, sz_1, sz_2, sz_3, sz_4, sz_5, sz_6, sz_7, sz_8, sz_9, sz_10, sz_11, sz_12, sz_13, sz_14, sz_15, sz_16, sz_17, sz_18, sz_19, sz_20, sz_21, sz_22, sz_23, sz_24, sz_25, sz_26, sz_27, sz_28, sz_29, sz_30, sz_31, sz_32, sz_33, sz_34, sz_35, sz_36, sz_37, sz_38, sz_39, sz_40, e_ixT, atI_0, e_eqs, show (("job" : Str) == "all") = false from by decide +kernel, Bool.false_eq_true, if_false, e_neg', at5a, at5b]
                exact le_fin2 q3 q4 hc h
              · simp only [e_svs_cons, e_svs_nil, e_sv_ife, e_sv_ret, e_sv_retN, e_sv_set, e_sv_setIx, e_sv_setLc, e_sv_app, e_sv_ex, e_sv_loop, e_sv_pass, e_ev_var, e_ev_lit, e_ev_glb, e_ev_gix, e_ev_bin, e_ev_neg, e_ev_not, w_and, w_or, QT2_bool, QB_bool, e_ev_one, e_ev_cmp, w_cmp2, e_ev_ife, e_ev_tup, e_mkT, e_ev_lst, e_ev_frz, e_ev_rev, e_ev_dct, e_ev_mcall, e_ev_callD, e_ev_callT, e_sv_tryS, e_sv_raise, e_tbv_ex, e_tbv_set, e_tbv_ife, e_tbv_exSet, e_sv_brk, e_sv_cont, wp_catch, e_evc_none, e_evc_some, e_ev_ix, e_ev_sl, e_ev_bi, e_ev_mx2, e_ev_isi, e_ev_call, e_ev_join, e_ev_lc, e_evs_nil, e_evs_cons, e_evo_none, e_evo_some, e_evi_seq, e_evi_rng1, e_evi_rng2, e_evi_enum, e_evi_zip, env0, varD, e_b_nm, e_b_tT, e_b_tL, e_b_nil, e_b_cons, wp_bind, wp_then, wp_ok, wp_truR, wp_finP, QF_nx, QF_rt, QE1_rt, QE1_nx, QT1_bool, List.map, List.length, List.replicate, List.getElem?_cons_zero, List.getElem?_cons_succ, List.set, Nat.reduceSub, List.cons_append, List.nil_append, Nat.reduceAdd, wp_ite, e_mkLT, tru_b, seqI_L, seqI_T, pures_p, pures_nil, Option.map_some, Option.bind_some, if_true, sz_0, sz_1, sz_2, sz_3, sz_4, sz_5, sz_6, sz_7, sz_8, sz_9, sz_10, sz_11, sz_12, sz_13, sz_14, sz_15, sz_16, sz_17, sz_18, sz_19, sz_20, sz_21, sz_22, sz_23, sz_24, sz_25, sz_26, sz_27, sz_28, sz_29, sz_30, sz_31, sz_32, sz_33, sz_34, sz_35, sz_36, sz_37, sz_38, sz_39, sz_40, gcx]
                have e0 : jobB hs r = false := by
                  obtain ⟨a, b, c, d, rfl⟩ := four hl
                  simp only [List.zip_cons_cons, List.zip_nil_right, List.all_cons, List.all_nil, Bool.and_true] at ha
                  have ha : (okH hs a && (okB 0 14 b && (okB (-1000000000000) 1000000000000 c && okB (-1000000000000) 1000000000000 d))) = false := ha
                  show (okH hs a && (okB 0 14 b && (okB (-1000000000000) 1000000000000 c && (okB (-1000000000000) 1000000000000 d && leI c d)))) = false
                  generalize okH hs a = p1 at ha ⊢
                  generalize okB 0 14 b = p3 at ha ⊢
                  generalize okB (-1000000000000) 1000000000000 c = p5 at ha ⊢
                  generalize okB (-1000000000000) 1000000000000 d = p6 at ha ⊢
                  revert ha
                  cases p1 <;> cases p3 <;> cases p5 <;> cases p6 <;> simp
                rw [e0] at h
                exact h
            · rw [jobB_no hl] at h
              simpa [hl, gcx] using h
          · rw [show (w == "job") = false by simpa using w2, if_neg (by simp)] at h
            by_cases w3 : w = "all"
            · subst w3
              rw [beq_self_eq_true, Bool.true_and] at h
              simp only [show (("all" : Str) == "ask") = false from by decide +kernel, show (("all" : Str) == "job") = false from by decide +kernel, beq_self_eq_true, Bool.true_or, Bool.or_true, Bool.not_true, Bool.false_eq_true, if_false, e_svs_cons, e_svs_nil, e_sv_ife, e_sv_ret, e_sv_retN, e_sv_set, e_sv_setIx, e_sv_setLc, e_sv_app, e_sv_ex, e_sv_loop, e_sv_pass, e_ev_var, e_ev_lit, e_ev_glb, e_ev_gix, e_ev_bin, e_ev_neg, e_ev_not, w_and, w_or, QT2_bool, QB_bool, e_ev_one, e_ev_cmp, w_cmp2, e_ev_ife, e_ev_tup, e_mkT, e_ev_lst, e_ev_frz, e_ev_rev, e_ev_dct, e_ev_mcall, e_ev_callD, e_ev_callT, e_sv_tryS, e_sv_raise, e_tbv_ex, e_tbv_set, e_tbv_ife, e_tbv_exSet, e_sv_brk, e_sv_cont, wp_catch, e_evc_none, e_evc_some, e_ev_ix, e_ev_sl, e_ev_bi, e_ev_mx2, e_ev_isi, e_ev_call, e_ev_join, e_ev_lc, e_evs_nil, e_evs_cons, e_evo_none, e_evo_some, e_evi_seq, e_evi_rng1, e_evi_rng2, e_evi_enum, e_evi_zip, env0, varD, e_b_nm, e_b_tT, e_b_tL, e_b_nil, e_b_cons, wp_bind, wp_then, wp_ok, wp_truR, wp_finP, QF_nx, QF_rt, QE1_rt, QE1_nx, QT1_bool, List.map, List.length, List.replicate, List.getElem?_cons_zero, List.getElem?_cons_succ, List.set, Nat.reduceSub, List.cons_append, List.nil_append, Nat.reduceAdd, wp_ite, e_mkLT, tru_b, seqI_L, seqI_T, pures_p, pures_nil, Option.map_some, Option.bind_some, if_true, sz_0, sz_1, sz_2, sz_3, sz_4, sz_5, sz_6, sz_7, sz_8, sz_9, sz_10, sz_11, sz_12, sz_13, sz_14, sz_15, sz_16, sz_17, sz_18, sz_19, sz_20, sz_21, sz_22, sz_23, sz_24, sz_25, sz_26, sz_27, sz_28, sz_29, sz_30, sz_31, sz_32, sz_33, sz_34, sz_35, sz_36, sz_37, sz_38, sz_39, sz_40, e_lenT, e_ixT, atI_0, forms_ix st forms_all, n_all, e_add, e_nei]
              rw [ne_len r.length 3 (1 + 3) rfl]
              by_cases hl : r.length = 3
              · simp only [hl, decide_true, Bool.not_true, Bool.false_eq_true, if_false, e_svs_cons, e_svs_nil, e_sv_ife, e_sv_ret, e_sv_retN, e_sv_set, e_sv_setIx, e_sv_setLc, e_sv_app, e_sv_ex, e_sv_loop, e_sv_pass, e_ev_var, e_ev_lit, e_ev_glb, e_ev_gix, e_ev_bin, e_ev_neg, e_ev_not, w_and, w_or, QT2_bool, QB_bool, e_ev_one, e_ev_cmp, w_cmp2, e_ev_ife, e_ev_tup, e_mkT, e_ev_lst, e_ev_frz, e_ev_rev, e_ev_dct, e_ev_mcall, e_ev_callD, e_ev_callT, e_sv_tryS, e_sv_raise, e_tbv_ex, e_tbv_set, e_tbv_ife, e_tbv_exSet, e_sv_brk, e_sv_cont, wp_catch, e_evc_none, e_evc_some, e_ev_ix, e_ev_sl, e_ev_bi, e_ev_mx2, e_ev_isi, e_ev_call, e_ev_join, e_ev_lc, e_evs_nil, e_evs_cons, e_evo_none, e_evo_some, e_evi_seq, e_evi_rng1, e_evi_rng2, e_evi_enum, e_evi_zip, env0, varD, e_b_nm, e_b_tT, e_b_tL, e_b_nil, e_b_cons, wp_bind, wp_then, wp_ok, wp_truR, wp_finP, QF_nx, QF_rt, QE1_rt, QE1_nx, QT1_bool, List.map, List.length, List.replicate, List.getElem?_cons_zero, List.getElem?_cons_succ, List.set, Nat.reduceSub, List.cons_append, List.nil_append, Nat.reduceAdd, wp_ite, e_mkLT, tru_b, seqI_L, seqI_T, pures_p, pures_nil, Option.map_some, Option.bind_some, if_true, sz_0, sz_1, sz_2, sz_3, sz_4, sz_5, sz_6, sz_7, sz_8, sz_9, sz_10, sz_11, sz_12, sz_13, sz_14, sz_15, sz_16, sz_17, sz_18, sz_19, sz_20, sz_21, sz_22, sz_23, sz_24, sz_25, sz_26, sz_27, sz_28, sz_29, sz_30, sz_31, sz_32, sz_33, sz_34, sz_35, sz_36, sz_37, sz_38, sz_39, sz_40, e_ixT, atI_0, forms_ix st forms_all, e_slT, cut1, e_zipST, l_all]
                refine loop_row k _ _ _ _ _ _ (zsm hr (by decide)) (fun ha ex x3 x4 x5 x6 => ?_) (fun ha ex => ?_)
                · simp only [QF_nx, e_svs_cons, e_svs_nil, e_sv_ife, e_sv_ret, e_sv_retN, e_sv_set, e_sv_setIx, e_sv_setLc, e_sv_app, e_sv_ex, e_sv_loop, e_sv_pass, e_ev_var, e_ev_lit, e_ev_glb, e_ev_gix, e_ev_bin, e_ev_neg, e_ev_not, w_and, w_or, QT2_bool, QB_bool, e_ev_one, e_ev_cmp, w_cmp2, e_ev_ife, e_ev_tup, e_mkT, e_ev_lst, e_ev_frz, e_ev_rev, e_ev_dct, e_ev_mcall, e_ev_callD, e_ev_callT, e_sv_tryS, e_sv_raise, e_tbv_ex, e_tbv_set, e_tbv_ife, e_tbv_exSet, e_sv_brk, e_sv_cont, wp_catch, e_evc_none, e_evc_some, e_ev_ix, e_ev_sl, e_ev_bi, e_ev_mx2, e_ev_isi, e_ev_call, e_ev_join, e_ev_lc, e_evs_nil, e_evs_cons, e_evo_none, e_evo_some, e_evi_seq, e_evi_rng1, e_evi_rng2, e_evi_enum, e_evi_zip, env0, varD, e_b_nm, e_b_tT, e_b_tL, e_b_nil, e_b_cons, wp_bind, wp_then, wp_ok, wp_truR, wp_finP, QF_nx, QF_rt, QE1_rt, QE1_nx, QT1_bool, List.map, List.length, List.replicate, List.getElem?_cons_zero, List.getElem?_cons_succ, List.set, Nat.reduceSub, List.cons_append, List.nil_append, Nat.reduceAdd, wp_ite, e_mkLT, tru_b, seqI_L, seqI_T, pures_p, pures_nil, Option.map_some, Option.bind_some, if_true, sz_0, sz_1, sz_2, sz_3, sz_4, sz_5, sz_6, sz_7, sz_8, sz_9, sz_10, sz_11, sz_12, sz_13, sz_14, sz_15, sz_16, sz_17, sz_18, sz_19, sz_20, sz_21, sz_22, sz_23, sz_24, sz_25, sz_26, sz_27, sz_28, sz_29, sz_30, sz_31, sz_32, sz_33, sz_34, sz_35, sz_36, sz_37, sz_38, sz_39, sz_40, e_ixT, atI_0, e_eqs, beq_self_eq_true, gcx]
                  have e0 : allB hs r = true := by
                    obtain ⟨a, b, c, rfl⟩ := three hl
                    simp only [List.zip_cons_cons, List.zip_nil_right, List.all_cons, List.all_nil, Bool.and_true] at ha
                    exact ha
                  rw [e0] at h
                  exact h
                · simp only [e_svs_cons, e_svs_nil, e_sv_ife, e_sv_ret, e_sv_retN, e_sv_set, e_sv_setIx, e_sv_setLc, e_sv_app, e_sv_ex, e_sv_loop, e_sv_pass, e_ev_var, e_ev_lit, e_ev_glb, e_ev_gix, e_ev_bin, e_ev_neg, e_ev_not, w_and, w_or, QT2_bool, QB_bool, e_ev_one, e_ev_cmp, w_cmp2, e_ev_ife, e_ev_tup, e_mkT, e_ev_lst, e_ev_frz, e_ev_rev, e_ev_dct, e_ev_mcall, e_ev_callD, e_ev_callT, e_sv_tryS, e_sv_raise, e_tbv_ex, e_tbv_set, e_tbv_ife, e_tbv_exSet, e_sv_brk, e_sv_cont, wp_catch, e_evc_none, e_evc_some, e_ev_ix, e_ev_sl, e_ev_bi, e_ev_mx2, e_ev_isi, e_ev_call, e_ev_join, e_ev_lc, e_evs_nil, e_evs_cons, e_evo_none, e_evo_some, e_evi_seq, e_evi_rng1, e_evi_rng2, e_evi_enum, e_evi_zip, env0, varD, e_b_nm, e_b_tT, e_b_tL, e_b_nil, e_b_cons, wp_bind, wp_then, wp_ok, wp_truR, wp_finP, QF_nx, QF_rt, QE1_rt, QE1_nx, QT1_bool, List.map, List.length, List.replicate, List.getElem?_cons_zero, List.getElem?_cons_succ, List.set, Nat.reduceSub, List.cons_append, List.nil_append, Nat.reduceAdd, wp_ite, e_mkLT, tru_b, seqI_L, seqI_T, pures_p, pures_nil, Option.map_some, Option.bind_some, if_true, sz_0, sz_1, sz_2, sz_3, sz_4, sz_5, sz_6, sz_7, sz_8, sz_9, sz_10, sz_11, sz_12, sz_13, sz_14, sz_15, sz_16, sz_17, sz_18, sz_19, sz_20, sz_21, sz_22, sz_23, sz_24, sz_25, sz_26, sz_27, sz_28, sz_29, sz_30, sz_31, sz_32, sz_33, sz_34, sz_35, sz_36, sz_37, sz_38, sz_39, sz_40, gcx]
                  have e0 : allB hs r = false := by
                    obtain ⟨a, b, c, rfl⟩ := three hl
                    simp only [List.zip_cons_cons, List.zip_nil_right, List.all_cons, List.all_nil, Bool.and_true] at ha
                    exact ha
                  rw [e0] at h
                  exact h
              · rw [allB_no hl] at h
                simpa [hl, gcx] using h
            · rw [show (w == "all") = false by simpa using w3, Bool.false_and] at h
              simpa [show (w == "ask") = false by simpa using w1, show (w == "job") = false by simpa using w2, show (w == "all") = false by simpa using w3, gcx, w1, w2, w3] using h
      | dict kvs => cases hw.pl
      | _ =>
        have h : Q (.p (.bool false)) st := h
        simpa [isStr, gcx, QT2_bool, QT1_bool] using h
  | dict kvs => cases hx.pl
  | _ =>
    have h : Q (.p (.bool false)) st := h
    simpa [isTuple, gcx, QT2_bool, QT1_bool] using h
/-! things that may be no rows -/
theorem depthAll_le {n : Nat} : ∀ {vs : List PyData}, (∀ y ∈ vs, y.depth ≤ n) → PyData.depthAll vs ≤ n
  | [], _ => by simp [PyData.depthAll]
  | v :: r, h => by
    have h1 := h v List.mem_cons_self
    have h2 := depthAll_le (vs := r) fun y hy => h y (List.mem_cons_of_mem _ hy)
    simp only [PyData.depthAll]
    omega
theorem depth_t {n : Nat} {vs : List PyData} (h : ∀ y ∈ vs, y.depth ≤ n) : (PyData.tuple vs).depth ≤ n + 1 := by
  have := depthAll_le h
  simp only [PyData.depth]
  omega
theorem depth_l {n : Nat} {vs : List PyData} (h : ∀ y ∈ vs, y.depth ≤ n) : (PyData.list vs).depth ≤ n + 1 := by
  have := depthAll_le h
  simp only [PyData.depth]
  omega
theorem plain_l {vs : List PyData} (h : ∀ y ∈ vs, y.plain = true) : PyData.plain (.list vs) = true := by
  show PyData.plainAll vs = true
  induction vs with
  | nil => rfl
  | cons a r ih =>
    show (PyData.plain a && PyData.plainAll r) = true
    rw [h a List.mem_cons_self, ih fun x hx => h x (List.mem_cons_of_mem _ hx)]
    rfl
/-- a thing that is drawn -/
structure Tg (x : PyData) : Prop where
  th : Th x
  dp : x.depth ≤ 30
theorem tg_tup {vs : List PyData} (h : ∀ y ∈ vs, Sm y) : Tg (.tuple vs) :=
  ⟨⟨sm_tup h, fun us e => by cases e; exact h⟩, Nat.le_trans (depth_t fun y hy => (h y hy).dp) (by decide)⟩
theorem tg_no {x : PyData} (hp : x.plain = true) (hd : x.depth ≤ 30) (ht : ∀ vs, x ≠ .tuple vs) : Tg x := ⟨⟨hp, fun vs e => absurd e (ht vs)⟩, hd⟩
theorem sm_int (n : Int) : Sm (.int n) := ⟨rfl, by simp [PyData.depth], fun z e => by cases e⟩
theorem sm_str {z : Str} (h : z.length ≤ 1000) : Sm (.str z) := ⟨rfl, by simp [PyData.depth], fun z e => by cases e; exact h⟩
theorem Row.parts {hs : List Str} (hh : ∀ z ∈ hs, House z) {x : PyData} (h : Row hs x) : ∃ w r, x = .tuple (.str w :: r) ∧ (∀ y ∈ PyData.str w :: r, Sm y) ∧ 3 ≤ r.length ∧ r.length ≤ 6 := by
  have hz : ∀ {z : Str}, z ∈ hs → Sm (.str z) := fun h => sm_str (Nat.le_trans (hh _ h).hi (by decide))
  cases h with
  | ask h g n1 n2 o b hh hg h1 h2 ho hob hb =>
    refine ⟨_, _, rfl, fun y hy => ?_, by simp, by simp⟩
    simp only [List.mem_cons, List.not_mem_nil, or_false] at hy
    rcases hy with rfl | rfl | rfl | rfl | rfl | rfl | rfl
    · exact sm_str (by decide)
    · exact hz hh
    · exact sm_int _
    · exact sm_int _
    · exact hz hg
    · exact sm_int _
    · exact sm_int _
  | job h n o b hh h1 ho hob hb =>
    refine ⟨_, _, rfl, fun y hy => ?_, by simp, by simp⟩
    simp only [List.mem_cons, List.not_mem_nil, or_false] at hy
    rcases hy with rfl | rfl | rfl | rfl | rfl
    · exact sm_str (by decide)
    · exact hz hh
    · exact sm_int _
    · exact sm_int _
    · exact sm_int _
  | all h c1 c2 hh h1 h2 =>
    refine ⟨_, _, rfl, fun y hy => ?_, by simp, by simp⟩
    simp only [List.mem_cons, List.not_mem_nil, or_false] at hy
    rcases hy with rfl | rfl | rfl | rfl
    · exact sm_str (by decide)
    · exact hz hh
    · exact sm_int _
    · exact sm_int _
theorem Row.d1 {hs : List Str} {x : PyData} (h : Row hs x) : x.depth ≤ 1 := by
  cases h <;> simp [PyData.depth, PyData.depthAll]
theorem Row.tg {hs : List Str} (hh : ∀ z ∈ hs, House z) {x : PyData} (h : Row hs x) : Tg x := by
  obtain ⟨w, r, rfl, hv, _⟩ := h.parts hh
  exact tg_tup hv
theorem e_mkLf (ds : List D) (st : Store) : mkL false ds st = match pures ds with
    | some xs => .ok (.p (.list xs)) st
    | none => .ok (.c st.length) (st ++ [.lst ds]) := MP.nr rfl
theorem e_addLs (xs ys : List PyData) (st : Store) : binD .Add (.p (.list xs)) (.p (.list ys)) st = if xs.length + ys.length ≤ SZ then .ok (.p (.list (xs ++ ys))) st else .bad := by
  unfold binD addD
  simp only [items, List.length_map]
  split
  · rw [← List.map_append, mkL_p]
  · rfl
theorem atI_neg {α : Type} {l : List α} {i : Int} (h0 : i < 0) (h1 : 0 ≤ i + l.length) : ∃ a ∈ l, atI l i = some a := by
  obtain ⟨j, hj⟩ : ∃ j : Nat, i + l.length = j := ⟨(i + l.length).toNat, by omega⟩
  have hl : j < l.length := by omega
  refine ⟨l[j], List.getElem_mem hl, ?_⟩
  unfold atI ixN
  rw [if_neg (by omega), if_pos (by omega), hj]
  simp [hl]
theorem cut_mem {α : Type} {l : List α} {lo hi : Option Int} {x : α} (h : x ∈ cut l lo hi) : x ∈ l := List.mem_of_mem_drop (List.mem_of_mem_take h)
theorem no_then (k : Nat) {cs : List Int} {i : Nat} {v : Int} {ex : Store} {m : Nat} {hs gs : List Str} (T : Town m hs gs) (hm : m ≤ 10) {Q : D → Store → Prop} (h : ∀ (x : PyData) (j : Nat) (u : Int), Tg x → Q (.p x) (pen cs j u ++ ex)) :
    wpe NoX (semK defs (k + 5) 28 [.c 1, .p (townD hs gs)] (pen cs i v ++ ex)) Q := by
  have hh := T.house
  refine wp_sem (d := d28) rfl rfl ?_
  simp only [d28, b28, e_svs_cons, e_svs_nil, e_sv_ife, e_sv_ret, e_sv_retN, e_sv_set, e_sv_setIx, e_sv_setLc, e_sv_app, e_sv_ex, e_sv_loop, e_sv_pass, e_ev_var, e_ev_lit, e_ev_glb, e_ev_gix, e_ev_bin, e_ev_neg, e_ev_not, w_and, w_or, QT2_bool, QB_bool, e_ev_one, e_ev_cmp, w_cmp2, e_ev_ife, e_ev_tup, e_mkT, e_ev_lst, e_ev_frz, e_ev_rev, e_ev_dct, e_ev_mcall, e_ev_callD, e_ev_callT, e_sv_tryS, e_sv_raise, e_tbv_ex, e_tbv_set, e_tbv_ife, e_tbv_exSet, e_sv_brk, e_sv_cont, wp_catch, e_evc_none, e_evc_some, e_ev_ix, e_ev_sl, e_ev_bi, e_ev_mx2, e_ev_isi, e_ev_call, e_ev_join, e_ev_lc, e_evs_nil, e_evs_cons, e_evo_none, e_evo_some, e_evi_seq, e_evi_rng1, e_evi_rng2, e_evi_enum, e_evi_zip, env0, varD, e_b_nm, e_b_tT, e_b_tL, e_b_nil, e_b_cons, wp_bind, wp_then, wp_ok, wp_truR, wp_finP, QF_nx, QF_rt, QE1_rt, QE1_nx, QT1_bool, List.map, List.length, List.replicate, List.getElem?_cons_zero, List.getElem?_cons_succ, List.set, Nat.reduceSub, List.cons_append, List.nil_append, Nat.reduceAdd, wp_ite, e_mkLT, tru_b, seqI_L, seqI_T, pures_p, pures_nil, Option.map_some, Option.bind_some, if_true, sz_0, sz_1, sz_2, sz_3, sz_4, sz_5, sz_6, sz_7, sz_8, sz_9, sz_10, sz_11, sz_12, sz_13, sz_14, sz_15, sz_16, sz_17, sz_18, sz_19, sz_20, sz_21, sz_22, sz_23, sz_24, sz_25, sz_26, sz_27, sz_28, sz_29, sz_30, sz_31, sz_32, sz_33, sz_34, sz_35, sz_36, sz_37, sz_38, sz_39, sz_40]
  refine any_then k T hm fun x i1 u1 hx => ?_
  obtain ⟨w, r, rfl, hv, l1, l2⟩ := hx.parts hh
  obtain ⟨vs, hvs⟩ : ∃ vs, vs = PyData.str w :: r := ⟨_, rfl⟩
  have hl : vs.length = r.length + 1 := by rw [hvs]; rfl
  have h0 : ∀ st, ixD (.p (.tuple vs)) (.p (.int 0)) st = .ok (.p (.str w)) st := fun st => by rw [hvs, e_ixT, atI_0]
  have dv : (PyData.tuple vs).depth ≤ 20 := by rw [hvs]; exact Nat.le_trans hx.d1 (by decide)
  rw [← hvs] at hv ⊢
  simp only [e_svs_cons, e_svs_nil, e_sv_ife, e_sv_ret, e_sv_retN, e_sv_set, e_sv_setIx, e_sv_setLc, e_sv_app, e_sv_ex, e_sv_loop, e_sv_pass, e_ev_var, e_ev_lit, e_ev_glb, e_ev_gix, e_ev_bin, e_ev_neg, e_ev_not, w_and, w_or, QT2_bool, QB_bool, e_ev_one, e_ev_cmp, w_cmp2, e_ev_ife, e_ev_tup, e_mkT, e_ev_lst, e_ev_frz, e_ev_rev, e_ev_dct, e_ev_mcall, e_ev_callD, e_ev_callT, e_sv_tryS, e_sv_raise, e_tbv_ex, e_tbv_set, e_tbv_ife, e_tbv_exSet, e_sv_brk, e_sv_cont, wp_catch, e_evc_none, e_evc_some, e_ev_ix, e_ev_sl, e_ev_bi, e_ev_mx2, e_ev_isi, e_ev_call, e_ev_join, e_ev_lc, e_evs_nil, e_evs_cons, e_evo_none, e_evo_some, e_evi_seq, e_evi_rng1, e_evi_rng2, e_evi_enum, e_evi_zip, env0, varD, e_b_nm, e_b_tT, e_b_tL, e_b_nil, e_b_cons, wp_bind, wp_then, wp_ok, wp_truR, wp_finP, QF_nx, QF_rt, QE1_rt, QE1_nx, QT1_bool, List.map, List.length, List.replicate, List.getElem?_cons_zero, List.getElem?_cons_succ, List.set, Nat.reduceSub, List.cons_append, List.nil_append, Nat.reduceAdd, wp_ite, e_mkLT, tru_b, seqI_L, seqI_T, pures_p, pures_nil, Option.map_some, Option.bind_some, if_true, sz_0, sz_1, sz_2, sz_3, sz_4, sz_5, sz_6, sz_7, sz_8, sz_9, sz_10, sz_11, sz_12, sz_13, sz_14, sz_15, sz_16, sz_17, sz_18, sz_19, sz_20, sz_21, sz_22, sz_23, sz_24, sz_25, sz_26, sz_27, sz_28, sz_29, sz_30, sz_31, sz_32, sz_33, sz_34, sz_35, sz_36, sz_37, sz_38, sz_39, sz_40, e_lenT]
  refine take_then (k + 2) (by omega) (by omega) fun a i2 u2 a0 a1 => ?_
  obtain ⟨n, rfl⟩ : ∃ n : Nat, a = n := ⟨a.toNat, by omega⟩
  obtain ⟨z, hz, ez⟩ := house_ix (hs := hs) (x := 0) (pen cs i2 u2 ++ ex) (by decide) (by have := T.ne; rw [List.length_map]; omega)
  simp only [e_svs_cons, e_svs_nil, e_sv_ife, e_sv_ret, e_sv_retN, e_sv_set, e_sv_setIx, e_sv_setLc, e_sv_app, e_sv_ex, e_sv_loop, e_sv_pass, e_ev_var, e_ev_lit, e_ev_glb, e_ev_gix, e_ev_bin, e_ev_neg, e_ev_not, w_and, w_or, QT2_bool, QB_bool, e_ev_one, e_ev_cmp, w_cmp2, e_ev_ife, e_ev_tup, e_mkT, e_ev_lst, e_ev_frz, e_ev_rev, e_ev_dct, e_ev_mcall, e_ev_callD, e_ev_callT, e_sv_tryS, e_sv_raise, e_tbv_ex, e_tbv_set, e_tbv_ife, e_tbv_exSet, e_sv_brk, e_sv_cont, wp_catch, e_evc_none, e_evc_some, e_ev_ix, e_ev_sl, e_ev_bi, e_ev_mx2, e_ev_isi, e_ev_call, e_ev_join, e_ev_lc, e_evs_nil, e_evs_cons, e_evo_none, e_evo_some, e_evi_seq, e_evi_rng1, e_evi_rng2, e_evi_enum, e_evi_zip, env0, varD, e_b_nm, e_b_tT, e_b_tL, e_b_nil, e_b_cons, wp_bind, wp_then, wp_ok, wp_truR, wp_finP, QF_nx, QF_rt, QE1_rt, QE1_nx, QT1_bool, List.map, List.length, List.replicate, List.getElem?_cons_zero, List.getElem?_cons_succ, List.set, Nat.reduceSub, List.cons_append, List.nil_append, Nat.reduceAdd, wp_ite, e_mkLT, tru_b, seqI_L, seqI_T, pures_p, pures_nil, Option.map_some, Option.bind_some, if_true, sz_0, sz_1, sz_2, sz_3, sz_4, sz_5, sz_6, sz_7, sz_8, sz_9, sz_10, sz_11, sz_12, sz_13, sz_14, sz_15, sz_16, sz_17, sz_18, sz_19, sz_20, sz_21, sz_22, sz_23, sz_24, sz_25, sz_26, sz_27, sz_28, sz_29, sz_30, sz_31, sz_32, sz_33, sz_34, sz_35, sz_36, sz_37, sz_38, sz_39, sz_40, e_mkLf, e_neg', e_pow12, e_add, e_sub, town_ix, ez, e_addLs]
  refine take_then (k + 2) (by decide) (by decide) fun p i3 u3 p0 p1 => ?_
  obtain ⟨y, hy, ey⟩ := ixL_in (l := [.str "", .str "zzzzzzzzz", .str "A", .none, .bool true, .bool false, .int (-1), .int 15, .int 16, .int (1000000000000 + 1), .int (0 - 1000000000000 - 1), .str "0", .tuple [.str "a"], .list [.int 0], .int 0, .int 14, .str z, .str "ask", .str "job", .str "all"]) (pen cs i3 u3 ++ ex) p0 p1
  have sy : Sm y := by
    simp only [List.mem_cons, List.not_mem_nil, or_false] at hy
    rcases hy with rfl | rfl | rfl | rfl | rfl | rfl | rfl | rfl | rfl | rfl | rfl | rfl | rfl | rfl | rfl | rfl | rfl | rfl | rfl | rfl
    · exact sm_str (by decide)
    · exact sm_str (by decide)
    · exact sm_str (by decide)
    · exact ⟨rfl, by simp [PyData.depth], fun z e => by cases e⟩
    · exact ⟨rfl, by simp [PyData.depth], fun z e => by cases e⟩
    · exact ⟨rfl, by simp [PyData.depth], fun z e => by cases e⟩
    · exact sm_int _
    · exact sm_int _
    · exact sm_int _
    · exact sm_int _
    · exact sm_int _
    · exact sm_str (by decide)
    · exact ⟨rfl, by simp [PyData.depth, PyData.depthAll], fun z e => by cases e⟩
    · exact ⟨rfl, by simp [PyData.depth, PyData.depthAll], fun z e => by cases e⟩
    · exact sm_int _
    · exact sm_int _
    · exact sm_str (Nat.le_trans (hh _ hz).hi (by decide))
    · exact sm_str (by decide)
    · exact sm_str (by decide)
    · exact sm_str (by decide)
  rw [ey, wp_ok]
  refine take_then (k + 2) (by decide) (by decide) fun q i4 u4 q0 q1 => ?_
  have take_l : (vs.take n).length ≤ 7 := by rw [List.length_take]; omega
  have drop_l : ∀ j, (vs.drop j).length ≤ 7 := fun j => by rw [List.length_drop]; omega
  have st : ∀ y ∈ vs.take n, Sm y := fun y hy => hv y (List.mem_of_mem_take hy)
  have sd : ∀ j, ∀ y ∈ vs.drop j, Sm y := fun j y hy => hv y (List.mem_of_mem_drop hy)
  have n1 : (n : Int) + 1 = ((n + 1 : Nat) : Int) := by omega
  have app : ∀ {a b : List PyData}, (∀ y ∈ a, Sm y) → (∀ y ∈ b, Sm y) → ∀ y ∈ a ++ b, Sm y := fun ha hb y hy => (List.mem_append.mp hy).elim (ha y) (hb y)
  have one : ∀ x ∈ [y], Sm x := fun x hx => by rw [List.mem_singleton.mp hx]; exact sy
  have len1 : ∀ {a b : List PyData}, (a ++ b).length = a.length + b.length := fun {a b} => List.length_append
  try simp only [e_svs_cons, e_svs_nil, e_sv_ife, e_sv_ret, e_sv_retN, e_sv_set, e_sv_setIx, e_sv_setLc, e_sv_app, e_sv_ex, e_sv_loop, e_sv_pass, e_ev_var, e_ev_lit, e_ev_glb, e_ev_gix, e_ev_bin, e_ev_neg, e_ev_not, w_and, w_or, QT2_bool, QB_bool, e_ev_one, e_ev_cmp, w_cmp2, e_ev_ife, e_ev_tup, e_mkT, e_ev_lst, e_ev_frz, e_ev_rev, e_ev_dct, e_ev_mcall, e_ev_callD, e_ev_callT, e_sv_tryS, e_sv_raise, e_tbv_ex, e_tbv_set, e_tbv_ife, e_tbv_exSet, e_sv_brk, e_sv_cont, wp_catch, e_evc_none, e_evc_some, e_ev_ix, e_ev_sl, e_ev_bi, e_ev_mx2, e_ev_isi, e_ev_call, e_ev_join, e_ev_lc, e_evs_nil, e_evs_cons, e_evo_none, e_evo_some, e_evi_seq, e_evi_rng1, e_evi_rng2, e_evi_enum, e_evi_zip, env0, varD, e_b_nm, e_b_tT, e_b_tL, e_b_nil, e_b_cons, wp_bind, wp_then, wp_ok, wp_truR, wp_finP, QF_nx, QF_rt, QE1_rt, QE1_nx, QT1_bool, List.map, List.length, List.replicate, List.getElem?_cons_zero, List.getElem?_cons_succ, List.set, Nat.reduceSub, List.cons_append, List.nil_append, Nat.reduceAdd, wp_ite, e_mkLT, tru_b, seqI_L, seqI_T, pures_p, pures_nil, Option.map_some, Option.bind_some, if_true, sz_0, sz_1, sz_2, sz_3, sz_4, sz_5, sz_6, sz_7, sz_8, sz_9, sz_10, sz_11, sz_12, sz_13, sz_14, sz_15, sz_16, sz_17, sz_18, sz_19, sz_20, sz_21, sz_22, sz_23, sz_24, sz_25, sz_26, sz_27, sz_28, sz_29, sz_30, sz_31, sz_32, sz_33, sz_34, sz_35, sz_36, sz_37, sz_38, sz_39, sz_40, e_eqi]
  split
  · simp only [e_svs_cons, e_svs_nil, e_sv_ife, e_sv_ret, e_sv_retN, e_sv_set, e_sv_setIx, e_sv_setLc, e_sv_app, e_sv_ex, e_sv_loop, e_sv_pass, e_ev_var, e_ev_lit, e_ev_glb, e_ev_gix, e_ev_bin, e_ev_neg, e_ev_not, w_and, w_or, QT2_bool, QB_bool, e_ev_one, e_ev_cmp, w_cmp2, e_ev_ife, e_ev_tup, e_mkT, e_ev_lst, e_ev_frz, e_ev_rev, e_ev_dct, e_ev_mcall, e_ev_callD, e_ev_callT, e_sv_tryS, e_sv_raise, e_tbv_ex, e_tbv_set, e_tbv_ife, e_tbv_exSet, e_sv_brk, e_sv_cont, wp_catch, e_evc_none, e_evc_some, e_ev_ix, e_ev_sl, e_ev_bi, e_ev_mx2, e_ev_isi, e_ev_call, e_ev_join, e_ev_lc, e_evs_nil, e_evs_cons, e_evo_none, e_evo_some, e_evi_seq, e_evi_rng1, e_evi_rng2, e_evi_enum, e_evi_zip, env0, varD, e_b_nm, e_b_tT, e_b_tL, e_b_nil, e_b_cons, wp_bind, wp_then, wp_ok, wp_truR, wp_finP, QF_nx, QF_rt, QE1_rt, QE1_nx, QT1_bool, List.map, List.length, List.replicate, List.getElem?_cons_zero, List.getElem?_cons_succ, List.set, Nat.reduceSub, List.cons_append, List.nil_append, Nat.reduceAdd, wp_ite, e_mkLT, tru_b, seqI_L, seqI_T, pures_p, pures_nil, Option.map_some, Option.bind_some, if_true, sz_0, sz_1, sz_2, sz_3, sz_4, sz_5, sz_6, sz_7, sz_8, sz_9, sz_10, sz_11, sz_12, sz_13, sz_14, sz_15, sz_16, sz_17, sz_18, sz_19, sz_20, sz_21, sz_22, sz_23, sz_24, sz_25, sz_26, sz_27, sz_28, sz_29, sz_30, sz_31, sz_32, sz_33, sz_34, sz_35, sz_36, sz_37, sz_38, sz_39, sz_40, e_slT, e_add, n1, cut_take, cut_drop, e_addTT _ _ (show (vs.take n).length + (vs.drop (n + 1)).length ≤ 1000 from by have := drop_l (n + 1); omega)]
    rw [gc_p]
    exact h _ _ _ (tg_tup (app st (sd _)))
  · split
    · simp only [e_svs_cons, e_svs_nil, e_sv_ife, e_sv_ret, e_sv_retN, e_sv_set, e_sv_setIx, e_sv_setLc, e_sv_app, e_sv_ex, e_sv_loop, e_sv_pass, e_ev_var, e_ev_lit, e_ev_glb, e_ev_gix, e_ev_bin, e_ev_neg, e_ev_not, w_and, w_or, QT2_bool, QB_bool, e_ev_one, e_ev_cmp, w_cmp2, e_ev_ife, e_ev_tup, e_mkT, e_ev_lst, e_ev_frz, e_ev_rev, e_ev_dct, e_ev_mcall, e_ev_callD, e_ev_callT, e_sv_tryS, e_sv_raise, e_tbv_ex, e_tbv_set, e_tbv_ife, e_tbv_exSet, e_sv_brk, e_sv_cont, wp_catch, e_evc_none, e_evc_some, e_ev_ix, e_ev_sl, e_ev_bi, e_ev_mx2, e_ev_isi, e_ev_call, e_ev_join, e_ev_lc, e_evs_nil, e_evs_cons, e_evo_none, e_evo_some, e_evi_seq, e_evi_rng1, e_evi_rng2, e_evi_enum, e_evi_zip, env0, varD, e_b_nm, e_b_tT, e_b_tL, e_b_nil, e_b_cons, wp_bind, wp_then, wp_ok, wp_truR, wp_finP, QF_nx, QF_rt, QE1_rt, QE1_nx, QT1_bool, List.map, List.length, List.replicate, List.getElem?_cons_zero, List.getElem?_cons_succ, List.set, Nat.reduceSub, List.cons_append, List.nil_append, Nat.reduceAdd, wp_ite, e_mkLT, tru_b, seqI_L, seqI_T, pures_p, pures_nil, Option.map_some, Option.bind_some, if_true, sz_0, sz_1, sz_2, sz_3, sz_4, sz_5, sz_6, sz_7, sz_8, sz_9, sz_10, sz_11, sz_12, sz_13, sz_14, sz_15, sz_16, sz_17, sz_18, sz_19, sz_20, sz_21, sz_22, sz_23, sz_24, sz_25, sz_26, sz_27, sz_28, sz_29, sz_30, sz_31, sz_32, sz_33, sz_34, sz_35, sz_36, sz_37, sz_38, sz_39, sz_40, e_slT, e_add, n1, cut_take, cut_drop, e_addTT _ _ (show (vs.take n).length + [y].length ≤ 1000 from by simp only [List.length_singleton]; omega), e_addTT _ _ (show (vs.take n ++ [y]).length + (vs.drop n).length ≤ 1000 from by have := drop_l n; rw [len1]; simp only [List.length_singleton]; omega)]
      rw [gc_p]
      exact h _ _ _ (tg_tup (app (app st one) (sd _)))
    · split
      · simp only [e_svs_cons, e_svs_nil, e_sv_ife, e_sv_ret, e_sv_retN, e_sv_set, e_sv_setIx, e_sv_setLc, e_sv_app, e_sv_ex, e_sv_loop, e_sv_pass, e_ev_var, e_ev_lit, e_ev_glb, e_ev_gix, e_ev_bin, e_ev_neg, e_ev_not, w_and, w_or, QT2_bool, QB_bool, e_ev_one, e_ev_cmp, w_cmp2, e_ev_ife, e_ev_tup, e_mkT, e_ev_lst, e_ev_frz, e_ev_rev, e_ev_dct, e_ev_mcall, e_ev_callD, e_ev_callT, e_sv_tryS, e_sv_raise, e_tbv_ex, e_tbv_set, e_tbv_ife, e_tbv_exSet, e_sv_brk, e_sv_cont, wp_catch, e_evc_none, e_evc_some, e_ev_ix, e_ev_sl, e_ev_bi, e_ev_mx2, e_ev_isi, e_ev_call, e_ev_join, e_ev_lc, e_evs_nil, e_evs_cons, e_evo_none, e_evo_some, e_evi_seq, e_evi_rng1, e_evi_rng2, e_evi_enum, e_evi_zip, env0, varD, e_b_nm, e_b_tT, e_b_tL, e_b_nil, e_b_cons, wp_bind, wp_then, wp_ok, wp_truR, wp_finP, QF_nx, QF_rt, QE1_rt, QE1_nx, QT1_bool, List.map, List.length, List.replicate, List.getElem?_cons_zero, List.getElem?_cons_succ, List.set, Nat.reduceSub, List.cons_append, List.nil_append, Nat.reduceAdd, wp_ite, e_mkLT, tru_b, seqI_L, seqI_T, pures_p, pures_nil, Option.map_some, Option.bind_some, if_true, sz_0, sz_1, sz_2, sz_3, sz_4, sz_5, sz_6, sz_7, sz_8, sz_9, sz_10, sz_11, sz_12, sz_13, sz_14, sz_15, sz_16, sz_17, sz_18, sz_19, sz_20, sz_21, sz_22, sz_23, sz_24, sz_25, sz_26, sz_27, sz_28, sz_29, sz_30, sz_31, sz_32, sz_33, sz_34, sz_35, sz_36, sz_37, sz_38, sz_39, sz_40, e_listPT, e_mkLf, h0]
        refine take_then (k + 2) (by decide) (by decide) fun c i5 u5 c0 c1 => ?_
        obtain ⟨g, hg, eg⟩ := ixL_in (l := [.list vs, .none, .tuple [], .int 7, .bool true, .str "ask", .list [.tuple vs], .tuple [.tuple vs], .str w, .tuple [.str "ask"]]) (pen cs i5 u5 ++ ex) c0 c1
        rw [eg, wp_ok]
        simp only [e_svs_cons, e_svs_nil, e_sv_ife, e_sv_ret, e_sv_retN, e_sv_set, e_sv_setIx, e_sv_setLc, e_sv_app, e_sv_ex, e_sv_loop, e_sv_pass, e_ev_var, e_ev_lit, e_ev_glb, e_ev_gix, e_ev_bin, e_ev_neg, e_ev_not, w_and, w_or, QT2_bool, QB_bool, e_ev_one, e_ev_cmp, w_cmp2, e_ev_ife, e_ev_tup, e_mkT, e_ev_lst, e_ev_frz, e_ev_rev, e_ev_dct, e_ev_mcall, e_ev_callD, e_ev_callT, e_sv_tryS, e_sv_raise, e_tbv_ex, e_tbv_set, e_tbv_ife, e_tbv_exSet, e_sv_brk, e_sv_cont, wp_catch, e_evc_none, e_evc_some, e_ev_ix, e_ev_sl, e_ev_bi, e_ev_mx2, e_ev_isi, e_ev_call, e_ev_join, e_ev_lc, e_evs_nil, e_evs_cons, e_evo_none, e_evo_some, e_evi_seq, e_evi_rng1, e_evi_rng2, e_evi_enum, e_evi_zip, env0, varD, e_b_nm, e_b_tT, e_b_tL, e_b_nil, e_b_cons, wp_bind, wp_then, wp_ok, wp_truR, wp_finP, QF_nx, QF_rt, QE1_rt, QE1_nx, QT1_bool, List.map, List.length, List.replicate, List.getElem?_cons_zero, List.getElem?_cons_succ, List.set, Nat.reduceSub, List.cons_append, List.nil_append, Nat.reduceAdd, wp_ite, e_mkLT, tru_b, seqI_L, seqI_T, pures_p, pures_nil, Option.map_some, Option.bind_some, if_true, sz_0, sz_1, sz_2, sz_3, sz_4, sz_5, sz_6, sz_7, sz_8, sz_9, sz_10, sz_11, sz_12, sz_13, sz_14, sz_15, sz_16, sz_17, sz_18, sz_19, sz_20, sz_21, sz_22, sz_23, sz_24, sz_25, sz_26, sz_27, sz_28, sz_29, sz_30, sz_31, sz_32, sz_33, sz_34, sz_35, sz_36, sz_37, sz_38, sz_39, sz_40]
        rw [gc_p]
        refine h _ _ _ ?_
        simp only [List.mem_cons, List.not_mem_nil, or_false] at hg
        rcases hg with rfl | rfl | rfl | rfl | rfl | rfl | rfl | rfl | rfl | rfl
        · exact tg_no (plain_l fun y hy => (hv y hy).pl) (Nat.le_trans (depth_l fun y hy => (hv y hy).dp) (by decide)) (fun vs e => by cases e)
        · exact tg_no rfl (by simp [PyData.depth]) (fun vs e => by cases e)
        · exact tg_tup (fun y hy => absurd hy List.not_mem_nil)
        · exact tg_no rfl (by simp [PyData.depth]) (fun vs e => by cases e)
        · exact tg_no rfl (by simp [PyData.depth]) (fun vs e => by cases e)
        · exact tg_no rfl (by simp [PyData.depth]) (fun vs e => by cases e)
        · exact tg_no (plain_l fun y hy => by rw [List.mem_singleton.mp hy]; exact sm_tup hv) (Nat.le_trans (depth_l (n := 20) fun y hy => by rw [List.mem_singleton.mp hy]; exact dv) (by decide)) (fun vs e => by cases e)
        · refine ⟨⟨?_, fun us e y hy => ?_⟩, Nat.le_trans (depth_t (n := 20) fun y hy => by rw [List.mem_singleton.mp hy]; exact dv) (by decide)⟩
          · show (PyData.plain (.tuple vs) && true) = true
            rw [sm_tup hv]; rfl
          · cases e
            rw [List.mem_singleton.mp hy]
            exact ⟨sm_tup hv, dv, fun z e => by cases e⟩
        · exact tg_no rfl (by simp [PyData.depth]) (fun vs e => by cases e)
        · exact tg_tup fun y hy => by rw [List.mem_singleton.mp hy]; exact sm_str (by decide)
      · split
        · obtain ⟨y1, m1, t1⟩ := atI_neg (l := vs) (i := -1) (by decide) (by omega)
          obtain ⟨y2, m2, t2⟩ := atI_neg (l := vs) (i := -2) (by decide) (by omega)
          simp only [e_svs_cons, e_svs_nil, e_sv_ife, e_sv_ret, e_sv_retN, e_sv_set, e_sv_setIx, e_sv_setLc, e_sv_app, e_sv_ex, e_sv_loop, e_sv_pass, e_ev_var, e_ev_lit, e_ev_glb, e_ev_gix, e_ev_bin, e_ev_neg, e_ev_not, w_and, w_or, QT2_bool, QB_bool, e_ev_one, e_ev_cmp, w_cmp2, e_ev_ife, e_ev_tup, e_mkT, e_ev_lst, e_ev_frz, e_ev_rev, e_ev_dct, e_ev_mcall, e_ev_callD, e_ev_callT, e_sv_tryS, e_sv_raise, e_tbv_ex, e_tbv_set, e_tbv_ife, e_tbv_exSet, e_sv_brk, e_sv_cont, wp_catch, e_evc_none, e_evc_some, e_ev_ix, e_ev_sl, e_ev_bi, e_ev_mx2, e_ev_isi, e_ev_call, e_ev_join, e_ev_lc, e_evs_nil, e_evs_cons, e_evo_none, e_evo_some, e_evi_seq, e_evi_rng1, e_evi_rng2, e_evi_enum, e_evi_zip, env0, varD, e_b_nm, e_b_tT, e_b_tL, e_b_nil, e_b_cons, wp_bind, wp_then, wp_ok, wp_truR, wp_finP, QF_nx, QF_rt, QE1_rt, QE1_nx, QT1_bool, List.map, List.length, List.replicate, List.getElem?_cons_zero, List.getElem?_cons_succ, List.set, Nat.reduceSub, List.cons_append, List.nil_append, Nat.reduceAdd, wp_ite, e_mkLT, tru_b, seqI_L, seqI_T, pures_p, pures_nil, Option.map_some, Option.bind_some, if_true, sz_0, sz_1, sz_2, sz_3, sz_4, sz_5, sz_6, sz_7, sz_8, sz_9, sz_10, sz_11, sz_12, sz_13, sz_14, sz_15, sz_16, sz_17, sz_18, sz_19, sz_20, sz_21, sz_22, sz_23, sz_24, sz_25, sz_26, sz_27, sz_28, sz_29, sz_30, sz_31, sz_32, sz_33, sz_34, sz_35, sz_36, sz_37, sz_38, sz_39, sz_40, e_slT, e_neg', e_ixT, t1, t2, e_addTT _ _ (show (cut vs none (some (-2))).length + [y1, y2].length ≤ 1000 from by have := cut_len vs none (some (-2)); simp only [List.length_cons, List.length_nil]; omega)]
          rw [gc_p]
          refine h _ _ _ (tg_tup (app (fun y hy => hv y (cut_mem hy)) fun y hy => ?_))
          simp only [List.mem_cons, List.not_mem_nil, or_false] at hy
          rcases hy with rfl | rfl
          · exact hv _ m1
          · exact hv _ m2
        · simp only [e_svs_cons, e_svs_nil, e_sv_ife, e_sv_ret, e_sv_retN, e_sv_set, e_sv_setIx, e_sv_setLc, e_sv_app, e_sv_ex, e_sv_loop, e_sv_pass, e_ev_var, e_ev_lit, e_ev_glb, e_ev_gix, e_ev_bin, e_ev_neg, e_ev_not, w_and, w_or, QT2_bool, QB_bool, e_ev_one, e_ev_cmp, w_cmp2, e_ev_ife, e_ev_tup, e_mkT, e_ev_lst, e_ev_frz, e_ev_rev, e_ev_dct, e_ev_mcall, e_ev_callD, e_ev_callT, e_sv_tryS, e_sv_raise, e_tbv_ex, e_tbv_set, e_tbv_ife, e_tbv_exSet, e_sv_brk, e_sv_cont, wp_catch, e_evc_none, e_evc_some, e_ev_ix, e_ev_sl, e_ev_bi, e_ev_mx2, e_ev_isi, e_ev_call, e_ev_join, e_ev_lc, e_evs_nil, e_evs_cons, e_evo_none, e_evo_some, e_evi_seq, e_evi_rng1, e_evi_rng2, e_evi_enum, e_evi_zip, env0, varD, e_b_nm, e_b_tT, e_b_tL, e_b_nil, e_b_cons, wp_bind, wp_then, wp_ok, wp_truR, wp_finP, QF_nx, QF_rt, QE1_rt, QE1_nx, QT1_bool, List.map, List.length, List.replicate, List.getElem?_cons_zero, List.getElem?_cons_succ, List.set, Nat.reduceSub, List.cons_append, List.nil_append, Nat.reduceAdd, wp_ite, e_mkLT, tru_b, seqI_L, seqI_T, pures_p, pures_nil, Option.map_some, Option.bind_some, if_true, sz_0, sz_1, sz_2, sz_3, sz_4, sz_5, sz_6, sz_7, sz_8, sz_9, sz_10, sz_11, sz_12, sz_13, sz_14, sz_15, sz_16, sz_17, sz_18, sz_19, sz_20, sz_21, sz_22, sz_23, sz_24, sz_25, sz_26, sz_27, sz_28, sz_29, sz_30, sz_31, sz_32, sz_33, sz_34, sz_35, sz_36, sz_37, sz_38, sz_39, sz_40, e_slT, e_add, n1, cut_take, cut_drop, e_addTT _ _ (show (vs.take n).length + [y].length ≤ 1000 from by simp only [List.length_singleton]; omega), e_addTT _ _ (show (vs.take n ++ [y]).length + (vs.drop (n + 1)).length ≤ 1000 from by have := drop_l (n + 1); rw [len1]; simp only [List.length_singleton]; omega)]
          rw [gc_p]
          exact h _ _ _ (tg_tup (app (app st one) (sd _)))
section
variable {cs : List Int} {i : Nat} {v : Int} {ex : Store}
theorem few_then (k : Nat) {m : Nat} {hs gs : List Str} (T : Town m hs gs) (hm : m ≤ 10) {Q : D → Store → Prop} (h : ∀ (x : PyData) (j : Nat) (u : Int), Row hs x → Q (.p x) (pen cs j u ++ ex)) :
    wpe NoX (semK defs (k + 4) 27 [.c 1, .p (townD hs gs)] (pen cs i v ++ ex)) Q := by
  refine wp_sem (d := d27) rfl rfl ?_
  have hl := T.ne
  have hlm : (hs.map PyData.str).length = hs.length := List.length_map _
  simp only [d27, b27, e_svs_cons, e_svs_nil, e_sv_ife, e_sv_ret, e_sv_retN, e_sv_set, e_sv_setIx, e_sv_setLc, e_sv_app, e_sv_ex, e_sv_loop, e_sv_pass, e_ev_var, e_ev_lit, e_ev_glb, e_ev_gix, e_ev_bin, e_ev_neg, e_ev_not, w_and, w_or, QT2_bool, QB_bool, e_ev_one, e_ev_cmp, w_cmp2, e_ev_ife, e_ev_tup, e_mkT, e_ev_lst, e_ev_frz, e_ev_rev, e_ev_dct, e_ev_mcall, e_ev_callD, e_ev_callT, e_sv_tryS, e_sv_raise, e_tbv_ex, e_tbv_set, e_tbv_ife, e_tbv_exSet, e_sv_brk, e_sv_cont, wp_catch, e_evc_none, e_evc_some, e_ev_ix, e_ev_sl, e_ev_bi, e_ev_mx2, e_ev_isi, e_ev_call, e_ev_join, e_ev_lc, e_evs_nil, e_evs_cons, e_evo_none, e_evo_some, e_evi_seq, e_evi_rng1, e_evi_rng2, e_evi_enum, e_evi_zip, env0, varD, e_b_nm, e_b_tT, e_b_tL, e_b_nil, e_b_cons, wp_bind, wp_then, wp_ok, wp_truR, wp_finP, QF_nx, QF_rt, QE1_rt, QE1_nx, QT1_bool, List.map, List.length, List.replicate, List.getElem?_cons_zero, List.getElem?_cons_succ, List.set, Nat.reduceSub, List.cons_append, List.nil_append, Nat.reduceAdd, wp_ite, e_mkLT, tru_b, seqI_L, seqI_T, pures_p, pures_nil, Option.map_some, Option.bind_some, if_true, sz_0, sz_1, sz_2, sz_3, sz_4, sz_5, sz_6, sz_7, sz_8, sz_9, sz_10, sz_11, sz_12, sz_13, sz_14, sz_15, sz_16, sz_17, sz_18, sz_19, sz_20, sz_21, sz_22, sz_23, sz_24, sz_25, sz_26, sz_27, sz_28, sz_29, sz_30, sz_31, sz_32, sz_33, sz_34, sz_35, sz_36, sz_37, sz_38, sz_39, sz_40, town_ix, e_lenT]
  refine take_then (k + 1) (by omega) (by omega) fun x i1 u1 x0 x1 => ?_
  obtain ⟨h1, hh1, e1⟩ := house_ix (pen cs i1 u1 ++ ex) x0 x1
  rw [e1, wp_ok]
  refine take_then (k + 1) (by decide) (by decide) fun w i2 u2 w0 w1 => ?_
  refine take_then (k + 1) (by decide) (by decide) fun o i3 u3 o0 o1 => ?_
  refine take_then (k + 1) (by decide) (by decide) fun b i4 u4 b0 b1 => ?_
  try simp only [e_svs_cons, e_svs_nil, e_sv_ife, e_sv_ret, e_sv_retN, e_sv_set, e_sv_setIx, e_sv_setLc, e_sv_app, e_sv_ex, e_sv_loop, e_sv_pass, e_ev_var, e_ev_lit, e_ev_glb, e_ev_gix, e_ev_bin, e_ev_neg, e_ev_not, w_and, w_or, QT2_bool, QB_bool, e_ev_one, e_ev_cmp, w_cmp2, e_ev_ife, e_ev_tup, e_mkT, e_ev_lst, e_ev_frz, e_ev_rev, e_ev_dct, e_ev_mcall, e_ev_callD, e_ev_callT, e_sv_tryS, e_sv_raise, e_tbv_ex, e_tbv_set, e_tbv_ife, e_tbv_exSet, e_sv_brk, e_sv_cont, wp_catch, e_evc_none, e_evc_some, e_ev_ix, e_ev_sl, e_ev_bi, e_ev_mx2, e_ev_isi, e_ev_call, e_ev_join, e_ev_lc, e_evs_nil, e_evs_cons, e_evo_none, e_evo_some, e_evi_seq, e_evi_rng1, e_evi_rng2, e_evi_enum, e_evi_zip, env0, varD, e_b_nm, e_b_tT, e_b_tL, e_b_nil, e_b_cons, wp_bind, wp_then, wp_ok, wp_truR, wp_finP, QF_nx, QF_rt, QE1_rt, QE1_nx, QT1_bool, List.map, List.length, List.replicate, List.getElem?_cons_zero, List.getElem?_cons_succ, List.set, Nat.reduceSub, List.cons_append, List.nil_append, Nat.reduceAdd, wp_ite, e_mkLT, tru_b, seqI_L, seqI_T, pures_p, pures_nil, Option.map_some, Option.bind_some, if_true, sz_0, sz_1, sz_2, sz_3, sz_4, sz_5, sz_6, sz_7, sz_8, sz_9, sz_10, sz_11, sz_12, sz_13, sz_14, sz_15, sz_16, sz_17, sz_18, sz_19, sz_20, sz_21, sz_22, sz_23, sz_24, sz_25, sz_26, sz_27, sz_28, sz_29, sz_30, sz_31, sz_32, sz_33, sz_34, sz_35, sz_36, sz_37, sz_38, sz_39, sz_40, e_lt, town_ix, e_lenT, e_add]
  split
  · refine take_then (k + 1) (by omega) (by omega) fun x i1 u1 x0 x1 => ?_
    obtain ⟨h2, hh2, e2⟩ := house_ix (pen cs i1 u1 ++ ex) x0 x1
    rw [e2, wp_ok]
    refine take_then (k + 1) (by decide) (by decide) fun n1 i5 u5 c0 c1 => ?_
    refine take_then (k + 1) (by decide) (by decide) fun n2 i6 u6 d0 d1 => ?_
    try simp only [e_svs_cons, e_svs_nil, e_sv_ife, e_sv_ret, e_sv_retN, e_sv_set, e_sv_setIx, e_sv_setLc, e_sv_app, e_sv_ex, e_sv_loop, e_sv_pass, e_ev_var, e_ev_lit, e_ev_glb, e_ev_gix, e_ev_bin, e_ev_neg, e_ev_not, w_and, w_or, QT2_bool, QB_bool, e_ev_one, e_ev_cmp, w_cmp2, e_ev_ife, e_ev_tup, e_mkT, e_ev_lst, e_ev_frz, e_ev_rev, e_ev_dct, e_ev_mcall, e_ev_callD, e_ev_callT, e_sv_tryS, e_sv_raise, e_tbv_ex, e_tbv_set, e_tbv_ife, e_tbv_exSet, e_sv_brk, e_sv_cont, wp_catch, e_evc_none, e_evc_some, e_ev_ix, e_ev_sl, e_ev_bi, e_ev_mx2, e_ev_isi, e_ev_call, e_ev_join, e_ev_lc, e_evs_nil, e_evs_cons, e_evo_none, e_evo_some, e_evi_seq, e_evi_rng1, e_evi_rng2, e_evi_enum, e_evi_zip, env0, varD, e_b_nm, e_b_tT, e_b_tL, e_b_nil, e_b_cons, wp_bind, wp_then, wp_ok, wp_truR, wp_finP, QF_nx, QF_rt, QE1_rt, QE1_nx, QT1_bool, List.map, List.length, List.replicate, List.getElem?_cons_zero, List.getElem?_cons_succ, List.set, Nat.reduceSub, List.cons_append, List.nil_append, Nat.reduceAdd, wp_ite, e_mkLT, tru_b, seqI_L, seqI_T, pures_p, pures_nil, Option.map_some, Option.bind_some, if_true, sz_0, sz_1, sz_2, sz_3, sz_4, sz_5, sz_6, sz_7, sz_8, sz_9, sz_10, sz_11, sz_12, sz_13, sz_14, sz_15, sz_16, sz_17, sz_18, sz_19, sz_20, sz_21, sz_22, sz_23, sz_24, sz_25, sz_26, sz_27, sz_28, sz_29, sz_30, sz_31, sz_32, sz_33, sz_34, sz_35, sz_36, sz_37, sz_38, sz_39, sz_40]
    rw [gc_p]
    exact h _ _ _ (.ask h1 h2 n1 n2 o (o + b) hh1 hh2 (by omega) (by omega) (by omega) (by omega) (by omega))
  · split
    · refine take_then (k + 1) (by decide) (by decide) fun n1 i5 u5 c0 c1 => ?_
      try simp only [e_svs_cons, e_svs_nil, e_sv_ife, e_sv_ret, e_sv_retN, e_sv_set, e_sv_setIx, e_sv_setLc, e_sv_app, e_sv_ex, e_sv_loop, e_sv_pass, e_ev_var, e_ev_lit, e_ev_glb, e_ev_gix, e_ev_bin, e_ev_neg, e_ev_not, w_and, w_or, QT2_bool, QB_bool, e_ev_one, e_ev_cmp, w_cmp2, e_ev_ife, e_ev_tup, e_mkT, e_ev_lst, e_ev_frz, e_ev_rev, e_ev_dct, e_ev_mcall, e_ev_callD, e_ev_callT, e_sv_tryS, e_sv_raise, e_tbv_ex, e_tbv_set, e_tbv_ife, e_tbv_exSet, e_sv_brk, e_sv_cont, wp_catch, e_evc_none, e_evc_some, e_ev_ix, e_ev_sl, e_ev_bi, e_ev_mx2, e_ev_isi, e_ev_call, e_ev_join, e_ev_lc, e_evs_nil, e_evs_cons, e_evo_none, e_evo_some, e_evi_seq, e_evi_rng1, e_evi_rng2, e_evi_enum, e_evi_zip, env0, varD, e_b_nm, e_b_tT, e_b_tL, e_b_nil, e_b_cons, wp_bind, wp_then, wp_ok, wp_truR, wp_finP, QF_nx, QF_rt, QE1_rt, QE1_nx, QT1_bool, List.map, List.length, List.replicate, List.getElem?_cons_zero, List.getElem?_cons_succ, List.set, Nat.reduceSub, List.cons_append, List.nil_append, Nat.reduceAdd, wp_ite, e_mkLT, tru_b, seqI_L, seqI_T, pures_p, pures_nil, Option.map_some, Option.bind_some, if_true, sz_0, sz_1, sz_2, sz_3, sz_4, sz_5, sz_6, sz_7, sz_8, sz_9, sz_10, sz_11, sz_12, sz_13, sz_14, sz_15, sz_16, sz_17, sz_18, sz_19, sz_20, sz_21, sz_22, sz_23, sz_24, sz_25, sz_26, sz_27, sz_28, sz_29, sz_30, sz_31, sz_32, sz_33, sz_34, sz_35, sz_36, sz_37, sz_38, sz_39, sz_40]
      rw [gc_p]
      exact h _ _ _ (.job h1 n1 o (o + b) hh1 (by omega) (by omega) (by omega) (by omega))
    · refine take_then (k + 1) (by decide) (by decide) fun n1 i5 u5 c0 c1 => ?_
      refine take_then (k + 1) (by decide) (by decide) fun n2 i6 u6 d0 d1 => ?_
      try simp only [e_svs_cons, e_svs_nil, e_sv_ife, e_sv_ret, e_sv_retN, e_sv_set, e_sv_setIx, e_sv_setLc, e_sv_app, e_sv_ex, e_sv_loop, e_sv_pass, e_ev_var, e_ev_lit, e_ev_glb, e_ev_gix, e_ev_bin, e_ev_neg, e_ev_not, w_and, w_or, QT2_bool, QB_bool, e_ev_one, e_ev_cmp, w_cmp2, e_ev_ife, e_ev_tup, e_mkT, e_ev_lst, e_ev_frz, e_ev_rev, e_ev_dct, e_ev_mcall, e_ev_callD, e_ev_callT, e_sv_tryS, e_sv_raise, e_tbv_ex, e_tbv_set, e_tbv_ife, e_tbv_exSet, e_sv_brk, e_sv_cont, wp_catch, e_evc_none, e_evc_some, e_ev_ix, e_ev_sl, e_ev_bi, e_ev_mx2, e_ev_isi, e_ev_call, e_ev_join, e_ev_lc, e_evs_nil, e_evs_cons, e_evo_none, e_evo_some, e_evi_seq, e_evi_rng1, e_evi_rng2, e_evi_enum, e_evi_zip, env0, varD, e_b_nm, e_b_tT, e_b_tL, e_b_nil, e_b_cons, wp_bind, wp_then, wp_ok, wp_truR, wp_finP, QF_nx, QF_rt, QE1_rt, QE1_nx, QT1_bool, List.map, List.length, List.replicate, List.getElem?_cons_zero, List.getElem?_cons_succ, List.set, Nat.reduceSub, List.cons_append, List.nil_append, Nat.reduceAdd, wp_ite, e_mkLT, tru_b, seqI_L, seqI_T, pures_p, pures_nil, Option.map_some, Option.bind_some, if_true, sz_0, sz_1, sz_2, sz_3, sz_4, sz_5, sz_6, sz_7, sz_8, sz_9, sz_10, sz_11, sz_12, sz_13, sz_14, sz_15, sz_16, sz_17, sz_18, sz_19, sz_20, sz_21, sz_22, sz_23, sz_24, sz_25, sz_26, sz_27, sz_28, sz_29, sz_30, sz_31, sz_32, sz_33, sz_34, sz_35, sz_36, sz_37, sz_38, sz_39, sz_40]
      rw [gc_p]
      exact h _ _ _ (.all h1 n1 n2 hh1 (by omega) (by omega))
end
/-! clashes -/
theorem Row.depth {hs : List Str} {x : PyData} (h : Row hs x) : x.depth ≤ 64 := by
  cases h <;> simp [PyData.depth, PyData.depthAll]
def cl (x y : PyData) : Bool :=
  !(PyData.eqv x y) &&
  match x, y with
  | .tuple [_, .str h, .int n, _, _, .int o, _], .tuple [_, .str h', .int n', _, _, .int o', _] => h == h' && (n == n' || (decide (n < n') && decide (o' < o)) || (decide (n' < n) && decide (o < o')))
  | .tuple [_, .str h, .int n, .int o, _], .tuple [_, .str h', .int n', .int o', _] => h == h' && (n == n' || (decide (n < n') && decide (o' < o)) || (decide (n' < n) && decide (o < o')))
  | .tuple [_, .str h, .int _, .int _], .tuple [_, .str h', .int _, .int _] => h == h'
  | .tuple [_, .str h, .int c, .int c'], .tuple [_, .str h', .int n, .int m, _, _, _] => h == h' && (decide (c ≤ n) || decide (c' ≤ m))
  | .tuple [_, .str h', .int n, .int m, _, _, _], .tuple [_, .str h, .int c, .int c'] => h' == h && (decide (c ≤ n) || decide (c' ≤ m))
  | .tuple [_, .str h, .int _, .int c'], .tuple [_, .str h', .int n, .int _, .int _] => h == h' && decide (c' ≤ n)
  | .tuple [_, .str h', .int n, .int _, .int _], .tuple [_, .str h, .int _, .int c'] => h' == h && decide (c' ≤ n)
  | .tuple [_, .str h, .int n, .int o, .int b], .tuple [_, .str h', .int _, .int m, _, .int o', .int b'] => h == h' && ((decide (n ≤ m) && decide (o' ≤ o)) || (n == m && decide (b ≤ b')))
  | .tuple [_, .str h', .int _, .int m, _, .int o', .int b'], .tuple [_, .str h, .int n, .int o, .int b] => h' == h && ((decide (n ≤ m) && decide (o' ≤ o)) || (n == m && decide (b ≤ b')))
  | _, _ => false
theorem w_aj : (("ask" : Str) == ("job" : Str)) = false := by decide +kernel
theorem w_al : (("ask" : Str) == ("all" : Str)) = false := by decide +kernel
theorem w_ja : (("job" : Str) == ("ask" : Str)) = false := by decide +kernel
theorem w_jl : (("job" : Str) == ("all" : Str)) = false := by decide +kernel
theorem w_la : (("all" : Str) == ("ask" : Str)) = false := by decide +kernel
theorem w_lj : (("all" : Str) == ("job" : Str)) = false := by decide +kernel
theorem w_self (x : Str) : (x == x) = true := beq_self_eq_true x
theorem q_like (k : Nat) (a b : D) (st : Store) : semK defs (k + 1) 9 [a, b] st = finR st.length (svs (semK defs k) b9 [some a, some b, none] st) := sem_eq (d := d9) rfl rfl
theorem q_bey (k : Nat) (a b : D) (st : Store) : semK defs (k + 1) 10 [a, b] st = finR st.length (svs (semK defs k) b10 [some a, some b] st) := sem_eq (d := d10) rfl rfl
theorem q_ja (k : Nat) (a b : D) (st : Store) : semK defs (k + 1) 11 [a, b] st = finR st.length (svs (semK defs k) b11 [some a, some b] st) := sem_eq (d := d11) rfl rfl
theorem gix_ask (st : Store) : gixD [("ask", .int 5), ("job", .int 3)] (.p (.str "ask")) st = .ok (.p (.int 5)) st := e_gix _ _ _ (by rw [List.lookup_cons, w_self]) st
theorem gix_job (st : Store) : gixD [("ask", .int 5), ("job", .int 3)] (.p (.str "job")) st = .ok (.p (.int 3)) st := e_gix _ _ _ (by rw [List.lookup_cons, w_ja, List.lookup_cons, w_self]) st
theorem dc_ok (k : Nat) {hs hs' : List Str} {x y : PyData} (hx : Row hs x) (hy : Row hs' y) (st : Store) : wpe NoX (semK defs (k + 2) 12 [.p x, .p y] st) fun d st' => d = .p (.bool (cl x y)) ∧ st' = st := by
  refine wp_sem (d := d12) rfl rfl ?_
  have hd : min x.depth y.depth ≤ 64 := Nat.le_trans (Nat.min_le_left _ _) hx.depth
  simp only [d12, b12, e_svs_cons, e_svs_nil, e_sv_ife, e_sv_ret, e_sv_retN, e_sv_set, e_sv_setIx, e_sv_setLc, e_sv_app, e_sv_ex, e_sv_loop, e_sv_pass, e_ev_var, e_ev_lit, e_ev_glb, e_ev_gix, e_ev_bin, e_ev_neg, e_ev_not, w_and, w_or, QT2_bool, QB_bool, e_ev_one, e_ev_cmp, w_cmp2, e_ev_ife, e_ev_tup, e_mkT, e_ev_lst, e_ev_frz, e_ev_rev, e_ev_dct, e_ev_mcall, e_ev_callD, e_ev_callT, e_sv_tryS, e_sv_raise, e_tbv_ex, e_tbv_set, e_tbv_ife, e_tbv_exSet, e_sv_brk, e_sv_cont, wp_catch, e_evc_none, e_evc_some, e_ev_ix, e_ev_sl, e_ev_bi, e_ev_mx2, e_ev_isi, e_ev_call, e_ev_join, e_ev_lc, e_evs_nil, e_evs_cons, e_evo_none, e_evo_some, e_evi_seq, e_evi_rng1, e_evi_rng2, e_evi_enum, e_evi_zip, env0, varD, e_b_nm, e_b_tT, e_b_tL, e_b_nil, e_b_cons, wp_bind, wp_then, wp_ok, wp_truR, wp_finP, QF_nx, QF_rt, QE1_rt, QE1_nx, QT1_bool, List.map, List.length, List.replicate, List.getElem?_cons_zero, List.getElem?_cons_succ, List.set, Nat.reduceSub, List.cons_append, List.nil_append, Nat.reduceAdd, wp_ite, e_mkLT, tru_b, seqI_L, seqI_T, pures_p, pures_nil, Option.map_some, Option.bind_some, if_true, sz_0, sz_1, sz_2, sz_3, sz_4, sz_5, sz_6, sz_7, sz_8, sz_9, sz_10, sz_11, sz_12, sz_13, sz_14, sz_15, sz_16, sz_17, sz_18, sz_19, sz_20, sz_21, sz_22, sz_23, sz_24, sz_25, sz_26, sz_27, sz_28, sz_29, sz_30, sz_31, sz_32, sz_33, sz_34, sz_35, sz_36, sz_37, sz_38, sz_39, sz_40, e_eqX hd, cl]
  generalize PyData.eqv x y = e
  clear hd
  cases e
  case true => simp [gc_st]
  cases hx <;> cases hy <;>
    simp only [e_ixT, atI_0, atI_1, atI_2, atI_3, atI_4, atI_5, atI_6, e_eqs, e_nes, w_self, w_al, w_aj, w_ja, w_jl, w_la, w_lj, e_eqi, q_like, b9, q_bey, b10, q_ja, b11, wp_fin, gix_ask, gix_job, e_lt, e_gt, e_le, e_ge, gc_st, e_svs_cons, e_svs_nil, e_sv_ife, e_sv_ret, e_sv_retN, e_sv_set, e_sv_setIx, e_sv_setLc, e_sv_app, e_sv_ex, e_sv_loop, e_sv_pass, e_ev_var, e_ev_lit, e_ev_glb, e_ev_gix, e_ev_bin, e_ev_neg, e_ev_not, w_and, w_or, QT2_bool, QB_bool, e_ev_one, e_ev_cmp, w_cmp2, e_ev_ife, e_ev_tup, e_mkT, e_ev_lst, e_ev_frz, e_ev_rev, e_ev_dct, e_ev_mcall, e_ev_callD, e_ev_callT, e_sv_tryS, e_sv_raise, e_tbv_ex, e_tbv_set, e_tbv_ife, e_tbv_exSet, e_sv_brk, e_sv_cont, wp_catch, e_evc_none, e_evc_some, e_ev_ix, e_ev_sl, e_ev_bi, e_ev_mx2, e_ev_isi, e_ev_call, e_ev_join, e_ev_lc, e_evs_nil, e_evs_cons, e_evo_none, e_evo_some, e_evi_seq, e_evi_rng1, e_evi_rng2, e_evi_enum, e_evi_zip, env0, varD, e_b_nm, e_b_tT, e_b_tL, e_b_nil, e_b_cons, wp_bind, wp_then, wp_ok, wp_truR, wp_finP, QF_nx, QF_rt, QE1_rt, QE1_nx, QT1_bool, List.map, List.length, List.replicate, List.getElem?_cons_zero, List.getElem?_cons_succ, List.set, Nat.reduceSub, List.cons_append, List.nil_append, Nat.reduceAdd, wp_ite, e_mkLT, tru_b, seqI_L, seqI_T, pures_p, pures_nil, Option.map_some, Option.bind_some, if_true, sz_0, sz_1, sz_2, sz_3, sz_4, sz_5, sz_6, sz_7, sz_8, sz_9, sz_10, sz_11, sz_12, sz_13, sz_14, sz_15, sz_16, sz_17, sz_18, sz_19, sz_20, sz_21, sz_22, sz_23, sz_24, sz_25, sz_26, sz_27, sz_28, sz_29, sz_30, sz_31, sz_32, sz_33, sz_34, sz_35, sz_36, sz_37, sz_38, sz_39, sz_40] <;>
    (repeat' split) <;> simp_all <;> first | (rw [Bool.eq_iff_iff]; simp; done) | (rw [Bool.eq_iff_iff]; simp; omega) | omega
theorem lt_w (a b : Str) (r r' : List PyData) (hne : (a == b) = false) : PySem.W.dataLt (.tuple (.str a :: r)) (.tuple (.str b :: r')) = decide (a.cps.toList < b.cps.toList) := by
  rw [PySem.W.dataLt_tuple, PySem.W.dataLt_cons (by rfl)]
  have : PyData.eqv (.str a) (.str b) = false := by simp only [PyData.eqv]; exact hne
  rw [this, if_neg (by simp), PySem.W.dataLt_str]
theorem in2 (z a b : Str) (st : Store) : cmpD .In (.p (.str z)) (.p (.tuple [.str a, .str b])) st = .ok (.p (.bool (a == z || b == z))) st := by
  rw [e_inT (by simp [PyData.depth])]
  simp [PyData.eqv]
theorem e_intB (b : Bool) (st : Store) : bi1D .int (.p (.bool b)) st = .ok (.p (.int (if b then 1 else 0))) st := nr rfl
theorem neg_mul' (a b : Int) : decide (a * b < 0) = ((decide (a < 0) && decide (0 < b)) || (decide (0 < a) && decide (b < 0))) := by
  rw [Bool.eq_iff_iff]
  simp only [decide_eq_true_eq, Bool.or_eq_true, Bool.and_eq_true]
  constructor
  · intro h
    rcases Int.lt_trichotomy a 0 with ha | ha | ha
    · rcases Int.lt_trichotomy b 0 with hb | hb | hb
      · have := Int.mul_pos_of_neg_of_neg ha hb; omega
      · subst hb; simp at h
      · exact .inl ⟨ha, hb⟩
    · subst ha; simp at h
    · rcases Int.lt_trichotomy b 0 with hb | hb | hb
      · exact .inr ⟨ha, hb⟩
      · subst hb; simp at h
      · have := Int.mul_pos ha hb; omega
  · rintro (⟨ha, hb⟩ | ⟨ha, hb⟩)
    · exact Int.mul_neg_of_neg_of_pos ha hb
    · exact Int.mul_neg_of_pos_of_neg ha hb
theorem ww_allall_allask : (("allall" : Str) == ("allask" : Str)) = false := by decide +kernel
theorem ww_allall_alljob : (("allall" : Str) == ("alljob" : Str)) = false := by decide +kernel
theorem ww_allall_askask : (("allall" : Str) == ("askask" : Str)) = false := by decide +kernel
theorem ww_allall_askjob : (("allall" : Str) == ("askjob" : Str)) = false := by decide +kernel
theorem ww_allall_jobjob : (("allall" : Str) == ("jobjob" : Str)) = false := by decide +kernel
theorem ww_allask_allall : (("allask" : Str) == ("allall" : Str)) = false := by decide +kernel
theorem ww_allask_alljob : (("allask" : Str) == ("alljob" : Str)) = false := by decide +kernel
theorem ww_allask_askask : (("allask" : Str) == ("askask" : Str)) = false := by decide +kernel
theorem ww_allask_askjob : (("allask" : Str) == ("askjob" : Str)) = false := by decide +kernel
theorem ww_allask_jobjob : (("allask" : Str) == ("jobjob" : Str)) = false := by decide +kernel
theorem ww_alljob_allall : (("alljob" : Str) == ("allall" : Str)) = false := by decide +kernel
theorem ww_alljob_allask : (("alljob" : Str) == ("allask" : Str)) = false := by decide +kernel
theorem ww_alljob_askask : (("alljob" : Str) == ("askask" : Str)) = false := by decide +kernel
theorem ww_alljob_askjob : (("alljob" : Str) == ("askjob" : Str)) = false := by decide +kernel
theorem ww_alljob_jobjob : (("alljob" : Str) == ("jobjob" : Str)) = false := by decide +kernel
theorem ww_askask_allall : (("askask" : Str) == ("allall" : Str)) = false := by decide +kernel
theorem ww_askask_allask : (("askask" : Str) == ("allask" : Str)) = false := by decide +kernel
theorem ww_askask_alljob : (("askask" : Str) == ("alljob" : Str)) = false := by decide +kernel
theorem ww_askask_askjob : (("askask" : Str) == ("askjob" : Str)) = false := by decide +kernel
theorem ww_askask_jobjob : (("askask" : Str) == ("jobjob" : Str)) = false := by decide +kernel
theorem ww_askjob_allall : (("askjob" : Str) == ("allall" : Str)) = false := by decide +kernel
theorem ww_askjob_allask : (("askjob" : Str) == ("allask" : Str)) = false := by decide +kernel
theorem ww_askjob_alljob : (("askjob" : Str) == ("alljob" : Str)) = false := by decide +kernel
theorem ww_askjob_askask : (("askjob" : Str) == ("askask" : Str)) = false := by decide +kernel
theorem ww_askjob_jobjob : (("askjob" : Str) == ("jobjob" : Str)) = false := by decide +kernel
theorem ww_jobjob_allall : (("jobjob" : Str) == ("allall" : Str)) = false := by decide +kernel
theorem ww_jobjob_allask : (("jobjob" : Str) == ("allask" : Str)) = false := by decide +kernel
theorem ww_jobjob_alljob : (("jobjob" : Str) == ("alljob" : Str)) = false := by decide +kernel
theorem ww_jobjob_askask : (("jobjob" : Str) == ("askask" : Str)) = false := by decide +kernel
theorem ww_jobjob_askjob : (("jobjob" : Str) == ("askjob" : Str)) = false := by decide +kernel
theorem wc_all_all (st : Store) : binD .Add (.p (.str "all")) (.p (.str "all")) st = .ok (.p (.str "allall")) st := by rw [e_addS _ _ _ (by decide +kernel), show ("all" : Str) ++ ("all" : Str) = "allall" by decide +kernel]
theorem wc_all_ask (st : Store) : binD .Add (.p (.str "all")) (.p (.str "ask")) st = .ok (.p (.str "allask")) st := by rw [e_addS _ _ _ (by decide +kernel), show ("all" : Str) ++ ("ask" : Str) = "allask" by decide +kernel]
theorem wc_all_job (st : Store) : binD .Add (.p (.str "all")) (.p (.str "job")) st = .ok (.p (.str "alljob")) st := by rw [e_addS _ _ _ (by decide +kernel), show ("all" : Str) ++ ("job" : Str) = "alljob" by decide +kernel]
theorem wc_ask_ask (st : Store) : binD .Add (.p (.str "ask")) (.p (.str "ask")) st = .ok (.p (.str "askask")) st := by rw [e_addS _ _ _ (by decide +kernel), show ("ask" : Str) ++ ("ask" : Str) = "askask" by decide +kernel]
theorem wc_ask_job (st : Store) : binD .Add (.p (.str "ask")) (.p (.str "job")) st = .ok (.p (.str "askjob")) st := by rw [e_addS _ _ _ (by decide +kernel), show ("ask" : Str) ++ ("job" : Str) = "askjob" by decide +kernel]
theorem wc_job_job (st : Store) : binD .Add (.p (.str "job")) (.p (.str "job")) st = .ok (.p (.str "jobjob")) st := by rw [e_addS _ _ _ (by decide +kernel), show ("job" : Str) ++ ("job" : Str) = "jobjob" by decide +kernel]
theorem lt_all_ask (r r' : List PyData) : PySem.W.dataLt (.tuple (.str "all" :: r)) (.tuple (.str "ask" :: r')) = true := by rw [lt_w _ _ _ _ (by decide +kernel)]; decide +kernel
theorem lt_all_job (r r' : List PyData) : PySem.W.dataLt (.tuple (.str "all" :: r)) (.tuple (.str "job" :: r')) = true := by rw [lt_w _ _ _ _ (by decide +kernel)]; decide +kernel
theorem lt_ask_job (r r' : List PyData) : PySem.W.dataLt (.tuple (.str "ask" :: r)) (.tuple (.str "job" :: r')) = true := by rw [lt_w _ _ _ _ (by decide +kernel)]; decide +kernel
theorem lt_ask_all (r r' : List PyData) : PySem.W.dataLt (.tuple (.str "ask" :: r)) (.tuple (.str "all" :: r')) = false := by rw [lt_w _ _ _ _ (by decide +kernel)]; decide +kernel
theorem lt_job_all (r r' : List PyData) : PySem.W.dataLt (.tuple (.str "job" :: r)) (.tuple (.str "all" :: r')) = false := by rw [lt_w _ _ _ _ (by decide +kernel)]; decide +kernel
theorem lt_job_ask (r r' : List PyData) : PySem.W.dataLt (.tuple (.str "job" :: r)) (.tuple (.str "ask" :: r')) = false := by rw [lt_w _ _ _ _ (by decide +kernel)]; decide +kernel
theorem Row.mix {hs hs' : List Str} {x y : PyData} (hx : Row hs x) (hy : Row hs' y) : mixB [x, y] = true := by
  cases hx <;> cases hy <;> simp [mixB, lexOk, PySem.W.alike, PyData.plain, PyData.plainAll, PyData.depth, PyData.depthAll, PyData.eqv, sz_2, w_aj, w_al, w_ja, w_jl, w_la, w_lj]
theorem ld_ok (k : Nat) {hs hs' : List Str} {x y : PyData} (hx : Row hs x) (hy : Row hs' y) (st : Store) : wpe NoX (semK defs (k + 1) 22 [.p x, .p y] st) fun d st' => d = .p (.bool (cl x y)) ∧ st' = st := by
  refine wp_sem (d := d22) rfl rfl ?_
  have hd : min x.depth y.depth ≤ 64 := Nat.le_trans (Nat.min_le_left _ _) hx.depth
  have hm := hx.mix hy
  simp only [d22, b22, e_svs_cons, e_svs_nil, e_sv_ife, e_sv_ret, e_sv_retN, e_sv_set, e_sv_setIx, e_sv_setLc, e_sv_app, e_sv_ex, e_sv_loop, e_sv_pass, e_ev_var, e_ev_lit, e_ev_glb, e_ev_gix, e_ev_bin, e_ev_neg, e_ev_not, w_and, w_or, QT2_bool, QB_bool, e_ev_one, e_ev_cmp, w_cmp2, e_ev_ife, e_ev_tup, e_mkT, e_ev_lst, e_ev_frz, e_ev_rev, e_ev_dct, e_ev_mcall, e_ev_callD, e_ev_callT, e_sv_tryS, e_sv_raise, e_tbv_ex, e_tbv_set, e_tbv_ife, e_tbv_exSet, e_sv_brk, e_sv_cont, wp_catch, e_evc_none, e_evc_some, e_ev_ix, e_ev_sl, e_ev_bi, e_ev_mx2, e_ev_isi, e_ev_call, e_ev_join, e_ev_lc, e_evs_nil, e_evs_cons, e_evo_none, e_evo_some, e_evi_seq, e_evi_rng1, e_evi_rng2, e_evi_enum, e_evi_zip, env0, varD, e_b_nm, e_b_tT, e_b_tL, e_b_nil, e_b_cons, wp_bind, wp_then, wp_ok, wp_truR, wp_finP, QF_nx, QF_rt, QE1_rt, QE1_nx, QT1_bool, List.map, List.length, List.replicate, List.getElem?_cons_zero, List.getElem?_cons_succ, List.set, Nat.reduceSub, List.cons_append, List.nil_append, Nat.reduceAdd, wp_ite, e_mkLT, tru_b, seqI_L, seqI_T, pures_p, pures_nil, Option.map_some, Option.bind_some, if_true, sz_0, sz_1, sz_2, sz_3, sz_4, sz_5, sz_6, sz_7, sz_8, sz_9, sz_10, sz_11, sz_12, sz_13, sz_14, sz_15, sz_16, sz_17, sz_18, sz_19, sz_20, sz_21, sz_22, sz_23, sz_24, sz_25, sz_26, sz_27, sz_28, sz_29, sz_30, sz_31, sz_32, sz_33, sz_34, sz_35, sz_36, sz_37, sz_38, sz_39, sz_40, e_eqX hd, e_mkL2, sort_two x y hm, cl]
  generalize PyData.eqv x y = e
  clear hd hm
  obtain ⟨b, hb⟩ : ∃ b, PySem.W.dataLt y x = b := ⟨_, rfl⟩
  rw [hb]
  cases b <;> cases hx <;> cases hy <;>
    first
    | (exfalso; simp only [lt_all_ask, lt_all_job, lt_ask_job, lt_ask_all, lt_job_all, lt_job_ask, Bool.false_eq_true, reduceCtorEq] at hb; done)
    | (clear hb
       simp only [e_svs_cons, e_svs_nil, e_sv_ife, e_sv_ret, e_sv_retN, e_sv_set, e_sv_setIx, e_sv_setLc, e_sv_app, e_sv_ex, e_sv_loop, e_sv_pass, e_ev_var, e_ev_lit, e_ev_glb, e_ev_gix, e_ev_bin, e_ev_neg, e_ev_not, w_and, w_or, QT2_bool, QB_bool, e_ev_one, e_ev_cmp, w_cmp2, e_ev_ife, e_ev_tup, e_mkT, e_ev_lst, e_ev_frz, e_ev_rev, e_ev_dct, e_ev_mcall, e_ev_callD, e_ev_callT, e_sv_tryS, e_sv_raise, e_tbv_ex, e_tbv_set, e_tbv_ife, e_tbv_exSet, e_sv_brk, e_sv_cont, wp_catch, e_evc_none, e_evc_some, e_ev_ix, e_ev_sl, e_ev_bi, e_ev_mx2, e_ev_isi, e_ev_call, e_ev_join, e_ev_lc, e_evs_nil, e_evs_cons, e_evo_none, e_evo_some, e_evi_seq, e_evi_rng1, e_evi_rng2, e_evi_enum, e_evi_zip, env0, varD, e_b_nm, e_b_tT, e_b_tL, e_b_nil, e_b_cons, wp_bind, wp_then, wp_ok, wp_truR, wp_finP, QF_nx, QF_rt, QE1_rt, QE1_nx, QT1_bool, List.map, List.length, List.replicate, List.getElem?_cons_zero, List.getElem?_cons_succ, List.set, Nat.reduceSub, List.cons_append, List.nil_append, Nat.reduceAdd, wp_ite, e_mkLT, tru_b, seqI_L, seqI_T, pures_p, pures_nil, Option.map_some, Option.bind_some, if_true, sz_0, sz_1, sz_2, sz_3, sz_4, sz_5, sz_6, sz_7, sz_8, sz_9, sz_10, sz_11, sz_12, sz_13, sz_14, sz_15, sz_16, sz_17, sz_18, sz_19, sz_20, sz_21, sz_22, sz_23, sz_24, sz_25, sz_26, sz_27, sz_28, sz_29, sz_30, sz_31, sz_32, sz_33, sz_34, sz_35, sz_36, sz_37, sz_38, sz_39, sz_40, Bool.false_eq_true, if_false, e_ixT, e_ixL, atI_0, atI_1, atI_2, atI_3, atI_4, atI_5, atI_6, e_eqs, e_nes, e_eqi, in2, e_intB, ww_allall_allask, ww_allall_alljob, ww_allall_askask, ww_allall_askjob, ww_allall_jobjob, ww_allask_allall, ww_allask_alljob, ww_allask_askask, ww_allask_askjob, ww_allask_jobjob, ww_alljob_allall, ww_alljob_allask, ww_alljob_askask, ww_alljob_askjob, ww_alljob_jobjob, ww_askask_allall, ww_askask_allask, ww_askask_alljob, ww_askask_askjob, ww_askask_jobjob, ww_askjob_allall, ww_askjob_allask, ww_askjob_alljob, ww_askjob_askask, ww_askjob_jobjob, ww_jobjob_allall, ww_jobjob_allask, ww_jobjob_alljob, ww_jobjob_askask, ww_jobjob_askjob, wc_all_all, wc_all_ask, wc_all_job, wc_ask_ask, wc_ask_job, wc_job_job, w_self, w_aj, w_al, w_ja, w_jl, w_la, w_lj, e_lt, e_gt, e_le, e_ge, e_sub, e_mul, e_mkL2, gc_st, Bool.or_false, Bool.or_true, Bool.false_or, Bool.true_or, neg_mul'] 
       split
       · rename_i hc
         try rw [if_pos hc]
         simp at hc
         simp [hc]
       · rename_i hc
         simp at hc
         subst hc
         cases e
         · try simp only [Bool.false_eq_true, if_false]
           (repeat' split) <;> simp_all [mulOk] <;> first | (rw [Bool.eq_iff_iff]; simp; done) | (rw [Bool.eq_iff_iff]; simp; omega) | omega
         · simp)
/-! loops that look for the first -/
def FS {α : Type} (n : Nat) (q : Nat → Option α) : Option α := (List.range n).findSome? q
theorem find_l {α : Type} {gd : Store → Prop} {tg : MT} {body : MP.Env → Store → R Fl} {st : Store} {X : Exc → Store → Prop} {Q : Fl → Store → Prop} (I : MP.Env → Prop) (hg : gd st) (g : Nat → Itm) (q : Nat → Option α) (O : α → (Fl → Store → Prop) → Prop)
    (hO : ∀ a Q k, O a Q → O a (QN Q k)) : ∀ (l : List Nat) (env : MP.Env), I env →
    (∀ j ∈ l, ∀ env, I env → ∃ env1, bindI st tg (g j) env = some env1 ∧ ∀ Q' : Fl → Store → Prop, (q j = none → ∀ env2, I env2 → Q' (.nx env2) st) → (∀ a, q j = some a → O a Q') → wpe X (body env1 st) Q') →
    (l.findSome? q = none → ∀ env, I env → Q (.nx env) st) → (∀ a, l.findSome? q = some a → O a Q) → wpe X (forL gd tg body (l.map g) env st) Q
  | [], env, hi, hb, h0, h1 => wp_for_nil hg (h0 rfl env hi)
  | j :: l, env, hi, hb, h0, h1 => by
    obtain ⟨env1, e, hw⟩ := hb j List.mem_cons_self env hi
    refine wp_for_cons hg e (hw _ (fun hq env2 hi2 => ?_) fun a ha => ?_)
    · rw [QN_nx]
      have e1 : (j :: l).findSome? q = l.findSome? q := by rw [List.findSome?_cons, hq]
      rw [e1] at h0 h1
      exact find_l I hg g q O hO l env2 hi2 (fun j hj => hb j (List.mem_cons_of_mem _ hj)) h0 h1
    · exact hO _ _ _ (h1 a (by rw [List.findSome?_cons, ha]))
theorem for_find {α : Type} {gd : Store → Prop} {tg : MT} {body : MP.Env → Store → R Fl} {st : Store} {X : Exc → Store → Prop} {Q : Fl → Store → Prop} (I : MP.Env → Prop) (hg : gd st) (g : Nat → Itm) (q : Nat → Option α) (O : α → (Fl → Store → Prop) → Prop)
    (hO : ∀ a Q k, O a Q → O a (QN Q k)) (n : Nat) (env : MP.Env) (hi : I env)
    (hb : ∀ j, j < n → ∀ env, I env → ∃ env1, bindI st tg (g j) env = some env1 ∧ ∀ Q' : Fl → Store → Prop, (q j = none → ∀ env2, I env2 → Q' (.nx env2) st) → (∀ a, q j = some a → O a Q') → wpe X (body env1 st) Q')
    (h0 : FS n q = none → ∀ env, I env → Q (.nx env) st) (h1 : ∀ a, FS n q = some a → O a Q) : wpe X (forL gd tg body ((List.range n).map g) env st) Q :=
  find_l I hg g q O hO (List.range n) env hi (fun j hj => hb j (List.mem_range.mp hj)) h0 h1
theorem enum_range (rs : List PyData) : ((rs.map D.p).mapIdx fun i d => Itm.two (.p (.int (i : Nat))) d) = (List.range rs.length).map fun i => Itm.two (.p (.int (i : Nat))) (.p (rs.getD i .none)) := by
  apply List.ext_getElem
  · simp
  · intro i h1 h2
    simp only [List.length_mapIdx, List.length_map] at h1
    simp [h1]
def nr (hs : List Str) (rs : List PyData) : Option Nat := FS rs.length fun i => if rowB hs (rs.getD i .none) = true then none else some i
def fcj (rs : List PyData) (j : Nat) : Option (Nat × Nat) := FS j fun i => if cl (rs.getD i .none) (rs.getD j .none) = true then some (i, j) else none
def fc (rs : List PyData) : Option (Nat × Nat) := FS rs.length (fcj rs)
theorem ixL_get (rs : List PyData) (i : Nat) (h : i < rs.length) (st : Store) : ixD (.p (.list rs)) (.p (.int (i : Nat))) st = .ok (.p (rs.getD i .none)) st := by
  rw [e_ixL, atI_nat (v := rs.getD i .none) (by simp [h])]
theorem getD_mem {rs : List PyData} {i : Nat} (h : i < rs.length) : rs.getD i .none ∈ rs := by
  simp [h]
theorem row_of {hs : List Str} {x : PyData} (h : rowB hs x = true) : Row hs x := by
  have hH : ∀ {a : PyData}, okH hs a = true → ∃ z, a = .str z ∧ z ∈ hs := fun {a} h => by
    cases a with
    | str z => exact ⟨z, rfl, by simpa [okH] using h⟩
    | _ => cases h
  have hB : ∀ {lo hi : Int} {a : PyData}, okB lo hi a = true → ∃ n, a = .int n ∧ lo ≤ n ∧ n ≤ hi := fun {lo hi a} h => by
    cases a with
    | int n => exact ⟨n, rfl, by simpa [okB] using h⟩
    | _ => cases h
  unfold rowB at h
  split at h
  · rename_i w r
    split at h
    · rename_i e
      rw [eq_of_beq e]
      unfold askB at h
      split at h
      · simp only [Bool.and_eq_true] at h
        obtain ⟨q1, q2, q3, q4, q5, q6, q7⟩ := h
        obtain ⟨z1, rfl, m1⟩ := hH q1
        obtain ⟨z2, rfl, m2⟩ := hH q2
        obtain ⟨n1, rfl, n2⟩ := hB q3
        obtain ⟨n3, rfl, n4⟩ := hB q4
        obtain ⟨n5, rfl, n6⟩ := hB q5
        obtain ⟨n7, rfl, n8⟩ := hB q6
        exact .ask z1 z2 n1 n3 n5 n7 m1 m2 n2 n4 n6.1 (by simpa [leI] using q7) n8.2
      · cases h
    · split at h
      · rename_i e
        rw [eq_of_beq e]
        unfold jobB at h
        split at h
        · simp only [Bool.and_eq_true] at h
          obtain ⟨q1, q3, q5, q6, q7⟩ := h
          obtain ⟨z1, rfl, m1⟩ := hH q1
          obtain ⟨n1, rfl, n2⟩ := hB q3
          obtain ⟨n5, rfl, n6⟩ := hB q5
          obtain ⟨n7, rfl, n8⟩ := hB q6
          exact .job z1 n1 n5 n7 m1 n2 n6.1 (by simpa [leI] using q7) n8.2
        · cases h
      · rw [Bool.and_eq_true] at h
        obtain ⟨e, h⟩ := h
        rw [eq_of_beq e]
        unfold allB at h
        split at h
        · simp only [Bool.and_eq_true] at h
          obtain ⟨q1, q3, q5⟩ := h
          obtain ⟨z1, rfl, m1⟩ := hH q1
          obtain ⟨n1, rfl, n2⟩ := hB q3
          obtain ⟨n5, rfl, n6⟩ := hB q5
          exact .all z1 n1 n5 m1 n2 n6
        · cases h
  · cases h
theorem find_none {α : Type} {l : List Nat} {q : Nat → Option α} (h : l.findSome? q = none) : ∀ i ∈ l, q i = none := by
  simpa [List.findSome?_eq_none_iff] using h
theorem nr_none {hs : List Str} {rs : List PyData} (h : nr hs rs = none) : ∀ x ∈ rs, Row hs x := by
  intro x hx
  obtain ⟨i, hi, rfl⟩ := List.getElem_of_mem hx
  have := find_none h i (List.mem_range.mpr hi)
  apply row_of (hs := hs)
  have e : rs.getD i .none = rs[i] := by simp [hi]
  rw [e] at this
  cases hb : rowB hs rs[i]
  · rw [hb] at this; cases this
  · rfl
theorem xe1_p (X : Exc → Store → Prop) (c : Str) (fs : List (Str × D)) (st : Store) (h : fs.all (fun q => dBelow st.length q.2) = true) : XE1 X st.length ⟨c, fs⟩ st = X ⟨c, fs⟩ st := by
  unfold XE1
  rw [if_pos (show exBelow st.length ⟨c, fs⟩ = true from h), gc_st]
theorem mkX1 (a : D) (f : Str) (st : Store) : mkX [a] [(f, .arg 0)] [] st = .ok [(f, a)] st := MP.nr rfl
theorem mkX2 (a b : D) (f g : Str) (st : Store) : mkX [a, b] [(f, .arg 0), (g, .arg 1)] [] st = .ok [(g, b), (f, a)] st := MP.nr rfl
def eNo (i : Nat) : Exc := ⟨"NoRow", [("number", .p (.int (i : Nat)))]⟩
def eCl (i j : Nat) : Exc := ⟨"Clash", [("second", .p (.int (j : Nat))), ("first", .p (.int (i : Nat)))]⟩
theorem book_is (k : Nat) {hs gs : List Str} (hh : ∀ z ∈ hs, House z) {rs : List PyData} (hr : ∀ x ∈ rs, Th x) (hz : rs.length ≤ 1000) {st : Store} (hc : Clo st) {X : Exc → Store → Prop} {Q : D → Store → Prop}
    (h0 : ∀ i, nr hs rs = some i → X (eNo i) st) (h1 : ∀ i j, nr hs rs = none → fc rs = some (i, j) → X (eCl i j) st) (h2 : nr hs rs = none → fc rs = none → Q (.p .none) st) :
    wpe X (semK defs (k + 5) 13 [.p (townD hs gs), .p (.list rs)] st) Q := by
  refine wpe_sem (d := d13) rfl rfl ?_
  simp only [d13, b13, e_svs_cons, e_svs_nil, e_sv_ife, e_sv_ret, e_sv_retN, e_sv_set, e_sv_setIx, e_sv_setLc, e_sv_app, e_sv_ex, e_sv_loop, e_sv_pass, e_ev_var, e_ev_lit, e_ev_glb, e_ev_gix, e_ev_bin, e_ev_neg, e_ev_not, w_and, w_or, QT2_bool, QB_bool, e_ev_one, e_ev_cmp, w_cmp2, e_ev_ife, e_ev_tup, e_mkT, e_ev_lst, e_ev_frz, e_ev_rev, e_ev_dct, e_ev_mcall, e_ev_callD, e_ev_callT, e_sv_tryS, e_sv_raise, e_tbv_ex, e_tbv_set, e_tbv_ife, e_tbv_exSet, e_sv_brk, e_sv_cont, wp_catch, e_evc_none, e_evc_some, e_ev_ix, e_ev_sl, e_ev_bi, e_ev_mx2, e_ev_isi, e_ev_call, e_ev_join, e_ev_lc, e_evs_nil, e_evs_cons, e_evo_none, e_evo_some, e_evi_seq, e_evi_rng1, e_evi_rng2, e_evi_enum, e_evi_zip, env0, varD, e_b_nm, e_b_tT, e_b_tL, e_b_nil, e_b_cons, wp_bind, wp_then, wp_ok, wp_truR, wp_finP, QF_nx, QF_rt, QE1_rt, QE1_nx, QT1_bool, List.map, List.length, List.replicate, List.getElem?_cons_zero, List.getElem?_cons_succ, List.set, Nat.reduceSub, List.cons_append, List.nil_append, Nat.reduceAdd, wp_ite, e_mkLT, tru_b, seqI_L, seqI_T, pures_p, pures_nil, Option.map_some, Option.bind_some, if_true, sz_0, sz_1, sz_2, sz_3, sz_4, sz_5, sz_6, sz_7, sz_8, sz_9, sz_10, sz_11, sz_12, sz_13, sz_14, sz_15, sz_16, sz_17, sz_18, sz_19, sz_20, sz_21, sz_22, sz_23, sz_24, sz_25, sz_26, sz_27, sz_28, sz_29, sz_30, sz_31, sz_32, sz_33, sz_34, sz_35, sz_36, sz_37, sz_38, sz_39, sz_40, e_enumL, enum_range]
  refine for_find (fun env => ∃ x2 x3 x4 x5, env = [some (.p (townD hs gs)), some (.p (.list rs)), x2, x3, x4, x5]) (gd_list _ _) _ (fun i => if rowB hs (rs.getD i .none) = true then none else some i) (fun i _ => XE1 X st.length (eNo i) st) (fun _ _ _ h => h) rs.length _ ⟨_, _, _, _, rfl⟩ (fun j hj env hi => ?_) (fun hn env hi => ?_) (fun i hi => ?_)
  · obtain ⟨x2, x3, x4, x5, rfl⟩ := hi
    refine ⟨_, rfl, fun Q' q0 q1 => ?_⟩
    unfold b13_l2
    simp only [e_svs_cons, e_svs_nil, e_sv_ife, e_sv_ret, e_sv_retN, e_sv_set, e_sv_setIx, e_sv_setLc, e_sv_app, e_sv_ex, e_sv_loop, e_sv_pass, e_ev_var, e_ev_lit, e_ev_glb, e_ev_gix, e_ev_bin, e_ev_neg, e_ev_not, w_and, w_or, QT2_bool, QB_bool, e_ev_one, e_ev_cmp, w_cmp2, e_ev_ife, e_ev_tup, e_mkT, e_ev_lst, e_ev_frz, e_ev_rev, e_ev_dct, e_ev_mcall, e_ev_callD, e_ev_callT, e_sv_tryS, e_sv_raise, e_tbv_ex, e_tbv_set, e_tbv_ife, e_tbv_exSet, e_sv_brk, e_sv_cont, wp_catch, e_evc_none, e_evc_some, e_ev_ix, e_ev_sl, e_ev_bi, e_ev_mx2, e_ev_isi, e_ev_call, e_ev_join, e_ev_lc, e_evs_nil, e_evs_cons, e_evo_none, e_evo_some, e_evi_seq, e_evi_rng1, e_evi_rng2, e_evi_enum, e_evi_zip, env0, varD, e_b_nm, e_b_tT, e_b_tL, e_b_nil, e_b_cons, wp_bind, wp_then, wp_ok, wp_truR, wp_finP, QF_nx, QF_rt, QE1_rt, QE1_nx, QT1_bool, List.map, List.length, List.replicate, List.getElem?_cons_zero, List.getElem?_cons_succ, List.set, Nat.reduceSub, List.cons_append, List.nil_append, Nat.reduceAdd, wp_ite, e_mkLT, tru_b, seqI_L, seqI_T, pures_p, pures_nil, Option.map_some, Option.bind_some, if_true, sz_0, sz_1, sz_2, sz_3, sz_4, sz_5, sz_6, sz_7, sz_8, sz_9, sz_10, sz_11, sz_12, sz_13, sz_14, sz_15, sz_16, sz_17, sz_18, sz_19, sz_20, sz_21, sz_22, sz_23, sz_24, sz_25, sz_26, sz_27, sz_28, sz_29, sz_30, sz_31, sz_32, sz_33, sz_34, sz_35, sz_36, sz_37, sz_38, sz_39, sz_40]
    refine row_is k hh (hr _ (getD_mem hj)) hc ?_
    cases hb : rowB hs (rs.getD j .none)
    · rw [hb] at q0 q1
      simp only [e_svs_cons, e_svs_nil, e_sv_ife, e_sv_ret, e_sv_retN, e_sv_set, e_sv_setIx, e_sv_setLc, e_sv_app, e_sv_ex, e_sv_loop, e_sv_pass, e_ev_var, e_ev_lit, e_ev_glb, e_ev_gix, e_ev_bin, e_ev_neg, e_ev_not, w_and, w_or, QT2_bool, QB_bool, e_ev_one, e_ev_cmp, w_cmp2, e_ev_ife, e_ev_tup, e_mkT, e_ev_lst, e_ev_frz, e_ev_rev, e_ev_dct, e_ev_mcall, e_ev_callD, e_ev_callT, e_sv_tryS, e_sv_raise, e_tbv_ex, e_tbv_set, e_tbv_ife, e_tbv_exSet, e_sv_brk, e_sv_cont, wp_catch, e_evc_none, e_evc_some, e_ev_ix, e_ev_sl, e_ev_bi, e_ev_mx2, e_ev_isi, e_ev_call, e_ev_join, e_ev_lc, e_evs_nil, e_evs_cons, e_evo_none, e_evo_some, e_evi_seq, e_evi_rng1, e_evi_rng2, e_evi_enum, e_evi_zip, env0, varD, e_b_nm, e_b_tT, e_b_tL, e_b_nil, e_b_cons, wp_bind, wp_then, wp_ok, wp_truR, wp_finP, QF_nx, QF_rt, QE1_rt, QE1_nx, QT1_bool, List.map, List.length, List.replicate, List.getElem?_cons_zero, List.getElem?_cons_succ, List.set, Nat.reduceSub, List.cons_append, List.nil_append, Nat.reduceAdd, wp_ite, e_mkLT, tru_b, seqI_L, seqI_T, pures_p, pures_nil, Option.map_some, Option.bind_some, if_true, sz_0, sz_1, sz_2, sz_3, sz_4, sz_5, sz_6, sz_7, sz_8, sz_9, sz_10, sz_11, sz_12, sz_13, sz_14, sz_15, sz_16, sz_17, sz_18, sz_19, sz_20, sz_21, sz_22, sz_23, sz_24, sz_25, sz_26, sz_27, sz_28, sz_29, sz_30, sz_31, sz_32, sz_33, sz_34, sz_35, sz_36, sz_37, sz_38, sz_39, sz_40, Bool.not_false, mkX1, wp_ex]
      exact q1 j rfl
    · rw [hb] at q0 q1
      simp only [e_svs_cons, e_svs_nil, e_sv_ife, e_sv_ret, e_sv_retN, e_sv_set, e_sv_setIx, e_sv_setLc, e_sv_app, e_sv_ex, e_sv_loop, e_sv_pass, e_ev_var, e_ev_lit, e_ev_glb, e_ev_gix, e_ev_bin, e_ev_neg, e_ev_not, w_and, w_or, QT2_bool, QB_bool, e_ev_one, e_ev_cmp, w_cmp2, e_ev_ife, e_ev_tup, e_mkT, e_ev_lst, e_ev_frz, e_ev_rev, e_ev_dct, e_ev_mcall, e_ev_callD, e_ev_callT, e_sv_tryS, e_sv_raise, e_tbv_ex, e_tbv_set, e_tbv_ife, e_tbv_exSet, e_sv_brk, e_sv_cont, wp_catch, e_evc_none, e_evc_some, e_ev_ix, e_ev_sl, e_ev_bi, e_ev_mx2, e_ev_isi, e_ev_call, e_ev_join, e_ev_lc, e_evs_nil, e_evs_cons, e_evo_none, e_evo_some, e_evi_seq, e_evi_rng1, e_evi_rng2, e_evi_enum, e_evi_zip, env0, varD, e_b_nm, e_b_tT, e_b_tL, e_b_nil, e_b_cons, wp_bind, wp_then, wp_ok, wp_truR, wp_finP, QF_nx, QF_rt, QE1_rt, QE1_nx, QT1_bool, List.map, List.length, List.replicate, List.getElem?_cons_zero, List.getElem?_cons_succ, List.set, Nat.reduceSub, List.cons_append, List.nil_append, Nat.reduceAdd, wp_ite, e_mkLT, tru_b, seqI_L, seqI_T, pures_p, pures_nil, Option.map_some, Option.bind_some, if_true, sz_0, sz_1, sz_2, sz_3, sz_4, sz_5, sz_6, sz_7, sz_8, sz_9, sz_10, sz_11, sz_12, sz_13, sz_14, sz_15, sz_16, sz_17, sz_18, sz_19, sz_20, sz_21, sz_22, sz_23, sz_24, sz_25, sz_26, sz_27, sz_28, sz_29, sz_30, sz_31, sz_32, sz_33, sz_34, sz_35, sz_36, sz_37, sz_38, sz_39, sz_40, Bool.not_true, Bool.false_eq_true, if_false]
      exact q0 rfl _ ⟨_, _, _, _, rfl⟩
  · obtain ⟨x2, x3, x4, x5, rfl⟩ := hi
    have hn : nr hs rs = none := hn
    have rows := nr_none hn
    simp only [e_svs_cons, e_svs_nil, e_sv_ife, e_sv_ret, e_sv_retN, e_sv_set, e_sv_setIx, e_sv_setLc, e_sv_app, e_sv_ex, e_sv_loop, e_sv_pass, e_ev_var, e_ev_lit, e_ev_glb, e_ev_gix, e_ev_bin, e_ev_neg, e_ev_not, w_and, w_or, QT2_bool, QB_bool, e_ev_one, e_ev_cmp, w_cmp2, e_ev_ife, e_ev_tup, e_mkT, e_ev_lst, e_ev_frz, e_ev_rev, e_ev_dct, e_ev_mcall, e_ev_callD, e_ev_callT, e_sv_tryS, e_sv_raise, e_tbv_ex, e_tbv_set, e_tbv_ife, e_tbv_exSet, e_sv_brk, e_sv_cont, wp_catch, e_evc_none, e_evc_some, e_ev_ix, e_ev_sl, e_ev_bi, e_ev_mx2, e_ev_isi, e_ev_call, e_ev_join, e_ev_lc, e_evs_nil, e_evs_cons, e_evo_none, e_evo_some, e_evi_seq, e_evi_rng1, e_evi_rng2, e_evi_enum, e_evi_zip, env0, varD, e_b_nm, e_b_tT, e_b_tL, e_b_nil, e_b_cons, wp_bind, wp_then, wp_ok, wp_truR, wp_finP, QF_nx, QF_rt, QE1_rt, QE1_nx, QT1_bool, List.map, List.length, List.replicate, List.getElem?_cons_zero, List.getElem?_cons_succ, List.set, Nat.reduceSub, List.cons_append, List.nil_append, Nat.reduceAdd, wp_ite, e_mkLT, tru_b, seqI_L, seqI_T, pures_p, pures_nil, Option.map_some, Option.bind_some, if_true, sz_0, sz_1, sz_2, sz_3, sz_4, sz_5, sz_6, sz_7, sz_8, sz_9, sz_10, sz_11, sz_12, sz_13, sz_14, sz_15, sz_16, sz_17, sz_18, sz_19, sz_20, sz_21, sz_22, sz_23, sz_24, sz_25, sz_26, sz_27, sz_28, sz_29, sz_30, sz_31, sz_32, sz_33, sz_34, sz_35, sz_36, sz_37, sz_38, sz_39, sz_40, e_enumL, enum_range]
    refine for_find (fun env => ∃ x2 x3 x4 x5, env = [some (.p (townD hs gs)), some (.p (.list rs)), x2, x3, x4, x5]) (gd_list _ _) _ (fcj rs) (fun p _ => XE1 X st.length (eCl p.1 p.2) st) (fun _ _ _ h => h) rs.length _ ⟨_, _, _, _, rfl⟩ (fun j hj env hi => ?_) (fun hn2 env hi => ?_) (fun p hp => ?_)
    · obtain ⟨x2, x3, x4, x5, rfl⟩ := hi
      refine ⟨_, rfl, fun Q' q0 q1 => ?_⟩
      unfold b13_l1
      simp only [e_svs_cons, e_svs_nil, e_sv_ife, e_sv_ret, e_sv_retN, e_sv_set, e_sv_setIx, e_sv_setLc, e_sv_app, e_sv_ex, e_sv_loop, e_sv_pass, e_ev_var, e_ev_lit, e_ev_glb, e_ev_gix, e_ev_bin, e_ev_neg, e_ev_not, w_and, w_or, QT2_bool, QB_bool, e_ev_one, e_ev_cmp, w_cmp2, e_ev_ife, e_ev_tup, e_mkT, e_ev_lst, e_ev_frz, e_ev_rev, e_ev_dct, e_ev_mcall, e_ev_callD, e_ev_callT, e_sv_tryS, e_sv_raise, e_tbv_ex, e_tbv_set, e_tbv_ife, e_tbv_exSet, e_sv_brk, e_sv_cont, wp_catch, e_evc_none, e_evc_some, e_ev_ix, e_ev_sl, e_ev_bi, e_ev_mx2, e_ev_isi, e_ev_call, e_ev_join, e_ev_lc, e_evs_nil, e_evs_cons, e_evo_none, e_evo_some, e_evi_seq, e_evi_rng1, e_evi_rng2, e_evi_enum, e_evi_zip, env0, varD, e_b_nm, e_b_tT, e_b_tL, e_b_nil, e_b_cons, wp_bind, wp_then, wp_ok, wp_truR, wp_finP, QF_nx, QF_rt, QE1_rt, QE1_nx, QT1_bool, List.map, List.length, List.replicate, List.getElem?_cons_zero, List.getElem?_cons_succ, List.set, Nat.reduceSub, List.cons_append, List.nil_append, Nat.reduceAdd, wp_ite, e_mkLT, tru_b, seqI_L, seqI_T, pures_p, pures_nil, Option.map_some, Option.bind_some, if_true, sz_0, sz_1, sz_2, sz_3, sz_4, sz_5, sz_6, sz_7, sz_8, sz_9, sz_10, sz_11, sz_12, sz_13, sz_14, sz_15, sz_16, sz_17, sz_18, sz_19, sz_20, sz_21, sz_22, sz_23, sz_24, sz_25, sz_26, sz_27, sz_28, sz_29, sz_30, sz_31, sz_32, sz_33, sz_34, sz_35, sz_36, sz_37, sz_38, sz_39, sz_40, e_rng0 j (by omega)]
      refine for_find (fun env => ∃ x2 x5, env = [some (.p (townD hs gs)), some (.p (.list rs)), x2, some (.p (rs.getD j .none)), some (.p (.int (j : Nat))), x5]) trivial _ (fun i => if cl (rs.getD i .none) (rs.getD j .none) = true then some (i, j) else none) (fun p _ => XE1 X st.length (eCl p.1 p.2) st) (fun _ _ _ h => h) j _ ⟨_, _, rfl⟩ (fun i hi env hI => ?_) (fun hn3 env hI => ?_) (fun p hp => ?_)
      · obtain ⟨x2, x5, rfl⟩ := hI
        refine ⟨_, rfl, fun Q'' w0 w1 => ?_⟩
        unfold b13_l0
        simp only [e_svs_cons, e_svs_nil, e_sv_ife, e_sv_ret, e_sv_retN, e_sv_set, e_sv_setIx, e_sv_setLc, e_sv_app, e_sv_ex, e_sv_loop, e_sv_pass, e_ev_var, e_ev_lit, e_ev_glb, e_ev_gix, e_ev_bin, e_ev_neg, e_ev_not, w_and, w_or, QT2_bool, QB_bool, e_ev_one, e_ev_cmp, w_cmp2, e_ev_ife, e_ev_tup, e_mkT, e_ev_lst, e_ev_frz, e_ev_rev, e_ev_dct, e_ev_mcall, e_ev_callD, e_ev_callT, e_sv_tryS, e_sv_raise, e_tbv_ex, e_tbv_set, e_tbv_ife, e_tbv_exSet, e_sv_brk, e_sv_cont, wp_catch, e_evc_none, e_evc_some, e_ev_ix, e_ev_sl, e_ev_bi, e_ev_mx2, e_ev_isi, e_ev_call, e_ev_join, e_ev_lc, e_evs_nil, e_evs_cons, e_evo_none, e_evo_some, e_evi_seq, e_evi_rng1, e_evi_rng2, e_evi_enum, e_evi_zip, env0, varD, e_b_nm, e_b_tT, e_b_tL, e_b_nil, e_b_cons, wp_bind, wp_then, wp_ok, wp_truR, wp_finP, QF_nx, QF_rt, QE1_rt, QE1_nx, QT1_bool, List.map, List.length, List.replicate, List.getElem?_cons_zero, List.getElem?_cons_succ, List.set, Nat.reduceSub, List.cons_append, List.nil_append, Nat.reduceAdd, wp_ite, e_mkLT, tru_b, seqI_L, seqI_T, pures_p, pures_nil, Option.map_some, Option.bind_some, if_true, sz_0, sz_1, sz_2, sz_3, sz_4, sz_5, sz_6, sz_7, sz_8, sz_9, sz_10, sz_11, sz_12, sz_13, sz_14, sz_15, sz_16, sz_17, sz_18, sz_19, sz_20, sz_21, sz_22, sz_23, sz_24, sz_25, sz_26, sz_27, sz_28, sz_29, sz_30, sz_31, sz_32, sz_33, sz_34, sz_35, sz_36, sz_37, sz_38, sz_39, sz_40, ixL_get rs i (by omega)]
        refine wpe_of (wp_mono (dc_ok (k + 2) (rows _ (getD_mem (show i < rs.length by omega))) (rows _ (getD_mem hj)) st) ?_)
        rintro _ _ ⟨rfl, rfl⟩
        cases hb : cl (rs.getD i .none) (rs.getD j .none)
        · rw [hb] at w0 w1
          simp only [e_svs_cons, e_svs_nil, e_sv_ife, e_sv_ret, e_sv_retN, e_sv_set, e_sv_setIx, e_sv_setLc, e_sv_app, e_sv_ex, e_sv_loop, e_sv_pass, e_ev_var, e_ev_lit, e_ev_glb, e_ev_gix, e_ev_bin, e_ev_neg, e_ev_not, w_and, w_or, QT2_bool, QB_bool, e_ev_one, e_ev_cmp, w_cmp2, e_ev_ife, e_ev_tup, e_mkT, e_ev_lst, e_ev_frz, e_ev_rev, e_ev_dct, e_ev_mcall, e_ev_callD, e_ev_callT, e_sv_tryS, e_sv_raise, e_tbv_ex, e_tbv_set, e_tbv_ife, e_tbv_exSet, e_sv_brk, e_sv_cont, wp_catch, e_evc_none, e_evc_some, e_ev_ix, e_ev_sl, e_ev_bi, e_ev_mx2, e_ev_isi, e_ev_call, e_ev_join, e_ev_lc, e_evs_nil, e_evs_cons, e_evo_none, e_evo_some, e_evi_seq, e_evi_rng1, e_evi_rng2, e_evi_enum, e_evi_zip, env0, varD, e_b_nm, e_b_tT, e_b_tL, e_b_nil, e_b_cons, wp_bind, wp_then, wp_ok, wp_truR, wp_finP, QF_nx, QF_rt, QE1_rt, QE1_nx, QT1_bool, List.map, List.length, List.replicate, List.getElem?_cons_zero, List.getElem?_cons_succ, List.set, Nat.reduceSub, List.cons_append, List.nil_append, Nat.reduceAdd, wp_ite, e_mkLT, tru_b, seqI_L, seqI_T, pures_p, pures_nil, Option.map_some, Option.bind_some, if_true, sz_0, sz_1, sz_2, sz_3, sz_4, sz_5, sz_6, sz_7, sz_8, sz_9, sz_10, sz_11, sz_12, sz_13, sz_14, sz_15, sz_16, sz_17, sz_18, sz_19, sz_20, sz_21, sz_22, sz_23, sz_24, sz_25, sz_26, sz_27, sz_28, sz_29, sz_30, sz_31, sz_32, sz_33, sz_34, sz_35, sz_36, sz_37, sz_38, sz_39, sz_40, Bool.false_eq_true, if_false]
          exact w0 rfl _ ⟨_, _, rfl⟩
        · rw [hb] at w0 w1
          simp only [e_svs_cons, e_svs_nil, e_sv_ife, e_sv_ret, e_sv_retN, e_sv_set, e_sv_setIx, e_sv_setLc, e_sv_app, e_sv_ex, e_sv_loop, e_sv_pass, e_ev_var, e_ev_lit, e_ev_glb, e_ev_gix, e_ev_bin, e_ev_neg, e_ev_not, w_and, w_or, QT2_bool, QB_bool, e_ev_one, e_ev_cmp, w_cmp2, e_ev_ife, e_ev_tup, e_mkT, e_ev_lst, e_ev_frz, e_ev_rev, e_ev_dct, e_ev_mcall, e_ev_callD, e_ev_callT, e_sv_tryS, e_sv_raise, e_tbv_ex, e_tbv_set, e_tbv_ife, e_tbv_exSet, e_sv_brk, e_sv_cont, wp_catch, e_evc_none, e_evc_some, e_ev_ix, e_ev_sl, e_ev_bi, e_ev_mx2, e_ev_isi, e_ev_call, e_ev_join, e_ev_lc, e_evs_nil, e_evs_cons, e_evo_none, e_evo_some, e_evi_seq, e_evi_rng1, e_evi_rng2, e_evi_enum, e_evi_zip, env0, varD, e_b_nm, e_b_tT, e_b_tL, e_b_nil, e_b_cons, wp_bind, wp_then, wp_ok, wp_truR, wp_finP, QF_nx, QF_rt, QE1_rt, QE1_nx, QT1_bool, List.map, List.length, List.replicate, List.getElem?_cons_zero, List.getElem?_cons_succ, List.set, Nat.reduceSub, List.cons_append, List.nil_append, Nat.reduceAdd, wp_ite, e_mkLT, tru_b, seqI_L, seqI_T, pures_p, pures_nil, Option.map_some, Option.bind_some, if_true, sz_0, sz_1, sz_2, sz_3, sz_4, sz_5, sz_6, sz_7, sz_8, sz_9, sz_10, sz_11, sz_12, sz_13, sz_14, sz_15, sz_16, sz_17, sz_18, sz_19, sz_20, sz_21, sz_22, sz_23, sz_24, sz_25, sz_26, sz_27, sz_28, sz_29, sz_30, sz_31, sz_32, sz_33, sz_34, sz_35, sz_36, sz_37, sz_38, sz_39, sz_40, mkX2, wp_ex]
          exact w1 (i, j) rfl
      · obtain ⟨x2, x5, rfl⟩ := hI
        simp only [e_svs_cons, e_svs_nil, e_sv_ife, e_sv_ret, e_sv_retN, e_sv_set, e_sv_setIx, e_sv_setLc, e_sv_app, e_sv_ex, e_sv_loop, e_sv_pass, e_ev_var, e_ev_lit, e_ev_glb, e_ev_gix, e_ev_bin, e_ev_neg, e_ev_not, w_and, w_or, QT2_bool, QB_bool, e_ev_one, e_ev_cmp, w_cmp2, e_ev_ife, e_ev_tup, e_mkT, e_ev_lst, e_ev_frz, e_ev_rev, e_ev_dct, e_ev_mcall, e_ev_callD, e_ev_callT, e_sv_tryS, e_sv_raise, e_tbv_ex, e_tbv_set, e_tbv_ife, e_tbv_exSet, e_sv_brk, e_sv_cont, wp_catch, e_evc_none, e_evc_some, e_ev_ix, e_ev_sl, e_ev_bi, e_ev_mx2, e_ev_isi, e_ev_call, e_ev_join, e_ev_lc, e_evs_nil, e_evs_cons, e_evo_none, e_evo_some, e_evi_seq, e_evi_rng1, e_evi_rng2, e_evi_enum, e_evi_zip, env0, varD, e_b_nm, e_b_tT, e_b_tL, e_b_nil, e_b_cons, wp_bind, wp_then, wp_ok, wp_truR, wp_finP, QF_nx, QF_rt, QE1_rt, QE1_nx, QT1_bool, List.map, List.length, List.replicate, List.getElem?_cons_zero, List.getElem?_cons_succ, List.set, Nat.reduceSub, List.cons_append, List.nil_append, Nat.reduceAdd, wp_ite, e_mkLT, tru_b, seqI_L, seqI_T, pures_p, pures_nil, Option.map_some, Option.bind_some, if_true, sz_0, sz_1, sz_2, sz_3, sz_4, sz_5, sz_6, sz_7, sz_8, sz_9, sz_10, sz_11, sz_12, sz_13, sz_14, sz_15, sz_16, sz_17, sz_18, sz_19, sz_20, sz_21, sz_22, sz_23, sz_24, sz_25, sz_26, sz_27, sz_28, sz_29, sz_30, sz_31, sz_32, sz_33, sz_34, sz_35, sz_36, sz_37, sz_38, sz_39, sz_40]
        exact q0 hn3 _ ⟨_, _, _, _, rfl⟩
      · exact q1 p hp
    · obtain ⟨x2, x3, x4, x5, rfl⟩ := hi
      simp only [e_svs_cons, e_svs_nil, e_sv_ife, e_sv_ret, e_sv_retN, e_sv_set, e_sv_setIx, e_sv_setLc, e_sv_app, e_sv_ex, e_sv_loop, e_sv_pass, e_ev_var, e_ev_lit, e_ev_glb, e_ev_gix, e_ev_bin, e_ev_neg, e_ev_not, w_and, w_or, QT2_bool, QB_bool, e_ev_one, e_ev_cmp, w_cmp2, e_ev_ife, e_ev_tup, e_mkT, e_ev_lst, e_ev_frz, e_ev_rev, e_ev_dct, e_ev_mcall, e_ev_callD, e_ev_callT, e_sv_tryS, e_sv_raise, e_tbv_ex, e_tbv_set, e_tbv_ife, e_tbv_exSet, e_sv_brk, e_sv_cont, wp_catch, e_evc_none, e_evc_some, e_ev_ix, e_ev_sl, e_ev_bi, e_ev_mx2, e_ev_isi, e_ev_call, e_ev_join, e_ev_lc, e_evs_nil, e_evs_cons, e_evo_none, e_evo_some, e_evi_seq, e_evi_rng1, e_evi_rng2, e_evi_enum, e_evi_zip, env0, varD, e_b_nm, e_b_tT, e_b_tL, e_b_nil, e_b_cons, wp_bind, wp_then, wp_ok, wp_truR, wp_finP, QF_nx, QF_rt, QE1_rt, QE1_nx, QT1_bool, List.map, List.length, List.replicate, List.getElem?_cons_zero, List.getElem?_cons_succ, List.set, Nat.reduceSub, List.cons_append, List.nil_append, Nat.reduceAdd, wp_ite, e_mkLT, tru_b, seqI_L, seqI_T, pures_p, pures_nil, Option.map_some, Option.bind_some, if_true, sz_0, sz_1, sz_2, sz_3, sz_4, sz_5, sz_6, sz_7, sz_8, sz_9, sz_10, sz_11, sz_12, sz_13, sz_14, sz_15, sz_16, sz_17, sz_18, sz_19, sz_20, sz_21, sz_22, sz_23, sz_24, sz_25, sz_26, sz_27, sz_28, sz_29, sz_30, sz_31, sz_32, sz_33, sz_34, sz_35, sz_36, sz_37, sz_38, sz_39, sz_40, gc_st]
      exact h2 hn hn2
    · rw [eCl, xe1_p _ _ _ _ rfl]
      exact h1 p.1 p.2 hn hp
  · rw [eNo, xe1_p _ _ _ _ rfl]
    exact h0 i hi
theorem fclash_is (k : Nat) {hs : List Str} {rs : List PyData} (rows : ∀ x ∈ rs, Row hs x) (hz : rs.length ≤ 1000) {st : Store} {X : Exc → Store → Prop} {Q : D → Store → Prop}
    (h1 : ∀ i j, fc rs = some (i, j) → Q (.p (.tuple [.int (i : Nat), .int (j : Nat)])) st) (h2 : fc rs = none → Q (.p .none) st) :
    wpe X (semK defs (k + 2) 23 [.p (.list rs)] st) Q := by
  refine wp_sem (d := d23) rfl rfl ?_
  simp only [d23, b23, e_svs_cons, e_svs_nil, e_sv_ife, e_sv_ret, e_sv_retN, e_sv_set, e_sv_setIx, e_sv_setLc, e_sv_app, e_sv_ex, e_sv_loop, e_sv_pass, e_ev_var, e_ev_lit, e_ev_glb, e_ev_gix, e_ev_bin, e_ev_neg, e_ev_not, w_and, w_or, QT2_bool, QB_bool, e_ev_one, e_ev_cmp, w_cmp2, e_ev_ife, e_ev_tup, e_mkT, e_ev_lst, e_ev_frz, e_ev_rev, e_ev_dct, e_ev_mcall, e_ev_callD, e_ev_callT, e_sv_tryS, e_sv_raise, e_tbv_ex, e_tbv_set, e_tbv_ife, e_tbv_exSet, e_sv_brk, e_sv_cont, wp_catch, e_evc_none, e_evc_some, e_ev_ix, e_ev_sl, e_ev_bi, e_ev_mx2, e_ev_isi, e_ev_call, e_ev_join, e_ev_lc, e_evs_nil, e_evs_cons, e_evo_none, e_evo_some, e_evi_seq, e_evi_rng1, e_evi_rng2, e_evi_enum, e_evi_zip, env0, varD, e_b_nm, e_b_tT, e_b_tL, e_b_nil, e_b_cons, wp_bind, wp_then, wp_ok, wp_truR, wp_finP, QF_nx, QF_rt, QE1_rt, QE1_nx, QT1_bool, List.map, List.length, List.replicate, List.getElem?_cons_zero, List.getElem?_cons_succ, List.set, Nat.reduceSub, List.cons_append, List.nil_append, Nat.reduceAdd, wp_ite, e_mkLT, tru_b, seqI_L, seqI_T, pures_p, pures_nil, Option.map_some, Option.bind_some, if_true, sz_0, sz_1, sz_2, sz_3, sz_4, sz_5, sz_6, sz_7, sz_8, sz_9, sz_10, sz_11, sz_12, sz_13, sz_14, sz_15, sz_16, sz_17, sz_18, sz_19, sz_20, sz_21, sz_22, sz_23, sz_24, sz_25, sz_26, sz_27, sz_28, sz_29, sz_30, sz_31, sz_32, sz_33, sz_34, sz_35, sz_36, sz_37, sz_38, sz_39, sz_40, e_lenL, e_rng0 rs.length hz]
  refine for_find (fun env => ∃ x1 x2, env = [some (.p (.list rs)), x1, x2]) trivial _ (fcj rs) (fun p Q => Q (.rt (.p (.tuple [.int (p.1 : Nat), .int (p.2 : Nat)]))) st) (fun _ _ _ h => h) rs.length _ ⟨_, _, rfl⟩ (fun j hj env hi => ?_) (fun hn2 env hi => ?_) (fun p hp => ?_)
  · obtain ⟨x1, x2, rfl⟩ := hi
    refine ⟨_, rfl, fun Q' q0 q1 => ?_⟩
    unfold b23_l1
    simp only [e_svs_cons, e_svs_nil, e_sv_ife, e_sv_ret, e_sv_retN, e_sv_set, e_sv_setIx, e_sv_setLc, e_sv_app, e_sv_ex, e_sv_loop, e_sv_pass, e_ev_var, e_ev_lit, e_ev_glb, e_ev_gix, e_ev_bin, e_ev_neg, e_ev_not, w_and, w_or, QT2_bool, QB_bool, e_ev_one, e_ev_cmp, w_cmp2, e_ev_ife, e_ev_tup, e_mkT, e_ev_lst, e_ev_frz, e_ev_rev, e_ev_dct, e_ev_mcall, e_ev_callD, e_ev_callT, e_sv_tryS, e_sv_raise, e_tbv_ex, e_tbv_set, e_tbv_ife, e_tbv_exSet, e_sv_brk, e_sv_cont, wp_catch, e_evc_none, e_evc_some, e_ev_ix, e_ev_sl, e_ev_bi, e_ev_mx2, e_ev_isi, e_ev_call, e_ev_join, e_ev_lc, e_evs_nil, e_evs_cons, e_evo_none, e_evo_some, e_evi_seq, e_evi_rng1, e_evi_rng2, e_evi_enum, e_evi_zip, env0, varD, e_b_nm, e_b_tT, e_b_tL, e_b_nil, e_b_cons, wp_bind, wp_then, wp_ok, wp_truR, wp_finP, QF_nx, QF_rt, QE1_rt, QE1_nx, QT1_bool, List.map, List.length, List.replicate, List.getElem?_cons_zero, List.getElem?_cons_succ, List.set, Nat.reduceSub, List.cons_append, List.nil_append, Nat.reduceAdd, wp_ite, e_mkLT, tru_b, seqI_L, seqI_T, pures_p, pures_nil, Option.map_some, Option.bind_some, if_true, sz_0, sz_1, sz_2, sz_3, sz_4, sz_5, sz_6, sz_7, sz_8, sz_9, sz_10, sz_11, sz_12, sz_13, sz_14, sz_15, sz_16, sz_17, sz_18, sz_19, sz_20, sz_21, sz_22, sz_23, sz_24, sz_25, sz_26, sz_27, sz_28, sz_29, sz_30, sz_31, sz_32, sz_33, sz_34, sz_35, sz_36, sz_37, sz_38, sz_39, sz_40, e_rng0 j (by omega)]
    refine for_find (fun env => ∃ x2, env = [some (.p (.list rs)), some (.p (.int (j : Nat))), x2]) trivial _ (fun i => if cl (rs.getD i .none) (rs.getD j .none) = true then some (i, j) else none) (fun p Q => Q (.rt (.p (.tuple [.int (p.1 : Nat), .int (p.2 : Nat)]))) st) (fun _ _ _ h => h) j _ ⟨_, rfl⟩ (fun i hi env hI => ?_) (fun hn3 env hI => ?_) (fun p hp => ?_)
    · obtain ⟨x2, rfl⟩ := hI
      refine ⟨_, rfl, fun Q'' w0 w1 => ?_⟩
      unfold b23_l0
      simp only [e_svs_cons, e_svs_nil, e_sv_ife, e_sv_ret, e_sv_retN, e_sv_set, e_sv_setIx, e_sv_setLc, e_sv_app, e_sv_ex, e_sv_loop, e_sv_pass, e_ev_var, e_ev_lit, e_ev_glb, e_ev_gix, e_ev_bin, e_ev_neg, e_ev_not, w_and, w_or, QT2_bool, QB_bool, e_ev_one, e_ev_cmp, w_cmp2, e_ev_ife, e_ev_tup, e_mkT, e_ev_lst, e_ev_frz, e_ev_rev, e_ev_dct, e_ev_mcall, e_ev_callD, e_ev_callT, e_sv_tryS, e_sv_raise, e_tbv_ex, e_tbv_set, e_tbv_ife, e_tbv_exSet, e_sv_brk, e_sv_cont, wp_catch, e_evc_none, e_evc_some, e_ev_ix, e_ev_sl, e_ev_bi, e_ev_mx2, e_ev_isi, e_ev_call, e_ev_join, e_ev_lc, e_evs_nil, e_evs_cons, e_evo_none, e_evo_some, e_evi_seq, e_evi_rng1, e_evi_rng2, e_evi_enum, e_evi_zip, env0, varD, e_b_nm, e_b_tT, e_b_tL, e_b_nil, e_b_cons, wp_bind, wp_then, wp_ok, wp_truR, wp_finP, QF_nx, QF_rt, QE1_rt, QE1_nx, QT1_bool, List.map, List.length, List.replicate, List.getElem?_cons_zero, List.getElem?_cons_succ, List.set, Nat.reduceSub, List.cons_append, List.nil_append, Nat.reduceAdd, wp_ite, e_mkLT, tru_b, seqI_L, seqI_T, pures_p, pures_nil, Option.map_some, Option.bind_some, if_true, sz_0, sz_1, sz_2, sz_3, sz_4, sz_5, sz_6, sz_7, sz_8, sz_9, sz_10, sz_11, sz_12, sz_13, sz_14, sz_15, sz_16, sz_17, sz_18, sz_19, sz_20, sz_21, sz_22, sz_23, sz_24, sz_25, sz_26, sz_27, sz_28, sz_29, sz_30, sz_31, sz_32, sz_33, sz_34, sz_35, sz_36, sz_37, sz_38, sz_39, sz_40, ixL_get rs i (by omega), ixL_get rs j hj]
      refine wp_mono (ld_ok k (rows _ (getD_mem (show i < rs.length by omega))) (rows _ (getD_mem hj)) st) ?_
      rintro _ _ ⟨rfl, rfl⟩
      cases hb : cl (rs.getD i .none) (rs.getD j .none)
      · rw [hb] at w0 w1
        simp only [e_svs_cons, e_svs_nil, e_sv_ife, e_sv_ret, e_sv_retN, e_sv_set, e_sv_setIx, e_sv_setLc, e_sv_app, e_sv_ex, e_sv_loop, e_sv_pass, e_ev_var, e_ev_lit, e_ev_glb, e_ev_gix, e_ev_bin, e_ev_neg, e_ev_not, w_and, w_or, QT2_bool, QB_bool, e_ev_one, e_ev_cmp, w_cmp2, e_ev_ife, e_ev_tup, e_mkT, e_ev_lst, e_ev_frz, e_ev_rev, e_ev_dct, e_ev_mcall, e_ev_callD, e_ev_callT, e_sv_tryS, e_sv_raise, e_tbv_ex, e_tbv_set, e_tbv_ife, e_tbv_exSet, e_sv_brk, e_sv_cont, wp_catch, e_evc_none, e_evc_some, e_ev_ix, e_ev_sl, e_ev_bi, e_ev_mx2, e_ev_isi, e_ev_call, e_ev_join, e_ev_lc, e_evs_nil, e_evs_cons, e_evo_none, e_evo_some, e_evi_seq, e_evi_rng1, e_evi_rng2, e_evi_enum, e_evi_zip, env0, varD, e_b_nm, e_b_tT, e_b_tL, e_b_nil, e_b_cons, wp_bind, wp_then, wp_ok, wp_truR, wp_finP, QF_nx, QF_rt, QE1_rt, QE1_nx, QT1_bool, List.map, List.length, List.replicate, List.getElem?_cons_zero, List.getElem?_cons_succ, List.set, Nat.reduceSub, List.cons_append, List.nil_append, Nat.reduceAdd, wp_ite, e_mkLT, tru_b, seqI_L, seqI_T, pures_p, pures_nil, Option.map_some, Option.bind_some, if_true, sz_0, sz_1, sz_2, sz_3, sz_4, sz_5, sz_6, sz_7, sz_8, sz_9, sz_10, sz_11, sz_12, sz_13, sz_14, sz_15, sz_16, sz_17, sz_18, sz_19, sz_20, sz_21, sz_22, sz_23, sz_24, sz_25, sz_26, sz_27, sz_28, sz_29, sz_30, sz_31, sz_32, sz_33, sz_34, sz_35, sz_36, sz_37, sz_38, sz_39, sz_40, Bool.false_eq_true, if_false]
        exact w0 rfl _ ⟨_, rfl⟩
      · rw [hb] at w0 w1
        simp only [e_svs_cons, e_svs_nil, e_sv_ife, e_sv_ret, e_sv_retN, e_sv_set, e_sv_setIx, e_sv_setLc, e_sv_app, e_sv_ex, e_sv_loop, e_sv_pass, e_ev_var, e_ev_lit, e_ev_glb, e_ev_gix, e_ev_bin, e_ev_neg, e_ev_not, w_and, w_or, QT2_bool, QB_bool, e_ev_one, e_ev_cmp, w_cmp2, e_ev_ife, e_ev_tup, e_mkT, e_ev_lst, e_ev_frz, e_ev_rev, e_ev_dct, e_ev_mcall, e_ev_callD, e_ev_callT, e_sv_tryS, e_sv_raise, e_tbv_ex, e_tbv_set, e_tbv_ife, e_tbv_exSet, e_sv_brk, e_sv_cont, wp_catch, e_evc_none, e_evc_some, e_ev_ix, e_ev_sl, e_ev_bi, e_ev_mx2, e_ev_isi, e_ev_call, e_ev_join, e_ev_lc, e_evs_nil, e_evs_cons, e_evo_none, e_evo_some, e_evi_seq, e_evi_rng1, e_evi_rng2, e_evi_enum, e_evi_zip, env0, varD, e_b_nm, e_b_tT, e_b_tL, e_b_nil, e_b_cons, wp_bind, wp_then, wp_ok, wp_truR, wp_finP, QF_nx, QF_rt, QE1_rt, QE1_nx, QT1_bool, List.map, List.length, List.replicate, List.getElem?_cons_zero, List.getElem?_cons_succ, List.set, Nat.reduceSub, List.cons_append, List.nil_append, Nat.reduceAdd, wp_ite, e_mkLT, tru_b, seqI_L, seqI_T, pures_p, pures_nil, Option.map_some, Option.bind_some, if_true, sz_0, sz_1, sz_2, sz_3, sz_4, sz_5, sz_6, sz_7, sz_8, sz_9, sz_10, sz_11, sz_12, sz_13, sz_14, sz_15, sz_16, sz_17, sz_18, sz_19, sz_20, sz_21, sz_22, sz_23, sz_24, sz_25, sz_26, sz_27, sz_28, sz_29, sz_30, sz_31, sz_32, sz_33, sz_34, sz_35, sz_36, sz_37, sz_38, sz_39, sz_40]
        exact w1 (i, j) rfl
    · obtain ⟨x2, rfl⟩ := hI
      simp only [e_svs_cons, e_svs_nil, e_sv_ife, e_sv_ret, e_sv_retN, e_sv_set, e_sv_setIx, e_sv_setLc, e_sv_app, e_sv_ex, e_sv_loop, e_sv_pass, e_ev_var, e_ev_lit, e_ev_glb, e_ev_gix, e_ev_bin, e_ev_neg, e_ev_not, w_and, w_or, QT2_bool, QB_bool, e_ev_one, e_ev_cmp, w_cmp2, e_ev_ife, e_ev_tup, e_mkT, e_ev_lst, e_ev_frz, e_ev_rev, e_ev_dct, e_ev_mcall, e_ev_callD, e_ev_callT, e_sv_tryS, e_sv_raise, e_tbv_ex, e_tbv_set, e_tbv_ife, e_tbv_exSet, e_sv_brk, e_sv_cont, wp_catch, e_evc_none, e_evc_some, e_ev_ix, e_ev_sl, e_ev_bi, e_ev_mx2, e_ev_isi, e_ev_call, e_ev_join, e_ev_lc, e_evs_nil, e_evs_cons, e_evo_none, e_evo_some, e_evi_seq, e_evi_rng1, e_evi_rng2, e_evi_enum, e_evi_zip, env0, varD, e_b_nm, e_b_tT, e_b_tL, e_b_nil, e_b_cons, wp_bind, wp_then, wp_ok, wp_truR, wp_finP, QF_nx, QF_rt, QE1_rt, QE1_nx, QT1_bool, List.map, List.length, List.replicate, List.getElem?_cons_zero, List.getElem?_cons_succ, List.set, Nat.reduceSub, List.cons_append, List.nil_append, Nat.reduceAdd, wp_ite, e_mkLT, tru_b, seqI_L, seqI_T, pures_p, pures_nil, Option.map_some, Option.bind_some, if_true, sz_0, sz_1, sz_2, sz_3, sz_4, sz_5, sz_6, sz_7, sz_8, sz_9, sz_10, sz_11, sz_12, sz_13, sz_14, sz_15, sz_16, sz_17, sz_18, sz_19, sz_20, sz_21, sz_22, sz_23, sz_24, sz_25, sz_26, sz_27, sz_28, sz_29, sz_30, sz_31, sz_32, sz_33, sz_34, sz_35, sz_36, sz_37, sz_38, sz_39, sz_40]
      exact q0 hn3 _ ⟨_, _, rfl⟩
    · simp only [e_svs_cons, e_svs_nil, e_sv_ife, e_sv_ret, e_sv_retN, e_sv_set, e_sv_setIx, e_sv_setLc, e_sv_app, e_sv_ex, e_sv_loop, e_sv_pass, e_ev_var, e_ev_lit, e_ev_glb, e_ev_gix, e_ev_bin, e_ev_neg, e_ev_not, w_and, w_or, QT2_bool, QB_bool, e_ev_one, e_ev_cmp, w_cmp2, e_ev_ife, e_ev_tup, e_mkT, e_ev_lst, e_ev_frz, e_ev_rev, e_ev_dct, e_ev_mcall, e_ev_callD, e_ev_callT, e_sv_tryS, e_sv_raise, e_tbv_ex, e_tbv_set, e_tbv_ife, e_tbv_exSet, e_sv_brk, e_sv_cont, wp_catch, e_evc_none, e_evc_some, e_ev_ix, e_ev_sl, e_ev_bi, e_ev_mx2, e_ev_isi, e_ev_call, e_ev_join, e_ev_lc, e_evs_nil, e_evs_cons, e_evo_none, e_evo_some, e_evi_seq, e_evi_rng1, e_evi_rng2, e_evi_enum, e_evi_zip, env0, varD, e_b_nm, e_b_tT, e_b_tL, e_b_nil, e_b_cons, wp_bind, wp_then, wp_ok, wp_truR, wp_finP, QF_nx, QF_rt, QE1_rt, QE1_nx, QT1_bool, List.map, List.length, List.replicate, List.getElem?_cons_zero, List.getElem?_cons_succ, List.set, Nat.reduceSub, List.cons_append, List.nil_append, Nat.reduceAdd, wp_ite, e_mkLT, tru_b, seqI_L, seqI_T, pures_p, pures_nil, Option.map_some, Option.bind_some, if_true, sz_0, sz_1, sz_2, sz_3, sz_4, sz_5, sz_6, sz_7, sz_8, sz_9, sz_10, sz_11, sz_12, sz_13, sz_14, sz_15, sz_16, sz_17, sz_18, sz_19, sz_20, sz_21, sz_22, sz_23, sz_24, sz_25, sz_26, sz_27, sz_28, sz_29, sz_30, sz_31, sz_32, sz_33, sz_34, sz_35, sz_36, sz_37, sz_38, sz_39, sz_40]
      exact q1 p hp
  · obtain ⟨x1, x2, rfl⟩ := hi
    simp only [e_svs_cons, e_svs_nil, e_sv_ife, e_sv_ret, e_sv_retN, e_sv_set, e_sv_setIx, e_sv_setLc, e_sv_app, e_sv_ex, e_sv_loop, e_sv_pass, e_ev_var, e_ev_lit, e_ev_glb, e_ev_gix, e_ev_bin, e_ev_neg, e_ev_not, w_and, w_or, QT2_bool, QB_bool, e_ev_one, e_ev_cmp, w_cmp2, e_ev_ife, e_ev_tup, e_mkT, e_ev_lst, e_ev_frz, e_ev_rev, e_ev_dct, e_ev_mcall, e_ev_callD, e_ev_callT, e_sv_tryS, e_sv_raise, e_tbv_ex, e_tbv_set, e_tbv_ife, e_tbv_exSet, e_sv_brk, e_sv_cont, wp_catch, e_evc_none, e_evc_some, e_ev_ix, e_ev_sl, e_ev_bi, e_ev_mx2, e_ev_isi, e_ev_call, e_ev_join, e_ev_lc, e_evs_nil, e_evs_cons, e_evo_none, e_evo_some, e_evi_seq, e_evi_rng1, e_evi_rng2, e_evi_enum, e_evi_zip, env0, varD, e_b_nm, e_b_tT, e_b_tL, e_b_nil, e_b_cons, wp_bind, wp_then, wp_ok, wp_truR, wp_finP, QF_nx, QF_rt, QE1_rt, QE1_nx, QT1_bool, List.map, List.length, List.replicate, List.getElem?_cons_zero, List.getElem?_cons_succ, List.set, Nat.reduceSub, List.cons_append, List.nil_append, Nat.reduceAdd, wp_ite, e_mkLT, tru_b, seqI_L, seqI_T, pures_p, pures_nil, Option.map_some, Option.bind_some, if_true, sz_0, sz_1, sz_2, sz_3, sz_4, sz_5, sz_6, sz_7, sz_8, sz_9, sz_10, sz_11, sz_12, sz_13, sz_14, sz_15, sz_16, sz_17, sz_18, sz_19, sz_20, sz_21, sz_22, sz_23, sz_24, sz_25, sz_26, sz_27, sz_28, sz_29, sz_30, sz_31, sz_32, sz_33, sz_34, sz_35, sz_36, sz_37, sz_38, sz_39, sz_40, gc_st]
    exact h2 hn2
  · simp only [e_svs_cons, e_svs_nil, e_sv_ife, e_sv_ret, e_sv_retN, e_sv_set, e_sv_setIx, e_sv_setLc, e_sv_app, e_sv_ex, e_sv_loop, e_sv_pass, e_ev_var, e_ev_lit, e_ev_glb, e_ev_gix, e_ev_bin, e_ev_neg, e_ev_not, w_and, w_or, QT2_bool, QB_bool, e_ev_one, e_ev_cmp, w_cmp2, e_ev_ife, e_ev_tup, e_mkT, e_ev_lst, e_ev_frz, e_ev_rev, e_ev_dct, e_ev_mcall, e_ev_callD, e_ev_callT, e_sv_tryS, e_sv_raise, e_tbv_ex, e_tbv_set, e_tbv_ife, e_tbv_exSet, e_sv_brk, e_sv_cont, wp_catch, e_evc_none, e_evc_some, e_ev_ix, e_ev_sl, e_ev_bi, e_ev_mx2, e_ev_isi, e_ev_call, e_ev_join, e_ev_lc, e_evs_nil, e_evs_cons, e_evo_none, e_evo_some, e_evi_seq, e_evi_rng1, e_evi_rng2, e_evi_enum, e_evi_zip, env0, varD, e_b_nm, e_b_tT, e_b_tL, e_b_nil, e_b_cons, wp_bind, wp_then, wp_ok, wp_truR, wp_finP, QF_nx, QF_rt, QE1_rt, QE1_nx, QT1_bool, List.map, List.length, List.replicate, List.getElem?_cons_zero, List.getElem?_cons_succ, List.set, Nat.reduceSub, List.cons_append, List.nil_append, Nat.reduceAdd, wp_ite, e_mkLT, tru_b, seqI_L, seqI_T, pures_p, pures_nil, Option.map_some, Option.bind_some, if_true, sz_0, sz_1, sz_2, sz_3, sz_4, sz_5, sz_6, sz_7, sz_8, sz_9, sz_10, sz_11, sz_12, sz_13, sz_14, sz_15, sz_16, sz_17, sz_18, sz_19, sz_20, sz_21, sz_22, sz_23, sz_24, sz_25, sz_26, sz_27, sz_28, sz_29, sz_30, sz_31, sz_32, sz_33, sz_34, sz_35, sz_36, sz_37, sz_38, sz_39, sz_40, gc_st]
    exact h1 p.1 p.2 hp
/-! what is due, what is told -/
def due (hs : List Str) (rs : List PyData) : PyData :=
  match nr hs rs with
  | some i => .list [.str "row", .int (i : Nat)]
  | none => match fc rs with
    | some (i, j) => .list [.str "clash", .int (i : Nat), .int (j : Nat)]
    | none => .list [.str "told", .none]
theorem due_is (k : Nat) {hs gs : List Str} {rs : List PyData} (hr : ∀ x ∈ rs, Th x) (hz : rs.length ≤ 1000) {st : Store} (hc : Clo st) {X : Exc → Store → Prop} {Q : D → Store → Prop} (h : Q (.p (due hs rs)) st) :
    wpe X (semK defs (k + 3) 31 [.p (townD hs gs), .p (.list rs)] st) Q := by
  refine wp_sem (d := d31) rfl rfl ?_
  simp only [d31, b31, e_svs_cons, e_svs_nil, e_sv_ife, e_sv_ret, e_sv_retN, e_sv_set, e_sv_setIx, e_sv_setLc, e_sv_app, e_sv_ex, e_sv_loop, e_sv_pass, e_ev_var, e_ev_lit, e_ev_glb, e_ev_gix, e_ev_bin, e_ev_neg, e_ev_not, w_and, w_or, QT2_bool, QB_bool, e_ev_one, e_ev_cmp, w_cmp2, e_ev_ife, e_ev_tup, e_mkT, e_ev_lst, e_ev_frz, e_ev_rev, e_ev_dct, e_ev_mcall, e_ev_callD, e_ev_callT, e_sv_tryS, e_sv_raise, e_tbv_ex, e_tbv_set, e_tbv_ife, e_tbv_exSet, e_sv_brk, e_sv_cont, wp_catch, e_evc_none, e_evc_some, e_ev_ix, e_ev_sl, e_ev_bi, e_ev_mx2, e_ev_isi, e_ev_call, e_ev_join, e_ev_lc, e_evs_nil, e_evs_cons, e_evo_none, e_evo_some, e_evi_seq, e_evi_rng1, e_evi_rng2, e_evi_enum, e_evi_zip, env0, varD, e_b_nm, e_b_tT, e_b_tL, e_b_nil, e_b_cons, wp_bind, wp_then, wp_ok, wp_truR, wp_finP, QF_nx, QF_rt, QE1_rt, QE1_nx, QT1_bool, List.map, List.length, List.replicate, List.getElem?_cons_zero, List.getElem?_cons_succ, List.set, Nat.reduceSub, List.cons_append, List.nil_append, Nat.reduceAdd, wp_ite, e_mkLT, tru_b, seqI_L, seqI_T, pures_p, pures_nil, Option.map_some, Option.bind_some, if_true, sz_0, sz_1, sz_2, sz_3, sz_4, sz_5, sz_6, sz_7, sz_8, sz_9, sz_10, sz_11, sz_12, sz_13, sz_14, sz_15, sz_16, sz_17, sz_18, sz_19, sz_20, sz_21, sz_22, sz_23, sz_24, sz_25, sz_26, sz_27, sz_28, sz_29, sz_30, sz_31, sz_32, sz_33, sz_34, sz_35, sz_36, sz_37, sz_38, sz_39, sz_40, e_lenL, e_rng0 rs.length hz]
  refine for_find (fun env => ∃ x2 x3, env = [some (.p (townD hs gs)), some (.p (.list rs)), x2, x3]) trivial _ (fun i => if rowB hs (rs.getD i .none) = true then none else some i) (fun i Q => Q (.rt (.p (.list [.str "row", .int (i : Nat)]))) st) (fun _ _ _ h => h) rs.length _ ⟨_, _, rfl⟩ (fun j hj env hi => ?_) (fun hn env hi => ?_) (fun i hi => ?_)
  · obtain ⟨x2, x3, rfl⟩ := hi
    refine ⟨_, rfl, fun Q' q0 q1 => ?_⟩
    unfold b31_l0
    simp only [e_svs_cons, e_svs_nil, e_sv_ife, e_sv_ret, e_sv_retN, e_sv_set, e_sv_setIx, e_sv_setLc, e_sv_app, e_sv_ex, e_sv_loop, e_sv_pass, e_ev_var, e_ev_lit, e_ev_glb, e_ev_gix, e_ev_bin, e_ev_neg, e_ev_not, w_and, w_or, QT2_bool, QB_bool, e_ev_one, e_ev_cmp, w_cmp2, e_ev_ife, e_ev_tup, e_mkT, e_ev_lst, e_ev_frz, e_ev_rev, e_ev_dct, e_ev_mcall, e_ev_callD, e_ev_callT, e_sv_tryS, e_sv_raise, e_tbv_ex, e_tbv_set, e_tbv_ife, e_tbv_exSet, e_sv_brk, e_sv_cont, wp_catch, e_evc_none, e_evc_some, e_ev_ix, e_ev_sl, e_ev_bi, e_ev_mx2, e_ev_isi, e_ev_call, e_ev_join, e_ev_lc, e_evs_nil, e_evs_cons, e_evo_none, e_evo_some, e_evi_seq, e_evi_rng1, e_evi_rng2, e_evi_enum, e_evi_zip, env0, varD, e_b_nm, e_b_tT, e_b_tL, e_b_nil, e_b_cons, wp_bind, wp_then, wp_ok, wp_truR, wp_finP, QF_nx, QF_rt, QE1_rt, QE1_nx, QT1_bool, List.map, List.length, List.replicate, List.getElem?_cons_zero, List.getElem?_cons_succ, List.set, Nat.reduceSub, List.cons_append, List.nil_append, Nat.reduceAdd, wp_ite, e_mkLT, tru_b, seqI_L, seqI_T, pures_p, pures_nil, Option.map_some, Option.bind_some, if_true, sz_0, sz_1, sz_2, sz_3, sz_4, sz_5, sz_6, sz_7, sz_8, sz_9, sz_10, sz_11, sz_12, sz_13, sz_14, sz_15, sz_16, sz_17, sz_18, sz_19, sz_20, sz_21, sz_22, sz_23, sz_24, sz_25, sz_26, sz_27, sz_28, sz_29, sz_30, sz_31, sz_32, sz_33, sz_34, sz_35, sz_36, sz_37, sz_38, sz_39, sz_40, ixL_get rs j hj]
    refine law_row_is k (hr _ (getD_mem hj)) hc ?_
    cases hb : rowB hs (rs.getD j .none)
    · rw [hb] at q0 q1
      simp only [e_svs_cons, e_svs_nil, e_sv_ife, e_sv_ret, e_sv_retN, e_sv_set, e_sv_setIx, e_sv_setLc, e_sv_app, e_sv_ex, e_sv_loop, e_sv_pass, e_ev_var, e_ev_lit, e_ev_glb, e_ev_gix, e_ev_bin, e_ev_neg, e_ev_not, w_and, w_or, QT2_bool, QB_bool, e_ev_one, e_ev_cmp, w_cmp2, e_ev_ife, e_ev_tup, e_mkT, e_ev_lst, e_ev_frz, e_ev_rev, e_ev_dct, e_ev_mcall, e_ev_callD, e_ev_callT, e_sv_tryS, e_sv_raise, e_tbv_ex, e_tbv_set, e_tbv_ife, e_tbv_exSet, e_sv_brk, e_sv_cont, wp_catch, e_evc_none, e_evc_some, e_ev_ix, e_ev_sl, e_ev_bi, e_ev_mx2, e_ev_isi, e_ev_call, e_ev_join, e_ev_lc, e_evs_nil, e_evs_cons, e_evo_none, e_evo_some, e_evi_seq, e_evi_rng1, e_evi_rng2, e_evi_enum, e_evi_zip, env0, varD, e_b_nm, e_b_tT, e_b_tL, e_b_nil, e_b_cons, wp_bind, wp_then, wp_ok, wp_truR, wp_finP, QF_nx, QF_rt, QE1_rt, QE1_nx, QT1_bool, List.map, List.length, List.replicate, List.getElem?_cons_zero, List.getElem?_cons_succ, List.set, Nat.reduceSub, List.cons_append, List.nil_append, Nat.reduceAdd, wp_ite, e_mkLT, tru_b, seqI_L, seqI_T, pures_p, pures_nil, Option.map_some, Option.bind_some, if_true, sz_0, sz_1, sz_2, sz_3, sz_4, sz_5, sz_6, sz_7, sz_8, sz_9, sz_10, sz_11, sz_12, sz_13, sz_14, sz_15, sz_16, sz_17, sz_18, sz_19, sz_20, sz_21, sz_22, sz_23, sz_24, sz_25, sz_26, sz_27, sz_28, sz_29, sz_30, sz_31, sz_32, sz_33, sz_34, sz_35, sz_36, sz_37, sz_38, sz_39, sz_40, Bool.not_false, e_mkL2]
      exact q1 j rfl
    · rw [hb] at q0 q1
      simp only [e_svs_cons, e_svs_nil, e_sv_ife, e_sv_ret, e_sv_retN, e_sv_set, e_sv_setIx, e_sv_setLc, e_sv_app, e_sv_ex, e_sv_loop, e_sv_pass, e_ev_var, e_ev_lit, e_ev_glb, e_ev_gix, e_ev_bin, e_ev_neg, e_ev_not, w_and, w_or, QT2_bool, QB_bool, e_ev_one, e_ev_cmp, w_cmp2, e_ev_ife, e_ev_tup, e_mkT, e_ev_lst, e_ev_frz, e_ev_rev, e_ev_dct, e_ev_mcall, e_ev_callD, e_ev_callT, e_sv_tryS, e_sv_raise, e_tbv_ex, e_tbv_set, e_tbv_ife, e_tbv_exSet, e_sv_brk, e_sv_cont, wp_catch, e_evc_none, e_evc_some, e_ev_ix, e_ev_sl, e_ev_bi, e_ev_mx2, e_ev_isi, e_ev_call, e_ev_join, e_ev_lc, e_evs_nil, e_evs_cons, e_evo_none, e_evo_some, e_evi_seq, e_evi_rng1, e_evi_rng2, e_evi_enum, e_evi_zip, env0, varD, e_b_nm, e_b_tT, e_b_tL, e_b_nil, e_b_cons, wp_bind, wp_then, wp_ok, wp_truR, wp_finP, QF_nx, QF_rt, QE1_rt, QE1_nx, QT1_bool, List.map, List.length, List.replicate, List.getElem?_cons_zero, List.getElem?_cons_succ, List.set, Nat.reduceSub, List.cons_append, List.nil_append, Nat.reduceAdd, wp_ite, e_mkLT, tru_b, seqI_L, seqI_T, pures_p, pures_nil, Option.map_some, Option.bind_some, if_true, sz_0, sz_1, sz_2, sz_3, sz_4, sz_5, sz_6, sz_7, sz_8, sz_9, sz_10, sz_11, sz_12, sz_13, sz_14, sz_15, sz_16, sz_17, sz_18, sz_19, sz_20, sz_21, sz_22, sz_23, sz_24, sz_25, sz_26, sz_27, sz_28, sz_29, sz_30, sz_31, sz_32, sz_33, sz_34, sz_35, sz_36, sz_37, sz_38, sz_39, sz_40, Bool.not_true, Bool.false_eq_true, if_false]
      exact q0 rfl _ ⟨_, _, rfl⟩
  · obtain ⟨x2, x3, rfl⟩ := hi
    have hn : nr hs rs = none := hn
    simp only [e_svs_cons, e_svs_nil, e_sv_ife, e_sv_ret, e_sv_retN, e_sv_set, e_sv_setIx, e_sv_setLc, e_sv_app, e_sv_ex, e_sv_loop, e_sv_pass, e_ev_var, e_ev_lit, e_ev_glb, e_ev_gix, e_ev_bin, e_ev_neg, e_ev_not, w_and, w_or, QT2_bool, QB_bool, e_ev_one, e_ev_cmp, w_cmp2, e_ev_ife, e_ev_tup, e_mkT, e_ev_lst, e_ev_frz, e_ev_rev, e_ev_dct, e_ev_mcall, e_ev_callD, e_ev_callT, e_sv_tryS, e_sv_raise, e_tbv_ex, e_tbv_set, e_tbv_ife, e_tbv_exSet, e_sv_brk, e_sv_cont, wp_catch, e_evc_none, e_evc_some, e_ev_ix, e_ev_sl, e_ev_bi, e_ev_mx2, e_ev_isi, e_ev_call, e_ev_join, e_ev_lc, e_evs_nil, e_evs_cons, e_evo_none, e_evo_some, e_evi_seq, e_evi_rng1, e_evi_rng2, e_evi_enum, e_evi_zip, env0, varD, e_b_nm, e_b_tT, e_b_tL, e_b_nil, e_b_cons, wp_bind, wp_then, wp_ok, wp_truR, wp_finP, QF_nx, QF_rt, QE1_rt, QE1_nx, QT1_bool, List.map, List.length, List.replicate, List.getElem?_cons_zero, List.getElem?_cons_succ, List.set, Nat.reduceSub, List.cons_append, List.nil_append, Nat.reduceAdd, wp_ite, e_mkLT, tru_b, seqI_L, seqI_T, pures_p, pures_nil, Option.map_some, Option.bind_some, if_true, sz_0, sz_1, sz_2, sz_3, sz_4, sz_5, sz_6, sz_7, sz_8, sz_9, sz_10, sz_11, sz_12, sz_13, sz_14, sz_15, sz_16, sz_17, sz_18, sz_19, sz_20, sz_21, sz_22, sz_23, sz_24, sz_25, sz_26, sz_27, sz_28, sz_29, sz_30, sz_31, sz_32, sz_33, sz_34, sz_35, sz_36, sz_37, sz_38, sz_39, sz_40]
    refine fclash_is k (nr_none hn) hz (fun i j hf => ?_) (fun hf => ?_)
    · simp only [e_svs_cons, e_svs_nil, e_sv_ife, e_sv_ret, e_sv_retN, e_sv_set, e_sv_setIx, e_sv_setLc, e_sv_app, e_sv_ex, e_sv_loop, e_sv_pass, e_ev_var, e_ev_lit, e_ev_glb, e_ev_gix, e_ev_bin, e_ev_neg, e_ev_not, w_and, w_or, QT2_bool, QB_bool, e_ev_one, e_ev_cmp, w_cmp2, e_ev_ife, e_ev_tup, e_mkT, e_ev_lst, e_ev_frz, e_ev_rev, e_ev_dct, e_ev_mcall, e_ev_callD, e_ev_callT, e_sv_tryS, e_sv_raise, e_tbv_ex, e_tbv_set, e_tbv_ife, e_tbv_exSet, e_sv_brk, e_sv_cont, wp_catch, e_evc_none, e_evc_some, e_ev_ix, e_ev_sl, e_ev_bi, e_ev_mx2, e_ev_isi, e_ev_call, e_ev_join, e_ev_lc, e_evs_nil, e_evs_cons, e_evo_none, e_evo_some, e_evi_seq, e_evi_rng1, e_evi_rng2, e_evi_enum, e_evi_zip, env0, varD, e_b_nm, e_b_tT, e_b_tL, e_b_nil, e_b_cons, wp_bind, wp_then, wp_ok, wp_truR, wp_finP, QF_nx, QF_rt, QE1_rt, QE1_nx, QT1_bool, List.map, List.length, List.replicate, List.getElem?_cons_zero, List.getElem?_cons_succ, List.set, Nat.reduceSub, List.cons_append, List.nil_append, Nat.reduceAdd, wp_ite, e_mkLT, tru_b, seqI_L, seqI_T, pures_p, pures_nil, Option.map_some, Option.bind_some, if_true, sz_0, sz_1, sz_2, sz_3, sz_4, sz_5, sz_6, sz_7, sz_8, sz_9, sz_10, sz_11, sz_12, sz_13, sz_14, sz_15, sz_16, sz_17, sz_18, sz_19, sz_20, sz_21, sz_22, sz_23, sz_24, sz_25, sz_26, sz_27, sz_28, sz_29, sz_30, sz_31, sz_32, sz_33, sz_34, sz_35, sz_36, sz_37, sz_38, sz_39, sz_40, e_isN, show isC .none (D.p (.tuple [.int (i : Nat), .int (j : Nat)])) = false from rfl, Bool.false_eq_true, if_false, e_ixT, atI_0, atI_1, e_mkL3, gc_st]
      have e : due hs rs = .list [.str "clash", .int (i : Nat), .int (j : Nat)] := by unfold due; rw [hn, hf]
      rw [e] at h
      exact h
    · simp only [e_svs_cons, e_svs_nil, e_sv_ife, e_sv_ret, e_sv_retN, e_sv_set, e_sv_setIx, e_sv_setLc, e_sv_app, e_sv_ex, e_sv_loop, e_sv_pass, e_ev_var, e_ev_lit, e_ev_glb, e_ev_gix, e_ev_bin, e_ev_neg, e_ev_not, w_and, w_or, QT2_bool, QB_bool, e_ev_one, e_ev_cmp, w_cmp2, e_ev_ife, e_ev_tup, e_mkT, e_ev_lst, e_ev_frz, e_ev_rev, e_ev_dct, e_ev_mcall, e_ev_callD, e_ev_callT, e_sv_tryS, e_sv_raise, e_tbv_ex, e_tbv_set, e_tbv_ife, e_tbv_exSet, e_sv_brk, e_sv_cont, wp_catch, e_evc_none, e_evc_some, e_ev_ix, e_ev_sl, e_ev_bi, e_ev_mx2, e_ev_isi, e_ev_call, e_ev_join, e_ev_lc, e_evs_nil, e_evs_cons, e_evo_none, e_evo_some, e_evi_seq, e_evi_rng1, e_evi_rng2, e_evi_enum, e_evi_zip, env0, varD, e_b_nm, e_b_tT, e_b_tL, e_b_nil, e_b_cons, wp_bind, wp_then, wp_ok, wp_truR, wp_finP, QF_nx, QF_rt, QE1_rt, QE1_nx, QT1_bool, List.map, List.length, List.replicate, List.getElem?_cons_zero, List.getElem?_cons_succ, List.set, Nat.reduceSub, List.cons_append, List.nil_append, Nat.reduceAdd, wp_ite, e_mkLT, tru_b, seqI_L, seqI_T, pures_p, pures_nil, Option.map_some, Option.bind_some, if_true, sz_0, sz_1, sz_2, sz_3, sz_4, sz_5, sz_6, sz_7, sz_8, sz_9, sz_10, sz_11, sz_12, sz_13, sz_14, sz_15, sz_16, sz_17, sz_18, sz_19, sz_20, sz_21, sz_22, sz_23, sz_24, sz_25, sz_26, sz_27, sz_28, sz_29, sz_30, sz_31, sz_32, sz_33, sz_34, sz_35, sz_36, sz_37, sz_38, sz_39, sz_40, e_isN, show isC .none (D.p .none) = true from rfl, e_mkL2, gc_st]
      have e : due hs rs = .list [.str "told", .none] := by unfold due; rw [hn, hf]
      rw [e] at h
      exact h
  · simp only [e_svs_cons, e_svs_nil, e_sv_ife, e_sv_ret, e_sv_retN, e_sv_set, e_sv_setIx, e_sv_setLc, e_sv_app, e_sv_ex, e_sv_loop, e_sv_pass, e_ev_var, e_ev_lit, e_ev_glb, e_ev_gix, e_ev_bin, e_ev_neg, e_ev_not, w_and, w_or, QT2_bool, QB_bool, e_ev_one, e_ev_cmp, w_cmp2, e_ev_ife, e_ev_tup, e_mkT, e_ev_lst, e_ev_frz, e_ev_rev, e_ev_dct, e_ev_mcall, e_ev_callD, e_ev_callT, e_sv_tryS, e_sv_raise, e_tbv_ex, e_tbv_set, e_tbv_ife, e_tbv_exSet, e_sv_brk, e_sv_cont, wp_catch, e_evc_none, e_evc_some, e_ev_ix, e_ev_sl, e_ev_bi, e_ev_mx2, e_ev_isi, e_ev_call, e_ev_join, e_ev_lc, e_evs_nil, e_evs_cons, e_evo_none, e_evo_some, e_evi_seq, e_evi_rng1, e_evi_rng2, e_evi_enum, e_evi_zip, env0, varD, e_b_nm, e_b_tT, e_b_tL, e_b_nil, e_b_cons, wp_bind, wp_then, wp_ok, wp_truR, wp_finP, QF_nx, QF_rt, QE1_rt, QE1_nx, QT1_bool, List.map, List.length, List.replicate, List.getElem?_cons_zero, List.getElem?_cons_succ, List.set, Nat.reduceSub, List.cons_append, List.nil_append, Nat.reduceAdd, wp_ite, e_mkLT, tru_b, seqI_L, seqI_T, pures_p, pures_nil, Option.map_some, Option.bind_some, if_true, sz_0, sz_1, sz_2, sz_3, sz_4, sz_5, sz_6, sz_7, sz_8, sz_9, sz_10, sz_11, sz_12, sz_13, sz_14, sz_15, sz_16, sz_17, sz_18, sz_19, sz_20, sz_21, sz_22, sz_23, sz_24, sz_25, sz_26, sz_27, sz_28, sz_29, sz_30, sz_31, sz_32, sz_33, sz_34, sz_35, sz_36, sz_37, sz_38, sz_39, sz_40, gc_st]
    have e : due hs rs = .list [.str "row", .int (i : Nat)] := by unfold due; rw [show nr hs rs = some i from hi]
    rw [e] at h
    exact h
theorem hd_no (i : Nat) (u0 u1 u2 : Option D) (st : Store) : hdL [⟨[("Clash", false), ("NoRow", true)], some 3, 2, (.lst (.cons (.lit (.str "row")) (.cons (.fld "NoRow" "number") .nil)))⟩, ⟨[("Clash", true), ("NoRow", false)], some 3, 2, (.lst (.cons (.lit (.str "clash")) (.cons (.fld "Clash" "first") (.cons (.fld "Clash" "second") .nil))))⟩] (eNo i) [u0, u1, u2, none] st
    = .ok (.nx [u0, u1, some (.p (.list [.str "row", .int (i : Nat)])), none]) st := by
  rfl
theorem hd_cl (i j : Nat) (u0 u1 u2 : Option D) (st : Store) : hdL [⟨[("Clash", false), ("NoRow", true)], some 3, 2, (.lst (.cons (.lit (.str "row")) (.cons (.fld "NoRow" "number") .nil)))⟩, ⟨[("Clash", true), ("NoRow", false)], some 3, 2, (.lst (.cons (.lit (.str "clash")) (.cons (.fld "Clash" "first") (.cons (.fld "Clash" "second") .nil))))⟩] (eCl i j) [u0, u1, u2, none] st
    = .ok (.nx [u0, u1, some (.p (.list [.str "clash", .int (i : Nat), .int (j : Nat)])), none]) st := by
  rfl
theorem told_is (k : Nat) {hs gs : List Str} (hh : ∀ z ∈ hs, House z) {rs : List PyData} (hr : ∀ x ∈ rs, Th x) (hz : rs.length ≤ 1000) {st : Store} (hc : Clo st) {X : Exc → Store → Prop} {Q : D → Store → Prop} (h : Q (.p (due hs rs)) st) :
    wpe X (semK defs (k + 6) 32 [.p (townD hs gs), .p (.list rs)] st) Q := by
  refine wp_sem (d := d32) rfl rfl ?_
  simp only [d32, b32, e_svs_cons, e_svs_nil, e_sv_ife, e_sv_ret, e_sv_retN, e_sv_set, e_sv_setIx, e_sv_setLc, e_sv_app, e_sv_ex, e_sv_loop, e_sv_pass, e_ev_var, e_ev_lit, e_ev_glb, e_ev_gix, e_ev_bin, e_ev_neg, e_ev_not, w_and, w_or, QT2_bool, QB_bool, e_ev_one, e_ev_cmp, w_cmp2, e_ev_ife, e_ev_tup, e_mkT, e_ev_lst, e_ev_frz, e_ev_rev, e_ev_dct, e_ev_mcall, e_ev_callD, e_ev_callT, e_sv_tryS, e_sv_raise, e_tbv_ex, e_tbv_set, e_tbv_ife, e_tbv_exSet, e_sv_brk, e_sv_cont, wp_catch, e_evc_none, e_evc_some, e_ev_ix, e_ev_sl, e_ev_bi, e_ev_mx2, e_ev_isi, e_ev_call, e_ev_join, e_ev_lc, e_evs_nil, e_evs_cons, e_evo_none, e_evo_some, e_evi_seq, e_evi_rng1, e_evi_rng2, e_evi_enum, e_evi_zip, env0, varD, e_b_nm, e_b_tT, e_b_tL, e_b_nil, e_b_cons, wp_bind, wp_then, wp_ok, wp_truR, wp_finP, QF_nx, QF_rt, QE1_rt, QE1_nx, QT1_bool, List.map, List.length, List.replicate, List.getElem?_cons_zero, List.getElem?_cons_succ, List.set, Nat.reduceSub, List.cons_append, List.nil_append, Nat.reduceAdd, wp_ite, e_mkLT, tru_b, seqI_L, seqI_T, pures_p, pures_nil, Option.map_some, Option.bind_some, if_true, sz_0, sz_1, sz_2, sz_3, sz_4, sz_5, sz_6, sz_7, sz_8, sz_9, sz_10, sz_11, sz_12, sz_13, sz_14, sz_15, sz_16, sz_17, sz_18, sz_19, sz_20, sz_21, sz_22, sz_23, sz_24, sz_25, sz_26, sz_27, sz_28, sz_29, sz_30, sz_31, sz_32, sz_33, sz_34, sz_35, sz_36, sz_37, sz_38, sz_39, sz_40, e_mkLF []]
  have e0 : mkL false [] st = .ok (.p (.list [])) st := e_mkLF [] st
  simp only [e_svs_cons, e_svs_nil, e_sv_ife, e_sv_ret, e_sv_retN, e_sv_set, e_sv_setIx, e_sv_setLc, e_sv_app, e_sv_ex, e_sv_loop, e_sv_pass, e_ev_var, e_ev_lit, e_ev_glb, e_ev_gix, e_ev_bin, e_ev_neg, e_ev_not, w_and, w_or, QT2_bool, QB_bool, e_ev_one, e_ev_cmp, w_cmp2, e_ev_ife, e_ev_tup, e_mkT, e_ev_lst, e_ev_frz, e_ev_rev, e_ev_dct, e_ev_mcall, e_ev_callD, e_ev_callT, e_sv_tryS, e_sv_raise, e_tbv_ex, e_tbv_set, e_tbv_ife, e_tbv_exSet, e_sv_brk, e_sv_cont, wp_catch, e_evc_none, e_evc_some, e_ev_ix, e_ev_sl, e_ev_bi, e_ev_mx2, e_ev_isi, e_ev_call, e_ev_join, e_ev_lc, e_evs_nil, e_evs_cons, e_evo_none, e_evo_some, e_evi_seq, e_evi_rng1, e_evi_rng2, e_evi_enum, e_evi_zip, env0, varD, e_b_nm, e_b_tT, e_b_tL, e_b_nil, e_b_cons, wp_bind, wp_then, wp_ok, wp_truR, wp_finP, QF_nx, QF_rt, QE1_rt, QE1_nx, QT1_bool, List.map, List.length, List.replicate, List.getElem?_cons_zero, List.getElem?_cons_succ, List.set, Nat.reduceSub, List.cons_append, List.nil_append, Nat.reduceAdd, wp_ite, e_mkLT, tru_b, seqI_L, seqI_T, pures_p, pures_nil, Option.map_some, Option.bind_some, if_true, sz_0, sz_1, sz_2, sz_3, sz_4, sz_5, sz_6, sz_7, sz_8, sz_9, sz_10, sz_11, sz_12, sz_13, sz_14, sz_15, sz_16, sz_17, sz_18, sz_19, sz_20, sz_21, sz_22, sz_23, sz_24, sz_25, sz_26, sz_27, sz_28, sz_29, sz_30, sz_31, sz_32, sz_33, sz_34, sz_35, sz_36, sz_37, sz_38, sz_39, sz_40, e0]
  refine book_is k hh hr hz hc (fun i hi => ?_) (fun i j hn hf => ?_) (fun hn hf => ?_)
  · rw [hd_no]
    simp only [e_svs_cons, e_svs_nil, e_sv_ife, e_sv_ret, e_sv_retN, e_sv_set, e_sv_setIx, e_sv_setLc, e_sv_app, e_sv_ex, e_sv_loop, e_sv_pass, e_ev_var, e_ev_lit, e_ev_glb, e_ev_gix, e_ev_bin, e_ev_neg, e_ev_not, w_and, w_or, QT2_bool, QB_bool, e_ev_one, e_ev_cmp, w_cmp2, e_ev_ife, e_ev_tup, e_mkT, e_ev_lst, e_ev_frz, e_ev_rev, e_ev_dct, e_ev_mcall, e_ev_callD, e_ev_callT, e_sv_tryS, e_sv_raise, e_tbv_ex, e_tbv_set, e_tbv_ife, e_tbv_exSet, e_sv_brk, e_sv_cont, wp_catch, e_evc_none, e_evc_some, e_ev_ix, e_ev_sl, e_ev_bi, e_ev_mx2, e_ev_isi, e_ev_call, e_ev_join, e_ev_lc, e_evs_nil, e_evs_cons, e_evo_none, e_evo_some, e_evi_seq, e_evi_rng1, e_evi_rng2, e_evi_enum, e_evi_zip, env0, varD, e_b_nm, e_b_tT, e_b_tL, e_b_nil, e_b_cons, wp_bind, wp_then, wp_ok, wp_truR, wp_finP, QF_nx, QF_rt, QE1_rt, QE1_nx, QT1_bool, List.map, List.length, List.replicate, List.getElem?_cons_zero, List.getElem?_cons_succ, List.set, Nat.reduceSub, List.cons_append, List.nil_append, Nat.reduceAdd, wp_ite, e_mkLT, tru_b, seqI_L, seqI_T, pures_p, pures_nil, Option.map_some, Option.bind_some, if_true, sz_0, sz_1, sz_2, sz_3, sz_4, sz_5, sz_6, sz_7, sz_8, sz_9, sz_10, sz_11, sz_12, sz_13, sz_14, sz_15, sz_16, sz_17, sz_18, sz_19, sz_20, sz_21, sz_22, sz_23, sz_24, sz_25, sz_26, sz_27, sz_28, sz_29, sz_30, sz_31, sz_32, sz_33, sz_34, sz_35, sz_36, sz_37, sz_38, sz_39, sz_40, gc_st]
    have e : due hs rs = .list [.str "row", .int (i : Nat)] := by unfold due; rw [hi]
    rw [e] at h
    exact h
  · rw [hd_cl]
    simp only [e_svs_cons, e_svs_nil, e_sv_ife, e_sv_ret, e_sv_retN, e_sv_set, e_sv_setIx, e_sv_setLc, e_sv_app, e_sv_ex, e_sv_loop, e_sv_pass, e_ev_var, e_ev_lit, e_ev_glb, e_ev_gix, e_ev_bin, e_ev_neg, e_ev_not, w_and, w_or, QT2_bool, QB_bool, e_ev_one, e_ev_cmp, w_cmp2, e_ev_ife, e_ev_tup, e_mkT, e_ev_lst, e_ev_frz, e_ev_rev, e_ev_dct, e_ev_mcall, e_ev_callD, e_ev_callT, e_sv_tryS, e_sv_raise, e_tbv_ex, e_tbv_set, e_tbv_ife, e_tbv_exSet, e_sv_brk, e_sv_cont, wp_catch, e_evc_none, e_evc_some, e_ev_ix, e_ev_sl, e_ev_bi, e_ev_mx2, e_ev_isi, e_ev_call, e_ev_join, e_ev_lc, e_evs_nil, e_evs_cons, e_evo_none, e_evo_some, e_evi_seq, e_evi_rng1, e_evi_rng2, e_evi_enum, e_evi_zip, env0, varD, e_b_nm, e_b_tT, e_b_tL, e_b_nil, e_b_cons, wp_bind, wp_then, wp_ok, wp_truR, wp_finP, QF_nx, QF_rt, QE1_rt, QE1_nx, QT1_bool, List.map, List.length, List.replicate, List.getElem?_cons_zero, List.getElem?_cons_succ, List.set, Nat.reduceSub, List.cons_append, List.nil_append, Nat.reduceAdd, wp_ite, e_mkLT, tru_b, seqI_L, seqI_T, pures_p, pures_nil, Option.map_some, Option.bind_some, if_true, sz_0, sz_1, sz_2, sz_3, sz_4, sz_5, sz_6, sz_7, sz_8, sz_9, sz_10, sz_11, sz_12, sz_13, sz_14, sz_15, sz_16, sz_17, sz_18, sz_19, sz_20, sz_21, sz_22, sz_23, sz_24, sz_25, sz_26, sz_27, sz_28, sz_29, sz_30, sz_31, sz_32, sz_33, sz_34, sz_35, sz_36, sz_37, sz_38, sz_39, sz_40, gc_st]
    have e : due hs rs = .list [.str "clash", .int (i : Nat), .int (j : Nat)] := by unfold due; rw [hn, hf]
    rw [e] at h
    exact h
  · simp only [e_svs_cons, e_svs_nil, e_sv_ife, e_sv_ret, e_sv_retN, e_sv_set, e_sv_setIx, e_sv_setLc, e_sv_app, e_sv_ex, e_sv_loop, e_sv_pass, e_ev_var, e_ev_lit, e_ev_glb, e_ev_gix, e_ev_bin, e_ev_neg, e_ev_not, w_and, w_or, QT2_bool, QB_bool, e_ev_one, e_ev_cmp, w_cmp2, e_ev_ife, e_ev_tup, e_mkT, e_ev_lst, e_ev_frz, e_ev_rev, e_ev_dct, e_ev_mcall, e_ev_callD, e_ev_callT, e_sv_tryS, e_sv_raise, e_tbv_ex, e_tbv_set, e_tbv_ife, e_tbv_exSet, e_sv_brk, e_sv_cont, wp_catch, e_evc_none, e_evc_some, e_ev_ix, e_ev_sl, e_ev_bi, e_ev_mx2, e_ev_isi, e_ev_call, e_ev_join, e_ev_lc, e_evs_nil, e_evs_cons, e_evo_none, e_evo_some, e_evi_seq, e_evi_rng1, e_evi_rng2, e_evi_enum, e_evi_zip, env0, varD, e_b_nm, e_b_tT, e_b_tL, e_b_nil, e_b_cons, wp_bind, wp_then, wp_ok, wp_truR, wp_finP, QF_nx, QF_rt, QE1_rt, QE1_nx, QT1_bool, List.map, List.length, List.replicate, List.getElem?_cons_zero, List.getElem?_cons_succ, List.set, Nat.reduceSub, List.cons_append, List.nil_append, Nat.reduceAdd, wp_ite, e_mkLT, tru_b, seqI_L, seqI_T, pures_p, pures_nil, Option.map_some, Option.bind_some, if_true, sz_0, sz_1, sz_2, sz_3, sz_4, sz_5, sz_6, sz_7, sz_8, sz_9, sz_10, sz_11, sz_12, sz_13, sz_14, sz_15, sz_16, sz_17, sz_18, sz_19, sz_20, sz_21, sz_22, sz_23, sz_24, sz_25, sz_26, sz_27, sz_28, sz_29, sz_30, sz_31, sz_32, sz_33, sz_34, sz_35, sz_36, sz_37, sz_38, sz_39, sz_40, e_mkL2, gc_st]
    have e : due hs rs = .list [.str "told", .none] := by unfold due; rw [hn, hf]
    rw [e] at h
    exact h
/-! the same -/
def flat : PyData → Bool
  | .none => true
  | .int _ => true
  | .str _ => true
  | _ => false
theorem same_flat (k : Nat) {v : PyData} (hv : flat v = true) {st : Store} {X : Exc → Store → Prop} {Q : D → Store → Prop} (h : Q (.p (.bool true)) st) : wpe X (semK defs (k + 1) 29 [.p v, .p v] st) Q := by
  refine wp_sem (d := d29) rfl rfl ?_
  have hp : v.plain = true := by cases v <;> first | rfl | cases hv
  simp only [d29, b29, e_svs_cons, e_svs_nil, e_sv_ife, e_sv_ret, e_sv_retN, e_sv_set, e_sv_setIx, e_sv_setLc, e_sv_app, e_sv_ex, e_sv_loop, e_sv_pass, e_ev_var, e_ev_lit, e_ev_glb, e_ev_gix, e_ev_bin, e_ev_neg, e_ev_not, w_and, w_or, QT2_bool, QB_bool, e_ev_one, e_ev_cmp, w_cmp2, e_ev_ife, e_ev_tup, e_mkT, e_ev_lst, e_ev_frz, e_ev_rev, e_ev_dct, e_ev_mcall, e_ev_callD, e_ev_callT, e_sv_tryS, e_sv_raise, e_tbv_ex, e_tbv_set, e_tbv_ife, e_tbv_exSet, e_sv_brk, e_sv_cont, wp_catch, e_evc_none, e_evc_some, e_ev_ix, e_ev_sl, e_ev_bi, e_ev_mx2, e_ev_isi, e_ev_call, e_ev_join, e_ev_lc, e_evs_nil, e_evs_cons, e_evo_none, e_evo_some, e_evi_seq, e_evi_rng1, e_evi_rng2, e_evi_enum, e_evi_zip, env0, varD, e_b_nm, e_b_tT, e_b_tL, e_b_nil, e_b_cons, wp_bind, wp_then, wp_ok, wp_truR, wp_finP, QF_nx, QF_rt, QE1_rt, QE1_nx, QT1_bool, List.map, List.length, List.replicate, List.getElem?_cons_zero, List.getElem?_cons_succ, List.set, Nat.reduceSub, List.cons_append, List.nil_append, Nat.reduceAdd, wp_ite, e_mkLT, tru_b, seqI_L, seqI_T, pures_p, pures_nil, Option.map_some, Option.bind_some, if_true, sz_0, sz_1, sz_2, sz_3, sz_4, sz_5, sz_6, sz_7, sz_8, sz_9, sz_10, sz_11, sz_12, sz_13, sz_14, sz_15, sz_16, sz_17, sz_18, sz_19, sz_20, sz_21, sz_22, sz_23, sz_24, sz_25, sz_26, sz_27, sz_28, sz_29, sz_30, sz_31, sz_32, sz_33, sz_34, sz_35, sz_36, sz_37, sz_38, sz_39, sz_40, e_isN, e_isK, e_isInt hp, e_isBool hp, e_isStr hp]
  cases v with
  | none => simpa [isC, gc_st] using h
  | int n =>
    simp only [isC, Bool.false_eq_true, if_false, MP.isInt, isBool, Bool.not_false, e_svs_cons, e_svs_nil, e_sv_ife, e_sv_ret, e_sv_retN, e_sv_set, e_sv_setIx, e_sv_setLc, e_sv_app, e_sv_ex, e_sv_loop, e_sv_pass, e_ev_var, e_ev_lit, e_ev_glb, e_ev_gix, e_ev_bin, e_ev_neg, e_ev_not, w_and, w_or, QT2_bool, QB_bool, e_ev_one, e_ev_cmp, w_cmp2, e_ev_ife, e_ev_tup, e_mkT, e_ev_lst, e_ev_frz, e_ev_rev, e_ev_dct, e_ev_mcall, e_ev_callD, e_ev_callT, e_sv_tryS, e_sv_raise, e_tbv_ex, e_tbv_set, e_tbv_ife, e_tbv_exSet, e_sv_brk, e_sv_cont, wp_catch, e_evc_none, e_evc_some, e_ev_ix, e_ev_sl, e_ev_bi, e_ev_mx2, e_ev_isi, e_ev_call, e_ev_join, e_ev_lc, e_evs_nil, e_evs_cons, e_evo_none, e_evo_some, e_evi_seq, e_evi_rng1, e_evi_rng2, e_evi_enum, e_evi_zip, env0, varD, e_b_nm, e_b_tT, e_b_tL, e_b_nil, e_b_cons, wp_bind, wp_then, wp_ok, wp_truR, wp_finP, QF_nx, QF_rt, QE1_rt, QE1_nx, QT1_bool, List.map, List.length, List.replicate, List.getElem?_cons_zero, List.getElem?_cons_succ, List.set, Nat.reduceSub, List.cons_append, List.nil_append, Nat.reduceAdd, wp_ite, e_mkLT, tru_b, seqI_L, seqI_T, pures_p, pures_nil, Option.map_some, Option.bind_some, if_true, sz_0, sz_1, sz_2, sz_3, sz_4, sz_5, sz_6, sz_7, sz_8, sz_9, sz_10, sz_11, sz_12, sz_13, sz_14, sz_15, sz_16, sz_17, sz_18, sz_19, sz_20, sz_21, sz_22, sz_23, sz_24, sz_25, sz_26, sz_27, sz_28, sz_29, sz_30, sz_31, sz_32, sz_33, sz_34, sz_35, sz_36, sz_37, sz_38, sz_39, sz_40, e_eqi, beq_self_eq_true, gc_st]
    exact h
  | str z =>
    simp only [isC, Bool.false_eq_true, if_false, MP.isInt, isStr, e_svs_cons, e_svs_nil, e_sv_ife, e_sv_ret, e_sv_retN, e_sv_set, e_sv_setIx, e_sv_setLc, e_sv_app, e_sv_ex, e_sv_loop, e_sv_pass, e_ev_var, e_ev_lit, e_ev_glb, e_ev_gix, e_ev_bin, e_ev_neg, e_ev_not, w_and, w_or, QT2_bool, QB_bool, e_ev_one, e_ev_cmp, w_cmp2, e_ev_ife, e_ev_tup, e_mkT, e_ev_lst, e_ev_frz, e_ev_rev, e_ev_dct, e_ev_mcall, e_ev_callD, e_ev_callT, e_sv_tryS, e_sv_raise, e_tbv_ex, e_tbv_set, e_tbv_ife, e_tbv_exSet, e_sv_brk, e_sv_cont, wp_catch, e_evc_none, e_evc_some, e_ev_ix, e_ev_sl, e_ev_bi, e_ev_mx2, e_ev_isi, e_ev_call, e_ev_join, e_ev_lc, e_evs_nil, e_evs_cons, e_evo_none, e_evo_some, e_evi_seq, e_evi_rng1, e_evi_rng2, e_evi_enum, e_evi_zip, env0, varD, e_b_nm, e_b_tT, e_b_tL, e_b_nil, e_b_cons, wp_bind, wp_then, wp_ok, wp_truR, wp_finP, QF_nx, QF_rt, QE1_rt, QE1_nx, QT1_bool, List.map, List.length, List.replicate, List.getElem?_cons_zero, List.getElem?_cons_succ, List.set, Nat.reduceSub, List.cons_append, List.nil_append, Nat.reduceAdd, wp_ite, e_mkLT, tru_b, seqI_L, seqI_T, pures_p, pures_nil, Option.map_some, Option.bind_some, if_true, sz_0, sz_1, sz_2, sz_3, sz_4, sz_5, sz_6, sz_7, sz_8, sz_9, sz_10, sz_11, sz_12, sz_13, sz_14, sz_15, sz_16, sz_17, sz_18, sz_19, sz_20, sz_21, sz_22, sz_23, sz_24, sz_25, sz_26, sz_27, sz_28, sz_29, sz_30, sz_31, sz_32, sz_33, sz_34, sz_35, sz_36, sz_37, sz_38, sz_39, sz_40, e_eqs, beq_self_eq_true, gc_st]
    exact h
  | _ => cases hv
theorem e_zipLL (xs ys : List PyData) (st : Store) : zipI (.p (.list xs)) (.p (.list ys)) st = .ok (((xs.map D.p).zip (ys.map D.p)).map fun p => .two p.1 p.2, fun st => gdOf (.p (.list xs)) (xs.map .p) st ∧ gdOf (.p (.list ys)) (ys.map .p) st) st := MP.nr rfl
theorem zip_range (vs : List PyData) : (((vs.map D.p).zip (vs.map D.p)).map fun p => Itm.two p.1 p.2) = (List.range vs.length).map fun i => Itm.two (.p (vs.getD i .none)) (.p (vs.getD i .none)) := by
  apply List.ext_getElem
  · simp
  · intro i h1 h2
    simp only [List.length_map, List.length_zip, Nat.min_self] at h1
    simp [h1]
theorem same_list (k : Nat) {vs : List PyData} (hv : ∀ v ∈ vs, flat v = true) {st : Store} {X : Exc → Store → Prop} {Q : D → Store → Prop} (h : Q (.p (.bool true)) st) : wpe X (semK defs (k + 2) 29 [.p (.list vs), .p (.list vs)] st) Q := by
  refine wp_sem (d := d29) rfl rfl ?_
  have hp : PyData.plain (.list vs) = true := by
    show PyData.plainAll vs = true
    clear h
    induction vs with
    | nil => rfl
    | cons a r ih =>
      have ha := hv a List.mem_cons_self
      show (PyData.plain a && PyData.plainAll r) = true
      rw [ih fun x hx => hv x (List.mem_cons_of_mem _ hx), Bool.and_true]
      cases a <;> first | rfl | cases ha
  simp only [d29, b29, e_svs_cons, e_svs_nil, e_sv_ife, e_sv_ret, e_sv_retN, e_sv_set, e_sv_setIx, e_sv_setLc, e_sv_app, e_sv_ex, e_sv_loop, e_sv_pass, e_ev_var, e_ev_lit, e_ev_glb, e_ev_gix, e_ev_bin, e_ev_neg, e_ev_not, w_and, w_or, QT2_bool, QB_bool, e_ev_one, e_ev_cmp, w_cmp2, e_ev_ife, e_ev_tup, e_mkT, e_ev_lst, e_ev_frz, e_ev_rev, e_ev_dct, e_ev_mcall, e_ev_callD, e_ev_callT, e_sv_tryS, e_sv_raise, e_tbv_ex, e_tbv_set, e_tbv_ife, e_tbv_exSet, e_sv_brk, e_sv_cont, wp_catch, e_evc_none, e_evc_some, e_ev_ix, e_ev_sl, e_ev_bi, e_ev_mx2, e_ev_isi, e_ev_call, e_ev_join, e_ev_lc, e_evs_nil, e_evs_cons, e_evo_none, e_evo_some, e_evi_seq, e_evi_rng1, e_evi_rng2, e_evi_enum, e_evi_zip, env0, varD, e_b_nm, e_b_tT, e_b_tL, e_b_nil, e_b_cons, wp_bind, wp_then, wp_ok, wp_truR, wp_finP, QF_nx, QF_rt, QE1_rt, QE1_nx, QT1_bool, List.map, List.length, List.replicate, List.getElem?_cons_zero, List.getElem?_cons_succ, List.set, Nat.reduceSub, List.cons_append, List.nil_append, Nat.reduceAdd, wp_ite, e_mkLT, tru_b, seqI_L, seqI_T, pures_p, pures_nil, Option.map_some, Option.bind_some, if_true, sz_0, sz_1, sz_2, sz_3, sz_4, sz_5, sz_6, sz_7, sz_8, sz_9, sz_10, sz_11, sz_12, sz_13, sz_14, sz_15, sz_16, sz_17, sz_18, sz_19, sz_20, sz_21, sz_22, sz_23, sz_24, sz_25, sz_26, sz_27, sz_28, sz_29, sz_30, sz_31, sz_32, sz_33, sz_34, sz_35, sz_36, sz_37, sz_38, sz_39, sz_40, e_isN, e_isK, e_isInt hp, e_isBool hp, e_isStr hp, e_isTuple hp, e_isList hp, e_neb, isC, Bool.false_eq_true, if_false, MP.isInt, isStr, isTuple, isList, beq_self_eq_true, Bool.not_true, e_lenL, e_nei, e_zipLL, zip_range]
  refine for_find (α := Unit) (fun env => ∃ x2 x3, env = [some (.p (.list vs)), some (.p (.list vs)), x2, x3]) ⟨gd_list _ _, gd_list _ _⟩ _ (fun _ => none) (fun _ _ => True) (fun _ _ _ h => h) vs.length _ ⟨_, _, rfl⟩ (fun j hj env hi => ?_) (fun hn env hi => ?_) (fun i hi => ?_)
  · obtain ⟨x2, x3, rfl⟩ := hi
    refine ⟨_, rfl, fun Q' q0 q1 => ?_⟩
    unfold b29_l0
    simp only [e_svs_cons, e_svs_nil, e_sv_ife, e_sv_ret, e_sv_retN, e_sv_set, e_sv_setIx, e_sv_setLc, e_sv_app, e_sv_ex, e_sv_loop, e_sv_pass, e_ev_var, e_ev_lit, e_ev_glb, e_ev_gix, e_ev_bin, e_ev_neg, e_ev_not, w_and, w_or, QT2_bool, QB_bool, e_ev_one, e_ev_cmp, w_cmp2, e_ev_ife, e_ev_tup, e_mkT, e_ev_lst, e_ev_frz, e_ev_rev, e_ev_dct, e_ev_mcall, e_ev_callD, e_ev_callT, e_sv_tryS, e_sv_raise, e_tbv_ex, e_tbv_set, e_tbv_ife, e_tbv_exSet, e_sv_brk, e_sv_cont, wp_catch, e_evc_none, e_evc_some, e_ev_ix, e_ev_sl, e_ev_bi, e_ev_mx2, e_ev_isi, e_ev_call, e_ev_join, e_ev_lc, e_evs_nil, e_evs_cons, e_evo_none, e_evo_some, e_evi_seq, e_evi_rng1, e_evi_rng2, e_evi_enum, e_evi_zip, env0, varD, e_b_nm, e_b_tT, e_b_tL, e_b_nil, e_b_cons, wp_bind, wp_then, wp_ok, wp_truR, wp_finP, QF_nx, QF_rt, QE1_rt, QE1_nx, QT1_bool, List.map, List.length, List.replicate, List.getElem?_cons_zero, List.getElem?_cons_succ, List.set, Nat.reduceSub, List.cons_append, List.nil_append, Nat.reduceAdd, wp_ite, e_mkLT, tru_b, seqI_L, seqI_T, pures_p, pures_nil, Option.map_some, Option.bind_some, if_true, sz_0, sz_1, sz_2, sz_3, sz_4, sz_5, sz_6, sz_7, sz_8, sz_9, sz_10, sz_11, sz_12, sz_13, sz_14, sz_15, sz_16, sz_17, sz_18, sz_19, sz_20, sz_21, sz_22, sz_23, sz_24, sz_25, sz_26, sz_27, sz_28, sz_29, sz_30, sz_31, sz_32, sz_33, sz_34, sz_35, sz_36, sz_37, sz_38, sz_39, sz_40]
    refine same_flat k (hv _ (getD_mem hj)) ?_
    simp only [e_svs_cons, e_svs_nil, e_sv_ife, e_sv_ret, e_sv_retN, e_sv_set, e_sv_setIx, e_sv_setLc, e_sv_app, e_sv_ex, e_sv_loop, e_sv_pass, e_ev_var, e_ev_lit, e_ev_glb, e_ev_gix, e_ev_bin, e_ev_neg, e_ev_not, w_and, w_or, QT2_bool, QB_bool, e_ev_one, e_ev_cmp, w_cmp2, e_ev_ife, e_ev_tup, e_mkT, e_ev_lst, e_ev_frz, e_ev_rev, e_ev_dct, e_ev_mcall, e_ev_callD, e_ev_callT, e_sv_tryS, e_sv_raise, e_tbv_ex, e_tbv_set, e_tbv_ife, e_tbv_exSet, e_sv_brk, e_sv_cont, wp_catch, e_evc_none, e_evc_some, e_ev_ix, e_ev_sl, e_ev_bi, e_ev_mx2, e_ev_isi, e_ev_call, e_ev_join, e_ev_lc, e_evs_nil, e_evs_cons, e_evo_none, e_evo_some, e_evi_seq, e_evi_rng1, e_evi_rng2, e_evi_enum, e_evi_zip, env0, varD, e_b_nm, e_b_tT, e_b_tL, e_b_nil, e_b_cons, wp_bind, wp_then, wp_ok, wp_truR, wp_finP, QF_nx, QF_rt, QE1_rt, QE1_nx, QT1_bool, List.map, List.length, List.replicate, List.getElem?_cons_zero, List.getElem?_cons_succ, List.set, Nat.reduceSub, List.cons_append, List.nil_append, Nat.reduceAdd, wp_ite, e_mkLT, tru_b, seqI_L, seqI_T, pures_p, pures_nil, Option.map_some, Option.bind_some, if_true, sz_0, sz_1, sz_2, sz_3, sz_4, sz_5, sz_6, sz_7, sz_8, sz_9, sz_10, sz_11, sz_12, sz_13, sz_14, sz_15, sz_16, sz_17, sz_18, sz_19, sz_20, sz_21, sz_22, sz_23, sz_24, sz_25, sz_26, sz_27, sz_28, sz_29, sz_30, sz_31, sz_32, sz_33, sz_34, sz_35, sz_36, sz_37, sz_38, sz_39, sz_40, Bool.not_true, Bool.false_eq_true, if_false]
    exact q0 rfl _ ⟨_, _, rfl⟩
  · obtain ⟨x2, x3, rfl⟩ := hi
    simp only [e_svs_cons, e_svs_nil, e_sv_ife, e_sv_ret, e_sv_retN, e_sv_set, e_sv_setIx, e_sv_setLc, e_sv_app, e_sv_ex, e_sv_loop, e_sv_pass, e_ev_var, e_ev_lit, e_ev_glb, e_ev_gix, e_ev_bin, e_ev_neg, e_ev_not, w_and, w_or, QT2_bool, QB_bool, e_ev_one, e_ev_cmp, w_cmp2, e_ev_ife, e_ev_tup, e_mkT, e_ev_lst, e_ev_frz, e_ev_rev, e_ev_dct, e_ev_mcall, e_ev_callD, e_ev_callT, e_sv_tryS, e_sv_raise, e_tbv_ex, e_tbv_set, e_tbv_ife, e_tbv_exSet, e_sv_brk, e_sv_cont, wp_catch, e_evc_none, e_evc_some, e_ev_ix, e_ev_sl, e_ev_bi, e_ev_mx2, e_ev_isi, e_ev_call, e_ev_join, e_ev_lc, e_evs_nil, e_evs_cons, e_evo_none, e_evo_some, e_evi_seq, e_evi_rng1, e_evi_rng2, e_evi_enum, e_evi_zip, env0, varD, e_b_nm, e_b_tT, e_b_tL, e_b_nil, e_b_cons, wp_bind, wp_then, wp_ok, wp_truR, wp_finP, QF_nx, QF_rt, QE1_rt, QE1_nx, QT1_bool, List.map, List.length, List.replicate, List.getElem?_cons_zero, List.getElem?_cons_succ, List.set, Nat.reduceSub, List.cons_append, List.nil_append, Nat.reduceAdd, wp_ite, e_mkLT, tru_b, seqI_L, seqI_T, pures_p, pures_nil, Option.map_some, Option.bind_some, if_true, sz_0, sz_1, sz_2, sz_3, sz_4, sz_5, sz_6, sz_7, sz_8, sz_9, sz_10, sz_11, sz_12, sz_13, sz_14, sz_15, sz_16, sz_17, sz_18, sz_19, sz_20, sz_21, sz_22, sz_23, sz_24, sz_25, sz_26, sz_27, sz_28, sz_29, sz_30, sz_31, sz_32, sz_33, sz_34, sz_35, sz_36, sz_37, sz_38, sz_39, sz_40, gc_st]
    exact h
  · have : FS vs.length (fun _ : Nat => (none : Option Unit)) = none := by simp [FS]
    rw [this] at hi
    cases hi
theorem due_flat (hs : List Str) (rs : List PyData) : ∃ vs, due hs rs = .list vs ∧ ∀ v ∈ vs, flat v = true := by
  unfold due
  split
  · exact ⟨_, rfl, by simp [flat]⟩
  · split
    · exact ⟨_, rfl, by simp [flat]⟩
    · exact ⟨_, rfl, by simp [flat]⟩
/-! lists that are drawn -/
theorem e_mkL0 (st : Store) : mkL false [] st = .ok (.p (.list [])) st := e_mkLF [] st
theorem e_neC {n : Nat} {st : Store} {rs : List PyData} (h : cellL st n = some (rs.map .p)) : cmpD .NotEq (.c n) (.p (.list [])) st = .ok (.p (.bool (!rs.isEmpty))) st := by
  have h1 : toP (.c n) st = some (.list rs) := by
    unfold toP
    simp only [h, Option.bind_some, pures_map, Option.map_some]
  unfold cmpD eqD
  simp only [toP_p, h1]
  rw [if_pos]
  · cases rs <;> rfl
  · unfold eqRoom
    rw [decide_eq_true_eq]
    exact Nat.le_trans (Nat.min_le_right _ _) (by decide)
theorem e_addCL {n : Nat} {st : Store} {rs ys : List PyData} (h : cellL st n = some (rs.map .p)) (hz : rs.length + ys.length ≤ 1000) : binD .Add (.c n) (.p (.list ys)) st = .ok (.p (.list (rs ++ ys))) st := by
  have h1 : items (.c n) st = some (rs.map .p) := h
  have h2 : items (.p (.list ys)) st = some (ys.map .p) := rfl
  unfold binD addD
  simp only [h1, h2, List.length_map, if_pos (sz_le hz)]
  rw [← List.map_append, mkL_p]
theorem insP (rs : List PyData) (y : PyData) (j : Nat) : (rs.map D.p).take j ++ [.p y] ++ (rs.map D.p).drop j = (rs.take j ++ [y] ++ rs.drop j).map D.p := by
  simp
theorem ins_mem {P : PyData → Prop} {rs : List PyData} {y : PyData} {j : Nat} (h : ∀ x ∈ rs, P x) (hy : P y) : ∀ x ∈ rs.take j ++ [y] ++ rs.drop j, P x := fun x hx => by
  rcases List.mem_append.mp hx with hx | hx
  · rcases List.mem_append.mp hx with hx | hx
    · exact h x (List.mem_of_mem_take hx)
    · rw [List.mem_singleton.mp hx]; exact hy
  · exact h x (List.mem_of_mem_drop hx)
theorem ins_len (rs : List PyData) (y : PyData) (j : Nat) (h : j ≤ rs.length) : (rs.take j ++ [y] ++ rs.drop j).length = rs.length + 1 := by
  simp only [List.length_append, List.length_take, List.length_drop, List.length_singleton]
  omega
theorem list_then (k : Nat) {cs : List Int} {i : Nat} {v : Int} {ex : Store} {m : Nat} {hs gs : List Str} (T : Town m hs gs) (hm : m ≤ 10) (hx : OkEx ex) {Q : D → Store → Prop} (h : ∀ (rs : List PyData) (j : Nat) (u : Int), (∀ x ∈ rs, Tg x) → rs.length ≤ 20 → Q (.p (.list rs)) (pen cs j u ++ ex)) :
    wpe NoX (semK defs (k + 6) 30 [.c 1, .p (townD hs gs)] (pen cs i v ++ ex)) Q := by
  have hh := T.house
  refine wp_sem (d := d30) rfl rfl ?_
  simp only [d30, b30, e_svs_cons, e_svs_nil, e_sv_ife, e_sv_ret, e_sv_retN, e_sv_set, e_sv_setIx, e_sv_setLc, e_sv_app, e_sv_ex, e_sv_loop, e_sv_pass, e_ev_var, e_ev_lit, e_ev_glb, e_ev_gix, e_ev_bin, e_ev_neg, e_ev_not, w_and, w_or, QT2_bool, QB_bool, e_ev_one, e_ev_cmp, w_cmp2, e_ev_ife, e_ev_tup, e_mkT, e_ev_lst, e_ev_frz, e_ev_rev, e_ev_dct, e_ev_mcall, e_ev_callD, e_ev_callT, e_sv_tryS, e_sv_raise, e_tbv_ex, e_tbv_set, e_tbv_ife, e_tbv_exSet, e_sv_brk, e_sv_cont, wp_catch, e_evc_none, e_evc_some, e_ev_ix, e_ev_sl, e_ev_bi, e_ev_mx2, e_ev_isi, e_ev_call, e_ev_join, e_ev_lc, e_evs_nil, e_evs_cons, e_evo_none, e_evo_some, e_evi_seq, e_evi_rng1, e_evi_rng2, e_evi_enum, e_evi_zip, env0, varD, e_b_nm, e_b_tT, e_b_tL, e_b_nil, e_b_cons, wp_bind, wp_then, wp_ok, wp_truR, wp_finP, QF_nx, QF_rt, QE1_rt, QE1_nx, QT1_bool, List.map, List.length, List.replicate, List.getElem?_cons_zero, List.getElem?_cons_succ, List.set, Nat.reduceSub, List.cons_append, List.nil_append, Nat.reduceAdd, wp_ite, e_mkLT, tru_b, seqI_L, seqI_T, pures_p, pures_nil, Option.map_some, Option.bind_some, if_true, sz_0, sz_1, sz_2, sz_3, sz_4, sz_5, sz_6, sz_7, sz_8, sz_9, sz_10, sz_11, sz_12, sz_13, sz_14, sz_15, sz_16, sz_17, sz_18, sz_19, sz_20, sz_21, sz_22, sz_23, sz_24, sz_25, sz_26, sz_27, sz_28, sz_29, sz_30, sz_31, sz_32, sz_33, sz_34, sz_35, sz_36, sz_37, sz_38, sz_39, sz_40]
  rw [pen_len, pen_app]
  refine take_then (k + 3) (by decide) (by decide) fun x i1 u1 x0 x1 => ?_
  have env_eq : ∀ (rs : List PyData) (st : Store) (i : Nat) (u : Int), st = pen cs i u ++ (ex ++ [.lst (rs.map D.p)]) → cellL st (2 + ex.length) = some (rs.map .p) := fun rs st i u e => by rw [e]; exact pen_last _ _ _ _ _
  -- the end
  have s5 : ∀ (rs : List PyData) (i : Nat) (u : Int) (x3 x4 x5 : Option D), (∀ x ∈ rs, Tg x) → rs.length ≤ 20 → wpe NoX (svs (semK defs (k + 5)) b30_t5 [some (.c 1), some (.p (townD hs gs)), some (.c (2 + ex.length)), x3, x4, x5] (pen cs i u ++ (ex ++ [.lst (rs.map .p)]))) (QE1 NoX (2 + ex.length) Q) := fun rs i u x3 x4 x5 h1 h2 => by
    unfold b30_t5
    simp only [e_svs_cons, e_svs_nil, e_sv_ife, e_sv_ret, e_sv_retN, e_sv_set, e_sv_setIx, e_sv_setLc, e_sv_app, e_sv_ex, e_sv_loop, e_sv_pass, e_ev_var, e_ev_lit, e_ev_glb, e_ev_gix, e_ev_bin, e_ev_neg, e_ev_not, w_and, w_or, QT2_bool, QB_bool, e_ev_one, e_ev_cmp, w_cmp2, e_ev_ife, e_ev_tup, e_mkT, e_ev_lst, e_ev_frz, e_ev_rev, e_ev_dct, e_ev_mcall, e_ev_callD, e_ev_callT, e_sv_tryS, e_sv_raise, e_tbv_ex, e_tbv_set, e_tbv_ife, e_tbv_exSet, e_sv_brk, e_sv_cont, wp_catch, e_evc_none, e_evc_some, e_ev_ix, e_ev_sl, e_ev_bi, e_ev_mx2, e_ev_isi, e_ev_call, e_ev_join, e_ev_lc, e_evs_nil, e_evs_cons, e_evo_none, e_evo_some, e_evi_seq, e_evi_rng1, e_evi_rng2, e_evi_enum, e_evi_zip, env0, varD, e_b_nm, e_b_tT, e_b_tL, e_b_nil, e_b_cons, wp_bind, wp_then, wp_ok, wp_truR, wp_finP, QF_nx, QF_rt, QE1_rt, QE1_nx, QT1_bool, List.map, List.length, List.replicate, List.getElem?_cons_zero, List.getElem?_cons_succ, List.set, Nat.reduceSub, List.cons_append, List.nil_append, Nat.reduceAdd, wp_ite, e_mkLT, tru_b, seqI_L, seqI_T, pures_p, pures_nil, Option.map_some, Option.bind_some, if_true, sz_0, sz_1, sz_2, sz_3, sz_4, sz_5, sz_6, sz_7, sz_8, sz_9, sz_10, sz_11, sz_12, sz_13, sz_14, sz_15, sz_16, sz_17, sz_18, sz_19, sz_20, sz_21, sz_22, sz_23, sz_24, sz_25, sz_26, sz_27, sz_28, sz_29, sz_30, sz_31, sz_32, sz_33, sz_34, sz_35, sz_36, sz_37, sz_38, sz_39, sz_40, frz_c (pen_last _ _ _ _ _), pen_setLast]
    rw [← pen_app, gc_pen hx rfl]
    exact h rs i u h1 h2
  -- things that are no rows
  have s4 : ∀ (rs : List PyData) (i : Nat) (u : Int) (x3 x4 x5 : Option D), (∀ x ∈ rs, Tg x) → rs.length ≤ 14 → wpe NoX (svs (semK defs (k + 5)) b30_t4 [some (.c 1), some (.p (townD hs gs)), some (.c (2 + ex.length)), x3, x4, x5] (pen cs i u ++ (ex ++ [.lst (rs.map .p)]))) (QE1 NoX (2 + ex.length) Q) := fun rs i u x3 x4 x5 h1 h2 => by
    unfold b30_t4
    simp only [e_svs_cons, e_svs_nil, e_sv_ife, e_sv_ret, e_sv_retN, e_sv_set, e_sv_setIx, e_sv_setLc, e_sv_app, e_sv_ex, e_sv_loop, e_sv_pass, e_ev_var, e_ev_lit, e_ev_glb, e_ev_gix, e_ev_bin, e_ev_neg, e_ev_not, w_and, w_or, QT2_bool, QB_bool, e_ev_one, e_ev_cmp, w_cmp2, e_ev_ife, e_ev_tup, e_mkT, e_ev_lst, e_ev_frz, e_ev_rev, e_ev_dct, e_ev_mcall, e_ev_callD, e_ev_callT, e_sv_tryS, e_sv_raise, e_tbv_ex, e_tbv_set, e_tbv_ife, e_tbv_exSet, e_sv_brk, e_sv_cont, wp_catch, e_evc_none, e_evc_some, e_ev_ix, e_ev_sl, e_ev_bi, e_ev_mx2, e_ev_isi, e_ev_call, e_ev_join, e_ev_lc, e_evs_nil, e_evs_cons, e_evo_none, e_evo_some, e_evi_seq, e_evi_rng1, e_evi_rng2, e_evi_enum, e_evi_zip, env0, varD, e_b_nm, e_b_tT, e_b_tL, e_b_nil, e_b_cons, wp_bind, wp_then, wp_ok, wp_truR, wp_finP, QF_nx, QF_rt, QE1_rt, QE1_nx, QT1_bool, List.map, List.length, List.replicate, List.getElem?_cons_zero, List.getElem?_cons_succ, List.set, Nat.reduceSub, List.cons_append, List.nil_append, Nat.reduceAdd, wp_ite, e_mkLT, tru_b, seqI_L, seqI_T, pures_p, pures_nil, Option.map_some, Option.bind_some, if_true, sz_0, sz_1, sz_2, sz_3, sz_4, sz_5, sz_6, sz_7, sz_8, sz_9, sz_10, sz_11, sz_12, sz_13, sz_14, sz_15, sz_16, sz_17, sz_18, sz_19, sz_20, sz_21, sz_22, sz_23, sz_24, sz_25, sz_26, sz_27, sz_28, sz_29, sz_30, sz_31, sz_32, sz_33, sz_34, sz_35, sz_36, sz_37, sz_38, sz_39, sz_40, e_mkLF [.int 0, .int 0, .int 1, .int 2]]
    have e4 : ∀ st : Store, mkL false [.p (.int 0), .p (.int 0), .p (.int 1), .p (.int 2)] st = .ok (.p (.list [.int 0, .int 0, .int 1, .int 2])) st := fun st => e_mkLF [.int 0, .int 0, .int 1, .int 2] st
    simp only [e_svs_cons, e_svs_nil, e_sv_ife, e_sv_ret, e_sv_retN, e_sv_set, e_sv_setIx, e_sv_setLc, e_sv_app, e_sv_ex, e_sv_loop, e_sv_pass, e_ev_var, e_ev_lit, e_ev_glb, e_ev_gix, e_ev_bin, e_ev_neg, e_ev_not, w_and, w_or, QT2_bool, QB_bool, e_ev_one, e_ev_cmp, w_cmp2, e_ev_ife, e_ev_tup, e_mkT, e_ev_lst, e_ev_frz, e_ev_rev, e_ev_dct, e_ev_mcall, e_ev_callD, e_ev_callT, e_sv_tryS, e_sv_raise, e_tbv_ex, e_tbv_set, e_tbv_ife, e_tbv_exSet, e_sv_brk, e_sv_cont, wp_catch, e_evc_none, e_evc_some, e_ev_ix, e_ev_sl, e_ev_bi, e_ev_mx2, e_ev_isi, e_ev_call, e_ev_join, e_ev_lc, e_evs_nil, e_evs_cons, e_evo_none, e_evo_some, e_evi_seq, e_evi_rng1, e_evi_rng2, e_evi_enum, e_evi_zip, env0, varD, e_b_nm, e_b_tT, e_b_tL, e_b_nil, e_b_cons, wp_bind, wp_then, wp_ok, wp_truR, wp_finP, QF_nx, QF_rt, QE1_rt, QE1_nx, QT1_bool, List.map, List.length, List.replicate, List.getElem?_cons_zero, List.getElem?_cons_succ, List.set, Nat.reduceSub, List.cons_append, List.nil_append, Nat.reduceAdd, wp_ite, e_mkLT, tru_b, seqI_L, seqI_T, pures_p, pures_nil, Option.map_some, Option.bind_some, if_true, sz_0, sz_1, sz_2, sz_3, sz_4, sz_5, sz_6, sz_7, sz_8, sz_9, sz_10, sz_11, sz_12, sz_13, sz_14, sz_15, sz_16, sz_17, sz_18, sz_19, sz_20, sz_21, sz_22, sz_23, sz_24, sz_25, sz_26, sz_27, sz_28, sz_29, sz_30, sz_31, sz_32, sz_33, sz_34, sz_35, sz_36, sz_37, sz_38, sz_39, sz_40, e4]
    refine take_then (k + 3) (by decide) (by decide) fun p i2 u2 p0 p1 => ?_
    obtain ⟨a, ha, ea⟩ := ixL_in (l := [.int 0, .int 0, .int 1, .int 2]) (pen cs i2 u2 ++ (ex ++ [.lst (rs.map .p)])) p0 p1
    obtain ⟨n, rfl, hn⟩ : ∃ n : Nat, a = .int n ∧ n ≤ 2 := by
      simp only [List.mem_cons, List.not_mem_nil, or_false] at ha
      rcases ha with rfl | rfl | rfl | rfl
      · exact ⟨0, rfl, by decide⟩
      · exact ⟨0, rfl, by decide⟩
      · exact ⟨1, rfl, by decide⟩
      · exact ⟨2, rfl, by decide⟩
    rw [ea, wp_ok]
    simp only [e_svs_cons, e_svs_nil, e_sv_ife, e_sv_ret, e_sv_retN, e_sv_set, e_sv_setIx, e_sv_setLc, e_sv_app, e_sv_ex, e_sv_loop, e_sv_pass, e_ev_var, e_ev_lit, e_ev_glb, e_ev_gix, e_ev_bin, e_ev_neg, e_ev_not, w_and, w_or, QT2_bool, QB_bool, e_ev_one, e_ev_cmp, w_cmp2, e_ev_ife, e_ev_tup, e_mkT, e_ev_lst, e_ev_frz, e_ev_rev, e_ev_dct, e_ev_mcall, e_ev_callD, e_ev_callT, e_sv_tryS, e_sv_raise, e_tbv_ex, e_tbv_set, e_tbv_ife, e_tbv_exSet, e_sv_brk, e_sv_cont, wp_catch, e_evc_none, e_evc_some, e_ev_ix, e_ev_sl, e_ev_bi, e_ev_mx2, e_ev_isi, e_ev_call, e_ev_join, e_ev_lc, e_evs_nil, e_evs_cons, e_evo_none, e_evo_some, e_evi_seq, e_evi_rng1, e_evi_rng2, e_evi_enum, e_evi_zip, env0, varD, e_b_nm, e_b_tT, e_b_tL, e_b_nil, e_b_cons, wp_bind, wp_then, wp_ok, wp_truR, wp_finP, QF_nx, QF_rt, QE1_rt, QE1_nx, QT1_bool, List.map, List.length, List.replicate, List.getElem?_cons_zero, List.getElem?_cons_succ, List.set, Nat.reduceSub, List.cons_append, List.nil_append, Nat.reduceAdd, wp_ite, e_mkLT, tru_b, seqI_L, seqI_T, pures_p, pures_nil, Option.map_some, Option.bind_some, if_true, sz_0, sz_1, sz_2, sz_3, sz_4, sz_5, sz_6, sz_7, sz_8, sz_9, sz_10, sz_11, sz_12, sz_13, sz_14, sz_15, sz_16, sz_17, sz_18, sz_19, sz_20, sz_21, sz_22, sz_23, sz_24, sz_25, sz_26, sz_27, sz_28, sz_29, sz_30, sz_31, sz_32, sz_33, sz_34, sz_35, sz_36, sz_37, sz_38, sz_39, sz_40, e_rng0 n (by omega)]
    refine wp_for0 (fun j env st => ∃ (rs : List PyData) (i : Nat) (u : Int) (x4 x5 : Option D), (∀ x ∈ rs, Tg x) ∧ rs.length ≤ 14 + j ∧ env = [some (.c 1), some (.p (townD hs gs)), some (.c (2 + ex.length)), x3, x4, x5] ∧ st = pen cs i u ++ (ex ++ [.lst (rs.map .p)]))
      ⟨rs, i2, u2, _, _, h1, h2, rfl, rfl⟩ (fun _ _ _ _ => trivial) (fun j hj env st hi => ?_) (fun env st hi => ?_)
    · obtain ⟨rs, i, u, x4, x5, h1, h2, rfl, rfl⟩ := hi
      simp only [List.length_map, List.length_range] at hj
      refine ⟨_, by rw [List.getElem_map]; rfl, ?_⟩
      unfold b30_l0
      simp only [e_svs_cons, e_svs_nil, e_sv_ife, e_sv_ret, e_sv_retN, e_sv_set, e_sv_setIx, e_sv_setLc, e_sv_app, e_sv_ex, e_sv_loop, e_sv_pass, e_ev_var, e_ev_lit, e_ev_glb, e_ev_gix, e_ev_bin, e_ev_neg, e_ev_not, w_and, w_or, QT2_bool, QB_bool, e_ev_one, e_ev_cmp, w_cmp2, e_ev_ife, e_ev_tup, e_mkT, e_ev_lst, e_ev_frz, e_ev_rev, e_ev_dct, e_ev_mcall, e_ev_callD, e_ev_callT, e_sv_tryS, e_sv_raise, e_tbv_ex, e_tbv_set, e_tbv_ife, e_tbv_exSet, e_sv_brk, e_sv_cont, wp_catch, e_evc_none, e_evc_some, e_ev_ix, e_ev_sl, e_ev_bi, e_ev_mx2, e_ev_isi, e_ev_call, e_ev_join, e_ev_lc, e_evs_nil, e_evs_cons, e_evo_none, e_evo_some, e_evi_seq, e_evi_rng1, e_evi_rng2, e_evi_enum, e_evi_zip, env0, varD, e_b_nm, e_b_tT, e_b_tL, e_b_nil, e_b_cons, wp_bind, wp_then, wp_ok, wp_truR, wp_finP, QF_nx, QF_rt, QE1_rt, QE1_nx, QT1_bool, List.map, List.length, List.replicate, List.getElem?_cons_zero, List.getElem?_cons_succ, List.set, Nat.reduceSub, List.cons_append, List.nil_append, Nat.reduceAdd, wp_ite, e_mkLT, tru_b, seqI_L, seqI_T, pures_p, pures_nil, Option.map_some, Option.bind_some, if_true, sz_0, sz_1, sz_2, sz_3, sz_4, sz_5, sz_6, sz_7, sz_8, sz_9, sz_10, sz_11, sz_12, sz_13, sz_14, sz_15, sz_16, sz_17, sz_18, sz_19, sz_20, sz_21, sz_22, sz_23, sz_24, sz_25, sz_26, sz_27, sz_28, sz_29, sz_30, sz_31, sz_32, sz_33, sz_34, sz_35, sz_36, sz_37, sz_38, sz_39, sz_40, items_c (pen_last _ _ _ _ _), len_c (pen_last _ _ _ _ _), e_add, List.length_map]
      refine take_then (k + 3) (by omega) (by omega) fun a i3 u3 a0 a1 => ?_
      refine no_then k T hm fun y i4 u4 hy => ?_
      obtain ⟨q, rfl⟩ : ∃ q : Nat, a = q := ⟨a.toNat, by omega⟩
      simp only [e_svs_cons, e_svs_nil, e_sv_ife, e_sv_ret, e_sv_retN, e_sv_set, e_sv_setIx, e_sv_setLc, e_sv_app, e_sv_ex, e_sv_loop, e_sv_pass, e_ev_var, e_ev_lit, e_ev_glb, e_ev_gix, e_ev_bin, e_ev_neg, e_ev_not, w_and, w_or, QT2_bool, QB_bool, e_ev_one, e_ev_cmp, w_cmp2, e_ev_ife, e_ev_tup, e_mkT, e_ev_lst, e_ev_frz, e_ev_rev, e_ev_dct, e_ev_mcall, e_ev_callD, e_ev_callT, e_sv_tryS, e_sv_raise, e_tbv_ex, e_tbv_set, e_tbv_ife, e_tbv_exSet, e_sv_brk, e_sv_cont, wp_catch, e_evc_none, e_evc_some, e_ev_ix, e_ev_sl, e_ev_bi, e_ev_mx2, e_ev_isi, e_ev_call, e_ev_join, e_ev_lc, e_evs_nil, e_evs_cons, e_evo_none, e_evo_some, e_evi_seq, e_evi_rng1, e_evi_rng2, e_evi_enum, e_evi_zip, env0, varD, e_b_nm, e_b_tT, e_b_tL, e_b_nil, e_b_cons, wp_bind, wp_then, wp_ok, wp_truR, wp_finP, QF_nx, QF_rt, QE1_rt, QE1_nx, QT1_bool, List.map, List.length, List.replicate, List.getElem?_cons_zero, List.getElem?_cons_succ, List.set, Nat.reduceSub, List.cons_append, List.nil_append, Nat.reduceAdd, wp_ite, e_mkLT, tru_b, seqI_L, seqI_T, pures_p, pures_nil, Option.map_some, Option.bind_some, if_true, sz_0, sz_1, sz_2, sz_3, sz_4, sz_5, sz_6, sz_7, sz_8, sz_9, sz_10, sz_11, sz_12, sz_13, sz_14, sz_15, sz_16, sz_17, sz_18, sz_19, sz_20, sz_21, sz_22, sz_23, sz_24, sz_25, sz_26, sz_27, sz_28, sz_29, sz_30, sz_31, sz_32, sz_33, sz_34, sz_35, sz_36, sz_37, sz_38, sz_39, sz_40, ins_c (xs := rs.map D.p) (pen_last _ _ _ _ _) (q : Int) (.p y) (by rw [List.length_map]; omega) (by omega) (by omega), pen_setLast, QN_nx, Int.toNat_natCast, insP]
      exact ⟨_, i4, u4, _, _, ins_mem h1 hy, by rw [ins_len _ _ _ (by omega)]; omega, rfl, rfl⟩
    · obtain ⟨rs, i, u, x4, x5, h1, h2, rfl, rfl⟩ := hi
      simp only [List.length_map, List.length_range] at h2
      rw [QF_nx]
      exact s5 rs i u _ _ _ h1 (by omega)
  -- one of them twice
  have s3 : ∀ (rs : List PyData) (i : Nat) (u : Int) (x3 x4 x5 : Option D), (∀ x ∈ rs, Tg x) → rs.length ≤ 13 → wpe NoX (svs (semK defs (k + 5)) b30_t3 [some (.c 1), some (.p (townD hs gs)), some (.c (2 + ex.length)), x3, x4, x5] (pen cs i u ++ (ex ++ [.lst (rs.map .p)]))) (QE1 NoX (2 + ex.length) Q) := fun rs i u x3 x4 x5 h1 h2 => by
    unfold b30_t3
    simp only [e_svs_cons, e_svs_nil, e_sv_ife, e_sv_ret, e_sv_retN, e_sv_set, e_sv_setIx, e_sv_setLc, e_sv_app, e_sv_ex, e_sv_loop, e_sv_pass, e_ev_var, e_ev_lit, e_ev_glb, e_ev_gix, e_ev_bin, e_ev_neg, e_ev_not, w_and, w_or, QT2_bool, QB_bool, e_ev_one, e_ev_cmp, w_cmp2, e_ev_ife, e_ev_tup, e_mkT, e_ev_lst, e_ev_frz, e_ev_rev, e_ev_dct, e_ev_mcall, e_ev_callD, e_ev_callT, e_sv_tryS, e_sv_raise, e_tbv_ex, e_tbv_set, e_tbv_ife, e_tbv_exSet, e_sv_brk, e_sv_cont, wp_catch, e_evc_none, e_evc_some, e_ev_ix, e_ev_sl, e_ev_bi, e_ev_mx2, e_ev_isi, e_ev_call, e_ev_join, e_ev_lc, e_evs_nil, e_evs_cons, e_evo_none, e_evo_some, e_evi_seq, e_evi_rng1, e_evi_rng2, e_evi_enum, e_evi_zip, env0, varD, e_b_nm, e_b_tT, e_b_tL, e_b_nil, e_b_cons, wp_bind, wp_then, wp_ok, wp_truR, wp_finP, QF_nx, QF_rt, QE1_rt, QE1_nx, QT1_bool, List.map, List.length, List.replicate, List.getElem?_cons_zero, List.getElem?_cons_succ, List.set, Nat.reduceSub, List.cons_append, List.nil_append, Nat.reduceAdd, wp_ite, e_mkLT, tru_b, seqI_L, seqI_T, pures_p, pures_nil, Option.map_some, Option.bind_some, if_true, sz_0, sz_1, sz_2, sz_3, sz_4, sz_5, sz_6, sz_7, sz_8, sz_9, sz_10, sz_11, sz_12, sz_13, sz_14, sz_15, sz_16, sz_17, sz_18, sz_19, sz_20, sz_21, sz_22, sz_23, sz_24, sz_25, sz_26, sz_27, sz_28, sz_29, sz_30, sz_31, sz_32, sz_33, sz_34, sz_35, sz_36, sz_37, sz_38, sz_39, sz_40, e_mkL0, e_neC (pen_last _ _ _ _ _)]
    cases rs with
    | nil =>
      simp only [List.isEmpty_nil, Bool.not_true, Bool.false_eq_true, if_false, e_svs_cons, e_svs_nil, e_sv_ife, e_sv_ret, e_sv_retN, e_sv_set, e_sv_setIx, e_sv_setLc, e_sv_app, e_sv_ex, e_sv_loop, e_sv_pass, e_ev_var, e_ev_lit, e_ev_glb, e_ev_gix, e_ev_bin, e_ev_neg, e_ev_not, w_and, w_or, QT2_bool, QB_bool, e_ev_one, e_ev_cmp, w_cmp2, e_ev_ife, e_ev_tup, e_mkT, e_ev_lst, e_ev_frz, e_ev_rev, e_ev_dct, e_ev_mcall, e_ev_callD, e_ev_callT, e_sv_tryS, e_sv_raise, e_tbv_ex, e_tbv_set, e_tbv_ife, e_tbv_exSet, e_sv_brk, e_sv_cont, wp_catch, e_evc_none, e_evc_some, e_ev_ix, e_ev_sl, e_ev_bi, e_ev_mx2, e_ev_isi, e_ev_call, e_ev_join, e_ev_lc, e_evs_nil, e_evs_cons, e_evo_none, e_evo_some, e_evi_seq, e_evi_rng1, e_evi_rng2, e_evi_enum, e_evi_zip, env0, varD, e_b_nm, e_b_tT, e_b_tL, e_b_nil, e_b_cons, wp_bind, wp_then, wp_ok, wp_truR, wp_finP, QF_nx, QF_rt, QE1_rt, QE1_nx, QT1_bool, List.map, List.length, List.replicate, List.getElem?_cons_zero, List.getElem?_cons_succ, List.set, Nat.reduceSub, List.cons_append, List.nil_append, Nat.reduceAdd, wp_ite, e_mkLT, tru_b, seqI_L, seqI_T, pures_p, pures_nil, Option.map_some, Option.bind_some, if_true, sz_0, sz_1, sz_2, sz_3, sz_4, sz_5, sz_6, sz_7, sz_8, sz_9, sz_10, sz_11, sz_12, sz_13, sz_14, sz_15, sz_16, sz_17, sz_18, sz_19, sz_20, sz_21, sz_22, sz_23, sz_24, sz_25, sz_26, sz_27, sz_28, sz_29, sz_30, sz_31, sz_32, sz_33, sz_34, sz_35, sz_36, sz_37, sz_38, sz_39, sz_40]
      exact s4 [] i u _ _ _ h1 (by decide)
    | cons r0 r =>
      obtain ⟨rs, hrs⟩ : ∃ rs, rs = r0 :: r := ⟨_, rfl⟩
      have hpos : 0 < rs.length := by rw [hrs]; exact Nat.succ_pos _
      simp only [List.isEmpty_cons, Bool.not_false, if_true, e_svs_cons, e_svs_nil, e_sv_ife, e_sv_ret, e_sv_retN, e_sv_set, e_sv_setIx, e_sv_setLc, e_sv_app, e_sv_ex, e_sv_loop, e_sv_pass, e_ev_var, e_ev_lit, e_ev_glb, e_ev_gix, e_ev_bin, e_ev_neg, e_ev_not, w_and, w_or, QT2_bool, QB_bool, e_ev_one, e_ev_cmp, w_cmp2, e_ev_ife, e_ev_tup, e_mkT, e_ev_lst, e_ev_frz, e_ev_rev, e_ev_dct, e_ev_mcall, e_ev_callD, e_ev_callT, e_sv_tryS, e_sv_raise, e_tbv_ex, e_tbv_set, e_tbv_ife, e_tbv_exSet, e_sv_brk, e_sv_cont, wp_catch, e_evc_none, e_evc_some, e_ev_ix, e_ev_sl, e_ev_bi, e_ev_mx2, e_ev_isi, e_ev_call, e_ev_join, e_ev_lc, e_evs_nil, e_evs_cons, e_evo_none, e_evo_some, e_evi_seq, e_evi_rng1, e_evi_rng2, e_evi_enum, e_evi_zip, env0, varD, e_b_nm, e_b_tT, e_b_tL, e_b_nil, e_b_cons, wp_bind, wp_then, wp_ok, wp_truR, wp_finP, QF_nx, QF_rt, QE1_rt, QE1_nx, QT1_bool, List.map, List.length, List.replicate, List.getElem?_cons_zero, List.getElem?_cons_succ, List.set, Nat.reduceSub, List.cons_append, List.nil_append, Nat.reduceAdd, wp_ite, e_mkLT, tru_b, seqI_L, seqI_T, pures_p, pures_nil, Option.map_some, Option.bind_some, if_true, sz_0, sz_1, sz_2, sz_3, sz_4, sz_5, sz_6, sz_7, sz_8, sz_9, sz_10, sz_11, sz_12, sz_13, sz_14, sz_15, sz_16, sz_17, sz_18, sz_19, sz_20, sz_21, sz_22, sz_23, sz_24, sz_25, sz_26, sz_27, sz_28, sz_29, sz_30, sz_31, sz_32, sz_33, sz_34, sz_35, sz_36, sz_37, sz_38, sz_39, sz_40]
      rw [show (D.p r0 :: r.map D.p) = rs.map D.p by rw [hrs]; rfl]
      rw [← hrs] at h1 h2
      refine take_then (k + 3) (by decide) (by decide) fun p i2 u2 p0 p1 => ?_
      simp only [e_svs_cons, e_svs_nil, e_sv_ife, e_sv_ret, e_sv_retN, e_sv_set, e_sv_setIx, e_sv_setLc, e_sv_app, e_sv_ex, e_sv_loop, e_sv_pass, e_ev_var, e_ev_lit, e_ev_glb, e_ev_gix, e_ev_bin, e_ev_neg, e_ev_not, w_and, w_or, QT2_bool, QB_bool, e_ev_one, e_ev_cmp, w_cmp2, e_ev_ife, e_ev_tup, e_mkT, e_ev_lst, e_ev_frz, e_ev_rev, e_ev_dct, e_ev_mcall, e_ev_callD, e_ev_callT, e_sv_tryS, e_sv_raise, e_tbv_ex, e_tbv_set, e_tbv_ife, e_tbv_exSet, e_sv_brk, e_sv_cont, wp_catch, e_evc_none, e_evc_some, e_ev_ix, e_ev_sl, e_ev_bi, e_ev_mx2, e_ev_isi, e_ev_call, e_ev_join, e_ev_lc, e_evs_nil, e_evs_cons, e_evo_none, e_evo_some, e_evi_seq, e_evi_rng1, e_evi_rng2, e_evi_enum, e_evi_zip, env0, varD, e_b_nm, e_b_tT, e_b_tL, e_b_nil, e_b_cons, wp_bind, wp_then, wp_ok, wp_truR, wp_finP, QF_nx, QF_rt, QE1_rt, QE1_nx, QT1_bool, List.map, List.length, List.replicate, List.getElem?_cons_zero, List.getElem?_cons_succ, List.set, Nat.reduceSub, List.cons_append, List.nil_append, Nat.reduceAdd, wp_ite, e_mkLT, tru_b, seqI_L, seqI_T, pures_p, pures_nil, Option.map_some, Option.bind_some, if_true, sz_0, sz_1, sz_2, sz_3, sz_4, sz_5, sz_6, sz_7, sz_8, sz_9, sz_10, sz_11, sz_12, sz_13, sz_14, sz_15, sz_16, sz_17, sz_18, sz_19, sz_20, sz_21, sz_22, sz_23, sz_24, sz_25, sz_26, sz_27, sz_28, sz_29, sz_30, sz_31, sz_32, sz_33, sz_34, sz_35, sz_36, sz_37, sz_38, sz_39, sz_40, e_eqi]
      split
      · simp only [e_svs_cons, e_svs_nil, e_sv_ife, e_sv_ret, e_sv_retN, e_sv_set, e_sv_setIx, e_sv_setLc, e_sv_app, e_sv_ex, e_sv_loop, e_sv_pass, e_ev_var, e_ev_lit, e_ev_glb, e_ev_gix, e_ev_bin, e_ev_neg, e_ev_not, w_and, w_or, QT2_bool, QB_bool, e_ev_one, e_ev_cmp, w_cmp2, e_ev_ife, e_ev_tup, e_mkT, e_ev_lst, e_ev_frz, e_ev_rev, e_ev_dct, e_ev_mcall, e_ev_callD, e_ev_callT, e_sv_tryS, e_sv_raise, e_tbv_ex, e_tbv_set, e_tbv_ife, e_tbv_exSet, e_sv_brk, e_sv_cont, wp_catch, e_evc_none, e_evc_some, e_ev_ix, e_ev_sl, e_ev_bi, e_ev_mx2, e_ev_isi, e_ev_call, e_ev_join, e_ev_lc, e_evs_nil, e_evs_cons, e_evo_none, e_evo_some, e_evi_seq, e_evi_rng1, e_evi_rng2, e_evi_enum, e_evi_zip, env0, varD, e_b_nm, e_b_tT, e_b_tL, e_b_nil, e_b_cons, wp_bind, wp_then, wp_ok, wp_truR, wp_finP, QF_nx, QF_rt, QE1_rt, QE1_nx, QT1_bool, List.map, List.length, List.replicate, List.getElem?_cons_zero, List.getElem?_cons_succ, List.set, Nat.reduceSub, List.cons_append, List.nil_append, Nat.reduceAdd, wp_ite, e_mkLT, tru_b, seqI_L, seqI_T, pures_p, pures_nil, Option.map_some, Option.bind_some, if_true, sz_0, sz_1, sz_2, sz_3, sz_4, sz_5, sz_6, sz_7, sz_8, sz_9, sz_10, sz_11, sz_12, sz_13, sz_14, sz_15, sz_16, sz_17, sz_18, sz_19, sz_20, sz_21, sz_22, sz_23, sz_24, sz_25, sz_26, sz_27, sz_28, sz_29, sz_30, sz_31, sz_32, sz_33, sz_34, sz_35, sz_36, sz_37, sz_38, sz_39, sz_40, items_c (pen_last _ _ _ _ _), len_c (pen_last _ _ _ _ _), e_add, List.length_map]
        refine take_then (k + 3) (by omega) (by omega) fun a i3 u3 a0 a1 => ?_
        simp only [e_svs_cons, e_svs_nil, e_sv_ife, e_sv_ret, e_sv_retN, e_sv_set, e_sv_setIx, e_sv_setLc, e_sv_app, e_sv_ex, e_sv_loop, e_sv_pass, e_ev_var, e_ev_lit, e_ev_glb, e_ev_gix, e_ev_bin, e_ev_neg, e_ev_not, w_and, w_or, QT2_bool, QB_bool, e_ev_one, e_ev_cmp, w_cmp2, e_ev_ife, e_ev_tup, e_mkT, e_ev_lst, e_ev_frz, e_ev_rev, e_ev_dct, e_ev_mcall, e_ev_callD, e_ev_callT, e_sv_tryS, e_sv_raise, e_tbv_ex, e_tbv_set, e_tbv_ife, e_tbv_exSet, e_sv_brk, e_sv_cont, wp_catch, e_evc_none, e_evc_some, e_ev_ix, e_ev_sl, e_ev_bi, e_ev_mx2, e_ev_isi, e_ev_call, e_ev_join, e_ev_lc, e_evs_nil, e_evs_cons, e_evo_none, e_evo_some, e_evi_seq, e_evi_rng1, e_evi_rng2, e_evi_enum, e_evi_zip, env0, varD, e_b_nm, e_b_tT, e_b_tL, e_b_nil, e_b_cons, wp_bind, wp_then, wp_ok, wp_truR, wp_finP, QF_nx, QF_rt, QE1_rt, QE1_nx, QT1_bool, List.map, List.length, List.replicate, List.getElem?_cons_zero, List.getElem?_cons_succ, List.set, Nat.reduceSub, List.cons_append, List.nil_append, Nat.reduceAdd, wp_ite, e_mkLT, tru_b, seqI_L, seqI_T, pures_p, pures_nil, Option.map_some, Option.bind_some, if_true, sz_0, sz_1, sz_2, sz_3, sz_4, sz_5, sz_6, sz_7, sz_8, sz_9, sz_10, sz_11, sz_12, sz_13, sz_14, sz_15, sz_16, sz_17, sz_18, sz_19, sz_20, sz_21, sz_22, sz_23, sz_24, sz_25, sz_26, sz_27, sz_28, sz_29, sz_30, sz_31, sz_32, sz_33, sz_34, sz_35, sz_36, sz_37, sz_38, sz_39, sz_40, len_c (pen_last _ _ _ _ _), List.length_map]
        refine take_then (k + 3) (by omega) (by omega) fun b i4 u4 b0 b1 => ?_
        obtain ⟨q, rfl⟩ : ∃ q : Nat, a = q := ⟨a.toNat, by omega⟩
        obtain ⟨y, hy, ey⟩ := atI_in (l := rs) b0 b1
        simp only [e_svs_cons, e_svs_nil, e_sv_ife, e_sv_ret, e_sv_retN, e_sv_set, e_sv_setIx, e_sv_setLc, e_sv_app, e_sv_ex, e_sv_loop, e_sv_pass, e_ev_var, e_ev_lit, e_ev_glb, e_ev_gix, e_ev_bin, e_ev_neg, e_ev_not, w_and, w_or, QT2_bool, QB_bool, e_ev_one, e_ev_cmp, w_cmp2, e_ev_ife, e_ev_tup, e_mkT, e_ev_lst, e_ev_frz, e_ev_rev, e_ev_dct, e_ev_mcall, e_ev_callD, e_ev_callT, e_sv_tryS, e_sv_raise, e_tbv_ex, e_tbv_set, e_tbv_ife, e_tbv_exSet, e_sv_brk, e_sv_cont, wp_catch, e_evc_none, e_evc_some, e_ev_ix, e_ev_sl, e_ev_bi, e_ev_mx2, e_ev_isi, e_ev_call, e_ev_join, e_ev_lc, e_evs_nil, e_evs_cons, e_evo_none, e_evo_some, e_evi_seq, e_evi_rng1, e_evi_rng2, e_evi_enum, e_evi_zip, env0, varD, e_b_nm, e_b_tT, e_b_tL, e_b_nil, e_b_cons, wp_bind, wp_then, wp_ok, wp_truR, wp_finP, QF_nx, QF_rt, QE1_rt, QE1_nx, QT1_bool, List.map, List.length, List.replicate, List.getElem?_cons_zero, List.getElem?_cons_succ, List.set, Nat.reduceSub, List.cons_append, List.nil_append, Nat.reduceAdd, wp_ite, e_mkLT, tru_b, seqI_L, seqI_T, pures_p, pures_nil, Option.map_some, Option.bind_some, if_true, sz_0, sz_1, sz_2, sz_3, sz_4, sz_5, sz_6, sz_7, sz_8, sz_9, sz_10, sz_11, sz_12, sz_13, sz_14, sz_15, sz_16, sz_17, sz_18, sz_19, sz_20, sz_21, sz_22, sz_23, sz_24, sz_25, sz_26, sz_27, sz_28, sz_29, sz_30, sz_31, sz_32, sz_33, sz_34, sz_35, sz_36, sz_37, sz_38, sz_39, sz_40, ix_c (pen_last _ _ _ _ _), atI_map ey, ins_c (xs := rs.map D.p) (pen_last _ _ _ _ _) (q : Int) (.p y) (by rw [List.length_map]; omega) (by omega) (by omega), pen_setLast, Int.toNat_natCast, insP]
        exact s4 _ i4 u4 _ _ _ (ins_mem h1 (h1 y hy)) (by rw [ins_len _ _ _ (by omega)]; omega)
      · try simp only [e_svs_cons, e_svs_nil, e_sv_ife, e_sv_ret, e_sv_retN, e_sv_set, e_sv_setIx, e_sv_setLc, e_sv_app, e_sv_ex, e_sv_loop, e_sv_pass, e_ev_var, e_ev_lit, e_ev_glb, e_ev_gix, e_ev_bin, e_ev_neg, e_ev_not, w_and, w_or, QT2_bool, QB_bool, e_ev_one, e_ev_cmp, w_cmp2, e_ev_ife, e_ev_tup, e_mkT, e_ev_lst, e_ev_frz, e_ev_rev, e_ev_dct, e_ev_mcall, e_ev_callD, e_ev_callT, e_sv_tryS, e_sv_raise, e_tbv_ex, e_tbv_set, e_tbv_ife, e_tbv_exSet, e_sv_brk, e_sv_cont, wp_catch, e_evc_none, e_evc_some, e_ev_ix, e_ev_sl, e_ev_bi, e_ev_mx2, e_ev_isi, e_ev_call, e_ev_join, e_ev_lc, e_evs_nil, e_evs_cons, e_evo_none, e_evo_some, e_evi_seq, e_evi_rng1, e_evi_rng2, e_evi_enum, e_evi_zip, env0, varD, e_b_nm, e_b_tT, e_b_tL, e_b_nil, e_b_cons, wp_bind, wp_then, wp_ok, wp_truR, wp_finP, QF_nx, QF_rt, QE1_rt, QE1_nx, QT1_bool, List.map, List.length, List.replicate, List.getElem?_cons_zero, List.getElem?_cons_succ, List.set, Nat.reduceSub, List.cons_append, List.nil_append, Nat.reduceAdd, wp_ite, e_mkLT, tru_b, seqI_L, seqI_T, pures_p, pures_nil, Option.map_some, Option.bind_some, if_true, sz_0, sz_1, sz_2, sz_3, sz_4, sz_5, sz_6, sz_7, sz_8, sz_9, sz_10, sz_11, sz_12, sz_13, sz_14, sz_15, sz_16, sz_17, sz_18, sz_19, sz_20, sz_21, sz_22, sz_23, sz_24, sz_25, sz_26, sz_27, sz_28, sz_29, sz_30, sz_31, sz_32, sz_33, sz_34, sz_35, sz_36, sz_37, sz_38, sz_39, sz_40]
        exact s4 rs i2 u2 _ _ _ h1 (by omega)
  try simp only [e_svs_cons, e_svs_nil, e_sv_ife, e_sv_ret, e_sv_retN, e_sv_set, e_sv_setIx, e_sv_setLc, e_sv_app, e_sv_ex, e_sv_loop, e_sv_pass, e_ev_var, e_ev_lit, e_ev_glb, e_ev_gix, e_ev_bin, e_ev_neg, e_ev_not, w_and, w_or, QT2_bool, QB_bool, e_ev_one, e_ev_cmp, w_cmp2, e_ev_ife, e_ev_tup, e_mkT, e_ev_lst, e_ev_frz, e_ev_rev, e_ev_dct, e_ev_mcall, e_ev_callD, e_ev_callT, e_sv_tryS, e_sv_raise, e_tbv_ex, e_tbv_set, e_tbv_ife, e_tbv_exSet, e_sv_brk, e_sv_cont, wp_catch, e_evc_none, e_evc_some, e_ev_ix, e_ev_sl, e_ev_bi, e_ev_mx2, e_ev_isi, e_ev_call, e_ev_join, e_ev_lc, e_evs_nil, e_evs_cons, e_evo_none, e_evo_some, e_evi_seq, e_evi_rng1, e_evi_rng2, e_evi_enum, e_evi_zip, env0, varD, e_b_nm, e_b_tT, e_b_tL, e_b_nil, e_b_cons, wp_bind, wp_then, wp_ok, wp_truR, wp_finP, QF_nx, QF_rt, QE1_rt, QE1_nx, QT1_bool, List.map, List.length, List.replicate, List.getElem?_cons_zero, List.getElem?_cons_succ, List.set, Nat.reduceSub, List.cons_append, List.nil_append, Nat.reduceAdd, wp_ite, e_mkLT, tru_b, seqI_L, seqI_T, pures_p, pures_nil, Option.map_some, Option.bind_some, if_true, sz_0, sz_1, sz_2, sz_3, sz_4, sz_5, sz_6, sz_7, sz_8, sz_9, sz_10, sz_11, sz_12, sz_13, sz_14, sz_15, sz_16, sz_17, sz_18, sz_19, sz_20, sz_21, sz_22, sz_23, sz_24, sz_25, sz_26, sz_27, sz_28, sz_29, sz_30, sz_31, sz_32, sz_33, sz_34, sz_35, sz_36, sz_37, sz_38, sz_39, sz_40]
  refine take_then (k + 3) (by decide) (by decide) fun p i2 u2 p0 p1 => ?_
  obtain ⟨n, rfl⟩ : ∃ n : Nat, p = n := ⟨p.toNat, by omega⟩
  simp only [e_svs_cons, e_svs_nil, e_sv_ife, e_sv_ret, e_sv_retN, e_sv_set, e_sv_setIx, e_sv_setLc, e_sv_app, e_sv_ex, e_sv_loop, e_sv_pass, e_ev_var, e_ev_lit, e_ev_glb, e_ev_gix, e_ev_bin, e_ev_neg, e_ev_not, w_and, w_or, QT2_bool, QB_bool, e_ev_one, e_ev_cmp, w_cmp2, e_ev_ife, e_ev_tup, e_mkT, e_ev_lst, e_ev_frz, e_ev_rev, e_ev_dct, e_ev_mcall, e_ev_callD, e_ev_callT, e_sv_tryS, e_sv_raise, e_tbv_ex, e_tbv_set, e_tbv_ife, e_tbv_exSet, e_sv_brk, e_sv_cont, wp_catch, e_evc_none, e_evc_some, e_ev_ix, e_ev_sl, e_ev_bi, e_ev_mx2, e_ev_isi, e_ev_call, e_ev_join, e_ev_lc, e_evs_nil, e_evs_cons, e_evo_none, e_evo_some, e_evi_seq, e_evi_rng1, e_evi_rng2, e_evi_enum, e_evi_zip, env0, varD, e_b_nm, e_b_tT, e_b_tL, e_b_nil, e_b_cons, wp_bind, wp_then, wp_ok, wp_truR, wp_finP, QF_nx, QF_rt, QE1_rt, QE1_nx, QT1_bool, List.map, List.length, List.replicate, List.getElem?_cons_zero, List.getElem?_cons_succ, List.set, Nat.reduceSub, List.cons_append, List.nil_append, Nat.reduceAdd, wp_ite, e_mkLT, tru_b, seqI_L, seqI_T, pures_p, pures_nil, Option.map_some, Option.bind_some, if_true, sz_0, sz_1, sz_2, sz_3, sz_4, sz_5, sz_6, sz_7, sz_8, sz_9, sz_10, sz_11, sz_12, sz_13, sz_14, sz_15, sz_16, sz_17, sz_18, sz_19, sz_20, sz_21, sz_22, sz_23, sz_24, sz_25, sz_26, sz_27, sz_28, sz_29, sz_30, sz_31, sz_32, sz_33, sz_34, sz_35, sz_36, sz_37, sz_38, sz_39, sz_40, e_rng0 n (by omega)]
  refine wp_for0 (fun j env st => ∃ (rs : List PyData) (i : Nat) (u : Int) (x4 x5 : Option D), (∀ x ∈ rs, Row hs x) ∧ rs.length ≤ j ∧ env = [some (.c 1), some (.p (townD hs gs)), some (.c (2 + ex.length)), some (.p (.int x)), x4, x5] ∧ st = pen cs i u ++ (ex ++ [.lst (rs.map .p)]))
    ⟨[], i2, u2, _, _, (by simp), Nat.le_refl _, rfl, rfl⟩ (fun _ _ _ _ => trivial) (fun j hj env st hi => ?_) (fun env st hi => ?_)
  · obtain ⟨rs, i, u, x4, x5, h1, h2, rfl, rfl⟩ := hi
    simp only [List.length_map, List.length_range] at hj
    refine ⟨_, by rw [List.getElem_map]; rfl, ?_⟩
    unfold b30_l1
    simp only [e_svs_cons, e_svs_nil, e_sv_ife, e_sv_ret, e_sv_retN, e_sv_set, e_sv_setIx, e_sv_setLc, e_sv_app, e_sv_ex, e_sv_loop, e_sv_pass, e_ev_var, e_ev_lit, e_ev_glb, e_ev_gix, e_ev_bin, e_ev_neg, e_ev_not, w_and, w_or, QT2_bool, QB_bool, e_ev_one, e_ev_cmp, w_cmp2, e_ev_ife, e_ev_tup, e_mkT, e_ev_lst, e_ev_frz, e_ev_rev, e_ev_dct, e_ev_mcall, e_ev_callD, e_ev_callT, e_sv_tryS, e_sv_raise, e_tbv_ex, e_tbv_set, e_tbv_ife, e_tbv_exSet, e_sv_brk, e_sv_cont, wp_catch, e_evc_none, e_evc_some, e_ev_ix, e_ev_sl, e_ev_bi, e_ev_mx2, e_ev_isi, e_ev_call, e_ev_join, e_ev_lc, e_evs_nil, e_evs_cons, e_evo_none, e_evo_some, e_evi_seq, e_evi_rng1, e_evi_rng2, e_evi_enum, e_evi_zip, env0, varD, e_b_nm, e_b_tT, e_b_tL, e_b_nil, e_b_cons, wp_bind, wp_then, wp_ok, wp_truR, wp_finP, QF_nx, QF_rt, QE1_rt, QE1_nx, QT1_bool, List.map, List.length, List.replicate, List.getElem?_cons_zero, List.getElem?_cons_succ, List.set, Nat.reduceSub, List.cons_append, List.nil_append, Nat.reduceAdd, wp_ite, e_mkLT, tru_b, seqI_L, seqI_T, pures_p, pures_nil, Option.map_some, Option.bind_some, if_true, sz_0, sz_1, sz_2, sz_3, sz_4, sz_5, sz_6, sz_7, sz_8, sz_9, sz_10, sz_11, sz_12, sz_13, sz_14, sz_15, sz_16, sz_17, sz_18, sz_19, sz_20, sz_21, sz_22, sz_23, sz_24, sz_25, sz_26, sz_27, sz_28, sz_29, sz_30, sz_31, sz_32, sz_33, sz_34, sz_35, sz_36, sz_37, sz_38, sz_39, sz_40]
    refine few_then (k + 1) T hm fun y i3 u3 hy => ?_
    have row1 : ∀ x ∈ rs ++ [y], Row hs x := fun x hx => (List.mem_append.mp hx).elim (h1 x) fun hx => by rw [List.mem_singleton.mp hx]; exact hy
    have sz : rs.length < SZ := Nat.lt_of_lt_of_le (show rs.length < 1000 by omega) (by decide)
    have m1 : ∀ st, mkL false [.p y] st = .ok (.p (.list [y])) st := fun st => e_mkLF [y] st
    have app : ∀ (i : Nat) (u : Int) (x4 : Option D), ∃ (rs' : List PyData) (i' : Nat) (u' : Int) (x4' x5' : Option D), (∀ x ∈ rs', Row hs x) ∧ rs'.length ≤ j + 1 ∧ [some (.c 1), some (.p (townD hs gs)), some (.c (2 + ex.length)), some (.p (.int x)), x4, some (.p y)] = [some (.c 1), some (.p (townD hs gs)), some (.c (2 + ex.length)), some (.p (.int x)), x4', x5'] ∧ pen cs i u ++ (ex ++ [.lst (rs.map D.p ++ [.p y])]) = pen cs i' u' ++ (ex ++ [.lst (rs'.map .p)]) :=
      fun i u x4 => ⟨rs ++ [y], i, u, _, _, row1, by simp; omega, rfl, by simp⟩
    have skip : ∀ (i : Nat) (u : Int) (x4 : Option D), ∃ (rs' : List PyData) (i' : Nat) (u' : Int) (x4' x5' : Option D), (∀ x ∈ rs', Row hs x) ∧ rs'.length ≤ j + 1 ∧ [some (.c 1), some (.p (townD hs gs)), some (.c (2 + ex.length)), some (.p (.int x)), x4, some (.p y)] = [some (.c 1), some (.p (townD hs gs)), some (.c (2 + ex.length)), some (.p (.int x)), x4', x5'] ∧ pen cs i u ++ (ex ++ [.lst (rs.map D.p)]) = pen cs i' u' ++ (ex ++ [.lst (rs'.map .p)]) :=
      fun i u x4 => ⟨rs, i, u, _, _, h1, by omega, rfl, rfl⟩
    simp only [e_svs_cons, e_svs_nil, e_sv_ife, e_sv_ret, e_sv_retN, e_sv_set, e_sv_setIx, e_sv_setLc, e_sv_app, e_sv_ex, e_sv_loop, e_sv_pass, e_ev_var, e_ev_lit, e_ev_glb, e_ev_gix, e_ev_bin, e_ev_neg, e_ev_not, w_and, w_or, QT2_bool, QB_bool, e_ev_one, e_ev_cmp, w_cmp2, e_ev_ife, e_ev_tup, e_mkT, e_ev_lst, e_ev_frz, e_ev_rev, e_ev_dct, e_ev_mcall, e_ev_callD, e_ev_callT, e_sv_tryS, e_sv_raise, e_tbv_ex, e_tbv_set, e_tbv_ife, e_tbv_exSet, e_sv_brk, e_sv_cont, wp_catch, e_evc_none, e_evc_some, e_ev_ix, e_ev_sl, e_ev_bi, e_ev_mx2, e_ev_isi, e_ev_call, e_ev_join, e_ev_lc, e_evs_nil, e_evs_cons, e_evo_none, e_evo_some, e_evi_seq, e_evi_rng1, e_evi_rng2, e_evi_enum, e_evi_zip, env0, varD, e_b_nm, e_b_tT, e_b_tL, e_b_nil, e_b_cons, wp_bind, wp_then, wp_ok, wp_truR, wp_finP, QF_nx, QF_rt, QE1_rt, QE1_nx, QT1_bool, List.map, List.length, List.replicate, List.getElem?_cons_zero, List.getElem?_cons_succ, List.set, Nat.reduceSub, List.cons_append, List.nil_append, Nat.reduceAdd, wp_ite, e_mkLT, tru_b, seqI_L, seqI_T, pures_p, pures_nil, Option.map_some, Option.bind_some, if_true, sz_0, sz_1, sz_2, sz_3, sz_4, sz_5, sz_6, sz_7, sz_8, sz_9, sz_10, sz_11, sz_12, sz_13, sz_14, sz_15, sz_16, sz_17, sz_18, sz_19, sz_20, sz_21, sz_22, sz_23, sz_24, sz_25, sz_26, sz_27, sz_28, sz_29, sz_30, sz_31, sz_32, sz_33, sz_34, sz_35, sz_36, sz_37, sz_38, sz_39, sz_40, e_eqi]
    split
    · simp only [e_svs_cons, e_svs_nil, e_sv_ife, e_sv_ret, e_sv_retN, e_sv_set, e_sv_setIx, e_sv_setLc, e_sv_app, e_sv_ex, e_sv_loop, e_sv_pass, e_ev_var, e_ev_lit, e_ev_glb, e_ev_gix, e_ev_bin, e_ev_neg, e_ev_not, w_and, w_or, QT2_bool, QB_bool, e_ev_one, e_ev_cmp, w_cmp2, e_ev_ife, e_ev_tup, e_mkT, e_ev_lst, e_ev_frz, e_ev_rev, e_ev_dct, e_ev_mcall, e_ev_callD, e_ev_callT, e_sv_tryS, e_sv_raise, e_tbv_ex, e_tbv_set, e_tbv_ife, e_tbv_exSet, e_sv_brk, e_sv_cont, wp_catch, e_evc_none, e_evc_some, e_ev_ix, e_ev_sl, e_ev_bi, e_ev_mx2, e_ev_isi, e_ev_call, e_ev_join, e_ev_lc, e_evs_nil, e_evs_cons, e_evo_none, e_evo_some, e_evi_seq, e_evi_rng1, e_evi_rng2, e_evi_enum, e_evi_zip, env0, varD, e_b_nm, e_b_tT, e_b_tL, e_b_nil, e_b_cons, wp_bind, wp_then, wp_ok, wp_truR, wp_finP, QF_nx, QF_rt, QE1_rt, QE1_nx, QT1_bool, List.map, List.length, List.replicate, List.getElem?_cons_zero, List.getElem?_cons_succ, List.set, Nat.reduceSub, List.cons_append, List.nil_append, Nat.reduceAdd, wp_ite, e_mkLT, tru_b, seqI_L, seqI_T, pures_p, pures_nil, Option.map_some, Option.bind_some, if_true, sz_0, sz_1, sz_2, sz_3, sz_4, sz_5, sz_6, sz_7, sz_8, sz_9, sz_10, sz_11, sz_12, sz_13, sz_14, sz_15, sz_16, sz_17, sz_18, sz_19, sz_20, sz_21, sz_22, sz_23, sz_24, sz_25, sz_26, sz_27, sz_28, sz_29, sz_30, sz_31, sz_32, sz_33, sz_34, sz_35, sz_36, sz_37, sz_38, sz_39, sz_40, pen_last, List.length_map, if_pos sz, pen_setLast, QN_nx]
      exact app _ _ _
    · simp only [e_svs_cons, e_svs_nil, e_sv_ife, e_sv_ret, e_sv_retN, e_sv_set, e_sv_setIx, e_sv_setLc, e_sv_app, e_sv_ex, e_sv_loop, e_sv_pass, e_ev_var, e_ev_lit, e_ev_glb, e_ev_gix, e_ev_bin, e_ev_neg, e_ev_not, w_and, w_or, QT2_bool, QB_bool, e_ev_one, e_ev_cmp, w_cmp2, e_ev_ife, e_ev_tup, e_mkT, e_ev_lst, e_ev_frz, e_ev_rev, e_ev_dct, e_ev_mcall, e_ev_callD, e_ev_callT, e_sv_tryS, e_sv_raise, e_tbv_ex, e_tbv_set, e_tbv_ife, e_tbv_exSet, e_sv_brk, e_sv_cont, wp_catch, e_evc_none, e_evc_some, e_ev_ix, e_ev_sl, e_ev_bi, e_ev_mx2, e_ev_isi, e_ev_call, e_ev_join, e_ev_lc, e_evs_nil, e_evs_cons, e_evo_none, e_evo_some, e_evi_seq, e_evi_rng1, e_evi_rng2, e_evi_enum, e_evi_zip, env0, varD, e_b_nm, e_b_tT, e_b_tL, e_b_nil, e_b_cons, wp_bind, wp_then, wp_ok, wp_truR, wp_finP, QF_nx, QF_rt, QE1_rt, QE1_nx, QT1_bool, List.map, List.length, List.replicate, List.getElem?_cons_zero, List.getElem?_cons_succ, List.set, Nat.reduceSub, List.cons_append, List.nil_append, Nat.reduceAdd, wp_ite, e_mkLT, tru_b, seqI_L, seqI_T, pures_p, pures_nil, Option.map_some, Option.bind_some, if_true, sz_0, sz_1, sz_2, sz_3, sz_4, sz_5, sz_6, sz_7, sz_8, sz_9, sz_10, sz_11, sz_12, sz_13, sz_14, sz_15, sz_16, sz_17, sz_18, sz_19, sz_20, sz_21, sz_22, sz_23, sz_24, sz_25, sz_26, sz_27, sz_28, sz_29, sz_30, sz_31, sz_32, sz_33, sz_34, sz_35, sz_36, sz_37, sz_38, sz_39, sz_40, m1, e_addCL (pen_last _ _ _ _ _) (show rs.length + [y].length ≤ 1000 by simp only [List.length_singleton]; omega)]
      refine fclash_is (k + 3) row1 (by simp; omega) (fun a b hf => ?_) (fun hf => ?_)
      · simp only [e_svs_cons, e_svs_nil, e_sv_ife, e_sv_ret, e_sv_retN, e_sv_set, e_sv_setIx, e_sv_setLc, e_sv_app, e_sv_ex, e_sv_loop, e_sv_pass, e_ev_var, e_ev_lit, e_ev_glb, e_ev_gix, e_ev_bin, e_ev_neg, e_ev_not, w_and, w_or, QT2_bool, QB_bool, e_ev_one, e_ev_cmp, w_cmp2, e_ev_ife, e_ev_tup, e_mkT, e_ev_lst, e_ev_frz, e_ev_rev, e_ev_dct, e_ev_mcall, e_ev_callD, e_ev_callT, e_sv_tryS, e_sv_raise, e_tbv_ex, e_tbv_set, e_tbv_ife, e_tbv_exSet, e_sv_brk, e_sv_cont, wp_catch, e_evc_none, e_evc_some, e_ev_ix, e_ev_sl, e_ev_bi, e_ev_mx2, e_ev_isi, e_ev_call, e_ev_join, e_ev_lc, e_evs_nil, e_evs_cons, e_evo_none, e_evo_some, e_evi_seq, e_evi_rng1, e_evi_rng2, e_evi_enum, e_evi_zip, env0, varD, e_b_nm, e_b_tT, e_b_tL, e_b_nil, e_b_cons, wp_bind, wp_then, wp_ok, wp_truR, wp_finP, QF_nx, QF_rt, QE1_rt, QE1_nx, QT1_bool, List.map, List.length, List.replicate, List.getElem?_cons_zero, List.getElem?_cons_succ, List.set, Nat.reduceSub, List.cons_append, List.nil_append, Nat.reduceAdd, wp_ite, e_mkLT, tru_b, seqI_L, seqI_T, pures_p, pures_nil, Option.map_some, Option.bind_some, if_true, sz_0, sz_1, sz_2, sz_3, sz_4, sz_5, sz_6, sz_7, sz_8, sz_9, sz_10, sz_11, sz_12, sz_13, sz_14, sz_15, sz_16, sz_17, sz_18, sz_19, sz_20, sz_21, sz_22, sz_23, sz_24, sz_25, sz_26, sz_27, sz_28, sz_29, sz_30, sz_31, sz_32, sz_33, sz_34, sz_35, sz_36, sz_37, sz_38, sz_39, sz_40, e_isN, show isC .none (D.p (.tuple [.int (a : Nat), .int (b : Nat)])) = false from rfl, Bool.false_eq_true, if_false]
        refine take_then (k + 3) (by decide) (by decide) fun c i5 u5 c0 c1 => ?_
        simp only [e_svs_cons, e_svs_nil, e_sv_ife, e_sv_ret, e_sv_retN, e_sv_set, e_sv_setIx, e_sv_setLc, e_sv_app, e_sv_ex, e_sv_loop, e_sv_pass, e_ev_var, e_ev_lit, e_ev_glb, e_ev_gix, e_ev_bin, e_ev_neg, e_ev_not, w_and, w_or, QT2_bool, QB_bool, e_ev_one, e_ev_cmp, w_cmp2, e_ev_ife, e_ev_tup, e_mkT, e_ev_lst, e_ev_frz, e_ev_rev, e_ev_dct, e_ev_mcall, e_ev_callD, e_ev_callT, e_sv_tryS, e_sv_raise, e_tbv_ex, e_tbv_set, e_tbv_ife, e_tbv_exSet, e_sv_brk, e_sv_cont, wp_catch, e_evc_none, e_evc_some, e_ev_ix, e_ev_sl, e_ev_bi, e_ev_mx2, e_ev_isi, e_ev_call, e_ev_join, e_ev_lc, e_evs_nil, e_evs_cons, e_evo_none, e_evo_some, e_evi_seq, e_evi_rng1, e_evi_rng2, e_evi_enum, e_evi_zip, env0, varD, e_b_nm, e_b_tT, e_b_tL, e_b_nil, e_b_cons, wp_bind, wp_then, wp_ok, wp_truR, wp_finP, QF_nx, QF_rt, QE1_rt, QE1_nx, QT1_bool, List.map, List.length, List.replicate, List.getElem?_cons_zero, List.getElem?_cons_succ, List.set, Nat.reduceSub, List.cons_append, List.nil_append, Nat.reduceAdd, wp_ite, e_mkLT, tru_b, seqI_L, seqI_T, pures_p, pures_nil, Option.map_some, Option.bind_some, if_true, sz_0, sz_1, sz_2, sz_3, sz_4, sz_5, sz_6, sz_7, sz_8, sz_9, sz_10, sz_11, sz_12, sz_13, sz_14, sz_15, sz_16, sz_17, sz_18, sz_19, sz_20, sz_21, sz_22, sz_23, sz_24, sz_25, sz_26, sz_27, sz_28, sz_29, sz_30, sz_31, sz_32, sz_33, sz_34, sz_35, sz_36, sz_37, sz_38, sz_39, sz_40, e_eqi]
        split
        · simp only [e_svs_cons, e_svs_nil, e_sv_ife, e_sv_ret, e_sv_retN, e_sv_set, e_sv_setIx, e_sv_setLc, e_sv_app, e_sv_ex, e_sv_loop, e_sv_pass, e_ev_var, e_ev_lit, e_ev_glb, e_ev_gix, e_ev_bin, e_ev_neg, e_ev_not, w_and, w_or, QT2_bool, QB_bool, e_ev_one, e_ev_cmp, w_cmp2, e_ev_ife, e_ev_tup, e_mkT, e_ev_lst, e_ev_frz, e_ev_rev, e_ev_dct, e_ev_mcall, e_ev_callD, e_ev_callT, e_sv_tryS, e_sv_raise, e_tbv_ex, e_tbv_set, e_tbv_ife, e_tbv_exSet, e_sv_brk, e_sv_cont, wp_catch, e_evc_none, e_evc_some, e_ev_ix, e_ev_sl, e_ev_bi, e_ev_mx2, e_ev_isi, e_ev_call, e_ev_join, e_ev_lc, e_evs_nil, e_evs_cons, e_evo_none, e_evo_some, e_evi_seq, e_evi_rng1, e_evi_rng2, e_evi_enum, e_evi_zip, env0, varD, e_b_nm, e_b_tT, e_b_tL, e_b_nil, e_b_cons, wp_bind, wp_then, wp_ok, wp_truR, wp_finP, QF_nx, QF_rt, QE1_rt, QE1_nx, QT1_bool, List.map, List.length, List.replicate, List.getElem?_cons_zero, List.getElem?_cons_succ, List.set, Nat.reduceSub, List.cons_append, List.nil_append, Nat.reduceAdd, wp_ite, e_mkLT, tru_b, seqI_L, seqI_T, pures_p, pures_nil, Option.map_some, Option.bind_some, if_true, sz_0, sz_1, sz_2, sz_3, sz_4, sz_5, sz_6, sz_7, sz_8, sz_9, sz_10, sz_11, sz_12, sz_13, sz_14, sz_15, sz_16, sz_17, sz_18, sz_19, sz_20, sz_21, sz_22, sz_23, sz_24, sz_25, sz_26, sz_27, sz_28, sz_29, sz_30, sz_31, sz_32, sz_33, sz_34, sz_35, sz_36, sz_37, sz_38, sz_39, sz_40, pen_last, List.length_map, if_pos sz, pen_setLast, QN_nx]
          exact app _ _ _
        · simp only [e_svs_cons, e_svs_nil, e_sv_ife, e_sv_ret, e_sv_retN, e_sv_set, e_sv_setIx, e_sv_setLc, e_sv_app, e_sv_ex, e_sv_loop, e_sv_pass, e_ev_var, e_ev_lit, e_ev_glb, e_ev_gix, e_ev_bin, e_ev_neg, e_ev_not, w_and, w_or, QT2_bool, QB_bool, e_ev_one, e_ev_cmp, w_cmp2, e_ev_ife, e_ev_tup, e_mkT, e_ev_lst, e_ev_frz, e_ev_rev, e_ev_dct, e_ev_mcall, e_ev_callD, e_ev_callT, e_sv_tryS, e_sv_raise, e_tbv_ex, e_tbv_set, e_tbv_ife, e_tbv_exSet, e_sv_brk, e_sv_cont, wp_catch, e_evc_none, e_evc_some, e_ev_ix, e_ev_sl, e_ev_bi, e_ev_mx2, e_ev_isi, e_ev_call, e_ev_join, e_ev_lc, e_evs_nil, e_evs_cons, e_evo_none, e_evo_some, e_evi_seq, e_evi_rng1, e_evi_rng2, e_evi_enum, e_evi_zip, env0, varD, e_b_nm, e_b_tT, e_b_tL, e_b_nil, e_b_cons, wp_bind, wp_then, wp_ok, wp_truR, wp_finP, QF_nx, QF_rt, QE1_rt, QE1_nx, QT1_bool, List.map, List.length, List.replicate, List.getElem?_cons_zero, List.getElem?_cons_succ, List.set, Nat.reduceSub, List.cons_append, List.nil_append, Nat.reduceAdd, wp_ite, e_mkLT, tru_b, seqI_L, seqI_T, pures_p, pures_nil, Option.map_some, Option.bind_some, if_true, sz_0, sz_1, sz_2, sz_3, sz_4, sz_5, sz_6, sz_7, sz_8, sz_9, sz_10, sz_11, sz_12, sz_13, sz_14, sz_15, sz_16, sz_17, sz_18, sz_19, sz_20, sz_21, sz_22, sz_23, sz_24, sz_25, sz_26, sz_27, sz_28, sz_29, sz_30, sz_31, sz_32, sz_33, sz_34, sz_35, sz_36, sz_37, sz_38, sz_39, sz_40, QN_nx]
          exact skip _ _ _
      · simp only [e_svs_cons, e_svs_nil, e_sv_ife, e_sv_ret, e_sv_retN, e_sv_set, e_sv_setIx, e_sv_setLc, e_sv_app, e_sv_ex, e_sv_loop, e_sv_pass, e_ev_var, e_ev_lit, e_ev_glb, e_ev_gix, e_ev_bin, e_ev_neg, e_ev_not, w_and, w_or, QT2_bool, QB_bool, e_ev_one, e_ev_cmp, w_cmp2, e_ev_ife, e_ev_tup, e_mkT, e_ev_lst, e_ev_frz, e_ev_rev, e_ev_dct, e_ev_mcall, e_ev_callD, e_ev_callT, e_sv_tryS, e_sv_raise, e_tbv_ex, e_tbv_set, e_tbv_ife, e_tbv_exSet, e_sv_brk, e_sv_cont, wp_catch, e_evc_none, e_evc_some, e_ev_ix, e_ev_sl, e_ev_bi, e_ev_mx2, e_ev_isi, e_ev_call, e_ev_join, e_ev_lc, e_evs_nil, e_evs_cons, e_evo_none, e_evo_some, e_evi_seq, e_evi_rng1, e_evi_rng2, e_evi_enum, e_evi_zip, env0, varD, e_b_nm, e_b_tT, e_b_tL, e_b_nil, e_b_cons, wp_bind, wp_then, wp_ok, wp_truR, wp_finP, QF_nx, QF_rt, QE1_rt, QE1_nx, QT1_bool, List.map, List.length, List.replicate, List.getElem?_cons_zero, List.getElem?_cons_succ, List.set, Nat.reduceSub, List.cons_append, List.nil_append, Nat.reduceAdd, wp_ite, e_mkLT, tru_b, seqI_L, seqI_T, pures_p, pures_nil, Option.map_some, Option.bind_some, if_true, sz_0, sz_1, sz_2, sz_3, sz_4, sz_5, sz_6, sz_7, sz_8, sz_9, sz_10, sz_11, sz_12, sz_13, sz_14, sz_15, sz_16, sz_17, sz_18, sz_19, sz_20, sz_21, sz_22, sz_23, sz_24, sz_25, sz_26, sz_27, sz_28, sz_29, sz_30, sz_31, sz_32, sz_33, sz_34, sz_35, sz_36, sz_37, sz_38, sz_39, sz_40, e_isN, show isC .none (D.p .none) = true from rfl, pen_last, List.length_map, if_pos sz, pen_setLast, QN_nx]
        exact app _ _ _
  · obtain ⟨rs, i, u, x4, x5, h1, h2, rfl, rfl⟩ := hi
    simp only [List.length_map, List.length_range] at h2
    rw [QF_nx]
    exact s3 rs i u _ _ _ (fun x hx => (h1 x hx).tg hh) (by omega)
theorem clo_pen {cs : List Int} {i : Nat} {u : Int} {ex : Store} (h : OkEx ex) : Clo (pen cs i u ++ ex) := by
  unfold Clo
  rw [pen_len, List.all_append, Bool.and_eq_true]
  refine ⟨?_, h⟩
  have : 0 < 2 + ex.length := by omega
  simp [pen, cellBelow, dBelow, this]
theorem house_a : House "a" := ⟨by decide, by decide, fun c hc => by
  have : c = 97 := by
    have e : ("a" : Str).cps.toList = [97] := by decide +kernel
    rw [e] at hc
    exact List.mem_singleton.mp hc
  subst this
  exact ⟨by decide, by decide⟩⟩
theorem run_law (ns : List Int) (hl : ns.length ≤ 63) : ∃ st, semK defs 61 33 [.p (.list (ns.map .int))] [] = .ok (.p (.bool true)) st := by
  have key : wpe NoX (semK defs 61 33 [.p (.list (ns.map .int))] []) fun d _ => d = .p (.bool true) := by
    refine wp_sem (k := 60) (d := d33) rfl rfl ?_
    simp only [d33, b33, e_svs_cons, e_svs_nil, e_sv_ife, e_sv_ret, e_sv_retN, e_sv_set, e_sv_setIx, e_sv_setLc, e_sv_app, e_sv_ex, e_sv_loop, e_sv_pass, e_ev_var, e_ev_lit, e_ev_glb, e_ev_gix, e_ev_bin, e_ev_neg, e_ev_not, w_and, w_or, QT2_bool, QB_bool, e_ev_one, e_ev_cmp, w_cmp2, e_ev_ife, e_ev_tup, e_mkT, e_ev_lst, e_ev_frz, e_ev_rev, e_ev_dct, e_ev_mcall, e_ev_callD, e_ev_callT, e_sv_tryS, e_sv_raise, e_tbv_ex, e_tbv_set, e_tbv_ife, e_tbv_exSet, e_sv_brk, e_sv_cont, wp_catch, e_evc_none, e_evc_some, e_ev_ix, e_ev_sl, e_ev_bi, e_ev_mx2, e_ev_isi, e_ev_call, e_ev_join, e_ev_lc, e_evs_nil, e_evs_cons, e_evo_none, e_evo_some, e_evi_seq, e_evi_rng1, e_evi_rng2, e_evi_enum, e_evi_zip, env0, varD, e_b_nm, e_b_tT, e_b_tL, e_b_nil, e_b_cons, wp_bind, wp_then, wp_ok, wp_truR, wp_finP, QF_nx, QF_rt, QE1_rt, QE1_nx, QT1_bool, List.map, List.length, List.replicate, List.getElem?_cons_zero, List.getElem?_cons_succ, List.set, Nat.reduceSub, List.cons_append, List.nil_append, Nat.reduceAdd, wp_ite, e_mkLT, tru_b, seqI_L, seqI_T, pures_p, pures_nil, Option.map_some, Option.bind_some, if_true, sz_0, sz_1, sz_2, sz_3, sz_4, sz_5, sz_6, sz_7, sz_8, sz_9, sz_10, sz_11, sz_12, sz_13, sz_14, sz_15, sz_16, sz_17, sz_18, sz_19, sz_20, sz_21, sz_22, sz_23, sz_24, sz_25, sz_26, sz_27, sz_28, sz_29, sz_30, sz_31, sz_32, sz_33, sz_34, sz_35, sz_36, sz_37, sz_38, sz_39, sz_40]
    refine wp_mono (open_ok 59 ns) ?_
    rintro _ _ ⟨cs, rfl, rfl⟩
    simp only [e_svs_cons, e_svs_nil, e_sv_ife, e_sv_ret, e_sv_retN, e_sv_set, e_sv_setIx, e_sv_setLc, e_sv_app, e_sv_ex, e_sv_loop, e_sv_pass, e_ev_var, e_ev_lit, e_ev_glb, e_ev_gix, e_ev_bin, e_ev_neg, e_ev_not, w_and, w_or, QT2_bool, QB_bool, e_ev_one, e_ev_cmp, w_cmp2, e_ev_ife, e_ev_tup, e_mkT, e_ev_lst, e_ev_frz, e_ev_rev, e_ev_dct, e_ev_mcall, e_ev_callD, e_ev_callT, e_sv_tryS, e_sv_raise, e_tbv_ex, e_tbv_set, e_tbv_ife, e_tbv_exSet, e_sv_brk, e_sv_cont, wp_catch, e_evc_none, e_evc_some, e_ev_ix, e_ev_sl, e_ev_bi, e_ev_mx2, e_ev_isi, e_ev_call, e_ev_join, e_ev_lc, e_evs_nil, e_evs_cons, e_evo_none, e_evo_some, e_evi_seq, e_evi_rng1, e_evi_rng2, e_evi_enum, e_evi_zip, env0, varD, e_b_nm, e_b_tT, e_b_tL, e_b_nil, e_b_cons, wp_bind, wp_then, wp_ok, wp_truR, wp_finP, QF_nx, QF_rt, QE1_rt, QE1_nx, QT1_bool, List.map, List.length, List.replicate, List.getElem?_cons_zero, List.getElem?_cons_succ, List.set, Nat.reduceSub, List.cons_append, List.nil_append, Nat.reduceAdd, wp_ite, e_mkLT, tru_b, seqI_L, seqI_T, pures_p, pures_nil, Option.map_some, Option.bind_some, if_true, sz_0, sz_1, sz_2, sz_3, sz_4, sz_5, sz_6, sz_7, sz_8, sz_9, sz_10, sz_11, sz_12, sz_13, sz_14, sz_15, sz_16, sz_17, sz_18, sz_19, sz_20, sz_21, sz_22, sz_23, sz_24, sz_25, sz_26, sz_27, sz_28, sz_29, sz_30, sz_31, sz_32, sz_33, sz_34, sz_35, sz_36, sz_37, sz_38, sz_39, sz_40, show (8 : Int) = ((8 : Nat) : Int) from rfl, e_rng0 8 (by decide)]
    have nil0 : OkEx [] := rfl
    refine wp_for0 (fun j env st => ∃ (i : Nat) (u : Int) (x2 x3 x4 x5 x6 : Option D), st = pen cs i u ++ [] ∧ env = [some (.p (.list (ns.map .int))), some (.c 1), x2, x3, x4, x5, x6])
      ⟨0, 0, none, none, none, none, none, rfl, rfl⟩ (fun _ _ _ _ => trivial) (fun j hj env st h => ?_) (fun env st h => ?_)
    · obtain ⟨i, u, x2, x3, x4, x5, x6, rfl, rfl⟩ := h
      refine ⟨_, by rw [List.getElem_map]; rfl, ?_⟩
      try simp only [e_svs_cons, e_svs_nil, e_sv_ife, e_sv_ret, e_sv_retN, e_sv_set, e_sv_setIx, e_sv_setLc, e_sv_app, e_sv_ex, e_sv_loop, e_sv_pass, e_ev_var, e_ev_lit, e_ev_glb, e_ev_gix, e_ev_bin, e_ev_neg, e_ev_not, w_and, w_or, QT2_bool, QB_bool, e_ev_one, e_ev_cmp, w_cmp2, e_ev_ife, e_ev_tup, e_mkT, e_ev_lst, e_ev_frz, e_ev_rev, e_ev_dct, e_ev_mcall, e_ev_callD, e_ev_callT, e_sv_tryS, e_sv_raise, e_tbv_ex, e_tbv_set, e_tbv_ife, e_tbv_exSet, e_sv_brk, e_sv_cont, wp_catch, e_evc_none, e_evc_some, e_ev_ix, e_ev_sl, e_ev_bi, e_ev_mx2, e_ev_isi, e_ev_call, e_ev_join, e_ev_lc, e_evs_nil, e_evs_cons, e_evo_none, e_evo_some, e_evi_seq, e_evi_rng1, e_evi_rng2, e_evi_enum, e_evi_zip, env0, varD, e_b_nm, e_b_tT, e_b_tL, e_b_nil, e_b_cons, wp_bind, wp_then, wp_ok, wp_truR, wp_finP, QF_nx, QF_rt, QE1_rt, QE1_nx, QT1_bool, List.map, List.length, List.replicate, List.getElem?_cons_zero, List.getElem?_cons_succ, List.set, Nat.reduceSub, List.cons_append, List.nil_append, Nat.reduceAdd, wp_ite, e_mkLT, tru_b, seqI_L, seqI_T, pures_p, pures_nil, Option.map_some, Option.bind_some, if_true, sz_0, sz_1, sz_2, sz_3, sz_4, sz_5, sz_6, sz_7, sz_8, sz_9, sz_10, sz_11, sz_12, sz_13, sz_14, sz_15, sz_16, sz_17, sz_18, sz_19, sz_20, sz_21, sz_22, sz_23, sz_24, sz_25, sz_26, sz_27, sz_28, sz_29, sz_30, sz_31, sz_32, sz_33, sz_34, sz_35, sz_36, sz_37, sz_38, sz_39, sz_40]
      refine wp_mono (anew_ok 59) ?_
      rintro _ _ ⟨rfl, rfl⟩
      refine wp_mono (town_ok (ex := []) 56 3 (by decide) (by decide) nil0) ?_
      rintro _ _ ⟨hs, gs, i1, u1, T, rfl, rfl⟩
      try simp only [e_svs_cons, e_svs_nil, e_sv_ife, e_sv_ret, e_sv_retN, e_sv_set, e_sv_setIx, e_sv_setLc, e_sv_app, e_sv_ex, e_sv_loop, e_sv_pass, e_ev_var, e_ev_lit, e_ev_glb, e_ev_gix, e_ev_bin, e_ev_neg, e_ev_not, w_and, w_or, QT2_bool, QB_bool, e_ev_one, e_ev_cmp, w_cmp2, e_ev_ife, e_ev_tup, e_mkT, e_ev_lst, e_ev_frz, e_ev_rev, e_ev_dct, e_ev_mcall, e_ev_callD, e_ev_callT, e_sv_tryS, e_sv_raise, e_tbv_ex, e_tbv_set, e_tbv_ife, e_tbv_exSet, e_sv_brk, e_sv_cont, wp_catch, e_evc_none, e_evc_some, e_ev_ix, e_ev_sl, e_ev_bi, e_ev_mx2, e_ev_isi, e_ev_call, e_ev_join, e_ev_lc, e_evs_nil, e_evs_cons, e_evo_none, e_evo_some, e_evi_seq, e_evi_rng1, e_evi_rng2, e_evi_enum, e_evi_zip, env0, varD, e_b_nm, e_b_tT, e_b_tL, e_b_nil, e_b_cons, wp_bind, wp_then, wp_ok, wp_truR, wp_finP, QF_nx, QF_rt, QE1_rt, QE1_nx, QT1_bool, List.map, List.length, List.replicate, List.getElem?_cons_zero, List.getElem?_cons_succ, List.set, Nat.reduceSub, List.cons_append, List.nil_append, Nat.reduceAdd, wp_ite, e_mkLT, tru_b, seqI_L, seqI_T, pures_p, pures_nil, Option.map_some, Option.bind_some, if_true, sz_0, sz_1, sz_2, sz_3, sz_4, sz_5, sz_6, sz_7, sz_8, sz_9, sz_10, sz_11, sz_12, sz_13, sz_14, sz_15, sz_16, sz_17, sz_18, sz_19, sz_20, sz_21, sz_22, sz_23, sz_24, sz_25, sz_26, sz_27, sz_28, sz_29, sz_30, sz_31, sz_32, sz_33, sz_34, sz_35, sz_36, sz_37, sz_38, sz_39, sz_40]
      refine list_then 54 T (by decide) nil0 fun rs i2 u2 h1 h2 => ?_
      have hc : Clo (pen cs i2 u2 ++ []) := clo_pen nil0
      have hz : rs.length ≤ 1000 := by omega
      have hth : ∀ x ∈ rs, Th x := fun x hx => (h1 x hx).th
      have hd : min (PyData.list rs).depth (PyData.list rs).depth ≤ 64 := Nat.le_trans (Nat.min_le_left _ _) (Nat.le_trans (depth_l fun y hy => (h1 y hy).dp) (by decide))
      have hself : PyData.eqv (.list rs) (.list rs) = true := eqv_self (plain_l fun y hy => (hth y hy).pl)
      simp only [e_svs_cons, e_svs_nil, e_sv_ife, e_sv_ret, e_sv_retN, e_sv_set, e_sv_setIx, e_sv_setLc, e_sv_app, e_sv_ex, e_sv_loop, e_sv_pass, e_ev_var, e_ev_lit, e_ev_glb, e_ev_gix, e_ev_bin, e_ev_neg, e_ev_not, w_and, w_or, QT2_bool, QB_bool, e_ev_one, e_ev_cmp, w_cmp2, e_ev_ife, e_ev_tup, e_mkT, e_ev_lst, e_ev_frz, e_ev_rev, e_ev_dct, e_ev_mcall, e_ev_callD, e_ev_callT, e_sv_tryS, e_sv_raise, e_tbv_ex, e_tbv_set, e_tbv_ife, e_tbv_exSet, e_sv_brk, e_sv_cont, wp_catch, e_evc_none, e_evc_some, e_ev_ix, e_ev_sl, e_ev_bi, e_ev_mx2, e_ev_isi, e_ev_call, e_ev_join, e_ev_lc, e_evs_nil, e_evs_cons, e_evo_none, e_evo_some, e_evi_seq, e_evi_rng1, e_evi_rng2, e_evi_enum, e_evi_zip, env0, varD, e_b_nm, e_b_tT, e_b_tL, e_b_nil, e_b_cons, wp_bind, wp_then, wp_ok, wp_truR, wp_finP, QF_nx, QF_rt, QE1_rt, QE1_nx, QT1_bool, List.map, List.length, List.replicate, List.getElem?_cons_zero, List.getElem?_cons_succ, List.set, Nat.reduceSub, List.cons_append, List.nil_append, Nat.reduceAdd, wp_ite, e_mkLT, tru_b, seqI_L, seqI_T, pures_p, pures_nil, Option.map_some, Option.bind_some, if_true, sz_0, sz_1, sz_2, sz_3, sz_4, sz_5, sz_6, sz_7, sz_8, sz_9, sz_10, sz_11, sz_12, sz_13, sz_14, sz_15, sz_16, sz_17, sz_18, sz_19, sz_20, sz_21, sz_22, sz_23, sz_24, sz_25, sz_26, sz_27, sz_28, sz_29, sz_30, sz_31, sz_32, sz_33, sz_34, sz_35, sz_36, sz_37, sz_38, sz_39, sz_40, e_listPL, show (2 : Int) = ((2 : Nat) : Int) from rfl, e_rng0 2 (by decide)]
      refine wp_for0 (fun _ env st => st = pen cs i2 u2 ++ [] ∧ ∃ (x2 x6 : Option D), env = [some (.p (.list (ns.map .int))), some (.c 1), x2, some (.p (townD hs gs)), some (.p (.list rs)), some (.p (.list rs)), x6])
        ⟨rfl, _, _, rfl⟩ (fun _ _ _ _ => trivial) (fun a ha env st h => ?_) (fun env st h => ?_)
      · obtain ⟨rfl, x2, x6, rfl⟩ := h
        refine ⟨_, by rw [List.getElem_map]; rfl, ?_⟩
        try simp only [e_svs_cons, e_svs_nil, e_sv_ife, e_sv_ret, e_sv_retN, e_sv_set, e_sv_setIx, e_sv_setLc, e_sv_app, e_sv_ex, e_sv_loop, e_sv_pass, e_ev_var, e_ev_lit, e_ev_glb, e_ev_gix, e_ev_bin, e_ev_neg, e_ev_not, w_and, w_or, QT2_bool, QB_bool, e_ev_one, e_ev_cmp, w_cmp2, e_ev_ife, e_ev_tup, e_mkT, e_ev_lst, e_ev_frz, e_ev_rev, e_ev_dct, e_ev_mcall, e_ev_callD, e_ev_callT, e_sv_tryS, e_sv_raise, e_tbv_ex, e_tbv_set, e_tbv_ife, e_tbv_exSet, e_sv_brk, e_sv_cont, wp_catch, e_evc_none, e_evc_some, e_ev_ix, e_ev_sl, e_ev_bi, e_ev_mx2, e_ev_isi, e_ev_call, e_ev_join, e_ev_lc, e_evs_nil, e_evs_cons, e_evo_none, e_evo_some, e_evi_seq, e_evi_rng1, e_evi_rng2, e_evi_enum, e_evi_zip, env0, varD, e_b_nm, e_b_tT, e_b_tL, e_b_nil, e_b_cons, wp_bind, wp_then, wp_ok, wp_truR, wp_finP, QF_nx, QF_rt, QE1_rt, QE1_nx, QT1_bool, List.map, List.length, List.replicate, List.getElem?_cons_zero, List.getElem?_cons_succ, List.set, Nat.reduceSub, List.cons_append, List.nil_append, Nat.reduceAdd, wp_ite, e_mkLT, tru_b, seqI_L, seqI_T, pures_p, pures_nil, Option.map_some, Option.bind_some, if_true, sz_0, sz_1, sz_2, sz_3, sz_4, sz_5, sz_6, sz_7, sz_8, sz_9, sz_10, sz_11, sz_12, sz_13, sz_14, sz_15, sz_16, sz_17, sz_18, sz_19, sz_20, sz_21, sz_22, sz_23, sz_24, sz_25, sz_26, sz_27, sz_28, sz_29, sz_30, sz_31, sz_32, sz_33, sz_34, sz_35, sz_36, sz_37, sz_38, sz_39, sz_40]
        refine told_is 54 T.house hth hz hc ?_
        try simp only [e_svs_cons, e_svs_nil, e_sv_ife, e_sv_ret, e_sv_retN, e_sv_set, e_sv_setIx, e_sv_setLc, e_sv_app, e_sv_ex, e_sv_loop, e_sv_pass, e_ev_var, e_ev_lit, e_ev_glb, e_ev_gix, e_ev_bin, e_ev_neg, e_ev_not, w_and, w_or, QT2_bool, QB_bool, e_ev_one, e_ev_cmp, w_cmp2, e_ev_ife, e_ev_tup, e_mkT, e_ev_lst, e_ev_frz, e_ev_rev, e_ev_dct, e_ev_mcall, e_ev_callD, e_ev_callT, e_sv_tryS, e_sv_raise, e_tbv_ex, e_tbv_set, e_tbv_ife, e_tbv_exSet, e_sv_brk, e_sv_cont, wp_catch, e_evc_none, e_evc_some, e_ev_ix, e_ev_sl, e_ev_bi, e_ev_mx2, e_ev_isi, e_ev_call, e_ev_join, e_ev_lc, e_evs_nil, e_evs_cons, e_evo_none, e_evo_some, e_evi_seq, e_evi_rng1, e_evi_rng2, e_evi_enum, e_evi_zip, env0, varD, e_b_nm, e_b_tT, e_b_tL, e_b_nil, e_b_cons, wp_bind, wp_then, wp_ok, wp_truR, wp_finP, QF_nx, QF_rt, QE1_rt, QE1_nx, QT1_bool, List.map, List.length, List.replicate, List.getElem?_cons_zero, List.getElem?_cons_succ, List.set, Nat.reduceSub, List.cons_append, List.nil_append, Nat.reduceAdd, wp_ite, e_mkLT, tru_b, seqI_L, seqI_T, pures_p, pures_nil, Option.map_some, Option.bind_some, if_true, sz_0, sz_1, sz_2, sz_3, sz_4, sz_5, sz_6, sz_7, sz_8, sz_9, sz_10, sz_11, sz_12, sz_13, sz_14, sz_15, sz_16, sz_17, sz_18, sz_19, sz_20, sz_21, sz_22, sz_23, sz_24, sz_25, sz_26, sz_27, sz_28, sz_29, sz_30, sz_31, sz_32, sz_33, sz_34, sz_35, sz_36, sz_37, sz_38, sz_39, sz_40]
        refine due_is 57 hth hz hc ?_
        try simp only [e_svs_cons, e_svs_nil, e_sv_ife, e_sv_ret, e_sv_retN, e_sv_set, e_sv_setIx, e_sv_setLc, e_sv_app, e_sv_ex, e_sv_loop, e_sv_pass, e_ev_var, e_ev_lit, e_ev_glb, e_ev_gix, e_ev_bin, e_ev_neg, e_ev_not, w_and, w_or, QT2_bool, QB_bool, e_ev_one, e_ev_cmp, w_cmp2, e_ev_ife, e_ev_tup, e_mkT, e_ev_lst, e_ev_frz, e_ev_rev, e_ev_dct, e_ev_mcall, e_ev_callD, e_ev_callT, e_sv_tryS, e_sv_raise, e_tbv_ex, e_tbv_set, e_tbv_ife, e_tbv_exSet, e_sv_brk, e_sv_cont, wp_catch, e_evc_none, e_evc_some, e_ev_ix, e_ev_sl, e_ev_bi, e_ev_mx2, e_ev_isi, e_ev_call, e_ev_join, e_ev_lc, e_evs_nil, e_evs_cons, e_evo_none, e_evo_some, e_evi_seq, e_evi_rng1, e_evi_rng2, e_evi_enum, e_evi_zip, env0, varD, e_b_nm, e_b_tT, e_b_tL, e_b_nil, e_b_cons, wp_bind, wp_then, wp_ok, wp_truR, wp_finP, QF_nx, QF_rt, QE1_rt, QE1_nx, QT1_bool, List.map, List.length, List.replicate, List.getElem?_cons_zero, List.getElem?_cons_succ, List.set, Nat.reduceSub, List.cons_append, List.nil_append, Nat.reduceAdd, wp_ite, e_mkLT, tru_b, seqI_L, seqI_T, pures_p, pures_nil, Option.map_some, Option.bind_some, if_true, sz_0, sz_1, sz_2, sz_3, sz_4, sz_5, sz_6, sz_7, sz_8, sz_9, sz_10, sz_11, sz_12, sz_13, sz_14, sz_15, sz_16, sz_17, sz_18, sz_19, sz_20, sz_21, sz_22, sz_23, sz_24, sz_25, sz_26, sz_27, sz_28, sz_29, sz_30, sz_31, sz_32, sz_33, sz_34, sz_35, sz_36, sz_37, sz_38, sz_39, sz_40]
        obtain ⟨vs, ev, hv⟩ := due_flat hs rs
        rw [ev]
        refine same_list 58 hv ?_
        simp only [e_svs_cons, e_svs_nil, e_sv_ife, e_sv_ret, e_sv_retN, e_sv_set, e_sv_setIx, e_sv_setLc, e_sv_app, e_sv_ex, e_sv_loop, e_sv_pass, e_ev_var, e_ev_lit, e_ev_glb, e_ev_gix, e_ev_bin, e_ev_neg, e_ev_not, w_and, w_or, QT2_bool, QB_bool, e_ev_one, e_ev_cmp, w_cmp2, e_ev_ife, e_ev_tup, e_mkT, e_ev_lst, e_ev_frz, e_ev_rev, e_ev_dct, e_ev_mcall, e_ev_callD, e_ev_callT, e_sv_tryS, e_sv_raise, e_tbv_ex, e_tbv_set, e_tbv_ife, e_tbv_exSet, e_sv_brk, e_sv_cont, wp_catch, e_evc_none, e_evc_some, e_ev_ix, e_ev_sl, e_ev_bi, e_ev_mx2, e_ev_isi, e_ev_call, e_ev_join, e_ev_lc, e_evs_nil, e_evs_cons, e_evo_none, e_evo_some, e_evi_seq, e_evi_rng1, e_evi_rng2, e_evi_enum, e_evi_zip, env0, varD, e_b_nm, e_b_tT, e_b_tL, e_b_nil, e_b_cons, wp_bind, wp_then, wp_ok, wp_truR, wp_finP, QF_nx, QF_rt, QE1_rt, QE1_nx, QT1_bool, List.map, List.length, List.replicate, List.getElem?_cons_zero, List.getElem?_cons_succ, List.set, Nat.reduceSub, List.cons_append, List.nil_append, Nat.reduceAdd, wp_ite, e_mkLT, tru_b, seqI_L, seqI_T, pures_p, pures_nil, Option.map_some, Option.bind_some, if_true, sz_0, sz_1, sz_2, sz_3, sz_4, sz_5, sz_6, sz_7, sz_8, sz_9, sz_10, sz_11, sz_12, sz_13, sz_14, sz_15, sz_16, sz_17, sz_18, sz_19, sz_20, sz_21, sz_22, sz_23, sz_24, sz_25, sz_26, sz_27, sz_28, sz_29, sz_30, sz_31, sz_32, sz_33, sz_34, sz_35, sz_36, sz_37, sz_38, sz_39, sz_40, Bool.not_true, Bool.false_eq_true, if_false, e_neX hd, hself, QN_nx]
        exact ⟨trivial, _, _, rfl⟩
      · obtain ⟨rfl, x2, x6, rfl⟩ := h
        simp only [e_svs_cons, e_svs_nil, e_sv_ife, e_sv_ret, e_sv_retN, e_sv_set, e_sv_setIx, e_sv_setLc, e_sv_app, e_sv_ex, e_sv_loop, e_sv_pass, e_ev_var, e_ev_lit, e_ev_glb, e_ev_gix, e_ev_bin, e_ev_neg, e_ev_not, w_and, w_or, QT2_bool, QB_bool, e_ev_one, e_ev_cmp, w_cmp2, e_ev_ife, e_ev_tup, e_mkT, e_ev_lst, e_ev_frz, e_ev_rev, e_ev_dct, e_ev_mcall, e_ev_callD, e_ev_callT, e_sv_tryS, e_sv_raise, e_tbv_ex, e_tbv_set, e_tbv_ife, e_tbv_exSet, e_sv_brk, e_sv_cont, wp_catch, e_evc_none, e_evc_some, e_ev_ix, e_ev_sl, e_ev_bi, e_ev_mx2, e_ev_isi, e_ev_call, e_ev_join, e_ev_lc, e_evs_nil, e_evs_cons, e_evo_none, e_evo_some, e_evi_seq, e_evi_rng1, e_evi_rng2, e_evi_enum, e_evi_zip, env0, varD, e_b_nm, e_b_tT, e_b_tL, e_b_nil, e_b_cons, wp_bind, wp_then, wp_ok, wp_truR, wp_finP, QF_nx, QF_rt, QE1_rt, QE1_nx, QT1_bool, List.map, List.length, List.replicate, List.getElem?_cons_zero, List.getElem?_cons_succ, List.set, Nat.reduceSub, List.cons_append, List.nil_append, Nat.reduceAdd, wp_ite, e_mkLT, tru_b, seqI_L, seqI_T, pures_p, pures_nil, Option.map_some, Option.bind_some, if_true, sz_0, sz_1, sz_2, sz_3, sz_4, sz_5, sz_6, sz_7, sz_8, sz_9, sz_10, sz_11, sz_12, sz_13, sz_14, sz_15, sz_16, sz_17, sz_18, sz_19, sz_20, sz_21, sz_22, sz_23, sz_24, sz_25, sz_26, sz_27, sz_28, sz_29, sz_30, sz_31, sz_32, sz_33, sz_34, sz_35, sz_36, sz_37, sz_38, sz_39, sz_40, QN_nx]
        exact ⟨i2, u2, _, _, _, _, _, rfl, rfl⟩
    · obtain ⟨i, u, x2, x3, x4, x5, x6, rfl, rfl⟩ := h
      simp only [e_svs_cons, e_svs_nil, e_sv_ife, e_sv_ret, e_sv_retN, e_sv_set, e_sv_setIx, e_sv_setLc, e_sv_app, e_sv_ex, e_sv_loop, e_sv_pass, e_ev_var, e_ev_lit, e_ev_glb, e_ev_gix, e_ev_bin, e_ev_neg, e_ev_not, w_and, w_or, QT2_bool, QB_bool, e_ev_one, e_ev_cmp, w_cmp2, e_ev_ife, e_ev_tup, e_mkT, e_ev_lst, e_ev_frz, e_ev_rev, e_ev_dct, e_ev_mcall, e_ev_callD, e_ev_callT, e_sv_tryS, e_sv_raise, e_tbv_ex, e_tbv_set, e_tbv_ife, e_tbv_exSet, e_sv_brk, e_sv_cont, wp_catch, e_evc_none, e_evc_some, e_ev_ix, e_ev_sl, e_ev_bi, e_ev_mx2, e_ev_isi, e_ev_call, e_ev_join, e_ev_lc, e_evs_nil, e_evs_cons, e_evo_none, e_evo_some, e_evi_seq, e_evi_rng1, e_evi_rng2, e_evi_enum, e_evi_zip, env0, varD, e_b_nm, e_b_tT, e_b_tL, e_b_nil, e_b_cons, wp_bind, wp_then, wp_ok, wp_truR, wp_finP, QF_nx, QF_rt, QE1_rt, QE1_nx, QT1_bool, List.map, List.length, List.replicate, List.getElem?_cons_zero, List.getElem?_cons_succ, List.set, Nat.reduceSub, List.cons_append, List.nil_append, Nat.reduceAdd, wp_ite, e_mkLT, tru_b, seqI_L, seqI_T, pures_p, pures_nil, Option.map_some, Option.bind_some, if_true, sz_0, sz_1, sz_2, sz_3, sz_4, sz_5, sz_6, sz_7, sz_8, sz_9, sz_10, sz_11, sz_12, sz_13, sz_14, sz_15, sz_16, sz_17, sz_18, sz_19, sz_20, sz_21, sz_22, sz_23, sz_24, sz_25, sz_26, sz_27, sz_28, sz_29, sz_30, sz_31, sz_32, sz_33, sz_34, sz_35, sz_36, sz_37, sz_38, sz_39, sz_40, e_mkL0]
      refine told_is (hs := ["a"]) (gs := []) (rs := []) 54 (fun z hz => by rw [List.mem_singleton.mp hz]; exact house_a) (by simp) (by decide) (clo_pen nil0) ?_
      have e0 : due ["a"] [] = .list [.str "told", .none] := rfl
      rw [e0]
      simp only [e_svs_cons, e_svs_nil, e_sv_ife, e_sv_ret, e_sv_retN, e_sv_set, e_sv_setIx, e_sv_setLc, e_sv_app, e_sv_ex, e_sv_loop, e_sv_pass, e_ev_var, e_ev_lit, e_ev_glb, e_ev_gix, e_ev_bin, e_ev_neg, e_ev_not, w_and, w_or, QT2_bool, QB_bool, e_ev_one, e_ev_cmp, w_cmp2, e_ev_ife, e_ev_tup, e_mkT, e_ev_lst, e_ev_frz, e_ev_rev, e_ev_dct, e_ev_mcall, e_ev_callD, e_ev_callT, e_sv_tryS, e_sv_raise, e_tbv_ex, e_tbv_set, e_tbv_ife, e_tbv_exSet, e_sv_brk, e_sv_cont, wp_catch, e_evc_none, e_evc_some, e_ev_ix, e_ev_sl, e_ev_bi, e_ev_mx2, e_ev_isi, e_ev_call, e_ev_join, e_ev_lc, e_evs_nil, e_evs_cons, e_evo_none, e_evo_some, e_evi_seq, e_evi_rng1, e_evi_rng2, e_evi_enum, e_evi_zip, env0, varD, e_b_nm, e_b_tT, e_b_tL, e_b_nil, e_b_cons, wp_bind, wp_then, wp_ok, wp_truR, wp_finP, QF_nx, QF_rt, QE1_rt, QE1_nx, QT1_bool, List.map, List.length, List.replicate, List.getElem?_cons_zero, List.getElem?_cons_succ, List.set, Nat.reduceSub, List.cons_append, List.nil_append, Nat.reduceAdd, wp_ite, e_mkLT, tru_b, seqI_L, seqI_T, pures_p, pures_nil, Option.map_some, Option.bind_some, if_true, sz_0, sz_1, sz_2, sz_3, sz_4, sz_5, sz_6, sz_7, sz_8, sz_9, sz_10, sz_11, sz_12, sz_13, sz_14, sz_15, sz_16, sz_17, sz_18, sz_19, sz_20, sz_21, sz_22, sz_23, sz_24, sz_25, sz_26, sz_27, sz_28, sz_29, sz_30, sz_31, sz_32, sz_33, sz_34, sz_35, sz_36, sz_37, sz_38, sz_39, sz_40, e_mkL2, e_eqX (show min (PyData.list [.str "told", .none]).depth (PyData.list [.str "told", .none]).depth ≤ 64 by simp [PyData.depth, PyData.depthAll]), eqv_self (show PyData.plain (.list [.str "told", .none]) = true from rfl)]
  obtain ⟨d, st, e, rfl⟩ := wp_elim key
  exact ⟨st, e⟩

theorem sp_law {K : PySem.W.Frag} {H : Hp} {a : Addr} {ns : List Int} (hl : ns.length ≤ 63) (hS : SqL K H a (ns.map V.int)) :
    spOf K (XRel K) (semK defs 61 33) [.ref a] H (fun v _ => v = .bl true) fun _ _ _ => False := by
  obtain ⟨st, e⟩ := run_law ns hl
  refine ⟨[.p (.list (ns.map .int))], [], H, [], ⟨Evl.Ex.refl H, rfl, List.nodup_nil, fun n c h hne => ?_, fun n h => ?_⟩, .cons (.lst hS (dp_of_ints ns)) .nil, ?_⟩
  · cases h
  · cases h
  · rw [e]
    exact fun F' φ' H' x S v rv => rv.bl
theorem cx_law {P : Program} {w : World} {H : Hp} {s : Shared} {e : Value} {s' : Shared} (h : L2.CX P w [] H s (fun _ _ _ => False) e s') : False := by
  obtain ⟨_, _, _, _, _, _, _, _, _, _, _, _, z⟩ := h
  exact z
theorem hC : ∀ d ∈ defs, defC defs T d = true := by
  intro d hd
  simp only [defs, List.mem_cons, List.not_mem_nil, or_false] at hd
  rcases hd with rfl | rfl | rfl | rfl | rfl | rfl | rfl | rfl | rfl | rfl | rfl | rfl | rfl | rfl | rfl | rfl | rfl | rfl | rfl | rfl | rfl | rfl | rfl | rfl | rfl | rfl | rfl | rfl | rfl | rfl | rfl | rfl | rfl | rfl
  · exact k0
  · exact k1
  · exact k2
  · exact k3
  · exact k4
  · exact k5
  · exact k6
  · exact k7
  · exact k8
  · exact k9
  · exact k10
  · exact k11
  · exact k12
  · exact k13
  · exact k14
  · exact k15
  · exact k16
  · exact k17
  · exact k18
  · exact k19
  · exact k20
  · exact k21
  · exact k22
  · exact k23
  · exact k24
  · exact k25
  · exact k26
  · exact k27
  · exact k28
  · exact k29
  · exact k30
  · exact k31
  · exact k32
  · exact k33
theorem all_mk {w : World} {K : PySem.W.Frag} {h : Heap} {mg : Str → Option Value} {fa f0 f1 f2 f3 f4 f5 f6 f7 f8 f9 f10 f11 f12 f13 f14 f15 f16 f17 f18 f19 f20 f21 f22 f23 f24 f25 f26 f27 f28 f29 f30 f31 f32 f33 : Addr} (X : K.In h) (G : h.Ns mainGlobals mg) (hfa : mg "law" = some (.ref fa))
    {od0 an0 od1 an1 od2 an2 od3 an3 od4 an4 od5 an5 od6 an6 od7 an7 od8 an8 od9 an9 od10 an10 od11 an11 od12 an12 od13 an13 od14 an14 od15 an15 od16 an16 od17 an17 od18 an18 od19 an19 od20 an20 od21 an21 od22 an22 od23 an23 od24 an24 od25 an25 od26 an26 od27 an27 od28 an28 od29 an29 od30 an30 od31 an31 od32 an32 od33 an33 : Option Addr} {sl0 sl1 sl2 sl3 sl4 sl5 sl6 sl7 sl8 sl9 sl10 sl11 sl12 sl13 sl14 sl15 sl16 sl17 sl18 sl19 sl20 sl21 sl22 sl23 sl24 sl25 sl26 sl27 sl28 sl29 sl30 sl31 sl32 sl33 : Array (Option Value)} {oc0 kV0 dc0 pm0 cd0 ct0 oc1 kV1 dc1 pm1 cd1 ct1 oc2 kV2 dc2 pm2 cd2 ct2 oc3 kV3 dc3 pm3 cd3 ct3 oc4 kV4 dc4 pm4 cd4 ct4 oc5 kV5 dc5 pm5 cd5 ct5 oc6 kV6 dc6 pm6 cd6 ct6 oc7 kV7 dc7 pm7 cd7 ct7 oc8 kV8 dc8 pm8 cd8 ct8 oc9 kV9 dc9 pm9 cd9 ct9 oc10 kV10 dc10 pm10 cd10 ct10 oc11 kV11 dc11 pm11 cd11 ct11 oc12 kV12 dc12 pm12 cd12 ct12 oc13 kV13 dc13 pm13 cd13 ct13 oc14 kV14 dc14 pm14 cd14 ct14 oc15 kV15 dc15 pm15 cd15 ct15 oc16 kV16 dc16 pm16 cd16 ct16 oc17 kV17 dc17 pm17 cd17 ct17 oc18 kV18 dc18 pm18 cd18 ct18 oc19 kV19 dc19 pm19 cd19 ct19 oc20 kV20 dc20 pm20 cd20 ct20 oc21 kV21 dc21 pm21 cd21 ct21 oc22 kV22 dc22 pm22 cd22 ct22 oc23 kV23 dc23 pm23 cd23 ct23 oc24 kV24 dc24 pm24 cd24 ct24 oc25 kV25 dc25 pm25 cd25 ct25 oc26 kV26 dc26 pm26 cd26 ct26 oc27 kV27 dc27 pm27 cd27 ct27 oc28 kV28 dc28 pm28 cd28 ct28 oc29 kV29 dc29 pm29 cd29 ct29 oc30 kV30 dc30 pm30 cd30 ct30 oc31 kV31 dc31 pm31 cd31 ct31 oc32 kV32 dc32 pm32 cd32 ct32 oc33 kV33 dc33 pm33 cd33 ct33 : Value}
    (a0 : PySem.W.nsIn K mainGlobals d0.name = some (some (.ref f0)))
    (l0 : K.lookup f0 = some ⟨oc0, od0, .func (PySem.W.fnOf d0.name d0.qual (defArgs d0.st) (defBody d0.st) (defScope d0.st) .none kV0 dc0 pm0 an0 cd0 ct0), sl0⟩)
    (c0 : PySem.W.codeIn K cd0 d0.qual = true)
    (k0 : PySem.W.keepIn K (.ref f0) = true)
    (a1 : PySem.W.nsIn K mainGlobals d1.name = some (some (.ref f1)))
    (l1 : K.lookup f1 = some ⟨oc1, od1, .func (PySem.W.fnOf d1.name d1.qual (defArgs d1.st) (defBody d1.st) (defScope d1.st) .none kV1 dc1 pm1 an1 cd1 ct1), sl1⟩)
    (c1 : PySem.W.codeIn K cd1 d1.qual = true)
    (k1 : PySem.W.keepIn K (.ref f1) = true)
    (a2 : PySem.W.nsIn K mainGlobals d2.name = some (some (.ref f2)))
    (l2 : K.lookup f2 = some ⟨oc2, od2, .func (PySem.W.fnOf d2.name d2.qual (defArgs d2.st) (defBody d2.st) (defScope d2.st) .none kV2 dc2 pm2 an2 cd2 ct2), sl2⟩)
    (c2 : PySem.W.codeIn K cd2 d2.qual = true)
    (k2 : PySem.W.keepIn K (.ref f2) = true)
    (a3 : PySem.W.nsIn K mainGlobals d3.name = some (some (.ref f3)))
    (l3 : K.lookup f3 = some ⟨oc3, od3, .func (PySem.W.fnOf d3.name d3.qual (defArgs d3.st) (defBody d3.st) (defScope d3.st) .none kV3 dc3 pm3 an3 cd3 ct3), sl3⟩)
    (c3 : PySem.W.codeIn K cd3 d3.qual = true)
    (k3 : PySem.W.keepIn K (.ref f3) = true)
    (a4 : PySem.W.nsIn K mainGlobals d4.name = some (some (.ref f4)))
    (l4 : K.lookup f4 = some ⟨oc4, od4, .func (PySem.W.fnOf d4.name d4.qual (defArgs d4.st) (defBody d4.st) (defScope d4.st) .none kV4 dc4 pm4 an4 cd4 ct4), sl4⟩)
    (c4 : PySem.W.codeIn K cd4 d4.qual = true)
    (k4 : PySem.W.keepIn K (.ref f4) = true)
    (a5 : PySem.W.nsIn K mainGlobals d5.name = some (some (.ref f5)))
    (l5 : K.lookup f5 = some ⟨oc5, od5, .func (PySem.W.fnOf d5.name d5.qual (defArgs d5.st) (defBody d5.st) (defScope d5.st) .none kV5 dc5 pm5 an5 cd5 ct5), sl5⟩)
    (c5 : PySem.W.codeIn K cd5 d5.qual = true)
    (k5 : PySem.W.keepIn K (.ref f5) = true)
    (a6 : PySem.W.nsIn K mainGlobals d6.name = some (some (.ref f6)))
    (l6 : K.lookup f6 = some ⟨oc6, od6, .func (PySem.W.fnOf d6.name d6.qual (defArgs d6.st) (defBody d6.st) (defScope d6.st) .none kV6 dc6 pm6 an6 cd6 ct6), sl6⟩)
    (c6 : PySem.W.codeIn K cd6 d6.qual = true)
    (k6 : PySem.W.keepIn K (.ref f6) = true)
    (a7 : PySem.W.nsIn K mainGlobals d7.name = some (some (.ref f7)))
    (l7 : K.lookup f7 = some ⟨oc7, od7, .func (PySem.W.fnOf d7.name d7.qual (defArgs d7.st) (defBody d7.st) (defScope d7.st) .none kV7 dc7 pm7 an7 cd7 ct7), sl7⟩)
    (c7 : PySem.W.codeIn K cd7 d7.qual = true)
    (k7 : PySem.W.keepIn K (.ref f7) = true)
    (a8 : PySem.W.nsIn K mainGlobals d8.name = some (some (.ref f8)))
    (l8 : K.lookup f8 = some ⟨oc8, od8, .func (PySem.W.fnOf d8.name d8.qual (defArgs d8.st) (defBody d8.st) (defScope d8.st) .none kV8 dc8 pm8 an8 cd8 ct8), sl8⟩)
    (c8 : PySem.W.codeIn K cd8 d8.qual = true)
    (k8 : PySem.W.keepIn K (.ref f8) = true)
    (a9 : PySem.W.nsIn K mainGlobals d9.name = some (some (.ref f9)))
    (l9 : K.lookup f9 = some ⟨oc9, od9, .func (PySem.W.fnOf d9.name d9.qual (defArgs d9.st) (defBody d9.st) (defScope d9.st) .none kV9 dc9 pm9 an9 cd9 ct9), sl9⟩)
    (c9 : PySem.W.codeIn K cd9 d9.qual = true)
    (k9 : PySem.W.keepIn K (.ref f9) = true)
    (a10 : PySem.W.nsIn K mainGlobals d10.name = some (some (.ref f10)))
    (l10 : K.lookup f10 = some ⟨oc10, od10, .func (PySem.W.fnOf d10.name d10.qual (defArgs d10.st) (defBody d10.st) (defScope d10.st) .none kV10 dc10 pm10 an10 cd10 ct10), sl10⟩)
    (c10 : PySem.W.codeIn K cd10 d10.qual = true)
    (k10 : PySem.W.keepIn K (.ref f10) = true)
    (a11 : PySem.W.nsIn K mainGlobals d11.name = some (some (.ref f11)))
    (l11 : K.lookup f11 = some ⟨oc11, od11, .func (PySem.W.fnOf d11.name d11.qual (defArgs d11.st) (defBody d11.st) (defScope d11.st) .none kV11 dc11 pm11 an11 cd11 ct11), sl11⟩)
    (c11 : PySem.W.codeIn K cd11 d11.qual = true)
    (k11 : PySem.W.keepIn K (.ref f11) = true)
    (a12 : PySem.W.nsIn K mainGlobals d12.name = some (some (.ref f12)))
    (l12 : K.lookup f12 = some ⟨oc12, od12, .func (PySem.W.fnOf d12.name d12.qual (defArgs d12.st) (defBody d12.st) (defScope d12.st) .none kV12 dc12 pm12 an12 cd12 ct12), sl12⟩)
    (c12 : PySem.W.codeIn K cd12 d12.qual = true)
    (k12 : PySem.W.keepIn K (.ref f12) = true)
    (a13 : PySem.W.nsIn K mainGlobals d13.name = some (some (.ref f13)))
    (l13 : K.lookup f13 = some ⟨oc13, od13, .func (PySem.W.fnOf d13.name d13.qual (defArgs d13.st) (defBody d13.st) (defScope d13.st) .none kV13 dc13 pm13 an13 cd13 ct13), sl13⟩)
    (c13 : PySem.W.codeIn K cd13 d13.qual = true)
    (k13 : PySem.W.keepIn K (.ref f13) = true)
    (a14 : PySem.W.nsIn K mainGlobals d14.name = some (some (.ref f14)))
    (l14 : K.lookup f14 = some ⟨oc14, od14, .func (PySem.W.fnOf d14.name d14.qual (defArgs d14.st) (defBody d14.st) (defScope d14.st) .none kV14 dc14 pm14 an14 cd14 ct14), sl14⟩)
    (c14 : PySem.W.codeIn K cd14 d14.qual = true)
    (k14 : PySem.W.keepIn K (.ref f14) = true)
    (a15 : PySem.W.nsIn K mainGlobals d15.name = some (some (.ref f15)))
    (l15 : K.lookup f15 = some ⟨oc15, od15, .func (PySem.W.fnOf d15.name d15.qual (defArgs d15.st) (defBody d15.st) (defScope d15.st) .none kV15 dc15 pm15 an15 cd15 ct15), sl15⟩)
    (c15 : PySem.W.codeIn K cd15 d15.qual = true)
    (k15 : PySem.W.keepIn K (.ref f15) = true)
    (a16 : PySem.W.nsIn K mainGlobals d16.name = some (some (.ref f16)))
    (l16 : K.lookup f16 = some ⟨oc16, od16, .func (PySem.W.fnOf d16.name d16.qual (defArgs d16.st) (defBody d16.st) (defScope d16.st) .none kV16 dc16 pm16 an16 cd16 ct16), sl16⟩)
    (c16 : PySem.W.codeIn K cd16 d16.qual = true)
    (k16 : PySem.W.keepIn K (.ref f16) = true)
    (a17 : PySem.W.nsIn K mainGlobals d17.name = some (some (.ref f17)))
    (l17 : K.lookup f17 = some ⟨oc17, od17, .func (PySem.W.fnOf d17.name d17.qual (defArgs d17.st) (defBody d17.st) (defScope d17.st) .none kV17 dc17 pm17 an17 cd17 ct17), sl17⟩)
    (c17 : PySem.W.codeIn K cd17 d17.qual = true)
    (k17 : PySem.W.keepIn K (.ref f17) = true)
    (a18 : PySem.W.nsIn K mainGlobals d18.name = some (some (.ref f18)))
    (l18 : K.lookup f18 = some ⟨oc18, od18, .func (PySem.W.fnOf d18.name d18.qual (defArgs d18.st) (defBody d18.st) (defScope d18.st) .none kV18 dc18 pm18 an18 cd18 ct18), sl18⟩)
    (c18 : PySem.W.codeIn K cd18 d18.qual = true)
    (k18 : PySem.W.keepIn K (.ref f18) = true)
    (a19 : PySem.W.nsIn K mainGlobals d19.name = some (some (.ref f19)))
    (l19 : K.lookup f19 = some ⟨oc19, od19, .func (PySem.W.fnOf d19.name d19.qual (defArgs d19.st) (defBody d19.st) (defScope d19.st) .none kV19 dc19 pm19 an19 cd19 ct19), sl19⟩)
    (c19 : PySem.W.codeIn K cd19 d19.qual = true)
    (k19 : PySem.W.keepIn K (.ref f19) = true)
    (a20 : PySem.W.nsIn K mainGlobals d20.name = some (some (.ref f20)))
    (l20 : K.lookup f20 = some ⟨oc20, od20, .func (PySem.W.fnOf d20.name d20.qual (defArgs d20.st) (defBody d20.st) (defScope d20.st) .none kV20 dc20 pm20 an20 cd20 ct20), sl20⟩)
    (c20 : PySem.W.codeIn K cd20 d20.qual = true)
    (k20 : PySem.W.keepIn K (.ref f20) = true)
    (a21 : PySem.W.nsIn K mainGlobals d21.name = some (some (.ref f21)))
    (l21 : K.lookup f21 = some ⟨oc21, od21, .func (PySem.W.fnOf d21.name d21.qual (defArgs d21.st) (defBody d21.st) (defScope d21.st) .none kV21 dc21 pm21 an21 cd21 ct21), sl21⟩)
    (c21 : PySem.W.codeIn K cd21 d21.qual = true)
    (k21 : PySem.W.keepIn K (.ref f21) = true)
    (a22 : PySem.W.nsIn K mainGlobals d22.name = some (some (.ref f22)))
    (l22 : K.lookup f22 = some ⟨oc22, od22, .func (PySem.W.fnOf d22.name d22.qual (defArgs d22.st) (defBody d22.st) (defScope d22.st) .none kV22 dc22 pm22 an22 cd22 ct22), sl22⟩)
    (c22 : PySem.W.codeIn K cd22 d22.qual = true)
    (k22 : PySem.W.keepIn K (.ref f22) = true)
    (a23 : PySem.W.nsIn K mainGlobals d23.name = some (some (.ref f23)))
    (l23 : K.lookup f23 = some ⟨oc23, od23, .func (PySem.W.fnOf d23.name d23.qual (defArgs d23.st) (defBody d23.st) (defScope d23.st) .none kV23 dc23 pm23 an23 cd23 ct23), sl23⟩)
    (c23 : PySem.W.codeIn K cd23 d23.qual = true)
    (k23 : PySem.W.keepIn K (.ref f23) = true)
    (a24 : PySem.W.nsIn K mainGlobals d24.name = some (some (.ref f24)))
    (l24 : K.lookup f24 = some ⟨oc24, od24, .func (PySem.W.fnOf d24.name d24.qual (defArgs d24.st) (defBody d24.st) (defScope d24.st) .none kV24 dc24 pm24 an24 cd24 ct24), sl24⟩)
    (c24 : PySem.W.codeIn K cd24 d24.qual = true)
    (k24 : PySem.W.keepIn K (.ref f24) = true)
    (a25 : PySem.W.nsIn K mainGlobals d25.name = some (some (.ref f25)))
    (l25 : K.lookup f25 = some ⟨oc25, od25, .func (PySem.W.fnOf d25.name d25.qual (defArgs d25.st) (defBody d25.st) (defScope d25.st) .none kV25 dc25 pm25 an25 cd25 ct25), sl25⟩)
    (c25 : PySem.W.codeIn K cd25 d25.qual = true)
    (k25 : PySem.W.keepIn K (.ref f25) = true)
    (a26 : PySem.W.nsIn K mainGlobals d26.name = some (some (.ref f26)))
    (l26 : K.lookup f26 = some ⟨oc26, od26, .func (PySem.W.fnOf d26.name d26.qual (defArgs d26.st) (defBody d26.st) (defScope d26.st) .none kV26 dc26 pm26 an26 cd26 ct26), sl26⟩)
    (c26 : PySem.W.codeIn K cd26 d26.qual = true)
    (k26 : PySem.W.keepIn K (.ref f26) = true)
    (a27 : PySem.W.nsIn K mainGlobals d27.name = some (some (.ref f27)))
    (l27 : K.lookup f27 = some ⟨oc27, od27, .func (PySem.W.fnOf d27.name d27.qual (defArgs d27.st) (defBody d27.st) (defScope d27.st) .none kV27 dc27 pm27 an27 cd27 ct27), sl27⟩)
    (c27 : PySem.W.codeIn K cd27 d27.qual = true)
    (k27 : PySem.W.keepIn K (.ref f27) = true)
    (a28 : PySem.W.nsIn K mainGlobals d28.name = some (some (.ref f28)))
    (l28 : K.lookup f28 = some ⟨oc28, od28, .func (PySem.W.fnOf d28.name d28.qual (defArgs d28.st) (defBody d28.st) (defScope d28.st) .none kV28 dc28 pm28 an28 cd28 ct28), sl28⟩)
    (c28 : PySem.W.codeIn K cd28 d28.qual = true)
    (k28 : PySem.W.keepIn K (.ref f28) = true)
    (a29 : PySem.W.nsIn K mainGlobals d29.name = some (some (.ref f29)))
    (l29 : K.lookup f29 = some ⟨oc29, od29, .func (PySem.W.fnOf d29.name d29.qual (defArgs d29.st) (defBody d29.st) (defScope d29.st) .none kV29 dc29 pm29 an29 cd29 ct29), sl29⟩)
    (c29 : PySem.W.codeIn K cd29 d29.qual = true)
    (k29 : PySem.W.keepIn K (.ref f29) = true)
    (a30 : PySem.W.nsIn K mainGlobals d30.name = some (some (.ref f30)))
    (l30 : K.lookup f30 = some ⟨oc30, od30, .func (PySem.W.fnOf d30.name d30.qual (defArgs d30.st) (defBody d30.st) (defScope d30.st) .none kV30 dc30 pm30 an30 cd30 ct30), sl30⟩)
    (c30 : PySem.W.codeIn K cd30 d30.qual = true)
    (k30 : PySem.W.keepIn K (.ref f30) = true)
    (a31 : PySem.W.nsIn K mainGlobals d31.name = some (some (.ref f31)))
    (l31 : K.lookup f31 = some ⟨oc31, od31, .func (PySem.W.fnOf d31.name d31.qual (defArgs d31.st) (defBody d31.st) (defScope d31.st) .none kV31 dc31 pm31 an31 cd31 ct31), sl31⟩)
    (c31 : PySem.W.codeIn K cd31 d31.qual = true)
    (k31 : PySem.W.keepIn K (.ref f31) = true)
    (a32 : PySem.W.nsIn K mainGlobals d32.name = some (some (.ref f32)))
    (l32 : K.lookup f32 = some ⟨oc32, od32, .func (PySem.W.fnOf d32.name d32.qual (defArgs d32.st) (defBody d32.st) (defScope d32.st) .none kV32 dc32 pm32 an32 cd32 ct32), sl32⟩)
    (c32 : PySem.W.codeIn K cd32 d32.qual = true)
    (k32 : PySem.W.keepIn K (.ref f32) = true)
    (a33 : PySem.W.nsIn K mainGlobals d33.name = some (some (.ref f33)))
    (l33 : K.lookup f33 = some ⟨oc33, od33, .func (PySem.W.fnOf d33.name d33.qual (defArgs d33.st) (defBody d33.st) (defScope d33.st) .none kV33 dc33 pm33 an33 cd33 ct33), sl33⟩)
    (c33 : PySem.W.codeIn K cd33 d33.qual = true)
    (k33 : PySem.W.keepIn K (.ref f33) = true)
    (z0 : PySem.W.nsIn K mainGlobals "len" = some none)
    (z1 : PySem.W.nsIn K mainGlobals "all" = some none)
    (z2 : PySem.W.nsIn K mainGlobals "sorted" = some none)
    (z3 : PySem.W.nsIn K mainGlobals "tuple" = some none)
    (z4 : PySem.W.nsIn K mainGlobals "list" = some none)
    (z5 : PySem.W.nsIn K mainGlobals "int" = some none)
    (z6 : PySem.W.nsIn K mainGlobals "isinstance" = some none)
    (z7 : PySem.W.nsIn K mainGlobals "range" = some none)
    (z8 : PySem.W.nsIn K mainGlobals "enumerate" = some none)
    (z9 : PySem.W.nsIn K mainGlobals "zip" = some none)
    (z10 : PySem.W.nsIn K mainGlobals "str" = some none)
    (z11 : PySem.W.nsIn K mainGlobals "bool" = some none)
    {t0 : Tok}
    (g0 : PySem.W.nsIn K mainGlobals "LETTERS" = some (some (Value.str "abcdefghijklmnopqrstuvwxyz" t0)))
    {t1 : Tok}
    (g1 : PySem.W.nsIn K mainGlobals "LONGEST" = some (some (Value.int (8) t1)))
    {t2 : Tok}
    (g2 : PySem.W.nsIn K mainGlobals "LAST_NUMBER" = some (some (Value.int (14) t2)))
    {t3 : Tok}
    (g3 : PySem.W.nsIn K mainGlobals "MOST_COUNTED" = some (some (Value.int (15) t3)))
    {t4 : Tok}
    (g4 : PySem.W.nsIn K mainGlobals "FARTHEST" = some (some (Value.int (1000000000000) t4)))
    {p0 : Addr} {es0 : Array DictEntry} {n0 : Nat}
    (x0 : PySem.W.nsIn K mainGlobals "TIMES" = some (some (.ref p0)))
    (y0 : K.lookup p0 = some ⟨.type "dict", none, .dict es0 n0, #[]⟩)
    (q0 : PySem.W.KeysLit w.params es0.toList)
    {u0_0 : Tok}
    (w0_0 : PySem.W.nsIn K p0 "ask" = some (some (Value.int (5) u0_0)))
    {u0_1 : Tok}
    (w0_1 : PySem.W.nsIn K p0 "job" = some (some (Value.int (3) u0_1)))
    {E0 : Addr}
    (ea0 : PySem.W.nsIn K mainGlobals "Clash" = some (some (.ref E0)))
    (eb0 : PySem.W.subIn K (.ref E0) (.type "BaseException") = some true)
    (et0 : PySem.W.typeIn K (.ref E0) = some (.type "type"))
    (ek0 : PySem.W.keepIn K (.ref E0) = true)
    (ei0 : PySem.W.isClsIn K E0 = true)
    {nm0 qn0 : Str} {N0 : Addr} {bs0 bm0 : List Value} {sn0 : List Str} {sub0 : List Value} {ab0 : Bool} {col0 : Option Bool} {dd0 : Option Addr} {m00 m10 m20 m30 m50 : Option Value}
    {fI0 : Addr} {odI0 anI0 : Option Addr} {slI0 : Array (Option Value)} {ocI0 kVI0 dcI0 pmI0 cdI0 ctI0 : Value}
    (el0 : K.lookup E0 = some (excClassObj nm0 qn0 E0 N0 bs0 bm0 true sn0 sub0 ab0 col0 dd0 m00 m10 m20 m30 m50 "ValueError.__new__"))
    (ev0 : PySem.HandSPX.refsVE bm0 = true)
    (ez0 : PySem.W.findIn K (.ref E0) "__setattr__" = some (some (.builtin "object.__setattr__")))
    (ef0 : PySem.W.findIn K (.ref E0) "__init__" = some (some (.ref fI0)))
    (eg0 : PySem.W.typeIn K (.ref fI0) = some (.type "function"))
    (em0 : K.lookup fI0 = some ⟨ocI0, odI0, .func (PySem.W.fnOf e0.name e0.qual (defArgs e0.st) (defBody e0.st) (defScope e0.st) .none kVI0 dcI0 pmI0 anI0 cdI0 ctI0), slI0⟩)
    (ec0 : PySem.W.codeIn K cdI0 e0.qual = true)
    (eh0 : PySem.W.keepIn K (.ref fI0) = true)
    (en0_0 : PySem.W.findIn K (.ref E0) "first" = some none)
    (en0_1 : PySem.W.findIn K (.ref E0) "second" = some none)
    {E1 : Addr}
    (ea1 : PySem.W.nsIn K mainGlobals "NoRow" = some (some (.ref E1)))
    (eb1 : PySem.W.subIn K (.ref E1) (.type "BaseException") = some true)
    (et1 : PySem.W.typeIn K (.ref E1) = some (.type "type"))
    (ek1 : PySem.W.keepIn K (.ref E1) = true)
    (ei1 : PySem.W.isClsIn K E1 = true)
    {nm1 qn1 : Str} {N1 : Addr} {bs1 bm1 : List Value} {sn1 : List Str} {sub1 : List Value} {ab1 : Bool} {col1 : Option Bool} {dd1 : Option Addr} {m01 m11 m21 m31 m51 : Option Value}
    {fI1 : Addr} {odI1 anI1 : Option Addr} {slI1 : Array (Option Value)} {ocI1 kVI1 dcI1 pmI1 cdI1 ctI1 : Value}
    (el1 : K.lookup E1 = some (excClassObj nm1 qn1 E1 N1 bs1 bm1 true sn1 sub1 ab1 col1 dd1 m01 m11 m21 m31 m51 "ValueError.__new__"))
    (ev1 : PySem.HandSPX.refsVE bm1 = true)
    (ez1 : PySem.W.findIn K (.ref E1) "__setattr__" = some (some (.builtin "object.__setattr__")))
    (ef1 : PySem.W.findIn K (.ref E1) "__init__" = some (some (.ref fI1)))
    (eg1 : PySem.W.typeIn K (.ref fI1) = some (.type "function"))
    (em1 : K.lookup fI1 = some ⟨ocI1, odI1, .func (PySem.W.fnOf e1.name e1.qual (defArgs e1.st) (defBody e1.st) (defScope e1.st) .none kVI1 dcI1 pmI1 anI1 cdI1 ctI1), slI1⟩)
    (ec1 : PySem.W.codeIn K cdI1 e1.qual = true)
    (eh1 : PySem.W.keepIn K (.ref fI1) = true)
    (en1_0 : PySem.W.findIn K (.ref E1) "number" = some none)
    {E2 : Addr}
    (ea2 : PySem.W.nsIn K mainGlobals "CallError" = some (some (.ref E2)))
    (eb2 : PySem.W.subIn K (.ref E2) (.type "BaseException") = some true)
    (et2 : PySem.W.typeIn K (.ref E2) = some (.type "type"))
    (er2 : PySem.W.readsIn K E2 (.type "type") = true)
    (es2 : PySem.W.specialIn K (.ref E2) "__getattribute__" = some (some (.builtin "type.__getattribute__")))
    (eu2 : PySem.W.findCls K (.ref E2) (.type "type") "__init__" = some (.val (.builtin "ValueError.__init__")))
    (ep0 : PySem.W.subIn K (.ref E0) (.ref E0) = some true)
    (ep1 : PySem.W.subIn K (.ref E1) (.ref E0) = some false)
    (ep2 : PySem.W.subIn K (.ref E0) (.ref E1) = some false)
    (ep3 : PySem.W.subIn K (.ref E1) (.ref E1) = some true)
    (xa0 : PySem.W.findIn K (.ref E0) "__getattribute__" = some (some (.builtin "BaseException.__getattribute__")))
    (xb0 : PySem.W.findIn K (.ref E0) "__getattr__" = some none)
    (xc0 : PySem.W.hasDictIn K E0 = true)
    (xd0 : PySem.W.findIn K (.ref E0) "first" = some none)
    (xa1 : PySem.W.findIn K (.ref E0) "__getattribute__" = some (some (.builtin "BaseException.__getattribute__")))
    (xb1 : PySem.W.findIn K (.ref E0) "__getattr__" = some none)
    (xc1 : PySem.W.hasDictIn K E0 = true)
    (xd1 : PySem.W.findIn K (.ref E0) "second" = some none)
    (xa2 : PySem.W.findIn K (.ref E1) "__getattribute__" = some (some (.builtin "BaseException.__getattribute__")))
    (xb2 : PySem.W.findIn K (.ref E1) "__getattr__" = some none)
    (xc2 : PySem.W.hasDictIn K E1 = true)
    (xd2 : PySem.W.findIn K (.ref E1) "number" = some none)
    : ∃ fd : FuncData, (∀ (s : Shared) (v : Value), BindsTo s fd ⟨[v], []⟩ [("_law_script", v)]) ∧ ∀ base : Heap, K.In base → base.Ns mainGlobals mg → FnOk PySem.Challenge.rw_gapcalls_k04_books_or_not.prog w K mg base (L2.CX PySem.Challenge.rw_gapcalls_k04_books_or_not.prog w) 63 fa fd ["_law_script"] (spOf K (XRel K) (semK defs 61 33)) := by
  have hbl : ∀ x, x ∈ T.bl → mg x = none := by
    intro x hx
    change x ∈ bl at hx
    simp only [bl, List.mem_cons, List.not_mem_nil, or_false] at hx
    rcases hx with rfl | rfl | rfl | rfl | rfl | rfl | rfl | rfl | rfl | rfl | rfl | rfl
    · exact PySem.W.mg_none_of X G z0
    · exact PySem.W.mg_none_of X G z1
    · exact PySem.W.mg_none_of X G z2
    · exact PySem.W.mg_none_of X G z3
    · exact PySem.W.mg_none_of X G z4
    · exact PySem.W.mg_none_of X G z5
    · exact PySem.W.mg_none_of X G z6
    · exact PySem.W.mg_none_of X G z7
    · exact PySem.W.mg_none_of X G z8
    · exact PySem.W.mg_none_of X G z9
    · exact PySem.W.mg_none_of X G z10
    · exact PySem.W.mg_none_of X G z11
  have M : Mods K w mg defs T := by
    refine ⟨fun d hd => ?_, fun x d hx => ?_, fun x kvs hx => ?_, hbl, fun c f hx => ?_, fun c np fs hx => ?_, fun c d b hx => ?_, fun c f hx => ?_, fun d hx => ?_⟩
    · simp only [defs, List.mem_cons, List.not_mem_nil, or_false] at hd
      rcases hd with rfl | rfl | rfl | rfl | rfl | rfl | rfl | rfl | rfl | rfl | rfl | rfl | rfl | rfl | rfl | rfl | rfl | rfl | rfl | rfl | rfl | rfl | rfl | rfl | rfl | rfl | rfl | rfl | rfl | rfl | rfl | rfl | rfl | rfl
      · exact MP.funAt X G rfl rfl a0 l0 c0 k0 fun F => F.binds (ps := ["thing", "low", "high"]) fun _ _ _ _ _ _ us hl => match us, hl with | [_, _, _], _ => rfl
      · exact MP.funAt X G rfl rfl a1 l1 c1 k1 fun F => F.binds (ps := ["thing"]) fun _ _ _ _ _ _ us hl => match us, hl with | [_], _ => rfl
      · exact MP.funAt X G rfl rfl a2 l2 c2 k2 fun F => F.binds (ps := ["thing"]) fun _ _ _ _ _ _ us hl => match us, hl with | [_], _ => rfl
      · exact MP.funAt X G rfl rfl a3 l3 c3 k3 fun F => F.binds (ps := ["thing"]) fun _ _ _ _ _ _ us hl => match us, hl with | [_], _ => rfl
      · exact MP.funAt X G rfl rfl a4 l4 c4 k4 fun F => F.binds (ps := ["town", "thing"]) fun _ _ _ _ _ _ us hl => match us, hl with | [_, _], _ => rfl
      · exact MP.funAt X G rfl rfl a5 l5 c5 k5 fun F => F.binds (ps := ["town", "thing"]) fun _ _ _ _ _ _ us hl => match us, hl with | [_, _], _ => rfl
      · exact MP.funAt X G rfl rfl a6 l6 c6 k6 fun F => F.binds (ps := ["town", "thing"]) fun _ _ _ _ _ _ us hl => match us, hl with | [_, _], _ => rfl
      · exact MP.funAt X G rfl rfl a7 l7 c7 k7 fun F => F.binds (ps := ["town", "thing"]) fun _ _ _ _ _ _ us hl => match us, hl with | [_, _], _ => rfl
      · exact MP.funAt X G rfl rfl a8 l8 c8 k8 fun F => F.binds (ps := ["town", "thing"]) fun _ _ _ _ _ _ us hl => match us, hl with | [_, _], _ => rfl
      · exact MP.funAt X G rfl rfl a9 l9 c9 k9 fun F => F.binds (ps := ["one", "other"]) fun _ _ _ _ _ _ us hl => match us, hl with | [_, _], _ => rfl
      · exact MP.funAt X G rfl rfl a10 l10 c10 k10 fun F => F.binds (ps := ["counts", "row"]) fun _ _ _ _ _ _ us hl => match us, hl with | [_, _], _ => rfl
      · exact MP.funAt X G rfl rfl a11 l11 c11 k11 fun F => F.binds (ps := ["job", "ask"]) fun _ _ _ _ _ _ us hl => match us, hl with | [_, _], _ => rfl
      · exact MP.funAt X G rfl rfl a12 l12 c12 k12 fun F => F.binds (ps := ["one", "other"]) fun _ _ _ _ _ _ us hl => match us, hl with | [_, _], _ => rfl
      · exact MP.funAt X G rfl rfl a13 l13 c13 k13 fun F => F.binds (ps := ["town", "rows"]) fun _ _ _ _ _ _ us hl => match us, hl with | [_, _], _ => rfl
      · exact MP.funAt X G rfl rfl a14 l14 c14 k14 fun F => F.binds (ps := ["_law_cell", "_law_at"]) fun _ _ _ _ _ _ us hl => match us, hl with | [_, _], _ => rfl
      · exact MP.funAt X G rfl rfl a15 l15 c15 k15 fun F => F.binds (ps := ["_law_script"]) fun _ _ _ _ _ _ us hl => match us, hl with | [_], _ => rfl
      · exact MP.funAt X G rfl rfl a16 l16 c16 k16 fun F => F.binds (ps := ["_law_pen"]) fun _ _ _ _ _ _ us hl => match us, hl with | [_], _ => rfl
      · exact MP.funAt X G rfl rfl a17 l17 c17 k17 fun F => F.binds (ps := ["_law_pen", "_law_many"]) fun _ _ _ _ _ _ us hl => match us, hl with | [_, _], _ => rfl
      · exact MP.funAt X G rfl rfl a18 l18 c18 k18 fun F => F.binds (ps := ["_law_pen", "_law_many"]) fun _ _ _ _ _ _ us hl => match us, hl with | [_, _], _ => rfl
      · exact MP.funAt X G rfl rfl a19 l19 c19 k19 fun F => F.binds (ps := ["_law_pen", "_law_most"]) fun _ _ _ _ _ _ us hl => match us, hl with | [_, _], _ => rfl
      · exact MP.funAt X G rfl rfl a20 l20 c20 k20 fun F => F.binds (ps := ["_law_thing"]) fun _ _ _ _ _ _ us hl => match us, hl with | [_], _ => rfl
      · exact MP.funAt X G rfl rfl a21 l21 c21 k21 fun F => F.binds (ps := ["_law_town_here", "_law_thing"]) fun _ _ _ _ _ _ us hl => match us, hl with | [_, _], _ => rfl
      · exact MP.funAt X G rfl rfl a22 l22 c22 k22 fun F => F.binds (ps := ["_law_one", "_law_other"]) fun _ _ _ _ _ _ us hl => match us, hl with | [_, _], _ => rfl
      · exact MP.funAt X G rfl rfl a23 l23 c23 k23 fun F => F.binds (ps := ["_law_rows"]) fun _ _ _ _ _ _ us hl => match us, hl with | [_], _ => rfl
      · exact MP.funAt X G rfl rfl a24 l24 c24 k24 fun F => F.binds (ps := ["_law_pen"]) fun _ _ _ _ _ _ us hl => match us, hl with | [_], _ => rfl
      · exact MP.funAt X G rfl rfl a25 l25 c25 k25 fun F => F.binds (ps := ["_law_pen"]) fun _ _ _ _ _ _ us hl => match us, hl with | [_], _ => rfl
      · exact MP.funAt X G rfl rfl a26 l26 c26 k26 fun F => F.binds (ps := ["_law_pen", "_law_town_here"]) fun _ _ _ _ _ _ us hl => match us, hl with | [_, _], _ => rfl
      · exact MP.funAt X G rfl rfl a27 l27 c27 k27 fun F => F.binds (ps := ["_law_pen", "_law_town_here"]) fun _ _ _ _ _ _ us hl => match us, hl with | [_, _], _ => rfl
      · exact MP.funAt X G rfl rfl a28 l28 c28 k28 fun F => F.binds (ps := ["_law_pen", "_law_town_here"]) fun _ _ _ _ _ _ us hl => match us, hl with | [_, _], _ => rfl
      · exact MP.funAt X G rfl rfl a29 l29 c29 k29 fun F => F.binds (ps := ["_law_found", "_law_due_here"]) fun _ _ _ _ _ _ us hl => match us, hl with | [_, _], _ => rfl
      · exact MP.funAt X G rfl rfl a30 l30 c30 k30 fun F => F.binds (ps := ["_law_pen", "_law_town_here"]) fun _ _ _ _ _ _ us hl => match us, hl with | [_, _], _ => rfl
      · exact MP.funAt X G rfl rfl a31 l31 c31 k31 fun F => F.binds (ps := ["_law_town_here", "_law_rows"]) fun _ _ _ _ _ _ us hl => match us, hl with | [_, _], _ => rfl
      · exact MP.funAt X G rfl rfl a32 l32 c32 k32 fun F => F.binds (ps := ["_law_town_here", "_law_rows"]) fun _ _ _ _ _ _ us hl => match us, hl with | [_, _], _ => rfl
      · exact MP.funAt X G rfl rfl a33 l33 c33 k33 fun F => F.binds (ps := ["_law_script"]) fun _ _ _ _ _ _ us hl => match us, hl with | [_], _ => rfl
    · change glbs.lookup x = _ at hx
      simp only [glbs, List.lookup_cons] at hx
      split at hx
      · rename_i e; cases Option.some.inj hx; rw [eq_of_beq e]; exact ⟨_, .str "abcdefghijklmnopqrstuvwxyz", PySem.W.mg_of X G g0, ⟨t0, rfl⟩, .str _⟩
      split at hx
      · rename_i e; cases Option.some.inj hx; rw [eq_of_beq e]; exact ⟨_, .int (8), PySem.W.mg_of X G g1, ⟨t1, rfl⟩, .int _⟩
      split at hx
      · rename_i e; cases Option.some.inj hx; rw [eq_of_beq e]; exact ⟨_, .int (14), PySem.W.mg_of X G g2, ⟨t2, rfl⟩, .int _⟩
      split at hx
      · rename_i e; cases Option.some.inj hx; rw [eq_of_beq e]; exact ⟨_, .int (15), PySem.W.mg_of X G g3, ⟨t3, rfl⟩, .int _⟩
      split at hx
      · rename_i e; cases Option.some.inj hx; rw [eq_of_beq e]; exact ⟨_, .int (1000000000000), PySem.W.mg_of X G g4, ⟨t4, rfl⟩, .int _⟩
      cases hx
    · change gds.lookup x = _ at hx
      simp only [gds, List.lookup_cons] at hx
      split at hx
      · rename_i e; cases Option.some.inj hx; rw [eq_of_beq e]; refine ⟨p0, PySem.W.mg_of X G x0, fun z d hz => ?_⟩
        simp only [List.lookup_cons] at hz
        split at hz
        · rename_i e; cases Option.some.inj hz; rw [eq_of_beq e]; exact ⟨.int (5), ⟨es0, n0, _, y0, q0, w0_0, ⟨u0_0, rfl⟩⟩, .int _⟩
        split at hz
        · rename_i e; cases Option.some.inj hz; rw [eq_of_beq e]; exact ⟨.int (3), ⟨es0, n0, _, y0, q0, w0_1, ⟨u0_1, rfl⟩⟩, .int _⟩
        cases hz
      cases hx
    · cases hx
    · change _ ∈ xcls at hx
      simp only [xcls, List.mem_cons, List.not_mem_nil, or_false] at hx
      rcases hx with hx | hx
      · cases hx
        have F := fun_mk (st := e0.st) em0 ec0 eh0
        refine MP.xmk_own (T := T) (d := e0) X G ea0 el0 ev0 ez0 eb0 et0 ek0 ef0 eg0 rfl rfl F (F.binds (ps := ["self", "first", "second"]) fun _ _ _ _ _ _ us hl => match us, hl with | [_, _, _], _ => rfl) s0 i0 (fun f fe hf => ?_) ea2 er2 es2 eu2 hbl
        simp only [List.mem_cons, List.not_mem_nil, or_false] at hf
        rcases hf with hf | hf
        · cases hf; exact en0_0
        · cases hf; exact en0_1
      · cases hx
        have F := fun_mk (st := e1.st) em1 ec1 eh1
        refine MP.xmk_own (T := T) (d := e1) X G ea1 el1 ev1 ez1 eb1 et1 ek1 ef1 eg1 rfl rfl F (F.binds (ps := ["self", "number"]) fun _ _ _ _ _ _ us hl => match us, hl with | [_, _], _ => rfl) s1 i1 (fun f fe hf => ?_) ea2 er2 es2 eu2 hbl
        simp only [List.mem_cons, List.not_mem_nil, or_false] at hf
        · cases hf; exact en1_0
    · change _ ∈ xtab at hx
      simp only [xtab, List.mem_cons, List.not_mem_nil, or_false] at hx
      rcases hx with hx | hx | hx | hx
      · cases hx
        exact MP.xmt_of X G ea0 ea0 eb0 ei0 et0 ep0
      · cases hx
        exact MP.xmt_of X G ea1 ea0 eb0 ei0 et0 ep1
      · cases hx
        exact MP.xmt_of X G ea0 ea1 eb1 ei1 et1 ep2
      · cases hx
        exact MP.xmt_of X G ea1 ea1 eb1 ei1 et1 ep3
    · change _ ∈ xfld at hx
      simp only [xfld, List.mem_cons, List.not_mem_nil, or_false] at hx
      rcases hx with hx | hx | hx
      · cases hx
        exact MP.xcf_of ea0 xa0 xb0 eb0 xc0 xd0
      · cases hx
        exact MP.xcf_of ea0 xa1 xb1 eb0 xc1 xd1
      · cases hx
        exact MP.xcf_of ea1 xa2 xb2 eb1 xc2 xd2
    · change _ ∈ hcs at hx
      simp only [hcs, List.mem_cons, List.not_mem_nil, or_false] at hx
      rcases hx with hx | hx
      · cases hx
        exact MP.hcl_of X G ea0
      · cases hx
        exact MP.hcl_of X G ea1
  have e := hfa.symm.trans (PySem.W.mg_of X G a33)
  cases e
  have F := fun_mk (st := d33.st) l33 c33 k33
  exact ⟨_, fun s v => .of_eq rfl, fun base _ _ => fnOk M hC 61 33 d33 rfl _ _ F⟩
end K04
open PySem PySem.W PyProof.Rows
set_option maxHeartbeats 0 in
theorem PySem.Challenge.cw_gapcalls_k04_books_or_not_holds : PySem.Challenge.rw_gapcalls_k04_books_or_not.Holds := by
  w_on; o_law; k_head; (case hw => w_witness2)
  k_fill
  refine L2.walk_of (l := PySem.Challenge.rw_gapcalls_k04_books_or_not) (n := 63) (k := 63) (x := "_law_script") (CX := fun w => L2.CX PySem.Challenge.rw_gapcalls_k04_books_or_not.prog w) (sp := fun w => MP.spOf _ (MP.XRel _) (MP.semK K04.defs 61 33)) rfl (by decide) rfl ⟨rfl, by decide, by decide⟩ (fun w h Y => PySem.W.kIn_of Y) ?F (fun w H a ns hl hO hS => K04.sp_law hl hS) (fun w H s e s' h => K04.cx_law h)
  case F =>
    intro w mg fa h KX G hmg
    refine' K04.all_mk KX G hmg ?Za0 ?Zl0 ?Zc0 ?Zk0 ?Za1 ?Zl1 ?Zc1 ?Zk1 ?Za2 ?Zl2 ?Zc2 ?Zk2 ?Za3 ?Zl3 ?Zc3 ?Zk3 ?Za4 ?Zl4 ?Zc4 ?Zk4 ?Za5 ?Zl5 ?Zc5 ?Zk5 ?Za6 ?Zl6 ?Zc6 ?Zk6 ?Za7 ?Zl7 ?Zc7 ?Zk7 ?Za8 ?Zl8 ?Zc8 ?Zk8 ?Za9 ?Zl9 ?Zc9 ?Zk9 ?Za10 ?Zl10 ?Zc10 ?Zk10 ?Za11 ?Zl11 ?Zc11 ?Zk11 ?Za12 ?Zl12 ?Zc12 ?Zk12 ?Za13 ?Zl13 ?Zc13 ?Zk13 ?Za14 ?Zl14 ?Zc14 ?Zk14 ?Za15 ?Zl15 ?Zc15 ?Zk15 ?Za16 ?Zl16 ?Zc16 ?Zk16 ?Za17 ?Zl17 ?Zc17 ?Zk17 ?Za18 ?Zl18 ?Zc18 ?Zk18 ?Za19 ?Zl19 ?Zc19 ?Zk19 ?Za20 ?Zl20 ?Zc20 ?Zk20 ?Za21 ?Zl21 ?Zc21 ?Zk21 ?Za22 ?Zl22 ?Zc22 ?Zk22 ?Za23 ?Zl23 ?Zc23 ?Zk23 ?Za24 ?Zl24 ?Zc24 ?Zk24 ?Za25 ?Zl25 ?Zc25 ?Zk25 ?Za26 ?Zl26 ?Zc26 ?Zk26 ?Za27 ?Zl27 ?Zc27 ?Zk27 ?Za28 ?Zl28 ?Zc28 ?Zk28 ?Za29 ?Zl29 ?Zc29 ?Zk29 ?Za30 ?Zl30 ?Zc30 ?Zk30 ?Za31 ?Zl31 ?Zc31 ?Zk31 ?Za32 ?Zl32 ?Zc32 ?Zk32 ?Za33 ?Zl33 ?Zc33 ?Zk33 ?Zz0 ?Zz1 ?Zz2 ?Zz3 ?Zz4 ?Zz5 ?Zz6 ?Zz7 ?Zz8 ?Zz9 ?Zz10 ?Zz11 ?Zg0 ?Zg1 ?Zg2 ?Zg3 ?Zg4 ?Zx0 ?Zy0 ?Zq0 ?Zw0_0 ?Zw0_1 ?Zea0 ?Zeb0 ?Zet0 ?Zek0 ?Zei0 ?Zel0 ?Zev0 ?Zez0 ?Zef0 ?Zeg0 ?Zem0 ?Zec0 ?Zeh0 ?Zen0_0 ?Zen0_1 ?Zea1 ?Zeb1 ?Zet1 ?Zek1 ?Zei1 ?Zel1 ?Zev1 ?Zez1 ?Zef1 ?Zeg1 ?Zem1 ?Zec1 ?Zeh1 ?Zen1_0 ?Zea2 ?Zeb2 ?Zet2 ?Zer2 ?Zes2 ?Zeu2 ?Zep0 ?Zep1 ?Zep2 ?Zep3 ?Zxa0 ?Zxb0 ?Zxc0 ?Zxd0 ?Zxa1 ?Zxb1 ?Zxc1 ?Zxd1 ?Zxa2 ?Zxb2 ?Zxc2 ?Zxd2
    (case Za0 => k_is)
    (case Zl0 => k_is)
    (case Zc0 => k_is)
    (case Zk0 => k_is)
    (case Za1 => k_is)
    (case Zl1 => k_is)
    (case Zc1 => k_is)
    (case Zk1 => k_is)
    (case Za2 => k_is)
    (case Zl2 => k_is)
    (case Zc2 => k_is)
    (case Zk2 => k_is)
    (case Za3 => k_is)
    (case Zl3 => k_is)
    (case Zc3 => k_is)
    (case Zk3 => k_is)
    (case Za4 => k_is)
    (case Zl4 => k_is)
    (case Zc4 => k_is)
    (case Zk4 => k_is)
    (case Za5 => k_is)
    (case Zl5 => k_is)
    (case Zc5 => k_is)
    (case Zk5 => k_is)
    (case Za6 => k_is)
    (case Zl6 => k_is)
    (case Zc6 => k_is)
    (case Zk6 => k_is)
    (case Za7 => k_is)
    (case Zl7 => k_is)
    (case Zc7 => k_is)
    (case Zk7 => k_is)
    (case Za8 => k_is)
    (case Zl8 => k_is)
    (case Zc8 => k_is)
    (case Zk8 => k_is)
    (case Za9 => k_is)
    (case Zl9 => k_is)
    (case Zc9 => k_is)
    (case Zk9 => k_is)
    (case Za10 => k_is)
    (case Zl10 => k_is)
    (case Zc10 => k_is)
    (case Zk10 => k_is)
    (case Za11 => k_is)
    (case Zl11 => k_is)
    (case Zc11 => k_is)
    (case Zk11 => k_is)
    (case Za12 => k_is)
    (case Zl12 => k_is)
    (case Zc12 => k_is)
    (case Zk12 => k_is)
    (case Za13 => k_is)
    (case Zl13 => k_is)
    (case Zc13 => k_is)
    (case Zk13 => k_is)
    (case Za14 => k_is)
    (case Zl14 => k_is)
    (case Zc14 => k_is)
    (case Zk14 => k_is)
    (case Za15 => k_is)
    (case Zl15 => k_is)
    (case Zc15 => k_is)
    (case Zk15 => k_is)
    (case Za16 => k_is)
    (case Zl16 => k_is)
    (case Zc16 => k_is)
    (case Zk16 => k_is)
    (case Za17 => k_is)
    (case Zl17 => k_is)
    (case Zc17 => k_is)
    (case Zk17 => k_is)
    (case Za18 => k_is)
    (case Zl18 => k_is)
    (case Zc18 => k_is)
    (case Zk18 => k_is)
    (case Za19 => k_is)
    (case Zl19 => k_is)
    (case Zc19 => k_is)
    (case Zk19 => k_is)
    (case Za20 => k_is)
    (case Zl20 => k_is)
    (case Zc20 => k_is)
    (case Zk20 => k_is)
    (case Za21 => k_is)
    (case Zl21 => k_is)
    (case Zc21 => k_is)
    (case Zk21 => k_is)
    (case Za22 => k_is)
    (case Zl22 => k_is)
    (case Zc22 => k_is)
    (case Zk22 => k_is)
    (case Za23 => k_is)
    (case Zl23 => k_is)
    (case Zc23 => k_is)
    (case Zk23 => k_is)
    (case Za24 => k_is)
    (case Zl24 => k_is)
    (case Zc24 => k_is)
    (case Zk24 => k_is)
    (case Za25 => k_is)
    (case Zl25 => k_is)
    (case Zc25 => k_is)
    (case Zk25 => k_is)
    (case Za26 => k_is)
    (case Zl26 => k_is)
    (case Zc26 => k_is)
    (case Zk26 => k_is)
    (case Za27 => k_is)
    (case Zl27 => k_is)
    (case Zc27 => k_is)
    (case Zk27 => k_is)
    (case Za28 => k_is)
    (case Zl28 => k_is)
    (case Zc28 => k_is)
    (case Zk28 => k_is)
    (case Za29 => k_is)
    (case Zl29 => k_is)
    (case Zc29 => k_is)
    (case Zk29 => k_is)
    (case Za30 => k_is)
    (case Zl30 => k_is)
    (case Zc30 => k_is)
    (case Zk30 => k_is)
    (case Za31 => k_is)
    (case Zl31 => k_is)
    (case Zc31 => k_is)
    (case Zk31 => k_is)
    (case Za32 => k_is)
    (case Zl32 => k_is)
    (case Zc32 => k_is)
    (case Zk32 => k_is)
    (case Za33 => k_is)
    (case Zl33 => k_is)
    (case Zc33 => k_is)
    (case Zk33 => k_is)
    (case Zz0 => k_is)
    (case Zz1 => k_is)
    (case Zz2 => k_is)
    (case Zz3 => k_is)
    (case Zz4 => k_is)
    (case Zz5 => k_is)
    (case Zz6 => k_is)
    (case Zz7 => k_is)
    (case Zz8 => k_is)
    (case Zz9 => k_is)
    (case Zz10 => k_is)
    (case Zz11 => k_is)
    (case Zg0 => k_is)
    (case Zg1 => k_is)
    (case Zg2 => k_is)
    (case Zg3 => k_is)
    (case Zg4 => k_is)
    (case Zx0 => k_is)
    (case Zy0 => k_is)
    (case Zq0 => exact ⟨⟨_, _, rfl, rfl⟩, ⟨⟨_, _, rfl, rfl⟩, trivial⟩⟩)
    (case Zw0_0 => k_is)
    (case Zw0_1 => k_is)
    (case Zea0 => k_is)
    (case Zeb0 => k_is)
    (case Zet0 => k_is)
    (case Zek0 => k_is)
    (case Zei0 => k_is)
    (case Zel0 => k_is)
    (case Zev0 => decide +kernel)
    (case Zez0 => k_is)
    (case Zef0 => k_is)
    (case Zeg0 => k_is)
    (case Zem0 => k_is)
    (case Zec0 => k_is)
    (case Zeh0 => k_is)
    (case Zen0_0 => k_is)
    (case Zen0_1 => k_is)
    (case Zea1 => k_is)
    (case Zeb1 => k_is)
    (case Zet1 => k_is)
    (case Zek1 => k_is)
    (case Zei1 => k_is)
    (case Zel1 => k_is)
    (case Zev1 => decide +kernel)
    (case Zez1 => k_is)
    (case Zef1 => k_is)
    (case Zeg1 => k_is)
    (case Zem1 => k_is)
    (case Zec1 => k_is)
    (case Zeh1 => k_is)
    (case Zen1_0 => k_is)
    (case Zea2 => k_is)
    (case Zeb2 => k_is)
    (case Zet2 => k_is)
    (case Zer2 => k_is)
    (case Zes2 => k_is)
    (case Zeu2 => k_is)
    (case Zep0 => first | rfl | k_is)
    (case Zep1 => first | rfl | k_is)
    (case Zep2 => first | rfl | k_is)
    (case Zep3 => first | rfl | k_is)
    (case Zxa0 => k_is)
    (case Zxb0 => k_is)
    (case Zxc0 => k_is)
    (case Zxd0 => k_is)
    (case Zxa1 => k_is)
    (case Zxb1 => k_is)
    (case Zxc1 => k_is)
    (case Zxd1 => k_is)
    (case Zxa2 => k_is)
    (case Zxb2 => k_is)
    (case Zxc2 => k_is)
    (case Zxd2 => k_is)


