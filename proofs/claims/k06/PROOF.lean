import PyProof.Rows.All
import Wide.All
import OpenK.AllK
import Wide.FinOn
import HandS.ForMost
import HandS.ForExc
import HandS.IsInst
import HandS.Flow
import HandS.Evl
import HandS.Walk
import HandS.Zip
import HandS.Style
import HandS.NoneIn
import HandS.More
import HandS.CallSlots
import HandS.ExcInit
import HandS.ExcOwn
import HandS.ExcField
import HandS.TryMany
import HandS.ClsMeth
import HandS.ExcValue
import HandS.Small
import KE.GoesMore
import KE.DataEq
import KE.DataCmp
import KE.SortData
import KE.DataMinMax
import KE.DataAny
import KE.DataFind
import HandS.ExcIs
import HandS.TupAny
import HandS.Wide
import HandS.Codes
import HandS.DeepEq
import HandS.DictTup
import HandS.Conv
import HandS.Dict
import HandS.RaiseMore
import PyProof.Rows.TmSorted
import HandS.TupSets
import HandS.Strs
import HandS.ForDict
import HandS.SortKw
import HandS.Rev
import HandS.Finally
import PySem.Challenge.RW_gapcalls_k06_refusals_apart
set_option Elab.async false
set_option linter.all false
set_option autoImplicit false
set_option maxRecDepth 100000
/-! A small functional reading of the program's language: pure data, mutable cells; each form of the language is tied to the hand layer's rule of it. -/
namespace MP
open PySem PySem.Spec PyProof.Rows L2

/-! ### values, cells, stores, results -/
inductive D where
  | p (x : PyData)
  | c (n : Nat)
  | fn (x : Str)
inductive Cell where
  | lst (ds : List D)
  | tup (ds : List D)
  | dct (kvs : List (Key × D))
  | dtt (kvs : List (List Key × D))
  | ins (c : Str) (fs : List (Str × D))
  | lkd (kvs : List (Key × D))
  | lkt (kvs : List (List Key × D))
  | exv (c : Str) (fs : List (Str × D))
  | dead
/-- not locked, not frozen -/
def lv : Cell → Bool
  | .dead => false
  | .lkd _ => false
  | .lkt _ => false
  | .exv _ _ => false
  | _ => true
abbrev Store := List Cell
abbrev Env := List (Option D)
structure Exc where
  cls : Str
  fs : List (Str × D)
inductive R (α : Type) where
  | ok (a : α) (st : Store)
  | ex (e : Exc) (st : Store)
  | bad
def R.bind {α β : Type} (r : R α) (k : α → Store → R β) : R β :=
  match r with
  | .ok a st => k a st
  | .ex e st => .ex e st
  | .bad => .bad
@[simp] theorem R.bind_ok {α β : Type} (a : α) (st : Store) (k : α → Store → R β) : (R.ok a st).bind k = k a st := rfl
@[simp] theorem R.bind_ex {α β : Type} (e : Exc) (st : Store) (k : α → Store → R β) : (R.ex e st : R α).bind k = .ex e st := rfl
@[simp] theorem R.bind_bad {α β : Type} (k : α → Store → R β) : (R.bad : R α).bind k = .bad := rfl

abbrev MD := Env → Store → R D

/-! ### what represents what -/
mutual
/-- data as it lies in the heap; its tuples are tracked -/
inductive Dp (K : PySem.W.Frag) (H : Hp) : V → PyData → Prop
  | non : Dp K H .non .none
  | bl (b : Bool) : Dp K H (.bl b) (.bool b)
  | int (i : Int) : Dp K H (.int i) (.int i)
  | str (x : Str) : Dp K H (.str x) (.str x)
  | lst {a : Addr} {vs : List V} {ds : List PyData} (hs : SqL K H a vs) (ha : DpAll K H vs ds) : Dp K H (.ref a) (.list ds)
  | tup {a : Addr} {vs : List V} {ds : List PyData} (hs : H a = some (.tup vs)) (ha : DpAll K H vs ds) : Dp K H (.ref a) (.tuple ds)
inductive DpAll (K : PySem.W.Frag) (H : Hp) : List V → List PyData → Prop
  | nil : DpAll K H [] []
  | cons {v : V} {vs : List V} {d : PyData} {ds : List PyData} (h : Dp K H v d) (t : DpAll K H vs ds) : DpAll K H (v :: vs) (d :: ds)
end
mutual
theorem Dp.l2 {K : PySem.W.Frag} {H : Hp} : ∀ {d : PyData} {v : V}, Dp K H v d → L2.Dp K H v d
  | .none, _, h => by cases h; exact .non
  | .bool b, _, h => by cases h; exact .bl b
  | .int i, _, h => by cases h; exact .int i
  | .str x, _, h => by cases h; exact .str x
  | .list ds, _, h => by cases h with | lst hs ha => exact .lst hs (DpAll.l2 ha)
  | .tuple ds, _, h => by cases h with | tup hs ha => exact .tup (Evl.st_of hs) (DpAll.l2 ha)
  | .dict _, _, h => by cases h
theorem DpAll.l2 {K : PySem.W.Frag} {H : Hp} : ∀ {ds : List PyData} {vs : List V}, DpAll K H vs ds → L2.DpAll K H vs ds
  | [], _, h => by cases h; exact .nil
  | d :: ds, _, h => by cases h with | cons h1 h2 => exact .cons (Dp.l2 h1) (DpAll.l2 h2)
end
theorem Dp.reads {X : Cx} {pins : List (Addr × Obj)} {σ : L2.St} {H : Hp} {s : Shared} (I : Inv X pins σ H s) (d : PyData) (v : V) (u : Value) (h : Dp X.K H v d) (r : RelV v u) : ∃ as, Reads s.heap u d as := L2.Dp.reads I d v u h.l2 r
theorem Dp.readsAll {X : Cx} {pins : List (Addr × Obj)} {σ : L2.St} {H : Hp} {s : Shared} (I : Inv X pins σ H s) (ds : List PyData) (vs : List V) (us : List Value) (h : DpAll X.K H vs ds) (r : Vals vs us) : ∃ as, ReadsAll s.heap us ds as := L2.Dp.readsAll I ds vs us h.l2 r
section
variable (K : PySem.W.Frag)
def RD (F : Hp) (φ : List Addr) : V → D → Prop
  | v, .p x => Dp K F v x
  | v, .c n => ∃ a, φ[n]? = some a ∧ v = .ref a
  | v, .fn x => ∃ a, v = .ref a ∧ PySem.W.nsIn K mainGlobals x = some (some (.ref a))
abbrev RDs (F : Hp) (φ : List Addr) : List V → List D → Prop := Paired (RD K F φ)
/-- the pairs of a dict -/
abbrev RKs (F : Hp) (φ : List Addr) : List (Key × V) → List (Key × D) → Prop := Paired fun a b => a.1 = b.1 ∧ RD K F φ a.2 b.2
/-- named things, by pairs: keys that are tuples, attributes -/
abbrev RNs {α : Type} (F : Hp) (φ : List Addr) : List (α × V) → List (α × D) → Prop := Paired fun a b => a.1 = b.1 ∧ RD K F φ a.2 b.2
/-- where a class of the program stands -/
def clsAt (c : Str) (C : Addr) : Prop := PySem.W.nsIn K mainGlobals c = some (some (.ref C))
/-- what a cell is in the heap -/
inductive CR (F : Hp) (φ : List Addr) : Cell → HO → Prop
  | lst {ds : List D} {vs : List V} (r : RDs K F φ vs ds) : CR F φ (.lst ds) (.lst vs)
  | tup {ds : List D} {vs : List V} (r : RDs K F φ vs ds) : CR F φ (.tup ds) (.tup vs)
  | dct {kvs : List (Key × D)} {ws : List (Key × V)} (r : RKs K F φ ws kvs) : CR F φ (.dct kvs) (.dK ws)
  | dtt {kvs : List (List Key × D)} {ws : List (List Key × V)} (r : RNs K F φ ws kvs) : CR F φ (.dtt kvs) (.dT ws)
  | ins {c : Str} {C dx : Addr} {fs : List (Str × D)} {ws : List (Str × V)} (hc : clsAt K c C) (r : RNs K F φ ws fs) : CR F φ (.ins c fs) (.ins C dx ws)
/-- what is tracked of a cell that is not written any more -/
inductive OR (F : Hp) (φ : List Addr) (a : Addr) : Cell → Prop
  | dead (h : F a ≠ none) : OR F φ a .dead
  | lkd {kvs : List (Key × D)} {ws : List (Key × V)} {od : Obj} (h : F a = some (.frz od (.dK ws))) (r : RKs K F φ ws kvs) : OR F φ a (.lkd kvs)
  | lkt {kvs : List (List Key × D)} {ws : List (List Key × V)} {od : Obj} (h : F a = some (.frz od (.dT ws))) (r : RNs K F φ ws kvs) : OR F φ a (.lkt kvs)
  | exo {c : Str} {A d : Addr} {fs : List (Str × D)} {ws : List (Str × V)} (hc : clsAt K c A) (h : F a = some (L2.exo a A (some d))) (hd : F d = some (exd d ws)) (r : RNs K F φ ws fs) : OR F φ a (.exv c fs)
  | exn {c : Str} {A : Addr} (hc : clsAt K c A) (h : F a = some (ExO (.ref A) a)) : OR F φ a (.exv c [])
structure SR (F : Hp) (φ : List Addr) (st : Store) (H : Hp) : Prop where
  sub : Evl.Ex F H
  len : φ.length = st.length
  nd : φ.Nodup
  live : ∀ (n : Nat) (c : Cell), st[n]? = some c → lv c = true → ∃ a o, φ[n]? = some a ∧ F a = none ∧ H a = some o ∧ CR K F φ c o
  off : ∀ (n : Nat) (c : Cell), st[n]? = some c → lv c = false → ∃ a, φ[n]? = some a ∧ OR K F φ a c
structure ER (F : Hp) (φ : List Addr) (env : Env) (σ : L2.St) : Prop where
  len : env.length = σ.length
  val : ∀ (i : Nat) (d : D), env[i]? = some (some d) → ∃ v : V, σ[i]? = some (some v) ∧ RD K F φ v d
end
structure Ext (F : Hp) (φ : List Addr) (F' : Hp) (φ' : List Addr) : Prop where
  sub : Evl.Ex F F'
  pre : φ <+: φ'

section
variable {K : PySem.W.Frag} {F F1 F2 F' H H' : Hp} {φ φ1 φ2 φ' : List Addr} {st st1 st' : Store} {env : Env} {σ : L2.St}
theorem Ext.refl : Ext F φ F φ := ⟨Evl.Ex.refl F, List.prefix_refl φ⟩
theorem Ext.trans (a : Ext F φ F1 φ1) (b : Ext F1 φ1 F2 φ2) : Ext F φ F2 φ2 := ⟨a.sub.trans b.sub, a.pre.trans b.pre⟩
theorem Ext.at (a : Ext F φ F1 φ1) {n : Nat} {x : Addr} (h : φ[n]? = some x) : φ1[n]? = some x := by
  obtain ⟨t, rfl⟩ := a.pre
  rw [List.getElem?_append_left (List.getElem?_eq_some_iff.mp h).1]
  exact h
mutual
theorem dp_mono (e : Evl.Ex F F1) : ∀ {d : PyData} {v : V}, Dp K F v d → Dp K F1 v d
  | .none, _, h => by cases h; exact .non
  | .bool b, _, h => by cases h; exact .bl b
  | .int i, _, h => by cases h; exact .int i
  | .str x, _, h => by cases h; exact .str x
  | .list ds, _, h => by cases h with | lst hs ha => exact .lst (Evl.ex_l e hs) (dpAll_mono e ha)
  | .tuple ds, _, h => by cases h with | tup hs ha => exact .tup (e _ _ hs) (dpAll_mono e ha)
  | .dict _, _, h => by cases h
theorem dpAll_mono (e : Evl.Ex F F1) : ∀ {ds : List PyData} {vs : List V}, DpAll K F vs ds → DpAll K F1 vs ds
  | [], _, h => by cases h; exact .nil
  | d :: ds, _, h => by cases h with | cons h1 h2 => exact .cons (dp_mono e h1) (dpAll_mono e h2)
end
theorem RD.mono (e : Ext F φ F1 φ1) : ∀ {d : D} {v : V}, RD K F φ v d → RD K F1 φ1 v d
  | .p x, _, h => dp_mono e.sub h
  | .c n, _, ⟨a, h1, h2⟩ => ⟨a, e.at h1, h2⟩
  | .fn x, _, h => h
theorem RDs.mono (e : Ext F φ F1 φ1) : ∀ {vs : List V} {ds : List D}, RDs K F φ vs ds → RDs K F1 φ1 vs ds
  | _, _, .nil => .nil
  | _, _, .cons h t => .cons (h.mono e) (RDs.mono e t)
theorem ER.mono (e : Ext F φ F1 φ1) (h : ER K F φ env σ) : ER K F1 φ1 env σ := ⟨h.len, fun i d hi => let ⟨v, h1, h2⟩ := h.val i d hi; ⟨v, h1, h2.mono e⟩⟩
theorem nodup_at {α : Type} {N : List α} (hN : N.Nodup) {i j : Nat} {x : α} (a : N[i]? = some x) (b : N[j]? = some x) : i = j := by
  obtain ⟨h1, e1⟩ := List.getElem?_eq_some_iff.mp a
  obtain ⟨h2, e2⟩ := List.getElem?_eq_some_iff.mp b
  exact (List.getElem_inj hN).mp (e1.trans e2.symm)
theorem RKs.mono (e : Ext F φ F1 φ1) : ∀ {ws : List (Key × V)} {kvs : List (Key × D)}, RKs K F φ ws kvs → RKs K F1 φ1 ws kvs
  | _, _, .nil => .nil
  | _, _, .cons h t => .cons ⟨h.1, h.2.mono e⟩ (RKs.mono e t)
theorem RNs.mono {α : Type} (e : Ext F φ F1 φ1) : ∀ {ws : List (α × V)} {kvs : List (α × D)}, RNs K F φ ws kvs → RNs K F1 φ1 ws kvs
  | _, _, .nil => .nil
  | _, _, .cons h t => .cons ⟨h.1, h.2.mono e⟩ (RNs.mono e t)
theorem CR.mono (e : Ext F φ F1 φ1) {c : Cell} {o : HO} (h : CR K F φ c o) : CR K F1 φ1 c o := by
  cases h with
  | lst r => exact .lst (RDs.mono e r)
  | tup r => exact .tup (RDs.mono e r)
  | dct r => exact .dct (RKs.mono e r)
  | dtt r => exact .dtt (RNs.mono e r)
  | ins hc r => exact .ins hc (RNs.mono e r)
theorem OR.ne {a : Addr} {c : Cell} (h : OR K F φ a c) : F a ≠ none := by
  cases h with
  | dead h => exact h
  | lkd h r => rw [h]; simp
  | lkt h r => rw [h]; simp
  | exo hc h hd r => rw [h]; simp
  | exn hc h => rw [h]; simp
theorem OR.mono {a : Addr} {c : Cell} (e : Ext F φ F1 φ1) (h : OR K F φ a c) : OR K F1 φ1 a c := by
  cases h with
  | dead h =>
    refine .dead fun z => ?_
    cases q : F a with
    | none => exact h q
    | some u => rw [e.sub _ _ q] at z; cases z
  | lkd h r => exact .lkd (e.sub _ _ h) (RKs.mono e r)
  | lkt h r => exact .lkt (e.sub _ _ h) (RNs.mono e r)
  | exo hc h hd r => exact .exo hc (e.sub _ _ h) (e.sub _ _ hd) (RNs.mono e r)
  | exn hc h => exact .exn hc (e.sub _ _ h)
theorem SR.cell (h : SR K F φ st H) (n : Nat) (ds : List D) (e : st[n]? = some (Cell.lst ds)) : ∃ a vs, φ[n]? = some a ∧ F a = none ∧ H a = some (.lst vs) ∧ RDs K F φ vs ds := by
  obtain ⟨a, o, h1, h2, h3, h4⟩ := h.live n _ e rfl
  cases h4 with
  | lst r => exact ⟨a, _, h1, h2, h3, r⟩
theorem SR.dcell (h : SR K F φ st H) (n : Nat) (kvs : List (Key × D)) (e : st[n]? = some (Cell.dct kvs)) : ∃ a ws, φ[n]? = some a ∧ F a = none ∧ H a = some (.dK ws) ∧ RKs K F φ ws kvs := by
  obtain ⟨a, o, h1, h2, h3, h4⟩ := h.live n _ e rfl
  cases h4 with
  | dct r => exact ⟨a, _, h1, h2, h3, r⟩
theorem SR.tcell (h : SR K F φ st H) (n : Nat) (ds : List D) (e : st[n]? = some (Cell.tup ds)) : ∃ a vs, φ[n]? = some a ∧ F a = none ∧ H a = some (.tup vs) ∧ RDs K F φ vs ds := by
  obtain ⟨a, o, h1, h2, h3, h4⟩ := h.live n _ e rfl
  cases h4 with
  | tup r => exact ⟨a, _, h1, h2, h3, r⟩
theorem SR.ttcell (h : SR K F φ st H) (n : Nat) (kvs : List (List Key × D)) (e : st[n]? = some (Cell.dtt kvs)) : ∃ a ws, φ[n]? = some a ∧ F a = none ∧ H a = some (.dT ws) ∧ RNs K F φ ws kvs := by
  obtain ⟨a, o, h1, h2, h3, h4⟩ := h.live n _ e rfl
  cases h4 with
  | dtt r => exact ⟨a, _, h1, h2, h3, r⟩
theorem SR.icell (h : SR K F φ st H) (n : Nat) (c : Str) (fs : List (Str × D)) (e : st[n]? = some (Cell.ins c fs)) : ∃ a C dx ws, φ[n]? = some a ∧ F a = none ∧ H a = some (.ins C dx ws) ∧ clsAt K c C ∧ RNs K F φ ws fs := by
  obtain ⟨a, o, h1, h2, h3, h4⟩ := h.live n _ e rfl
  cases h4 with
  | ins hc r => exact ⟨a, _, _, _, h1, h2, h3, hc, r⟩
theorem SR.dom (h : SR K F φ st H) {a : Addr} (ha : a ∈ φ) : H a ≠ none := by
  obtain ⟨n, hn, e⟩ := List.getElem_of_mem ha
  have hn' : n < st.length := by rw [← h.len]; exact hn
  by_cases hc : lv st[n] = false
  · obtain ⟨b, e1, e2⟩ := h.off n _ (List.getElem?_eq_getElem hn') hc
    have e2 := e2.ne
    rw [List.getElem?_eq_getElem hn] at e1
    cases Option.some.inj e1
    cases hF : F φ[n] with
    | none => exact absurd hF e2
    | some o =>
      rw [← e, h.sub _ _ hF]
      simp
  · obtain ⟨b, o, e1, _, e2, _⟩ := h.live n _ (List.getElem?_eq_getElem hn') (by simpa using hc)
    rw [List.getElem?_eq_getElem hn] at e1
    cases Option.some.inj e1
    rw [← e, e2]
    simp
/-- a new object laid beside: frozen -/
theorem SR.frz (h : SR K F φ st H) {p : Addr} {o : HO} (hp : H p = none) : SR K (upd F p o) φ st (upd H p o) ∧ Ext F φ (upd F p o) φ := by
  have fp : F p = none := Evl.fresh_back h.sub hp
  have e1 : Evl.Ex F (upd F p o) := Evl.Ex.new fp
  have E : Ext F φ (upd F p o) φ := ⟨e1, List.prefix_refl φ⟩
  have np : ∀ a ∈ φ, a ≠ p := fun a ha z => by subst z; exact h.dom ha hp
  refine ⟨⟨fun a u e => ?_, h.len, h.nd, fun n ds e hd => ?_, fun n c e hc => ?_⟩, E⟩
  · by_cases ha : a = p
    · subst ha; rw [upd_same] at e ⊢; exact e
    · rw [upd_ne ha] at e ⊢; exact h.sub a u e
  · obtain ⟨a, vs, h1, h2, h3, h4⟩ := h.live n ds e hd
    have ne := np a (List.mem_of_getElem? h1)
    exact ⟨a, vs, h1, by rw [upd_ne ne]; exact h2, by rw [upd_ne ne]; exact h3, h4.mono E⟩
  · obtain ⟨a, h1, h2⟩ := h.off n c e hc
    exact ⟨a, h1, h2.mono E⟩
/-- a new object laid beside, not tracked by the frozen part (garbage, an iterator's tuple ..) -/
theorem SR.junk (h : SR K F φ st H) {p : Addr} {o : HO} (hp : H p = none) : SR K F φ st (upd H p o) := by
  have np : ∀ a ∈ φ, a ≠ p := fun a ha z => by subst z; exact h.dom ha hp
  refine ⟨fun a u e => ?_, h.len, h.nd, fun n ds e hd => ?_, h.off⟩
  · rw [upd_ne (ne_of_none (h.sub a u e) hp)]; exact h.sub a u e
  · obtain ⟨a, vs, h1, h2, h3, h4⟩ := h.live n ds e hd
    exact ⟨a, vs, h1, h2, by rw [upd_ne (np a (List.mem_of_getElem? h1))]; exact h3, h4⟩
/-- .. or written, where nothing is tracked -/
theorem SR.over (h : SR K F φ st H) {p : Addr} {o : HO} (hp : F p = none) (hn : p ∉ φ) : SR K F φ st (upd H p o) := by
  have np : ∀ a ∈ φ, a ≠ p := fun a ha z => by subst z; exact hn ha
  refine ⟨fun a u e => ?_, h.len, h.nd, fun n ds e hd => ?_, h.off⟩
  · rw [upd_ne (ne_of_none e hp)]; exact h.sub a u e
  · obtain ⟨a, vs, h1, h2, h3, h4⟩ := h.live n ds e hd
    exact ⟨a, vs, h1, h2, by rw [upd_ne (np a (List.mem_of_getElem? h1))]; exact h3, h4⟩
theorem SR.congr (h : SR K F φ st H) (hF : ∀ a u, F a = some u → H' a = some u) (hφ : ∀ a ∈ φ, F a = none → H' a = H a) : SR K F φ st H' := by
  refine ⟨hF, h.len, h.nd, fun n ds e hd => ?_, h.off⟩
  obtain ⟨a, vs, h1, h2, h3, h4⟩ := h.live n ds e hd
  exact ⟨a, vs, h1, h2, by rw [hφ a (List.mem_of_getElem? h1) h2]; exact h3, h4⟩
/-- .. a new cell -/
theorem SR.newC (h : SR K F φ st H) {p : Addr} {c : Cell} {o : HO} (hp : H p = none) (r : CR K F φ c o) (hd : lv c = true) :
    SR K F (φ ++ [p]) (st ++ [c]) (upd H p o) ∧ Ext F φ F (φ ++ [p]) ∧ (φ ++ [p])[st.length]? = some p := by
  have fp : F p = none := Evl.fresh_back h.sub hp
  have E : Ext F φ F (φ ++ [p]) := ⟨Evl.Ex.refl F, List.prefix_append φ [p]⟩
  have np : ∀ a ∈ φ, a ≠ p := fun a ha z => by subst z; exact h.dom ha hp
  have hat : (φ ++ [p])[st.length]? = some p := by rw [← h.len, List.getElem?_concat_length]
  refine ⟨⟨fun a u e => ?_, by simp [h.len], ?_, fun n ds' e hd' => ?_, fun n c' e hc' => ?_⟩, E, hat⟩
  · rw [upd_ne (ne_of_none (h.sub a u e) hp)]; exact h.sub a u e
  · rw [List.nodup_append]
    exact ⟨h.nd, by simp, fun a ha b hb => by simp at hb; subst hb; exact np a ha⟩
  · by_cases hn : n < st.length
    · rw [List.getElem?_append_left hn] at e
      obtain ⟨a, ws, h1, h2, h3, h4⟩ := h.live n ds' e hd'
      exact ⟨a, ws, E.at h1, h2, by rw [upd_ne (np a (List.mem_of_getElem? h1))]; exact h3, h4.mono E⟩
    · have hn' : n = st.length := by
        have := (List.getElem?_eq_some_iff.mp e).1
        simp at this; omega
      subst hn'
      rw [List.getElem?_concat_length] at e
      cases Option.some.inj e
      exact ⟨p, o, hat, fp, upd_same, r.mono E⟩
  · by_cases hn : n < st.length
    · rw [List.getElem?_append_left hn] at e
      obtain ⟨a, h1, h2⟩ := h.off n c' e hc'
      exact ⟨a, E.at h1, h2.mono E⟩
    · have hn' : n = st.length := by
        have := (List.getElem?_eq_some_iff.mp e).1
        simp at this; omega
      subst hn'
      rw [List.getElem?_concat_length] at e
      cases Option.some.inj e
      rw [hd] at hc'
      cases hc'
theorem SR.newCell (h : SR K F φ st H) {p : Addr} {vs : List V} {ds : List D} (hp : H p = none) (r : RDs K F φ vs ds) :
    SR K F (φ ++ [p]) (st ++ [.lst ds]) (upd H p (.lst vs)) ∧ Ext F φ F (φ ++ [p]) ∧ (φ ++ [p])[st.length]? = some p := h.newC hp (.lst r) rfl
/-- a cell written -/
theorem SR.writeC (h : SR K F φ st H) {n : Nat} {c0 c : Cell} {o : HO} {a : Addr} (hn : st[n]? = some c0) (h0 : lv c0 = true) (ha : φ[n]? = some a) (r : CR K F φ c o) (hd : lv c = true) :
    SR K F φ (st.set n c) (upd H a o) := by
  obtain ⟨a', vs0, e1, e2, e3, _⟩ := h.live n c0 hn h0
  rw [ha] at e1
  cases Option.some.inj e1
  have hl : n < st.length := (List.getElem?_eq_some_iff.mp hn).1
  have other : ∀ m b, m ≠ n → φ[m]? = some b → b ≠ a := fun m b hm hb z => by
    subst z
    exact hm (nodup_at h.nd hb ha)
  refine ⟨fun b u e => ?_, by rw [List.length_set]; exact h.len, h.nd, fun m ds' e hd' => ?_, fun m c' e hc' => ?_⟩
  · have : b ≠ a := fun z => by subst z; rw [e2] at e; cases e
    rw [upd_ne this]; exact h.sub b u e
  · by_cases hm : m = n
    · subst hm
      rw [List.getElem?_set_self hl] at e
      cases Option.some.inj e
      exact ⟨a, o, ha, e2, upd_same, r⟩
    · rw [List.getElem?_set_ne (Ne.symm hm)] at e
      obtain ⟨b, ws, h1, h2, h3, h4⟩ := h.live m ds' e hd'
      exact ⟨b, ws, h1, h2, by rw [upd_ne (other m b hm h1)]; exact h3, h4⟩
  · by_cases hm : m = n
    · subst hm
      rw [List.getElem?_set_self hl] at e
      cases Option.some.inj e
      rw [hd] at hc'
      cases hc'
    · rw [List.getElem?_set_ne (Ne.symm hm)] at e
      exact h.off m c' e hc'
theorem SR.write (h : SR K F φ st H) {n : Nat} {ds0 ds : List D} {a : Addr} {vs : List V} (hn : st[n]? = some (.lst ds0)) (ha : φ[n]? = some a) (r : RDs K F φ vs ds) :
    SR K F φ (st.set n (.lst ds)) (upd H a (.lst vs)) := h.writeC hn rfl ha (.lst r) rfl
end

/-! ### pure reading of a value -/
def D.pure? : D → Option PyData
  | .p x => some x
  | .c _ => none
  | .fn _ => none
def pures : List D → Option (List PyData)
  | [] => some []
  | .p x :: r => (pures r).map (x :: ·)
  | .c _ :: _ => none
  | .fn _ :: _ => none
@[simp] theorem pures_nil : pures [] = some [] := rfl
@[simp] theorem pures_p (x : PyData) (r : List D) : pures (.p x :: r) = (pures r).map (x :: ·) := rfl
@[simp] theorem pures_map (xs : List PyData) : pures (xs.map D.p) = some xs := by
  induction xs with
  | nil => rfl
  | cons x r ih => simp [ih]
theorem pures_some : ∀ {ds : List D} {xs : List PyData}, pures ds = some xs → ds = xs.map D.p
  | [], _, h => by cases h; rfl
  | .p x :: r, xs, h => by
    simp only [pures_p, Option.map_eq_some_iff] at h
    obtain ⟨ys, h1, rfl⟩ := h
    rw [pures_some h1]; rfl
  | .c _ :: _, _, h => by cases h
  | .fn _ :: _, _, h => by cases h
/-- the items of a cell -/
def cellL (st : Store) (n : Nat) : Option (List D) :=
  match st[n]? with
  | some (.lst ds) => some ds
  | _ => none
theorem cellL_some {st : Store} {n : Nat} {ds : List D} (h : cellL st n = some ds) : st[n]? = some (Cell.lst ds) := by
  unfold cellL at h
  split at h
  · rename_i es e
    cases Option.some.inj h
    exact e
  · cases h
/-- a value as data, through its cell -/
def toP : D → Store → Option PyData
  | .p x, _ => some x
  | .c n, st => (cellL st n).bind fun ds => (pures ds).map .list
  | .fn _, _ => none
@[simp] theorem toP_p (x : PyData) (st : Store) : toP (.p x) st = some x := rfl
theorem RDs.dpAll {K : PySem.W.Frag} {F : Hp} {φ : List Addr} : ∀ {vs : List V} {xs : List PyData}, RDs K F φ vs (xs.map D.p) → DpAll K F vs xs
  | _, [], h => by cases h; exact .nil
  | _, x :: xs, h => by cases h with | cons a t => exact .cons a (RDs.dpAll t)
theorem dpAll_rds {K : PySem.W.Frag} {F : Hp} {φ : List Addr} : ∀ {vs : List V} {xs : List PyData}, DpAll K F vs xs → RDs K F φ vs (xs.map D.p)
  | _, [], h => by cases h; exact .nil
  | _, x :: xs, h => by cases h with | cons a t => exact .cons a (dpAll_rds t)
theorem toP_ok {K : PySem.W.Frag} {F H : Hp} {φ : List Addr} {st : Store} {d : D} {v : V} {x : PyData} (S : SR K F φ st H) (r : RD K F φ v d) (h : toP d st = some x) : Dp K H v x := by
  cases d with
  | fn x => cases h
  | p y => cases Option.some.inj h; exact dp_mono S.sub r
  | c n =>
    obtain ⟨a, h1, rfl⟩ := r
    obtain ⟨ds, hc, h⟩ := Option.bind_eq_some_iff.mp h
    obtain ⟨xs, h2, rfl⟩ := Option.map_eq_some_iff.mp h
    obtain ⟨b, vs, e1, _, e2, e3⟩ := S.cell n ds (cellL_some hc)
    rw [h1] at e1
    cases Option.some.inj e1
    rw [pures_some h2] at e3
    exact .lst (Evl.sq_of e2) (dpAll_mono S.sub e3.dpAll)
/-- a list that is read: its items -/
def items : D → Store → Option (List D)
  | .p (.list xs), _ => some (xs.map .p)
  | .c n, st => cellL st n
  | _, _ => none
theorem items_ok {K : PySem.W.Frag} {F H : Hp} {φ : List Addr} {st : Store} {d : D} {v : V} {ds : List D} (S : SR K F φ st H) (r : RD K F φ v d) (h : items d st = some ds) :
    ∃ a vs, v = .ref a ∧ SqL K H a vs ∧ RDs K F φ vs ds := by
  cases d with
  | fn x => cases h
  | p y =>
    cases y with
    | list xs =>
      cases Option.some.inj h
      cases r with
      | lst hs ha => exact ⟨_, _, rfl, Evl.ex_l S.sub hs, dpAll_rds ha⟩
    | _ => cases h
  | c n =>
    obtain ⟨a, h1, rfl⟩ := r
    obtain ⟨b, vs, e1, _, e2, e3⟩ := S.cell n ds (cellL_some h)
    rw [h1] at e1
    cases Option.some.inj e1
    exact ⟨a, vs, rfl, Evl.sq_of e2, e3⟩
/-- a tuple that is read: its items -/
def tups : D → Store → Option (List D)
  | .p (.tuple xs), _ => some (xs.map .p)
  | .c n, st => match st[n]? with
    | some (.tup ds) => some ds
    | _ => none
  | _, _ => none
theorem tups_ok {K : PySem.W.Frag} {F H : Hp} {φ : List Addr} {st : Store} {d : D} {v : V} {ds : List D} (S : SR K F φ st H) (r : RD K F φ v d) (h : tups d st = some ds) :
    ∃ a vs, v = .ref a ∧ SqT K H a vs ∧ RDs K F φ vs ds := by
  cases d with
  | fn x => cases h
  | p y =>
    cases y with
    | tuple xs =>
      cases Option.some.inj h
      cases r with
      | tup hs ha => exact ⟨_, _, rfl, Evl.st_of (S.sub _ _ hs), dpAll_rds ha⟩
    | _ => cases h
  | c n =>
    obtain ⟨a, h1, rfl⟩ := r
    unfold tups at h
    simp only at h
    split at h
    · rename_i es e
      cases Option.some.inj h
      obtain ⟨b, vs, e1, _, e2, e3⟩ := S.tcell n ds e
      rw [h1] at e1
      cases Option.some.inj e1
      exact ⟨a, vs, rfl, Evl.st_of e2, e3⟩
    · cases h
theorem tup_ok {K : PySem.W.Frag} {F H : Hp} {φ : List Addr} {st : Store} {v : V} {xs : List PyData} (S : SR K F φ st H) (r : RD K F φ v (.p (.tuple xs))) :
    ∃ a vs, v = .ref a ∧ SqT K H a vs ∧ F a = some (.tup vs) ∧ RDs K F φ vs (xs.map .p) := by
  cases r with
  | tup hs ha => exact ⟨_, _, rfl, Evl.st_of (S.sub _ _ hs), hs, dpAll_rds ha⟩

/-- an exception that is raised: its class, its fields -/
def XRel (K : PySem.W.Frag) (F : Hp) (φ : List Addr) (e : Exc) (cls : Value) (oa : Option Addr) (H : Hp) : Prop :=
  ∃ C, clsAt K e.cls C ∧ cls = .ref C ∧ (e.fs = [] ∨ ∃ d ws, oa = some d ∧ H d = some (.xd ws) ∧ ∀ f x, e.fs.lookup f = some x → ∃ v, ws.lookup f = some v ∧ RD K F φ v x)
/-! ### the readings -/
abbrev XRT := Hp → List Addr → Exc → Value → Option Addr → Hp → Prop
abbrev EK := L2.St → XK
section
variable (K : PySem.W.Frag) (XR : XRT) (E : XK)
def Sat {α : Type} (Rel : Hp → List Addr → Hp → α → Prop) (F : Hp) (φ : List Addr) (r : R α) : Prop :=
  match r with
  | .ok a st' => ∀ F' φ' H', Ext F φ F' φ' → SR K F' φ' st' H' → Rel F' φ' H' a
  | .ex e st' => ∀ F' φ' H' cls oa, Ext F φ F' φ' → SR K F' φ' st' H' → XR F' φ' e cls oa H' → E cls oa H'
  | .bad => False
def QE (Q : VK) : Hp → List Addr → Hp → D → Prop := fun F' φ' H' d => ∀ v, RD K F' φ' v d → Q v H'
def QA (Q : List V → Hp → Prop) : Hp → List Addr → Hp → List D → Prop := fun F' φ' H' ds => ∀ vs, RDs K F' φ' vs ds → Q vs H'
def QT (Q : Bool → Hp → Prop) : Hp → List Addr → Hp → Bool → Prop := fun _ _ H' b => Q b H'
/-- a statement's end -/
inductive Fl where
  | nx (env : Env)
  | rt (d : D)
  | bk (env : Env)
  | ct (env : Env)
def QS (De : Ends) : Hp → List Addr → Hp → Fl → Prop := fun F' φ' H' f => match f with
  | .nx env => ∀ σ', ER K F' φ' env σ' → De.nx σ' H'
  | .rt d => ∀ v, RD K F' φ' v d → De.rt v H'
  | .bk env => ∀ σ', ER K F' φ' env σ' → De.bk σ' H'
  | .ct env => ∀ σ', ER K F' φ' env σ' → De.ct σ' H'
end
section
variable (K : PySem.W.Frag) (XR : XRT) (E : EK)
def rE (m : Env → Store → R D) : TE := fun σ H Q => ∃ env st F φ, SR K F φ st H ∧ ER K F φ env σ ∧ Sat K XR (E σ) (QE K Q) F φ (m env st)
def rA (m : Env → Store → R (List D)) : TA := fun σ H Q => ∃ env st F φ, SR K F φ st H ∧ ER K F φ env σ ∧ Sat K XR (E σ) (QA K Q) F φ (m env st)
def rT (m : Env → Store → R Bool) : TT := fun σ H Q => ∃ env st F φ, SR K F φ st H ∧ ER K F φ env σ ∧ Sat K XR (E σ) (QT Q) F φ (m env st)
def rS (m : Env → Store → R Fl) : TS := fun De σ H => ∃ env st F φ, SR K F φ st H ∧ ER K F φ env σ ∧ Sat K XR (E σ) (QS K De) F φ (m env st)
end
section
variable (K : PySem.W.Frag) (XR : XRT)
/-- operations on values -/
def rO (op : D → D → Store → R D) : R2 := fun x y H Q => ∃ E a b st F φ, SR K F φ st H ∧ RD K F φ x a ∧ RD K F φ y b ∧ Sat K XR E (QE K Q) F φ (op a b st)
def rU (op : D → Store → R D) : V → Hp → VK → Prop := fun x H Q => ∃ E a st F φ, SR K F φ st H ∧ RD K F φ x a ∧ Sat K XR E (QE K Q) F φ (op a st)
def rC (op : List D → Store → R D) : List V → Hp → VK → Prop := fun xs H Q => ∃ E ds st F φ, SR K F φ st H ∧ RDs K F φ xs ds ∧ Sat K XR E (QE K Q) F φ (op ds st)
end
section
variable {K : PySem.W.Frag} {XR : XRT} {E : XK} {F H : Hp} {φ : List Addr}
theorem Sat.ok {α : Type} {Rel : Hp → List Addr → Hp → α → Prop} {a : α} {st : Store} (h : Sat K XR E Rel F φ (.ok a st)) (S : SR K F φ st H) : Rel F φ H a := h F φ H Ext.refl S
theorem Sat.ext {α : Type} {Rel : Hp → List Addr → Hp → α → Prop} {F1 : Hp} {φ1 : List Addr} {r : R α} (e : Ext F φ F1 φ1) (h : Sat K XR E Rel F φ r) : Sat K XR E Rel F1 φ1 r := by
  cases r with
  | ok a st => exact fun F' φ' H' x S => h F' φ' H' (e.trans x) S
  | ex c st => exact fun F' φ' H' cls oa x S y => h F' φ' H' cls oa (e.trans x) S y
  | bad => exact h
/-- what is bound behind -/
theorem Sat.bind {α β : Type} {Rel : Hp → List Addr → Hp → β → Prop} {Rel' : Hp → List Addr → Hp → α → Prop} {r : R α} {k : α → Store → R β} (h : Sat K XR E Rel F φ (r.bind k))
    (f : ∀ a st F1 φ1 H1, Ext F φ F1 φ1 → SR K F1 φ1 st H1 → Sat K XR E Rel F1 φ1 (k a st) → Rel' F1 φ1 H1 a) : Sat K XR E Rel' F φ r := by
  cases r with
  | ok a st => exact fun F' φ' H' x S => f a st F' φ' H' x S (h.ext x)
  | ex c st => exact h
  | bad => exact h
end
theorem PE.imp {X : Cx} {e : Expr} {t t' : TE} (h : PE X e t) (i : ∀ σ H Q, t' σ H Q → t σ H Q) : PE X e t' := ⟨fun pins s σ H Q I hw => h.run pins s σ H Q I (i σ H Q hw)⟩
theorem PT.imp {X : Cx} {e : Expr} {t t' : TT} (h : PT X e t) (i : ∀ σ H Q, t' σ H Q → t σ H Q) : PT X e t' := ⟨fun pins s σ H Q I hw => h.run pins s σ H Q I (i σ H Q hw)⟩
theorem PW.imp {X : Cx} {e : Expr} {t t' : TT} (h : PW X e t) (i : ∀ σ H Q, t' σ H Q → t σ H Q) : PW X e t' := ⟨fun wh pins s σ H Q I hw => h.run wh pins s σ H Q I (i σ H Q hw)⟩
theorem PA.imp {X : Cx} {es : List Expr} {t t' : TA} (h : PA X es t) (i : ∀ σ H Q, t' σ H Q → t σ H Q) : PA X es t' := ⟨fun pos pins s σ H Q I hw => h.run pos pins s σ H Q I (i σ H Q hw)⟩
theorem PS.imp {X : Cx} {e : Stmt} {t t' : TS} (h : PS X e t) (i : ∀ De σ H, t' De σ H → t De σ H) : PS X e t' := ⟨fun pins s σ H De I hw => h.run pins s σ H De I (i De σ H hw)⟩
theorem PSs.imp {X : Cx} {e : List Stmt} {t t' : TS} (h : PSs X e t) (i : ∀ De σ H, t' De σ H → t De σ H) : PSs X e t' := ⟨fun pins s σ H De I hw => h.run pins s σ H De I (i De σ H hw)⟩
end MP

set_option Elab.async false
set_option linter.all false
set_option autoImplicit false
set_option maxRecDepth 100000
set_option maxHeartbeats 2000000
/-! own exceptions as values: made, asked for their class, their fields read -/
namespace MP
open PySem PySem.Spec PyProof.Rows L2
/-- C(e, ..), C's own __init__ keeping sp -/
def tMkV (C : Addr) (sp : Sp) (ta : TA) : TE := fun σ H Q => ta σ H fun vs H1 => vs.length ≤ 1000 ∧ ∀ a, H1 a = none → sp (.ref a :: vs) (upd H1 a (exo a C none))
  (fun v H2 => v = .non ∧ ∃ (d : Addr) (fs : List (Str × V)), H2 a = some (exo a C (some d)) ∧ H2 d = some (exd d fs) ∧ Q (.ref a) H2) (fun _ _ _ => False)
section
variable {X : Cx} {e : Expr} {es : List Expr} {ta : TA} {te : TE} {p pos : Pos}
theorem pe_oexV {CX : CXT} {x : Str} {C fI : Addr} {k : Nat} {fd : FuncData} {ps : List Str} {sp : Sp} (T : OexC X.K C) (iC : PySem.W.findIn X.K (.ref C) "__init__" = some (some (.ref fI))) (tI : PySem.W.typeIn X.K (.ref fI) = some (.type "function"))
    (F1 : FnOk X.prog X.w X.K X.mg X.base CX k fI fd ps sp) (hr : Room (k + 1) X.A) (hb : Binds X.K fd ps []) (hx : Passes CX X (fun _ _ _ => False)) (hg : Gl X x) (hm : X.mg x = some (.ref C)) (ha : PA X (e :: es) ta)
    (hdb : (x == ("__debug__" : Str)) = false) (he : starEach (e :: es) X.env = (false, eval e X.env) :: starEach es X.env) (hpl : (backTo pos (starEach es X.env)).any (·.1) = false) :
    PE X (.Call (.Name x p) (e :: es) [] pos) (tMkV C sp ta) := by
  refine ⟨fun pins s σ H Q I h => ?_⟩
  obtain ⟨nm, q, N, bs, bm, sn, sub, ab, col, dd, k0, k1, k2, k3, k5, hC, hbm⟩ := T.cls
  refine wpAny_Call_Name_kw (ld_glob I hg hm ?_ hdb)
  refine PySem.W.callWith_K (h₀ := X.base) I.ok.mod.kin T.kC (thn (ha.run pos pins s σ H _ I h) fun us s1 ⟨vs, H1, I1, r1, hz, q1⟩ => ⟨I1.kIn, ?_⟩) he hpl
  show wpAny _ _ (call (.ref C) us) _ _ _
  obtain ⟨hp, g, dr, tk, os⟩ := s1
  have hsz : hp.objs.size ≤ hp.objs.size + 1 := Nat.le_succ _
  have hn : H1 (hp.objs.size + 1) = none := I1.hok.fresh hsz
  have hq := q1 (hp.objs.size + 1) hn
  have kk : ∀ b o, hp.get? b = some o → ((hp.push (PySem.W.kdv_tup us)).push (PySem.HandSPX.excO C hp.objs.size)).get? b = some o := fun b o e => Heap.get?_push_of_some _ (Heap.get?_push_of_some _ e)
  have hget : ((hp.push (PySem.W.kdv_tup us)).push (PySem.HandSPX.excO C hp.objs.size)).get? (hp.objs.size + 1) = some (PySem.HandSPX.excO C hp.objs.size) := by heap_get
  have I2 : Inv X pins σ (upd H1 (hp.objs.size + 1) (exo (hp.objs.size + 1) C none)) ⟨(hp.push (PySem.W.kdv_tup us)).push (PySem.HandSPX.excO C hp.objs.size), g, dr, tk, os⟩ :=
    I1.laid (t' := tk) (a := hp.objs.size + 1) (o := exo (hp.objs.size + 1) C none) (h' := (hp.push (PySem.W.kdv_tup us)).push (PySem.HandSPX.excO C hp.objs.size)) kk hsz (exo_ok hget)
  have r2 : Vals (V.ref (hp.objs.size + 1) :: vs) (Value.ref (hp.objs.size + 1) :: us) := .cons rfl r1
  have hl : (Value.ref (hp.objs.size + 1) :: us).length = ps.length := by
    have e := r2.length
    rw [F1.len _ _ _ _ hq] at e
    exact e.symm
  have hus : us.length ≤ sizeLine := by
    rw [← Paired.length r1, sizeLine_eq]
    omega
  refine wpAny_call (PySem.HandSPX.call_own PySem.F.excBase_ValueError (fun Y => PySem.HandSPX.refsVE_contains Y bm hbm) (I1.kIn _ _ hC) (PySem.W.looks_findIn I1.kIn iC) (fun self => PySem.W.bind_fn I1.kIn self tI) hus
    (codeAny_mono (F1.run _ X.stack _ _ ⟨Value.ref (hp.objs.size + 1) :: us, []⟩ (Value.ref (hp.objs.size + 1) :: us) _ _ (fun _ _ _ => False) (hr.make C us []) (I2.env0.make C us []) (by
      have := hb _ (Value.ref (hp.objs.size + 1) :: us) I2.kIn (by rw [List.append_nil]; exact hl)
      rwa [List.append_nil] at this) r2 hq) fun r s' hq' => ?_))
  cases r with
  | error er => exact hx pins σ _ _ er s' I2 hq'
  | ok fl =>
    cases fl with
    | ret u =>
      obtain ⟨v, H2, os2, bare2, un2, hok2, rv, ev, d, fs, ea, ed, q2⟩ := hq'
      subst ev
      exact ⟨rv, .ref (hp.objs.size + 1), H2, I2.call' (ch := []) os2 un2 hok2 bare2 (fun b z => absurd z (by simp)), rfl, q2⟩
    | next => exact False.elim hq'
    | brk => exact False.elim hq'
    | cont => exact False.elim hq'
/-- e.f, e an exception that is held -/
def tXfV (K : PySem.W.Frag) (f : Str) (te : TE) : TE := fun σ H Q => te σ H fun x H1 => ∃ (a C d : Addr) (fs : List (Str × V)) (v : V), x = .ref a ∧ XfC K C ∧ PySem.W.findIn K (.ref C) f = some none ∧ H1 a = some (exo a C (some d)) ∧ H1 d = some (exd d fs) ∧ fs.lookup f = some v ∧ Q v H1
theorem pe_xfV {n : Str} (he : PE X e te) (hb : attributeBase e n X.env (eval e X.env) = eval e X.env) : PE X (.Attribute e n pos) (tXfV X.K n te) := by
  refine ⟨fun pins s σ H Q I h => ?_⟩
  refine attr_of hb (thn (he.run pins s σ H _ I h) fun u s1 hh => ?_)
  obtain ⟨x, H1, I1, rx, a, C, d, fs, v, ex, T, hno, ea, ed, l, q⟩ := hh
  subst ex
  obtain rfl : u = Value.ref a := rx
  obtain ⟨t1, ho⟩ := exo_at I1.hok ea
  obtain ⟨mA, hns, hr⟩ := exd_at I1.hok ed
  obtain ⟨od, hod, hl⟩ := lookIn_ns hns
  obtain ⟨u, hu, ru⟩ := RelO.some_of (v := v) (o := mA n) (by rw [← l]; exact hr n)
  have J : PySem.W.InstAt s1.heap a { cls := .ref C, dict := some d, data := .fields #[.ref t1, .none, .none, .none, .bool false, .none] } C (some od) := ⟨ho, rfl, rfl, hod⟩
  exact HandSPX.exc_get I1.kIn J T.ga T.gg T.exC (PySem.W.findObj_own T.hdC hno rfl (by rw [hl, hu])) (handed_of ru) ⟨v, H1, I1.tok _, ru, q⟩
end
end MP
namespace PySem.W
open PySem PySem.Spec PySem.Calls PyProof.Rows
section
variable {prog : Program} {w : World} {A : Around} {E : Value → Shared → Prop} {s : Shared} {K : Frag} {x D : Addr} {ox : Obj} {od : Option Obj}
theorem findObj_dataV {C : Addr} {name : Str} {a g : Value} (hc : (clsIn K C).isSome = true) (ha : findIn K (.ref C) name = some (some a)) (hg : specialIn K a "__get__" = some (some g)) (ht : takesIn K a = some true) : findObj K C od name = some (.bind g a) := by
  obtain ⟨cd, hc⟩ := Option.isSome_iff_exists.mp hc
  unfold findObj
  rw [hc, Option.bind_some, ha, Option.bind_some]
  simp [hg, ht]
theorem kin_classV {Q : Option Value → Shared → Prop} (hga : findIn K (.ref D) "__getattribute__" = some (some (.builtin "BaseException.__getattribute__"))) (hgt : findIn K (.ref D) "__getattr__" = some none) (hsub : subIn K (.ref D) (.type "BaseException") = some true)
    (hdct : hasDictIn K D = true) (ha : findIn K (.ref D) "__class__" = some (some (.builtin "object.__class__")))
    (hn : specialIn K (.builtin "object.__class__") "__get__" = some (some (.builtin "getset_descriptor.__get__"))) (htk : takesIn K (.builtin "object.__class__") = some true) (hm : mroIn K D (.type "object") = some true)
    (X : K.In s.heap) (I : InstAt s.heap x ox D od) (h : Q (some (.ref D)) { s with toks := s.toks + 1 }) : wpAny (model prog w) A (getAttr? (.ref x) "__class__") Q E s := by
  have hf : findObj K D od "__class__" = some (.bind (.builtin "getset_descriptor.__get__") (.builtin "object.__class__")) := findObj_dataV (by obtain ⟨cd, hc, _⟩ := any_some hdct; rw [hc]; rfl) ha hn htk
  obtain ⟨hp, g, d, t, os⟩ := s
  have L0 := I.type (M := model prog w)
  have L1 := looks_findIn (M := model prog w) X hga
  have L2 := looks_findIn (M := model prog w) X hgt
  have L3 := looks_find (M := model prog w) X I hf
  have sub : Looks (model prog w) hp (isInstance (.ref x) (.type "BaseException")) true := L0.andThen (looks_subIn X hsub)
  have hx0 : (false && onTheHeap (Value.builtin "BaseException.__getattribute__")) = false := rfl
  have hx2 : (Value.builtin "BaseException.__getattribute__" == Value.builtin "object.__getattribute__") = false := by decide +kernel
  have hx1 : (onTheHeap (Value.ref D) && Value.builtin "BaseException.__getattribute__" == Value.builtin "object.__getattribute__") = false := by rw [hx2]; rfl
  unfold getAttr? getAttrBy? getAttrBy
  refine wpAny_bind (wpAny_mkText (wpAny_bind (wpAny_attempt (wpAny_holding (wpAny_bind (L0.at (wpAny_bind (L1.at ?_))))))))
  show wpAny _ _ (if (onTheHeap (Value.ref D) && Value.builtin "BaseException.__getattribute__" == Value.builtin "object.__getattribute__") = true then _ else _) _ _ _
  rw [hx1, if_neg Bool.false_ne_true]
  unfold getAttrByItsOwn hookBefore
  refine wpAny_bind ?_
  rw [if_pos (show onTheHeap (Value.ref D) = true from rfl)]
  refine L2.at ?_
  refine wpAny_bind (wpAny_attempt (wpAny_holding ?_))
  unfold callGetattribute
  rw [hx0, if_neg Bool.false_ne_true]
  unfold boundAndCalled
  rw [PySem.F.excAttr_ValueError.ga.bind (.ref x)]
  refine wpAny_bind (wpAny_pure ?_)
  show wpAny _ _ (call (.builtin "BaseException.__getattribute__") [.ref x, .str "__class__" t]) _ _ _
  refine wpAny_call (codeAny_call_builtin PySem.F.excAttr_ValueError.ga.plain PySem.F.entry_bexc_ga ?_)
  refine @check_slot (model prog w) _ _ ⟨hp, g, d, t + 1, os⟩ "BaseException.__getattribute__" "BaseException" "__getattribute__" (.ref x) [.str "__class__" t] [] _ (by decide +kernel) (by decide +kernel) sub (PySem.F.args_bexc_ga (.ref x) (.str "__class__" t)) ?_
  unfold Builtin.«object.__getattribute__»
  refine wpAny_bind (wpAny_of_eq (a := ((Value.ref x : Value), [Value.str "__class__" t])) (by first | rfl | (simp only [slotArgs]; rfl)) ?_)
  refine wpAny_bind (wpAny_pure (wpAny_bind (L0.at (wpAny_bind (L3.at ?_)))))
  show wpAny _ _ (holding [Value.builtin "object.__class__"] (call (.builtin "getset_descriptor.__get__") [.builtin "object.__class__", .ref x, .ref D]) >>= ret) _ _ _
  refine wpAny_bind (wpAny_holding (wpAny_call (class_get (s := ⟨hp, g, d, t + 1, os⟩) (ox := ox) (od := od) X I hm ?_)))
  refine wpAny_pure ?_
  show wpAny _ _ (handedOut (.ref D)) _ _ _
  rw [handedOut_of (v := .ref D) rfl]
  first
    | exact wpAny_pure (wpAny_pure h)
    | exact wpAny_pure h
    | exact wpAny_pure (wpAny_bind (wpAny_pure (wpAny_pure h)))
theorem kitx_excV (hga : findIn K (.ref D) "__getattribute__" = some (some (.builtin "BaseException.__getattribute__"))) (hgt : findIn K (.ref D) "__getattr__" = some none) (hsub : subIn K (.ref D) (.type "BaseException") = some true) (hdct : hasDictIn K D = true) (ha : findIn K (.ref D) "__class__" = some (some (.builtin "object.__class__")))
    (hn : specialIn K (.builtin "object.__class__") "__get__" = some (some (.builtin "getset_descriptor.__get__"))) (htk : takesIn K (.builtin "object.__class__") = some true) (hm : mroIn K D (.type "object") = some true) :
    KitX K (.ref x) (.ref D) (fun h => InstAt h x ox D od) where
  ty := fun _ _ _ I => I.type
  it := fun _ _ X _ => by
    obtain ⟨cdD, hcD, _⟩ := any_some hdct
    unfold clsIn at hcD
    split at hcD
    · rename_i c' d' cd' sl' ho
      intro A' Q' E' s' k q
      unfold isType loadHead
      exact wpAny_bind (wpAny_loadPart (k _ _ (X _ _ ho)) (wpAny_pure q))
    · cases hcD
  ne := fun h tp dd its n sl X htp => by
    obtain ⟨cdD, hcD, _⟩ := any_some hdct
    refine Bool.eq_false_iff.mpr fun q => ?_
    have e : D = tp := Value.ref.inj (beq_iff_eq.mp q)
    subst e
    unfold clsIn at hcD
    split at hcD
    · rename_i c' d' cd' sl' ho
      have z := (X _ _ ho).symm.trans htp
      cases z
    · cases hcD
  ca := fun X I k => kin_classV hga hgt hsub hdct ha hn htk hm X I k
end
end PySem.W
namespace MP
open PySem PySem.Spec PyProof.Rows L2
/-- an exception of the class at C that is held at a -/
def HeldE (H : Hp) (a C : Addr) : Prop := (∃ d, H a = some (exo a C d) ∧ (d = none ∨ ∃ dx fs, d = some dx ∧ H dx = some (exd dx fs))) ∨ H a = some (ExO (.ref C) a)
theorem exO_at {P : Program} {w : World} {H : Hp} {h : Heap} {a : Addr} {cls : Value} (hok : HOk P w H h) (e : H a = some (ExO cls a)) : ∃ (oe : Obj) (vs : Array Value), h.get? a = some oe ∧ Zc cls none oe ∧ oe.data = .fields vs := by
  have x : ObjOk P w H h a (.ext fun h => ∃ (oe : Obj) (vs : Array Value), h.get? a = some oe ∧ Zc cls none oe ∧ oe.data = .fields vs ∧ vs[1]? = some .none ∧ vs[2]? = some .none ∧ 4 < vs.size) := hok a _ e
  obtain ⟨⟨oe, vs, h1, h2, h3, _⟩, _⟩ := x
  exact ⟨oe, vs, h1, h2, h3⟩
theorem held_inst {P : Program} {w : World} {H : Hp} {h : Heap} {a C : Addr} (hok : HOk P w H h) (e : HeldE H a C) : ∃ oe od, PySem.W.InstAt h a oe C od := by
  rcases e with ⟨d, ea, hd⟩ | ea
  · obtain ⟨t1, ho⟩ := exo_at hok ea
    rcases hd with rfl | ⟨dx, fs, rfl, ed⟩
    · exact ⟨_, none, ho, rfl, rfl, trivial⟩
    · obtain ⟨mA, hns, hr⟩ := exd_at hok ed
      obtain ⟨od, hod, hl⟩ := lookIn_ns hns
      exact ⟨_, some od, ho, rfl, rfl, hod⟩
  · obtain ⟨oe, vs, h1, ⟨h2, h3⟩, h4⟩ := exO_at hok ea
    obtain ⟨oc, od, oda, osl⟩ := oe
    dsimp only at h2 h3 h4
    subst h2 h3 h4
    exact ⟨_, none, h1, rfl, rfl, trivial⟩
/-- isinstance(e, c), e an exception that is held -/
def rIsV (K : PySem.W.Frag) : List V → Hp → VK → Prop := fun xs H Q => ∃ (a D : Addr) (c : V) (cv : Value) (b : Bool), xs = [.ref a, c] ∧ ExcC K D ∧ HeldE H a D ∧ (∀ u, RelV c u → u = cv) ∧ PySem.W.kitOne K (.ref D) cv = some b ∧ Q (.bl b) H
theorem call_isV {X : Cx} : CallR X (.builtin "isinstance") (rIsV X.K) := by
  intro pins s σ H xs us Q I r h
  obtain ⟨a, D, c, cv, b, rfl, C, hh, hcv, e, q⟩ := h
  cases r with
  | cons rx rr =>
    cases rr with
    | cons rt rr =>
      cases rr
      cases rx
      have ec := hcv _ rt
      subst ec
      obtain ⟨oe, od, J⟩ := held_inst I.hok hh
      exact PySem.W.kia_one (PySem.W.kitx_excV C.hg C.hk C.hs C.hd C.ha C.hn C.ht C.hm) I.kIn J e (fun z => nomatch z) fun tk => ⟨.bl b, H, I.kept (t' := tk) fun _ _ z => z, rfl, q⟩
end MP

set_option Elab.async false
set_option linter.all false
set_option autoImplicit false
set_option maxRecDepth 100000
set_option maxHeartbeats 1000000
/-! operations on values -/
namespace MP
open PySem PySem.Spec PyProof.Rows L2

/-- the size below which every text, list and tuple of ours stays -/
def SZ : Nat := 100000
theorem sz_ok {n : Nat} (h : n ≤ SZ) : n ≤ sizeLine := Nat.le_trans h (by decide)

section
variable {K : PySem.W.Frag} {F : Hp} {φ : List Addr}
theorem rd_int {i : Int} : RD K F φ (.int i) (.p (.int i)) := Dp.int i
theorem rd_str {i : Str} : RD K F φ (.str i) (.p (.str i)) := Dp.str i
theorem rd_bl {i : Bool} : RD K F φ (.bl i) (.p (.bool i)) := Dp.bl i
theorem rd_non : RD K F φ .non (.p .none) := Dp.non
end
section
variable {K : PySem.W.Frag} {XR : XRT} {E : XK} {F H : Hp} {φ : List Addr} {st : Store} {Q : VK}
theorem sat_val {v : V} {d : D} (S : SR K F φ st H) (r : RD K F φ v d) (h : Sat K XR E (QE K Q) F φ (.ok d st)) : Q v H := h F φ H Ext.refl S v r
theorem sat_newL {p : Addr} {vs : List V} {xs : List PyData} (S : SR K F φ st H) (hp : H p = none) (r : DpAll K F vs xs) (h : Sat K XR E (QE K Q) F φ (.ok (.p (.list xs)) st)) : Q (.ref p) (upd H p (.lst vs)) := by
  obtain ⟨S', e⟩ := S.frz (o := .lst vs) hp
  exact h _ _ _ e S' _ (.lst (Evl.sq_of upd_same) (dpAll_mono e.sub r))
theorem sat_newT {p : Addr} {vs : List V} {xs : List PyData} (S : SR K F φ st H) (hp : H p = none) (r : DpAll K F vs xs) (h : Sat K XR E (QE K Q) F φ (.ok (.p (.tuple xs)) st)) : Q (.ref p) (upd H p (.tup vs)) := by
  obtain ⟨S', e⟩ := S.frz (o := .tup vs) hp
  exact h _ _ _ e S' _ (.tup upd_same (dpAll_mono e.sub r))
theorem sat_newC {p : Addr} {vs : List V} {ds : List D} (S : SR K F φ st H) (hp : H p = none) (r : RDs K F φ vs ds) (h : Sat K XR E (QE K Q) F φ (.ok (.c st.length) (st ++ [.lst ds]))) : Q (.ref p) (upd H p (.lst vs)) := by
  obtain ⟨S', e, ha⟩ := S.newCell hp r
  exact h _ _ _ e S' _ ⟨p, ha, rfl⟩
end
/-- a list made: frozen data, or a cell -/
def mkL (c : Bool) (ds : List D) (st : Store) : R D :=
  match c with
  | true => .ok (.c st.length) (st ++ [.lst ds])
  | false => match pures ds with
    | some xs => .ok (.p (.list xs)) st
    | none => .ok (.c st.length) (st ++ [.lst ds])
/-- a tuple made -/
def mkT (ds : List D) (st : Store) : R D :=
  match pures ds with
  | some xs => .ok (.p (.tuple xs)) st
  | none => .ok (.c st.length) (st ++ [.tup ds])
@[simp] theorem mkL_true (ds : List D) (st : Store) : mkL true ds st = .ok (.c st.length) (st ++ [.lst ds]) := rfl
@[simp] theorem mkL_p (xs : List PyData) (st : Store) : mkL false (xs.map .p) st = .ok (.p (.list xs)) st := by
  unfold mkL; rw [pures_map]
section
variable {K : PySem.W.Frag} {XR : XRT} {E : XK} {F H : Hp} {φ : List Addr} {st : Store} {Q : VK}
theorem sat_mkL {c : Bool} {p : Addr} {vs : List V} {ds : List D} (S : SR K F φ st H) (hp : H p = none) (r : RDs K F φ vs ds) (h : Sat K XR E (QE K Q) F φ (mkL c ds st)) : Q (.ref p) (upd H p (.lst vs)) := by
  cases c with
  | true => exact sat_newC S hp r h
  | false =>
    unfold mkL at h
    cases e : pures ds with
    | none => rw [e] at h; exact sat_newC S hp r h
    | some xs =>
      rw [e] at h
      rw [pures_some e] at r
      exact sat_newL S hp r.dpAll h
theorem sat_cell {p : Addr} {o : HO} {c : Cell} (S : SR K F φ st H) (hp : H p = none) (r : CR K F φ c o) (hd : lv c = true) (h : Sat K XR E (QE K Q) F φ (.ok (.c st.length) (st ++ [c]))) : Q (.ref p) (upd H p o) := by
  obtain ⟨S', e, ha⟩ := S.newC hp r hd
  exact h _ _ _ e S' _ ⟨p, ha, rfl⟩
theorem sat_mkT {p : Addr} {vs : List V} {ds : List D} (S : SR K F φ st H) (hp : H p = none) (r : RDs K F φ vs ds) (h : Sat K XR E (QE K Q) F φ (mkT ds st)) : Q (.ref p) (upd H p (.tup vs)) := by
  unfold mkT at h
  cases e : pures ds with
  | none => rw [e] at h; exact sat_cell S hp (.tup r) rfl h
  | some xs =>
    rw [e] at h
    rw [pures_some e] at r
    exact sat_newT S hp r.dpAll h
end

/-! ### + - * // % ** -/
def addD (a b : D) (st : Store) : R D :=
  match a, b with
  | .p (.int i), .p (.int j) => .ok (.p (.int (i + j))) st
  | .p (.str x), .p (.str y) => if x.length + y.length ≤ SZ then .ok (.p (.str (x ++ y))) st else .bad
  | .p (.tuple xs), .p (.tuple ys) => if xs.length + ys.length ≤ SZ then .ok (.p (.tuple (xs ++ ys))) st else .bad
  | a, b => match items a st, items b st with
    | some xs, some ys => if xs.length + ys.length ≤ SZ then mkL false (xs ++ ys) st else .bad
    | _, _ => .bad
def subD (a b : D) (st : Store) : R D :=
  match a, b with
  | .p (.int i), .p (.int j) => .ok (.p (.int (i - j))) st
  | _, _ => .bad
def mulOk (i j : Int) : Bool := decide (i.natAbs < 2 ^ 64) || decide (j.natAbs < 2 ^ 64)
def mulD (a b : D) (st : Store) : R D :=
  match a, b with
  | .p (.int i), .p (.int j) => if mulOk i j then .ok (.p (.int (i * j))) st else .bad
  | .p (.str x), .p (.int k) => if k = 0 then .ok (.p (.str Str.empty)) st else if k = 1 then .ok (.p (.str x)) st else .bad
  | a, .p (.int k) => match items a st with
    | some xs => if 0 ≤ k ∧ k ≤ 1000 ∧ xs.length * k.toNat ≤ SZ then mkL false (List.replicate k.toNat xs).flatten st else .bad
    | none => .bad
  | _, _ => .bad
def divD (a b : D) (st : Store) : R D :=
  match a, b with
  | .p (.int i), .p (.int j) => if 0 < j ∧ j < 2 ^ 100 then .ok (.p (.int (i / j))) st else .bad
  | _, _ => .bad
def modD (a b : D) (st : Store) : R D :=
  match a, b with
  | .p (.int i), .p (.int j) => if 0 < j then .ok (.p (.int (i % j))) st else .bad
  | _, _ => .bad
def powD (a b : D) (st : Store) : R D :=
  match a, b with
  | .p (.int i), .p (.int j) => if 0 ≤ j ∧ j ≤ 100 ∧ i.natAbs < 2 ^ 64 then .ok (.p (.int (i ^ j.toNat))) st else .bad
  | _, _ => .bad
section
variable {X : Cx} {XR : XRT} {E : XK}
theorem RD.int {K : PySem.W.Frag} {F : Hp} {φ : List Addr} {v : V} {i : Int} (r : RD K F φ v (.p (.int i))) : v = .int i := by cases r; rfl
theorem RD.str {K : PySem.W.Frag} {F : Hp} {φ : List Addr} {v : V} {i : Str} (r : RD K F φ v (.p (.str i))) : v = .str i := by cases r; rfl
theorem RD.bl {K : PySem.W.Frag} {F : Hp} {φ : List Addr} {v : V} {i : Bool} (r : RD K F φ v (.p (.bool i))) : v = .bl i := by cases r; rfl
theorem RD.non {K : PySem.W.Frag} {F : Hp} {φ : List Addr} {v : V} (r : RD K F φ v (.p .none)) : v = .non := by cases r; rfl
theorem Vals.map_len {α : Type} : True := trivial

/-- list + list, wherever they stand -/
def rCatL (K : PySem.W.Frag) : R2 := fun x y H Q => ∃ l b xs zs, x = .ref l ∧ y = .ref b ∧ SqL K H l xs ∧ SqL K H b zs ∧ xs.length + zs.length ≤ sizeLine ∧ ∀ p, H p = none → Q (.ref p) (upd H p (.lst (xs ++ zs)))
theorem op_catL : OpR X (binaryOp .Add) (rCatL X.K) := by
  intro pins s σ H x y v u Q I rx ry h
  obtain ⟨l, b, xs, zs, rfl, rfl, hH, hB, hz, q⟩ := h
  cases rx
  cases ry
  obtain ⟨its, r, hl, _⟩ := I.list hH
  obtain ⟨its2, r2, hb, _⟩ := I.list hB
  obtain ⟨⟨cls, dd, data, sl⟩, n, ho, hc, hdd, hd⟩ := id hl
  obtain ⟨⟨cls2, dd2, data2, sl2⟩, n2, ho2, hc2, hdd2, hd2⟩ := id hb
  simp only at hc hd hc2 hd2 hdd hdd2
  subst hc hd hc2 hd2 hdd hdd2
  have e : its.toArray ++ its2.toArray = (its ++ its2).toArray := by simp
  have l1 := r.length
  have l2 := r2.length
  refine concat_meets ⟨_, ho, rfl⟩ ⟨_, ho2, rfl⟩ noFill_list_add seq_list_add PySem.F.slot_list_add PySem.F.entry_list_add (PySem.F.args_list_add_2 _ _) (list_addW l b its.toArray its2.toArray n n2 none none sl sl2 (by simp; omega)) ⟨ho, ho2, ?_⟩
  rw [e]
  exact ⟨.ref _, _, I.lnew (t' := s.toks) (r.append r2) (by rw [List.length_append]; omega), rfl, q _ I.fresh⟩

theorem rds_append {K : PySem.W.Frag} {F : Hp} {φ : List Addr} : ∀ {vs ws : List V} {xs ys : List D}, RDs K F φ vs xs → RDs K F φ ws ys → RDs K F φ (vs ++ ws) (xs ++ ys)
  | _, _, _, _, .nil, h => h
  | _, _, _, _, .cons a t, h => .cons a (rds_append t h)
theorem rds_length {K : PySem.W.Frag} {F : Hp} {φ : List Addr} {vs : List V} {xs : List D} (h : RDs K F φ vs xs) : vs.length = xs.length := Paired.length h
theorem rds_take {K : PySem.W.Frag} {F : Hp} {φ : List Addr} : ∀ {vs : List V} {xs : List D} (n : Nat), RDs K F φ vs xs → RDs K F φ (vs.take n) (xs.take n)
  | _, _, 0, _ => .nil
  | _, _, _ + 1, .nil => .nil
  | _, _, n + 1, .cons a t => .cons a (rds_take n t)
theorem rds_drop {K : PySem.W.Frag} {F : Hp} {φ : List Addr} : ∀ {vs : List V} {xs : List D} (n : Nat), RDs K F φ vs xs → RDs K F φ (vs.drop n) (xs.drop n)
  | _, _, 0, h => h
  | _, _, _ + 1, .nil => .nil
  | _, _, n + 1, .cons a t => rds_drop n t
theorem rds_get {K : PySem.W.Frag} {F : Hp} {φ : List Addr} : ∀ {vs : List V} {xs : List D} {i : Nat} {d : D}, RDs K F φ vs xs → xs[i]? = some d → ∃ v, vs[i]? = some v ∧ RD K F φ v d
  | _, _, 0, _, .cons a t, h => by cases Option.some.inj h; exact ⟨_, rfl, a⟩
  | _, _, i + 1, _, .cons a t, h => rds_get (i := i) t h
  | _, _, _, _, .nil, h => by simp at h
theorem rds_get' {K : PySem.W.Frag} {F : Hp} {φ : List Addr} : ∀ {vs : List V} {xs : List D} {i : Nat} {v : V}, RDs K F φ vs xs → vs[i]? = some v → ∃ d, xs[i]? = some d ∧ RD K F φ v d
  | _, _, 0, _, .cons a t, h => by cases Option.some.inj h; exact ⟨_, rfl, a⟩
  | _, _, i + 1, _, .cons a t, h => rds_get' (i := i) t h
  | _, _, _, _, .nil, h => by simp at h
theorem rds_set {K : PySem.W.Frag} {F : Hp} {φ : List Addr} {v : V} {d : D} (r : RD K F φ v d) : ∀ {vs : List V} {xs : List D} (n : Nat), RDs K F φ vs xs → RDs K F φ (vs.set n v) (xs.set n d)
  | _, _, _, .nil => .nil
  | _, _, 0, .cons _ t => .cons r t
  | _, _, n + 1, .cons a t => .cons a (rds_set r n t)
theorem rds_reverse {K : PySem.W.Frag} {F : Hp} {φ : List Addr} {vs : List V} {xs : List D} (h : RDs K F φ vs xs) : RDs K F φ vs.reverse xs.reverse := by
  induction h with
  | nil => exact .nil
  | cons a t ih => rw [List.reverse_cons, List.reverse_cons]; exact rds_append ih (.cons a .nil)

theorem o_add : OpR X (binaryOp .Add) (rO X.K XR addD) := by
  intro pins s σ H x y v u Q I rx ry h
  obtain ⟨E, a, b, st, F, φ, S, ra, rb, h⟩ := h
  have lists : ∀ xs ys, items a st = some xs → items b st = some ys → Sat X.K XR E (QE X.K Q) F φ (if xs.length + ys.length ≤ SZ then mkL false (xs ++ ys) st else .bad) → wpAny (model X.prog X.w) X.A (binaryOp .Add v u) (EP X pins σ Q) X.xe s := by
    intro xs ys ea eb h
    by_cases hz : xs.length + ys.length ≤ SZ
    · rw [if_pos hz] at h
      obtain ⟨l, vs, rfl, hl, r1⟩ := items_ok S ra ea
      obtain ⟨m, ws, rfl, hm, r2⟩ := items_ok S rb eb
      refine op_catL pins s σ H _ _ v u Q I rx ry ⟨l, m, vs, ws, rfl, rfl, hl, hm, ?_, fun p hp => sat_mkL S hp (rds_append r1 r2) h⟩
      rw [rds_length r1, rds_length r2]
      exact sz_ok hz
    · rw [if_neg hz] at h; exact h.elim
  unfold addD at h
  split at h
  · rename_i i j
    exact op_add pins s σ H _ _ v u Q I rx ry ⟨i, j, ra.int, rb.int, sat_val S rd_int h⟩
  · rename_i i j
    split at h
    · rename_i hz
      exact op_add_str pins s σ H _ _ v u Q I rx ry ⟨i, j, ra.str, rb.str, sz_ok hz, sat_val S rd_str h⟩
    · exact h.elim
  · rename_i xs ys
    split at h
    · rename_i hz
      obtain ⟨l, vs, rfl, hl, hlF, r1⟩ := tup_ok S ra
      obtain ⟨m, ws, rfl, hm, hmF, r2⟩ := tup_ok S rb
      have l1 := rds_length r1
      have l2 := rds_length r2
      rw [List.length_map] at l1 l2
      have rr := rds_append r1 r2
      rw [← List.map_append] at rr
      refine op_catA pins s σ H _ _ v u Q I rx ry ⟨l, m, vs, ws, rfl, rfl, hl, hm, ?_, fun e => ?_, fun _ e => ?_, fun _ _ p hp => sat_newT S hp rr.dpAll h⟩
      · rw [l1, l2]; exact sz_ok hz
      · subst e
        have : xs = [] := by rw [← List.length_eq_zero_iff]; exact l1.symm
        subst this
        exact sat_val S (show RD X.K F φ _ (.p _) from Dp.tup hmF r2.dpAll) h
      · subst e
        have : ys = [] := by rw [← List.length_eq_zero_iff]; exact l2.symm
        subst this
        rw [List.append_nil] at h
        exact sat_val S (show RD X.K F φ _ (.p _) from Dp.tup hlF r1.dpAll) h
    · exact h.elim
  · split at h
    · rename_i xs ys e1 e2
      exact lists xs ys e1 e2 h
    · exact h.elim
theorem o_sub : OpR X (binaryOp .Sub) (rO X.K XR subD) := by
  intro pins s σ H x y v u Q I rx ry h
  obtain ⟨E, a, b, st, F, φ, S, ra, rb, h⟩ := h
  unfold subD at h
  split at h
  · rename_i i j
    exact op_sub pins s σ H _ _ v u Q I rx ry ⟨i, j, ra.int, rb.int, sat_val S rd_int h⟩
  · exact h.elim
theorem qq_mul (l : Addr) (es : Array Value) (n : Nat) (dd : Option Addr) (ss : Array (Option Value)) (k : Int) (u : Tok)
    (c0 : ¬(!Builtin.List.listFitsIndex k) = true) (c1 : ¬es.size * k.toNat > (2 ^ 63 - 1) / 8) (c2 : ¬Builtin.List.listTooLong (es.size * k.toNat) = true) :
    Meets (Builtin.«list.__mul__» ⟨[.ref l, .int k u], []⟩) (fun _ R z => z.heap.get? l = some { cls := .type "list", dict := dd, data := .seq es n, slots := ss } ∧
      R (.ok (.ret (Value.ref z.heap.objs.size))) { z with heap := z.heap.push { cls := Value.type "list", data := Data.seq (List.foldl (fun x1 x2 => x1 ++ x2) #[] (List.replicate (if es.isEmpty = true then 0 else k.toNat) es)) }, toks := z.toks }) :=
  .of_wp fun p w A R z hz => by
    obtain ⟨a1, a2, a3, a4, a5⟩ := z
    obtain ⟨b1, b2⟩ := hz
    have fits := AutoListH.joined_fits c2
    wp_walk
    refine wpAny_ite_false (decide_eq_false (Nat.not_lt.mpr fits)) ?_
    wp_walk
    exact ⟨_, rfl, b2⟩
theorem qq_rmul (k : Int) (u : Tok) (l : Addr) (es : Array Value) (n : Nat) (dd : Option Addr) (ss : Array (Option Value)) :
    Meets (Builtin.«int.__rmul__» ⟨[.int k u, .ref l], []⟩) (fun _ R z => z.heap.get? l = some { cls := .type "list", dict := dd, data := .seq es n, slots := ss } ∧ R (.ok (.ret Value.notImplemented)) z) :=
  .of_wp fun p w A R z hz => by
    obtain ⟨a1, a2, a3, a4, a5⟩ := z
    obtain ⟨b1, b2⟩ := hz
    wp_walk
    exact ⟨_, rfl, b2⟩
/-- a list, frozen or not, times a whole number -/
theorem op_repS : OpR X (binaryOp .Mult) (fun x y H Q => ∃ a k vs, x = V.ref a ∧ y = V.int k ∧ SqL X.K H a vs ∧ 0 ≤ k ∧ k ≤ 1000 ∧ vs.length * k.toNat ≤ sizeLine ∧ ∀ p, H p = none → Q (.ref p) (upd H p (.lst (List.replicate k.toNat vs).flatten))) := by
  intro pins z τ H x y v u Q I rx ry h
  obtain ⟨a, k, vs, rfl, rfl, hs, h0, h1, hz, q⟩ := h
  obtain rfl : v = Value.ref a := rx
  obtain ⟨t, rfl⟩ : ∃ t, u = Value.int k t := ry
  obtain ⟨es, rv, ⟨⟨cc, dd, data, ss⟩, n, ho, hc, hdn, hd⟩, hlen⟩ := I.list hs
  have hc1 : cc = Value.type "list" := hc
  have hd1 : data = Data.seq es.toArray n := hd
  subst hc1 hd1
  have fit : es.toArray.size * k.toNat ≤ sizeLine := by
    rw [List.size_toArray, ← rv.length]
    exact hz
  have big := sizeLine_eq
  refine wpAny_binaryOp_repeat_ref (T := "list") (U := "int") (by decide) ⟨_, ho, rfl⟩
    (fun s' => typeIs_int s' k t) noFill_list_mul F.fills_int_mul F.slot_int_rmul repeat_list
    F.slot_int_index.lookup ?_
  refine call_meets F.slot_int_rmul (typeIs_int _ k t) F.entry_int_rmul (F.args_int_rmul_2 _ _)
    (qq_rmul k t a es.toArray n dd ss) ⟨ho, rfl, ⟨_, ho, rfl⟩, ?_⟩
  refine call_meets F.slot_list_mul ⟨_, ho, rfl⟩ F.entry_list_mul (F.args_list_mul_2 _ _)
    (qq_mul a es.toArray n dd ss k t ?_ (by omega) ?_) ⟨ho, ?_⟩
  · simp [Builtin.List.listFitsIndex]
    omega
  · simp only [Builtin.List.listTooLong, decide_eq_true_eq]
    omega
  have e : List.foldl (fun x1 x2 => x1 ++ x2) #[] (List.replicate (if es.toArray.isEmpty = true then 0 else k.toNat) es.toArray) = (List.replicate k.toNat es).flatten.toArray := by
    have f0 : ∀ m : Nat, List.foldl (fun x1 x2 => x1 ++ x2) #[] (List.replicate m es.toArray) = (List.replicate m es).flatten.toArray := fun m => foldl_rep es m []
    rw [f0]
    cases es with
    | nil => simp
    | cons b r => rw [if_neg (by simp)]
  rw [e]
  refine ⟨.ref z.heap.objs.size, upd H z.heap.objs.size (.lst (List.replicate k.toNat vs).flatten), ?_, rfl, q _ (I.hok.fresh (Nat.le_refl _))⟩
  refine I.laid (t' := z.toks) (fun b o e => Heap.get?_push_of_some _ e) (Nat.le_refl _) ⟨?_, _, 0, rv.rep k.toNat, Heap.get?_push_size _ rfl⟩
  rw [PyProof.Rows.lm_len_rep_flat, Nat.mul_comm]
  exact hz
theorem rds_rep {K : PySem.W.Frag} {F : Hp} {φ : List Addr} {vs : List V} {ds : List D} (r : RDs K F φ vs ds) : ∀ n : Nat, RDs K F φ (List.replicate n vs).flatten (List.replicate n ds).flatten
  | 0 => .nil
  | n + 1 => by
    rw [List.replicate_succ, List.replicate_succ, List.flatten_cons, List.flatten_cons]
    exact rds_append r (rds_rep r n)
theorem o_mul : OpR X (binaryOp .Mult) (rO X.K XR mulD) := by
  intro pins s σ H x y v u Q I rx ry h
  obtain ⟨E, a, b, st, F, φ, S, ra, rb, h⟩ := h
  unfold mulD at h
  split at h
  · rename_i i j
    split at h
    · rename_i hz
      refine op_mul pins s σ H _ _ v u Q I rx ry ⟨i, j, ra.int, rb.int, ?_, sat_val S rd_int h⟩
      unfold mulOk at hz
      rw [Bool.or_eq_true, decide_eq_true_eq, decide_eq_true_eq] at hz
      rcases hz with hz | hz
      · exact .inl (by omega)
      · exact .inr (by omega)
    · exact h.elim
  · rename_i x k
    obtain ⟨t, rfl⟩ := (ra.str ▸ rx : RelV (.str x) v)
    obtain ⟨t', rfl⟩ := (rb.int ▸ ry : RelV (.int k) u)
    split at h
    · rename_i hk
      subst hk
      exact PySem.P.mul_str_none (by decide) (by decide) ⟨.str Str.empty, H, I.tok _, ⟨_, rfl⟩, sat_val S rd_str h⟩
    · split at h
      · rename_i hk
        subst hk
        refine PySem.P.mul_str (by decide) (fun _ z => by simp at z) (fun _ z => by simp at z) ?_
        rw [if_neg (by decide), if_pos (show ((1 : Int) == 1 || x.length == 0) = true by rw [beq_self_eq_true]; rfl)]
        exact ⟨.str x, H, I, ⟨t, rfl⟩, sat_val S rd_str h⟩
      · exact h.elim
  · rename_i k _ _
    split at h
    · rename_i xs e
      split at h
      · rename_i hz
        obtain ⟨l, vs, rfl, hl, r1⟩ := items_ok S ra e
        refine op_repS pins s σ H _ _ v u Q I rx ry ⟨l, k, vs, rfl, rb.int, hl, hz.1, hz.2.1, ?_, fun p hp => sat_mkL S hp (rds_rep r1 k.toNat) h⟩
        rw [rds_length r1]
        exact sz_ok hz.2.2
      · exact h.elim
    · exact h.elim
  · exact h.elim
theorem o_div : OpR X (binaryOp .FloorDiv) (rO X.K XR divD) := by
  intro pins s σ H x y v u Q I rx ry h
  obtain ⟨E, a, b, st, F, φ, S, ra, rb, h⟩ := h
  unfold divD at h
  split at h
  · rename_i i j
    split at h
    · rename_i hz
      exact op_fdivW pins s σ H _ _ v u Q I rx ry ⟨i, j, ra.int, rb.int, wide_div (b := 100) hz.1 (by omega) (by decide) (by decide), sat_val S rd_int h⟩
    · exact h.elim
  · exact h.elim
theorem o_mod : OpR X (binaryOp .Mod) (rO X.K XR modD) := by
  intro pins s σ H x y v u Q I rx ry h
  obtain ⟨E, a, b, st, F, φ, S, ra, rb, h⟩ := h
  unfold modD at h
  split at h
  · rename_i i j
    split at h
    · rename_i hz
      exact op_mod pins s σ H _ _ v u Q I rx ry ⟨i, j, ra.int, rb.int, hz, sat_val S rd_int h⟩
    · exact h.elim
  · exact h.elim
theorem o_pow : OpR X (binaryOp .Pow) (rO X.K XR powD) := by
  intro pins s σ H x y v u Q I rx ry h
  obtain ⟨E, a, b, st, F, φ, S, ra, rb, h⟩ := h
  unfold powD at h
  split at h
  · rename_i i j
    split at h
    · rename_i hz
      exact op_pow pins s σ H _ _ v u Q I rx ry ⟨i, j, ra.int, rb.int, ⟨hz.1, by omega, hz.2.2⟩, sat_val S rd_int h⟩
    · exact h.elim
  · exact h.elim
end
def binD : Operator → D → D → Store → R D
  | .Add => addD
  | .Sub => subD
  | .Mult => mulD
  | .FloorDiv => divD
  | .Mod => modD
  | .Pow => powD
  | _ => fun _ _ _ => .bad
theorem o_bin {X : Cx} {XR : XRT} (op : Operator) : OpR X (binaryOp op) (rO X.K XR (binD op)) := by
  have no : OpR X (binaryOp op) (rO X.K XR fun _ _ _ => .bad) := by
    intro pins s σ H x y v u Q I rx ry h
    obtain ⟨E, a, b, st, F, φ, S, ra, rb, h⟩ := h
    exact h.elim
  cases op <;> first | exact o_add | exact o_sub | exact o_mul | exact o_div | exact o_mod | exact o_pow | exact no

/-! ### comparisons -/
theorem dp_plain {K : PySem.W.Frag} {H : Hp} : ∀ {d : PyData} {v : V}, Dp K H v d → d.plain = true := fun {d v} h => by
  refine Dp.rec (motive_1 := fun v d _ => d.plain = true) (motive_2 := fun vs ds _ => PyData.plainAll ds = true) ?_ ?_ ?_ ?_ ?_ ?_ ?_ ?_ h
  · rfl
  · intro b; rfl
  · intro i; rfl
  · intro x; rfl
  · intro a xs ds hs ha ih; exact ih
  · intro a xs ds hs ha ih; exact ih
  · rfl
  · intro v vs d ds h1 h2 i1 i2
    simp [PyData.plainAll, i1, i2]
def valD {α : Type} [DecidableEq α] (kvs : List (α × D)) (k : α) : Option D := (kvs.find? fun kv => decide (kv.1 = k)).map (·.2)
def putD {α : Type} [DecidableEq α] (kvs : List (α × D)) (k : α) (v : D) : List (α × D) :=
  if (kvs.any fun kv => decide (kv.1 = k)) = true then kvs.map (fun kv => if kv.1 = k then (kv.1, v) else kv) else kvs ++ [(k, v)]
def mergeD (kvs more : List (Key × D)) : List (Key × D) := more.foldl (fun acc kv => putD acc kv.1 kv.2) kvs
section
variable {K : PySem.W.Frag} {F : Hp} {φ : List Addr} {α : Type} [DecidableEq α]
theorem rks_val {k : α} : ∀ {ws : List (α × V)} {kvs : List (α × D)}, RNs K F φ ws kvs → (valD kvs k = none ∧ valV ws k = none) ∨ ∃ d v, valD kvs k = some d ∧ valV ws k = some v ∧ RD K F φ v d
  | _, _, .nil => .inl ⟨rfl, rfl⟩
  | (a, v) :: ws, (b, d) :: kvs, .cons h t => by
    obtain ⟨e, r⟩ := h
    have e : a = b := e
    subst e
    unfold valD valV
    rw [List.find?_cons, List.find?_cons]
    by_cases hk : a = k
    · simp only [hk, decide_true]
      exact .inr ⟨d, v, rfl, rfl, r⟩
    · simp only [hk, decide_false]
      exact rks_val t
theorem rks_any {k : α} : ∀ {ws : List (α × V)} {kvs : List (α × D)}, RNs K F φ ws kvs → (ws.any fun kv => decide (kv.1 = k)) = kvs.any fun kv => decide (kv.1 = k)
  | _, _, .nil => rfl
  | (a, v) :: ws, (b, d) :: kvs, .cons h t => by
    rw [List.any_cons, List.any_cons, rks_any t, show a = b from h.1]
theorem rks_app : ∀ {ws ws' : List (α × V)} {kvs kvs' : List (α × D)}, RNs K F φ ws kvs → RNs K F φ ws' kvs' → RNs K F φ (ws ++ ws') (kvs ++ kvs')
  | _, _, _, _, .nil, h => h
  | _, _, _, _, .cons a t, h => .cons a (rks_app t h)
theorem rks_repl {k : α} {v : V} {d : D} (r : RD K F φ v d) : ∀ {ws : List (α × V)} {kvs : List (α × D)}, RNs K F φ ws kvs →
    RNs K F φ (ws.map fun kv => if kv.1 = k then (kv.1, v) else kv) (kvs.map fun kv => if kv.1 = k then (kv.1, d) else kv)
  | _, _, .nil => .nil
  | (x1, x2) :: ws, (y1, y2) :: kvs, .cons h t => by
    obtain ⟨e, q⟩ := h
    have e : x1 = y1 := e
    subst e
    refine .cons ?_ (rks_repl r t)
    dsimp only
    by_cases hk : x1 = k
    · rw [if_pos hk, if_pos hk]; exact ⟨rfl, r⟩
    · rw [if_neg hk, if_neg hk]; exact ⟨rfl, q⟩
theorem rks_put {k : α} {v : V} {d : D} (r : RD K F φ v d) {ws : List (α × V)} {kvs : List (α × D)} (h : RNs K F φ ws kvs) : RNs K F φ (putK ws k v) (putD kvs k d) := by
  unfold putK putD
  rw [rks_any h]
  split
  · exact rks_repl r h
  · exact rks_app h (.cons ⟨rfl, r⟩ .nil)
theorem rks_merge : ∀ {ms : List (Key × V)} {more : List (Key × D)} {ws : List (Key × V)} {kvs : List (Key × D)}, RNs K F φ ms more → RNs K F φ ws kvs → RNs K F φ (mergeK ws ms) (mergeD kvs more)
  | _, _, _, _, .nil, h => h
  | (a, v) :: ms, (b, d) :: more, ws, kvs, .cons h t, g => by
    obtain ⟨e, r⟩ := h
    have e : a = b := e
    subst e
    exact rks_merge (ws := putK ws a v) (kvs := putD kvs a d) t (rks_put r g)
theorem rks_length {ws : List (α × V)} {kvs : List (α × D)} (h : RNs K F φ ws kvs) : ws.length = kvs.length := Paired.length h
end
/-- a key as data -/
def keyP : Key → PyData
  | .inl i => .int i
  | .inr x => .str x
theorem rds_keys {K : PySem.W.Frag} {F : Hp} {φ : List Addr} : ∀ {ws : List (Key × V)} {kvs : List (Key × D)}, RKs K F φ ws kvs → RDs K F φ (ws.map fun kv => kV kv.1) (kvs.map fun kv => .p (keyP kv.1))
  | _, _, .nil => .nil
  | (k, v) :: ws, (k', d) :: kvs, .cons h t => by
    obtain ⟨e, _⟩ := h
    have e : k = k' := e
    subst e
    refine .cons ?_ (rds_keys t)
    cases k with
    | inl i => exact Dp.int i
    | inr x => exact Dp.str x
/-- a key, read -/
def keyOf : D → Option Key
  | .p (.int i) => some (.inl i)
  | .p (.str x) => some (.inr x)
  | _ => none
theorem keyOf_ok {K : PySem.W.Frag} {F : Hp} {φ : List Addr} {v : V} {d : D} {k : Key} (r : RD K F φ v d) (h : keyOf d = some k) : v = kV k := by
  unfold keyOf at h
  split at h
  · cases Option.some.inj h; exact r.int
  · cases Option.some.inj h; exact r.str
  · cases h
/-- a key that is a tuple, read -/
def keysT : List PyData → Option (List Key)
  | [] => some []
  | .int i :: r => (keysT r).map (.inl i :: ·)
  | .str x :: r => (keysT r).map (.inr x :: ·)
  | _ => none
def keyT : D → Option (List Key)
  | .p (.tuple xs) => keysT xs
  | _ => none
theorem keysT_ok {K : PySem.W.Frag} {F : Hp} : ∀ {xs : List PyData} {vs : List V} {k : List Key}, DpAll K F vs xs → keysT xs = some k → vs = k.map kV
  | [], _, _, h, e => by cases Option.some.inj e; cases h; rfl
  | .int i :: r, _, _, h, e => by
    obtain ⟨k', e1, rfl⟩ := Option.map_eq_some_iff.mp (show (keysT r).map (Sum.inl i :: ·) = some _ from e)
    cases h with
    | cons a t => cases a; rw [keysT_ok t e1]; rfl
  | .str x :: r, _, _, h, e => by
    obtain ⟨k', e1, rfl⟩ := Option.map_eq_some_iff.mp (show (keysT r).map (Sum.inr x :: ·) = some _ from e)
    cases h with
    | cons a t => cases a; rw [keysT_ok t e1]; rfl
  | .none :: _, _, _, _, e => by cases e
  | .bool _ :: _, _, _, _, e => by cases e
  | .list _ :: _, _, _, _, e => by cases e
  | .tuple _ :: _, _, _, _, e => by cases e
  | .dict _ :: _, _, _, _, e => by cases e
theorem keyT_ok {K : PySem.W.Frag} {F : Hp} {φ : List Addr} {v : V} {d : D} {k : List Key} (r : RD K F φ v d) (h : keyT d = some k) : ∃ b, v = .ref b ∧ F b = some (.tup (k.map kV)) := by
  unfold keyT at h
  split at h
  · cases r with
    | tup hs ha => rw [keysT_ok ha h] at hs; exact ⟨_, rfl, hs⟩
  · cases h
/-- the pairs of a cell -/
def dcellL (st : Store) (n : Nat) : Option (List (Key × D)) :=
  match st[n]? with
  | some (.dct kvs) => some kvs
  | _ => none
theorem dcellL_some {st : Store} {n : Nat} {kvs : List (Key × D)} (h : dcellL st n = some kvs) : st[n]? = some (Cell.dct kvs) := by
  unfold dcellL at h
  split at h
  · rename_i es e
    cases Option.some.inj h
    exact e
  · cases h
/-- a dict's value, where the thing is a dict -/
def dictOf : D → Store → Option (List (Key × D))
  | .c n, st => match st[n]? with
    | some (.dct kvs) => some kvs
    | some (.lkd kvs) => some kvs
    | _ => none
  | _, _ => none
theorem dictOf_ok {K : PySem.W.Frag} {F H : Hp} {φ : List Addr} {st : Store} {d : D} {v : V} {kvs : List (Key × D)} (S : SR K F φ st H) (r : RD K F φ v d) (h : dictOf d st = some kvs) : ∃ a ws, v = .ref a ∧ Rd H a (.dK ws) ∧ RKs K F φ ws kvs := by
  cases d with
  | fn x => cases h
  | p x => cases h
  | c n =>
    obtain ⟨a, h1, rfl⟩ := r
    unfold dictOf at h
    simp only at h
    split at h
    · rename_i es e
      cases Option.some.inj h
      obtain ⟨b, ws, e1, _, e2, e3⟩ := S.dcell n kvs e
      rw [h1] at e1
      cases Option.some.inj e1
      exact ⟨a, ws, rfl, .inl e2, e3⟩
    · rename_i es e
      cases Option.some.inj h
      obtain ⟨b, e1, e2⟩ := S.off n _ e rfl
      rw [h1] at e1
      cases Option.some.inj e1
      cases e2 with
      | lkd hF rr => exact ⟨a, _, rfl, .inr ⟨_, S.sub _ _ hF⟩, rr⟩
    · cases h
theorem rks_get {K : PySem.W.Frag} {F H : Hp} {φ : List Addr} {ws : List (Key × V)} {kvs : List (Key × D)} {a : Addr} {k : Key} (hH : Rd H a (.dK ws)) (r : RNs K F φ ws kvs) :
    ∃ o, DGet H a (kV k) o ∧ o.isSome = (valD kvs k).isSome ∧ ∀ d, valD kvs k = some d → ∃ v, o = some v ∧ RD K F φ v d := by
  refine ⟨valV ws k, .inl ⟨ws, k, hH, rfl, rfl⟩, ?_, fun d hd => ?_⟩
  · rcases rks_val (k := k) r with ⟨h1, h2⟩ | ⟨d, v, h1, h2, _⟩ <;> rw [h1, h2] <;> rfl
  · rcases rks_val (k := k) r with ⟨h1, h2⟩ | ⟨d', v, h1, h2, h3⟩
    · rw [h1] at hd; cases hd
    · rw [h1] at hd; cases Option.some.inj hd; exact ⟨v, h2, h3⟩
/-- .. its keys tuples -/
def dttOf : D → Store → Option (List (List Key × D))
  | .c n, st => match st[n]? with
    | some (.dtt kvs) => some kvs
    | some (.lkt kvs) => some kvs
    | _ => none
  | _, _ => none
theorem dttOf_ok {K : PySem.W.Frag} {F H : Hp} {φ : List Addr} {st : Store} {d : D} {v : V} {kvs : List (List Key × D)} (S : SR K F φ st H) (r : RD K F φ v d) (h : dttOf d st = some kvs) : ∃ a ws, v = .ref a ∧ Rd H a (.dT ws) ∧ RNs K F φ ws kvs := by
  cases d with
  | fn x => cases h
  | p x => cases h
  | c n =>
    obtain ⟨a, h1, rfl⟩ := r
    unfold dttOf at h
    simp only at h
    split at h
    · rename_i es e
      cases Option.some.inj h
      obtain ⟨b, ws, e1, _, e2, e3⟩ := S.ttcell n kvs e
      rw [h1] at e1
      cases Option.some.inj e1
      exact ⟨a, ws, rfl, .inl e2, e3⟩
    · rename_i es e
      cases Option.some.inj h
      obtain ⟨b, e1, e2⟩ := S.off n _ e rfl
      rw [h1] at e1
      cases Option.some.inj e1
      cases e2 with
      | lkt hF rr => exact ⟨a, _, rfl, .inr ⟨_, S.sub _ _ hF⟩, rr⟩
    · cases h
theorem rnt_get {K : PySem.W.Frag} {F H : Hp} {φ : List Addr} {ws : List (List Key × V)} {kvs : List (List Key × D)} {a b : Addr} {k : List Key} (hH : Rd H a (.dT ws)) (hb : H b = some (.tup (k.map kV))) (r : RNs K F φ ws kvs) :
    ∃ o, DGet H a (.ref b) o ∧ o.isSome = (valD kvs k).isSome ∧ ∀ d, valD kvs k = some d → ∃ v, o = some v ∧ RD K F φ v d := by
  refine ⟨valV ws k, .inr ⟨ws, k, b, hH, rfl, hb, rfl⟩, ?_, fun d hd => ?_⟩
  · rcases rks_val (k := k) r with ⟨h1, h2⟩ | ⟨d, v, h1, h2, _⟩ <;> rw [h1, h2] <;> rfl
  · rcases rks_val (k := k) r with ⟨h1, h2⟩ | ⟨d', v, h1, h2, h3⟩
    · rw [h1] at hd; cases hd
    · rw [h1] at hd; cases Option.some.inj hd; exact ⟨v, h2, h3⟩
/-- a look into a dict, of either kind: what stands under a key, if the key can be one -/
def lookD (d k : D) (st : Store) : Option (Option D) :=
  match dictOf d st with
  | some kvs => (keyOf k).map (valD kvs)
  | none => match dttOf d st with
    | some kvs => (keyT k).map (valD kvs)
    | none => none
theorem lookD_ok {K : PySem.W.Frag} {F H : Hp} {φ : List Addr} {st : Store} {d k : D} {v w : V} {o : Option D} (S : SR K F φ st H) (r : RD K F φ v d) (rk : RD K F φ w k) (h : lookD d k st = some o) :
    ∃ a u, v = .ref a ∧ DGet H a w u ∧ u.isSome = o.isSome ∧ ∀ d, o = some d → ∃ v, u = some v ∧ RD K F φ v d := by
  unfold lookD at h
  split at h
  · rename_i kvs e
    obtain ⟨k', ek, rfl⟩ := Option.map_eq_some_iff.mp h
    obtain ⟨a, ws, rfl, hH, rr⟩ := dictOf_ok S r e
    obtain ⟨u, g, h1, h2⟩ := rks_get (k := k') hH rr
    rw [keyOf_ok rk ek]
    exact ⟨a, u, rfl, g, h1, h2⟩
  · split at h
    · rename_i kvs e
      obtain ⟨k', ek, rfl⟩ := Option.map_eq_some_iff.mp h
      obtain ⟨a, ws, rfl, hH, rr⟩ := dttOf_ok S r e
      obtain ⟨b, rfl, hb⟩ := keyT_ok rk ek
      obtain ⟨u, g, h1, h2⟩ := rnt_get (k := k') hH (S.sub _ _ hb) rr
      exact ⟨a, u, rfl, g, h1, h2⟩
    · cases h
def isDict (d : D) (st : Store) : Bool := (dictOf d st).isSome || (dttOf d st).isSome
/-- room enough for a comparison -/
def eqRoom (x y : PyData) : Bool := decide (min x.depth y.depth ≤ 64)
/-- the same: lists and dicts of the same things -/
def eqC : Nat → D → D → Store → Bool
  | 0, _, _, _ => false
  | n + 1, a, b, st => match toP a st, toP b st with
    | some x, some y => eqRoom x y && PyData.eqv x y
    | _, _ => match items a st, items b st with
      | some xs, some ys => decide (xs.length = ys.length) && (xs.zip ys).all fun p => eqC n p.1 p.2 st
      | _, _ => match a, b with
        | .c i, .c j => match dcellL st i, dcellL st j with
          | some ks, some ls => decide (ks.length = ls.length) && ks.all fun p => match valD ls p.1 with
            | some u => eqC n p.2 u st
            | none => false
          | _, _ => false
        | _, _ => false
def eqD (neg : Bool) (a b : D) (st : Store) : R D :=
  match toP a st, toP b st with
  | some x, some y => if eqRoom x y = true then .ok (.p (.bool (if neg then !PyData.eqv x y else PyData.eqv x y))) st else .bad
  | _, _ => if neg = false ∧ eqC 5 a b st = true then .ok (.p (.bool true)) st else match a, b with
    | .c i, .c j => match dcellL st i, dcellL st j with
      | some ks, some [] => .ok (.p (.bool (if neg then !ks.isEmpty else ks.isEmpty))) st
      | _, _ => .bad
    | _, _ => .bad
def notNone : PyData → Bool
  | .none => false
  | _ => true
/-- an order by Python: ints, texts, else alike data -/
def ltP (x y : PyData) : Option Bool :=
  match x, y with
  | .int i, .int j => some (decide (i < j))
  | .str i, .str j => some (decide (i.cps.toList < j.cps.toList))
  | x, y => if (PySem.W.alike x y && eqRoom x y && notNone x) = true then some (PySem.W.dataLt x y) else none
def ordD (op : CmpOp) (a b : D) (st : Store) : R D :=
  match toP a st, toP b st with
  | some x, some y => match op with
    | .Lt => match ltP x y with | some k => .ok (.p (.bool k)) st | none => .bad
    | .Gt => match ltP y x with | some k => .ok (.p (.bool k)) st | none => .bad
    | .LtE => match ltP y x with | some k => .ok (.p (.bool (!k))) st | none => .bad
    | .GtE => match ltP x y with | some k => .ok (.p (.bool (!k))) st | none => .bad
    | _ => .bad
  | _, _ => .bad
/-- x in xs -/
def inD0 (neg : Bool) (a b : D) (st : Store) : R D :=
  match b with
  | .p (.str y) => match a with
    | .p (.str x) => .ok (.p (.bool (if neg then !(!(Builtin.Str.occurrences y x 0 y.length 1).isEmpty) else !(Builtin.Str.occurrences y x 0 y.length 1).isEmpty))) st
    | _ => .bad
  | b => match toP a st, toP b st with
    | some x, some (.list ys) => if decide (x.depth ≤ 64) then .ok (.p (.bool (if neg then !(ys.any fun y => PyData.eqv y x) else ys.any fun y => PyData.eqv y x))) st else .bad
    | some x, some (.tuple ys) => if decide (x.depth ≤ 64) then .ok (.p (.bool (if neg then !(ys.any fun y => PyData.eqv y x) else ys.any fun y => PyData.eqv y x))) st else .bad
    | _, _ => .bad
section
variable {X : Cx} {XR : XRT} {E : XK}
theorem paired_atE {α β : Type} {R : α → β → Prop} : ∀ {xs : List α} {ys : List β} {i : Nat} {x : α}, Paired R xs ys → xs[i]? = some x → ∃ y, ys[i]? = some y ∧ R x y
  | _, _, 0, _, .cons h _, e => by cases Option.some.inj e; exact ⟨_, rfl, h⟩
  | _, _, i + 1, _, .cons _ t, e => paired_atE (i := i) t e
  | _, _, _, _, .nil, e => by simp at e
theorem paired_zip {R : V → V → Prop} {P : D → D → Bool} {K : PySem.W.Frag} {F : Hp} {φ : List Addr} (hR : ∀ x y a b, RD K F φ x a → RD K F φ y b → P a b = true → R x y) : ∀ {vs ws : List V} {xs ys : List D}, RDs K F φ vs xs → RDs K F φ ws ys → xs.length = ys.length → ((xs.zip ys).all fun p => P p.1 p.2) = true → Paired R vs ws
  | _, _, _, _, .nil, .nil, _, _ => .nil
  | _, _, _, _, .cons a t, .cons b u, hl, h => by
    rw [List.zip_cons_cons, List.all_cons, Bool.and_eq_true] at h
    exact .cons (hR _ _ _ _ a b h.1) (paired_zip hR t u (by simpa using hl) h.2)
  | _, _, _, _, .nil, .cons _ _, hl, _ => by simp at hl
  | _, _, _, _, .cons _ _, .nil, hl, _ => by simp at hl
/-- what is the same by eqC, but no data, as the hand layer tells it -/
theorem eqC_R {H F : Hp} {φ : List Addr} {st : Store} (S : SR X.K F φ st H) {n : Nat} {a b : D} (h0 : toP a st = none ∨ toP b st = none) (h : eqC (n + 1) a b st = true) {x y : V} (ra : RD X.K F φ x a) (rb : RD X.K F φ y b) :
    EqR X.K H (fun x y => ∃ a b, RD X.K F φ x a ∧ RD X.K F φ y b ∧ eqC n a b st = true) x y := by
  unfold eqC at h
  split at h
  · rename_i p q e1 e2
    rcases h0 with h0 | h0
    · rw [e1] at h0; cases h0
    · rw [e2] at h0; cases h0
  · split at h
    · rename_i xs ys e1 e2
      obtain ⟨l, vs, rfl, hl, r1⟩ := items_ok S ra e1
      obtain ⟨m, ws, rfl, hm, r2⟩ := items_ok S rb e2
      rw [Bool.and_eq_true, decide_eq_true_eq] at h
      exact .inl ⟨l, m, vs, ws, rfl, rfl, hl, hm, paired_zip (P := fun a b => eqC n a b st) (fun x y a b h1 h2 h3 => ⟨a, b, h1, h2, h3⟩) r1 r2 h.1 h.2⟩
    · split at h
      · rename_i i j
        split at h
        · rename_i ks ls e1 e2
          rw [Bool.and_eq_true, decide_eq_true_eq, List.all_eq_true] at h
          obtain ⟨a1, h1, rfl⟩ := ra
          obtain ⟨a2, h2, rfl⟩ := rb
          obtain ⟨b1, w1, g1, _, g2, g3⟩ := S.dcell _ ks (dcellL_some e1)
          obtain ⟨b2, w2, g4, _, g5, g6⟩ := S.dcell _ ls (dcellL_some e2)
          rw [h1] at g1
          rw [h2] at g4
          cases Option.some.inj g1
          cases Option.some.inj g4
          refine .inr ⟨_, _, w1, w2, rfl, rfl, g2, g5, by rw [Paired.length g3, Paired.length g6]; exact h.1, fun p hp => ?_⟩
          obtain ⟨k, hk, ek⟩ := List.getElem_of_mem hp
          obtain ⟨q, q1, q2⟩ := paired_atE g3 (show w1[k]? = some p by rw [List.getElem?_eq_getElem hk, ek])
          have hq := h.2 q (List.mem_of_getElem? q1)
          split at hq
          · rename_i u eu
            obtain ⟨d, v, q3, q4, q5⟩ := (rks_val (k := q.1) g6).resolve_left fun z => by rw [eu] at z; cases z.1
            rw [eu] at q3
            cases Option.some.inj q3
            exact ⟨v, by rw [q2.1]; exact q4, q.2, u, q2.2, q5, hq⟩
          · cases hq
        · cases h
      · cases h
theorem eqC_ok {pins : List (Addr × Obj)} {σ : L2.St} {H : Hp} {s : Shared} {F : Hp} {φ : List Addr} {st : Store} (I : Inv X pins σ H s) (S : SR X.K F φ st H) : ∀ (n : Nat) (A : Around), A.units + n + 66 < cLine → ∀ (a b : D), eqC n a b st = true → ∀ x y v u, RD X.K F φ x a → RD X.K F φ y b → RelV x v → RelV y u → PySem.SeqAt.EqP X.prog X.w A s v u true
  | 0, _, _, _, _, h => by cases h
  | n + 1, A, hu, a, b, h => fun x y v u ra rb rx ry => by
    by_cases h0 : toP a st = none ∨ toP b st = none
    · have h1 := eqC_R S h0 h ra rb
      have step := eqR_run I (A := A) (F := fun x y => ∃ a b, RD X.K F φ x a ∧ RD X.K F φ y b ∧ eqC n a b st = true) (by omega) (fun x y v u ⟨a, b, q1, q2, q3⟩ rx ry => eqC_ok I S n A.in1 (by show A.units + 1 + n + 66 < cLine; omega) a b q3 x y v u q1 q2 rx ry) h1 rx ry
      obtain ⟨p, q, rfl, rfl⟩ : ∃ p q, x = .ref p ∧ y = .ref q := by
        rcases h1 with ⟨p, q, _, _, e1, e2, _⟩ | ⟨p, q, _, _, e1, e2, _⟩
        · exact ⟨p, q, e1, e2⟩
        · exact ⟨p, q, e1, e2⟩
      cases (show v = Value.ref p from rx)
      cases (show u = Value.ref q from ry)
      by_cases e : p = q
      · subst e
        exact (PySem.SeqAt.EqAt.same _).eqP
      · exact PySem.SeqAt.eqP_refs e step
    · unfold eqC at h
      split at h
      · rename_i d e e1 e2
        rw [Bool.and_eq_true] at h
        have hd := toP_ok S ra e1
        have he := toP_ok S rb e2
        obtain ⟨as, r1⟩ := Dp.reads I d x v hd rx
        obtain ⟨bs, r2⟩ := Dp.reads I e y u he ry
        have hz : min d.depth e.depth ≤ 64 := of_decide_eq_true h.1
        have := (PySem.SeqAt.eqAt_plain d e A s v u as bs r1 r2 (dp_plain hd) (dp_plain he) (by omega)).eqP (prog := X.prog) (w := X.w)
        rw [h.2] at this
        exact this
      · rename_i g
        exfalso
        cases e1 : toP a st with
        | none => exact h0 (.inl e1)
        | some d => cases e2 : toP b st with
          | none => exact h0 (.inr e2)
          | some e => exact g d e e1 e2
/-- a dict, and one of nothing -/
theorem dct_empty {pins : List (Addr × Obj)} {σ : L2.St} {H F : Hp} {s : Shared} {φ : List Addr} {st : Store} (I : Inv X pins σ H s) (S : SR X.K F φ st H) {i j : Nat} {ks : List (Key × D)} {x y : V} (ra : RD X.K F φ x (.c i)) (rb : RD X.K F φ y (.c j)) (e1 : dcellL st i = some ks) (e2 : dcellL st j = some []) :
    ∃ a b va vb, x = .ref a ∧ y = .ref b ∧ (a == sysModules) = false ∧ (b == sysModules) = false ∧ s.heap.DictOf (mixKind X.prog X.w) a va ∧ s.heap.DictOf (mixKind X.prog X.w) b vb ∧ va.length = ks.length ∧ vb.length = 0 := by
  obtain ⟨a1, h1, rfl⟩ := ra
  obtain ⟨a2, h2, rfl⟩ := rb
  obtain ⟨b1, w1, g1, _, g2, g3⟩ := S.dcell _ ks (dcellL_some e1)
  obtain ⟨b2, w2, g4, _, g5, g6⟩ := S.dcell _ [] (dcellL_some e2)
  rw [h1] at g1
  rw [h2] at g4
  cases Option.some.inj g1
  cases Option.some.inj g4
  obtain ⟨_, ya, va, ra, da⟩ := (show ObjOk X.prog X.w H s.heap a1 (.dK w1) from I.hok a1 _ g2)
  obtain ⟨_, yb, vb, rb, db⟩ := (show ObjOk X.prog X.w H s.heap a2 (.dK w2) from I.hok a2 _ g5)
  exact ⟨a1, a2, va, vb, rfl, rfl, ya, yb, da, db, by rw [← ra.length, Paired.length g3], by rw [← rb.length, Paired.length g6]; rfl⟩
theorem o_eq (hu : X.A.units + 200 < cLine) : OpR X (compareOp .Eq) (rO X.K XR (eqD false)) := by
  intro pins s σ H x y v u Q I rx ry h
  obtain ⟨E, a, b, st, F, φ, S, ra, rb, h⟩ := h
  unfold eqD at h
  split at h
  · rename_i d e e1 e2
    split at h
    · rename_i hz
      have hd := toP_ok S ra e1
      have he := toP_ok S rb e2
      obtain ⟨as, r1⟩ := Dp.reads I d x v hd rx
      obtain ⟨bs, r2⟩ := Dp.reads I e y u he ry
      have hz : min d.depth e.depth ≤ 64 := of_decide_eq_true hz
      exact PySem.SeqAt.eq_plain r1 r2 (dp_plain hd) (dp_plain he) (by omega) ⟨.bl _, H, I, rfl, sat_val S rd_bl h⟩
    · exact h.elim
  · rename_i g
    split at h
    · rename_i hc
      have h0 : toP a st = none ∨ toP b st = none := by
        cases e1 : toP a st with
        | none => exact .inl rfl
        | some d => cases e2 : toP b st with
          | none => exact .inr rfl
          | some e => exact absurd e2 (g d e e1)
      exact eqR_run I (A := X.A) (F := fun x y => ∃ a b, RD X.K F φ x a ∧ RD X.K F φ y b ∧ eqC 4 a b st = true) (by omega) (fun x y v u ⟨a, b, q1, q2, q3⟩ rx ry => eqC_ok I S 4 X.A.in1 (by show X.A.units + 1 + 4 + 66 < cLine; omega) a b q3 x y v u q1 q2 rx ry) (eqC_R S h0 hc.2 ra rb) rx ry _ _ ⟨.bl true, H, I, rfl, sat_val S rd_bl h⟩
    · split at h
      · rename_i i j
        split at h
        · rename_i ks e1 e2
          obtain ⟨a1, b1, va, vb, rfl, rfl, ya, yb, da, db, la, lb⟩ := dct_empty I S ra rb e1 e2
          obtain rfl : v = Value.ref a1 := rx
          obtain rfl : u = Value.ref b1 := ry
          refine PySem.W.keq_eq (knd := mixKind X.prog X.w) (r := true) ya yb da db (by omega) (fun e => ?_) ?_
          · cases va with
            | nil => exact .nil
            | cons p r => rw [lb] at e; cases e
          · have e : (va.length == vb.length && true) = ks.isEmpty := by
              rw [la, lb, Bool.and_true]
              cases ks <;> rfl
            rw [e]
            exact ⟨.bl _, H, I, rfl, sat_val S rd_bl h⟩
        · exact h.elim
      · exact h.elim
theorem o_ne (hu : X.A.units + 200 < cLine) : OpR X (compareOp .NotEq) (rO X.K XR (eqD true)) := by
  intro pins s σ H x y v u Q I rx ry h
  obtain ⟨E, a, b, st, F, φ, S, ra, rb, h⟩ := h
  unfold eqD at h
  split at h
  · rename_i d e e1 e2
    split at h
    · rename_i hz
      have hd := toP_ok S ra e1
      have he := toP_ok S rb e2
      obtain ⟨as, r1⟩ := Dp.reads I d x v hd rx
      obtain ⟨bs, r2⟩ := Dp.reads I e y u he ry
      have hz : min d.depth e.depth ≤ 64 := of_decide_eq_true hz
      exact PySem.SeqAt.ne_plain r1 r2 (dp_plain hd) (dp_plain he) (by omega) ⟨.bl _, H, I, rfl, sat_val S rd_bl h⟩
    · exact h.elim
  · split at h
    · rename_i hc
      cases hc.1
    · split at h
      · rename_i i j
        split at h
        · rename_i ks e1 e2
          obtain ⟨a1, b1, va, vb, rfl, rfl, ya, yb, da, db, la, lb⟩ := dct_empty I S ra rb e1 e2
          obtain rfl : v = Value.ref a1 := rx
          obtain rfl : u = Value.ref b1 := ry
          refine PySem.W.keq_ne (knd := mixKind X.prog X.w) (r := true) ya yb da db (by omega) (fun e => ?_) ?_
          · cases va with
            | nil => exact .nil
            | cons p r => rw [lb] at e; cases e
          · have e : (!(va.length == vb.length && true)) = !ks.isEmpty := by
              rw [la, lb, Bool.and_true]
              cases ks <;> rfl
            rw [e]
            exact ⟨.bl _, H, I, rfl, sat_val S rd_bl h⟩
        · exact h.elim
      · exact h.elim
theorem notNone_ne {x : PyData} (h : notNone x = true) : x ≠ .none := by
  intro e; subst e; cases h
theorem alike_notNone {x y : PyData} (h : PySem.W.alike x y = true) (n : notNone x = true) : notNone y = true := by
  cases y with
  | none => cases x <;> first | (cases n; done) | (simp [PySem.W.alike] at h)
  | _ => rfl
theorem ltP_data {x y : PyData} {k : Bool} (h : ltP x y = some k) : PySem.W.alike x y = true ∧ x ≠ .none ∧ y ≠ .none ∧ min x.depth y.depth ≤ 64 ∧ PySem.W.dataLt x y = k := by
  unfold ltP at h
  split at h
  · rename_i i j
    exact ⟨rfl, by simp, by simp, by simp [PyData.depth], by rw [PySem.W.dataLt_int]; exact Option.some.inj h⟩
  · rename_i i j
    exact ⟨rfl, by simp, by simp, by simp [PyData.depth], by rw [PySem.W.dataLt_str]; exact Option.some.inj h⟩
  · split at h
    · rename_i hz
      simp only [Bool.and_eq_true] at hz
      obtain ⟨⟨h1, h2⟩, h3⟩ := hz
      exact ⟨h1, notNone_ne h3, notNone_ne (alike_notNone h1 h3), of_decide_eq_true h2, Option.some.inj h⟩
    · cases h
theorem o_ord (hu : X.A.units + 200 < cLine) (op : CmpOp) (h1 : op ≠ .Eq) (h2 : op ≠ .NotEq) : OpR X (compareOp op) (rO X.K XR (ordD op)) := by
  intro pins s σ H x y v u Q I rx ry h
  obtain ⟨E, a, b, st, F, φ, S, ra, rb, h⟩ := h
  unfold ordD at h
  split at h
  · rename_i d e e1 e2
    have hd := toP_ok S ra e1
    have he := toP_ok S rb e2
    obtain ⟨as, r1⟩ := Dp.reads I d x v hd rx
    obtain ⟨bs, r2⟩ := Dp.reads I e y u he ry
    split at h
    · split at h
      · rename_i k hk
        obtain ⟨q1, q2, q3, q4, q5⟩ := ltP_data hk
        exact PySem.W.lt_data r1 r2 q1 q2 (by omega) (by rw [q5]; exact ⟨.bl _, H, I, rfl, sat_val S rd_bl h⟩)
      · exact h.elim
    · split at h
      · rename_i k hk
        obtain ⟨q1, q2, q3, q4, q5⟩ := ltP_data hk
        exact PySem.W.gt_data r1 r2 (by rw [PySem.W.alike_comm]; exact q1) q3 (by omega) (by rw [q5]; exact ⟨.bl _, H, I, rfl, sat_val S rd_bl h⟩)
      · exact h.elim
    · split at h
      · rename_i k hk
        obtain ⟨q1, q2, q3, q4, q5⟩ := ltP_data hk
        exact PySem.W.le_data r1 r2 (by rw [PySem.W.alike_comm]; exact q1) q3 (by omega) (by rw [q5]; exact ⟨.bl _, H, I, rfl, sat_val S rd_bl h⟩)
      · exact h.elim
    · split at h
      · rename_i k hk
        obtain ⟨q1, q2, q3, q4, q5⟩ := ltP_data hk
        exact PySem.W.ge_data r1 r2 q1 q2 (by omega) (by rw [q5]; exact ⟨.bl _, H, I, rfl, sat_val S rd_bl h⟩)
      · exact h.elim
    · exact h.elim
  · exact h.elim
theorem plainAll_of_list {ys : List PyData} (h : (PyData.list ys).plain = true) : PyData.plainAll ys = true := h
theorem plainAll_of_tuple {ys : List PyData} (h : (PyData.tuple ys).plain = true) : PyData.plainAll ys = true := h
theorem o_in0 (hu : X.A.units + 200 < cLine) : OpR X (compareOp .In) (rO X.K XR (inD0 false)) := by
  intro pins s σ H x y v u Q I rx ry h
  obtain ⟨E, a, b, st, F, φ, S, ra, rb, h⟩ := h
  unfold inD0 at h
  split at h
  · split at h
    · rename_i z w
      exact op_in_str pins s σ H _ _ v u Q I rx ry ⟨_, _, ra.str, rb.str, sat_val S rd_bl h⟩
    · exact h.elim
  · split at h
    · rename_i d ys e1 e2
      split at h
      · rename_i hz
        have hz := of_decide_eq_true hz
        have hd := toP_ok S ra e1
        have he := toP_ok S rb e2
        obtain ⟨as, r1⟩ := Dp.reads I d x v hd rx
        obtain ⟨bs, r2⟩ := Dp.reads I _ y u he ry
        exact PySem.SeqAt.in_list_data r2 r1 (plainAll_of_list (dp_plain he)) (dp_plain hd) (by omega) ⟨.bl _, H, I, rfl, sat_val S rd_bl h⟩
      · exact h.elim
    · rename_i d ys e1 e2
      split at h
      · rename_i hz
        have hz := of_decide_eq_true hz
        have hd := toP_ok S ra e1
        have he := toP_ok S rb e2
        obtain ⟨as, r1⟩ := Dp.reads I d x v hd rx
        obtain ⟨bs, r2⟩ := Dp.reads I _ y u he ry
        exact PySem.SeqAt.in_tuple_data r2 r1 (plainAll_of_tuple (dp_plain he)) (dp_plain hd) (by omega) ⟨.bl _, H, I, rfl, sat_val S rd_bl h⟩
      · exact h.elim
    · exact h.elim
theorem o_notIn0 (hu : X.A.units + 200 < cLine) : OpR X (compareOp .NotIn) (rO X.K XR (inD0 true)) := by
  intro pins s σ H x y v u Q I rx ry h
  obtain ⟨E, a, b, st, F, φ, S, ra, rb, h⟩ := h
  unfold inD0 at h
  split at h
  · split at h
    · rename_i z w
      exact op_notin_str pins s σ H _ _ v u Q I rx ry ⟨_, _, ra.str, rb.str, sat_val S rd_bl h⟩
    · exact h.elim
  · split at h
    · rename_i d ys e1 e2
      split at h
      · rename_i hz
        have hz := of_decide_eq_true hz
        have hd := toP_ok S ra e1
        have he := toP_ok S rb e2
        obtain ⟨as, r1⟩ := Dp.reads I d x v hd rx
        obtain ⟨bs, r2⟩ := Dp.reads I _ y u he ry
        exact PySem.SeqAt.notIn_list_data r2 r1 (plainAll_of_list (dp_plain he)) (dp_plain hd) (by omega) ⟨.bl _, H, I, rfl, sat_val S rd_bl h⟩
      · exact h.elim
    · rename_i d ys e1 e2
      split at h
      · rename_i hz
        have hz := of_decide_eq_true hz
        have hd := toP_ok S ra e1
        have he := toP_ok S rb e2
        obtain ⟨as, r1⟩ := Dp.reads I d x v hd rx
        obtain ⟨bs, r2⟩ := Dp.reads I _ y u he ry
        exact PySem.SeqAt.notIn_tuple_data r2 r1 (plainAll_of_tuple (dp_plain he)) (dp_plain hd) (by omega) ⟨.bl _, H, I, rfl, sat_val S rd_bl h⟩
      · exact h.elim
    · exact h.elim
/-- is, is not a constant -/
def isC (k : PyData) (a : D) : Bool :=
  match a, k with
  | .p .none, .none => true
  | .p (.bool j), .bool k => decide (j = k)
  | _, _ => false
def isD (neg : Bool) (a b : D) (st : Store) : R D :=
  match b with
  | .p .none => .ok (.p (.bool (if neg then !isC .none a else isC .none a))) st
  | .p (.bool k) => .ok (.p (.bool (if neg then !isC (.bool k) a else isC (.bool k) a))) st
  | _ => .bad
theorem rel_isC {K : PySem.W.Frag} {F : Hp} {φ : List Addr} {x : V} {v : Value} {a : D} (r : RD K F φ x a) (rx : RelV x v) :
    (plainIs v .none = true ∧ (v == Value.none) = isC .none a) ∧ ∀ k, plainIs v (.bool k) = true ∧ (v == Value.bool k) = isC (.bool k) a := by
  cases a with
  | fn z =>
    obtain ⟨a, rfl, _⟩ := r
    cases rx
    exact ⟨⟨rfl, rfl⟩, fun k => ⟨rfl, rfl⟩⟩
  | c n =>
    obtain ⟨a, _, rfl⟩ := r
    cases rx
    exact ⟨⟨rfl, rfl⟩, fun k => ⟨rfl, rfl⟩⟩
  | p y =>
    cases y with
    | none => cases r; cases rx; exact ⟨⟨rfl, rfl⟩, fun k => ⟨rfl, rfl⟩⟩
    | bool j =>
      cases r; cases rx
      refine ⟨⟨rfl, rfl⟩, fun k => ⟨rfl, ?_⟩⟩
      cases j <;> cases k <;> rfl
    | int j => cases r; obtain ⟨t, rfl⟩ := rx; exact ⟨⟨rfl, rfl⟩, fun k => ⟨rfl, rfl⟩⟩
    | str j => cases r; obtain ⟨t, rfl⟩ := rx; exact ⟨⟨rfl, rfl⟩, fun k => ⟨rfl, rfl⟩⟩
    | list j => cases r; cases rx; exact ⟨⟨rfl, rfl⟩, fun k => ⟨rfl, rfl⟩⟩
    | tuple j => cases r; cases rx; exact ⟨⟨rfl, rfl⟩, fun k => ⟨rfl, rfl⟩⟩
    | dict j => cases r
theorem o_is : OpR X (compareOp .Is) (rO X.K XR (isD false)) := by
  intro pins s σ H x y v u Q I rx ry h
  obtain ⟨E, a, b, st, F, φ, S, ra, rb, h⟩ := h
  obtain ⟨⟨h1, h2⟩, h3⟩ := rel_isC ra rx
  unfold isD at h
  split at h
  · rw [rb.non] at ry
    cases ry
    exact wpAny_is_plain h1 ⟨.bl _, H, I, by rw [h2]; rfl, sat_val S rd_bl h⟩
  · rename_i k
    rw [rb.bl] at ry
    cases ry
    exact wpAny_is_plain (h3 k).1 ⟨.bl _, H, I, by rw [(h3 k).2]; rfl, sat_val S rd_bl h⟩
  · exact h.elim
theorem o_isNot : OpR X (compareOp .IsNot) (rO X.K XR (isD true)) := by
  intro pins s σ H x y v u Q I rx ry h
  obtain ⟨E, a, b, st, F, φ, S, ra, rb, h⟩ := h
  obtain ⟨⟨h1, h2⟩, h3⟩ := rel_isC ra rx
  unfold isD at h
  split at h
  · rw [rb.non] at ry
    cases ry
    exact wpAny_isNot_plain h1 ⟨.bl _, H, I, by rw [h2]; rfl, sat_val S rd_bl h⟩
  · rename_i k
    rw [rb.bl] at ry
    cases ry
    exact wpAny_isNot_plain (h3 k).1 ⟨.bl _, H, I, by rw [(h3 k).2]; rfl, sat_val S rd_bl h⟩
  · exact h.elim
end
/-- in, of dicts too -/
def inD (neg : Bool) (a b : D) (st : Store) : R D :=
  if isDict b st = true then match lookD b a st with
    | some o => .ok (.p (.bool (if neg then !o.isSome else o.isSome))) st
    | none => .bad
  else inD0 neg a b st
section
variable {X : Cx} {XR : XRT} {E : XK}
theorem o_in (hu : X.A.units + 200 < cLine) : OpR X (compareOp .In) (rO X.K XR (inD false)) := by
  intro pins s σ H x y v u Q I rx ry h
  obtain ⟨E, a, b, st, F, φ, S, ra, rb, h⟩ := h
  unfold inD at h
  split at h
  · split at h
    · rename_i o e
      obtain ⟨p, q, rfl, g, h1, _⟩ := lookD_ok S rb ra e
      cases ry
      exact d_in (by omega) I g rx fun s3 I3 => ⟨.bl q.isSome, H, I3, rfl, by rw [h1]; exact sat_val S rd_bl h⟩
    · exact h.elim
  · exact o_in0 hu pins s σ H x y v u Q I rx ry ⟨E, a, b, st, F, φ, S, ra, rb, h⟩
theorem o_notIn (hu : X.A.units + 200 < cLine) : OpR X (compareOp .NotIn) (rO X.K XR (inD true)) := by
  intro pins s σ H x y v u Q I rx ry h
  obtain ⟨E, a, b, st, F, φ, S, ra, rb, h⟩ := h
  unfold inD at h
  split at h
  · split at h
    · rename_i o e
      obtain ⟨p, q, rfl, g, h1, _⟩ := lookD_ok S rb ra e
      cases ry
      exact d_notIn (by omega) I g rx fun s3 I3 => ⟨.bl (!q.isSome), H, I3, rfl, by rw [h1]; exact sat_val S rd_bl h⟩
    · exact h.elim
  · exact o_notIn0 hu pins s σ H x y v u Q I rx ry ⟨E, a, b, st, F, φ, S, ra, rb, h⟩
end
def cmpD : CmpOp → D → D → Store → R D
  | .Eq => eqD false
  | .NotEq => eqD true
  | .In => inD false
  | .NotIn => inD true
  | .Is => isD false
  | .IsNot => isD true
  | op => ordD op
section
variable {X : Cx} {XR : XRT} {E : XK}
theorem o_cmp (hu : X.A.units + 200 < cLine) (op : CmpOp) : OpR X (compareOp op) (rO X.K XR (cmpD op)) := by
  cases op with
  | Eq => exact o_eq hu
  | NotEq => exact o_ne hu
  | In => exact o_in hu
  | NotIn => exact o_notIn hu
  | Is => exact o_is
  | IsNot => exact o_isNot
  | Lt => exact o_ord hu .Lt (by decide) (by decide)
  | LtE => exact o_ord hu .LtE (by decide) (by decide)
  | Gt => exact o_ord hu .Gt (by decide) (by decide)
  | GtE => exact o_ord hu .GtE (by decide) (by decide)
end

/-! ### truth, -x -/
def tru (a : D) (st : Store) : Option Bool :=
  match a with
  | .p .none => some false
  | .p (.bool b) => some b
  | .p (.int i) => some (i != 0)
  | .p (.str x) => if x.length ≤ SZ then some ((x.length : Int) != 0) else none
  | .p (.tuple xs) => some (!xs.isEmpty)
  | a => (items a st).map fun xs => !xs.isEmpty
theorem rds_isEmpty {K : PySem.W.Frag} {F : Hp} {φ : List Addr} {vs : List V} {xs : List D} (h : RDs K F φ vs xs) : vs.isEmpty = xs.isEmpty := by cases h <;> rfl
theorem map_isEmpty {α β : Type} (f : α → β) (xs : List α) : (xs.map f).isEmpty = xs.isEmpty := by cases xs <;> rfl
theorem tru_ok {K : PySem.W.Frag} {F H : Hp} {φ : List Addr} {st : Store} {a : D} {x : V} {k : Bool} (S : SR K F φ st H) (r : RD K F φ x a) (h : tru a st = some k) : TruV K x H k := by
  have lists : (items a st).map (fun xs => !xs.isEmpty) = some k → TruV K x H k := fun h => by
    obtain ⟨ds, e, rfl⟩ := Option.map_eq_some_iff.mp h
    obtain ⟨l, vs, rfl, hl, r1⟩ := items_ok S r e
    exact .inl ⟨vs, hl, by rw [rds_isEmpty r1]⟩
  cases a with
  | fn z => cases h
  | c n => exact lists h
  | p y =>
    cases y with
    | none => cases r; exact (Option.some.inj h).symm
    | bool j => cases r; exact (Option.some.inj h).symm
    | int j => cases r; exact (Option.some.inj h).symm
    | str j =>
      cases r
      have h : (if j.length ≤ SZ then some ((j.length : Int) != 0) else none) = some k := h
      split at h
      · rename_i hz
        exact ⟨sz_ok hz, (Option.some.inj h).symm⟩
      · cases h
    | list j => exact lists h
    | tuple xs =>
      obtain ⟨l, vs, rfl, hl, _, r1⟩ := tup_ok S r
      exact .inr (.inl ⟨vs, hl, by rw [rds_isEmpty r1, map_isEmpty]; exact (Option.some.inj h).symm⟩)
    | dict j => cases r
def negD (a : D) (st : Store) : R D :=
  match a with
  | .p (.int i) => .ok (.p (.int (-i))) st
  | _ => .bad
theorem o_neg {X : Cx} {XR : XRT} : UnR X (unaryOp .USub) (rU X.K XR negD) := by
  intro pins s σ H x v Q I rx h
  obtain ⟨E, a, st, F, φ, S, ra, h⟩ := h
  unfold negD at h
  split at h
  · rename_i i
    exact un_neg pins s σ H _ v Q I rx ⟨i, ra.int, sat_val S rd_int h⟩
  · exact h.elim

/-! ### items, parts -/
def ixD0 (a b : D) (st : Store) : R D :=
  match a, b with
  | .p (.tuple xs), .p (.int i) => match atI xs i with
    | some x => .ok (.p x) st
    | none => .bad
  | .p (.str z), .p (.int i) => if z.length ≤ SZ then match atI z.cps.toList i with
      | some c => .ok (.p (.str ⟨#[c]⟩)) st
      | none => .bad
    else .bad
  | a, .p (.int i) => match items a st with
    | some xs => match atI xs i with
      | some d => .ok d st
      | none => .bad
    | none => match tups a st with
      | some xs => match atI xs i with
        | some d => .ok d st
        | none => .bad
      | none => .bad
  | _, _ => .bad
theorem rds_atI {K : PySem.W.Frag} {F : Hp} {φ : List Addr} {vs : List V} {xs : List D} {i : Int} {d : D} (h : RDs K F φ vs xs) (e : atI xs i = some d) : ∃ v, atI vs i = some v ∧ RD K F φ v d := by
  unfold atI at e ⊢
  rw [rds_length h]
  obtain ⟨j, e1, e2⟩ := Option.bind_eq_some_iff.mp e
  obtain ⟨v, h1, h2⟩ := rds_get h e2
  exact ⟨v, by rw [e1]; exact h1, h2⟩
theorem atI_map {α β : Type} {f : α → β} {xs : List α} {i : Int} {x : α} (e : atI xs i = some x) : atI (xs.map f) i = some (f x) := by
  unfold atI at e ⊢
  obtain ⟨j, e1, e2⟩ := Option.bind_eq_some_iff.mp e
  rw [List.length_map, e1]
  show (xs.map f)[j]? = _
  rw [List.getElem?_map, e2]
  rfl
theorem ix_D0 {X : Cx} {XR : XRT} : IxR X (rO X.K XR ixD0) := by
  intro a' b' pins s σ H x y v u Q I rx ry h hs
  obtain ⟨E, a, b, st, F, φ, S, ra, rb, h⟩ := h
  unfold ixD0 at h
  split at h
  · rename_i xs i
    split at h
    · rename_i d e
      obtain ⟨l, vs, rfl, hl, _, r1⟩ := tup_ok S ra
      obtain ⟨w, h1, h2⟩ := rds_atI r1 (atI_map (f := D.p) e)
      exact ix_tup a' b' pins s σ H _ _ v u Q I rx ry ⟨l, vs, i, w, rfl, rb.int, hl, h1, sat_val S h2 h⟩ hs
    · exact h.elim
  · rename_i z i
    split at h
    · rename_i hz
      split at h
      · rename_i c e
        exact ix_str a' b' pins s σ H _ _ v u Q I rx ry ⟨z, i, c, ra.str, rb.int, sz_ok hz, e, sat_val S rd_str h⟩ hs
      · exact h.elim
    · exact h.elim
  · rename_i i _ _
    split at h
    · rename_i xs e0
      split at h
      · rename_i d e
        obtain ⟨l, vs, rfl, hl, r1⟩ := items_ok S ra e0
        obtain ⟨w, h1, h2⟩ := rds_atI r1 e
        exact ix_list a' b' pins s σ H _ _ v u Q I rx ry ⟨l, vs, i, w, rfl, rb.int, hl, h1, sat_val S h2 h⟩ hs
      · exact h.elim
    · split at h
      · rename_i xs e0
        split at h
        · rename_i d e
          obtain ⟨l, vs, rfl, hl, r1⟩ := tups_ok S ra e0
          obtain ⟨w, h1, h2⟩ := rds_atI r1 e
          exact ix_tup a' b' pins s σ H _ _ v u Q I rx ry ⟨l, vs, i, w, rfl, rb.int, hl, h1, sat_val S h2 h⟩ hs
        · exact h.elim
      · exact h.elim
  · exact h.elim
/-- .. of dicts too -/
def ixD (a b : D) (st : Store) : R D :=
  if isDict a st = true then match lookD a b st with
    | some (some d) => .ok d st
    | _ => .bad
  else ixD0 a b st
theorem typeIs_dget {X : Cx} {pins : List (Addr × Obj)} {σ : L2.St} {H : Hp} {s : Shared} {a : Addr} {y : V} {o : Option V} (I : Inv X pins σ H s) (g : DGet H a y o) : s.TypeIs (.ref a) "dict" := dict_typeIs I g
theorem ix_D {X : Cx} {XR : XRT} (hu : X.A.units + 200 < cLine) : IxR X (rO X.K XR ixD) := by
  intro a' b' pins s σ H x y v u Q I rx ry h hs
  obtain ⟨E, a, b, st, F, φ, S, ra, rb, h⟩ := h
  unfold ixD at h
  split at h
  · split at h
    · rename_i d ed
      obtain ⟨p, q, rfl, g, _, h2⟩ := lookD_ok S ra rb ed
      obtain ⟨w0, rfl, rw0⟩ := h2 d rfl
      cases rx
      exact tail_any (dict_typeIs I g) PySem.F.slot_dict_getitem.lookup (d_getItem (by omega) I g ry fun w' s3 I3 rw' => ⟨w0, H, I3, rw', sat_val S rw0 h⟩) hs
    · exact h.elim
  · exact ix_D0 a' b' pins s σ H x y v u Q I rx ry ⟨E, a, b, st, F, φ, S, ra, rb, h⟩ hs
/-- the part of a list -/
def cut {α : Type} (xs : List α) (lo hi : Option Int) : List α := (xs.drop (HT.sIx xs.length 0 lo)).take (HT.sIx xs.length xs.length hi - HT.sIx xs.length 0 lo)
def slD (a : D) (lo hi : Option Int) (st : Store) : R D :=
  match a with
  | .p (.tuple xs) => .ok (.p (.tuple (cut xs lo hi))) st
  | .p (.str z) => if z.length ≤ SZ then .ok (.p (.str (cutS z lo hi))) st else .bad
  | a => match items a st with
    | some xs => mkL false (cut xs lo hi) st
    | none => .bad
def rSl (K : PySem.W.Frag) (XR : XRT) (c : Bool) : V → Option Int → Option Int → Hp → VK → Prop := fun x lo hi H Q => ∃ E a st F φ, SR K F φ st H ∧ RD K F φ x a ∧ Sat K XR E (QE K Q) F φ (slD a lo hi st)
theorem rds_cut {K : PySem.W.Frag} {F : Hp} {φ : List Addr} {vs : List V} {xs : List D} (h : RDs K F φ vs xs) (lo hi : Option Int) : RDs K F φ (cutV vs lo hi) (cut xs lo hi) := by
  unfold cutV cut
  rw [rds_length h]
  exact rds_take _ (rds_drop _ h)
theorem cut_map {α β : Type} (f : α → β) (xs : List α) (lo hi : Option Int) : cut (xs.map f) lo hi = (cut xs lo hi).map f := by
  unfold cut
  rw [List.length_map, ← List.map_drop, ← List.map_take]
theorem cut_all {α : Type} {xs : List α} {lo hi : Option Int} (h : HT.sIx xs.length 0 lo = 0 ∧ HT.sIx xs.length xs.length hi = xs.length) : cut xs lo hi = xs := by
  unfold cut
  rw [h.1, h.2, List.drop_zero, Nat.sub_zero, List.take_length]
theorem sl_D {X : Cx} {XR : XRT} {c : Bool} : SlR X (rSl X.K XR c) := by
  intro pins s σ H x v vl vu lo hi sl Q I rx hs pl pu h
  obtain ⟨E, a, st, F, φ, S, ra, h⟩ := h
  unfold slD at h
  split at h
  · rename_i xs
    obtain ⟨l, vs, rfl, hl, hlF, r1⟩ := tup_ok S ra
    have e := rds_length r1
    rw [List.length_map] at e
    refine sl_tupA pins s σ H _ v vl vu lo hi sl Q I rx hs pl pu ⟨l, vs, rfl, hl, fun hw => ?_, fun _ p hp => ?_⟩
    · rw [e] at hw
      rw [cut_all hw] at h
      exact sat_val S ra h
    · have rr := rds_cut r1 lo hi
      rw [cut_map] at rr
      exact sat_newT S hp rr.dpAll h
  · rename_i z
    split at h
    · rename_i hz
      exact sl_str pins s σ H _ v vl vu lo hi sl Q I rx hs pl pu ⟨z, ra.str, sz_ok hz, sat_val S rd_str h⟩
    · exact h.elim
  · split at h
    · rename_i xs e0
      obtain ⟨l, vs, rfl, hl, r1⟩ := items_ok S ra e0
      exact sl_list pins s σ H _ v vl vu lo hi sl Q I rx hs pl pu ⟨l, vs, rfl, hl, fun p hp => sat_mkL S hp (rds_cut r1 lo hi) h⟩
    · exact h.elim
/-- the part of a list, a cell -/
def slDc (a : D) (lo hi : Option Int) (st : Store) : R D :=
  match items a st with
  | some xs => mkL true (cut xs lo hi) st
  | none => .bad
def rSlc (K : PySem.W.Frag) (XR : XRT) : V → Option Int → Option Int → Hp → VK → Prop := fun x lo hi H Q => ∃ E a st F φ, SR K F φ st H ∧ RD K F φ x a ∧ Sat K XR E (QE K Q) F φ (slDc a lo hi st)
theorem sl_Dc {X : Cx} {XR : XRT} : SlR X (rSlc X.K XR) := by
  intro pins s σ H x v vl vu lo hi sl Q I rx hs pl pu h
  obtain ⟨E, a, st, F, φ, S, ra, h⟩ := h
  unfold slDc at h
  split at h
  · rename_i xs e0
    obtain ⟨l, vs, rfl, hl, r1⟩ := items_ok S ra e0
    exact sl_list pins s σ H _ v vl vu lo hi sl Q I rx hs pl pu ⟨l, vs, rfl, hl, fun p hp => sat_mkL S hp (rds_cut r1 lo hi) h⟩
  · exact h.elim
end MP

set_option Elab.async false
set_option linter.all false
set_option autoImplicit false
set_option maxRecDepth 100000
set_option maxHeartbeats 1000000
/-! sorting tuples whose first places that differ are alike -/
namespace MP
open PySem PySem.Spec PyProof.Rows L2 PySem.W

def lexOk : List PyData → List PyData → Bool
  | x :: xs, y :: ys => alike x y && (!PyData.eqv x y || lexOk xs ys)
  | _, _ => true
section
variable {prog : Program} {w : World} {A : Around} {s : Shared}
theorem katLex_mix {b fin : Bool} {Q : Bool → Shared → Prop} : ∀ (xs ys : List PyData) (i : Nat) (vs ws : List Value) (as bs : List Addr), ReadsAll s.heap vs xs as → ReadsAll s.heap ws ys bs → lexOk xs ys = true →
    A.units + min (PyData.depthAll xs) (PyData.depthAll ys) < cLine → (b = true → i = 0 → ∀ x r t, xs = x :: r → x ≠ .tuple t) → fin = decide (xs.length < ys.length) → Q (PyProof.Rows.lexLt itemOrd (keyToksAll xs) (keyToksAll ys)) s → KatLex prog w A b fin Q (vs.zip ws) i s
  | [], [], i, _, _, _, _, ra, rb, _, _, _, hf, hq => by
    cases ra
    cases rb
    have e : fin = false := by rw [hf]; rfl
    subst e
    rw [lex_irrefl] at hq
    exact kat_nil hq
  | [], y :: ys, i, _, _, _, _, ra, rb, _, _, _, hf, hq => by
    cases ra
    have e : fin = true := by rw [hf]; exact decide_eq_true (Nat.succ_pos _)
    subst e
    rw [toks_all_cons] at hq
    simp only [keyToksAll] at hq
    rw [lex_diff (O := itemOrd) (by simp)] at hq
    rw [List.zip_nil_left]
    exact kat_nil (by simpa [itemLt] using hq)
  | x :: xs, [], i, _, _, _, _, ra, rb, _, _, _, hf, hq => by
    cases rb
    have e : fin = false := by rw [hf]; exact decide_eq_false (Nat.not_lt_zero _)
    subst e
    rw [toks_all_cons] at hq
    simp only [keyToksAll] at hq
    rw [lex_diff (O := itemOrd) (by simp)] at hq
    rw [List.zip_nil_right]
    exact kat_nil (by simpa [itemLt] using hq)
  | x :: xs, y :: ys, i, _, _, _, _, ra, rb, h, hu, hb, hf, hq => by
    unfold lexOk at h
    rw [Bool.and_eq_true] at h
    obtain ⟨h1, h2⟩ := h
    have hf' : fin = decide (xs.length < ys.length) := by
      rw [hf]
      simp only [List.length_cons, Nat.add_lt_add_iff_right]
    cases ra with
    | cons r rs =>
      cases rb with
      | cons r' rs' =>
        rw [List.zip_cons_cons]
        refine kat_cons (eqAt_alike x y A s _ _ _ _ r r' h1 (SeqAt.room_head hu) prog w _ _ ?_)
        cases hx : PyData.eqv x y with
        | true =>
          rw [dataLt_all_yes h1 hx] at hq
          exact kat_yes (katLex_mix xs ys (i + 1) _ _ _ _ rs rs' (by simpa [hx] using h2) (SeqAt.room_tail hu) (fun _ hi => absurd hi (Nat.succ_ne_zero i)) hf' hq)
        | false =>
          rw [dataLt_all_no h1 hx] at hq
          refine kat_no (oneLt_alike (fun hbi t => ?_) r r' h1 (ne_none_of h1 hx) (SeqAt.room_head hu) hq)
          rw [Bool.and_eq_true] at hbi
          exact hb hbi.1 (by simpa using hbi.2) x xs t rfl
theorem dataKind_plain {h : Heap} {ds : List PyData} (hp : ∀ d ∈ ds, d.plain = true) {v : Value} {d : PyData} {as : List Addr} (hd : d ∈ ds) (r : Reads h v d as) : (dataKind h ds).keyOf v = some (keyToks d) := by
  have q : ∃ d, d ∈ ds ∧ ∃ as, Reads h v d as := ⟨d, hd, as, r⟩
  have e : (dataKind h ds).keyOf v = some (keyToks q.choose) := by
    show (open Classical in if q : ∃ d, d ∈ ds ∧ ∃ as, Reads h v d as then some (keyToks q.choose) else none) = _
    rw [dif_pos q]
  obtain ⟨h1, as', h2⟩ := q.choose_spec
  rw [e, SeqAt.plain_unique _ _ _ _ _ (hp _ h1) h2 r]
/-- tuples that may be sorted, the first places that differ being alike -/
def mixTs (ds : List PyData) : Prop := (∀ d ∈ ds, d.plain = true ∧ ∃ x r, d = .tuple (x :: r)) ∧ (∀ x r x' r', PyData.tuple (x :: r) ∈ ds → PyData.tuple (x' :: r') ∈ ds → lexOk (x :: r) (x' :: r') = true)
theorem sortsMix {vs : List Value} {ds : List PyData} (e : EachIs (fun v d => ∃ as, Reads s.heap v d as) vs ds) (hm : mixTs ds) (hu : ∀ d, d ∈ ds → A.units + d.depth < cLine) : SortsAt prog w A s (dataKind s.heap ds) vs := by
  have room : ∀ {d d' : PyData}, d ∈ ds → A.units + min d.depth d'.depth < cLine := fun {d d'} hd => Nat.lt_of_le_of_lt (Nat.add_le_add_left (Nat.min_le_left _ _) _) (hu d hd)
  have ht : ∀ d ∈ ds, ∃ x r, d = .tuple (x :: r) := fun d hd => (hm.1 d hd).2
  refine ⟨fun v hv => ?_, ?_⟩
  · obtain ⟨d, hd, as, r⟩ := e.left v hv
    exact ⟨_, dataKind_plain (fun d hd => (hm.1 d hd).1) hd r⟩
  · cases ds with
    | nil =>
      cases e
      exact ⟨general', fun E x y a b Q ha _ _ => (by
        obtain ⟨d, _, hd, _⟩ := dataKind_inv ha
        exact absurd hd (by simp)), fun h2 => absurd h2 (by simp)⟩
    | cons d₀ ds₀ =>
      obtain ⟨x₀, r₀, e₀⟩ := ht d₀ (List.mem_cons_self ..)
      have hfirst : ∀ x r, PyData.tuple (x :: r) ∈ d₀ :: ds₀ → alike x x₀ = true := by
        intro x r h
        have q := hm.2 x r x₀ r₀ h (e₀ ▸ List.mem_cons_self ..)
        unfold lexOk at q
        rw [Bool.and_eq_true] at q
        exact q.1
      refine ⟨tuples' (dataType x₀ != Value.type "tuple"), ?_, fun h2 E Q hq => ?_⟩
      · intro E x y a b Q ha hb hq
        obtain ⟨d, as, hd, ra, rfl⟩ := dataKind_inv ha
        obtain ⟨d', as', hd', rb, rfl⟩ := dataKind_inv hb
        have hroom := room (d' := d') hd
        obtain ⟨x1, r1, rfl⟩ := ht d hd
        obtain ⟨x2, r2, rfl⟩ := ht d' hd'
        have hdd := hm.2 _ _ _ _ hd hd'
        have hq' : Q (dataLt (.tuple (x1 :: r1)) (.tuple (x2 :: r2))) s := hq
        rw [dataLt_tuple] at hq'
        cases ra with
        | @tuple l o xs n _ _ h1 h2 h3 h4 =>
          cases rb with
          | @tuple l' o' xs' n' _ _ k1 k2 k3 k4 =>
            have n1 : xs.size = (x1 :: r1).length := by simpa using SeqAt.ReadsAll.length _ _ _ h4
            have n2 : xs'.size = (x2 :: r2).length := by simpa using SeqAt.ReadsAll.length _ _ _ k4
            refine kat_lt h1 h3 k1 k3 (katLex_mix (x1 :: r1) (x2 :: r2) 0 _ _ _ _ h4 k4 hdd (by have q := SeqAt.room_in hroom; omega) (fun hb _ x r t ex => ?_) (by rw [n1, n2]) hq')
            obtain ⟨rfl, rfl⟩ := List.cons.inj ex
            have q := dataType_alike (hfirst _ _ hd)
            rw [← q] at hb
            exact dataType_tuple hb t
      · obtain ⟨fs, t1, t2, t3⟩ := each_katTups e ht
        refine kat_kind (T := dataType x₀) t1 (by omega) (fun f hf => ?_) (beq_self_eq_true _) hq
        obtain ⟨x, r, as, m1, m2⟩ := t3 f hf
        rw [← dataType_alike (hfirst x r m1)]
        exact looks_reads m2
theorem each_keysP {h : Heap} {ds : List PyData} (hp : ∀ d ∈ ds, d.plain = true) {vs : List Value} (e : EachIs (fun v d => ∃ as, Reads h v d as) vs ds) : EachIs (fun v d => (dataKind h ds).keyOf v = some (keyToks d)) vs ds :=
  (each_mem e).mono fun _ _ ⟨⟨_, r⟩, hd⟩ => dataKind_plain hp hd r
theorem sortedMix {β : Type} {R : Value → β → Prop} {enc : β → PyData} {vs : List Value} {bs : List β} {E : Value → Shared → Prop} {l : Addr} {Q : Value → Shared → Prop} (hl : s.heap.IsList l vs.toArray) (e : EachIs R vs bs) (er : EachIs (fun v b => ∃ as, Reads s.heap v (enc b) as) vs bs) (hm : mixTs (bs.map enc)) (hL : bs.length ≤ sizeLine)
    (hu : ∀ b, b ∈ bs → A.units + 2 + (enc b).depth < cLine) (h : ∀ out, out.length = bs.length → EachIs R out (bs.mergeSort (dataLe false enc)) → Q (.ref (s.heap.objs.size + 1)) { s with heap := sortedAll s.heap vs (List.toArray out) }) :
    wpAny (model prog w) A (call (.builtin "sorted") [.ref l]) Q E s := by
  have er' : EachIs (fun v b => ∃ as, Reads (sortingHeap (copyHeap s.heap vs) (s.heap.objs.size + 1) vs) v (enc b) as) vs bs := er.mono fun _ _ ⟨as, r⟩ => ⟨as, PyProof.Rows.Reads.keeps (fun _ _ => sorting_copy_old) r⟩
  refine sorted_vals hl (sortsMix (s := { s with heap := sortingHeap (copyHeap s.heap vs) (s.heap.objs.size + 1) vs }) (each_map (R := fun v d => ∃ as, Reads (sortingHeap (copyHeap s.heap vs) (s.heap.objs.size + 1) vs) v d as) enc er') hm (bound_map hu)) (by rw [e.length]; exact hL)
    (h _ (by rw [sortVals_length false rfl]; exact e.length) ?_)
  exact sortVals_each (κ := dataKind _ (bs.map enc)) (fun b => keyToks (enc b)) e (each_of_map enc (each_keysP (fun d hd => (hm.1 d hd).1) (each_map (R := fun v d => ∃ as, Reads _ v d as) enc er')))
end
/-- sorted of what can be walked -/
theorem sorted_src {prog : Program} {w : World} {A : Around} {E : Value → Shared → Prop} {s : Shared} {T : String} {r d : Addr} {n : Nat} {P : Nat → Value → Prop} {OK : Heap → Prop} {Q : Value → Shared → Prop}
    (K : KdlSrc prog w T r d n P OK) (hh : A.handled = none) (ok : OK s.heap) (hn : n ≤ sizeLine)
    (h : ∀ (h' : Heap) (tk : Nat) (vs : List Value), (∀ (b : Addr) (o : Obj), s.heap.get? b = some o → h'.get? b = some o) → vs.length = n → (∀ j v, vs[j]? = some v → P j v) →
      ∃ κ, SortsAt prog w A.in1.in1 { s with heap := sortingHeap (h'.push (seqObj "list" vs.toArray 0)) h'.objs.size vs, toks := tk } κ vs ∧
        Q (.ref h'.objs.size) { s with heap := sortedHeap (h'.push (seqObj "list" vs.toArray 0)) h'.objs.size vs (sortVals κ false vs vs).toArray, toks := tk }) :
    wpAny (model prog w) A (call (.builtin "sorted") [.ref r]) Q E s := by
  refine Calls.call_function_entry kind_sorted plain_sorted entry_sorted (args_sorted1 (.ref r)) ?_
  show wpAny (model prog w) A.in1 (Builtin.sorted { pos := [.ref r] }) _ _ _
  unfold Builtin.sorted
  refine wpAny_bind (wpAny_pure (wpAny_bind (kdu_collect K hh ok hn fun h' tk acc hk hacc => ?_)))
  obtain ⟨κ, hs, hq⟩ := h h' tk acc.toList hk (by rw [Array.length_toList]; exact hacc.1) fun j v e => hacc.2 j v (by rw [← Array.getElem?_toList]; exact e)
  have hl : acc.toList.length ≤ sizeLine := by rw [Array.length_toList, hacc.1]; exact hn
  refine wpAny_bind (wpAny_newList ?_ hl)
  have hoL : (h'.push (seqObj "list" acc.toList.toArray 0)).get? h'.objs.size = some (seqObj "list" acc.toList.toArray 0) := Heap.get?_push_size h' rfl
  refine wpAny_bind (wpAny_holding (wpAny_call_entry slot_list_sort ⟨_, hoL, rfl⟩ entry_list_sort (list_sort_vals hoL hs hl ⟨.none, rfl, wpAny_pure ⟨_, rfl, hq⟩⟩) (args_list_sort _)))
theorem sorting_push_old {h : Heap} {vs : List Value} {o : Obj} {b : Addr} {u : Obj} (e : h.get? b = some u) : (sortingHeap (h.push o) h.objs.size vs).get? b = some u := by
  unfold sortingHeap
  refine Heap.get?_push_of_some _ (Heap.get?_push_of_some _ ?_)
  have hb : b ≠ h.objs.size := Nat.ne_of_lt (Heap.lt_size e)
  rw [(Heap.SameBut.update (h.push o) h.objs.size _).2 b hb]
  exact Heap.get?_push_of_some _ e
theorem sorted_push_old {h : Heap} {vs : List Value} {o : Obj} {out : Array Value} {b : Addr} {u : Obj} (e : h.get? b = some u) : (sortedHeap (h.push o) h.objs.size vs out).get? b = some u := by
  have hb := Heap.lt_size e
  rw [sortedHeap_old (Nat.ne_of_lt hb) (by rw [size_push']; exact Nat.lt_succ_of_lt hb)]
  exact Heap.get?_push_of_some _ e
end MP

set_option Elab.async false
set_option linter.all false
set_option autoImplicit false
set_option maxRecDepth 100000
set_option maxHeartbeats 1000000
/-! built-in calls on values -/
namespace MP
open PySem PySem.Spec PyProof.Rows L2

/-! ### built-in functions -/
def tyName (d : D) (st : Store) : Option String :=
  match d with
  | .p .none => some "NoneType"
  | .p (.bool _) => some "bool"
  | .p (.int _) => some "int"
  | .p (.str _) => some "str"
  | .p (.tuple _) => some "tuple"
  | .c n => match st[n]? with
    | some (.tup _) => some "tuple"
    | some (.dct _) => some "dict"
    | some (.dtt _) => some "dict"
    | _ => (items (.c n) st).map fun _ => "list"
  | d => (items d st).map fun _ => "list"
def isiB (t c : String) : Bool := t == c || (t == "bool" && c == "int")
def isiOk (c : String) : Bool := c == "int" || c == "bool" || c == "str" || c == "list" || c == "tuple"
def isiD (c : String) (d : D) (st : Store) : R D :=
  match tyName d st with
  | some t => .ok (.p (.bool (isiB t c))) st
  | none => .bad
inductive Bi where
  | len | all | any | sorted (c : Bool) | tuple | list (c : Bool) | max | min | sum | int | dict | str | repr
/-- data shown -/
def reprD (a : D) (st : Store) : R D :=
  match a with
  | .p y => if y.showable = true ∧ y.hasDict = false ∧ y.depth ≤ 64 ∧ y.shown.length ≤ SZ then .ok (.p (.str y.shown)) st else .bad
  | _ => .bad
def lenD (a : D) (st : Store) : R D :=
  match a with
  | .p (.str x) => if x.length ≤ SZ then .ok (.p (.int x.length)) st else .bad
  | .p (.tuple xs) => .ok (.p (.int xs.length)) st
  | a => match items a st with
    | some xs => .ok (.p (.int xs.length)) st
    | none => match a with
      | .c n => match dcellL st n with
        | some kvs => .ok (.p (.int kvs.length)) st
        | none => match st[n]? with
          | some (.tup ds) => .ok (.p (.int ds.length)) st
          | _ => .bad
      | _ => .bad
def bools : List D → Option (List Bool)
  | [] => some []
  | .p (.bool b) :: r => (bools r).map (b :: ·)
  | _ => none
theorem bools_some : ∀ {ds : List D} {bs : List Bool}, bools ds = some bs → ds = bs.map fun b => D.p (.bool b)
  | [], _, h => by cases h; rfl
  | .p (.bool b) :: r, _, h => by
    obtain ⟨cs, h1, rfl⟩ := Option.map_eq_some_iff.mp (show (bools r).map (b :: ·) = some _ from h)
    rw [bools_some h1]; rfl
  | .p .none :: _, _, h => by cases h
  | .p (.int _) :: _, _, h => by cases h
  | .p (.str _) :: _, _, h => by cases h
  | .p (.list _) :: _, _, h => by cases h
  | .p (.tuple _) :: _, _, h => by cases h
  | .p (.dict _) :: _, _, h => by cases h
  | .c _ :: _, _, h => by cases h
@[simp] theorem bools_map {α : Type} (f : α → Bool) (xs : List α) : bools (xs.map fun x => D.p (.bool (f x))) = some (xs.map f) := by
  induction xs with
  | nil => rfl
  | cons x r ih => show (bools (r.map _)).map (f x :: ·) = _; rw [ih]; rfl
def allD (isAll : Bool) (a : D) (st : Store) : R D :=
  match items a st with
  | some xs => match bools xs with
    | some bs => .ok (.p (.bool (if isAll then bs.all id else bs.any id))) st
    | none => .bad
  | none => .bad
theorem rds_bools {K : PySem.W.Frag} {F : Hp} {φ : List Addr} : ∀ {vs : List V} {bs : List Bool}, RDs K F φ vs (bs.map fun b => D.p (.bool b)) → vs = bs.map V.bl
  | _, [], h => by cases h; rfl
  | _, b :: bs, h => by
    cases h with
    | cons a t =>
      rw [rds_bools t, a.bl]; rfl
def tupleD (a : D) (st : Store) : R D :=
  match a with
  | .p (.tuple xs) => .ok (.p (.tuple xs)) st
  | a => match items a st with
    | some xs => match pures xs with
      | some ys => .ok (.p (.tuple ys)) st
      | none => .bad
    | none => .bad
def listD0 (c : Bool) (a : D) (st : Store) : R D :=
  match a with
  | .p (.tuple xs) => mkL c (xs.map .p) st
  | a => match items a st with
    | some xs => mkL c xs st
    | none => .bad
theorem dp_key {K : PySem.W.Frag} {F : Hp} : ∀ k : Key, Dp K F (kV k) (keyP k)
  | .inl i => .int i
  | .inr x => .str x
theorem dpAll_keys {K : PySem.W.Frag} {F : Hp} : ∀ k : List Key, DpAll K F (k.map kV) (k.map keyP)
  | [] => .nil
  | a :: r => .cons (dp_key a) (dpAll_keys r)
theorem pures_keys {K : PySem.W.Frag} {F : Hp} {φ : List Addr} : ∀ {k : List Key} {ds : List D}, RDs K F φ (k.map kV) ds → (pures ds).isNone = false
  | [], _, h => by cases h; rfl
  | a :: r, _, h => by
    cases h with
    | @cons _ d _ ds h t =>
      have ih := pures_keys (k := r) t
      cases d with
      | p x =>
        rw [pures_p]
        cases e : pures ds with
        | none => rw [e] at ih; cases ih
        | some ys => rfl
      | c n =>
        obtain ⟨b, _, e⟩ := h
        cases a <;> cases e
      | fn z =>
        obtain ⟨b, e, _⟩ := h
        cases a <;> cases e
/-- no tracked tuple holds data alone -/
def noPT (st : Store) : Bool := st.all fun c => match c with
  | .tup ds => (pures ds).isNone
  | _ => true
/-- a tuple of keys, frozen -/
theorem SR.keyF {K : PySem.W.Frag} {F H : Hp} {φ : List Addr} {st : Store} (S : SR K F φ st H) (g : noPT st = true) {q : Addr} {k : List Key} (hq : H q = some (.tup (k.map kV))) : ∃ F', Ext F φ F' φ ∧ SR K F' φ st H ∧ F' q = some (.tup (k.map kV)) := by
  cases hFq : F q with
  | some u =>
    have := S.sub _ _ hFq
    rw [hq] at this
    cases Option.some.inj this
    exact ⟨F, Ext.refl, S, hFq⟩
  | none =>
    have nin : q ∉ φ := fun hm => by
      obtain ⟨m, hm1, hm2⟩ := List.getElem_of_mem hm
      have hm3 : m < st.length := by rw [← S.len]; exact hm1
      have hmq : φ[m]? = some q := by rw [List.getElem?_eq_getElem hm1, hm2]
      cases hlv : lv st[m] with
      | false =>
        obtain ⟨b, e1, e2⟩ := S.off m _ (List.getElem?_eq_getElem hm3) hlv
        rw [hmq] at e1
        cases Option.some.inj e1
        exact e2.ne hFq
      | true =>
        obtain ⟨b, u, e1, _, e3, e4⟩ := S.live m _ (List.getElem?_eq_getElem hm3) hlv
        rw [hmq] at e1
        cases Option.some.inj e1
        rw [hq] at e3
        cases Option.some.inj e3
        generalize hc : st[m] = c at e4
        cases e4 with
        | tup rr =>
          have := List.all_eq_true.mp g _ (List.getElem_mem hm3)
          rw [hc] at this
          exact Bool.noConfusion (this.symm.trans (pures_keys rr))
    have x2 : Ext F φ (upd F q (.tup (k.map kV))) φ := ⟨Evl.Ex.new hFq, List.prefix_refl φ⟩
    refine ⟨_, x2, ⟨fun b u eb => ?_, S.len, S.nd, fun m c em hc => ?_, fun m c em hc => ?_⟩, upd_same⟩
    · by_cases hb : b = q
      · subst hb; rw [upd_same] at eb; rw [hq, eb]
      · rw [upd_ne hb] at eb; exact S.sub _ _ eb
    · obtain ⟨b, u, e1, e2, e3, e4⟩ := S.live m c em hc
      have hb : b ≠ q := fun z => nin (z ▸ List.mem_of_getElem? e1)
      exact ⟨b, u, e1, by rw [upd_ne hb]; exact e2, e3, e4.mono x2⟩
    · obtain ⟨b, e1, e2⟩ := S.off m c em hc
      exact ⟨b, e1, e2.mono x2⟩
theorem SR.keysF {K : PySem.W.Frag} {H : Hp} {φ : List Addr} {st : Store} (g : noPT st = true) : ∀ {ws : List (List Key × V)} {kvs : List (List Key × D)} {bs : List Addr} {F : Hp}, SR K F φ st H → RNs K F φ ws kvs → Paired (fun p b => H b = some (.tup (p.1.map kV))) ws bs →
    ∃ F', Ext F φ F' φ ∧ SR K F' φ st H ∧ RDs K F' φ (bs.map V.ref) (kvs.map fun kv => D.p (.tuple (kv.1.map keyP)))
  | _, _, _, F, S, .nil, .nil => ⟨F, Ext.refl, S, .nil⟩
  | _, _, _, F, S, .cons a t, .cons b u => by
    obtain ⟨F1, x1, S1, h1⟩ := S.keyF g b
    obtain ⟨F2, x2, S2, h2⟩ := SR.keysF g S1 (RNs.mono x1 t) u
    refine ⟨F2, x1.trans x2, S2, .cons ?_ h2⟩
    show RD K F2 φ (V.ref _) (D.p (PyData.tuple (List.map keyP _)))
    rw [← a.1]
    exact Dp.tup (x2.sub _ _ h1) (dpAll_keys _)
def listD (c : Bool) (a : D) (st : Store) : R D :=
  match a with
  | .p (.tuple xs) => mkL c (xs.map .p) st
  | a => match items a st with
    | some xs => mkL c xs st
    | none => match a with
      | .c n => match dcellL st n with
        | some kvs => mkL c (kvs.map fun kv => .p (keyP kv.1)) st
        | none => match dttOf (.c n) st with
          | some kvs => if noPT st = true then mkL c (kvs.map fun kv => .p (.tuple (kv.1.map keyP))) st else .bad
          | none => .bad
      | _ => .bad
def intsP : List PyData → Option (List Int)
  | [] => some []
  | .int i :: r => (intsP r).map (i :: ·)
  | _ => none
def strsP : List PyData → Option (List Str)
  | [] => some []
  | .str i :: r => (strsP r).map (i :: ·)
  | _ => none
theorem ints_some : ∀ {ds : List PyData} {bs : List Int}, intsP ds = some bs → ds = bs.map .int
  | [], _, h => by cases h; rfl
  | .int b :: r, _, h => by
    obtain ⟨cs, h1, rfl⟩ := Option.map_eq_some_iff.mp (show (intsP r).map (b :: ·) = some _ from h)
    rw [ints_some h1]; rfl
  | .none :: _, _, h => by cases h
  | .bool _ :: _, _, h => by cases h
  | .str _ :: _, _, h => by cases h
  | .list _ :: _, _, h => by cases h
  | .tuple _ :: _, _, h => by cases h
  | .dict _ :: _, _, h => by cases h
theorem strs_some : ∀ {ds : List PyData} {bs : List Str}, strsP ds = some bs → ds = bs.map .str
  | [], _, h => by cases h; rfl
  | .str b :: r, _, h => by
    obtain ⟨cs, h1, rfl⟩ := Option.map_eq_some_iff.mp (show (strsP r).map (b :: ·) = some _ from h)
    rw [strs_some h1]; rfl
  | .none :: _, _, h => by cases h
  | .bool _ :: _, _, h => by cases h
  | .int _ :: _, _, h => by cases h
  | .list _ :: _, _, h => by cases h
  | .tuple _ :: _, _, h => by cases h
  | .dict _ :: _, _, h => by cases h
@[simp] theorem ints_map (xs : List Int) : intsP (xs.map .int) = some xs := by
  induction xs with
  | nil => rfl
  | cons x r ih => show (intsP (r.map _)).map (x :: ·) = _; rw [ih]; rfl
@[simp] theorem strs_map (xs : List Str) : strsP (xs.map .str) = some xs := by
  induction xs with
  | nil => rfl
  | cons x r ih => show (strsP (r.map _)).map (x :: ·) = _; rw [ih]; rfl
theorem dp_ints {K : PySem.W.Frag} {F : Hp} : ∀ {vs : List V} {ns : List Int}, DpAll K F vs (ns.map .int) → vs = ns.map V.int
  | _, [], h => by cases h; rfl
  | _, n :: ns, h => by cases h with | cons a t => cases a; rw [dp_ints t]; rfl
theorem dp_strs {K : PySem.W.Frag} {F : Hp} : ∀ {vs : List V} {ns : List Str}, DpAll K F vs (ns.map .str) → vs = ns.map V.str
  | _, [], h => by cases h; rfl
  | _, n :: ns, h => by cases h with | cons a t => cases a; rw [dp_strs t]; rfl
/-- data that may be sorted -/
def sortOk (xs : List PyData) : Bool :=
  (xs.all fun x => xs.all fun y => PySem.W.alike x y) && ((xs.all fun x => match x with | .tuple (_ :: _) => true | _ => false) || (xs.all fun x => match x with | .tuple _ => false | .none => false | _ => true)) &&
    (xs.all fun x => decide (x.depth ≤ 64)) && decide (xs.length ≤ SZ)
def sortP (xs : List PyData) : List PyData := xs.mergeSort (PySem.W.dataLe false fun x => x)
def mixB (xs : List PyData) : Bool :=
  (xs.all fun x => match x with | .tuple (_ :: _) => x.plain | _ => false) && (xs.all fun x => xs.all fun y => match x, y with | .tuple a, .tuple b => lexOk a b | _, _ => false) && (xs.all fun x => decide (x.depth ≤ 64)) && decide (xs.length ≤ SZ)
/-- the keys of a dict of texts -/
def txtKeys : List (Key × D) → Option (List Str)
  | [] => some []
  | (.inr z, _) :: r => (txtKeys r).map (z :: ·)
  | _ => none
/-- the keys of a dict whose keys are tuples -/
def keysP (kvs : List (List Key × D)) : List PyData := kvs.map fun kv => .tuple (kv.1.map keyP)
def sortKT (c : Bool) (kvs : List (List Key × D)) (st : Store) : R D :=
  if noPT st = true ∧ (sortOk (keysP kvs) || mixB (keysP kvs)) = true then mkL c ((sortP (keysP kvs)).map .p) st else .bad
def sortedD (c : Bool) (a : D) (st : Store) : R D :=
  match items a st with
  | some xs => match pures xs with
    | some ys => if (sortOk ys || mixB ys) = true then mkL c ((sortP ys).map .p) st else .bad
    | none => .bad
  | none => match a with
    | .c n => match dcellL st n with
      | some kvs => match txtKeys kvs with
        | some ks => if ks.length < 64 then mkL c ((sortP (ks.map .str)).map .p) st else .bad
        | none => .bad
      | none => match st[n]? with
        | some (.lkd kvs) => match txtKeys kvs with
          | some ks => if ks.length < 64 then mkL c ((sortP (ks.map .str)).map .p) st else .bad
          | none => .bad
        | some (.dtt kvs) => sortKT c kvs st
        | some (.lkt kvs) => sortKT c kvs st
        | _ => .bad
    | _ => .bad
def allAlikeB (xs : List PyData) : Bool := (xs.all fun x => notNone x && xs.all fun y => PySem.W.alike x y) && decide (PyData.depthAll xs ≤ 64)
def maxD (mx : Bool) (a : D) (st : Store) : R D :=
  match a with
  | .p (.tuple _) => .bad
  | a => match items a st with
    | some xs => match pures xs with
      | some (y :: ys) => if allAlikeB (y :: ys) = true then .ok (.p (if mx then PySem.W.maxD y ys else PySem.W.minD y ys)) st else .bad
      | _ => .bad
    | none => .bad
def max2D (mx : Bool) (a b : D) (st : Store) : R D :=
  match a, b with
  | .p (.int i), .p (.int j) => .ok (.p (.int (if mx then (if j > i then j else i) else (if j < i then j else i)))) st
  | _, _ => .bad
def sumD (a : D) (st : Store) : R D :=
  match items a st with
  | some xs => match pures xs with
    | some ys => match intsP ys with
      | some ns => .ok (.p (.int ns.sum)) st
      | none => .bad
    | none => .bad
  | none => .bad
def intD (a : D) (st : Store) : R D :=
  match a with
  | .p (.bool b) => .ok (.p (.int (if b then 1 else 0))) st
  | .p (.int i) => .ok (.p (.int i)) st
  | .p (.str x) => match PySem.intText? x with
    | some n => if x.length ≤ 640 then .ok (.p (.int n)) st else .bad
    | none => .bad
  | _ => .bad
/-- a pair of a list from which a dict is made -/
def pairsP : List PyData → Option (List (Key × D))
  | [] => some []
  | .tuple [k, v] :: r => (keyOf (.p k)).bind fun k => (pairsP r).map ((k, D.p v) :: ·)
  | _ => none
def dictPD (a : D) (st : Store) : R D :=
  match items a st with
  | some xs => match pures xs with
    | some ys => match pairsP ys with
      | some ps => .ok (.c st.length) (st ++ [.dct (mergeD [] ps)])
      | none => .bad
    | none => .bad
  | none => match a with
    | .c n => match dcellL st n with
      | some kvs => .ok (.c st.length) (st ++ [.dct kvs])
      | none => .bad
    | _ => .bad
/-- the text of a whole number, of a text -/
def strD (a : D) (st : Store) : R D :=
  match a with
  | .p (.int i) => if i.natAbs < 18446744073709551616 then .ok (.p (.str (Str.ofString (toString i)))) st else .bad
  | .p (.str x) => .ok (.p (.str x)) st
  | _ => .bad
theorem pairs_ok {K : PySem.W.Frag} {F H : Hp} {φ : List Addr} (hs : Evl.Ex F H) : ∀ {ys : List PyData} {vs : List V} {ps : List (Key × D)}, DpAll K F vs ys → pairsP ys = some ps →
    ∃ (as : List Addr) (kvs : List (Key × V)), vs = as.map V.ref ∧ Paired (fun p kv => SqT K H p [kV kv.1, kv.2]) as kvs ∧ RNs K F φ kvs ps
  | [], _, _, h, e => by
    cases Option.some.inj e
    cases h
    exact ⟨[], [], rfl, .nil, .nil⟩
  | .tuple [k, v] :: r, _, _, h, e => by
    obtain ⟨k', e1, e2⟩ := Option.bind_eq_some_iff.mp (show (keyOf (.p k)).bind (fun k => (pairsP r).map ((k, D.p v) :: ·)) = some _ from e)
    obtain ⟨ps, e3, rfl⟩ := Option.map_eq_some_iff.mp e2
    cases h with
    | cons a t =>
      obtain ⟨as, kvs, rfl, h1, h2⟩ := pairs_ok hs t e3
      cases a with
      | tup hx ha =>
        cases ha with
        | cons b1 c1 => cases c1 with
          | cons b2 c2 =>
            cases c2
            have ek := keyOf_ok (φ := φ) (show RD K F φ _ (.p k) from b1) e1
            subst ek
            exact ⟨_ :: as, (k', _) :: kvs, rfl, .cons (Evl.st_of (hs _ _ hx)) h1, .cons ⟨rfl, b2⟩ h2⟩
  | .none :: _, _, _, _, e => by cases e
  | .bool _ :: _, _, _, _, e => by cases e
  | .int _ :: _, _, _, _, e => by cases e
  | .str _ :: _, _, _, _, e => by cases e
  | .list _ :: _, _, _, _, e => by cases e
  | .dict _ :: _, _, _, _, e => by cases e
  | .tuple [] :: _, _, _, _, e => by cases e
  | .tuple [_] :: _, _, _, _, e => by cases e
  | .tuple (_ :: _ :: _ :: _) :: _, _, _, _, e => by cases e
def bi1D : Bi → D → Store → R D
  | .dict => dictPD
  | .str => strD
  | .repr => reprD
  | .len => lenD
  | .all => allD true
  | .any => allD false
  | .sorted c => sortedD c
  | .tuple => tupleD
  | .list c => listD c
  | .max => maxD true
  | .min => maxD false
  | .sum => sumD
  | .int => intD
/-- the name, and what stands behind it -/
def bi1N : Bi → Str
  | .dict => "dict"
  | .str => "str"
  | .repr => "repr"
  | .len => "len"
  | .all => "all"
  | .any => "any"
  | .sorted _ => "sorted"
  | .tuple => "tuple"
  | .list _ => "list"
  | .max => "max"
  | .min => "min"
  | .sum => "sum"
  | .int => "int"
def bi1T : Bi → Bool
  | .dict => true
  | .int => true
  | .tuple => true
  | .list _ => true
  | _ => false
def r1 (r : V → Hp → VK → Prop) : List V → Hp → VK → Prop := fun xs H Q => ∃ x, xs = [x] ∧ r x H Q
def r2 (r : R2) : List V → Hp → VK → Prop := fun xs H Q => ∃ x y, xs = [x, y] ∧ r x y H Q
section
variable {X : Cx} {XR : XRT} {E : XK}
theorem c_len : CallR X (.builtin "len") (r1 (rU X.K XR lenD)) := by
  intro pins s σ H xs us Q I r h
  obtain ⟨x, rfl, E, a, st, F, φ, S, ra, h⟩ := h
  unfold lenD at h
  split at h
  · rename_i z
    split at h
    · rename_i hz
      exact call_len_str pins s σ H _ us Q I r ⟨z, by rw [ra.str], sz_ok hz, sat_val S rd_int h⟩
    · exact h.elim
  · obtain ⟨l, vs, rfl, hl, _, r1⟩ := tup_ok S ra
    have e := rds_length r1
    rw [List.length_map] at e
    exact call_len_seq pins s σ H _ us Q I r ⟨l, vs, rfl, .inr hl, by rw [e]; exact sat_val S rd_int h⟩
  · split at h
    · rename_i ys e0
      obtain ⟨l, vs, rfl, hl, r1⟩ := items_ok S ra e0
      exact call_len_seq pins s σ H _ us Q I r ⟨l, vs, rfl, .inl hl, by rw [rds_length r1]; exact sat_val S rd_int h⟩
    · cases a with
      | fn z => exact h.elim
      | p x => exact h.elim
      | c n =>
        simp only at h
        split at h
        · rename_i kvs e1
          obtain ⟨b, hb, rfl⟩ := ra
          obtain ⟨b', ws, e2, _, e3, e4⟩ := S.dcell n kvs (dcellL_some e1)
          rw [hb] at e2
          cases Option.some.inj e2
          obtain ⟨u, rfl, ru⟩ := Vals.one r
          cases ru
          refine d_len I (.inl e3) fun t s' I' => ⟨.int _, H, I', ⟨t, rfl⟩, ?_⟩
          rw [Paired.length e4]
          exact sat_val S rd_int h
        · split at h
          · rename_i ds e1
            obtain ⟨b, hb, rfl⟩ := ra
            obtain ⟨b', ws, e2, _, e3, e4⟩ := S.tcell n ds e1
            rw [hb] at e2
            cases Option.some.inj e2
            exact call_len_seq pins s σ H _ us Q I r ⟨b, ws, rfl, .inr (Evl.st_of e3), by rw [rds_length e4]; exact sat_val S rd_int h⟩
          · exact h.elim
theorem c_all (hc : X.calm = true) : CallR X (.builtin "all") (r1 (rU X.K XR (allD true))) := by
  intro pins s σ H xs us Q I r h
  obtain ⟨x, rfl, E, a, st, F, φ, S, ra, h⟩ := h
  unfold allD at h
  split at h
  · rename_i ys e0
    split at h
    · rename_i bs e1
      obtain ⟨l, vs, rfl, hl, r1⟩ := items_ok S ra e0
      rw [bools_some e1] at r1
      rw [rds_bools r1] at hl
      exact cr_all hc pins s σ H _ us Q I r ⟨l, bs, rfl, hl, sat_val S rd_bl h⟩
    · exact h.elim
  · exact h.elim
theorem c_any (hc : X.calm = true) : CallR X (.builtin "any") (r1 (rU X.K XR (allD false))) := by
  intro pins s σ H xs us Q I r h
  obtain ⟨x, rfl, E, a, st, F, φ, S, ra, h⟩ := h
  unfold allD at h
  split at h
  · rename_i ys e0
    split at h
    · rename_i bs e1
      obtain ⟨l, vs, rfl, hl, r1⟩ := items_ok S ra e0
      rw [bools_some e1] at r1
      rw [rds_bools r1] at hl
      exact cr_any hc pins s σ H _ us Q I r ⟨l, bs, rfl, hl, sat_val S rd_bl h⟩
    · exact h.elim
  · exact h.elim
theorem c_tuple : CallR X (.type "tuple") (r1 (rU X.K XR tupleD)) := by
  intro pins s σ H xs us Q I r h
  obtain ⟨x, rfl, E, a, st, F, φ, S, ra, h⟩ := h
  unfold tupleD at h
  split at h
  · obtain ⟨l, vs, rfl, hl, _, r1⟩ := tup_ok S ra
    exact call_tuple_of pins s σ H _ us Q I r ⟨l, vs, rfl, .inr ⟨hl, sat_val S ra h⟩⟩
  · split at h
    · rename_i ys e0
      split at h
      · rename_i zs e1
        obtain ⟨l, vs, rfl, hl, r1⟩ := items_ok S ra e0
        rw [pures_some e1] at r1
        exact call_tuple_of pins s σ H _ us Q I r ⟨l, vs, rfl, .inl ⟨hl, fun p hp => sat_newT S hp r1.dpAll h⟩⟩
      · exact h.elim
    · exact h.elim
theorem c_list {c : Bool} (hc : X.calm = true) : CallR X (.type "list") (r1 (rU X.K XR (listD c))) := by
  intro pins s σ H xs us Q I r h
  obtain ⟨x, rfl, E, a, st, F, φ, S, ra, h⟩ := h
  unfold listD at h
  split at h
  · obtain ⟨l, vs, rfl, hl, _, r1⟩ := tup_ok S ra
    exact call_list_of pins s σ H _ us Q I r ⟨l, vs, rfl, .inr hl, fun p hp => sat_mkL S hp r1 h⟩
  · split at h
    · rename_i ys e0
      obtain ⟨l, vs, rfl, hl, r1⟩ := items_ok S ra e0
      exact call_list_of pins s σ H _ us Q I r ⟨l, vs, rfl, .inl hl, fun p hp => sat_mkL S hp r1 h⟩
    · cases a with
      | fn z => exact h.elim
      | p x => exact h.elim
      | c n =>
        simp only at h
        split at h
        · rename_i kvs e1
          obtain ⟨b, hb, rfl⟩ := ra
          obtain ⟨b', ws, e2, _, e3, e4⟩ := S.dcell n kvs (dcellL_some e1)
          rw [hb] at e2
          cases Option.some.inj e2
          exact call_list_dK hc pins s σ H _ us Q I r ⟨b, ws, rfl, e3, fun p hp => sat_mkL S hp (rds_keys e4) h⟩
        · split at h
          · rename_i kvs e1
            split at h
            · rename_i g
              obtain ⟨b, ws, rfl, e3, e4⟩ := dttOf_ok S ra e1
              exact call_list_dT hc pins s σ H _ us Q I r ⟨b, ws, rfl, e3, fun p bs hp hk => by
                obtain ⟨F2, x2, S2, r2⟩ := SR.keysF g S e4 hk
                exact sat_mkL S2 hp r2 (Sat.ext x2 h)⟩
            · exact h.elim
          · exact h.elim
theorem c_dict (hc : X.calm = true) : CallR X (.type "dict") (r1 (rU X.K XR dictPD)) := by
  intro pins s σ H xs us Q I r h
  obtain ⟨x, rfl, E, a, st, F, φ, S, ra, h⟩ := h
  unfold dictPD at h
  split at h
  · rename_i ys e0
    split at h
    · rename_i zs e1
      split at h
      · rename_i ps e2
        obtain ⟨l, vs, rfl, hl, r1⟩ := items_ok S ra e0
        rw [pures_some e1] at r1
        obtain ⟨as, kvs, rfl, h1, h2⟩ := pairs_ok (φ := φ) S.sub r1.dpAll e2
        exact call_dictP hc pins s σ H _ us Q I r ⟨l, as, kvs, rfl, hl, h1, fun p hp => sat_cell S hp (.dct (rks_merge h2 .nil)) rfl h⟩
      · exact h.elim
    · exact h.elim
  · cases a with
    | fn z => exact h.elim
    | p x => exact h.elim
    | c n =>
      simp only at h
      split at h
      · rename_i kvs e1
        obtain ⟨b, hb, rfl⟩ := ra
        obtain ⟨b', ws, e2, _, e3, e4⟩ := S.dcell n kvs (dcellL_some e1)
        rw [hb] at e2
        cases Option.some.inj e2
        obtain ⟨u, rfl, ru⟩ := Vals.one r
        cases ru
        exact d_copyOf I (.inl e3) fun p s' hp I' => ⟨.ref p, _, I', rfl, sat_cell S hp (.dct e4) rfl h⟩
      · exact h.elim
theorem c_str : CallR X (.type "str") (r1 (rU X.K XR strD)) := by
  intro pins s σ H xs us Q I r h
  obtain ⟨x, rfl, E, a, st, F, φ, S, ra, h⟩ := h
  unfold strD at h
  split at h
  · rename_i i
    split at h
    · rename_i hi
      refine call_str_int pins s σ H _ us Q I r ⟨i, by rw [ra.int], ?_, sat_val S rd_str h⟩
      have : i.natAbs.log2 < 64 := by
        rcases Nat.eq_zero_or_pos i.natAbs with h0 | h0
        · rw [h0]; decide
        · exact (Nat.log2_lt (by omega)).mpr (by omega)
      omega
    · exact h.elim
  · rename_i y
    exact SkE.call_str_str pins s σ H _ us Q I r ⟨y, by rw [ra.str], sat_val S rd_str h⟩
  · exact h.elim
theorem c_repr (hg : X.A.guards = some []) (hu : X.A.units + 200 < cLine) : CallR X (.builtin "repr") (r1 (rU X.K XR reprD)) := by
  intro pins s σ H xs us Q I r h
  obtain ⟨x, rfl, E, a, st, F, φ, S, ra, h⟩ := h
  unfold reprD at h
  split at h
  · rename_i y
    split at h
    · rename_i hy
      obtain ⟨h1, h2, h3, h4⟩ := hy
      obtain ⟨u, rfl, ru⟩ := Vals.one r
      have okA : X.A.guards = some [] := hg
      have hsz : y.shown.length ≤ sizeLine := Nat.le_trans h4 (by decide)
      obtain ⟨as, rr⟩ := Dp.reads I y x u (dp_mono S.sub ra) ru
      have fin : ∀ (t : Tok) (z : Str), y.shown = z → ∃ v H1, Inv X pins σ H1 { s with toks := s.toks + 1 } ∧ RelV v (.str z t) ∧ Q v H1 := fun t z e => ⟨.str z, H, I.tok _, ⟨t, rfl⟩, by rw [← e]; exact sat_val S rd_str h⟩
      cases rr with
      | none => exact PySem.P.repr_of_none (fin _ _ rfl)
      | bool b => exact PySem.P.repr_of_bool (fin _ _ (by cases b <;> rfl))
      | int i t => exact PySem.P.repr_of_int (of_decide_eq_true h1) (fin _ _ rfl)
      | str z t => exact PySem.P.repr_of_str (fin _ _ rfl) (by simpa only [PyData.shown] using hsz)
      | list q1 q2 q3 q4 => exact PySem.repr_of_reads' (.list q1 q2 q3 q4) h1 (PyData.noDict_hsm h2) okA (by omega) (fun _ _ e => e) (fun h' u tk hk => ⟨.str _, H, I.kept hk, ⟨u, rfl⟩, sat_val S rd_str h⟩) hsz
      | tuple q1 q2 q3 q4 => exact PySem.repr_of_reads' (.tuple q1 q2 q3 q4) h1 (PyData.noDict_hsm h2) okA (by omega) (fun _ _ e => e) (fun h' u tk hk => ⟨.str _, H, I.kept hk, ⟨u, rfl⟩, sat_val S rd_str h⟩) hsz
      | dict => exact absurd h2 (by simp [PyData.hasDict])
    · exact h.elim
  · exact h.elim
theorem c_sum (hc : X.calm = true) : CallR X (.builtin "sum") (r1 (rU X.K XR sumD)) := by
  intro pins s σ H xs us Q I r h
  obtain ⟨x, rfl, E, a, st, F, φ, S, ra, h⟩ := h
  unfold sumD at h
  split at h
  · rename_i ys e0
    split at h
    · rename_i zs e1
      split at h
      · rename_i ns e2
        obtain ⟨l, vs, rfl, hl, r1⟩ := items_ok S ra e0
        rw [pures_some e1] at r1
        have q := r1.dpAll
        rw [ints_some e2] at q
        rw [dp_ints q] at hl
        exact cr_sum hc pins s σ H _ us Q I r ⟨l, ns, rfl, hl, sat_val S rd_int h⟩
      · exact h.elim
    · exact h.elim
  · exact h.elim
theorem c_max2 (hc : X.calm = true) : CallR X (.builtin "max") (r2 (rO X.K XR (max2D true))) := by
  intro pins s σ H xs us Q I r h
  obtain ⟨x, y, rfl, E, a, b, st, F, φ, S, ra, rb, h⟩ := h
  unfold max2D at h
  split at h
  · rename_i i j
    exact call_max2 hc pins s σ H _ us Q I r ⟨i, j, by rw [ra.int, rb.int], sat_val S rd_int h⟩
  · exact h.elim
theorem c_min2 (hc : X.calm = true) : CallR X (.builtin "min") (r2 (rO X.K XR (max2D false))) := by
  intro pins s σ H xs us Q I r h
  obtain ⟨x, y, rfl, E, a, b, st, F, φ, S, ra, rb, h⟩ := h
  unfold max2D at h
  split at h
  · rename_i i j
    exact call_min2 hc pins s σ H _ us Q I r ⟨i, j, by rw [ra.int, rb.int], sat_val S rd_int h⟩
  · exact h.elim

theorem eachIs_of {K : PySem.W.Frag} {F : Hp} : ∀ {its : List Value} {vs : List V} {xs : List PyData}, Vals vs its → DpAll K F vs xs →
    PySem.W.EachIs (fun (v : Value) (b : V × PyData) => RelV b.1 v ∧ Dp K F b.1 b.2) its (vs.zip xs)
  | _, _, _, .nil, .nil => .nil
  | _, _, _, .cons r t, .cons a b => .cons ⟨r, a⟩ (eachIs_of t b)
theorem of_eachIs {K : PySem.W.Frag} {F : Hp} : ∀ {its : List Value} {bs : List (V × PyData)}, PySem.W.EachIs (fun (v : Value) (b : V × PyData) => RelV b.1 v ∧ Dp K F b.1 b.2) its bs →
    Vals (bs.map (·.1)) its ∧ DpAll K F (bs.map (·.1)) (bs.map (·.2))
  | _, _, .nil => ⟨.nil, .nil⟩
  | _, _, .cons r t => let ⟨a, b⟩ := of_eachIs t; ⟨.cons r.1 a, .cons r.2 b⟩
theorem eachIs_reads {X : Cx} {pins : List (Addr × Obj)} {σ : L2.St} {H : Hp} {s : Shared} (I : Inv X pins σ H s) : ∀ {its : List Value} {bs : List (V × PyData)}, PySem.W.EachIs (fun (v : Value) (b : V × PyData) => RelV b.1 v ∧ Dp X.K H b.1 b.2) its bs →
    PySem.W.EachIs (fun (v : Value) (b : V × PyData) => ∃ as, Reads s.heap v b.2 as) its bs
  | _, _, .nil => .nil
  | _, _, .cons r t => .cons (Dp.reads I _ _ _ r.2 r.1) (eachIs_reads I t)
theorem eachIs_mono {K : PySem.W.Frag} {F H : Hp} (e : Evl.Ex F H) : ∀ {its : List Value} {bs : List (V × PyData)}, PySem.W.EachIs (fun (v : Value) (b : V × PyData) => RelV b.1 v ∧ Dp K F b.1 b.2) its bs → PySem.W.EachIs (fun (v : Value) (b : V × PyData) => RelV b.1 v ∧ Dp K H b.1 b.2) its bs
  | _, _, .nil => .nil
  | _, _, .cons r t => .cons ⟨r.1, dp_mono e r.2⟩ (eachIs_mono e t)
theorem zip_snd {α β : Type} : ∀ {xs : List α} {ys : List β}, xs.length = ys.length → (xs.zip ys).map (·.2) = ys
  | [], [], _ => rfl
  | x :: xs, y :: ys, h => by simp [zip_snd (xs := xs) (ys := ys) (by simpa using h)]
theorem sortOk_of {xs : List PyData} (h : sortOk xs = true) : PySem.W.AllAlike xs ∧ PySem.W.Sortable xs ∧ (∀ x ∈ xs, x.depth ≤ 64) ∧ xs.length ≤ SZ := by
  unfold sortOk at h
  simp only [Bool.and_eq_true, List.all_eq_true, Bool.or_eq_true, decide_eq_true_eq] at h
  obtain ⟨⟨⟨h1, h2⟩, h3⟩, h4⟩ := h
  refine ⟨fun d hd e he => h1 d hd e he, ?_, h3, h4⟩
  rcases h2 with h2 | h2
  · refine .inl fun d hd => ?_
    have := h2 d hd
    split at this
    · exact ⟨_, _, rfl⟩
    · cases this
  · refine .inr fun d hd => ?_
    have := h2 d hd
    split at this
    · cases this
    · cases this
    · rename_i q1 q2
      exact ⟨q2, q1⟩
theorem mixB_of {xs : List PyData} (h : mixB xs = true) : mixTs xs ∧ (∀ x ∈ xs, x.depth ≤ 64) ∧ xs.length ≤ SZ := by
  unfold mixB at h
  simp only [Bool.and_eq_true, List.all_eq_true, decide_eq_true_eq] at h
  obtain ⟨⟨⟨h1, h2⟩, h3⟩, h4⟩ := h
  refine ⟨⟨fun d hd => ?_, fun x r x' r' hx hy => h2 _ hx _ hy⟩, h3, h4⟩
  have := h1 d hd
  split at this
  · exact ⟨this, _, _, rfl⟩
  · cases this
theorem c_int : CallR X (.type "int") (r1 (rU X.K XR intD)) := by
  intro pins s σ H xs us Q I r h
  obtain ⟨x, rfl, E, a, st, F, φ, S, ra, h⟩ := h
  unfold intD at h
  split at h
  · rename_i b
    exact call_int1 pins s σ H _ us Q I r (.inr ⟨b, by rw [ra.bl], sat_val S rd_int h⟩)
  · rename_i i
    exact call_int1 pins s σ H _ us Q I r (.inl ⟨i, by rw [ra.int], sat_val S rd_int h⟩)
  · rename_i z
    split at h
    · rename_i n e
      split at h
      · rename_i hz
        exact call_int_str pins s σ H _ us Q I r ⟨z, n, by rw [ra.str], e, hz, sat_val S rd_int h⟩
      · exact h.elim
    · exact h.elim
  · exact h.elim
theorem txtKeys_some : ∀ {kvs : List (Key × D)} {ks : List Str}, txtKeys kvs = some ks → kvs.map (·.1) = ks.map Sum.inr
  | [], _, h => by cases h; rfl
  | (.inr z, _) :: r, _, h => by
    obtain ⟨ks, h1, rfl⟩ := Option.map_eq_some_iff.mp (show (txtKeys r).map (z :: ·) = some _ from h)
    rw [List.map_cons, txtKeys_some h1]; rfl
  | (.inl _, _) :: _, _, h => by cases h
theorem rks_keysS {K : PySem.W.Frag} {F : Hp} {φ : List Addr} : ∀ {ws : List (Key × V)} {kvs : List (Key × D)}, RKs K F φ ws kvs → ws.map (·.1) = kvs.map (·.1)
  | _, _, .nil => rfl
  | _, _, .cons h t => by rw [List.map_cons, List.map_cons, h.1, rks_keysS t]
theorem risingS_pw : ∀ {a : Str} {l : List Str}, PyProof.Rows.risingS a l = true → (a :: l).Pairwise fun a b => a.cps.toList ≤ b.cps.toList
  | a, [], _ => by simp
  | a, b :: r, h => by
    unfold PyProof.Rows.risingS at h
    simp only [Bool.and_eq_true, PyProof.Rows.ltCps_eq, Bool.not_eq_true', decide_eq_false_iff_not, List.not_lt] at h
    have ih := risingS_pw h.2
    refine List.pairwise_cons.mpr ⟨fun x hx => ?_, ih⟩
    rcases List.mem_cons.mp hx with rfl | hx
    · exact h.1
    · exact List.le_trans h.1 ((List.pairwise_cons.mp ih).1 x hx)
theorem sortedS_pw {l : List Str} (h : PyProof.Rows.sortedS l = true) : l.Pairwise fun a b => a.cps.toList ≤ b.cps.toList := by
  cases l with
  | nil => exact List.Pairwise.nil
  | cons a r => exact risingS_pw h
theorem sortP_strs (l : List Str) : sortP (l.map .str) = (l.mergeSort fun a b => decide (a.cps.toList ≤ b.cps.toList)).map .str := by
  unfold sortP
  rw [List.map_mergeSort (r := fun a b : Str => decide (a.cps.toList ≤ b.cps.toList)) (s := PySem.W.dataLe false fun x : PyData => x) (f := PyData.str)]
  intro a _ b _
  exact (congrFun (congrFun (PySem.W.dataLe_str (fun x : Str => x)) a) b).symm
theorem sortS_uniq {l m : List Str} (hp : m.Perm l) (hs : PyProof.Rows.sortedS m = true) : l.mergeSort (fun a b => decide (a.cps.toList ≤ b.cps.toList)) = m := by
  have q1 : (l.mergeSort fun a b => decide (a.cps.toList ≤ b.cps.toList)).Pairwise fun a b => a.cps.toList ≤ b.cps.toList := by
    have := List.pairwise_mergeSort (le := fun a b : Str => decide (a.cps.toList ≤ b.cps.toList)) (fun a b c h1 h2 => decide_eq_true (List.le_trans (of_decide_eq_true h1) (of_decide_eq_true h2))) (fun a b => by
      rw [Bool.or_eq_true, decide_eq_true_eq, decide_eq_true_eq]; exact List.le_total _ _) l
    exact this.imp fun h => of_decide_eq_true h
  refine List.Perm.eq_of_pairwise (le := fun a b : Str => a.cps.toList ≤ b.cps.toList) (fun a b _ _ h1 h2 => ?_) q1 (sortedS_pw hs) ((List.mergeSort_perm _ _).trans hp.symm)
  have e : a.cps.toList = b.cps.toList := List.le_antisymm h1 h2
  cases a; cases b
  simp only [Str.mk.injEq]
  exact Array.toList_inj.mp e
theorem rds_strs {K : PySem.W.Frag} {F : Hp} {φ : List Addr} (ks : List Str) : RDs K F φ (ks.map V.str) ((ks.map PyData.str).map D.p) := by
  induction ks with
  | nil => exact .nil
  | cons a r ih => exact .cons (show RD K F φ (.str a) (.p (.str a)) from rd_str) ih
/-- sorted of what can be walked, its items being data -/
theorem sortD_core {pins : List (Addr × Obj)} {σ : L2.St} {H F : Hp} {s : Shared} {φ : List Addr} {st : Store} {c : Bool} {Q : VK} (hc : X.calm = true) (hu : X.A.units + 200 < cLine) (I : L2.Inv X pins σ H s) {T : String} {r d : Addr} {n : Nat} {P : Nat → Value → Prop} {OK : Heap → Prop}
    (K : PySem.W.KdlSrc X.prog X.w T r d n P OK) (ok : OK s.heap) (hn : n ≤ sizeLine) {ws : List V} {zs : List PyData} (hP : ∀ vs : List Value, vs.length = n → (∀ j v, vs[j]? = some v → P j v) → Vals ws vs)
    (S : SR X.K F φ st H) (rd : DpAll X.K F ws zs) (hok : (sortOk zs || mixB zs) = true) (h : Sat X.K XR E (QE X.K Q) F φ (mkL c ((sortP zs).map .p) st)) :
    wpAny (model X.prog X.w) X.A (call (.builtin "sorted") [.ref r]) (EP X pins σ Q) X.xe s := by
  have hlen : ws.length = zs.length := by have := rds_length (dpAll_rds (φ := φ) rd); rwa [List.length_map] at this
  have hz := zip_snd hlen
  have h4 : zs.length ≤ SZ := by
    rcases Bool.or_eq_true _ _ ▸ hok with hok | hok
    · exact (sortOk_of hok).2.2.2
    · exact (mixB_of hok).2.2
  have h3 : ∀ x ∈ zs, x.depth ≤ 64 := by
    rcases Bool.or_eq_true _ _ ▸ hok with hok | hok
    · exact (sortOk_of hok).2.2.1
    · exact (mixB_of hok).2.1
  refine sorted_src K (I.ok.hd hc) ok hn fun h' tk vs hk hl hp => ?_
  have rv := hP vs hl hp
  have ei := eachIs_of rv rd
  have I1 : L2.Inv X pins σ H { s with heap := h', toks := tk } := I.kept hk
  have er := eachIs_reads I1 (eachIs_mono S.sub ei)
  have er' : PySem.W.EachIs (fun (v : Value) (b : V × PyData) => ∃ as, Reads (PySem.W.sortingHeap (h'.push (seqObj "list" vs.toArray 0)) h'.objs.size vs) v b.2 as) vs (ws.zip zs) := er.mono fun _ _ ⟨as, r⟩ => ⟨as, PyProof.Rows.Reads.keeps (fun _ _ e => sorting_push_old e) r⟩
  have g2 : ∀ b ∈ ws.zip zs, X.A.in1.in1.units + b.2.depth < cLine := by
    intro b hb
    have : b.2 ∈ (ws.zip zs).map (·.2) := List.mem_map_of_mem hb
    rw [hz] at this
    have := h3 _ this
    show X.A.units + 1 + 1 + b.2.depth < cLine
    omega
  have fin : ∀ out : List Value, out.length = (ws.zip zs).length → PySem.W.EachIs (fun (v : Value) (b : V × PyData) => RelV b.1 v ∧ Dp X.K F b.1 b.2) out ((ws.zip zs).mergeSort (PySem.W.dataLe false fun b => b.2)) →
      EP X pins σ Q (.ref h'.objs.size) { s with heap := sortedHeap (h'.push (seqObj "list" vs.toArray 0)) h'.objs.size vs out.toArray, toks := tk } := fun out ho eo => by
    obtain ⟨k1, k2⟩ := of_eachIs eo
    have hmap : ((ws.zip zs).mergeSort (PySem.W.dataLe false fun b => b.2)).map (·.2) = sortP zs := by
      unfold sortP
      have e := List.map_mergeSort (r := PySem.W.dataLe false fun b : V × PyData => b.2) (s := PySem.W.dataLe false fun x : PyData => x) (f := fun b : V × PyData => b.2) (l := ws.zip zs) (fun a _ b _ => rfl)
      rw [hz] at e
      exact e
    rw [hmap] at k2
    have kl := k1.length
    have hlen2 : out.length ≤ sizeLine := by rw [ho, List.length_zip, hlen, Nat.min_self]; exact sz_ok h4
    have hf : H h'.objs.size = none := I1.hok.fresh (Nat.le_refl _)
    have hoL : (h'.push (seqObj "list" vs.toArray 0)).get? h'.objs.size = some (seqObj "list" vs.toArray 0) := Heap.get?_push_size h' rfl
    obtain ⟨ep, he'⟩ := sortedHeap_at (out := out.toArray) hoL
    refine ⟨.ref _, upd H h'.objs.size (.lst _), I1.laid (t' := tk) (fun _ _ e => sorted_push_old e) (Nat.le_refl _) ⟨by rw [kl]; exact hlen2, out, ep, k1, he'⟩, rfl, ?_⟩
    exact sat_mkL S hf (dpAll_rds k2) h
  rcases Bool.or_eq_true _ _ ▸ hok with hok | hok
  · obtain ⟨h1, h2, _, _⟩ := sortOk_of hok
    refine ⟨_, PySem.W.SortsAt.data (PySem.W.each_map (fun b : V × PyData => b.2) er') (by rw [hz]; exact h1) (by rw [hz]; exact h2) (PySem.W.bound_map g2), fin _ ?_ ?_⟩
    · rw [PySem.W.sortVals_length false rfl]; exact ei.length
    · exact PySem.W.sortVals_data false ei er' (by rw [hz]; exact h1)
  · obtain ⟨h1, _, _⟩ := mixB_of hok
    have h1' : mixTs ((ws.zip zs).map fun b => b.2) := by rw [hz]; exact h1
    refine ⟨_, sortsMix (s := { s with heap := PySem.W.sortingHeap (h'.push (seqObj "list" vs.toArray 0)) h'.objs.size vs, toks := tk }) (PySem.W.each_map (R := fun v d => ∃ as, Reads (PySem.W.sortingHeap (h'.push (seqObj "list" vs.toArray 0)) h'.objs.size vs) v d as) (fun b : V × PyData => b.2) er') h1' (PySem.W.bound_map g2), fin _ ?_ ?_⟩
    · rw [PySem.W.sortVals_length false rfl]; exact ei.length
    · exact PySem.W.sortVals_each (κ := PySem.W.dataKind _ ((ws.zip zs).map fun b => b.2)) (fun b => PySem.W.keyToks b.2) ei (PySem.W.each_of_map (fun b : V × PyData => b.2) (each_keysP (fun d hd => (h1'.1 d hd).1) (PySem.W.each_map (R := fun v d => ∃ as, Reads _ v d as) (fun b : V × PyData => b.2) er')))
theorem rd_dT {pins : List (Addr × Obj)} {σ : L2.St} {H : Hp} {s : Shared} (I : L2.Inv X pins σ H s) {a : Addr} {ws : List (List Key × V)} (hd : Rd H a (.dT ws)) :
    ∃ (o : Obj) (es : Array DictEntry) (ep : Nat) (bs : List Addr), (a == sysModules) = false ∧ s.heap.get? a = some o ∧ o.ExactDict ∧ o.data = .dict es ep ∧ es.size ≤ sizeLine ∧ IsKeys H ws bs ∧ bs.length = es.size ∧ (∀ (j : Nat) (h : j < es.size), ∃ b, bs[j]? = some b ∧ es[j].key = .ref b) := by
  have q := Rd.ok hd I.hok
  simp only [L2.ObjOk] at q
  obtain ⟨hn, hs, xs, kt, o, es, ep, hg, hx, hdt, hes, _⟩ := q
  have hl : xs.length = ws.length := (Paired.length kt).symm
  have hsz : es.size = xs.length := by rw [← Array.length_toList, hes, List.length_map]
  refine ⟨o, es, ep, xs.map (fun x => x.2.1), hs, hg, hx, hdt, by omega, isKeys_of kt, by rw [List.length_map, hsz], fun j hj => ?_⟩
  have hjx : j < xs.length := by omega
  refine ⟨xs[j].2.1, by rw [List.getElem?_map, List.getElem?_eq_getElem hjx]; rfl, ?_⟩
  have : es.toList[j]? = some (entryOfKey (tupleKind (mixKind X.prog X.w)) xs[j]) := by rw [hes, List.getElem?_map, List.getElem?_eq_getElem hjx]; rfl
  rw [Array.getElem?_toList, Array.getElem?_eq_getElem hj] at this
  rw [Option.some.inj this]
  rfl
theorem c_sortKT (hc : X.calm = true) (hu : X.A.units + 200 < cLine) {c : Bool} {kvs : List (List Key × D)} {pins : List (Addr × Obj)} {σ : L2.St} {H F : Hp} {s : Shared} {φ : List Addr} {st : Store} {Q : VK} (I : L2.Inv X pins σ H s) (S : SR X.K F φ st H) {a : Addr} {ws : List (List Key × V)} (hd : Rd H a (.dT ws)) (rr : RNs X.K F φ ws kvs)
    (h : Sat X.K XR E (QE X.K Q) F φ (sortKT c kvs st)) : wpAny (model X.prog X.w) X.A (call (.builtin "sorted") [.ref a]) (EP X pins σ Q) X.xe s := by
  unfold sortKT at h
  split at h
  · rename_i g
    obtain ⟨o, es, ep, bs, hs, hg, hx, hdt, hn, hk, hbl, hkey⟩ := rd_dT I hd
    obtain ⟨F2, x2, S2, r2⟩ := SR.keysF g.1 S rr hk
    refine sortD_core hc hu I (kdl_raw hs hx hdt) hg hn (ws := bs.map V.ref) (zs := keysP kvs) (fun vs hl hp => ?_) S2 (RDs.dpAll (xs := keysP kvs) (by unfold keysP; rw [List.map_map]; exact r2)) g.2 (Sat.ext x2 h)
    have e : vs = bs.map Value.ref := by
      apply List.ext_getElem?
      intro j
      rw [List.getElem?_map]
      by_cases hj : j < es.size
      · obtain ⟨b, h1, h2⟩ := hkey j hj
        obtain ⟨v, hv⟩ : ∃ v, vs[j]? = some v := ⟨_, List.getElem?_eq_getElem (by omega)⟩
        obtain ⟨en, h3, h4⟩ := hp j v hv
        rw [Array.getElem?_eq_getElem hj] at h3
        cases Option.some.inj h3
        rw [hv, h1, h4, h2]
        rfl
      · rw [List.getElem?_eq_none (by omega), List.getElem?_eq_none (by omega)]
        rfl
    rw [e]
    exact vals_refs bs
  · exact h.elim
theorem c_sorted (hc : X.calm = true) (hu : X.A.units + 200 < cLine) {c : Bool} : CallR X (.builtin "sorted") (r1 (rU X.K XR (sortedD c))) := by
  intro pins s σ H xs us Q I r h
  obtain ⟨x, rfl, E, a, st, F, φ, S, ra, h⟩ := h
  unfold sortedD at h
  split at h
  · rename_i ys e0
    split at h
    · rename_i zs e1
      split at h
      · rename_i hok
        obtain ⟨l, vs, rfl, hl, rr⟩ := items_ok S ra e0
        rw [pures_some e1] at rr
        have rd := rr.dpAll
        have hlen := rds_length rr
        rw [List.length_map] at hlen
        obtain ⟨its, rv, pl, _⟩ := I.list hl
        obtain ⟨u, rfl, ru⟩ := Vals.one r
        cases ru
        have ei := eachIs_of rv rd
        have hz := zip_snd hlen
        have h4 : zs.length ≤ SZ := by
          rcases Bool.or_eq_true _ _ ▸ hok with hok | hok
          · exact (sortOk_of hok).2.2.2
          · exact (mixB_of hok).2.2
        have h3 : ∀ x ∈ zs, x.depth ≤ 64 := by
          rcases Bool.or_eq_true _ _ ▸ hok with hok | hok
          · exact (sortOk_of hok).2.2.1
          · exact (mixB_of hok).2.1
        have g1 : (vs.zip zs).length ≤ sizeLine := by rw [List.length_zip, hlen, Nat.min_self]; exact sz_ok h4
        have g2 : ∀ b ∈ vs.zip zs, X.A.units + 2 + b.2.depth < cLine := by
          intro b hb
          have : b.2 ∈ (vs.zip zs).map (·.2) := List.mem_map_of_mem hb
          rw [hz] at this
          have := h3 _ this
          omega
        have fin : ∀ out : List Value, out.length = (vs.zip zs).length → PySem.W.EachIs (fun (v : Value) (b : V × PyData) => RelV b.1 v ∧ Dp X.K F b.1 b.2) out ((vs.zip zs).mergeSort (PySem.W.dataLe false fun b => b.2)) →
            EP X pins σ Q (.ref (s.heap.objs.size + 1)) { s with heap := PyProof.Rows.sortedAll s.heap its (List.toArray out) } := fun out ho eo => by
          obtain ⟨ep, he'⟩ := PyProof.Rows.sortedAll_at s.heap its out.toArray
          obtain ⟨k1, k2⟩ := of_eachIs eo
          have hmap : ((vs.zip zs).mergeSort (PySem.W.dataLe false fun b => b.2)).map (·.2) = sortP zs := by
            unfold sortP
            have e := List.map_mergeSort (r := PySem.W.dataLe false fun b : V × PyData => b.2) (s := PySem.W.dataLe false fun x : PyData => x) (f := fun b : V × PyData => b.2) (l := vs.zip zs) (fun a _ b _ => rfl)
            rw [hz] at e
            exact e
          rw [hmap] at k2
          have kl := k1.length
          have hlen2 : out.length ≤ sizeLine := by rw [ho, List.length_zip, hlen, Nat.min_self]; exact sz_ok h4
          have hf : H (s.heap.objs.size + 1) = none := I.hok.fresh (Nat.le_succ _)
          refine ⟨.ref _, upd H (s.heap.objs.size + 1) (.lst _), I.laid (t' := s.toks) (fun _ _ => PyProof.Rows.sortedAll_old) (Nat.le_succ _) ⟨by rw [kl]; exact hlen2, out, ep, k1, he'⟩, rfl, ?_⟩
          exact sat_mkL S hf (dpAll_rds k2) h
        rcases Bool.or_eq_true _ _ ▸ hok with hok | hok
        · obtain ⟨h1, h2, _, _⟩ := sortOk_of hok
          exact PySem.W.sorted_data (bs := vs.zip zs) (enc := fun b => b.2) pl.isList ei (eachIs_reads I (eachIs_mono S.sub ei)) (by rw [hz]; exact h1) (by rw [hz]; exact h2) g1 g2 fin
        · obtain ⟨h1, _, _⟩ := mixB_of hok
          exact sortedMix (bs := vs.zip zs) (enc := fun b => b.2) pl.isList ei (eachIs_reads I (eachIs_mono S.sub ei)) (by rw [hz]; exact h1) g1 g2 fin
      · exact h.elim
    · exact h.elim
  · cases a with
    | fn z => exact h.elim
    | p x => exact h.elim
    | c n =>
      simp only at h
      split at h
      · rename_i kvs e1
        split at h
        · rename_i ks e2
          split at h
          · rename_i hz
            obtain ⟨b, hb, rfl⟩ := ra
            obtain ⟨b', ws, e3, _, e4, e5⟩ := S.dcell n kvs (dcellL_some e1)
            rw [hb] at e3
            cases Option.some.inj e3
            refine call_sortedD hc pins s σ H _ us Q I r ⟨b, ws, ks, rfl, .inl e4, by rw [rks_keysS e5]; exact txtKeys_some e2, hz, fun ys p hp hs hf => ?_⟩
            refine sat_mkL S hf ?_ h
            rw [sortP_strs, sortS_uniq hp hs]
            exact rds_strs ys
          · exact h.elim
        · exact h.elim
      · split at h
        · rename_i kvs e1
          split at h
          · rename_i ks e2
            split at h
            · rename_i hz
              obtain ⟨b, hb, rfl⟩ := ra
              obtain ⟨b', e3, e4⟩ := S.off n _ e1 rfl
              rw [hb] at e3
              cases Option.some.inj e3
              cases e4 with
              | lkd hF e5 =>
                rename_i ws od
                refine call_sortedD hc pins s σ H _ us Q I r ⟨b, ws, ks, rfl, .inr ⟨od, S.sub _ _ hF⟩, by rw [rks_keysS e5]; exact txtKeys_some e2, hz, fun ys p hp hs hf => ?_⟩
                refine sat_mkL S hf ?_ h
                rw [sortP_strs, sortS_uniq hp hs]
                exact rds_strs ys
            · exact h.elim
          · exact h.elim
        · rename_i kvs e1
          obtain ⟨b, hb, rfl⟩ := ra
          obtain ⟨b', ws, e2, _, e3, e4⟩ := S.ttcell n kvs e1
          rw [hb] at e2
          cases Option.some.inj e2
          obtain ⟨u, rfl, ru⟩ := Vals.one r
          cases ru
          exact c_sortKT hc hu I S (.inl e3) e4 h
        · rename_i kvs e1
          obtain ⟨b, hb, rfl⟩ := ra
          obtain ⟨b', e3, e4⟩ := S.off n _ e1 rfl
          rw [hb] at e3
          cases Option.some.inj e3
          cases e4 with
          | lkt hF e5 =>
            obtain ⟨u, rfl, ru⟩ := Vals.one r
            cases ru
            exact c_sortKT hc hu I S (.inr ⟨_, S.sub _ _ hF⟩) e5 h
        · exact h.elim
theorem allAlikeB_of {xs : List PyData} (h : allAlikeB xs = true) : PySem.W.AlikeAll xs ∧ PyData.depthAll xs ≤ 64 := by
  unfold allAlikeB at h
  simp only [Bool.and_eq_true, List.all_eq_true, decide_eq_true_eq] at h
  exact ⟨⟨fun x hx y hy => (h.1 x hx).2 y hy, fun x hx => notNone_ne (h.1 x hx).1⟩, h.2⟩
/-- the frozen item that a raw item of a list is, found again by its value -/
theorem reads_back {K : PySem.W.Frag} {F : Hp} : ∀ {its : List Value} {vs : List V} {xs : List PyData} {i : Nat} {v : Value}, Vals vs its → DpAll K F vs xs → its[i]? = some v → ∃ x y, RelV x v ∧ Dp K F x y ∧ y ∈ xs
  | _, _, _, 0, _, .cons r t, .cons a b, e => by cases Option.some.inj e; exact ⟨_, _, r, a, List.mem_cons_self⟩
  | _, _, _, i + 1, _, .cons r t, .cons a b, e => let ⟨x, y, h1, h2, h3⟩ := reads_back (i := i) t b e; ⟨x, y, h1, h2, List.mem_cons_of_mem _ h3⟩
  | _, _, _, _, _, .nil, .nil, e => by simp at e
theorem c_maxmin (hc : X.calm = true) (hu : X.A.units + 200 < cLine) (mx : Bool) : CallR X (.builtin (if mx then "max" else "min")) (r1 (rU X.K XR (maxD mx))) := by
  intro pins s σ H xs us Q I r h
  obtain ⟨x, rfl, E, a, st, F, φ, S, ra, h⟩ := h
  unfold maxD at h
  split at h
  · exact h.elim
  · split at h
    · rename_i ys e0
      split at h
      · rename_i y zs e1
        split at h
        · rename_i hok
          obtain ⟨h1, h2⟩ := allAlikeB_of hok
          obtain ⟨l, vs, rfl, hl, rr⟩ := items_ok S ra e0
          rw [pures_some e1] at rr
          have rd := rr.dpAll
          obtain ⟨its, rv, pl, _⟩ := I.list hl
          obtain ⟨u, rfl, ru⟩ := Vals.one r
          cases ru
          obtain ⟨as, hr⟩ := Dp.readsAll I _ vs its (dpAll_mono S.sub rd) rv
          have fin : ∀ (d : PyData), Sat X.K XR E (QE X.K Q) F φ (.ok (.p d) st) → ∀ (i : Nat) (v : Value) (h' : Heap) (tk : Nat) (bs : List Addr), its.toArray[i]? = some v → Reads h' v d bs → (∀ b o, s.heap.get? b = some o → h'.get? b = some o) →
              EP X pins σ Q v { s with heap := h', toks := tk } := by
            intro d h i v h' tk bs hv hrd hk
            obtain ⟨x, z, q1, q2, q3⟩ := reads_back rv rd (by simpa using hv)
            have I' : Inv X pins σ H { s with heap := h', toks := tk } := I.kept hk
            obtain ⟨bs', hrz⟩ := Dp.reads I' z x v (dp_mono S.sub q2) q1
            have e : z = d := PySem.SeqAt.plain_unique _ _ _ _ _ (dp_plain q2) hrz hrd
            subst e
            exact ⟨x, H, I', q1, sat_val S (show RD X.K F φ x (.p z) from q2) h⟩
          cases mx with
          | true => exact PySem.W.max_list_data (I.ok.hd hc) pl.isList hr h1 (by omega) (fin _ h)
          | false => exact PySem.W.min_list_data (I.ok.hd hc) pl.isList hr h1 (by omega) (fin _ h)
        · exact h.elim
      · exact h.elim
    · exact h.elim
def isiOkT (T : String) : Bool := T == "int" || T == "bool" || T == "str" || T == "list" || T == "tuple" || T == "dict"
theorem kit_all (t c : String) (ht : t = "NoneType" ∨ t = "bool" ∨ t = "int" ∨ t = "str" ∨ t = "tuple" ∨ t = "list" ∨ t = "dict") (hc : isiOkT c = true) : kitB t c = some (isiB t c) := by
  unfold isiOkT at hc
  simp only [Bool.or_eq_true, beq_iff_eq] at hc
  rcases hc with ((((hc | hc) | hc) | hc) | hc) | hc <;> subst hc <;> rcases ht with ht | ht | ht | ht | ht | ht | ht <;> subst ht <;> decide +kernel
theorem tyName_ok {F H : Hp} {φ : List Addr} {st : Store} {a : D} {x : V} {t : String} (S : SR X.K F φ st H) (ra : RD X.K F φ x a) (e : tyName a st = some t) :
    TyX X.K H x (.type t) ∧ (t = "NoneType" ∨ t = "bool" ∨ t = "int" ∨ t = "str" ∨ t = "tuple" ∨ t = "list" ∨ t = "dict") := by
  have lists : (items a st).map (fun _ => "list") = some t → TyX X.K H x (.type t) ∧ (t = "NoneType" ∨ t = "bool" ∨ t = "int" ∨ t = "str" ∨ t = "tuple" ∨ t = "list" ∨ t = "dict") := fun e => by
    obtain ⟨ds, e1, rfl⟩ := Option.map_eq_some_iff.mp e
    obtain ⟨l, vs, rfl, hl, _⟩ := items_ok S ra e1
    refine ⟨?_, by simp⟩
    rcases hl with (hl | ⟨o, hl⟩) | ⟨o, its, n, hk, hc, _⟩
    · exact .base (.lst hl)
    · exact .base (.frz hl)
    · exact .kList hk hc
  cases a with
  | fn z => cases e
  | c n =>
    have e : (match st[n]? with
      | some (.tup _) => some "tuple"
      | some (.dct _) => some "dict"
      | some (.dtt _) => some "dict"
      | _ => (items (.c n) st).map fun _ => "list") = some t := e
    split at e
    · rename_i ds e0
      cases Option.some.inj e
      obtain ⟨b, hb, rfl⟩ := ra
      obtain ⟨a', vs, e1, _, e2, _⟩ := S.tcell _ ds e0
      rw [hb] at e1
      cases Option.some.inj e1
      exact ⟨.base (.tup e2), by simp⟩
    · rename_i ds e0
      cases Option.some.inj e
      obtain ⟨b, hb, rfl⟩ := ra
      obtain ⟨a', vs, e1, _, e2, _⟩ := S.dcell _ ds e0
      rw [hb] at e1
      cases Option.some.inj e1
      exact ⟨.base (.dK e2), by simp⟩
    · rename_i ds e0
      cases Option.some.inj e
      obtain ⟨b, hb, rfl⟩ := ra
      obtain ⟨a', vs, e1, _, e2, _⟩ := S.ttcell _ ds e0
      rw [hb] at e1
      cases Option.some.inj e1
      exact ⟨.base (.dT e2), by simp⟩
    · exact lists e
  | p y =>
    cases y with
    | none => cases ra; cases Option.some.inj e; exact ⟨.base .non, by simp⟩
    | bool b => cases ra; cases Option.some.inj e; exact ⟨.base (.bl _), by simp⟩
    | int b => cases ra; cases Option.some.inj e; exact ⟨.base (.int _), by simp⟩
    | str b => cases ra; cases Option.some.inj e; exact ⟨.base (.str _), by simp⟩
    | list b => exact lists e
    | tuple b =>
      cases Option.some.inj e
      obtain ⟨l, vs, rfl, hl, _⟩ := tup_ok S ra
      refine ⟨?_, by simp⟩
      rcases hl with (hl | ⟨o, hl⟩) | ⟨o, its, n, hk, hc, _⟩
      · exact .base (.tup hl)
      · exact .fTuple hl
      · exact .kTuple hk hc
    | dict b => cases ra
/-- isinstance(x, T) -/
theorem c_isi {T : String} (hT : isiOkT T = true) : CallR X (.builtin "isinstance") (fun xs H Q => ∃ x, xs = [x, .ty T] ∧ rU X.K XR (isiD T) x H Q) := by
  intro pins s σ H xs us Q I r h
  obtain ⟨x, rfl, E, a, st, F, φ, S, ra, h⟩ := h
  unfold isiD at h
  split at h
  · rename_i t e
    obtain ⟨h1, h2⟩ := tyName_ok S ra e
    exact call_isi pins s σ H _ us Q I r ⟨x, .ty T, .type t, .type T, isiB t T, rfl, .ty T, h1, kit_ty (kit_all t T h2 hT), sat_val S rd_bl h⟩
  · exact h.elim
end
end MP

set_option Elab.async false
set_option linter.all false
set_option autoImplicit false
set_option maxRecDepth 100000
set_option maxHeartbeats 2000000
/-! sets of tuples whose items are texts and whole numbers: any hashes -/
namespace MP
open PySem PySem.Spec PyProof.Rows L2

abbrev KTup (P : Program) (w : World) (h : Heap) (k : List Key) (b : Addr) : Prop := IsTupleKey (mixKind P w) h k b
abbrev kHs (P : Program) (w : World) (k : List Key) : Int := tupleKeyHash (mixKind P w) k
/-- the c-th step of a search -/
def stp (m : Nat) (z : Int) (c : Nat) : SetTable.Probe := nth m (runAt m (SetTable.bits z % (m + 1)) (SetTable.bits z)) c
theorem stp_j (m : Nat) (z : Int) (c : Nat) : (stp m z c).j = way m z c := rfl
theorem stp_add (m : Nat) (z : Int) (c d : Nat) : nth m (stp m z c) d = stp m z (c + d) := (nth_add m c _ d).symm
theorem nth_dm (m : Nat) : ∀ (n : Nat) (q : SetTable.Probe), q.dummy = none → (nth m q n).dummy = none
  | 0, _, e => e
  | n + 1, q, e => nth_dm m n (adv m q) (by unfold adv; split <;> exact e)
theorem stp_dm (m : Nat) (z : Int) (c : Nat) : (stp m z c).dummy = none := nth_dm m c _ rfl
theorem key_vals {P : Program} {w : World} {k : List Key} {vs : List Value} (g : ItemsAre (mixKind P w) k vs) : ∀ v ∈ vs, (∃ i t, v = Value.int i t) ∨ ∃ z t, v = Value.str z t := by
  induction g with
  | nil => exact fun v hv => nomatch hv
  | cons g1 _ ih =>
    intro v hv
    cases hv with
    | head => rcases keyIs_shape g1 with ⟨i, t, _, e⟩ | ⟨z, t, _, e⟩
              · exact .inl ⟨i, t, e⟩
              · exact .inr ⟨z, t, e⟩
    | tail _ hv => exact ih v hv
theorem ofA_int (n : Nat) (i : Int) (t : Tok) : ofAClassStatement n (.int i t) = pure false := by cases n <;> rfl
theorem ofA_str (n : Nat) (z : Str) (t : Tok) : ofAClassStatement n (.str z t) = pure false := by cases n <;> rfl
theorem hbv_int (n : Nat) (i : Int) (t : Tok) : hashByValue n (.int i t) = pure true := by cases n <;> rfl
theorem hbv_str (n : Nat) (z : Str) (t : Tok) : hashByValue n (.str z t) = pure false := by cases n <;> rfl
section
variable {P : Program} {w : World} {A : Around} {E : Value → Shared → Prop} {s : Shared}
/-- no tuple of keys is of a class statement -/
theorem no_cls {k : List Key} {b : Addr} {Q : Bool → Shared → Prop} (g : KTup P w s.heap k b) (q : Q false s) : wpAny (model P w) A (ofAClassStatement 8 (.ref b)) Q E s := by
  obtain ⟨o, its, n, g1, _, g2, g3⟩ := id g
  unfold ofAClassStatement
  refine wpAny_bind (wpAny_typeOf g.typeIs ?_)
  dsimp only
  have e0 : ("tuple" == ("tuple" : String)) = true := by decide
  simp only [e0, if_true, Bool.not_true, Bool.false_eq_true, if_false]
  try refine wpAny_bind (wpAny_pure ?_)
  try simp only [Bool.not_true, Bool.false_eq_true, if_false]
  show wpAny _ _ (seqItems? (.ref b) >>= _) _ _ s
  refine wpAny_bind (wpAny_seqItems g1 g2 ?_)
  dsimp only
  refine wpAny_bind ?_
  show wpAny _ _ (forIn its _ _) _ _ s
  rw [← Array.forIn_toList]
  refine wpAny_forIn_list _ (fun l r s2 => r.1 = none ∧ s2 = s ∧ ∀ v ∈ l, (∃ i t, v = Value.int i t) ∨ ∃ z t, v = Value.str z t) _ (fun v l r s2 hh => ?_) (fun r s2 hh => ?_) _ _ ⟨rfl, rfl, key_vals g3⟩
  · obtain ⟨c1, rfl, c2⟩ := hh
    have no : ofAClassStatement 7 v = pure false := by
      rcases c2 v List.mem_cons_self with ⟨i, t, rfl⟩ | ⟨z, t, rfl⟩
      · exact ofA_int 7 i t
      · exact ofA_str 7 z t
    rw [no]
    refine wpAny_bind (wpAny_pure ?_)
    rw [if_neg Bool.false_ne_true]
    exact wpAny_pure ⟨rfl, rfl, fun u hu => c2 u (List.mem_cons_of_mem _ hu)⟩
  · obtain ⟨r1, r2⟩ := r
    obtain ⟨c1, rfl, _⟩ := hh
    cases c1
    exact wpAny_pure q
/-- whether its hash is by value is told -/
theorem by_value {k : List Key} {b : Addr} {Q : Bool → Shared → Prop} (g : KTup P w s.heap k b) (q : ∀ c, Q c s) : wpAny (model P w) A (hashByValue 8 (.ref b)) Q E s := by
  obtain ⟨o, its, n, g1, _, g2, g3⟩ := id g
  unfold hashByValue
  refine wpAny_bind (wpAny_specialOf g.typeIs F.slot_tuple_hash.lookup ?_)
  show wpAny _ _ (seqItems? (.ref b) >>= _) _ _ s
  refine wpAny_bind (wpAny_seqItems g1 g2 ?_)
  refine wpAny_bind ?_
  show wpAny _ _ (forIn its _ _) _ _ s
  rw [← Array.forIn_toList]
  refine wpAny_forIn_list _ (fun l r s2 => r.1 = none ∧ s2 = s ∧ ∀ v ∈ l, (∃ i t, v = Value.int i t) ∨ ∃ z t, v = Value.str z t) _ (fun v l r s2 hh => ?_) (fun r s2 hh => ?_) _ _ ⟨rfl, rfl, key_vals g3⟩
  · obtain ⟨c1, rfl, c2⟩ := hh
    rcases c2 v List.mem_cons_self with ⟨i, t, rfl⟩ | ⟨z, t, rfl⟩
    · rw [hbv_int]
      refine wpAny_bind (wpAny_pure ?_)
      simp only [Bool.not_true, Bool.false_eq_true, if_false]
      exact wpAny_pure ⟨rfl, rfl, fun u hu => c2 u (List.mem_cons_of_mem _ hu)⟩
    · rw [hbv_str]
      refine wpAny_bind (wpAny_pure ?_)
      simp only [Bool.not_false, if_true]
      exact wpAny_pure (wpAny_pure (q false))
  · obtain ⟨r1, r2⟩ := r
    obtain ⟨c1, rfl, _⟩ := hh
    cases c1
    exact wpAny_pure (q true)
/-- nothing shows a search among such tuples -/
theorem unseen {k : List Key} {b : Addr} {ys : List Value} {Q : Bool → Shared → Prop} (g : KTup P w s.heap k b) (gy : ∀ y ∈ ys, ∃ k' c, y = Value.ref c ∧ KTup P w s.heap k' c) (q : Q false s) : wpAny (model P w) A (searchCouldBeSeen (.ref b) ys) Q E s := by
  unfold searchCouldBeSeen
  refine wpAny_bind ?_
  refine wpAny_forIn_list _ (fun l r s2 => r.1 = none ∧ s2 = s ∧ ∀ y ∈ l, ∃ k' c, y = Value.ref c ∧ KTup P w s.heap k' c) _ (fun v l r s2 hh => ?_) (fun r s2 hh => ?_) _ _ ⟨rfl, rfl, gy⟩
  · obtain ⟨c1, rfl, c2⟩ := hh
    obtain ⟨k', c, rfl, gc⟩ := c2 v List.mem_cons_self
    have more : ∀ y ∈ l, ∃ k' c, y = Value.ref c ∧ KTup P w s2.heap k' c := fun u hu => c2 u (List.mem_cons_of_mem _ hu)
    dsimp only
    by_cases hv : (b == c || (carriedByValue (.ref b) && carriedByValue (.ref c))) = true
    · exact wp_if_pos hv (wpAny_pure ⟨rfl, rfl, more⟩)
    · refine wp_if_neg hv (wpAny_bind (wpAny_eqIsQuiet_tuple g ?_))
      rw [if_neg (by simp)]
      refine wpAny_bind (wpAny_eqIsQuiet_tuple gc ?_)
      rw [if_neg (by simp)]
      refine wpAny_bind (no_cls g ?_)
      rw [if_neg Bool.false_ne_true]
      refine wpAny_bind (no_cls gc ?_)
      rw [if_neg Bool.false_ne_true]
      exact wpAny_pure ⟨rfl, rfl, more⟩
  · obtain ⟨r1, r2⟩ := r
    obtain ⟨c1, rfl, _⟩ := hh
    cases c1
    exact wpAny_pure q

/-! the set -/
abbrev KRow := Addr × List Key
def ents (P : Program) (w : World) (L : List KRow) : List (Int × Value) := L.map fun q => (kHs P w q.2, Value.ref q.1)
structure Tb (P : Program) (w : World) (h : Heap) (a : Addr) (L : List KRow) (es : Array (Int × Value)) (ep : Nat) (t : SetTable) : Prop where
  at_ : ∃ o, h.get? a = some o ∧ o.ExactSet ∧ o.data = .set es ep t
  ent : es.toList = ents P w L
  tab : TabOk t (L.map fun q => kHs P w q.2)
  nd : (L.map Prod.snd).Nodup
  mem : ∀ q ∈ L, KTup P w h q.2 q.1
  led : w.params.followText "set-order" = true ∨ t.led = true
  gap : L.length * 5 < t.mask * 3
  few : L.length < 64
variable {a : Addr} {L : List KRow} {es : Array (Int × Value)} {ep : Nat} {t : SetTable}
theorem ents_len (e : es.toList = ents P w L) : es.size = L.length := by
  rw [← Array.length_toList, e]
  exact List.length_map ..
theorem ents_at (e : es.toList = ents P w L) {i : Nat} {q : KRow} (g : L[i]? = some q) : es[i]? = some (kHs P w q.2, Value.ref q.1) := by
  rw [← Array.getElem?_toList, e, ents, List.getElem?_map, g, Option.map_some]
theorem fits_of {m n : Nat} (h1 : t.dummies = #[]) (h2 : t.place.size = n) (h3 : n ≤ t.mask) : t.fits n = true := by
  unfold SetTable.fits SetTable.fill
  rw [h1, Bool.and_eq_true, beq_iff_eq, decide_eq_true_eq]
  exact ⟨h2, by show t.place.size + 0 ≤ _; omega⟩
theorem Tb.len {h : Heap} (R : Tb P w h a L es ep t) : es.size = L.length := ents_len R.ent
theorem Tb.place {h : Heap} (R : Tb P w h a L es ep t) : t.place.size = L.length := by rw [R.tab.sz, List.length_map]
theorem Tb.fit {h : Heap} (R : Tb P w h a L es ep t) : t.fits es.size = true := fits_of (m := 0) R.tab.dm (by rw [R.place, R.len]) (by rw [R.len]; have := R.gap; omega)
theorem Tb.way_ne {h : Heap} (R : Tb P w h a L es ep t) : t.gaveWay = false := by
  unfold SetTable.gaveWay
  rw [mask_odd R.tab.mok]
  rfl
/-- the search for a key, from its c-th step on; N is the first empty slot's -/
theorem look_on (R : Tb P w s.heap a L es ep t) {x : Addr} {k : List Key} (g : KTup P w s.heap k x) (hu : A.units < cLine) {N : Nat} (n1 : N < 10 * SetTable.turns t.mask) (n2 : way t.mask (kHs P w k) N ∉ t.place.toList) (n3 : ∀ c, c < N → way t.mask (kHs P w k) c ∈ t.place.toList)
    {Q : SetFound → Shared → Prop} (yes : k ∈ L.map Prod.snd → Q (.there none) s) (no : k ∉ L.map Prod.snd → Q (.free (way t.mask (kHs P w k) N) false) s) :
    ∀ (f c : Nat) (from? : Option SetTable.Probe), from?.getD (t.probeStart (kHs P w k)) = stp t.mask (kHs P w k) c → c ≤ N → N - c < f → (∀ (i : Nat) (q : KRow), L[i]? = some q → q.2 = k → ∃ d, c ≤ d ∧ d < N ∧ t.place.toList[i]? = some (way t.mask (kHs P w k) d)) →
      wpAny (model P w) A (setSearchFrom a (.ref x) (kHs P w k) true f from?) Q E s := by
  intro f
  induction f with
  | zero => intro c _ _ _ hf; omega
  | succ f ih =>
    intro c from? hst hc hf ahead
    obtain ⟨o, o1, o2, o3⟩ := R.at_
    have hs : ∀ (i : Nat) (q : KRow), L[i]? = some q → (fun i => (es[i]?.map (·.1)).getD 0) i = kHs P w q.2 := fun i q e => by
      show (es[i]?.map Prod.fst).getD 0 = _
      rw [ents_at R.ent e]; rfl
    rw [setSearchFrom_succ]
    refine wpAny_bind (wpAny_setState_of o1 o3 R.fit ?_)
    dsimp only
    refine wp_if_neg (by rw [R.way_ne]; simp) ?_
    try refine wpAny_bind (wpAny_pure ?_)
    have wj : ∀ d, (nth t.mask (stp t.mask (kHs P w k) c) d).j = way t.mask (kHs P w k) (c + d) := fun d => by rw [stp_add]; rfl
    rcases go_spec t R.tab.ris R.tab.dm (fun i => (es[i]?.map (·.1)).getD 0) (kHs P w k) (10 * SetTable.turns t.mask) (N - c) (stp t.mask (kHs P w k) c) (stp_dm ..) (by omega) (fun d hd => by rw [wj]; exact n3 _ (by omega)) (by rw [wj, Nat.add_sub_cancel' hc]; exact n2) with ⟨d, i, d1, d2, d3, d4, d5⟩ | ⟨d4, d5⟩
    · -- one of this hash
      have hp : t.probe (fun i => (es[i]?.map (·.1)).getD 0) (kHs P w k) (from?.getD (t.probeStart (kHs P w k))) = some (.candidate (way t.mask (kHs P w k) (c + d)) i (stp t.mask (kHs P w k) (c + (d + 1)))) := by
        rw [hst, ← stp_add, ← wj]; exact d5
      rw [hp]
      dsimp only
      rw [wj] at d2
      have hi : i < L.length := by
        have := (List.getElem?_eq_some_iff.mp d2).1
        rw [Array.length_toList, R.place] at this
        exact this
      obtain ⟨q, hq⟩ : ∃ q, L[i]? = some q := ⟨_, List.getElem?_eq_getElem hi⟩
      have mq := List.mem_of_getElem? hq
      have hslot := slot_live R.tab.ris d2
      have main : wpAny (model P w) A (searchRest a (.ref x) (kHs P w k) true f es t (way t.mask (kHs P w k) (c + d)) i (stp t.mask (kHs P w k) (c + (d + 1)))) Q E s := by
        unfold searchRest
        rw [ents_at R.ent hq]
        dsimp only
        refine wpAny_bind (wpAny_holding (wpAny_eqBool_tuple hu (R.mem q mq) g ?_))
        refine wpAny_bind (wpAny_setState_of o1 o3 R.fit ?_)
        dsimp only
        by_cases hk : q.2 = k
        · exact wp_if_pos (by rw [decide_eq_true hk]; rfl) (wpAny_pure (yes (List.mem_map.mpr ⟨q, mq, hk⟩)))
        · refine wp_if_neg (by rw [decide_eq_false hk]; decide) ?_
          try refine wpAny_bind (wpAny_pure ?_)
          rw [sameMem]
          dsimp only
          simp only [if_true, hslot, ents_at R.ent hq]
          refine wpAny_bind (wpAny_isSame_ref_self (wpAny_bind (wpAny_pure ?_)))
          simp only [if_true]
          refine wp_if_neg (by rw [decide_eq_false hk]; decide) ?_
          refine ih (c + (d + 1)) _ rfl (by omega) (by omega) fun i0 q0 e0 ek => ?_
          obtain ⟨d', x1, x2, x3⟩ := ahead i0 q0 e0 ek
          refine ⟨d', ?_, x2, x3⟩
          have hne : d' ≠ c + d := fun z => by
            rw [z] at x3
            have := slot_live R.tab.ris x3
            rw [hslot] at this
            injection this with this
            rw [← this, hq] at e0
            exact hk (by rw [Option.some.inj e0]; exact ek)
          have hge : ¬ d' < c + d := fun z => d4 (d' - c) i0 (by omega) (by rw [wj, Nat.add_sub_cancel' x1]; exact x3) ((hs i0 q0 e0).trans (by rw [ek]))
          omega
      by_cases hl : t.led = true
      · refine wp_if_neg (by rw [hl]; decide) ?_
        try refine wpAny_bind (wpAny_pure ?_)
        exact main
      · refine wp_if_pos (by simpa using hl) ?_
        refine wpAny_bind (unseen g (fun y hy => ?_) ?_)
        · obtain ⟨e, he, rfl⟩ := List.mem_map.mp hy
          have he1 : e ∈ es.toList := by
            have : e ∈ es ∧ e.1 = kHs P w k := by simpa using he
            simpa using this.1
          rw [R.ent] at he1
          obtain ⟨q2, m2, rfl⟩ := List.mem_map.mp he1
          exact ⟨q2.2, q2.1, rfl, R.mem q2 m2⟩
        · refine wp_if_neg Bool.false_ne_true ?_
          try refine wpAny_bind (wpAny_pure ?_)
          exact main
    · -- none
      have hp : t.probe (fun i => (es[i]?.map (·.1)).getD 0) (kHs P w k) (from?.getD (t.probeStart (kHs P w k))) = some (.empty (way t.mask (kHs P w k) N) none) := by
        rw [hst]
        have := wj (N - c)
        rw [Nat.add_sub_cancel' hc] at this
        rw [← this]; exact d5
      rw [hp]
      dsimp only
      refine wpAny_pure (no fun hm => ?_)
      obtain ⟨q0, m0, ek⟩ := List.mem_map.mp hm
      obtain ⟨i0, hi0, e0⟩ := List.getElem_of_mem m0
      have e0 : L[i0]? = some q0 := by rw [List.getElem?_eq_getElem hi0, e0]
      obtain ⟨d', x1, x2, x3⟩ := ahead i0 q0 e0 ek
      exact d4 (d' - c) i0 (by omega) (by rw [wj, Nat.add_sub_cancel' x1]; exact x3) ((hs i0 q0 e0).trans (by rw [ek]))
/-- the search that an adding makes -/
theorem look_for (R : Tb P w s.heap a L es ep t) {x : Addr} {k : List Key} (g : KTup P w s.heap k x) (hu : A.units < cLine) {Q : SetFound → Shared → Prop} (yes : k ∈ L.map Prod.snd → Q (.there none) s)
    (no : ∀ N, k ∉ L.map Prod.snd → way t.mask (kHs P w k) N ∉ t.place.toList → (∀ c, c < N → way t.mask (kHs P w k) c ∈ t.place.toList) → Q (.free (way t.mask (kHs P w k) N) false) s) : wpAny (model P w) A (setSearch a (.ref x) (kHs P w k) true) Q E s := by
  have hg := R.gap
  obtain ⟨N, n1, n2, n3⟩ := R.tab.first (h := kHs P w k) (by rw [List.length_map]; omega)
  have hN : N < 100000 := by
    have : 10 * SetTable.turns t.mask < 100000 := by
      unfold SetTable.turns
      have := R.tab.mok
      unfold MaskOk at this
      omega
    omega
  unfold setSearch
  refine look_on R g hu n1 n2 n3 yes (fun z => no N z n2 n3) 100000 0 none rfl (Nat.zero_le N) (by omega) fun i q e ek => ?_
  have hi : i < t.place.toList.length := by
    rw [Array.length_toList, R.place]
    exact (List.getElem?_eq_some_iff.mp e).1
  obtain ⟨d, d1, d2⟩ := R.tab.before n2 (show (L.map fun q => kHs P w q.2)[i]? = some (kHs P w k) by rw [List.getElem?_map, e, ← ek]; rfl) (List.getElem?_eq_getElem hi)
  exact ⟨d, Nat.zero_le d, d1, by rw [List.getElem?_eq_getElem hi, d2]⟩
theorem KTup.same {h h' : Heap} {k : List Key} {b : Addr} {o : Obj} (g : KTup P w h k b) (e : h.get? a = some o) (d : o.data = .set es ep t) (sb : Heap.SameBut a h h') : KTup P w h' k b := by
  obtain ⟨u, its, n, u1, u2, u3, u4⟩ := g
  refine ⟨u, its, n, ?_, u2, u3, u4⟩
  rw [sb.2 b fun z => ?_]
  · exact u1
  · subst z
    rw [e] at u1
    cases u1
    rw [d] at u3
    cases u3
theorem KTup.keep {h h' : Heap} {k : List Key} {b : Addr} (g : KTup P w h k b) (kp : ∀ c o, h.get? c = some o → h'.get? c = some o) : KTup P w h' k b :=
  let ⟨u, its, n, u1, r⟩ := g
  ⟨u, its, n, kp b u u1, r⟩
/-- rows in another order -/
theorem ents_order {order : Array Nat} (e : es.toList = ents P w L) (hp : order.toList.Perm (List.range L.length)) :
    ∃ M, (order.filterMap fun i => es[i]?).toList = ents P w M ∧ M.Perm L ∧ (M.map fun q => kHs P w q.2) = order.toList.map fun i => (es.map (·.1)).getD i 0 := by
  refine ⟨order.toList.filterMap fun i => L[i]?, ?_, ?_, ?_⟩
  · have h1 : (order.filterMap fun i => es[i]?).toList = order.toList.filterMap fun i => es[i]? := by simp
    rw [h1]
    unfold ents
    rw [List.map_filterMap]
    congr 1
    funext i
    rw [← Array.getElem?_toList, e, ents, List.getElem?_map]
  · refine (hp.filterMap _).trans (List.Perm.of_eq ?_)
    refine List.ext_getElem? fun n => ?_
    have all : ∀ (M : List KRow), (List.range M.length).filterMap (fun i => M[i]?) = M := by
      intro M
      induction M with
      | nil => rfl
      | cons x M ih =>
        rw [List.length_cons, List.range_succ_eq_map, List.filterMap_cons, List.filterMap_map]
        exact congrArg (x :: ·) ih
    rw [all]
  · have lt : ∀ i ∈ order.toList, i < L.length := fun i hi => List.mem_range.mp (hp.mem_iff.mp hi)
    generalize order.toList = l at lt ⊢
    induction l with
    | nil => rfl
    | cons i l ih =>
      have hi := lt i List.mem_cons_self
      have eL := List.getElem?_eq_getElem hi
      rw [List.filterMap_cons_some eL, List.map_cons, List.map_cons, ih fun j hj => lt j (List.mem_cons_of_mem _ hj)]
      congr 1
      have e5 : (es.map (·.1))[i]? = some (kHs P w (L[i]).2) := by rw [Array.getElem?_map, ents_at e eL]; rfl
      simp [Array.getD_eq_getD_getElem?, e5]
/-- the table laid anew -/
theorem lay_anew {o : Obj} {wanted M : Nat} (o1 : s.heap.get? a = some o) (o2 : o.ExactSet) (o3 : o.data = .set es ep t) (e : es.toList = ents P w L) (pl : t.place.size = es.size) (dm : t.dummies = #[]) (le : es.size ≤ t.mask) (nd : (L.map Prod.snd).Nodup) (mem : ∀ q ∈ L, KTup P w s.heap q.2 q.1)
    (led : w.params.followText "set-order" = true ∨ t.led = true) (few : L.length < 64) (m1 : SetTable.sizeAbove wanted - 1 = M) (m2 : MaskOk M) (m3 : SetTable.sizeAbove wanted ≤ 128) (m4 : L.length * 5 < M * 3) {Q : Unit → Shared → Prop}
    (q : ∀ h' L' es' ep' t', Heap.SameBut a s.heap h' → Tb P w h' a L' es' ep' t' → L'.Perm L → Q () { s with heap := h' }) : wpAny (model P w) A (setRelay a wanted) Q E s := by
  have hn := ents_len e
  obtain ⟨t', order, r1, r2, r3, r4, r5, _, _⟩ := relaid_ok t (hs := es.map (·.1)) m1 m2 (by rw [Array.size_map, hn]; omega)
  rw [Array.size_map, hn] at r2
  obtain ⟨M', x1, x2, x3⟩ := ents_order e r2
  rw [← x3] at r3
  have hn' : (order.filterMap fun i => es[i]?).size = es.size := by rw [ents_len x1, x2.length_eq, hn]
  rw [setRelay_eq]
  refine wpAny_bind (wpAny_setState_of o1 o3 (fits_of (m := 0) dm pl le) ?_)
  dsimp only
  refine wp_if_neg (Nat.not_lt.mpr (Nat.le_trans m3 (by rw [sizeLine_eq]; decide))) ?_
  try refine wpAny_bind (wpAny_pure ?_)
  rw [r1]
  dsimp only
  refine wpAny_bind ?_
  refine wp_if_neg (by rw [hn']; simp) ?_
  try refine wpAny_bind (wpAny_pure ?_)
  refine wpAny_pure ?_
  dsimp only
  refine wpAny_storeSet_of o1 o3 ?_ (Nat.le_trans (Nat.le_of_eq (hn'.trans hn)) (by rw [sizeLine_eq]; omega))
  have sb : Heap.SameBut a s.heap (s.heap.update a (Obj.putSet (order.filterMap fun i => es[i]?) t')) := Heap.SameBut.update ..
  exact q _ M' _ (ep + 1) t' sb ⟨⟨_, store_at o1 o3, ⟨o2.1, o2.2.1, o2.2.2⟩, rfl⟩, x1, r3, (x2.map Prod.snd).nodup_iff.mpr nd, fun z hz => (mem z (x2.mem_iff.mp hz)).same o1 o3 sb, by rw [r5]; exact led, by rw [x2.length_eq, r4]; exact m4, by rw [x2.length_eq]; exact few⟩ x2
theorem ins_perm {α : Type} (l : List α) (n : Nat) (x : α) : (l.take n ++ x :: l.drop n).Perm (x :: l) :=
  List.perm_middle.trans (List.Perm.of_eq (by rw [List.take_append_drop]))
/-- a key added -/
theorem add_key (R : Tb P w s.heap a L es ep t) {x : Addr} {k : List Key} (g : KTup P w s.heap k x) (hu : A.units < cLine) (few : L.length + 1 < 64) {Q : Bool → Shared → Prop}
    (q : ∀ b h' L' es' ep' t', Heap.SameBut a s.heap h' → Tb P w h' a L' es' ep' t' → (k ∈ L.map Prod.snd ∧ L' = L ∨ k ∉ L.map Prod.snd ∧ L'.Perm ((x, k) :: L)) → Q b { s with heap := h' }) : wpAny (model P w) A (setAddHashed a (.ref x) (kHs P w k)) Q E s := by
  obtain ⟨o, o1, o2, o3⟩ := R.at_
  have hn := R.len
  have hgap := R.gap
  unfold setAddHashed
  refine wpAny_holding ?_
  rw [show (100000 : Nat) = 99999 + 1 from rfl, setAddHashedIn_succ]
  refine wpAny_bind (wpAny_setState_of o1 o3 R.fit ?_)
  dsimp only
  refine wp_if_neg (by simp [byScan, Value.scannable]) ?_
  try refine wpAny_bind (wpAny_pure ?_)
  refine wpAny_bind (look_for R g hu (fun hm => ?_) fun N hm n1 n2 => ?_)
  · exact wpAny_pure (q false s.heap L es ep t (Heap.SameBut.refl a s.heap) R (.inl ⟨hm, rfl⟩))
  · dsimp only
    refine wpAny_bind (wpAny_setState_of o1 o3 R.fit ?_)
    dsimp only
    obtain ⟨p1, p2, p3, p4, p5, _, _, _, p9⟩ := R.tab.put n1 n2
    generalize t.put (way t.mask (kHs P w k) N) = u at p1 p3 p4 p5 p9 ⊢
    obtain ⟨t1, n⟩ := u
    dsimp only at p1 p3 p4 p5 p9 ⊢
    subst p1
    generalize SetTable.below t.place (way t.mask (kHs P w k) N) = n at p2 p3 ⊢
    have pm := ins_perm L n (x, k)
    have e1 : (SetTable.insertAt es n (kHs P w k, Value.ref x)).toList = ents P w (L.take n ++ (x, k) :: L.drop n) := by
      rw [SetTable.toList_insertAt, R.ent]
      simp only [ents, List.map_append, List.map_cons, List.map_take, List.map_drop]
    have e2 : (L.map fun q => kHs P w q.2).take n ++ kHs P w k :: (L.map fun q => kHs P w q.2).drop n = (L.take n ++ (x, k) :: L.drop n).map fun q => kHs P w q.2 := by
      simp only [List.map_append, List.map_cons, List.map_take, List.map_drop]
    rw [e2] at p3
    have nd1 : ((L.take n ++ (x, k) :: L.drop n).map Prod.snd).Nodup := (pm.map Prod.snd).nodup_iff.mpr (List.nodup_cons.mpr ⟨hm, R.nd⟩)
    generalize SetTable.insertAt es n (kHs P w k, Value.ref x) = es1 at e1 ⊢
    generalize L.take n ++ (x, k) :: L.drop n = L1 at e1 p3 pm nd1 e2
    have hl1 : L1.length = L.length + 1 := pm.length_eq
    have hs1 := ents_len e1
    have key : ∀ t2 : SetTable, t2.place = t1.place → t2.mask = t1.mask → t2.dummies = t1.dummies → t2.led = t1.led → TabOk t2 (L1.map fun q => kHs P w q.2) → t2.tooFull = t1.tooFull → wpAny (model P w) A (do
        storeSet a es1 t2
        if (!false && t2.tooFull) = true then do
          setRelay a (SetTable.grown (es.size + 1))
          pure true
        else pure true) Q E s := fun t2 c1 c2 c3 c4 T2 c5 => by
      refine wpAny_bind (wpAny_storeSet_of o1 o3 ?_ (by rw [hs1, hl1, sizeLine_eq]; omega))
      have sb : Heap.SameBut a s.heap (s.heap.update a (Obj.putSet es1 t2)) := Heap.SameBut.update ..
      have at1 := store_at (es' := es1) (t' := t2) o1 o3
      generalize s.heap.update a (Obj.putSet es1 t2) = h1 at sb at1 ⊢
      have mem1 : ∀ z ∈ L1, KTup P w h1 z.2 z.1 := fun z hz => by
        rcases List.mem_cons.mp (pm.mem_iff.mp hz) with rfl | hz
        · exact g.same o1 o3 sb
        · exact (R.mem z hz).same o1 o3 sb
      have led1 : w.params.followText "set-order" = true ∨ t2.led = true := by rw [c4, p5]; exact R.led
      have pl1 : t2.place.size = es1.size := by rw [T2.sz, List.length_map, hs1]
      have hfull : t2.tooFull = true ↔ t.mask * 3 ≤ (L.length + 1) * 5 := by
        rw [c5]
        unfold SetTable.tooFull
        rw [decide_eq_true_eq, p9, List.length_map, p4]
      by_cases hf : t2.tooFull = true
      · refine wp_if_pos (by rw [hf]; rfl) ?_
        have hf' := hfull.mp hf
        have go : ∀ M, SetTable.sizeAbove (SetTable.grown (L.length + 1)) - 1 = M → MaskOk M → SetTable.sizeAbove (SetTable.grown (L.length + 1)) ≤ 128 → (L.length + 1) * 5 < M * 3 → wpAny (model P w) A (do
            setRelay a (SetTable.grown (es.size + 1))
            pure true) Q E { s with heap := h1 } := fun M m1 m2 m3 m4 => by
          refine wpAny_bind ?_
          rw [hn]
          refine lay_anew (s := { s with heap := h1 }) at1 ⟨o2.1, o2.2.1, o2.2.2⟩ rfl e1 pl1 (by rw [T2.dm]) (by rw [hs1, hl1, c2, p4]; have := R.tab.mok; unfold MaskOk at this; omega) nd1 mem1 led1 (by omega) m1 m2 m3 (by rw [hl1]; exact m4) fun h2 L2 es2 ep2 t3 sb2 R2 pm2 => ?_
          exact wpAny_pure (q true h2 L2 es2 ep2 t3 (sb.trans sb2) R2 (.inr ⟨hm, pm2.trans pm⟩))
        rcases R.tab.mok with e | e | e <;> rw [e] at hf' hgap
        · have : L.length = 4 := by omega
          exact go 31 (by rw [this]; rw [size_20]) (.inr (.inl rfl)) (by rw [this, size_20]; decide) (by omega)
        · have : L.length = 18 := by omega
          exact go 127 (by rw [this]; rw [size_76]) (.inr (.inr rfl)) (by rw [this, size_76]; decide) (by omega)
        · omega
      · refine wp_if_neg (by simpa using hf) ?_
        refine wpAny_pure (q true h1 L1 es1 (ep + 1) t2 sb ⟨⟨_, at1, ⟨o2.1, o2.2.1, o2.2.2⟩, rfl⟩, e1, T2, nd1, mem1, led1, ?_, by omega⟩ (.inr ⟨hm, pm⟩))
        rw [c2, p4, hl1]
        have := mt hfull.mpr hf
        omega
    have T1 : ∀ b, TabOk { t1 with plain := b } (L1.map fun q => kHs P w q.2) := fun b => ⟨p3.ris, p3.dm, p3.sz, p3.mok, p3.bd, p3.reach⟩
    by_cases hpl : t1.plain = true
    · first
        | (refine wpAny_bind ?_; refine wp_if_pos hpl ?_; refine by_value g fun c => ?_)
        | refine wp_if_pos hpl (wpAny_bind (by_value g fun c => ?_))
      cases c with
      | true => exact key t1 rfl rfl rfl rfl p3 rfl
      | false => exact key { t1 with plain := false } rfl rfl rfl rfl (T1 false) rfl
    · first
        | (refine wpAny_bind ?_; refine wp_if_neg hpl ?_; refine wpAny_pure ?_)
        | (refine wp_if_neg hpl ?_; refine wpAny_bind (wpAny_pure ?_))
      exact key t1 rfl rfl rfl rfl p3 rfl
/-- what stands in the set behind the first i -/
def Has (ks : List KRow) (i : Nat) (L : List KRow) : Prop := (∀ q ∈ L, q ∈ ks.take i) ∧ (∀ q ∈ ks.take i, q.2 ∈ L.map Prod.snd) ∧ L.length ≤ i
theorem Has.next {ks L L' : List KRow} {i : Nat} {q : KRow} (g : Has ks i L) (e : ks[i]? = some q) (h : q.2 ∈ L.map Prod.snd ∧ L' = L ∨ q.2 ∉ L.map Prod.snd ∧ L'.Perm (q :: L)) : Has ks (i + 1) L' := by
  obtain ⟨g1, g2, g3⟩ := g
  have et : ks.take (i + 1) = ks.take i ++ [q] := by rw [List.take_succ, e]; rfl
  unfold Has
  rw [et]
  rcases h with ⟨h1, rfl⟩ | ⟨h1, pm⟩
  · refine ⟨fun z hz => List.mem_append_left _ (g1 z hz), fun z hz => ?_, by omega⟩
    rcases List.mem_append.mp hz with hz | hz
    · exact g2 z hz
    · rw [List.mem_singleton.mp hz]; exact h1
  · refine ⟨fun z hz => ?_, fun z hz => ?_, by rw [pm.length_eq, List.length_cons]; omega⟩
    · rcases List.mem_cons.mp (pm.mem_iff.mp hz) with rfl | hz
      · exact List.mem_append_right _ List.mem_cons_self
      · exact List.mem_append_left _ (g1 z hz)
    · refine (pm.map Prod.snd).mem_iff.mpr ?_
      rcases List.mem_append.mp hz with hz | hz
      · exact List.mem_cons_of_mem _ (g2 z hz)
      · rw [List.mem_singleton.mp hz]; exact List.mem_cons_self
theorem Tb.move {h h' : Heap} (R : Tb P w h a L es ep t) (e : ∀ o, h.get? a = some o → h'.get? a = some o) (g : ∀ q ∈ L, KTup P w h' q.2 q.1) : Tb P w h' a L es ep t :=
  let ⟨o, o1, r⟩ := R.at_
  ⟨⟨o, e o o1, r⟩, R.ent, R.tab, R.nd, g, R.led, R.gap, R.few⟩
abbrev set0 (w : World) : Obj := { cls := .type "set", dict := none, data := .set #[] 0 (.fresh 0 0 (!w.params.followText "set-order")) }
theorem tb_new {h : Heap} (e : h.get? a = some (set0 w)) : Tb P w h a [] #[] 0 (.fresh 0 0 (!w.params.followText "set-order")) := by
  refine ⟨⟨_, e, ⟨rfl, rfl, rfl⟩, rfl⟩, rfl, ⟨List.Pairwise.nil, rfl, rfl, .inl rfl, (fun x hx => by cases hx), fun i z j hi => by simp at hi⟩, List.nodup_nil, fun q hq => (nomatch hq), ?_, (by show 0 * 5 < 7 * 3; decide), (by show 0 < 64; decide)⟩
  by_cases h : w.params.followText "set-order" = true
  · exact .inl h
  · exact .inr (by show (!w.params.followText "set-order") = true; simpa using h)
/-- the loop behind set(..) -/
theorem upd_loop {I S : Addr} {fp wr : List Addr} {G : Array GenState → Array GenState → Prop} {n : Nat} {Pv : Nat → Value → Prop} {St : Nat → Shared → Prop} {R : Result → Shared → Prop} (W : WalksS P w A.in1 I fp wr G n Pv St) (hS : S ∉ fp) (ks : List KRow) (hn : n = ks.length) (few : ks.length < 64)
    (val : ∀ i v, Pv i v → ∃ q, ks[i]? = some q ∧ v = .ref q.1) (h0 : Heap) (mem : ∀ q ∈ ks, KTup P w h0 q.2 q.1) (s0 : h0.get? S = none) (w0 : ∀ b ∈ wr, h0.get? b = none) (hu : A.in1.units < cLine) :
    ∀ (k i : Nat) (s : Shared), n - i = k → i ≤ n → St i s → (∀ b o, h0.get? b = some o → s.heap.get? b = some o) → (∃ L es ep t, Tb P w s.heap S L es ep t ∧ Has ks i L) →
      (∀ s' L es ep t, Moved (S :: wr) G s s' → Tb P w s'.heap S L es ep t → Has ks n L → (∀ b o, h0.get? b = some o → s'.heap.get? b = some o) → R (.ok (.ret .none)) s') → codeAny (model P w) A (.builtin "set.update.loop" ⟨[.ref S, .ref I], []⟩) R s := by
  have nS : S ∉ wr := fun z => hS (W.sub _ z)
  have wide : ∀ b ∈ wr, b ∈ S :: wr := fun b hb => List.mem_cons_of_mem _ hb
  have old : ∀ {s s' : Shared}, Moved wr G s s' → (∀ b o, h0.get? b = some o → s.heap.get? b = some o) → ∀ b o, h0.get? b = some o → s'.heap.get? b = some o := fun m kp b o e => m.heap b o (fun z => by rw [w0 b z] at e; cases e) (kp b o e)
  have inks : ∀ {L : List KRow} {i : Nat}, Has ks i L → ∀ q ∈ L, q ∈ ks := fun g q hq => List.mem_of_mem_take (g.1 q hq)
  intro k
  induction k with
  | zero =>
    intro i s hk hi hst kp ⟨L, es, ep, t, T, g⟩ fin
    cases (show i = n by omega)
    refine codeAny_builtin F.entry_set_update_loop ?_
    rw [Around.under_plainId F.plain_set_update_loop _]
    show wpAny _ A.in1 (pyNext (.ref I) >>= _) _ _ s
    refine wpAny_bind (W.done s _ _ hst fun s1 m => ?_)
    have kp1 := old m kp
    exact wpAny_pure (fin s1 L es ep t (m.mono wide) (T.move (fun o e => m.heap S o nS e) fun q hq => (mem q (inks g q hq)).keep kp1) g kp1)
  | succ k ih =>
    intro i s hk hi hst kp ⟨L, es, ep, t, T, g⟩ fin
    refine codeAny_builtin F.entry_set_update_loop ?_
    rw [Around.under_plainId F.plain_set_update_loop _]
    show wpAny _ A.in1 (pyNext (.ref I) >>= _) _ _ s
    refine wpAny_bind (W.item i s _ _ (by omega) hst fun v s1 pv st1 m => ?_)
    obtain ⟨q, eq, rfl⟩ := val i v pv
    have kp1 := old m kp
    have T1 : Tb P w s1.heap S L es ep t := T.move (fun o e => m.heap S o nS e) fun z hz => (mem z (inks g z hz)).keep kp1
    have gq : KTup P w s1.heap q.2 q.1 := (mem q (List.mem_of_getElem? eq)).keep kp1
    show wpAny _ A.in1 (holding [Value.ref q.1] (setAdd S (.ref q.1)) >>= _) _ _ s1
    refine wpAny_bind (wpAny_holding ?_)
    unfold setAdd
    refine wpAny_holding (wpAny_bind (wpAny_pyHash_tuple hu gq ?_))
    refine add_key (s := { s1 with toks := s1.toks + (q.2.length + 1) }) T1 gq hu (by have := g.2.2; omega) fun b h2 L2 es2 ep2 t2 sb T2 hc => ?_
    have kp2 : ∀ b o, h0.get? b = some o → h2.get? b = some o := fun b o e => (sb.2 b fun z => by rw [z, s0] at e; cases e).trans (kp1 b o e)
    refine wpAny_pure ⟨plainId_quiet F.plain_set_update_loop _, ih (i + 1) _ (by omega) (by omega) (W.frame _ s1 _ _ st1 (Nat.le_add_right _ _) fun b hb o e => ?_) kp2 ⟨L2, es2, ep2, t2, T2, g.next eq hc⟩ fun s3 L3 es3 ep3 t3 m3 T3 g3 kp3 => ?_⟩
    · rw [sb.2 b fun z : b = S => hS (z ▸ hb)]; exact e
    · refine fin s3 L3 es3 ep3 t3 (Moved.trans W.gtrans ((m.mono wide).then_heap (Nat.le_add_right _ _) fun b o hb e => ?_) m3) T3 g3 kp3
      rw [sb.2 b fun z : b = S => hb (z ▸ List.mem_cons_self)]; exact e

/-- set(xs) of a list, by what its loop comes to -/
theorem call_set_by {l : Addr} {its : Array Value} {Post : Heap → Prop} {Q : Value → Shared → Prop} (hl : s.heap.IsList l its)
    (loop : ∀ (R : Result → Shared → Prop), (∀ (h' : Heap) (tk : Nat), Post h' → (∀ b o, s.heap.get? b = some o → h'.get? b = some o) → R (.ok (.ret .none)) { s with heap := h', toks := tk }) →
      codeAny (model P w) A.in1.in1 (.builtin "set.update.loop" ⟨[.ref s.heap.objs.size, .ref (s.heap.objs.size + 1)], []⟩) R { s with heap := (s.heap.push (set0 w)).push { cls := .type "list_iterator", data := .fields #[.ref l, .int 0 0] } })
    (q : ∀ (h' : Heap) (tk : Nat), Post h' → (∀ b o, s.heap.get? b = some o → h'.get? b = some o) → Q (.ref s.heap.objs.size) { s with heap := h', toks := tk }) : wpAny (model P w) A (call (.type "set") [.ref l]) Q E s := by
  obtain ⟨c, tl, hmro⟩ := F.called_set.mro
  have f1 := F.called_set.made
  have f2 := F.called_set.sub
  have f3 := F.called_set.notType
  have f4 := F.called_set.canCreate
  have f5 := F.typeCall_set_1 (.ref l)
  refine wpAny_call (codeAny_of_tree ?_)
  show wpAny _ _ (callAny (.type "set") _) _ _ _
  refine wpAny_pure ⟨Code.quiet_builtin _ (by decide +kernel), codeAny_builtin F.entry_type_call ?_⟩
  rw [Around.under_plain (weight_type_call_type "set" [.ref l] []) rfl]
  repeat (any_goals (first | assumption | wp_step))
  refine codeAny_mono (code_set_led1 (.ref l) (E := E) (Q₁ := fun v s1 => v = .ref s.heap.objs.size ∧ s1 = { s with heap := s.heap.push (set0 w) }) ⟨rfl, rfl⟩) fun r s1 hr => ?_
  cases r with
  | error e => exact hr
  | ok fl =>
    cases fl with
    | ret v =>
      obtain ⟨rfl, rfl⟩ := hr
      have gS : (s.heap.push (set0 w)).get? s.heap.objs.size = some (set0 w) := Heap.get?_push_size _ rfl
      have tS : Shared.TypeIs { s with heap := s.heap.push (set0 w) } (.ref s.heap.objs.size) "set" := ⟨_, gS, rfl⟩
      have f6 := F.called_set.init.lookup
      have f7 := F.called_set.init.bind (.ref s.heap.objs.size)
      repeat (any_goals (first | assumption | wp_step))
      refine codeAny_mono (codeAny_call_builtin (R := wants (fun r s2 => r = .none ∧ ∃ h' tk, s2 = { s with heap := h', toks := tk } ∧ Post h' ∧ ∀ b o, s.heap.get? b = some o → h'.get? b = some o) E) F.called_set.init.plain F.entry_set_init (check_set_init_1 tS ?_)) fun r2 s2 hr2 => ?_
      · obtain ⟨⟨oc, od, odat, osl⟩, hol, hcl, nl, hdl⟩ := hl
        simp only at hcl hdl
        subst hcl
        subst hdl
        have gl : (s.heap.push (set0 w)).get? l = some { cls := .type "list", dict := od, data := .seq its nl, slots := osl } := Heap.get?_push_of_some _ hol
        have f8 := F.sub_list_set
        have f9 := F.sub_list_frozenset
        have ne : (Value.type "list" == Value.type "dict") = false := by decide
        have il : (s.heap.push (set0 w)).IsList l its := ⟨_, gl, rfl, nl, rfl⟩
        unfold Builtin.«set.__init__» noKeywords Builtin.Frozenset.updateFrom
        generalize hPI : pyIter = PI
        wp_walk
        subst hPI
        refine wpAny_pyIter_list il (wpAny_bind (wpAny_runValue ?_))
        have z1 : (s.heap.push (set0 w)).objs.size = s.heap.objs.size + 1 := Heap.size_push ..
        rw [z1]
        refine loop _ fun h' tk hp hk => ?_
        refine wpAny_pure ?_
        show wpAny _ _ (ret Value.none) _ _ _
        exact wpAny_pure ⟨rfl, h', tk, rfl, hp, hk⟩
      · cases r2 with
        | error e => exact hr2
        | ok fl2 =>
          cases fl2 with
          | ret r =>
            obtain ⟨rfl, h', tk, rfl, hp, hk⟩ := hr2
            repeat (any_goals (first | assumption | wp_step))
            exact q h' tk hp hk
          | _ => exact hr2.elim
    | _ => exact hr.elim
theorem none_from {h : Heap} {b : Addr} (hb : h.objs.size ≤ b) : h.get? b = none := by
  cases q : h.get? b with
  | none => rfl
  | some o => exact absurd (Heap.lt_size q) (Nat.not_lt.mpr hb)
/-- set(xs), xs a list of tuples of keys -/
theorem call_setK {l : Addr} {its : Array Value} (ks : List KRow) {Q : Value → Shared → Prop} (hh : A.handled = none) (hl : s.heap.IsList l its) (e : its.toList = ks.map fun q => Value.ref q.1) (mem : ∀ q ∈ ks, KTup P w s.heap q.2 q.1) (few : ks.length < 64) (hu : A.units + 3 < cLine)
    (q : ∀ (h' : Heap) (tk : Nat), (∃ L es ep t, Tb P w h' s.heap.objs.size L es ep t ∧ Has ks ks.length L) → (∀ b o, s.heap.get? b = some o → h'.get? b = some o) → Q (.ref s.heap.objs.size) { s with heap := h', toks := tk }) : wpAny (model P w) A (call (.type "set") [.ref l]) Q E s := by
  refine call_set_by hl (fun R hR => ?_) q
  have hn : its.size = ks.length := by rw [← Array.length_toList, e]; exact List.length_map ..
  have lS : l < s.heap.objs.size := by obtain ⟨o, ho, _⟩ := hl; exact Heap.lt_size ho
  have il : ((s.heap.push (set0 w)).push { cls := .type "list_iterator", data := .fields #[.ref l, .int 0 0] }).IsList l its := (hl.push _).push _
  have gS : ((s.heap.push (set0 w)).push { cls := .type "list_iterator", data := .fields #[.ref l, .int 0 0] }).get? s.heap.objs.size = some (set0 w) := Heap.get?_push_of_some _ (Heap.get?_push_size _ rfl)
  have gI : ((s.heap.push (set0 w)).push { cls := .type "list_iterator", data := .fields #[.ref l, .int 0 0] }).get? (s.heap.objs.size + 1) = some { cls := .type "list_iterator", data := .fields #[.ref l, .int 0 0] } := by
    have : ((s.heap.push (set0 w)).push { cls := .type "list_iterator", data := .fields #[.ref l, .int 0 0] }).get? (s.heap.push (set0 w)).objs.size = some { cls := .type "list_iterator", data := .fields #[.ref l, .int 0 0] } := Heap.get?_push_size _ rfl
    rw [Heap.size_push] at this
    exact this
  refine upd_loop ((Walks.list (A := A.in1.in1.in1) (by simp [hh]) (s.heap.objs.size + 1) l (Nat.ne_of_lt (Nat.lt_succ_of_lt lS)) its).toS) (S := s.heap.objs.size) (fun z => by
    rcases List.mem_cons.mp z with z | z
    · exact Nat.ne_of_lt (Nat.lt_succ_self _) z
    · exact Nat.ne_of_gt lS (List.mem_singleton.mp z)) ks hn few (fun i v hv => ?_) s.heap mem (none_from (Nat.le_refl _)) (fun b hb => none_from (by rw [List.mem_singleton.mp hb]; exact Nat.le_succ _)) hu (its.size - 0) 0 _ rfl (Nat.zero_le _)
    ⟨⟨_, gI, rfl, rfl⟩, il⟩ (fun b o e => Heap.get?_push_of_some _ (Heap.get?_push_of_some _ e)) ⟨[], #[], 0, _, tb_new gS, (fun _ z => by cases z), (fun _ z => by simp at z), Nat.le_refl _⟩ fun s1 L es ep t m T g kp => ?_
  · have : its.toList[i]? = some v := by rw [Array.getElem?_toList]; exact hv
    rw [e, List.getElem?_map] at this
    obtain ⟨x, h1, h2⟩ := Option.map_eq_some_iff.mp this
    exact ⟨x, h1, h2.symm⟩
  · obtain ⟨h', g1, d1, tk, o1⟩ := s1
    have e1 : g1 = s.gens := m.gens
    have e2 : d1 = s.drawn := m.drawn
    have e3 : o1 = s.os := m.os
    subst e1 e2 e3
    rw [hn] at g
    exact hR h' tk ⟨L, es, ep, t, T, g⟩ kp
end
end MP

set_option Elab.async false
set_option linter.all false
set_option autoImplicit false
set_option maxRecDepth 100000
set_option maxHeartbeats 2000000
/-! sorted(set(xs)), len(set(xs)), xs a list of tuples of keys -/
namespace MP
open PySem PySem.Spec PyProof.Rows L2 PySem.W
def tupP (k : List Key) : PyData := .tuple (k.map keyP)
/-- the keys that a list's items are -/
def keyTs : List D → Option (List (List Key))
  | [] => some []
  | d :: r => (keyT d).bind fun k => (keyTs r).map (k :: ·)
/-- each once -/
def unq : List (List Key) → List (List Key)
  | [] => []
  | k :: r => if (r.any fun m => decide (m = k)) = true then unq r else k :: unq r
theorem any_key {k : List Key} {r : List (List Key)} : (r.any fun m => decide (m = k)) = true ↔ k ∈ r := by
  rw [List.any_eq_true]
  exact ⟨fun ⟨m, h1, h2⟩ => of_decide_eq_true h2 ▸ h1, fun h => ⟨k, h, decide_eq_true rfl⟩⟩
theorem mem_unq {k : List Key} : ∀ {ks : List (List Key)}, k ∈ unq ks ↔ k ∈ ks
  | [] => Iff.rfl
  | m :: r => by
    unfold unq
    split
    · rename_i h
      rw [mem_unq, List.mem_cons]
      exact ⟨.inr, fun x => x.elim (fun e => e ▸ any_key.mp h) id⟩
    · rw [List.mem_cons, List.mem_cons, mem_unq]
theorem nodup_unq : ∀ (ks : List (List Key)), (unq ks).Nodup
  | [] => List.nodup_nil
  | m :: r => by
    unfold unq
    split
    · exact nodup_unq r
    · rename_i h
      exact List.nodup_cons.mpr ⟨fun z => h (any_key.mpr (mem_unq.mp z)), nodup_unq r⟩
def lsetD (a : D) (st : Store) : R D :=
  match items a st with
  | some ds => match keyTs ds with
    | some ks => if ks.length < 64 then .ok (.p (.int (unq ks).length)) st else .bad
    | none => .bad
  | none => .bad
theorem toksK : ∀ {k m : List Key}, keyToksAll (k.map keyP) = keyToksAll (m.map keyP) → k = m
  | [], [], _ => rfl
  | [], b :: m, h => by simp [keyToksAll] at h
  | a :: k, [], h => by simp [keyToksAll] at h
  | .inl i :: k, .inl j :: m, h => by
    simp only [List.map_cons, keyP, keyToksAll, keyToks, List.cons_append, List.nil_append, List.cons.injEq, Sum.inl.injEq, true_and] at h
    rw [h.1, toksK h.2]
  | .inr x :: k, .inr y :: m, h => by
    simp only [List.map_cons, keyP, keyToksAll, keyToks, List.cons_append, List.nil_append, List.cons.injEq, Sum.inr.injEq, true_and] at h
    rw [str_of_cps h.1, toksK h.2]
  | .inl i :: k, .inr y :: m, h => by simp [keyP, keyToksAll, keyToks] at h
  | .inr x :: k, .inl j :: m, h => by simp [keyP, keyToksAll, keyToks] at h
theorem sortP_perm {ks ms : List (List Key)} (h : ks.Perm ms) : sortP (ks.map tupP) = sortP (ms.map tupP) := by
  have tot := sortLe_total (listOrd itemOrd) false (fun x : PyData => keyToks x)
  refine List.Perm.eq_of_pairwise (le := fun a b => dataLe false (fun x : PyData => x) a b = true) (fun a b ha hb h1 h2 => ?_) (sort_pairwise tot _) (sort_pairwise tot _) (((List.mergeSort_perm _ _).trans (h.map tupP)).trans (List.mergeSort_perm _ _).symm)
  obtain ⟨k, _, rfl⟩ := List.mem_map.mp ((List.mergeSort_perm _ _).mem_iff.mp ha)
  obtain ⟨m, _, rfl⟩ := List.mem_map.mp ((List.mergeSort_perm _ _).mem_iff.mp hb)
  have q1 : (listOrd itemOrd).blt (keyToks (tupP m)) (keyToks (tupP k)) = false := by simpa [dataLe, sortLe] using h1
  have q2 : (listOrd itemOrd).blt (keyToks (tupP k)) (keyToks (tupP m)) = false := by simpa [dataLe, sortLe] using h2
  have := (listOrd itemOrd).total _ _ q2 q1
  rw [show k = m from toksK this]
theorem perm_lift {α β : Type} {f : α → β} : ∀ {l : List α} {m : List β}, m.Perm (l.map f) → ∃ l' : List α, l'.Perm l ∧ l'.map f = m
  | [], m, h => ⟨[], .nil, by rw [List.perm_nil.mp h]; rfl⟩
  | x :: l, m, h => by
    obtain ⟨m1, m2, e⟩ := List.append_of_mem (h.mem_iff.mpr (List.mem_cons_self : f x ∈ f x :: l.map f))
    rw [e] at h
    have h2 : (m1 ++ m2).Perm (l.map f) := (List.perm_cons (f x)).mp (List.perm_middle.symm.trans h)
    obtain ⟨l', p1, p2⟩ := perm_lift h2
    obtain ⟨l1, l2, rfl, e1, e2⟩ := List.map_eq_append_iff.mp p2
    exact ⟨l1 ++ x :: l2, List.perm_middle.trans (p1.cons x), by rw [e, List.map_append, List.map_cons, e1, e2]⟩
theorem nodup_dups {ks : List (List Key)} {L : List KRow} (nd : (L.map Prod.snd).Nodup) (h1 : ∀ q ∈ L, q.2 ∈ ks) (h2 : ∀ k ∈ ks, k ∈ L.map Prod.snd) : (L.map Prod.snd).Perm (unq ks) := by
  refine (List.perm_ext_iff_of_nodup nd (nodup_unq ks)).mpr fun k => ?_
  rw [mem_unq]
  refine ⟨fun h => ?_, h2 k⟩
  obtain ⟨q, hq, rfl⟩ := List.mem_map.mp h
  exact h1 q hq
theorem keyTs_rows {K : PySem.W.Frag} {F : Hp} {φ : List Addr} : ∀ {vs : List V} {ds : List D} {ks : List (List Key)}, RDs K F φ vs ds → keyTs ds = some ks → ∃ L : List KRow, vs = L.map (fun q => V.ref q.1) ∧ L.map Prod.snd = ks ∧ ∀ q ∈ L, F q.1 = some (.tup (q.2.map kV))
  | _, [], _, h, e => by cases h; cases Option.some.inj e; exact ⟨[], rfl, rfl, fun q hq => nomatch hq⟩
  | _, d :: ds, _, h, e => by
    obtain ⟨k, e1, e2⟩ := Option.bind_eq_some_iff.mp (show (keyT d).bind _ = some _ from e)
    obtain ⟨ks, e3, rfl⟩ := Option.map_eq_some_iff.mp e2
    cases h with
    | cons a t =>
      obtain ⟨L, g1, g2, g3⟩ := keyTs_rows t e3
      obtain ⟨b, rfl, hb⟩ := keyT_ok a e1
      refine ⟨(b, k) :: L, by rw [g1]; rfl, by rw [← g2]; rfl, fun q hq => ?_⟩
      rcases List.mem_cons.mp hq with rfl | hq
      · exact hb
      · exact g3 q hq
section
variable {X : Cx} {a : Expr} {ta : TE} {p p2 q pos : Pos}
theorem refs_map : ∀ {L : List KRow} {us : List Value}, Vals (L.map fun q => V.ref q.1) us → us = L.map fun q => Value.ref q.1
  | [], _, .nil => rfl
  | _ :: _, _, .cons r t => by cases r; rw [refs_map t]; rfl
theorem vals_map : ∀ (L : List KRow), Vals (L.map fun q => V.ref q.1) (L.map fun q => Value.ref q.1)
  | [] => .nil
  | _ :: L => .cons rfl (vals_map L)
theorem inv_ktup {pins : List (Addr × Obj)} {σ : L2.St} {H : Hp} {s : Shared} {b : Addr} {k : List Key} (I : Inv X pins σ H s) (h : H b = some (.tup (k.map kV))) : KTup X.prog X.w s.heap k b := key_of I.hok h
/-- set(a) there, and what goes on behind it -/
theorem set_there {f : Value → Sem Value} {pins : List (Addr × Obj)} {σ : L2.St} {H : Hp} {s : Shared} {Q : Value → Shared → Prop} {E : Value → Shared → Prop} {l : Addr} {ks : List KRow} (hc : X.calm = true) (hu : X.A.units + 64 < cLine) (I : Inv X pins σ H s) (hl : SqL X.K H l (ks.map fun q => V.ref q.1)) (hk : ∀ q ∈ ks, H q.1 = some (.tup (q.2.map kV))) (few : ks.length < 64)
    (go : ∀ (h' : Heap) (tk : Nat) (L : List KRow) es ep t, Tb X.prog X.w h' s.heap.objs.size L es ep t → (L.map Prod.snd).Perm (unq (ks.map Prod.snd)) → (∀ q ∈ L, q ∈ ks) → (∀ b o, s.heap.get? b = some o → h'.get? b = some o) → Inv X pins σ H { s with heap := h', toks := tk } → Q (.ref s.heap.objs.size) { s with heap := h', toks := tk }) :
    wpAny (model X.prog X.w) X.A (call (.type "set") [.ref l]) Q E s := by
  obtain ⟨its, r, pl, hz⟩ := I.list hl
  refine call_setK (P := X.prog) (w := X.w) ks (I.ok.hd hc) pl.isList (by simpa using refs_map r) (fun q hq => inv_ktup I (hk q hq)) few (by omega) fun h' tk ⟨L, es, ep, t, T, g⟩ kp => ?_
  have sub : ∀ q ∈ L, q ∈ ks := fun q hq => List.mem_of_mem_take (g.1 q hq)
  refine go h' tk L es ep t T (nodup_dups T.nd (fun q hq => List.mem_map_of_mem (sub q hq)) fun k hk => ?_) sub kp (I.kept fun b o e => kp b o e)
  obtain ⟨q, hq, rfl⟩ := List.mem_map.mp hk
  exact g.2.1 q (by rw [List.take_length]; exact hq)
def tLset (ta : TE) (K : PySem.W.Frag) : TE := fun σ H Q => ta σ H fun x H1 => ∃ (l : Addr) (ks : List KRow), x = V.ref l ∧ SqL K H1 l (ks.map fun q => V.ref q.1) ∧ (∀ q ∈ ks, H1 q.1 = some (.tup (q.2.map kV))) ∧ ks.length < 64 ∧ Q (.int (unq (ks.map Prod.snd)).length) H1
theorem pe_lset (hc : X.calm = true) (hu : X.A.units + 64 < cLine) (g1 : Gl X "len") (m1 : X.mg "len" = none) (g2 : Gl X "set") (m2 : X.mg "set" = none) (ha : PE X a ta) (na : starEach [a] X.env = (false, eval a X.env) :: starEach [] X.env) :
    PE X (.Call (.Name "len" p) [.Call (.Name "set" p2) [a] [] q] [] pos) (tLset ta X.K) := by
  refine ⟨fun pins s σ H Q I h => ?_⟩
  refine Call_ (ld_blt I g1 m1 PySem.boot_len (PyProof.Rows.callWith_builtin1 (PyProof.Rows.args_cons ?_ rfl) rfl rfl))
  refine Call_ (ld_blt I g2 m2 PyProof.Rows.boot_set (PyProof.Rows.callWith_type1 (PyProof.Rows.args_cons (thn (ha.run pins s σ H _ I h) fun v s1 ⟨x, H1, I1, r1, q1⟩ => PyProof.Rows.args_nil ?_) na) na rfl))
  obtain ⟨l, ks, rfl, hl, hk, few, q1⟩ := q1
  cases r1
  refine set_there (f := fun v => pure v) hc hu I1 hl hk few fun h' tk L es ep t T pm sub kp I2 => PyProof.Rows.args_nil ?_
  obtain ⟨o, o1, o2, o3⟩ := T.at_
  refine call_len_set o1 o2 o3 T.fit (by rw [T.len]; have := T.few; omega) ⟨.int _, H1, I2.tok _, ⟨_, rfl⟩, ?_⟩
  have e : L.length = (unq (ks.map Prod.snd)).length := by rw [← pm.length_eq, List.length_map]
  rw [T.len, e]
  exact q1
end
end MP

set_option Elab.async false
set_option linter.all false
set_option autoImplicit false
set_option maxRecDepth 100000
set_option maxHeartbeats 4000000
/-! sets of texts: sorted(set(t)), t a tuple of texts -/
namespace MP
open PySem PySem.Spec PyProof.Rows L2 PySem.W
def eT (e : Int × Value) : Str := match e.2 with
  | .str k _ => k
  | _ => Str.empty
def GoodT (w : World) (e : Int × Value) : Prop := ∃ (k : Str) (tk : Tok), e.2 = Value.str k tk ∧ e.1 = hashStr w k
/-- the set of texts at a: its table rises and can be walked -/
def TxS (w : World) (h : Heap) (a : Addr) (l : List Str) : Prop :=
  ∃ o es ep t, h.get? a = some o ∧ o.ExactSet ∧ o.data = .set es ep t ∧ (∀ e ∈ es.toList, GoodT w e) ∧ (es.toList.map eT).Nodup ∧ (∀ k, k ∈ l ↔ k ∈ es.toList.map eT) ∧ t.fits es.size = true ∧ Ris t.place.toList ∧ (w.params.followText "set-order" = true ∨ t.led = true)
section
variable {P : Program} {w : World} {A : Around} {E : Value → Shared → Prop} {s : Shared} {a : Addr} {l : List Str}
theorem TxS.at {h h' : Heap} (R : TxS w h a l) (k : ∀ o, h.get? a = some o → h'.get? a = some o) : TxS w h' a l := by
  obtain ⟨o, es, ep, t, ho, r⟩ := R
  exact ⟨o, es, ep, t, k o ho, r⟩
theorem TxS.congr {h : Heap} {l' : List Str} (R : TxS w h a l) (e : ∀ k, k ∈ l' ↔ k ∈ l) : TxS w h a l' := by
  obtain ⟨o, es, ep, t, r1, r2, r3, r4, r5, r6, r⟩ := R
  exact ⟨o, es, ep, t, r1, r2, r3, r4, r5, fun k => (e k).trans (r6 k), r⟩
theorem goodT_elems {l : List (Int × Value)} (g : ∀ e ∈ l, GoodT w e) : ElemsOf (strKind P w) l := fun e he => by
  obtain ⟨k, tk, h1, h2⟩ := g e he
  exact ⟨⟨k, by rw [h1]; exact strKind_is P w k tk, h2⟩, by rw [h1] <;> rfl⟩
theorem goodT_is {e : Int × Value} (g : GoodT w e) (k : Str) : (strKind P w).is k e.2 = true ↔ eT e = k := by
  obtain ⟨k0, tk, h1, _⟩ := g
  unfold eT
  rw [h1]
  show Value.isStrOf k (.str k0 tk) = true ↔ k0 = k
  constructor
  · intro h
    have := PySem.Value.isStrOf_shape h
    obtain ⟨t, e⟩ := this
    cases e
    rfl
  · rintro rfl
    exact strKind_is P w k0 tk
theorem goodT_mem {l : List (Int × Value)} (g : ∀ e ∈ l, GoodT w e) (k : Str) : k ∈ l.map eT ↔ ∃ e ∈ l, (strKind P w).is k e.2 = true := by
  rw [List.mem_map]
  exact ⟨fun ⟨e, he, q⟩ => ⟨e, he, (goodT_is (g e he) k).2 q⟩, fun ⟨e, he, q⟩ => ⟨e, he, (goodT_is (g e he) k).1 q⟩⟩
theorem txs_tail {g : Bool → Sem Unit} (hg : ∀ (b : Bool) (s1 : Shared) (Q' : Unit → Shared → Prop), Q' () s1 → wpAny (model P w) A (g b) Q' E s1) {o : Obj} {es : Array (Int × Value)} {ep : Nat} {t : SetTable} (ho : s.heap.get? a = some o) (hex : o.ExactSet) (hd : o.data = .set es ep t)
    {es1 : Array (Int × Value)} {t2 : SetTable} {l' : List Str} (g1 : ∀ e ∈ es1.toList, GoodT w e) (nd1 : (es1.toList.map eT).Nodup) (m1 : ∀ k, k ∈ l' ↔ k ∈ es1.toList.map eT) (hb1 : es1.size < scanBound) (hf2 : t2.fits es1.size = true) (hr : Ris t2.place.toList) (hl : w.params.followText "set-order" = true ∨ t2.led = true) {wasDummy : Bool} {R : Option Bool → Shared → Prop}
    (hR : ∀ h', Heap.SameBut a s.heap h' → TxS w h' a l' → R (some true) { s with heap := h' }) :
    wpAny (model P w) A (do
        storeSet a es1 t2
        if (!wasDummy && t2.tooFull) = true then do
            g (relayAll t2 es1 (SetTable.grown es1.size)).2.2
            storeSet a (relayAll t2 es1 (SetTable.grown es1.size)).1 (relayAll t2 es1 (SetTable.grown es1.size)).2.1
            pure (some true)
          else pure (some true)) R E s := by
  have o1 := store_at (es' := es1) (t' := t2) ho hd
  have b1 := Heap.SameBut.update s.heap a (Obj.putSet es1 t2)
  refine wpAny_bind (wpAny_storeSet_of ho hd ?_ (fits_of_scanBound hb1))
  split
  · have p := relayAll_perm t2 es1 (SetTable.grown es1.size)
    have f := relayAll_fits t2 es1 (SetTable.grown es1.size)
    have r := relayAll_ris t2 es1 (SetTable.grown es1.size)
    have q := relayAll_led t2 es1 (SetTable.grown es1.size)
    generalize relayAll t2 es1 (SetTable.grown es1.size) = Z at p f r q ⊢
    obtain ⟨es2, t3, gave⟩ := Z
    dsimp only at p f r q ⊢
    have z : es2.size = es1.size := by rw [← Array.length_toList, p.length_eq, Array.length_toList]
    refine wpAny_bind (hg _ _ _ (wpAny_bind (wpAny_storeSet_of o1 rfl ?_ (fits_of_scanBound (by rw [z]; exact hb1)))))
    refine wpAny_pure (hR _ (b1.trans (Heap.SameBut.update _ a _)) ⟨_, es2, _, t3, store_at (es' := es2) (t' := t3) o1 rfl, hex, rfl, fun e he => g1 e (p.mem_iff.mp he), (p.map eT).nodup_iff.mpr nd1, fun k => (m1 k).trans (p.map eT).mem_iff.symm, f, r, hl.imp id fun y => by rw [q]; exact y⟩)
  · exact wpAny_pure (hR _ b1 ⟨_, es1, _, t2, o1, hex, rfl, g1, nd1, m1, hf2, hr, hl⟩)
theorem txs_add {k : Str} {tk : Tok} {Q : Bool → Shared → Prop} (R : TxS w s.heap a l) (room : l.length + 1 < scanBound) (hQ : ∀ h' b, Heap.SameBut a s.heap h' → TxS w h' a (k :: l) → Q b { s with heap := h' }) : wpAny (model P w) A (setAddHashed a (.str k tk) (hashStr w k)) Q E s := by
  obtain ⟨o, es, ep, t, ho, hex, hd, g, nd, hm, hf, hr, hl⟩ := R
  have hb : es.size < scanBound := by
    have := List.Nodup.length_le_of_subset nd fun k hk => (hm k).mpr hk
    rw [List.length_map, Array.length_toList] at this
    omega
  have hb1' : es.size + 1 < scanBound := by
    have := List.Nodup.length_le_of_subset nd fun k hk => (hm k).mpr hk
    rw [List.length_map, Array.length_toList] at this
    omega
  have hkey : (strKind P w).is k (.str k tk) = true := strKind_is P w k tk
  have hel : ElemsOf (strKind P w) es.toList := goodT_elems g
  unfold setAddHashed setAddHashedIn
  refine wpAny_holding (wpAny_bind (wpAny_setState_of ho hd hf ?_))
  dsimp only
  rw [byScan_of rfl hb hel]
  simp only [↓reduceIte]
  unfold setAddByScan
  refine wpAny_bind (wpAny_bind (wpAny_rule (wpAny_bind (wpAny_setScan_of hkey ho hd hf hel ?_))))
  cases hfi : List.findIdx? (fun e => (strKind P w).is k e.2) es.toList with
  | some j =>
    dsimp only
    obtain ⟨hj, pj, _⟩ := List.findIdx?_eq_some_iff_getElem.mp hfi
    have kl : k ∈ l := (hm k).2 ((goodT_mem (P := P) (w := w) g k).2 ⟨es.toList[j], List.getElem_mem hj, pj⟩)
    refine wpAny_pure (wpAny_pure (hQ s.heap _ (Heap.SameBut.refl a s.heap) ⟨o, es, ep, t, ho, hex, hd, g, nd, fun i => ?_, hf, hr, hl⟩))
    rw [List.mem_cons, ← hm i]
    exact ⟨fun z => z.elim (fun e => e ▸ kl) id, .inr⟩
  | none =>
    dsimp only
    have kn : k ∉ es.toList.map eT := fun z => by
      obtain ⟨e, he, q⟩ := (goodT_mem (P := P) (w := w) g k).1 z
      have c := List.findIdx?_eq_none_iff.mp hfi e he
      rw [q] at c
      cases c
    have hgw : ∀ (b : Bool) {s1 : Shared} {Q' : Unit → Shared → Prop}, Q' () s1 → wpAny (model P w) A (match b with | true => rule "set.scan.the-table-gave-way" | false => pure ()) Q' E s1 := fun b s1 Q' q => by cases b <;> first | exact wpAny_pure q | exact wpAny_rule q
    have pm := layNew_perm t es (hashStr w k) (.str k tk)
    have f1 := layNew_fits t es (hashStr w k) (.str k tk)
    have r1 := layNew_ris t es (hashStr w k) (.str k tk) hr
    have l1 := layNew_led t es (hashStr w k) (.str k tk)
    have keyE : (strKind P w).hash k = hashStr w k := rfl
    try rw [keyE]
    generalize layNew t es (hashStr w k) (.str k tk) = Z at pm f1 r1 l1 ⊢
    obtain ⟨es1, t1, wasDummy, gave⟩ := Z
    dsimp only at pm f1 r1 l1 ⊢
    rw [Array.toList_push] at pm
    have pc : es1.toList.Perm ((hashStr w k, Value.str k tk) :: es.toList) := pm.trans (List.perm_append_singleton _ _)
    have pk : (es1.toList.map eT).Perm (k :: es.toList.map eT) := pc.map eT
    have g1 : ∀ e ∈ es1.toList, GoodT w e := fun e he => by
      rcases List.mem_cons.mp (pc.mem_iff.mp he) with z | z
      · rw [z]; exact ⟨k, tk, rfl, rfl⟩
      · exact g e z
    have nd1 : (es1.toList.map eT).Nodup := pk.nodup_iff.mpr (List.nodup_cons.mpr ⟨kn, nd⟩)
    have m1 : ∀ i, i ∈ k :: l ↔ i ∈ es1.toList.map eT := fun i => by
      rw [pk.mem_iff, List.mem_cons, List.mem_cons, hm i]
    have hsz : es1.size = es.size + 1 := by rw [← Array.length_toList, pc.length_eq, List.length_cons, Array.length_toList]
    have hb1 : es1.size < scanBound := by rw [hsz]; exact hb1'
    have led1 : w.params.followText "set-order" = true ∨ t1.led = true := hl.imp id fun z => by rw [l1]; exact z
    refine wpAny_bind (hgw _ ?_)
    split
    · refine wpAny_bind ?_
      rw [hashByValue_scannable 8 (x := Value.str k tk) rfl]
      refine wpAny_pure (txs_tail ?_ ho hex hd g1 nd1 m1 hb1 ?_ ?_ ?_ ?_)
      · intro b s1 Q' q; cases b <;> first | exact wpAny_pure q | exact wpAny_rule q
      · first | (split <;> first | exact f1 | exact SetTable.fits_plain_off f1) | exact f1
      · first | (split <;> exact r1) | exact r1
      · first | (split <;> exact led1) | exact led1
      · intro h' sb r; dsimp only; exact wpAny_pure (hQ h' _ sb r)
    · refine wpAny_bind (wpAny_pure ?_)
      simp only [↓reduceIte]
      refine txs_tail ?_ ho hex hd g1 nd1 m1 hb1 f1 r1 led1 ?_
      · intro b s1 Q' q; cases b <;> first | exact wpAny_pure q | exact wpAny_rule q
      · intro h' sb r; dsimp only; exact wpAny_pure (hQ h' _ sb r)
theorem txs_new {h : Heap} (e : h.get? a = some (set0 w)) : TxS w h a [] := by
  refine ⟨_, #[], 0, _, e, ⟨rfl, rfl, rfl⟩, rfl, (fun x hx => by cases hx), List.nodup_nil, (fun k => by simp), rfl, List.Pairwise.nil, ?_⟩
  by_cases h : w.params.followText "set-order" = true
  · exact .inl h
  · exact .inr (by show (!w.params.followText "set-order") = true; simpa using h)
/-- the loop behind set(..) -/
theorem txs_loop {I S : Addr} {fp wr : List Addr} {G : Array GenState → Array GenState → Prop} {n : Nat} {Pv : Nat → Value → Prop} {St : Nat → Shared → Prop} {R : Result → Shared → Prop} (W : WalksS P w A.in1 I fp wr G n Pv St) (hS : S ∉ fp) (zs : List Str) (hn : n = zs.length) (few : zs.length + 1 < scanBound)
    (val : ∀ i v, Pv i v → ∃ z t, zs[i]? = some z ∧ v = .str z t) (h0 : Heap) (s0 : h0.get? S = none) (w0 : ∀ b ∈ wr, h0.get? b = none) :
    ∀ (k i : Nat) (s : Shared), n - i = k → i ≤ n → St i s → (∀ b o, h0.get? b = some o → s.heap.get? b = some o) → TxS w s.heap S (zs.take i) →
      (∀ s', Moved (S :: wr) G s s' → TxS w s'.heap S zs → (∀ b o, h0.get? b = some o → s'.heap.get? b = some o) → R (.ok (.ret .none)) s') → codeAny (model P w) A (.builtin "set.update.loop" ⟨[.ref S, .ref I], []⟩) R s := by
  have nS : S ∉ wr := fun z => hS (W.sub _ z)
  have wide : ∀ b ∈ wr, b ∈ S :: wr := fun b hb => List.mem_cons_of_mem _ hb
  have old : ∀ {s s' : Shared}, Moved wr G s s' → (∀ b o, h0.get? b = some o → s.heap.get? b = some o) → ∀ b o, h0.get? b = some o → s'.heap.get? b = some o := fun m kp b o e => m.heap b o (fun z => by rw [w0 b z] at e; cases e) (kp b o e)
  intro k
  induction k with
  | zero =>
    intro i s hk hi hst kp T fin
    cases (show i = n by omega)
    refine codeAny_builtin F.entry_set_update_loop ?_
    rw [Around.under_plainId F.plain_set_update_loop _]
    show wpAny _ A.in1 (pyNext (.ref I) >>= _) _ _ s
    refine wpAny_bind (W.done s _ _ hst fun s1 m => wpAny_pure (fin s1 (m.mono wide) ?_ (old m kp)))
    rw [hn, List.take_length] at T
    exact T.at fun o e => m.heap S o nS e
  | succ k ih =>
    intro i s hk hi hst kp T fin
    refine codeAny_builtin F.entry_set_update_loop ?_
    rw [Around.under_plainId F.plain_set_update_loop _]
    show wpAny _ A.in1 (pyNext (.ref I) >>= _) _ _ s
    refine wpAny_bind (W.item i s _ _ (by omega) hst fun v s1 pv st1 m => ?_)
    obtain ⟨z, tk, ez, rfl⟩ := val i v pv
    have kp1 := old m kp
    have T1 : TxS w s1.heap S (zs.take i) := T.at fun o e => m.heap S o nS e
    show wpAny _ A.in1 (holding [Value.str z tk] (setAdd S (.str z tk)) >>= _) _ _ s1
    refine wpAny_bind (wpAny_holding ?_)
    unfold setAdd
    refine wpAny_holding (wpAny_bind ((strKind P w).pyHash (k := z) (strKind_is P w z tk) ?_))
    refine txs_add (s := { s1 with toks := s1.toks + 1 }) T1 (by rw [List.length_take]; omega) fun h2 b sb T2 => ?_
    have kp2 : ∀ b o, h0.get? b = some o → h2.get? b = some o := fun b o e => (sb.2 b fun z => by rw [z, s0] at e; cases e).trans (kp1 b o e)
    refine wpAny_pure ⟨plainId_quiet F.plain_set_update_loop _, ih (i + 1) _ (by omega) (by omega) (W.frame _ s1 _ _ st1 (Nat.le_add_right _ _) fun b hb o e => ?_) kp2 (T2.congr fun j => ?_) fun s3 m3 T3 kp3 => ?_⟩
    · rw [sb.2 b fun z : b = S => hS (z ▸ hb)]; exact e
    · rw [List.take_succ, ez, List.mem_append, List.mem_cons]
      simp [or_comm]
    · refine fin s3 (Moved.trans W.gtrans ((m.mono wide).then_heap (Nat.le_add_right _ _) fun b o hb e => ?_) m3) T3 kp3
      rw [sb.2 b fun z : b = S => hb (z ▸ List.mem_cons_self)]; exact e
/-- set(t) of a tuple, by what its loop comes to -/
theorem call_set_byT {l : Addr} {its : Array Value} {Post : Heap → Prop} {Q : Value → Shared → Prop} (hl : s.heap.IsTuple l its)
    (loop : ∀ (R : Result → Shared → Prop), (∀ (h' : Heap) (tk : Nat), Post h' → (∀ b o, s.heap.get? b = some o → h'.get? b = some o) → R (.ok (.ret .none)) { s with heap := h', toks := tk }) →
      codeAny (model P w) A.in1.in1 (.builtin "set.update.loop" ⟨[.ref s.heap.objs.size, .ref (s.heap.objs.size + 1)], []⟩) R { s with heap := (s.heap.push (set0 w)).push { cls := .type "tuple_iterator", data := .fields #[.ref l, .int 0 0] } })
    (q : ∀ (h' : Heap) (tk : Nat), Post h' → (∀ b o, s.heap.get? b = some o → h'.get? b = some o) → Q (.ref s.heap.objs.size) { s with heap := h', toks := tk }) : wpAny (model P w) A (call (.type "set") [.ref l]) Q E s := by
  obtain ⟨c, tl, hmro⟩ := F.called_set.mro
  have f1 := F.called_set.made
  have f2 := F.called_set.sub
  have f3 := F.called_set.notType
  have f4 := F.called_set.canCreate
  have f5 := F.typeCall_set_1 (.ref l)
  refine wpAny_call (codeAny_of_tree ?_)
  show wpAny _ _ (callAny (.type "set") _) _ _ _
  refine wpAny_pure ⟨Code.quiet_builtin _ (by decide +kernel), codeAny_builtin F.entry_type_call ?_⟩
  rw [Around.under_plain (weight_type_call_type "set" [.ref l] []) rfl]
  repeat (any_goals (first | assumption | wp_step))
  refine codeAny_mono (code_set_led1 (.ref l) (E := E) (Q₁ := fun v s1 => v = .ref s.heap.objs.size ∧ s1 = { s with heap := s.heap.push (set0 w) }) ⟨rfl, rfl⟩) fun r s1 hr => ?_
  cases r with
  | error e => exact hr
  | ok fl =>
    cases fl with
    | ret v =>
      obtain ⟨rfl, rfl⟩ := hr
      have gS : (s.heap.push (set0 w)).get? s.heap.objs.size = some (set0 w) := Heap.get?_push_size _ rfl
      have tS : Shared.TypeIs { s with heap := s.heap.push (set0 w) } (.ref s.heap.objs.size) "set" := ⟨_, gS, rfl⟩
      have f6 := F.called_set.init.lookup
      have f7 := F.called_set.init.bind (.ref s.heap.objs.size)
      repeat (any_goals (first | assumption | wp_step))
      refine codeAny_mono (codeAny_call_builtin (R := wants (fun r s2 => r = .none ∧ ∃ h' tk, s2 = { s with heap := h', toks := tk } ∧ Post h' ∧ ∀ b o, s.heap.get? b = some o → h'.get? b = some o) E) F.called_set.init.plain F.entry_set_init (check_set_init_1 tS ?_)) fun r2 s2 hr2 => ?_
      · obtain ⟨⟨oc, od, odat, osl⟩, hol, hcl, nl, hdl⟩ := hl
        simp only at hcl hdl
        subst hcl
        subst hdl
        have gl : (s.heap.push (set0 w)).get? l = some { cls := .type "tuple", dict := od, data := .seq its nl, slots := osl } := Heap.get?_push_of_some _ hol
        have f8 := F.sub_tuple_set
        have f9 := F.sub_tuple_frozenset
        have ne : (Value.type "tuple" == Value.type "dict") = false := by decide
        have il : (s.heap.push (set0 w)).IsTuple l its := ⟨_, gl, rfl, nl, rfl⟩
        unfold Builtin.«set.__init__» noKeywords Builtin.Frozenset.updateFrom
        generalize hPI : pyIter = PI
        wp_walk
        subst hPI
        refine wpAny_pyIter_tuple il (wpAny_bind (wpAny_runValue ?_))
        have z1 : (s.heap.push (set0 w)).objs.size = s.heap.objs.size + 1 := Heap.size_push ..
        rw [z1]
        refine loop _ fun h' tk hp hk => ?_
        refine wpAny_pure ?_
        show wpAny _ _ (ret Value.none) _ _ _
        exact wpAny_pure ⟨rfl, h', tk, rfl, hp, hk⟩
      · cases r2 with
        | error e => exact hr2
        | ok fl2 =>
          cases fl2 with
          | ret r =>
            obtain ⟨rfl, h', tk, rfl, hp, hk⟩ := hr2
            repeat (any_goals (first | assumption | wp_step))
            exact q h' tk hp hk
          | _ => exact hr2.elim
    | _ => exact hr.elim
/-- set(t), t a tuple of texts -/
theorem call_setT {l : Addr} {its : Array Value} (zs : List Str) {Q : Value → Shared → Prop} (hh : A.handled = none) (hl : s.heap.IsTuple l its) (e : Vals (zs.map V.str) its.toList) (few : zs.length + 1 < scanBound)
    (q : ∀ (h' : Heap) (tk : Nat), TxS w h' s.heap.objs.size zs → (∀ b o, s.heap.get? b = some o → h'.get? b = some o) → Q (.ref s.heap.objs.size) { s with heap := h', toks := tk }) : wpAny (model P w) A (call (.type "set") [.ref l]) Q E s := by
  refine call_set_byT (Post := fun h' => TxS w h' s.heap.objs.size zs) hl (fun R hR => ?_) q
  have hn : its.size = zs.length := by rw [← Array.length_toList, ← Vals.length e, List.length_map]
  have lS : l < s.heap.objs.size := by obtain ⟨o, ho, _⟩ := hl; exact Heap.lt_size ho
  have il : ((s.heap.push (set0 w)).push { cls := .type "tuple_iterator", data := .fields #[.ref l, .int 0 0] }).IsTuple l its := (hl.push _).push _
  have gS : ((s.heap.push (set0 w)).push { cls := .type "tuple_iterator", data := .fields #[.ref l, .int 0 0] }).get? s.heap.objs.size = some (set0 w) := Heap.get?_push_of_some _ (Heap.get?_push_size _ rfl)
  have gI : ((s.heap.push (set0 w)).push { cls := .type "tuple_iterator", data := .fields #[.ref l, .int 0 0] }).get? (s.heap.objs.size + 1) = some { cls := .type "tuple_iterator", data := .fields #[.ref l, .int 0 0] } := by
    have : ((s.heap.push (set0 w)).push { cls := .type "tuple_iterator", data := .fields #[.ref l, .int 0 0] }).get? (s.heap.push (set0 w)).objs.size = some { cls := .type "tuple_iterator", data := .fields #[.ref l, .int 0 0] } := Heap.get?_push_size _ rfl
    rw [Heap.size_push] at this
    exact this
  refine txs_loop ((Walks.tuple (A := A.in1.in1.in1) (by simp [hh]) (s.heap.objs.size + 1) l (Nat.ne_of_lt (Nat.lt_succ_of_lt lS)) its).toS) (S := s.heap.objs.size) (fun z => by
    rcases List.mem_cons.mp z with z | z
    · exact Nat.ne_of_lt (Nat.lt_succ_self _) z
    · exact Nat.ne_of_gt lS (List.mem_singleton.mp z)) zs hn few (fun i v hv => ?_) s.heap (none_from (Nat.le_refl _)) (fun b hb => none_from (by rw [List.mem_singleton.mp hb]; exact Nat.le_succ _)) (its.size - 0) 0 _ rfl (Nat.zero_le _)
    ⟨⟨_, gI, rfl, rfl⟩, il⟩ (fun b o e => Heap.get?_push_of_some _ (Heap.get?_push_of_some _ e)) (txs_new gS) fun s1 m T kp => ?_
  · have hv : its.toList[i]? = some v := by rw [Array.getElem?_toList]; exact hv
    have hi : i < zs.length := by
      have h1 := (List.getElem?_eq_some_iff.mp hv).1
      rw [← Vals.length e, List.length_map] at h1
      exact h1
    obtain ⟨u, hu, rv⟩ := Vals.get e (i := i) (x := V.str zs[i]) (by rw [List.getElem?_map, List.getElem?_eq_getElem hi]; rfl)
    rw [hv] at hu
    cases hu
    obtain ⟨t, rfl⟩ := rv
    exact ⟨zs[i], t, List.getElem?_eq_getElem hi, rfl⟩
  · obtain ⟨h', g1, d1, tk, o1⟩ := s1
    have e1 : g1 = s.gens := m.gens
    have e2 : d1 = s.drawn := m.drawn
    have e3 : o1 = s.os := m.os
    subst e1 e2 e3
    exact hR h' tk T kp
/-! sorted(set(t)) -/
theorem sortOkS (ks : List Str) (h : ks.length < 64) : sortOk (ks.map .str) = true := by
  unfold sortOk
  simp only [Bool.and_eq_true, List.all_eq_true, Bool.or_eq_true, decide_eq_true_eq, List.length_map, List.mem_map]
  refine ⟨⟨⟨?_, .inr ?_⟩, ?_⟩, ?_⟩
  · rintro _ ⟨a, _, rfl⟩ _ ⟨b, _, rfl⟩; rfl
  · rintro _ ⟨a, _, rfl⟩; rfl
  · rintro _ ⟨a, _, rfl⟩; simp [PyData.depth]
  · unfold SZ; omega
def unqS : List Str → List Str
  | [] => []
  | z :: r => if z ∈ r then unqS r else z :: unqS r
theorem mem_unqS {z : Str} : ∀ {l : List Str}, z ∈ unqS l ↔ z ∈ l
  | [] => Iff.rfl
  | y :: r => by
    unfold unqS
    split
    · rename_i h
      rw [mem_unqS, List.mem_cons]
      exact ⟨.inr, fun q => q.elim (fun e => e ▸ h) id⟩
    · rw [List.mem_cons, List.mem_cons, mem_unqS]
theorem nodup_unqS : ∀ (l : List Str), (unqS l).Nodup
  | [] => List.nodup_nil
  | y :: r => by
    unfold unqS
    split
    · exact nodup_unqS r
    · rename_i h
      exact List.nodup_cons.mpr ⟨fun z => h (mem_unqS.mp z), nodup_unqS r⟩
theorem unqS_len (l : List Str) : (unqS l).length ≤ l.length := List.Nodup.length_le_of_subset (nodup_unqS l) fun z hz => mem_unqS.mp hz
theorem sortP_permS {ks ms : List Str} (h : ks.Perm ms) : sortP (ks.map .str) = sortP (ms.map .str) := by
  have tot := sortLe_total (listOrd itemOrd) false (fun x : PyData => keyToks x)
  refine List.Perm.eq_of_pairwise (le := fun a b => dataLe false (fun x : PyData => x) a b = true) (fun a b ha hb h1 h2 => ?_) (sort_pairwise tot _) (sort_pairwise tot _) (((List.mergeSort_perm _ _).trans (h.map PyData.str)).trans (List.mergeSort_perm _ _).symm)
  obtain ⟨k, _, rfl⟩ := List.mem_map.mp ((List.mergeSort_perm _ _).mem_iff.mp ha)
  obtain ⟨m, _, rfl⟩ := List.mem_map.mp ((List.mergeSort_perm _ _).mem_iff.mp hb)
  have q1 : (listOrd itemOrd).blt (keyToks (.str m)) (keyToks (.str k)) = false := by simpa [dataLe, sortLe] using h1
  have q2 : (listOrd itemOrd).blt (keyToks (.str k)) (keyToks (.str m)) = false := by simpa [dataLe, sortLe] using h2
  have e := (listOrd itemOrd).total _ _ q2 q1
  simp only [keyToks, List.cons.injEq, Sum.inr.injEq, and_true] at e
  rw [str_of_cps e]
end
def ssetD (c : Bool) (a : D) (st : Store) : R D :=
  match items a st with
  | some ds => match keyTs ds with
    | some ks => if ks.length < 64 ∧ mixB (ks.map tupP) = true then mkL c ((sortP ((unq ks).map tupP)).map .p) st else .bad
    | none => .bad
  | none => match a with
    | .p (.tuple xs) => match strsP xs with
      | some zs => if zs.length < 64 then mkL c ((sortP ((unqS zs).map .str)).map .p) st else .bad
      | none => .bad
    | _ => .bad
section
variable {X : Cx} {a : Expr} {ta : TE} {p p2 q pos : Pos}
def tSsetA (ta : TE) (K : PySem.W.Frag) : TE := fun σ H Q => ta σ H fun x H1 => (∃ (l : Addr) (ks : List KRow), x = V.ref l ∧ SqL K H1 l (ks.map fun q => V.ref q.1) ∧ (∀ q ∈ ks, H1 q.1 = some (.tup (q.2.map kV))) ∧ ks.length < 64 ∧ mixB ((ks.map Prod.snd).map tupP) = true ∧
  ∀ (M : List KRow) (b : Addr), (∀ q ∈ M, q ∈ ks) → (M.map fun q => tupP q.2) = sortP ((unq (ks.map Prod.snd)).map tupP) → H1 b = none → Q (.ref b) (upd H1 b (.lst (M.map fun q => V.ref q.1)))) ∨
  ∃ (l : Addr) (zs : List Str), x = V.ref l ∧ SqT K H1 l (zs.map V.str) ∧ zs.length < 64 ∧ ∀ (ms : List Str) (b : Addr), ms.map PyData.str = sortP ((unqS zs).map .str) → H1 b = none → Q (.ref b) (upd H1 b (.lst (ms.map V.str)))
theorem pe_ssetA (hc : X.calm = true) (hu : X.A.units + 200 < cLine) (g1 : Gl X "sorted") (m1 : X.mg "sorted" = none) (g2 : Gl X "set") (m2 : X.mg "set" = none) (ha : PE X a ta) (na : starEach [a] X.env = (false, eval a X.env) :: starEach [] X.env) :
    PE X (.Call (.Name "sorted" p) [.Call (.Name "set" p2) [a] [] q] [] pos) (tSsetA ta X.K) := by
  refine ⟨fun pins s σ H Q I h => ?_⟩
  refine Call_ (ld_blt I g1 m1 PyProof.Rows.boot_sorted (PyProof.Rows.callWith_builtin1 (PyProof.Rows.args_cons ?_ rfl) rfl rfl))
  refine Call_ (ld_blt I g2 m2 PyProof.Rows.boot_set (PyProof.Rows.callWith_type1 (PyProof.Rows.args_cons (thn (ha.run pins s σ H _ I h) fun v s1 ⟨x, H1, I1, r1, q1⟩ => PyProof.Rows.args_nil ?_) na) na rfl))
  rcases q1 with q1 | q1
  · obtain ⟨l, ks, rfl, hl, hk, few, hm, q1⟩ := q1
    cases r1
    refine set_there (f := fun v => pure v) hc (by omega) I1 hl hk few fun h' tk L es ep t T pm sub kp I2 => PyProof.Rows.args_nil ?_
    obtain ⟨o, o1, o2, o3⟩ := T.at_
    have hh := I1.ok.hd hc
    refine Calls.call_function_entry kind_sorted plain_sorted entry_sorted (args_sorted1 _) ?_
    show wpAny _ X.A.in1 (Builtin.sorted { pos := [.ref s1.heap.objs.size] }) _ _ _
    unfold Builtin.sorted
    refine wpAny_bind (wpAny_pure (wpAny_bind (collect_set (s := { s1 with heap := h', toks := tk }) hh ⟨o, o1, o2.1, o3⟩ T.fit (by rw [T.len]; have := T.few; unfold scanBound; omega) T.tab.ris T.led fun s2 vs kp2 hz eg eo pv => ?_)))
    have pv2 : vs.Perm (L.map fun q => Value.ref q.1) := by
      rw [T.ent, ents, List.map_map] at pv
      exact pv
    obtain ⟨L1, pL, eL⟩ := perm_lift pv2
    have hvs : vs.length ≤ sizeLine := by rw [← eL, List.length_map, pL.length_eq, sizeLine_eq]; have := T.few; omega
    refine wpAny_bind (wpAny_newList ?_ hvs)
    have gL : (s2.heap.push (seqObj "list" vs.toArray 0)).get? s2.heap.objs.size = some (seqObj "list" vs.toArray 0) := Heap.get?_push_size _ rfl
    have old : ∀ b u, s1.heap.get? b = some u → s2.heap.get? b = some u := fun b u e => kp2 b u (kp b u e)
    have rds : ∀ (g : Heap), (∀ b u, s2.heap.get? b = some u → g.get? b = some u) → EachIs (fun v (z : KRow) => v = Value.ref z.1 ∧ ∃ as, Reads g v (tupP z.2) as) vs L1 := fun g hg => by
      rw [← eL]
      have hL1 : ∀ z ∈ L1, z ∈ ks := fun z hz => sub z (pL.mem_iff.mp hz)
      clear eL pL hvs gL pv2
      induction L1 with
      | nil => exact .nil
      | cons z L1 ih =>
        refine .cons ⟨rfl, ?_⟩ (ih fun y hy => hL1 y (List.mem_cons_of_mem _ hy))
        have d : L2.Dp X.K H1 (.ref z.1) (tupP z.2) := Dp.l2 (.tup (hk z (hL1 z List.mem_cons_self)) (dpAll_keys z.2))
        obtain ⟨as, ra⟩ := L2.Dp.reads I1 _ _ _ d rfl
        exact ⟨as, PyProof.Rows.Reads.keeps (fun b u e => hg b u (old b u e)) ra⟩
    have hmix : mixTs (L1.map fun q => tupP q.2) := by
      obtain ⟨m1, m2, _⟩ := mixB_of hm
      have mem : ∀ d ∈ L1.map (fun q => tupP q.2), d ∈ (ks.map Prod.snd).map tupP := fun d hd => by
        obtain ⟨z, hz, rfl⟩ := List.mem_map.mp hd
        exact List.mem_map.mpr ⟨z.2, List.mem_map_of_mem (sub z (pL.mem_iff.mp hz)), rfl⟩
      exact ⟨fun d hd => m1.1 d (mem d hd), fun x r x' r' h1 h2 => m1.2 x r x' r' (mem _ h1) (mem _ h2)⟩
    have er := rds (sortingHeap (s2.heap.push (seqObj "list" vs.toArray 0)) s2.heap.objs.size vs) (fun b u e => sorting_push_old e)
    have dep : ∀ d ∈ L1.map (fun q => tupP q.2), X.A.in1.in1.units + d.depth < cLine := fun d hd => by
      obtain ⟨z, hz, rfl⟩ := List.mem_map.mp hd
      have := (mixB_of hm).2.1 (tupP z.2) (List.mem_map.mpr ⟨z.2, List.mem_map_of_mem (sub z (pL.mem_iff.mp hz)), rfl⟩)
      show X.A.units + 1 + 1 + _ < _
      omega
    have er2 : EachIs (fun v d => ∃ as, Reads (sortingHeap (s2.heap.push (seqObj "list" vs.toArray 0)) s2.heap.objs.size vs) v d as) vs (L1.map fun q => tupP q.2) := each_map (R := fun v d => ∃ as, Reads _ v d as) (fun q : KRow => tupP q.2) (er.mono fun _ _ x => x.2)
    refine wpAny_bind (wpAny_holding (wpAny_call_entry slot_list_sort ⟨_, gL, rfl⟩ entry_list_sort (list_sort_vals gL (sortsMix (A := X.A.in1.in1) (s := { s2 with heap := sortingHeap (s2.heap.push (seqObj "list" vs.toArray 0)) s2.heap.objs.size vs }) er2 hmix dep) hvs ⟨.none, rfl, wpAny_pure ⟨_, rfl, ?_⟩⟩) (args_list_sort _)))
    have eo2 := sortVals_each (R := fun v (z : KRow) => v = Value.ref z.1) (rev := false) (κ := dataKind (sortingHeap (s2.heap.push (seqObj "list" vs.toArray 0)) s2.heap.objs.size vs) (L1.map fun q => tupP q.2)) (fun z : KRow => keyToks (tupP z.2)) (er.mono fun _ _ x => x.1) (each_of_map (fun q : KRow => tupP q.2) (each_keysP (fun d hd => (hmix.1 d hd).1) er2))
    have ee : (dataLe false fun z : KRow => tupP z.2) = sortLe (listOrd itemOrd) false fun z : KRow => keyToks (tupP z.2) := rfl
    obtain ⟨M, hM⟩ : ∃ M : List KRow, M = L1.mergeSort (dataLe false fun z : KRow => tupP z.2) := ⟨_, rfl⟩
    have eo3 : EachIs (fun v (z : KRow) => v = Value.ref z.1) (sortVals (dataKind (sortingHeap (s2.heap.push (seqObj "list" vs.toArray 0)) s2.heap.objs.size vs) (L1.map fun q => tupP q.2)) false vs vs) M := by rw [hM]; exact eo2
    have pM : M.Perm L := by rw [hM]; exact (List.mergeSort_perm _ _).trans pL
    have eM : (M.map fun q => tupP q.2) = sortP ((unq (ks.map Prod.snd)).map tupP) := by
      have e1 := List.map_mergeSort (r := dataLe false fun z : KRow => tupP z.2) (s := dataLe false fun x : PyData => x) (f := fun z : KRow => tupP z.2) (l := L1) (fun _ _ _ _ => rfl)
      rw [← hM] at e1
      rw [e1]
      show sortP _ = _
      rw [show (L1.map fun z : KRow => tupP z.2) = (L1.map Prod.snd).map tupP by rw [List.map_map]; rfl]
      exact sortP_perm ((pL.map Prod.snd).trans pm)
    have out_eq : ∀ {vs : List Value} {M : List KRow}, EachIs (fun v (z : KRow) => v = Value.ref z.1) vs M → vs = M.map fun z => Value.ref z.1 := by
      intro vs M h
      induction h with
      | nil => rfl
      | cons e _ ih => rw [e, ih]; rfl
    have eV := out_eq eo3
    have hn : H1 s2.heap.objs.size = none := I2.hok.fresh hz
    obtain ⟨c, gc⟩ := sortedHeap_at (vs := vs) (out := (sortVals (dataKind (sortingHeap (s2.heap.push (seqObj "list" vs.toArray 0)) s2.heap.objs.size vs) (L1.map fun q => tupP q.2)) false vs vs).toArray) gL
    have kp3 : ∀ b u, h'.get? b = some u → (sortedHeap (s2.heap.push (seqObj "list" vs.toArray 0)) s2.heap.objs.size vs (sortVals (dataKind (sortingHeap (s2.heap.push (seqObj "list" vs.toArray 0)) s2.heap.objs.size vs) (L1.map fun q => tupP q.2)) false vs vs).toArray).get? b = some u := fun b u e => sorted_push_old (kp2 b u e)
    generalize sortedHeap (s2.heap.push (seqObj "list" vs.toArray 0)) s2.heap.objs.size vs (sortVals (dataKind (sortingHeap (s2.heap.push (seqObj "list" vs.toArray 0)) s2.heap.objs.size vs) (L1.map fun q => tupP q.2)) false vs vs).toArray = h3 at gc kp3 ⊢
    rw [eV] at gc
    have hlen : (M.map fun z => V.ref z.1).length ≤ sizeLine := by rw [List.length_map, pM.length_eq, sizeLine_eq]; have := T.few; omega
    have J : Inv X pins σ (upd H1 s2.heap.objs.size (.lst (M.map fun z => V.ref z.1))) { s1 with heap := h3, gens := s2.gens, drawn := s2.drawn, toks := s2.toks } :=
      Inv.call (s := { s1 with heap := h', toks := tk }) (ch := []) I2 (Un.laid kp3 hz hn) (I2.hok.laid kp3 hz ⟨hlen, _, c, vals_map M, by simpa using gc⟩) (by rw [eg]; exact I2.bare) (fun _ z => nomatch z)
    obtain ⟨h2, g2, d2, t2, os2⟩ := s2
    have eo' : os2 = s1.os := eo
    subst eo'
    exact ⟨.ref _, _, J, rfl, q1 M _ (fun z hz => sub z (pM.mem_iff.mp hz)) eM hn⟩
  · obtain ⟨l, zs, rfl, hl, few, q1⟩ := q1
    cases r1
    have hh := I1.ok.hd hc
    obtain ⟨its, rv, tup, hz⟩ := I1.tuple hl
    refine call_setT (P := X.prog) (w := X.w) zs hh tup rv (by unfold scanBound; omega) fun h' tk T kp => PyProof.Rows.args_nil ?_
    have I2 : Inv X pins σ H1 { s1 with heap := h', toks := tk } := I1.kept fun b o e => kp b o e
    obtain ⟨o, es, ep, t, o1, o2, o3, gd, nd, mem, fit, ris, led⟩ := T
    have sz : es.size ≤ zs.length := by
      have := List.Nodup.length_le_of_subset nd fun k hk => (mem k).mpr hk
      rwa [List.length_map, Array.length_toList] at this
    refine Calls.call_function_entry kind_sorted plain_sorted entry_sorted (args_sorted1 _) ?_
    show wpAny _ X.A.in1 (Builtin.sorted { pos := [.ref s1.heap.objs.size] }) _ _ _
    unfold Builtin.sorted
    refine wpAny_bind (wpAny_pure (wpAny_bind (collect_set (s := { s1 with heap := h', toks := tk }) hh ⟨o, o1, o2.1, o3⟩ fit (by unfold scanBound; omega) ris led fun s2 vs kp2 hz2 eg eo pv => ?_)))
    -- what came out: texts, in some order
    have rows : ∃ L : List (Str × Tok), vs = L.map (fun z => Value.str z.1 z.2) ∧ (L.map Prod.fst).Perm (unqS zs) := by
      have base : ∀ {l : List (Int × Value)}, (∀ e ∈ l, GoodT X.w e) → ∃ L : List (Str × Tok), l.map (·.2) = L.map (fun z => Value.str z.1 z.2) ∧ L.map Prod.fst = l.map eT := by
        intro l
        induction l with
        | nil => exact fun _ => ⟨[], rfl, rfl⟩
        | cons e r ih =>
          intro g
          obtain ⟨L, e1, e2⟩ := ih fun x hx => g x (List.mem_cons_of_mem _ hx)
          obtain ⟨k, t0, h1, _⟩ := g e List.mem_cons_self
          refine ⟨(k, t0) :: L, by rw [List.map_cons, List.map_cons, e1, h1], ?_⟩
          rw [List.map_cons, List.map_cons, e2]
          unfold eT
          rw [h1]
      obtain ⟨L0, e1, e2⟩ := base gd
      rw [e1] at pv
      obtain ⟨L, pL, eL⟩ := perm_lift pv
      refine ⟨L, eL.symm, (pL.map Prod.fst).trans ?_⟩
      rw [e2]
      refine (List.perm_ext_iff_of_nodup nd (nodup_unqS zs)).mpr fun k => ?_
      rw [← mem k, mem_unqS]
    obtain ⟨L, eL, pm⟩ := rows
    have hvs : vs.length ≤ sizeLine := by
      have := pm.length_eq
      rw [List.length_map] at this
      have := unqS_len zs
      rw [eL, List.length_map, sizeLine_eq]
      omega
    refine wpAny_bind (wpAny_newList ?_ hvs)
    have gL : (s2.heap.push (seqObj "list" vs.toArray 0)).get? s2.heap.objs.size = some (seqObj "list" vs.toArray 0) := Heap.get?_push_size _ rfl
    have rds : ∀ (g : Heap), EachIs (fun v (z : Str × Tok) => v = Value.str z.1 z.2 ∧ ∃ as, Reads g v (.str z.1) as) vs L := fun g => by
      rw [eL]
      clear eL pm hvs gL
      induction L with
      | nil => exact .nil
      | cons z L ih => exact .cons ⟨rfl, [], .str _ _⟩ ih
    have dL : (L.map fun z => PyData.str z.1) = (L.map Prod.fst).map .str := by rw [List.map_map]; rfl
    have hok := sortOk_of (xs := L.map fun z => PyData.str z.1) (by
      rw [dL]
      exact sortOkS _ (by
        have := pm.length_eq
        have := unqS_len zs
        omega))
    have er := rds (sortingHeap (s2.heap.push (seqObj "list" vs.toArray 0)) s2.heap.objs.size vs)
    have dep : ∀ d ∈ L.map (fun z => PyData.str z.1), X.A.in1.in1.units + d.depth < cLine := fun d hd => by
      have := hok.2.2.1 d hd
      show X.A.units + 1 + 1 + _ < _
      omega
    have er2 : EachIs (fun v d => ∃ as, Reads (sortingHeap (s2.heap.push (seqObj "list" vs.toArray 0)) s2.heap.objs.size vs) v d as) vs (L.map fun z => PyData.str z.1) := each_map (R := fun v d => ∃ as, Reads _ v d as) (fun z : Str × Tok => PyData.str z.1) (er.mono fun _ _ x => x.2)
    refine wpAny_bind (wpAny_holding (wpAny_call_entry slot_list_sort ⟨_, gL, rfl⟩ entry_list_sort (list_sort_vals gL (SortsAt.data (A := X.A.in1.in1) (s := { s2 with heap := sortingHeap (s2.heap.push (seqObj "list" vs.toArray 0)) s2.heap.objs.size vs }) er2 hok.1 hok.2.1 dep) hvs ⟨.none, rfl, wpAny_pure ⟨_, rfl, ?_⟩⟩) (args_list_sort _)))
    have eo2 := sortVals_data (R := fun v (z : Str × Tok) => v = Value.str z.1 z.2) (enc := fun z : Str × Tok => PyData.str z.1) false (er.mono fun _ _ x => x.1) (er.mono fun _ _ x => x.2) hok.1
    obtain ⟨M, hM⟩ : ∃ M : List (Str × Tok), M = L.mergeSort (dataLe false fun z : Str × Tok => PyData.str z.1) := ⟨_, rfl⟩
    rw [← hM] at eo2
    have pM : M.Perm L := by rw [hM]; exact List.mergeSort_perm _ _
    have eM : (M.map Prod.fst).map PyData.str = sortP ((unqS zs).map .str) := by
      have e1 := List.map_mergeSort (r := dataLe false fun z : Str × Tok => PyData.str z.1) (s := dataLe false fun x : PyData => x) (f := fun z : Str × Tok => PyData.str z.1) (l := L) (fun _ _ _ _ => rfl)
      rw [← hM] at e1
      rw [show (M.map Prod.fst).map PyData.str = M.map fun z => PyData.str z.1 by rw [List.map_map]; rfl, e1, dL]
      exact sortP_permS pm
    have out_eq : ∀ {vs : List Value} {M : List (Str × Tok)}, EachIs (fun v (z : Str × Tok) => v = Value.str z.1 z.2) vs M → vs = M.map fun z => Value.str z.1 z.2 := by
      intro vs M h
      induction h with
      | nil => rfl
      | cons e _ ih => rw [e, ih]; rfl
    have eV := out_eq eo2
    have hn : H1 s2.heap.objs.size = none := I2.hok.fresh hz2
    obtain ⟨c, gc⟩ := sortedHeap_at (vs := vs) (out := (sortVals (dataKind (sortingHeap (s2.heap.push (seqObj "list" vs.toArray 0)) s2.heap.objs.size vs) (L.map fun z => PyData.str z.1)) false vs vs).toArray) gL
    have kp3 : ∀ b u, h'.get? b = some u → (sortedHeap (s2.heap.push (seqObj "list" vs.toArray 0)) s2.heap.objs.size vs (sortVals (dataKind (sortingHeap (s2.heap.push (seqObj "list" vs.toArray 0)) s2.heap.objs.size vs) (L.map fun z => PyData.str z.1)) false vs vs).toArray).get? b = some u := fun b u e => sorted_push_old (kp2 b u e)
    generalize sortedHeap (s2.heap.push (seqObj "list" vs.toArray 0)) s2.heap.objs.size vs (sortVals (dataKind (sortingHeap (s2.heap.push (seqObj "list" vs.toArray 0)) s2.heap.objs.size vs) (L.map fun z => PyData.str z.1)) false vs vs).toArray = h3 at gc kp3 ⊢
    rw [eV] at gc
    have hlen : ((M.map Prod.fst).map V.str).length ≤ sizeLine := by
      have := pm.length_eq
      rw [List.length_map] at this
      have := unqS_len zs
      rw [List.length_map, List.length_map, pM.length_eq, sizeLine_eq]
      omega
    have vM : ∀ M : List (Str × Tok), Vals ((M.map Prod.fst).map V.str) (M.map fun z => Value.str z.1 z.2) := by
      intro M
      induction M with
      | nil => exact .nil
      | cons z M ih => exact .cons ⟨z.2, rfl⟩ ih
    have J : Inv X pins σ (upd H1 s2.heap.objs.size (.lst ((M.map Prod.fst).map V.str))) { s1 with heap := h3, gens := s2.gens, drawn := s2.drawn, toks := s2.toks } :=
      Inv.call (s := { s1 with heap := h', toks := tk }) (ch := []) I2 (Un.laid kp3 hz2 hn) (I2.hok.laid kp3 hz2 ⟨hlen, _, c, vM M, by simpa using gc⟩) (by rw [eg]; exact I2.bare) (fun _ z => nomatch z)
    obtain ⟨h2, g2', d2, t2, os2⟩ := s2
    have eo' : os2 = s1.os := eo
    subst eo'
    exact ⟨.ref _, _, J, rfl, q1 _ _ eM hn⟩
end
end MP

set_option Elab.async false
set_option linter.all false
set_option autoImplicit false
set_option maxRecDepth 100000
set_option maxHeartbeats 1000000
/-! the mirrored syntax, its meaning, what it is checked against -/
namespace MP
open PySem PySem.Spec PyProof.Rows L2

/-! ### syntax -/
/-- a field of an exception: a parameter, or a list made of it -/
inductive FE where
  | arg (i : Nat)
  | lst (i : Nat)
def feEq : FE → FE → Bool
  | .arg i, .arg j => i == j
  | .lst i, .lst j => i == j
  | _, _ => false
def fesEq : List (Str × FE) → List (Str × FE) → Bool
  | [], [] => true
  | (f, a) :: r, (g, b) :: r' => f == g && feEq a b && fesEq r r'
  | _, _ => false
/-- methods of built-in things -/
inductive Mth where
  | insert | clear | reverse | pop | extend
mutual
inductive MT where
  | nm (i : Nat)
  | tup (l : MTs)
inductive MTs where
  | nil
  | cons (t : MT) (r : MTs)
end
mutual
inductive ME where
  | var (i : Nat)
  | lit (x : PyData)
  | glb (x : PyData)
  | gix (kvs : List (Str × PyData)) (e : ME)
  | bin (o : Operator) (a b : ME)
  | neg (a : ME)
  | not (a : ME)
  | and (a b : ME)
  | or (a b : ME)
  | one (a : ME)
  | cmp (o : CmpOp) (a b : ME)
  | cmp2 (o o2 : CmpOp) (a b c : ME)
  | ife (c a b : ME)
  | tup (es : MEs)
  | lst (c : Bool) (es : MEs)
  | frz (a : ME)
  | rev (a : ME)
  | dctE (t : Bool)
  | dct (ks : List Str) (es : MEs)
  | fld (a : ME) (f : Str) (cs : List Str)
  | meth (c : Str) (i : Nat) (m : Str) (o : ME) (es : MEs)
  | new (c : Str) (i : Nat) (es : MEs)
  | callT (fs : List Nat) (i : ME) (es : MEs)
  | callD (f : Nat) (es : MEs) (ds : List PyData)
  | mcall (m : Mth) (o : ME) (es : MEs)
  | ix (a b : ME)
  | sl (a : ME) (lo hi : MO)
  | bi (f : Bi) (a : ME)
  | mx2 (mx : Bool) (a b : ME)
  | mxd (mx : Bool) (a d : ME)
  | dget (o k d : ME)
  | dk1 (k v : ME)
  | dpop (o k : ME)
  | clr (o : ME)
  | split (c : Bool) (o e : ME)
  | fnv (x : Str)
  | callV (i : Nat) (fs : List (Str × Nat)) (es : MEs)
  | slc (a : ME) (lo hi : MO)
  | gin (neg : Bool) (kvs : List (Str × PyData)) (e : ME)
  | gixIn (kvs : List (Str × PyData)) (a e : ME)
  | isi (T : String) (a : ME)
  | mkx (c : Str) (np : Nat) (fs : List (Str × FE)) (es : MEs)
  | xfl (c f : Str) (a : ME)
  | isx (tb : List (Str × Bool)) (a : ME)
  | call (f : Nat) (es : MEs)
  | join (a b : ME)
  | sset (c : Bool) (a : ME)
  | lset (a : ME)
  | stp (a e : ME)
  | lc (c : Bool) (own : List Nat) (tg : MT) (it : MI) (cond : MO) (elt : ME)
inductive MEs where
  | nil
  | cons (e : ME) (r : MEs)
inductive MO where
  | none
  | some (e : ME)
inductive MI where
  | seq (e : ME)
  | rng1 (a : ME)
  | rng2 (a b : ME)
  | enum (a : ME)
  | zip (a b : ME)
  | view (b : Bool) (a : ME)
  | rev (a : ME)
end

/-! ### meaning -/
inductive Itm where
  | one (d : D)
  | two (a b : D)
/-- what is taken apart: a list or a tuple -/
def seqOf (d : D) (st : Store) : Option (List D) :=
  match items d st with
  | some ds => some ds
  | none => tups d st
mutual
def bindD (st : Store) : MT → D → Env → Option Env
  | .nm i, d, env => some (env.set i (some d))
  | .tup ts, d, env => (seqOf d st).bind fun ds => bindDs st ts ds env
def bindDs (st : Store) : MTs → List D → Env → Option Env
  | .nil, [], env => some env
  | .cons t r, d :: ds, env => (bindD st t d env).bind fun env => bindDs st r ds env
  | _, _, _ => none
end
def bindI (st : Store) : MT → Itm → Env → Option Env
  | t, .one d, env => bindD st t d env
  | .tup ts, .two a b, env => bindDs st ts [a, b] env
  | .nm _, .two _ _, _ => none
def dBelow (n : Nat) : D → Bool
  | .p _ => true
  | .fn _ => true
  | .c m => decide (m < n)
def cellBelow (n : Nat) : Cell → Bool
  | .lst ds => ds.all (dBelow n)
  | .tup ds => ds.all (dBelow n)
  | .dct kvs => kvs.all fun kv => dBelow n kv.2
  | .dtt kvs => kvs.all fun kv => dBelow n kv.2
  | .ins _ kvs => kvs.all fun kv => dBelow n kv.2
  | .lkd kvs => kvs.all fun kv => dBelow n kv.2
  | .lkt kvs => kvs.all fun kv => dBelow n kv.2
  | .exv _ kvs => kvs.all fun kv => dBelow n kv.2
  | .dead => true
/-- the cells from n on dropped, where nothing before holds one -/
def gc (n : Nat) (st : Store) : Store := if (st.take n).all (cellBelow n) = true then st.take n else st
def wipeE (env : Env) : List Nat → Env
  | [] => env
  | v :: vs => (wipeE env vs).set v none
def varD (env : Env) (i : Nat) (st : Store) : R D :=
  match env[i]? with
  | some (some d) => .ok d st
  | _ => .bad
def truR (r : R D) : R Bool := r.bind fun d st => match tru d st with
  | some k => .ok k st
  | none => .bad
/-- no exception leaves a comprehension -/
def noEx {α : Type} (r : R α) : R α :=
  match r with
  | .ex _ _ => .bad
  | r => r
open Classical in
/-- the turns of a comprehension, its list in the cell n -/
noncomputable def lcL (gd : Store → Prop) (n : Nat) (tg : MT) (cond : MD) (elt : MD) (env0 : Env) : List Itm → Store → R Unit
  | [], st => if gd st then .ok () st else .bad
  | it :: r, st => if gd st then match bindI st tg it env0 with
      | none => .bad
      | some env1 => (noEx (truR (cond env1 st))).bind fun b st1 =>
          if b = true then (noEx (elt env1 st1)).bind fun d st2 => match cellL st2 n with
            | some acc => if acc.length < SZ then lcL gd n tg cond elt env0 r (st2.set n (.lst (acc ++ [d]))) else .bad
            | none => .bad
          else lcL gd n tg cond elt env0 r st1
    else .bad
def lcEnd (c : Bool) (n : Nat) (st : Store) : R D :=
  match c with
  | true => .ok (.c n) st
  | false => match cellL st n with
    | some ds => match pures ds with
      | some xs => .ok (.p (.list xs)) (gc n (st.set n .dead))
      | none => .bad
    | none => .bad
def ofOpt {α : Type} (o : Option α) (st : Store) : R α :=
  match o with
  | some a => .ok a st
  | none => .bad
def joinD (x : Str) (b : D) (st : Store) : R D :=
  match (match b with | .p (.tuple ys) => some ys | b => (items b st).bind pures) with
  | some ys => match strsP ys with
    | some zs => if (zs.map (·.length)).sum + zs.length * x.length ≤ SZ then .ok (.p (.str (Txt.join x zs))) st else .bad
    | none => .bad
  | none => .bad
def seqI (d : D) (st : Store) : R (List Itm × (Store → Prop)) :=
  match d with
  | .p (.list xs) => .ok (xs.map fun x => .one (.p x), fun _ => True) st
  | .p (.tuple xs) => .ok (xs.map fun x => .one (.p x), fun _ => True) st
  | .p (.str z) => .ok (z.cps.toList.map fun c => .one (.p (.str ⟨#[c]⟩)), fun _ => True) st
  | .c n => match st[n]? with
    | some (.lst ds) => .ok (ds.map .one, fun st' => cellL st' n = some ds) st
    | some (.lkd kvs) => .ok (kvs.map fun kv => .one (.p (keyP kv.1)), fun _ => True) st
    | some (.lkt kvs) => .ok (kvs.map fun kv => .one (.p (.tuple (kv.1.map keyP))), fun st' => noPT st' = true) st
    | _ => .bad
  | _ => .bad
def rngI (lo hi : Int) (st : Store) : R (List Itm × (Store → Prop)) :=
  if -(2 ^ 62) ≤ lo ∧ lo < 2 ^ 62 ∧ -(2 ^ 62) ≤ hi ∧ hi < 2 ^ 62 then .ok ((List.range (hi - lo).toNat).map fun (i : Nat) => .one (.p (.int (lo + (i : Int)))), fun _ => True) st else .bad
/-- a list and while it stands -/
def gdOf (d : D) (ds : List D) : Store → Prop := fun st => items d st = some ds
def enumI (d : D) (st : Store) : R (List Itm × (Store → Prop)) :=
  match items d st with
  | some ds => .ok (ds.mapIdx fun i d => .two (.p (.int (i : Nat))) d, gdOf d ds) st
  | none => .bad
/-- the values of a locked dict, or its keys with them -/
def viewI (b : Bool) (d : D) (st : Store) : R (List Itm × (Store → Prop)) :=
  match d with
  | .c n => match st[n]? with
    | some (.lkd kvs) => .ok (kvs.map fun kv => if b = true then .two (.p (keyP kv.1)) kv.2 else .one kv.2, fun _ => True) st
    | some (.lkt kvs) => if b = true then .ok (kvs.map fun kv => .two (.p (.tuple (kv.1.map keyP))) kv.2, fun st' => noPT st' = true) st else .bad
    | _ => .bad
  | _ => .bad
/-- a list from its end -/
def revI (d : D) (st : Store) : R (List Itm × (Store → Prop)) :=
  match items d st with
  | some ds => .ok (ds.reverse.map .one, gdOf d ds) st
  | none => .bad
def zipI (a b : D) (st : Store) : R (List Itm × (Store → Prop)) :=
  match a, b with
  | .p (.tuple xs), .p (.tuple ys) => .ok ((xs.zip ys).map fun p => .two (.p p.1) (.p p.2), fun _ => True) st
  | .p (.str z), .p (.tuple ys) => .ok ((z.cps.toList.zip ys).map fun p => .two (.p (.str ⟨#[p.1]⟩)) (.p p.2), fun _ => True) st
  | a, b => match items a st, items b st with
    | some xs, some ys => .ok ((xs.zip ys).map fun p => .two p.1 p.2, fun st => gdOf a xs st ∧ gdOf b ys st) st
    | _, _ => match tups a st, tups b st with
      | some xs, some ys => .ok ((xs.zip ys).map fun p => .two p.1 p.2, fun st => tups a st = some xs ∧ tups b st = some ys) st
      | _, _ => .bad
/-- a constant dict of the module, its texts looked up -/
def gixD (kvs : List (Str × PyData)) (x : D) (st : Store) : R D :=
  match x with
  | .p (.str z) => match kvs.lookup z with
    | some v => .ok (.p v) st
    | none => .bad
  | _ => .bad
/-- the fields, the newest first -/
def mkX (ds : List D) : List (Str × FE) → List (Str × D) → Store → R (List (Str × D))
  | [], acc, st => .ok acc st
  | (f, .arg i) :: r, acc, st => match ds[i]? with
    | some d => mkX ds r ((f, d) :: acc) st
    | none => .bad
  | (f, .lst i) :: r, acc, st => match ds[i]? with
    | some d => (listD0 true d st).bind fun l st => mkX ds r ((f, l) :: acc) st
    | none => .bad
/-- a cell's list frozen -/
def frzD (d : D) (st : Store) : R D :=
  match d with
  | .c n => match cellL st n with
    | some ds => match pures ds with
      | some xs => .ok (.p (.list xs)) (st.set n .dead)
      | none => .bad
    | none => .bad
  | d => .ok d st
def revD (a : D) (st : Store) : R D :=
  match a with
  | .p (.tuple xs) => mkT (xs.map .p).reverse st
  | a => match items a st with
    | some xs => mkL false xs.reverse st
    | none => .bad
/-- an exception that is held -/
def exvOf (x : D) (st : Store) : Option (Str × List (Str × D)) :=
  match x with
  | .c n => match st[n]? with
    | some (.exv c fs) => some (c, fs)
    | _ => none
  | _ => none
def xflD (c f : Str) (x : D) (st : Store) : R D :=
  match exvOf x st with
  | some (c', fs) => if c' = c then match fs.lookup f with
    | some d => .ok d st
    | none => .bad
    else .bad
  | none => .bad
def valN {α : Type} (kvs : List (Str × α)) (k : Str) : Option α := (kvs.find? fun kv => decide (kv.1 = k)).map (·.2)
def isxD (tb : List (Str × Bool)) (x : D) (st : Store) : R D :=
  match exvOf x st with
  | some (c, _) => match valN tb c with
    | some b => .ok (.p (.bool b)) st
    | none => .bad
  | none => .bad
/-- an instance's class and attributes -/
def insOf (d : D) (st : Store) : Option (Nat × Str × List (Str × D)) :=
  match d with
  | .c n => match st[n]? with
    | some (.ins c fs) => some (n, c, fs)
    | _ => none
  | _ => none
def fldD (f : Str) (cs : List Str) (a : D) (st : Store) : R D :=
  match insOf a st with
  | some (_, c, fs) => if cs.contains c = true then match valD fs f with
    | some d => .ok d st
    | none => .bad
    else .bad
  | none => .bad
def mthD (m : Mth) (a : D) (ds : List D) (st : Store) : R D :=
  match a with
  | .c n => match cellL st n with
    | some xs => match m, ds with
      | .insert, [.p (.int i), y] => if xs.length < SZ ∧ 0 ≤ i ∧ i < 2 ^ 62 then .ok (.p .none) (st.set n (.lst (xs.take i.toNat ++ [y] ++ xs.drop i.toNat))) else .bad
      | .clear, [] => .ok (.p .none) (st.set n (.lst []))
      | .reverse, [] => .ok (.p .none) (st.set n (.lst xs.reverse))
      | .extend, [.c m] => match cellL st m with
        | some ys => if xs.length + ys.length ≤ SZ then .ok (.p .none) (st.set n (.lst (xs ++ ys))) else .bad
        | none => .bad
      | .pop, [] => match xs[xs.length - 1]? with
        | some d => .ok d (st.set n (.lst xs.dropLast))
        | none => .bad
      | _, _ => .bad
    | none => .bad
  | _ => .bad
def mthA : Mth → Nat
  | .insert => 2
  | .extend => 1
  | _ => 0
def mthN : Mth → Str
  | .insert => "insert"
  | .clear => "clear"
  | .reverse => "reverse"
  | .pop => "pop"
  | .extend => "extend"
/-- the pairs of a display -/
def dispD (n : Nat) (ks : List Str) (ds : List D) (st : Store) : R D :=
  match dcellL st n with
  | some [] => if ks.length = ds.length ∧ ks.length ≤ 15 then .ok (.c n) (st.set n (.dct (mergeD [] ((ks.zip ds).map fun p => (Sum.inr p.1, p.2))))) else .bad
  | _ => .bad
/-- a display of one pair -/
def disp1 (n : Nat) (x y : D) (st : Store) : R D :=
  match dcellL st n with
  | some [] => match keyOf x with
    | some k => .ok (.c n) (st.set n (.dct [(k, y)]))
    | none => .bad
  | _ => .bad
/-- the keys of a dict of whole numbers -/
def intKeys : List (Key × D) → Option (List Int)
  | [] => some []
  | (.inl z, _) :: r => (intKeys r).map (z :: ·)
  | _ => none
/-- the greatest, the least, or what is told of none -/
def mxdD (mx : Bool) (a z : D) (st : Store) : R D :=
  match a with
  | .p (.tuple _) => .bad
  | a => match items a st with
    | some xs => match pures xs with
      | some [] => .ok z st
      | some (y :: ys) => if allAlikeB (y :: ys) = true then .ok (.p (if mx then PySem.W.maxD y ys else PySem.W.minD y ys)) st else .bad
      | none => .bad
    | none => match a with
      | .c n => match dcellL st n with
        | some kvs => match intKeys kvs with
          | some ks => if mx = true then match ks with
            | [] => .ok z st
            | k :: ks => .ok (.p (.int (ks.foldl (fun a y => if decide (a < y) = true then y else a) k))) st
            else .bad
          | none => .bad
        | none => .bad
      | _ => .bad
def getD' (o k z : D) (st : Store) : R D :=
  match lookD o k st with
  | some (some d) => .ok d st
  | some none => .ok z st
  | none => .bad
def popD (o k : D) (st : Store) : R D :=
  match o with
  | .c n => match dcellL st n with
    | some kvs => match keyOf k with
      | some k => match valD kvs k with
        | some d => .ok d (st.set n (.dct (kvs.filter fun q => decide (q.1 ≠ k))))
        | none => .bad
      | none => .bad
    | none => .bad
  | _ => .bad
/-- a list, or a dict, emptied -/
def clrD (x : D) (st : Store) : R D :=
  match x with
  | .c n => match st[n]? with
    | some (.lst _) => .ok (.p .none) (st.set n (.lst []))
    | some (.dct _) => .ok (.p .none) (st.set n (.dct []))
    | _ => .bad
  | _ => .bad
/-- the parts of a text between others -/
def splitD (c : Bool) (z : Str) (y : D) (st : Store) : R D :=
  match y with
  | .p (.str y) => if (y.length == 0) = false ∧ z.length + 2 ≤ SZ then mkL c ((Txt.split z y).map fun t => D.p (.str t)) st else .bad
  | _ => .bad
/-- a key of a constant dict of the module, there -/
def ginD (neg : Bool) (kvs : List (Str × PyData)) (x : D) (st : Store) : R D :=
  match x with
  | .p (.str z) => match kvs.lookup z with
    | some _ => .ok (.p (.bool (!neg))) st
    | none => .bad
  | _ => .bad
/-- whether something stands in a tuple that is a value of a constant dict -/
def gixInD (kvs : List (Str × PyData)) (x y : D) (st : Store) : R D :=
  match y with
  | .p (.str z) => match kvs.lookup z with
    | some (.tuple ys) => match x with
      | .p x => if x.depth ≤ 64 then .ok (.p (.bool (ys.any fun y => PyData.eqv y x))) st else .bad
      | _ => .bad
    | _ => .bad
  | _ => .bad
/-- a list by a step of one, there or back -/
def stpD (a i : D) (st : Store) : R D :=
  match i with
  | .p (.int k) => if k = -1 then revD a st else if k = 1 then (match items a st with
    | some xs => mkL false xs st
    | none => .bad) else .bad
  | _ => .bad
abbrev Sem1 := Nat → List D → Store → R D
mutual
noncomputable def ev (G : Sem1) : ME → Env → Store → R D
  | .var i, env, st => varD env i st
  | .lit x, _, st => .ok (.p x) st
  | .glb x, _, st => .ok (.p x) st
  | .gix kvs e, env, st => (ev G e env st).bind fun x st => gixD kvs x st
  | .bin o a b, env, st => (ev G a env st).bind fun x st => (ev G b env st).bind fun y st => binD o x y st
  | .neg a, env, st => (ev G a env st).bind fun x st => negD x st
  | .not a, env, st => (truR (ev G a env st)).bind fun k st => .ok (.p (.bool (!k))) st
  | .and a b, env, st => (ev G a env st).bind fun x st => match tru x st with
    | some true => ev G b env st
    | some false => .ok x st
    | none => .bad
  | .or a b, env, st => (ev G a env st).bind fun x st => match tru x st with
    | some true => .ok x st
    | some false => ev G b env st
    | none => .bad
  | .one a, env, st => ev G a env st
  | .cmp o a b, env, st => (ev G a env st).bind fun x st => (ev G b env st).bind fun y st => cmpD o x y st
  | .cmp2 o o2 a b c, env, st => (ev G a env st).bind fun x st => (ev G b env st).bind fun y st => (cmpD o x y st).bind fun k st => match k with
    | .p (.bool true) => (ev G c env st).bind fun z st => cmpD o2 y z st
    | .p (.bool false) => .ok (.p (.bool false)) st
    | _ => .bad
  | .ife c a b, env, st => (truR (ev G c env st)).bind fun k st => if k = true then ev G a env st else ev G b env st
  | .tup es, env, st => (evs G es env st).bind fun ds st => if ds.length ≤ SZ then mkT ds st else .bad
  | .lst c es, env, st => (evs G es env st).bind fun ds st => if ds.length ≤ SZ then mkL c ds st else .bad
  | .frz a, env, st => (ev G a env st).bind fun x st => frzD x st
  | .rev a, env, st => (ev G a env st).bind fun x st => revD x st
  | .dctE t, _, st => .ok (.c st.length) (st ++ [if t = true then .dtt [] else .dct []])
  | .dct ks es, env, st => (evs G es env (st ++ [.dct []])).bind fun ds st1 => dispD st.length ks ds st1
  | .fld a f cs, env, st => (ev G a env st).bind fun x st => fldD f cs x st
  | .meth c i m o es, env, st => (ev G o env st).bind fun x st => match insOf x st with
    | some (_, c', fs) => if c' = c ∧ (valD fs m).isSome = false then (evs G es env st).bind fun ds st => G i (x :: ds) st else .bad
    | none => .bad
  | .new c i es, env, st => (evs G es env st).bind fun ds st => (G i (.c st.length :: ds) (st ++ [.ins c []])).bind fun d st1 => match d with
    | .p .none => .ok (.c st.length) st1
    | _ => .bad
  | .callT fs i es, env, st => (ev G i env st).bind fun x st => match x with
    | .p (.int k) => match atI fs k with
      | some f => (evs G es env st).bind fun ds st => G f ds st
      | none => .bad
    | _ => .bad
  | .callD f es dv, env, st => (evs G es env st).bind fun ds st => G f (ds ++ dv.map .p) st
  | .mcall m o es, env, st => (ev G o env st).bind fun x st => match items x st with
    | some _ => (evs G es env st).bind fun ds st => mthD m x ds st
    | none => .bad
  | .ix a b, env, st => (ev G a env st).bind fun x st => (ev G b env st).bind fun y st => ixD x y st
  | .sl a lo hi, env, st => (ev G a env st).bind fun x st => (evo G lo env st).bind fun l st => (evo G hi env st).bind fun h st => slD x l h st
  | .bi f a, env, st => (ev G a env st).bind fun x st => bi1D f x st
  | .mx2 m a b, env, st => (ev G a env st).bind fun x st => (ev G b env st).bind fun y st => max2D m x y st
  | .mxd m a z, env, st => (ev G a env st).bind fun x st => (ev G z env st).bind fun z st => mxdD m x z st
  | .dget o k z, env, st => (ev G o env st).bind fun x st => if isDict x st = true then (ev G k env st).bind fun y st => (ev G z env st).bind fun z st => getD' x y z st else .bad
  | .dk1 k v, env, st => (ev G k env (st ++ [.dct []])).bind fun x st1 => (ev G v env st1).bind fun y st2 => disp1 st.length x y st2
  | .dpop o k, env, st => (ev G o env st).bind fun x st => if isDict x st = true then (ev G k env st).bind fun y st => popD x y st else .bad
  | .clr o, env, st => (ev G o env st).bind fun x st => clrD x st
  | .fnv x, _, st => .ok (.fn x) st
  | .callV i fs es, env, st => (varD env i st).bind fun x st => match x with
    | .fn x => match fs.lookup x with
      | some f => (evs G es env st).bind fun ds st => G f ds st
      | none => .bad
    | _ => .bad
  | .split c o e, env, st => (ev G o env st).bind fun x st => match x with
    | .p (.str z) => (ev G e env st).bind fun y st => splitD c z y st
    | _ => .bad
  | .slc a lo hi, env, st => (ev G a env st).bind fun x st => (evo G lo env st).bind fun l st => (evo G hi env st).bind fun h st => slDc x l h st
  | .gin n kvs e, env, st => (ev G e env st).bind fun x st => ginD n kvs x st
  | .gixIn kvs a e, env, st => (ev G a env st).bind fun x st => (ev G e env st).bind fun y st => gixInD kvs x y st
  | .isi T a, env, st => (ev G a env st).bind fun x st => isiD T x st
  | .mkx c np fs es, env, st => (evs G es env st).bind fun ds st => if ds.length = np then (mkX ds fs [] st).bind fun xs st => .ok (.c st.length) (st ++ [.exv c xs]) else .bad
  | .xfl c f a, env, st => (ev G a env st).bind fun x st => xflD c f x st
  | .isx tb a, env, st => (ev G a env st).bind fun x st => isxD tb x st
  | .sset c a, env, st => (ev G a env st).bind fun x st => ssetD c x st
  | .lset a, env, st => (ev G a env st).bind fun x st => lsetD x st
  | .stp a e, env, st => (ev G a env st).bind fun x st => match items x st with
    | some _ => (ev G e env st).bind fun y st => stpD x y st
    | none => .bad
  | .call f es, env, st => (evs G es env st).bind fun ds st => G f ds st
  | .join a b, env, st => (ev G a env st).bind fun x st => match x with
    | .p (.str z) => (ev G b env st).bind fun y st => joinD z y st
    | _ => .bad
  | .lc c own tg it cond elt, env, st => (evi G it env st).bind fun p st1 =>
      (lcL p.2 st1.length tg (evc G cond) (ev G elt) (wipeE env own) p.1 (st1 ++ [.lst []])).bind fun _ st2 => lcEnd c st1.length st2
noncomputable def evs (G : Sem1) : MEs → Env → Store → R (List D)
  | .nil, _, st => .ok [] st
  | .cons e r, env, st => (ev G e env st).bind fun x st => (evs G r env st).bind fun xs st => .ok (x :: xs) st
/-- an optional part of a slice -/
noncomputable def evo (G : Sem1) : MO → Env → Store → R (Option Int)
  | .none, _, st => .ok none st
  | .some e, env, st => (ev G e env st).bind fun x st => match x with
    | .p (.int i) => .ok (some i) st
    | _ => .bad
/-- an optional test -/
noncomputable def evc (G : Sem1) : MO → Env → Store → R D
  | .none, _, st => .ok (.p (.bool true)) st
  | .some e, env, st => ev G e env st
noncomputable def evi (G : Sem1) : MI → Env → Store → R (List Itm × (Store → Prop))
  | .seq e, env, st => (ev G e env st).bind fun x st => seqI x st
  | .rng1 a, env, st => (ev G a env st).bind fun x st => match x with
    | .p (.int i) => rngI 0 i st
    | _ => .bad
  | .rng2 a b, env, st => (ev G a env st).bind fun x st => (ev G b env st).bind fun y st => match x, y with
    | .p (.int i), .p (.int j) => rngI i j st
    | _, _ => .bad
  | .enum a, env, st => (ev G a env st).bind fun x st => enumI x st
  | .zip a b, env, st => (ev G a env st).bind fun x st => (ev G b env st).bind fun y st => zipI x y st
  | .view b a, env, st => (ev G a env st).bind fun x st => viewI b x st
  | .rev a, env, st => (ev G a env st).bind fun x st => revI x st
end

/-! ### the text that a mirrored term is of -/
structure Ctx where
  N : List Str
  sc : Scope
  fnC : Bool
  /-- in the body of a try -/
  tr : Bool
  glbs : List (Str × PyData)
  gds : List (Str × List (Str × PyData))
  fns : List (Option Str)
  bl : List Str
  /-- class, an attribute that it has not of its own -/
  clsF : List (Str × Str)
  /-- class, method, its def -/
  meths : List (Str × Str × Nat)
  /-- class, its __init__ -/
  news : List (Str × Nat)
  /-- defs called with fewer values, what fills up -/
  defs : List (Nat × List PyData)
  /-- exception classes: how many values, the fields -/
  xcls : List (Str × Nat × List (Str × FE))
  /-- an exception class, a class of a clause, whether the clause takes it -/
  xtab : List ((Str × Str) × Bool)
  /-- an exception class, a field of its instances -/
  xfld : List (Str × Str)
  /-- classes of clauses -/
  hcs : List Str
  /-- exception classes whose instances isinstance may be asked of -/
  xisc : List Str := []
  /-- nothing is being shown: repr may be asked -/
  rp : Bool := false
def biRp (C : Ctx) (f : Bi) : Bool :=
  match f with
  | .repr => C.rp
  | _ => true
def Ctx.isVis (C : Ctx) (x : Str) : Bool := match C.sc.names.lookup x with
  | some .local => true
  | some .cell => true
  | some .free => true
  | _ => false
def okName (x : Str) : Bool := !(x == ("__debug__" : Str)) && !(x == ("__classdict__" : Str)) && !(x == ("__name__" : Str))
def Ctx.isGl (C : Ctx) (x : Str) : Bool := okName x && decide (C.sc.names.lookup x = some .globalImplicit)
def Ctx.isBl (C : Ctx) (x : Str) : Bool := C.isGl x && C.bl.contains x
def Ctx.slot (C : Ctx) (i : Nat) (x : Str) : Bool := okName x && decide (C.N[i]? = some x)
def litC : Const → PyData → Bool
  | .none, .none => true
  | .bool b, .bool c => b == c
  | .int i, .int j => i == j
  | .str x, .str y => x == y
  | _, _ => false
def dataEq : PyData → PyData → Bool
  | .int i, .int j => i == j
  | .str x, .str y => x == y
  | .bool x, .bool y => x == y
  | .none, .none => true
  | _, _ => false
def kvEq : List (Str × PyData) → List (Str × PyData) → Bool
  | [], [] => true
  | (a, x) :: r, (b, y) :: r' => a == b && dataEq x y && kvEq r r'
  | _, _ => false
def datasEq : List PyData → List PyData → Bool
  | [], [] => true
  | x :: r, y :: r' => dataEq x y && datasEq r r'
  | _, _ => false
def gEq : PyData → PyData → Bool
  | .tuple xs, .tuple ys => datasEq xs ys
  | x, y => dataEq x y
def kvEqT : List (Str × PyData) → List (Str × PyData) → Bool
  | [], [] => true
  | (a, x) :: r, (b, y) :: r' => a == b && gEq x y && kvEqT r r'
  | _, _ => false
def isText1 : MEs → Bool
  | .cons (.lit (.str _)) .nil => true
  | _ => false
def notIn (o : CmpOp) : Bool := match o with
  | .In => false
  | .NotIn => false
  | _ => true
def notSet : Expr → Bool
  | .Set .. => false
  | _ => true
def keysAre : List Str → List (Option Expr) → Bool
  | [], [] => true
  | k :: ks, some (.Constant (.str x) _ _) :: r => k == x && keysAre ks r
  | _, _ => false
def fnsAre (C : Ctx) : List Nat → List Expr → Bool
  | [], [] => true
  | f :: fs, .Name x _ :: r => C.isGl x && decide (C.fns[f]? = some (some x)) && fnsAre C fs r
  | _, _ => false
mutual
def chkT (C : Ctx) : MT → Expr → Bool
  | .nm i, .Name x _ => C.slot i x && decide (C.sc.names.lookup x = some .local ∨ (C.fnC = true ∧ C.sc.names.lookup x = some .cell))
  | .tup ts, .Tuple es _ _ => chkTs C ts es
  | _, _ => false
def chkTs (C : Ctx) : MTs → List Expr → Bool
  | .nil, [] => true
  | .cons t r, e :: es => chkT C t e && chkTs C r es
  | _, _ => false
end
mutual
def tgVars : MT → List Nat
  | .nm i => [i]
  | .tup ts => tgVarss ts
def tgVarss : MTs → List Nat
  | .nil => []
  | .cons t r => tgVars t ++ tgVarss r
end
def notStar : Expr → Bool
  | .Starred .. => false
  | _ => true
def notSlice : Expr → Bool
  | .Slice .. => false
  | _ => true
def notSuper : Expr → Bool
  | .Call (.Name _ _) [] [] _ => false
  | _ => true
def isRcv : Expr → Bool
  | .Name .. => true
  | .Attribute .. => true
  | _ => false
def isTup : Expr → Bool
  | .Tuple .. => true
  | _ => false
mutual
def chk (C : Ctx) : ME → Expr → Bool
  | .var i, py => match py with
    | .Name x _ => C.slot i x && C.isVis x
    | _ => false
  | .lit v, py => match py with
    | .Constant c _ _ => litC c v
    | _ => false
  | .glb v, py => match py with
    | .Name x _ => C.isGl x && (match C.glbs.lookup x with | some w => dataEq v w | none => false)
    | _ => false
  | .gix kvs e, py => match py with
    | .Subscript (.Name x _) y _ => notSlice y && C.isGl x && (match C.gds.lookup x with | some w => kvEq kvs w | none => false) && chk C e y
    | _ => false
  | .bin o a b, py => match py with
    | .BinOp x o2 y _ => decide (o = o2) && chk C a x && chk C b y
    | _ => false
  | .neg a, py => match py with
    | .UnaryOp .USub x _ => chk C a x
    | _ => false
  | .not a, py => match py with
    | .UnaryOp .Not x _ => chk C a x
    | _ => false
  | .and a b, py => match py with
    | .BoolOp .And (x :: y :: r) p => chk C a x && chk C b (.BoolOp .And (y :: r) p)
    | _ => false
  | .or a b, py => match py with
    | .BoolOp .Or (x :: y :: r) p => chk C a x && chk C b (.BoolOp .Or (y :: r) p)
    | _ => false
  | .one a, py => match py with
    | .BoolOp _ [x] _ => chk C a x
    | _ => false
  | .cmp o a b, py => match py with
    | .Compare x [o2] [y] _ => decide (o = o2) && notSet y && chk C a x && chk C b y
    | _ => false
  | .cmp2 o o' a b c, py => match py with
    | .Compare x [o2, o2'] [y, z] _ => decide (o = o2) && decide (o' = o2') && notSet y && notSet z && chk C a x && chk C b y && chk C c z
    | _ => false
  | .ife c a b, py => match py with
    | .IfExp t x y _ => chk C c t && chk C a x && chk C b y
    | _ => false
  | .tup es, py => match py with
    | .Tuple xs _ _ => chks C es xs
    | _ => false
  | .lst _ es, py => match py with
    | .List xs _ => chks C es xs
    | _ => false
  | .frz a, py => match py with
    | .Name .. => chk C a py
    | .Attribute .. => chk C a py
    | _ => false
  | .rev a, py => match py with
    | .Subscript x (.Slice none none (some (.UnaryOp .USub (.Constant (.int 1) _ _) _)) _) _ => chk C a x
    | _ => false
  | .dctE _, py => match py with
    | .Dict [] [] _ => true
    | _ => false
  | .dct ks es, py => match py with
    | .Dict keys vals _ => !ks.isEmpty && decide (ks.length ≤ 15) && decide (keys.length = vals.length) && keysAre ks keys && chks C es vals
    | _ => false
  | .fld a f cs, py => match py with
    | .Attribute x g _ => decide (f = g) && notSuper x && cs.all (fun c => C.clsF.contains (c, f)) && chk C a x
    | _ => false
  | .meth c i m o es, py => match py with
    | .Call (.Attribute x m' q) ys [] p => decide (m = m') && (q.endLine == p.line) && decide (ys.length ≤ 20) && notSuper x && C.meths.contains (c, m, i) && chk C o x && chks C es ys
    | _ => false
  | .new c i es, py => match py with
    | .Call (.Name x _) ys [] _ => !C.tr && C.isGl x && decide (x = c) && C.news.contains (c, i) && chks C es ys
    | _ => false
  | .callT fs i es, py => match py with
    | .Call (.Subscript (.List xs _) y _) (z :: zs) [] _ => notSlice y && decide (fs.length ≤ 20) && fnsAre C fs xs && chk C i y && chks C es (z :: zs)
    | _ => false
  | .callD f es dv, py => match py with
    | .Call (.Name x _) (y :: ys) [] _ => C.isGl x && decide (C.fns[f]? = some (some x)) && C.defs.any (fun q => q.1 == f && datasEq dv q.2) && chks C es (y :: ys)
    | _ => false
  | .mcall m o es, py => match py with
    | .Call (.Attribute x f q) ys [] p => decide (f = mthN m) && (q.endLine == p.line) && notSuper x && decide (ys.length = mthA m) && chk C o x && chks C es ys
    | _ => false
  | .ix a b, py => match py with
    | .Subscript x y _ => notSlice y && chk C a x && chk C b y
    | _ => false
  | .sl a lo hi, py => match py with
    | .Subscript x (.Slice l h none _) _ => chk C a x && chko C lo l && chko C hi h
    | _ => false
  | .bi f a, py => match py with
    | .Call (.Name x _) [y] [] _ => decide (x = bi1N f) && C.isBl x && notStar y && chk C a y && biRp C f
    | _ => false
  | .mx2 m a b, py => match py with
    | .Call (.Name x _) [y, z] [] _ => decide (x = if m then ("max" : Str) else "min") && C.isBl x && notStar y && notStar z && chk C a y && chk C b z
    | _ => false
  | .mxd m a z, py => match py with
    | .Call (.Name x _) [y] [⟨some kn, y2, _⟩] _ => decide (x = if m then ("max" : Str) else "min") && C.isBl x && notStar y && decide (kn = ("default" : Str)) && chk C a y && chk C z y2
    | _ => false
  | .dk1 k v, py => match py with
    | .Dict [some x] [y] _ => chk C k x && chk C v y
    | _ => false
  | .dget o k z, py => match py with
    | .Call (.Attribute x f q) [y, y2] [] p => decide (f = ("get" : Str)) && (q.endLine == p.line) && notSuper x && notStar y && notStar y2 && chk C o x && chk C k y && chk C z y2
    | _ => false
  | .dpop o k, py => match py with
    | .Call (.Attribute x f q) [y] [] p => decide (f = ("pop" : Str)) && (q.endLine == p.line) && notSuper x && notStar y && chk C o x && chk C k y
    | _ => false
  | .clr o, py => match py with
    | .Call (.Attribute x f q) [] [] p => decide (f = ("clear" : Str)) && (q.endLine == p.line) && notSuper x && chk C o x
    | _ => false
  | .fnv x, py => match py with
    | .Name y _ => C.isGl y && decide (x = y) && C.fns.contains (some x)
    | _ => false
  | .callV i fs es, py => match py with
    | .Call (.Name x _) (y :: ys) [] _ => C.slot i x && C.isVis x && fs.all (fun q => decide (C.fns[q.2]? = some (some q.1))) && chks C es (y :: ys)
    | _ => false
  | .split c o e, py => match py with
    | .Call (.Attribute x f q) [y] [] p => decide (f = ("split" : Str)) && (q.endLine == p.line) && notSuper x && notStar y && chk C o x && chk C e y
    | _ => false
  | .slc a lo hi, py => match py with
    | .Subscript x (.Slice l h none _) _ => chk C a x && chko C lo l && chko C hi h
    | _ => false
  | .gin n kvs e, py => match py with
    | .Compare y [o] [.Name x _] _ => decide (o = if n = true then CmpOp.NotIn else CmpOp.In) && C.isGl x && (match C.gds.lookup x with | some w => kvEqT kvs w | none => false) && chk C e y
    | _ => false
  | .gixIn kvs a e, py => match py with
    | .Compare v [.In] [.Subscript (.Name x _) y _] _ => notSlice y && C.isGl x && (match C.gds.lookup x with | some w => kvEqT kvs w | none => false) && chk C a v && chk C e y
    | _ => false
  | .sset _ a, py => match py with
    | .Call (.Name x _) [.Call (.Name z _) [y] [] _] [] _ => decide (x = ("sorted" : Str)) && C.isBl x && decide (z = ("set" : Str)) && C.isBl z && notStar y && chk C a y
    | _ => false
  | .lset a, py => match py with
    | .Call (.Name x _) [.Call (.Name z _) [y] [] _] [] _ => decide (x = ("len" : Str)) && C.isBl x && decide (z = ("set" : Str)) && C.isBl z && notStar y && chk C a y
    | _ => false
  | .stp a e, py => match py with
    | .Subscript x (.Slice none none (some y) _) _ => chk C a x && chk C e y
    | _ => false
  | .mkx c np fs es, py => match py with
    | .Call (.Name x _) (y :: ys) [] _ => C.isGl x && decide (c = x) && C.xcls.any (fun q => q.1 == c && q.2.1 == np && fesEq fs q.2.2) && (!fs.isEmpty || isText1 es) && decide (np ≤ 100) && chks C es (y :: ys)
    | _ => false
  | .xfl c f a, py => match py with
    | .Attribute x g _ => decide (f = g) && C.xfld.contains (c, f) && notSuper x && chk C a x
    | _ => false
  | .isx tb a, py => match py with
    | .Call (.Name i _) [x, .Name T _] [] _ => decide (i = ("isinstance" : Str)) && C.isBl i && notStar x && chk C a x && ((C.isGl T && C.hcs.contains T && tb.all (fun q => C.xtab.contains ((q.1, T), q.2) && C.xisc.contains q.1)) || (decide (T = ("ValueError" : Str)) && C.isBl T && tb.all (fun q => q.2 && C.xisc.contains q.1)))
    | _ => false
  | .isi T a, py => match py with
    | .Call (.Name x _) [y, .Name t _] [] _ => decide (x = ("isinstance" : Str)) && C.isBl x && decide (t = Str.ofString T) && C.isBl t && isiOkT T && notStar y && chk C a y
    | _ => false
  | .call f es, py => match py with
    | .Call (.Name x _) (y :: ys) [] _ => C.isGl x && decide (C.fns[f]? = some (some x)) && chks C es (y :: ys)
    | _ => false
  | .join a b, py => match py with
    | .Call (.Attribute x m q) [y] [] p => decide (m = ("join" : Str)) && (q.endLine == p.line) && notSuper x && notStar y && chk C a x && chk C b y
    | _ => false
  | .lc _ own tg it cond elt, py => match py with
    | .ListComp x [⟨t, i, ifs, 0⟩] scope _ => 
      blkC C.N C.sc scope (own.map fun j => ((C.N[j]?).getD "", j)) && (tgVars tg).all (fun j => own.contains j) &&
      (let C' : Ctx := { C with sc := relS scope C.sc, fnC := false, tr := false, rp := false }
       chkT C' tg t && chki C it i t && chkc C' cond ifs && chk C' elt x)
    | _ => false
def chks (C : Ctx) : MEs → List Expr → Bool
  | .nil, [] => true
  | .cons e r, x :: xs => notStar x && chk C e x && chks C r xs
  | _, _ => false
def chko (C : Ctx) : MO → Option Expr → Bool
  | .none, none => true
  | .some e, some x => chk C e x
  | _, _ => false
def chkc (C : Ctx) : MO → List Expr → Bool
  | .none, [] => true
  | .some e, [x] => chk C e x
  | _, _ => false
def chki (C : Ctx) : MI → Expr → Expr → Bool
  | .seq e, x, _ => notSet x && chk C e x
  | .rng1 a, py, _ => match py with
    | .Call (.Name f _) [x] [] _ => decide (f = ("range" : Str)) && C.isBl f && notStar x && chk C a x
    | _ => false
  | .rng2 a b, py, _ => match py with
    | .Call (.Name f _) [x, y] [] _ => decide (f = ("range" : Str)) && C.isBl f && notStar x && notStar y && chk C a x && chk C b y
    | _ => false
  | .enum a, py, t => match py with
    | .Call (.Name f _) [x] [] _ => decide (f = ("enumerate" : Str)) && C.isBl f && isTup t && notStar x && chk C a x
    | _ => false
  | .zip a b, py, t => match py with
    | .Call (.Name f _) [x, y] [] _ => decide (f = ("zip" : Str)) && C.isBl f && isTup t && notStar x && notStar y && chk C a x && chk C b y
    | _ => false
  | .view b a, py, t => match py with
    | .Call (.Attribute x m q) [] [] p => decide (m = if b = true then ("items" : Str) else "values") && (q.endLine == p.line) && notSuper x && (!b || isTup t) && chk C a x
    | _ => false
  | .rev a, py, _ => match py with
    | .Call (.Name f _) [x] [] _ => decide (f = ("reversed" : Str)) && C.isBl f && notStar x && chk C a x
    | _ => false
end
end MP

set_option Elab.async false
set_option linter.all false
set_option autoImplicit false
set_option maxRecDepth 100000
set_option maxHeartbeats 2000000
/-! the meaning is right: expressions -/
namespace MP
open PySem PySem.Spec PyProof.Rows L2

def spOf (K : PySem.W.Frag) (XR : XRT) (sem : List D → Store → R D) : Sp := fun vs H Q E => ∃ ds st F φ, SR K F φ st H ∧ RDs K F φ vs ds ∧ Sat K XR E (QE K Q) F φ (sem ds st)
def FnE (X : Cx) (XR : XRT) (f : Str) (sem : List D → Store → R D) : Prop :=
  ∃ k fa fd ps, FnOk X.prog X.w X.K X.mg X.base (L2.CX X.prog X.w) k fa fd ps (spOf X.K XR sem) ∧ Room k X.A ∧ (X.mg f = some (.ref fa) ∧ clsAt X.K f fa) ∧ PySem.W.keepIn X.K (.ref fa) = true ∧ Binds X.K fd ps []
/-- an exception's own __init__ -/
def spInit (K : PySem.W.Frag) (A : Addr) (np : Nat) (fs : List (Str × FE)) : Sp := fun vs H Q _ => ∃ a ws ds st F φ, vs = .ref a :: ws ∧ ws.length = np ∧ H a = some (exo a A none) ∧ F a = none ∧ a ∉ φ ∧ SR K F φ st H ∧ RDs K F φ ws ds ∧
  match mkX ds fs [] st with
  | .ok xs st' => ∀ F' φ' H2 d gs, Ext F φ F' φ' → SR K F' φ' st' H2 → H2 a = some (exo a A (some d)) → H2 d = some (exd d gs) → H d = none → F' d = none → d ∉ φ' → F' a = none → a ∉ φ' → RNs K F' φ' gs xs → Q .non H2
  | _ => False
abbrev veBases : List Value := [.type "ValueError", .type "Exception", .type "BaseException", .type "object"]
/-- what must be known of an exception class to raise it -/
def XMk (X : Cx) (c : Str) (np : Nat) (fs : List (Str × FE)) : Prop :=
  ∃ A, clsAt X.K c A ∧ X.mg c = some (.ref A) ∧ Raises X (.ref A) ∧
    ((fs = [] ∧ PySem.W.keepIn X.K (.ref A) = true ∧ PySem.W.excIn X.K A veBases "ValueError.__new__" = true) ∨
      (OexC X.K A ∧ ∃ k fI fd ps, PySem.W.findIn X.K (.ref A) "__init__" = some (some (.ref fI)) ∧ PySem.W.typeIn X.K (.ref fI) = some (.type "function") ∧ FnOk X.prog X.w X.K X.mg X.base (L2.CX X.prog X.w) k fI fd ps (spInit X.K A np fs) ∧ Room (k + 1) X.A ∧ Binds X.K fd ps []))
structure WF (X : Cx) (C : Ctx) (G : Sem1) (XR : XRT) (E : EK) : Prop where
  N : X.N = C.N
  sc : X.env.scope = C.sc
  nd : X.N.Nodup
  calm : X.calm = true
  fn : C.fnC = true → ∀ x, X.fn x = true
  glb : ∀ x d, C.glbs.lookup x = some d → ∃ u v, X.mg x = some u ∧ RelV v u ∧ Dp X.K (fun _ => none) v d
  gds : ∀ x kvs, C.gds.lookup x = some kvs → ∃ p, X.mg x = some (.ref p) ∧ (p == sysModules) = false ∧ ∀ z d, kvs.lookup z = some d → ∃ v, KDct X.K X.w p z v ∧ L2.Dp X.K (fun _ => none) v d
  bl : ∀ x, x ∈ C.bl → X.mg x = none
  fns : ∀ (i : Nat) (f : Str), C.fns[i]? = some (some f) → FnE X XR f (G i)
  clf : ∀ c f, (c, f) ∈ C.clsF → ∃ A, clsAt X.K c A ∧ Cls X.K A ∧ NoAttr X.K A f
  mts : ∀ c m i, (c, m, i) ∈ C.meths → ∃ A k fa fd ps, clsAt X.K c A ∧ Cls X.K A ∧ Meth X.K A m fa ∧ FnOk X.prog X.w X.K X.mg X.base (L2.CX X.prog X.w) k fa fd ps (spOf X.K XR (G i)) ∧ Room k X.A ∧ Binds X.K fd ps []
  nws : ∀ c i, (c, i) ∈ C.news → ∃ A k fa fd ps, clsAt X.K c A ∧ X.mg c = some (.ref A) ∧ Mk X.K A fa ∧ FnOk X.prog X.w X.K X.mg X.base (L2.CX X.prog X.w) k fa fd ps (spOf X.K XR (G i)) ∧ Room (k + 1) X.A ∧ Binds X.K fd ps []
  dfs : ∀ i dv f, (i, dv) ∈ C.defs → C.fns[i]? = some (some f) → ∃ k fa fd ps ds dvs, FnOk X.prog X.w X.K X.mg X.base (L2.CX X.prog X.w) k fa fd ps (spOf X.K XR (G i)) ∧ Room k X.A ∧ X.mg f = some (.ref fa) ∧ PySem.W.keepIn X.K (.ref fa) = true ∧ Binds X.K fd ps ds ∧ Vals dvs ds ∧ DpAll X.K (fun _ => none) dvs dv
  xmk : ∀ c np fs, (c, np, fs) ∈ C.xcls → XMk X c np fs
  xmt : ∀ c d b, ((c, d), b) ∈ C.xtab → ∃ A B, clsAt X.K c A ∧ clsAt X.K d B ∧ X.mg d = some (.ref B) ∧ PySem.W.exmOne X.K (.ref A) (.ref B) = some b
  xcf : ∀ c f, (c, f) ∈ C.xfld → ∃ A, clsAt X.K c A ∧ XfC X.K A ∧ PySem.W.findIn X.K (.ref A) f = some none
  hcl : ∀ d, d ∈ C.hcs → ∃ B, clsAt X.K d B ∧ X.mg d = some (.ref B)
  xis : ∀ c, c ∈ C.xisc → ∃ A, clsAt X.K c A ∧ ExcC X.K A ∧ PySem.W.subIn X.K (.ref A) (.ref A) = some true ∧ PySem.W.subIn X.K (.ref A) (.type "ValueError") = some true
  pas : C.tr = false → ∃ E0 : XK, E = (fun _ => E0) ∧ Passes (L2.CX X.prog X.w) X E0
  px : ∀ σ, PassesAt (L2.CX X.prog X.w) X σ (E σ)
  un : X.A.units + 200 < cLine
  gd : C.rp = true → X.A.guards = some []

section
variable {X : Cx} {C : Ctx} {G : Sem1} {XR : XRT} {E : EK}
/-- the body of a try -/
theorem WF.tr (h : WF X C G XR E) (W : WX) (pn : List (Addr × Obj)) (xe : Value → Shared → Prop) (tk : Takes (X.tr pn xe) W) : WF (X.tr pn xe) { C with tr := true } G XR (WE W) :=
  ⟨h.N, h.sc, h.nd, h.calm, h.fn, h.glb, h.gds, h.bl, h.fns, h.clf, h.mts, h.nws, h.dfs, h.xmk, h.xmt, h.xcf, h.hcl, h.xis, (fun z => nomatch z), fun σ => passAt tk σ, h.un, h.gd⟩
theorem WF.tr0 (h : WF X C G XR E) (pn : List (Addr × Obj)) (xe : Value → Shared → Prop) : WF (X.tr pn xe) { C with tr := false } G XR (fun _ => E0) :=
  ⟨h.N, h.sc, h.nd, h.calm, h.fn, h.glb, h.gds, h.bl, h.fns, h.clf, h.mts, h.nws, h.dfs, h.xmk, h.xmt, h.xcf, h.hcl, h.xis, (fun _ => ⟨E0, rfl, passL⟩), (fun σ pins H s e s' I => passL pins σ H s e s' I), h.un, h.gd⟩
theorem WF.blk (h : WF X C G XR E) (s : Shared) (H : Hp) (scope : Scope) (cl : List (Str × Addr)) (Ca : Addr) (fp : List Addr) :
    WF (X.blk s H scope (compEnvC scope cl Ca X.env) fp) { C with sc := relS scope C.sc, fnC := false, tr := false, rp := false } G XR fun _ => E0 :=
  ⟨h.N, (by rw [← h.sc]; rfl), h.nd, h.calm, (fun z => nomatch z), h.glb, h.gds, h.bl, (fun i f hf => h.fns i f hf), h.clf, (fun c m i hi => h.mts c m i hi), (fun c i hi => h.nws c i hi), (fun i dv f hi hf => h.dfs i dv f hi hf), (fun c np fs hi => h.xmk c np fs hi), (fun c d b hi => h.xmt c d b hi), (fun c f hi => h.xcf c f hi), (fun d hd => h.hcl d hd), (fun c hc => h.xis c hc), (fun _ => ⟨E0, rfl, passL⟩), fun σ pins H s e s' I => passL pins σ H s e s' I, h.un, fun z => nomatch z⟩
theorem okName_of {x : Str} (h : okName x = true) : (x == ("__debug__" : Str)) = false ∧ (x == ("__classdict__" : Str)) = false ∧ x ≠ "__name__" := by
  unfold okName at h
  simp only [Bool.and_eq_true, Bool.not_eq_true'] at h
  exact ⟨h.1.1, h.1.2, fun e => by have := h.2; rw [e] at this; simp at this⟩
theorem slot_of {i : Nat} {x : Str} (h : C.slot i x = true) : okName x = true ∧ C.N[i]? = some x := by
  unfold Ctx.slot at h
  simp only [Bool.and_eq_true, decide_eq_true_eq] at h
  exact h
theorem vis_of {x : Str} (h : C.isVis x = true) : Vis C.sc x := by
  unfold Ctx.isVis at h
  split at h
  · rename_i e; exact .inl e
  · rename_i e; exact .inr (.inl e)
  · rename_i e; exact .inr (.inr e)
  · cases h
theorem gl_of (w : WF X C G XR E) {x : Str} (h : C.isGl x = true) : okName x = true ∧ Gl X x := by
  unfold Ctx.isGl at h
  simp only [Bool.and_eq_true, decide_eq_true_eq] at h
  refine ⟨h.1, ?_⟩
  show X.env.scope.names.lookup x = some .globalImplicit
  rw [w.sc]
  exact h.2
theorem bl_of (w : WF X C G XR E) {x : Str} (h : C.isBl x = true) : okName x = true ∧ Gl X x ∧ X.mg x = none := by
  unfold Ctx.isBl at h
  simp only [Bool.and_eq_true] at h
  obtain ⟨h1, h2⟩ := gl_of w h.1
  exact ⟨h1, h2, w.bl x (by simpa using h.2)⟩
theorem star1 {e : Expr} {es : List Expr} {env : PySem.Env} (h : notStar e = true) : starEach (e :: es) env = (false, eval e env) :: starEach es env := by
  cases e <;> first | rfl | cases h
theorem chks_plain {pos : Pos} {env : PySem.Env} : ∀ {es : MEs} {xs : List Expr}, chks C es xs = true → (backTo pos (starEach xs env)).any (·.1) = false
  | .nil, [], _ => rfl
  | .cons e r, x :: xs, h => by
    simp only [chks, Bool.and_eq_true] at h
    rw [star1 h.1.1]
    show (false || (backTo pos (starEach xs env)).any (·.1)) = false
    rw [chks_plain h.2]
    rfl
  | .nil, _ :: _, h => by simp [chks] at h
  | .cons _ _, [], h => by simp [chks] at h

/-! ### chains of readings -/
theorem rE_bind {m : Env → Store → R D} {k : Env → D → Store → R D} {σ : L2.St} {H : Hp} {Q R' : VK} (h : rE X.K XR E (fun env st => (m env st).bind (k env)) σ H Q)
    (f : ∀ env st F φ H v d, SR X.K F φ st H → ER X.K F φ env σ → RD X.K F φ v d → Sat X.K XR (E σ) (QE X.K Q) F φ (k env d st) → R' v H) : rE X.K XR E m σ H R' := by
  obtain ⟨env, st, F, φ, S, r, h⟩ := h
  exact ⟨env, st, F, φ, S, r, Sat.bind h fun a st1 F1 φ1 H1 e1 S1 h1 v rv => f env st1 F1 φ1 H1 v a S1 (r.mono e1) rv h1⟩
theorem pt_of_pe {py : Expr} {m : MD} (h : PE X py (rE X.K XR E m)) (he : ∀ whole, isTrue py X.env whole = (do let v ← whole; standAt py.pos; holding [v] (truthy v))) :
    PT X py (rT X.K XR E fun env st => truR (m env st)) := by
  refine PT.imp (pt_truth h he) fun σ H Q hq => ?_
  obtain ⟨env, st, F, φ, S, r, hq⟩ := hq
  refine ⟨env, st, F, φ, S, r, Sat.bind hq fun a st1 F1 φ1 H1 e1 S1 h1 v rv => ?_⟩
  cases e : tru a st1 with
  | none => rw [e] at h1; exact h1.elim
  | some k =>
    rw [e] at h1
    exact ⟨k, MP.tru_ok S1 rv e, h1.ok S1⟩
/-- what is shown of an expression -/
structure OkP (X : Cx) (XR : XRT) (E : EK) (py : Expr) (m : MD) : Prop where
  pe : PE X py (rE X.K XR E m)
  pt : PT X py (rT X.K XR E fun env st => truR (m env st))
  pw : ∀ op vs pos, py = .BoolOp op vs pos → PW X py (rT X.K XR E fun env st => truR (m env st))
theorem OkP.plain {py : Expr} {m : MD} (h : PE X py (rE X.K XR E m)) (he : ∀ whole, isTrue py X.env whole = (do let v ← whole; standAt py.pos; holding [v] (truthy v))) (hn : ∀ op vs pos, py ≠ .BoolOp op vs pos) : OkP X XR E py m :=
  ⟨h, pt_of_pe h he, fun op vs pos e => absurd e (hn op vs pos)⟩
theorem truR_bind {α : Type} (r : R α) (k : α → Store → R D) : truR (r.bind k) = r.bind fun a st => truR (k a st) := by
  cases r <;> rfl

theorem ok_var (w : WF X C G XR E) {i : Nat} {x : Str} {pos : Pos} (h : (C.slot i x && C.isVis x) = true) : OkP X XR E (.Name x pos) (ev G (.var i)) := by
  simp only [Bool.and_eq_true] at h
  obtain ⟨h1, h2⟩ := slot_of h.1
  obtain ⟨d1, d2, _⟩ := okName_of h1
  refine .plain (PE.imp (pe_var (i := i) (by rw [w.N]; exact h2) (by rw [w.sc]; exact vis_of h.2) d1 d2) fun σ H Q hq => ?_) (fun _ => rfl) (fun _ _ _ e => nomatch e)
  obtain ⟨env, st, F, φ, S, r, hq⟩ := hq
  simp only [ev, varD] at hq
  split at hq
  · rename_i d e
    obtain ⟨v, h1, h2⟩ := r.val i d e
    exact ⟨v, h1, sat_val S h2 hq⟩
  · exact hq.elim
theorem ok_lit {v : PyData} {c : Const} {j : Nat} {pos : Pos} (h : litC c v = true) : OkP X XR E (.Constant c j pos) (ev G (.lit v)) := by
  refine .plain ?_ (fun _ => rfl) (fun _ _ _ e => nomatch e)
  unfold litC at h
  split at h
  · refine PE.imp pe_non fun σ H Q hq => ?_
    obtain ⟨env, st, F, φ, S, r, hq⟩ := hq
    simp only [ev] at hq
    exact sat_val S rd_non hq
  · cases eq_of_beq h
    refine PE.imp pe_bl fun σ H Q hq => ?_
    obtain ⟨env, st, F, φ, S, r, hq⟩ := hq
    simp only [ev] at hq
    exact sat_val S rd_bl hq
  · cases eq_of_beq h
    refine PE.imp pe_int fun σ H Q hq => ?_
    obtain ⟨env, st, F, φ, S, r, hq⟩ := hq
    simp only [ev] at hq
    exact sat_val S rd_int hq
  · cases eq_of_beq h
    refine PE.imp pe_str fun σ H Q hq => ?_
    obtain ⟨env, st, F, φ, S, r, hq⟩ := hq
    simp only [ev] at hq
    exact sat_val S rd_str hq
  · cases h
theorem dataEq_eq {x y : PyData} (h : dataEq x y = true) : x = y := by
  unfold dataEq at h
  split at h <;> first | (rw [eq_of_beq h]) | rfl | cases h
theorem ok_glb (w : WF X C G XR E) {v : PyData} {x : Str} {pos : Pos} (h : (C.isGl x && (match C.glbs.lookup x with | some w => dataEq v w | none => false)) = true) : OkP X XR E (.Name x pos) (ev G (.glb v)) := by
  rw [Bool.and_eq_true] at h
  obtain ⟨h1, h2⟩ := gl_of w h.1
  have h3 := h.2
  split at h3
  · rename_i d e
    cases dataEq_eq h3
    obtain ⟨u, z, hm, hr, hd⟩ := w.glb x _ e
    refine .plain (PE.imp (pe_glob h2 hm hr (okName_of h1).1) fun σ H Q hq => ?_) (fun _ => rfl) (fun _ _ _ e => nomatch e)
    obtain ⟨env, st, F, φ, S, r, hq⟩ := hq
    simp only [ev] at hq
    exact sat_val S (show RD X.K F φ z (.p v) from dp_mono (fun _ _ q => (by cases q)) hd) hq
  · cases h3
theorem kvEq_eq : ∀ {a b : List (Str × PyData)}, kvEq a b = true → a = b
  | [], [], _ => rfl
  | (x, u) :: r, (y, v) :: r', h => by
    simp only [kvEq, Bool.and_eq_true] at h
    rw [eq_of_beq h.1.1, dataEq_eq h.1.2, kvEq_eq h.2]
  | [], _ :: _, h => by cases h
  | _ :: _, [], h => by cases h
theorem ok_bin {o : Operator} {a b : ME} {x y : Expr} {pos : Pos} (ha : OkP X XR E x (ev G a)) (hb : OkP X XR E y (ev G b)) : OkP X XR E (.BinOp x o y pos) (ev G (.bin o a b)) := by
  refine .plain (PE.imp (pe_op (o_bin (XR := XR) o) ha.pe hb.pe) fun σ H Q hq => ?_) (fun _ => rfl) (fun _ _ _ e => nomatch e)
  obtain ⟨env, st, F, φ, S, r, hq⟩ := hq
  simp only [ev] at hq
  exact ⟨env, st, F, φ, S, r, Sat.bind hq fun a st1 F1 φ1 H1 e1 S1 h1 x rx => ⟨env, st1, F1, φ1, S1, r.mono e1, Sat.bind h1 fun b st2 F2 φ2 H2 e2 S2 h2 y ry => ⟨_, a, b, st2, F2, φ2, S2, rx.mono e2, ry, h2⟩⟩⟩
theorem ok_neg {a : ME} {x : Expr} {pos : Pos} (ha : OkP X XR E x (ev G a)) : OkP X XR E (.UnaryOp .USub x pos) (ev G (.neg a)) := by
  refine .plain (PE.imp (pe_un (o_neg (XR := XR)) ha.pe) fun σ H Q hq => ?_) (fun _ => rfl) (fun _ _ _ e => nomatch e)
  obtain ⟨env, st, F, φ, S, r, hq⟩ := hq
  simp only [ev] at hq
  exact ⟨env, st, F, φ, S, r, Sat.bind hq fun a st1 F1 φ1 H1 e1 S1 h1 x rx => ⟨_, a, st1, F1, φ1, S1, rx, h1⟩⟩
theorem ok_not {a : ME} {x : Expr} {pos : Pos} (ha : OkP X XR E x (ev G a)) : OkP X XR E (.UnaryOp .Not x pos) (ev G (.not a)) := by
  refine ⟨PE.imp (pe_notT ha.pe) fun σ H Q hq => ?_, PT.imp (pt_not ha.pt) fun σ H Q hq => ?_, fun _ _ _ e => nomatch e⟩
  · obtain ⟨env, st, F, φ, S, r, hq⟩ := hq
    simp only [ev] at hq
    unfold truR at hq
    refine ⟨env, st, F, φ, S, r, ?_⟩
    cases hm : ev G a env st with
    | bad => rw [hm] at hq; exact hq.elim
    | ex c st1 => rw [hm] at hq; exact hq
    | ok d st1 =>
      rw [hm] at hq
      simp only [R.bind_ok] at hq
      intro F1 φ1 H1 e1 S1 v rv
      cases e : tru d st1 with
      | none => rw [e] at hq; exact hq.elim
      | some k =>
        rw [e] at hq
        exact ⟨k, MP.tru_ok S1 rv e, sat_val S1 rd_bl (hq.ext e1)⟩
  · obtain ⟨env, st, F, φ, S, r, hq⟩ := hq
    simp only [ev, truR_bind] at hq
    exact ⟨env, st, F, φ, S, r, Sat.bind hq fun k st1 F1 φ1 H1 e1 S1 h1 => h1.ok S1⟩
theorem truR_and (r : R D) (k : Store → R D) : (r.bind fun x st => truR (match tru x st with | some true => k st | some false => .ok x st | none => .bad)) = (truR r).bind fun b st => if b = true then truR (k st) else .ok false st := by
  cases r with
  | bad => rfl
  | ex c st => rfl
  | ok d st =>
    unfold truR
    simp only [R.bind_ok]
    cases e : tru d st with
    | none => rfl
    | some b => cases b <;> simp [e]
theorem truR_or (r : R D) (k : Store → R D) : (r.bind fun x st => truR (match tru x st with | some true => .ok x st | some false => k st | none => .bad)) = (truR r).bind fun b st => if b = true then .ok true st else truR (k st) := by
  cases r with
  | bad => rfl
  | ex c st => rfl
  | ok d st =>
    unfold truR
    simp only [R.bind_ok]
    cases e : tru d st with
    | none => rfl
    | some b => cases b <;> simp [e]
theorem ok_one {a : ME} {x : Expr} {op : PySem.BoolOp} {pos : Pos} (ha : OkP X XR E x (ev G a)) : OkP X XR E (.BoolOp op [x] pos) (ev G (.one a)) := by
  have hw : PW X (.BoolOp op [x] pos) (rT X.K XR E fun env st => truR (ev G a env st)) := by
    cases op with
    | And => exact pw_and1 ha.pt
    | Or => exact pw_or1 ha.pt
  refine ⟨PE.imp (pe_one ha.pe) fun σ H Q hq => ?_, PT.imp hw.pt fun σ H Q hq => ?_, fun op' vs pos' e => ?_⟩
  · simpa only [rE, ev] using hq
  · simpa only [rT, ev] using hq
  · cases e
    refine PW.imp hw fun σ H Q hq => ?_
    simpa only [rT, ev] using hq
theorem ok_and {a b : ME} {x y : Expr} {r : List Expr} {pos : Pos} (ha : OkP X XR E x (ev G a)) (hb : OkP X XR E (.BoolOp .And (y :: r) pos) (ev G b)) : OkP X XR E (.BoolOp .And (x :: y :: r) pos) (ev G (.and a b)) := by
  have hw : PW X (.BoolOp .And (x :: y :: r) pos) (rT X.K XR E fun env st => truR (ev G (.and a b) env st)) := by
    refine PW.imp (pw_and ha.pt (hb.pw _ _ _ rfl)) fun σ H Q hq => ?_
    obtain ⟨env, st, F, φ, S, r, hq⟩ := hq
    simp only [ev, truR_bind] at hq
    refine ⟨env, st, F, φ, S, r, ?_⟩
    have hq2 : Sat X.K XR (E σ) (QT Q) F φ ((truR (ev G a env st)).bind fun b' st => if b' = true then truR (ev G b env st) else .ok false st) := by
      rw [← truR_and (ev G a env st) (ev G b env)]
      exact hq
    refine Sat.bind hq2 fun k st1 F1 φ1 H1 e1 S1 h1 => ?_
    cases k with
    | true => exact ⟨env, st1, F1, φ1, S1, r.mono e1, h1⟩
    | false => exact h1.ok S1
  refine ⟨PE.imp (pe_andT ha.pe hb.pe) fun σ H Q hq => ?_, hw.pt, fun op' vs pos' e => by cases e; exact hw⟩
  obtain ⟨env, st, F, φ, S, r, hq⟩ := hq
  simp only [ev] at hq
  refine ⟨env, st, F, φ, S, r, Sat.bind hq fun d st1 F1 φ1 H1 e1 S1 h1 v rv => ?_⟩
  cases e : tru d st1 with
  | none => rw [e] at h1; exact h1.elim
  | some k =>
    rw [e] at h1
    refine ⟨k, MP.tru_ok S1 rv e, ?_⟩
    cases k with
    | true => exact ⟨env, st1, F1, φ1, S1, r.mono e1, h1⟩
    | false => exact sat_val S1 rv h1
theorem ok_or {a b : ME} {x y : Expr} {r : List Expr} {pos : Pos} (ha : OkP X XR E x (ev G a)) (hb : OkP X XR E (.BoolOp .Or (y :: r) pos) (ev G b)) : OkP X XR E (.BoolOp .Or (x :: y :: r) pos) (ev G (.or a b)) := by
  have hw : PW X (.BoolOp .Or (x :: y :: r) pos) (rT X.K XR E fun env st => truR (ev G (.or a b) env st)) := by
    refine PW.imp (pw_or ha.pt (hb.pw _ _ _ rfl)) fun σ H Q hq => ?_
    obtain ⟨env, st, F, φ, S, r, hq⟩ := hq
    simp only [ev, truR_bind] at hq
    refine ⟨env, st, F, φ, S, r, ?_⟩
    have hq2 : Sat X.K XR (E σ) (QT Q) F φ ((truR (ev G a env st)).bind fun b' st => if b' = true then .ok true st else truR (ev G b env st)) := by
      rw [← truR_or (ev G a env st) (ev G b env)]
      exact hq
    refine Sat.bind hq2 fun k st1 F1 φ1 H1 e1 S1 h1 => ?_
    cases k with
    | true => exact h1.ok S1
    | false => exact ⟨env, st1, F1, φ1, S1, r.mono e1, h1⟩
  refine ⟨PE.imp (pe_orT ha.pe hb.pe) fun σ H Q hq => ?_, hw.pt, fun op' vs pos' e => by cases e; exact hw⟩
  obtain ⟨env, st, F, φ, S, r, hq⟩ := hq
  simp only [ev] at hq
  refine ⟨env, st, F, φ, S, r, Sat.bind hq fun d st1 F1 φ1 H1 e1 S1 h1 v rv => ?_⟩
  cases e : tru d st1 with
  | none => rw [e] at h1; exact h1.elim
  | some k =>
    rw [e] at h1
    refine ⟨k, MP.tru_ok S1 rv e, ?_⟩
    cases k with
    | true => exact sat_val S1 rv h1
    | false => exact ⟨env, st1, F1, φ1, S1, r.mono e1, h1⟩
theorem nomarkS {b : Expr} (h : notSet b = true) (op : CmpOp) : behindInMarks op b = false := by
  cases b <;> first | rfl | cases h
/-- a comparison gives a truth -/
theorem cmpD_bool {o : CmpOp} {x y d : D} {st st' : Store} (h : cmpD o x y st = .ok d st') : ∃ k, d = .p (.bool k) ∧ st' = st := by
  have ord : ∀ op, ordD op x y st = .ok d st' → ∃ k, d = .p (.bool k) ∧ st' = st := by
    intro op h
    unfold ordD at h
    repeat' split at h
    all_goals first | (cases h; done) | (cases h; exact ⟨_, rfl, rfl⟩)
  have eqs : ∀ n, eqD n x y st = .ok d st' → ∃ k, d = .p (.bool k) ∧ st' = st := by
    intro n h
    unfold eqD at h
    repeat' split at h
    all_goals first | (cases h; done) | (cases h; exact ⟨_, rfl, rfl⟩)
  have ins : ∀ n, inD n x y st = .ok d st' → ∃ k, d = .p (.bool k) ∧ st' = st := by
    intro n h
    unfold inD inD0 at h
    repeat' split at h
    all_goals first | (cases h; done) | (cases h; exact ⟨_, rfl, rfl⟩)
  have iss : ∀ n, isD n x y st = .ok d st' → ∃ k, d = .p (.bool k) ∧ st' = st := by
    intro n h
    unfold isD at h
    repeat' split at h
    all_goals first | (cases h; done) | (cases h; exact ⟨_, rfl, rfl⟩)
  cases o with
  | Eq => exact eqs _ h
  | NotEq => exact eqs _ h
  | In => exact ins _ h
  | NotIn => exact ins _ h
  | Is => exact iss _ h
  | IsNot => exact iss _ h
  | Lt => exact ord .Lt h
  | LtE => exact ord .LtE h
  | Gt => exact ord .Gt h
  | GtE => exact ord .GtE h
theorem sat_cmp {o : CmpOp} {x y : D} {st : Store} {F : Hp} {φ : List Addr} {Q : Bool → Hp → Prop} {E : XK} (h : Sat X.K XR E (QT Q) F φ (truR (cmpD o x y st))) : Sat X.K XR E (QE X.K fun v H1 => ∃ k, v = .bl k ∧ Q k H1) F φ (cmpD o x y st) := by
  cases hm : cmpD o x y st with
  | bad => rw [hm] at h; exact h.elim
  | ex c st1 => rw [hm] at h; exact h
  | ok d st1 =>
    obtain ⟨k, rfl, rfl⟩ := cmpD_bool hm
    rw [hm] at h
    intro F1 φ1 H1 e1 S1 v rv
    exact ⟨k, rv.bl, h F1 φ1 H1 e1 S1⟩
theorem ok_cmp (w : WF X C G XR E) {o : CmpOp} {a b : ME} {x y : Expr} {pos : Pos} (hs : notSet y = true) (ha : OkP X XR E x (ev G a)) (hb : OkP X XR E y (ev G b)) : OkP X XR E (.Compare x [o] [y] pos) (ev G (.cmp o a b)) := by
  have hu := w.un
  refine ⟨PE.imp (pe_cmpR (o_cmp (XR := XR) hu o) ha.pe hb.pe (nomarkS hs o)) fun σ H Q hq => ?_, PT.imp (pt_cmpR (o_cmp (XR := XR) hu o) ha.pe hb.pe (nomarkS hs o)) fun σ H Q hq => ?_, fun _ _ _ e => nomatch e⟩
  · obtain ⟨env, st, F, φ, S, r, hq⟩ := hq
    simp only [ev] at hq
    exact ⟨env, st, F, φ, S, r, Sat.bind hq fun a st1 F1 φ1 H1 e1 S1 h1 x rx => ⟨env, st1, F1, φ1, S1, r.mono e1, Sat.bind h1 fun b st2 F2 φ2 H2 e2 S2 h2 y ry => ⟨_, a, b, st2, F2, φ2, S2, rx.mono e2, ry, h2⟩⟩⟩
  · obtain ⟨env, st, F, φ, S, r, hq⟩ := hq
    simp only [ev, truR_bind] at hq
    exact ⟨env, st, F, φ, S, r, Sat.bind hq fun a st1 F1 φ1 H1 e1 S1 h1 x rx => ⟨env, st1, F1, φ1, S1, r.mono e1, Sat.bind h1 fun b st2 F2 φ2 H2 e2 S2 h2 y ry => ⟨_, a, b, st2, F2, φ2, S2, rx.mono e2, ry, sat_cmp h2⟩⟩⟩
theorem ok_cmp2 (w : WF X C G XR E) {o o2 : CmpOp} {a b c : ME} {x y z : Expr} {pos : Pos} (hs : notSet y = true) (hs2 : notSet z = true) (ha : OkP X XR E x (ev G a)) (hb : OkP X XR E y (ev G b)) (hc : OkP X XR E z (ev G c)) :
    OkP X XR E (.Compare x [o, o2] [y, z] pos) (ev G (.cmp2 o o2 a b c)) := by
  have hu := w.un
  refine ⟨PE.imp (pe_chain (o_cmp (XR := XR) hu o) (o_cmp (XR := XR) hu o2) ha.pe hb.pe hc.pe (nomarkS hs2 o2)) fun σ H Q hq => ?_,
    PT.imp (pt_chain (o_cmp (XR := XR) hu o) (o_cmp (XR := XR) hu o2) ha.pe hb.pe hc.pe (nomarkS hs2 o2)) fun σ H Q hq => ?_, fun _ _ _ e => nomatch e⟩
  · obtain ⟨env, st, F, φ, S, r, hq⟩ := hq
    simp only [ev] at hq
    refine ⟨env, st, F, φ, S, r, Sat.bind hq fun a st1 F1 φ1 H1 e1 S1 h1 x rx => ⟨env, st1, F1, φ1, S1, r.mono e1, Sat.bind h1 fun b st2 F2 φ2 H2 e2 S2 h2 y ry => ⟨E σ, a, b, st2, F2, φ2, S2, rx.mono e2, ry, ?_⟩⟩⟩
    cases hm : cmpD o a b st2 with
    | bad => rw [hm] at h2; exact h2.elim
    | ex c st1 => rw [hm] at h2; exact h2
    | ok d st3 =>
      obtain ⟨k, rfl, rfl⟩ := cmpD_bool hm
      rw [hm] at h2
      simp only [R.bind_ok] at h2
      intro F3 φ3 H3 e3 S3 v rv
      refine ⟨k, rv.bl, ?_⟩
      cases k with
      | true => exact ⟨env, _, F3, φ3, S3, ((r.mono e1).mono e2).mono e3, Sat.bind (h2.ext e3) fun e st4 F4 φ4 H4 e4 S4 h4 z rz => ⟨_, b, e, st4, F4, φ4, S4, (ry.mono e3).mono e4, rz, h4⟩⟩
      | false => exact sat_val S3 rd_bl (h2.ext e3)
  · obtain ⟨env, st, F, φ, S, r, hq⟩ := hq
    simp only [ev, truR_bind] at hq
    refine ⟨env, st, F, φ, S, r, Sat.bind hq fun a st1 F1 φ1 H1 e1 S1 h1 x rx => ⟨env, st1, F1, φ1, S1, r.mono e1, Sat.bind h1 fun b st2 F2 φ2 H2 e2 S2 h2 y ry => ⟨E σ, a, b, st2, F2, φ2, S2, rx.mono e2, ry, ?_⟩⟩⟩
    cases hm : cmpD o a b st2 with
    | bad => rw [hm] at h2; exact h2.elim
    | ex c st1 => rw [hm] at h2; exact h2
    | ok d st3 =>
      obtain ⟨k, rfl, rfl⟩ := cmpD_bool hm
      rw [hm] at h2
      simp only [R.bind_ok] at h2
      intro F3 φ3 H3 e3 S3 v rv
      refine ⟨k, rv.bl, ?_⟩
      cases k with
      | true =>
        simp only [truR_bind] at h2
        exact ⟨env, _, F3, φ3, S3, ((r.mono e1).mono e2).mono e3, Sat.bind (h2.ext e3) fun e st4 F4 φ4 H4 e4 S4 h4 z rz => ⟨_, b, e, st4, F4, φ4, S4, (ry.mono e3).mono e4, rz, sat_cmp h4⟩⟩
      | false =>
        have h3 := (h2.ext e3).ok S3
        exact ⟨false, rfl, h3⟩

theorem truR_ite {c : Bool} {a b : R D} : truR (if c = true then a else b) = if c = true then truR a else truR b := by cases c <;> rfl
theorem ok_ife {c a b : ME} {t x y : Expr} {pos : Pos} (hc : OkP X XR E t (ev G c)) (ha : OkP X XR E x (ev G a)) (hb : OkP X XR E y (ev G b)) : OkP X XR E (.IfExp t x y pos) (ev G (.ife c a b)) := by
  refine ⟨PE.imp (pe_ifExp hc.pt ha.pe hb.pe) fun σ H Q hq => ?_, ⟨fun pins s σ H Q I hq => ?_⟩, fun _ _ _ e => nomatch e⟩
  · obtain ⟨env, st, F, φ, S, r, hq⟩ := hq
    simp only [ev] at hq
    refine ⟨env, st, F, φ, S, r, Sat.bind hq fun k st1 F1 φ1 H1 e1 S1 h1 => ?_⟩
    cases k with
    | true => exact ⟨env, st1, F1, φ1, S1, r.mono e1, h1⟩
    | false => exact ⟨env, st1, F1, φ1, S1, r.mono e1, h1⟩
  · obtain ⟨env, st, F, φ, S, r, hq⟩ := hq
    simp only [ev, truR_bind, truR_ite] at hq
    unfold PySem.isTrue
    refine wpAny_bind (thn (hc.pt.run pins s σ H (fun k H1 => if k = true then rT X.K XR E (fun env st => truR (ev G a env st)) σ H1 Q else rT X.K XR E (fun env st => truR (ev G b env st)) σ H1 Q) I ⟨env, st, F, φ, S, r, Sat.bind hq fun k st1 F1 φ1 H1 e1 S1 h1 => ?_⟩) fun k s1 ⟨H1, I1, q1⟩ => ?_)
    · cases k with
      | true => exact ⟨env, st1, F1, φ1, S1, r.mono e1, h1⟩
      | false => exact ⟨env, st1, F1, φ1, S1, r.mono e1, h1⟩
    · cases k with
      | true => exact ha.pt.run pins s1 σ H1 Q I1 q1
      | false => exact hb.pt.run pins s1 σ H1 Q I1 q1
/-- an argument list -/
def OkA (X : Cx) (XR : XRT) (E : EK) (es : List Expr) (m : Env → Store → R (List D)) : Prop := PA X es (rA X.K XR E m)
theorem oka_nil : OkA X XR E [] (evs G .nil) := PA.imp pa_nil fun σ H Q hq => by
  obtain ⟨env, st, F, φ, S, r, hq⟩ := hq
  simp only [evs] at hq
  exact hq.ok S [] .nil
theorem oka_cons {e : ME} {r : MEs} {x : Expr} {xs : List Expr} (hn : notStar x = true) (h : OkP X XR E x (ev G e)) (hr : OkA X XR E xs (evs G r)) : OkA X XR E (x :: xs) (evs G (.cons e r)) := by
  refine PA.imp (pa_cons h.pe hr (star1 hn)) fun σ H Q hq => ?_
  obtain ⟨env, st, F, φ, S, r, hq⟩ := hq
  simp only [evs] at hq
  exact ⟨env, st, F, φ, S, r, Sat.bind hq fun d st1 F1 φ1 H1 e1 S1 h1 v rv => ⟨env, st1, F1, φ1, S1, r.mono e1, Sat.bind h1 fun ds st2 F2 φ2 H2 e2 S2 h2 vs rvs => h2.ok S2 _ (.cons (rv.mono e2) rvs)⟩⟩
theorem ok_tup {es : MEs} {xs : List Expr} {k : Nat} {pos : Pos} (h : OkA X XR E xs (evs G es)) : OkP X XR E (.Tuple xs k pos) (ev G (.tup es)) := by
  refine .plain (PE.imp (pe_tup h) fun σ H Q hq => ?_) (fun _ => rfl) (fun _ _ _ e => nomatch e)
  obtain ⟨env, st, F, φ, S, r, hq⟩ := hq
  simp only [ev] at hq
  refine ⟨env, st, F, φ, S, r, Sat.bind hq fun ds st1 F1 φ1 H1 e1 S1 h1 vs rvs => ?_⟩
  split at h1
  · rename_i hz
    exact ⟨by rw [rds_length rvs]; exact sz_ok hz, fun p hp => sat_mkT S1 hp rvs h1⟩
  · exact h1.elim
theorem ok_lst {c : Bool} {es : MEs} {xs : List Expr} {pos : Pos} (h : OkA X XR E xs (evs G es)) : OkP X XR E (.List xs pos) (ev G (.lst c es)) := by
  refine .plain (PE.imp (pe_lst h) fun σ H Q hq => ?_) (fun _ => rfl) (fun _ _ _ e => nomatch e)
  obtain ⟨env, st, F, φ, S, r, hq⟩ := hq
  simp only [ev] at hq
  refine ⟨env, st, F, φ, S, r, Sat.bind hq fun ds st1 F1 φ1 H1 e1 S1 h1 vs rvs => ?_⟩
  split at h1
  · rename_i hz
    exact ⟨by rw [rds_length rvs]; exact sz_ok hz, fun p hp => sat_mkL S1 hp rvs h1⟩
  · exact h1.elim
theorem plainIx {b : Expr} (h : notSlice b = true) : PlainIx b := by
  intro o i
  cases b <;> first | rfl | cases h
theorem ok_ix (w : WF X C G XR E) {a b : ME} {x y : Expr} {pos : Pos} (hn : notSlice y = true) (ha : OkP X XR E x (ev G a)) (hb : OkP X XR E y (ev G b)) : OkP X XR E (.Subscript x y pos) (ev G (.ix a b)) := by
  refine .plain (PE.imp (pe_ix (ix_D (XR := XR) w.un) ha.pe hb.pe (plainIx hn)) fun σ H Q hq => ?_) (fun _ => rfl) (fun _ _ _ e => nomatch e)
  obtain ⟨env, st, F, φ, S, r, hq⟩ := hq
  simp only [ev] at hq
  exact ⟨env, st, F, φ, S, r, Sat.bind hq fun a st1 F1 φ1 H1 e1 S1 h1 x rx => ⟨env, st1, F1, φ1, S1, r.mono e1, Sat.bind h1 fun b st2 F2 φ2 H2 e2 S2 h2 y ry => ⟨_, a, b, st2, F2, φ2, S2, rx.mono e2, ry, h2⟩⟩⟩
theorem dataEq_dp {K : PySem.W.Frag} {v : V} : ∀ {x : PyData}, dataEq x x = true → L2.Dp K (fun _ => none) v x → Dp K (fun _ => none) v x
  | .none, _, h => by cases h; exact .non
  | .bool b, _, h => by cases h; exact .bl b
  | .int i, _, h => by cases h; exact .int i
  | .str z, _, h => by cases h; exact .str z
  | .list _, e, _ => by cases e
  | .tuple _, e, _ => by cases e
  | .dict _, e, _ => by cases e
theorem kvEq_at : ∀ {a b : List (Str × PyData)} {z : Str} {v : PyData}, kvEq a b = true → a.lookup z = some v → dataEq v v = true
  | [], _, _, _, _, e => by cases e
  | (x, u) :: r, [], _, _, h, _ => by cases h
  | (x, u) :: r, (y, w) :: r', z, v, h, e => by
    simp only [kvEq, Bool.and_eq_true] at h
    rw [List.lookup_cons] at e
    split at e
    · cases Option.some.inj e
      have := dataEq_eq h.1.2
      rw [← this] at h
      exact h.1.2
    · exact kvEq_at h.2 e
theorem datasEq_eq : ∀ {a b : List PyData}, datasEq a b = true → a = b
  | [], [], _ => rfl
  | x :: r, y :: r', h => by
    simp only [datasEq, Bool.and_eq_true] at h
    rw [dataEq_eq h.1, datasEq_eq h.2]
  | [], _ :: _, h => by cases h
  | _ :: _, [], h => by cases h
theorem gEq_eq {x y : PyData} (h : gEq x y = true) : x = y := by
  unfold gEq at h
  split at h
  · rw [datasEq_eq h]
  · exact dataEq_eq h
theorem kvEqT_eq : ∀ {a b : List (Str × PyData)}, kvEqT a b = true → a = b
  | [], [], _ => rfl
  | (x, u) :: r, (y, v) :: r', h => by
    simp only [kvEqT, Bool.and_eq_true] at h
    rw [eq_of_beq h.1.1, gEq_eq h.1.2, kvEqT_eq h.2]
  | [], _ :: _, h => by cases h
  | _ :: _, [], h => by cases h
theorem ok_gix (w : WF X C G XR E) {kvs : List (Str × PyData)} {a : ME} {x : Str} {y : Expr} {p pos : Pos} (hn : notSlice y = true) (hg : C.isGl x = true) (hk : (match C.gds.lookup x with | some w => kvEq kvs w | none => false) = true) (ha : OkP X XR E y (ev G a)) : OkP X XR E (.Subscript (.Name x p) y pos) (ev G (.gix kvs a)) := by
  obtain ⟨h1, h2⟩ := gl_of w hg
  split at hk
  · rename_i d e
    cases kvEq_eq hk
    obtain ⟨q, hm, _, hd⟩ := w.gds x _ e
    refine .plain (PE.imp (pe_ix ix_kdict (pe_glob h2 hm (v := .ref q) rfl (okName_of h1).1) ha.pe (plainIx hn)) fun σ H Q hq => ?_) (fun _ => rfl) (fun _ _ _ e => nomatch e)
    obtain ⟨env, st, F, φ, S, r, hq⟩ := hq
    simp only [ev] at hq
    refine ⟨env, st, F, φ, S, r, Sat.bind hq fun a st1 F1 φ1 H1 e1 S1 h1 x rx => ?_⟩
    unfold gixD at h1
    split at h1
    · rename_i z
      split at h1
      · rename_i v ev
        obtain ⟨u, k1, k2⟩ := hd z v ev
        exact ⟨q, z, u, rfl, rx.str, k1, sat_val S1 (show RD X.K F1 φ1 u (.p v) from dp_mono (fun _ _ q => (by cases q)) (dataEq_dp (kvEq_at hk ev) k2)) h1⟩
      · exact h1.elim
    · exact h1.elim
  · cases hk
/-- in a constant dict of the module, there -/
def rInK (K : PySem.W.Frag) (w : World) (b : Bool) : R2 := fun x y H Q => ∃ p z v, y = .ref p ∧ x = .str z ∧ KDct K w p z v ∧ (p == sysModules) = false ∧ Q (.bl b) H
theorem o_inK : OpR X (compareOp .In) (rInK X.K X.w true) := by
  intro pins s σ H x y v u Q I rx ry h
  obtain ⟨p, z, r, rfl, rfl, ⟨es, n, u0, hl, hk, e, ru⟩, lo, q⟩ := h
  obtain rfl : u = Value.ref p := ry
  obtain ⟨t, rfl⟩ := rx
  have hm := PySem.W.mapOf_K (prog := X.prog) (w := X.w) I.kIn hl hk
  refine PySem.wpAny_in_of (strKind_is X.prog X.w z t) lo hm ?_
  rw [PySem.W.find_K hl e]
  exact ⟨.bl true, H, I.tok _, rfl, q⟩
theorem o_notInK : OpR X (compareOp .NotIn) (rInK X.K X.w false) := by
  intro pins s σ H x y v u Q I rx ry h
  obtain ⟨p, z, r, rfl, rfl, ⟨es, n, u0, hl, hk, e, ru⟩, lo, q⟩ := h
  obtain rfl : u = Value.ref p := ry
  obtain ⟨t, rfl⟩ := rx
  have hm := PySem.W.mapOf_K (prog := X.prog) (w := X.w) I.kIn hl hk
  refine PySem.wpAny_notIn_of (strKind_is X.prog X.w z t) lo hm ?_
  rw [PySem.W.find_K hl e]
  exact ⟨.bl false, H, I.tok _, rfl, q⟩
theorem ok_gin (w : WF X C G XR E) {n : Bool} {o : CmpOp} {kvs : List (Str × PyData)} {a : ME} {x : Str} {y : Expr} {p pos : Pos} (ho : o = if n = true then CmpOp.NotIn else CmpOp.In) (hg : C.isGl x = true) (hk : (match C.gds.lookup x with | some w => kvEqT kvs w | none => false) = true) (ha : OkP X XR E y (ev G a)) : OkP X XR E (.Compare y [o] [.Name x p] pos) (ev G (.gin n kvs a)) := by
  obtain ⟨h1, h2⟩ := gl_of w hg
  split at hk
  · rename_i d e
    cases kvEqT_eq hk
    obtain ⟨q, hm, lo, hd⟩ := w.gds x _ e
    have key : ∀ b : Bool, OpR X (compareOp o) (rInK X.K X.w b) → b = !n → OkP X XR E (.Compare y [o] [.Name x p] pos) (ev G (.gin n kvs a)) := by
      intro b hb eb
      have fin : ∀ {σ : L2.St} {H : Hp} {Q : VK} {env : Env} {d : D} {st1 : Store} {F1 : Hp} {φ1 : List Addr} {H1 : Hp} {v : V}, SR X.K F1 φ1 st1 H1 → Sat X.K XR (E σ) (QE X.K Q) F1 φ1 (ginD n kvs d st1) → RD X.K F1 φ1 v d → rInK X.K X.w b v (.ref q) H1 Q := by
        intro σ H Q env d st1 F1 φ1 H1 v S1 h1 rx
        unfold ginD at h1
        split at h1
        · rename_i z
          split at h1
          · rename_i v0 ev0
            obtain ⟨u, k1, k2⟩ := hd z v0 ev0
            exact ⟨q, z, u, rfl, rx.str, k1, lo, by rw [eb]; exact sat_val S1 rd_bl h1⟩
          · exact h1.elim
        · exact h1.elim
      refine ⟨PE.imp (pe_cmpR hb ha.pe (pe_glob h2 hm (v := .ref q) rfl (okName_of h1).1) rfl) fun σ H Q hq => ?_, PT.imp (pt_cmpR hb ha.pe (pe_glob h2 hm (v := .ref q) rfl (okName_of h1).1) rfl) fun σ H Q hq => ?_, fun _ _ _ e => nomatch e⟩
      · obtain ⟨env, st, F, φ, S, r, hq⟩ := hq
        simp only [ev] at hq
        exact ⟨env, st, F, φ, S, r, Sat.bind hq fun a st1 F1 φ1 H1 e1 S1 h1 x rx => fin (σ := σ) (H := H) (env := env) S1 h1 rx⟩
      · obtain ⟨env, st, F, φ, S, r, hq⟩ := hq
        simp only [ev, truR_bind] at hq
        refine ⟨env, st, F, φ, S, r, Sat.bind hq fun a st1 F1 φ1 H1 e1 S1 h1 x rx => ?_⟩
        have h2 : Sat X.K XR (E σ) (QE X.K fun v H1 => ∃ k, v = .bl k ∧ Q k H1) F1 φ1 (ginD n kvs a st1) := by
          unfold ginD at h1 ⊢
          split at h1
          · rename_i z
            split at h1
            · rename_i v0 ev0
              intro F2 φ2 H2 e2 S2 v rv
              exact ⟨_, rv.bl, h1 F2 φ2 H2 e2 S2⟩
            · exact h1.elim
          · exact h1.elim
        exact fin (σ := σ) (H := H) (env := env) S1 h2 rx
    cases n with
    | true => subst ho; exact key false o_notInK rfl
    | false => subst ho; exact key true o_inK rfl
  · cases hk
mutual
theorem l2dp_up {K : PySem.W.Frag} {H H' : Hp} (hs : Evl.Ex H H') : ∀ {d : PyData} {v : V}, L2.Dp K H v d → L2.Dp K H' v d
  | .none, _, h => by cases h; exact .non
  | .bool b, _, h => by cases h; exact .bl b
  | .int i, _, h => by cases h; exact .int i
  | .str x, _, h => by cases h; exact .str x
  | .list ds, _, h => by cases h with | lst h1 h2 => exact .lst (Evl.ex_l hs h1) (l2dp_ups hs h2)
  | .tuple ds, _, h => by cases h with | tup h1 h2 => exact .tup (Evl.ex_t hs h1) (l2dp_ups hs h2)
  | .dict _, _, h => by cases h
theorem l2dp_ups {K : PySem.W.Frag} {H H' : Hp} (hs : Evl.Ex H H') : ∀ {ds : List PyData} {vs : List V}, L2.DpAll K H vs ds → L2.DpAll K H' vs ds
  | [], _, h => by cases h; exact .nil
  | d :: ds, _, h => by cases h with | cons h1 h2 => exact .cons (l2dp_up hs h1) (l2dp_ups hs h2)
end
mutual
theorem l2dp_plain {K : PySem.W.Frag} {H : Hp} : ∀ {d : PyData} {v : V}, L2.Dp K H v d → d.plain = true
  | .none, _, h => rfl
  | .bool b, _, h => rfl
  | .int i, _, h => rfl
  | .str x, _, h => rfl
  | .list ds, _, h => by cases h with | lst h1 h2 => exact l2dp_plains h2
  | .tuple ds, _, h => by cases h with | tup h1 h2 => exact l2dp_plains h2
  | .dict _, _, h => by cases h
theorem l2dp_plains {K : PySem.W.Frag} {H : Hp} : ∀ {ds : List PyData} {vs : List V}, L2.DpAll K H vs ds → PyData.plainAll ds = true
  | [], _, h => rfl
  | d :: ds, _, h => by cases h with | cons h1 h2 => simp only [PyData.plainAll, l2dp_plain h1, l2dp_plains h2, Bool.and_self]
end
theorem l2dp_plainT {K : PySem.W.Frag} {H : Hp} {v : V} {ys : List PyData} (h : L2.Dp K H v (.tuple ys)) : PyData.plainAll ys = true := by cases h with | tup h1 h2 => exact l2dp_plains h2
/-- in a tuple of data, wherever it stands -/
def rInT (K : PySem.W.Frag) : R2 := fun x y H Q => ∃ d ys, L2.Dp K H x d ∧ L2.Dp K H y (.tuple ys) ∧ PyData.plainAll ys = true ∧ d.plain = true ∧ d.depth ≤ 64 ∧ Q (.bl (ys.any fun y => PyData.eqv y d)) H
theorem o_inT (hu : X.A.units + 200 < cLine) : OpR X (compareOp .In) (rInT X.K) := by
  intro pins s σ H x y v u Q I rx ry h
  obtain ⟨d, ys, hd, he, p1, p2, hz, q⟩ := h
  obtain ⟨as, r1⟩ := L2.Dp.reads I d x v hd rx
  obtain ⟨bs, r2⟩ := L2.Dp.reads I _ y u he ry
  exact PySem.SeqAt.in_tuple_data r2 r1 p1 p2 (by omega) ⟨.bl _, H, I, rfl, q⟩
theorem ok_gixIn (w : WF X C G XR E) {kvs : List (Str × PyData)} {a e : ME} {x : Str} {v y : Expr} {p p2 pos : Pos} (hn : notSlice y = true) (hg : C.isGl x = true) (hk : (match C.gds.lookup x with | some w => kvEqT kvs w | none => false) = true) (ha : OkP X XR E v (ev G a)) (he : OkP X XR E y (ev G e)) : OkP X XR E (.Compare v [.In] [.Subscript (.Name x p) y p2] pos) (ev G (.gixIn kvs a e)) := by
  have hu := w.un
  obtain ⟨h1, h2⟩ := gl_of w hg
  split at hk
  · rename_i d e0
    cases kvEqT_eq hk
    obtain ⟨q, hm, lo, hd⟩ := w.gds x _ e0
    have pi := pe_ix ix_kdict (pe_glob h2 hm (v := .ref q) (pos := p) rfl (okName_of h1).1) he.pe (plainIx hn) (pos := p2)
    have fin : ∀ {E0 : XK} {Q : VK} {d1 d2 : D} {st2 : Store} {F2 : Hp} {φ2 : List Addr} {H2 : Hp} {v1 v2 : V}, SR X.K F2 φ2 st2 H2 → Sat X.K XR E0 (QE X.K Q) F2 φ2 (gixInD kvs d1 d2 st2) → RD X.K F2 φ2 v1 d1 → RD X.K F2 φ2 v2 d2 → rIxD X.K X.w (.ref q) v2 H2 fun z H => rInT X.K v1 z H Q := by
      intro E0 Q d1 d2 st2 F2 φ2 H2 v1 v2 S2 h2 r1 r2
      unfold gixInD at h2
      split at h2
      · rename_i z
        split at h2
        · rename_i ys el
          split at h2
          · rename_i x
            split at h2
            · rename_i hz
              obtain ⟨u, k1, k2⟩ := hd z _ el
              have r1' : Dp X.K F2 v1 x := r1
              have k3 : L2.Dp X.K H2 u (.tuple ys) := l2dp_up (fun _ _ q => (by cases q)) k2
              exact ⟨q, z, u, rfl, r2.str, k1, x, ys, l2dp_up S2.sub r1'.l2, k3, l2dp_plainT k3, dp_plain r1', hz, sat_val S2 rd_bl h2⟩
            · exact h2.elim
          · exact h2.elim
        · exact h2.elim
      · exact h2.elim
    refine ⟨PE.imp (pe_cmpR (o_inT hu) ha.pe pi rfl) fun σ H Q hq => ?_, PT.imp (pt_cmpR (o_inT hu) ha.pe pi rfl) fun σ H Q hq => ?_, fun _ _ _ e => nomatch e⟩
    · obtain ⟨env, st, F, φ, S, r, hq⟩ := hq
      simp only [ev] at hq
      exact ⟨env, st, F, φ, S, r, Sat.bind hq fun a st1 F1 φ1 H1 e1 S1 h1 x rx => ⟨env, st1, F1, φ1, S1, r.mono e1, Sat.bind h1 fun b st2 F2 φ2 H2 e2 S2 h2 y ry => fin S2 h2 (rx.mono e2) ry⟩⟩
    · obtain ⟨env, st, F, φ, S, r, hq⟩ := hq
      simp only [ev, truR_bind] at hq
      refine ⟨env, st, F, φ, S, r, Sat.bind hq fun a st1 F1 φ1 H1 e1 S1 h1 x rx => ⟨env, st1, F1, φ1, S1, r.mono e1, Sat.bind h1 fun b st2 F2 φ2 H2 e2 S2 h2 y ry => ?_⟩⟩
      have h3 : Sat X.K XR (E σ) (QE X.K fun v H1 => ∃ k, v = .bl k ∧ Q k H1) F2 φ2 (gixInD kvs a b st2) := by
        unfold gixInD at h2 ⊢
        split at h2
        · split at h2
          · split at h2
            · split at h2
              · rename_i hz
                rw [if_pos hz]
                intro F3 φ3 H3 e3 S3 v rv
                exact ⟨_, rv.bl, h2 F3 φ3 H3 e3 S3⟩
              · exact h2.elim
            · exact h2.elim
          · exact h2.elim
        · exact h2.elim
      exact fin S2 h3 (rx.mono e2) ry
  · cases hk
def QO (Q : Option Int → Hp → Prop) : Hp → List Addr → Hp → Option Int → Prop := fun _ _ H' o => Q o H'
def rO' (K : PySem.W.Frag) (XR : XRT) (E : EK) (m : Env → Store → R (Option Int)) : TO := fun σ H Q => ∃ env st F φ, SR K F φ st H ∧ ER K F φ env σ ∧ Sat K XR (E σ) (QO Q) F φ (m env st)
theorem PO.imp {e : Option Expr} {t t' : TO} (h : PO X e t) (i : ∀ σ H Q, t' σ H Q → t σ H Q) : PO X e t' := ⟨fun pins s σ H Q I hw => h.run pins s σ H Q I (i σ H Q hw)⟩
theorem oko_none : PO X none (rO' X.K XR E (evo G .none)) := PO.imp po_none fun σ H Q hq => by
  obtain ⟨env, st, F, φ, S, r, hq⟩ := hq
  simp only [evo] at hq
  exact hq.ok S
theorem oko_some {a : ME} {x : Expr} (ha : OkP X XR E x (ev G a)) : PO X (some x) (rO' X.K XR E (evo G (.some a))) := PO.imp (po_some ha.pe) fun σ H Q hq => by
  obtain ⟨env, st, F, φ, S, r, hq⟩ := hq
  simp only [evo] at hq
  refine ⟨env, st, F, φ, S, r, Sat.bind hq fun d st1 F1 φ1 H1 e1 S1 h1 v rv => ?_⟩
  split at h1
  · rename_i i
    exact ⟨i, rv.int, h1.ok S1⟩
  · exact h1.elim
theorem ok_sl {a : ME} {lo hi : MO} {x : Expr} {l h : Option Expr} {p2 pos : Pos} (ha : OkP X XR E x (ev G a)) (hl : PO X l (rO' X.K XR E (evo G lo))) (hh : PO X h (rO' X.K XR E (evo G hi))) : OkP X XR E (.Subscript x (.Slice l h none p2) pos) (ev G (.sl a lo hi)) := by
  refine .plain (PE.imp (pe_slice (sl_D (XR := XR) (c := false)) ha.pe hl hh) fun σ H Q hq => ?_) (fun _ => rfl) (fun _ _ _ e => nomatch e)
  obtain ⟨env, st, F, φ, S, r, hq⟩ := hq
  simp only [ev] at hq
  exact ⟨env, st, F, φ, S, r, Sat.bind hq fun a st1 F1 φ1 H1 e1 S1 h1 x rx => ⟨env, st1, F1, φ1, S1, r.mono e1, Sat.bind h1 fun l st2 F2 φ2 H2 e2 S2 h2 => ⟨env, st2, F2, φ2, S2, (r.mono e1).mono e2, Sat.bind h2 fun h st3 F3 φ3 H3 e3 S3 h3 => ⟨_, a, st3, F3, φ3, S3, (rx.mono e2).mono e3, h3⟩⟩⟩⟩
theorem ok_slc {a : ME} {lo hi : MO} {x : Expr} {l h : Option Expr} {p2 pos : Pos} (ha : OkP X XR E x (ev G a)) (hl : PO X l (rO' X.K XR E (evo G lo))) (hh : PO X h (rO' X.K XR E (evo G hi))) : OkP X XR E (.Subscript x (.Slice l h none p2) pos) (ev G (.slc a lo hi)) := by
  refine .plain (PE.imp (pe_slice (sl_Dc (XR := XR)) ha.pe hl hh) fun σ H Q hq => ?_) (fun _ => rfl) (fun _ _ _ e => nomatch e)
  obtain ⟨env, st, F, φ, S, r, hq⟩ := hq
  simp only [ev] at hq
  exact ⟨env, st, F, φ, S, r, Sat.bind hq fun a st1 F1 φ1 H1 e1 S1 h1 x rx => ⟨env, st1, F1, φ1, S1, r.mono e1, Sat.bind h1 fun l st2 F2 φ2 H2 e2 S2 h2 => ⟨env, st2, F2, φ2, S2, (r.mono e1).mono e2, Sat.bind h2 fun h st3 F3 φ3 H3 e3 S3 h3 => ⟨_, a, st3, F3, φ3, S3, (rx.mono e2).mono e3, h3⟩⟩⟩⟩
theorem ok_callB1 {id : String} {op : D → Store → R D} {a : ME} {x : Str} {y : Expr} {p pos : Pos} (w : WF X C G XR E) (hc : CallR X (.builtin id) (r1 (rU X.K XR op))) (hv : bootBuiltins x = some (.builtin id)) (hb : C.isBl x = true) (hn : notStar y = true) (ha : OkP X XR E y (ev G a)) :
    PE X (.Call (.Name x p) [y] [] pos) (rE X.K XR E fun env st => (ev G a env st).bind fun x st => op x st) := by
  obtain ⟨h1, h2, h3⟩ := bl_of w hb
  obtain ⟨d1, _, d3⟩ := okName_of h1
  refine PE.imp (pe_callB hc h2 h3 hv (pa_cons ha.pe pa_nil (star1 hn)) d3 d1 (star1 hn)) fun σ H Q hq => ?_
  obtain ⟨env, st, F, φ, S, r, hq⟩ := hq
  exact ⟨env, st, F, φ, S, r, Sat.bind hq fun a st1 F1 φ1 H1 e1 S1 h1 x rx => ⟨x, rfl, _, a, st1, F1, φ1, S1, rx, h1⟩⟩
theorem ok_callT1 {id : String} {op : D → Store → R D} {a : ME} {x : Str} {y : Expr} {p pos : Pos} (w : WF X C G XR E) (hc : CallR X (.type id) (r1 (rU X.K XR op))) (hv : bootBuiltins x = some (.type id)) (hb : C.isBl x = true) (hn : notStar y = true) (ha : OkP X XR E y (ev G a)) :
    PE X (.Call (.Name x p) [y] [] pos) (rE X.K XR E fun env st => (ev G a env st).bind fun x st => op x st) := by
  obtain ⟨h1, h2, h3⟩ := bl_of w hb
  obtain ⟨d1, _, d3⟩ := okName_of h1
  refine PE.imp (pe_callTy hc h2 h3 hv (pa_cons ha.pe pa_nil (star1 hn)) d3 d1 (star1 hn)) fun σ H Q hq => ?_
  obtain ⟨env, st, F, φ, S, r, hq⟩ := hq
  exact ⟨env, st, F, φ, S, r, Sat.bind hq fun a st1 F1 φ1 H1 e1 S1 h1 x rx => ⟨x, rfl, _, a, st1, F1, φ1, S1, rx, h1⟩⟩
theorem boot_all' : bootBuiltins "all" = some (.builtin "all") := by decide +kernel
theorem boot_any' : bootBuiltins "any" = some (.builtin "any") := by decide +kernel
theorem boot_sum' : bootBuiltins "sum" = some (.builtin "sum") := by decide +kernel
theorem boot_max' : bootBuiltins "max" = some (.builtin "max") := by decide +kernel
theorem boot_min' : bootBuiltins "min" = some (.builtin "min") := by decide +kernel
theorem boot_sorted' : bootBuiltins "sorted" = some (.builtin "sorted") := by decide +kernel
theorem boot_isi' : bootBuiltins "isinstance" = some (.builtin "isinstance") := by decide +kernel
theorem boot_tuple' : bootBuiltins "tuple" = some (.type "tuple") := by decide +kernel
theorem boot_int' : bootBuiltins "int" = some (.type "int") := by decide +kernel
theorem boot_dict' : bootBuiltins "dict" = some (.type "dict") := by decide +kernel
theorem boot_str' : bootBuiltins "str" = some (.type "str") := by decide +kernel
theorem boot_list' : bootBuiltins "list" = some (.type "list") := by decide +kernel
theorem boot_repr' : bootBuiltins "repr" = some (.builtin "repr") := by decide +kernel
theorem ok_bi (w : WF X C G XR E) {f : Bi} {a : ME} {x : Str} {y : Expr} {p pos : Pos} (hrp : biRp C f = true) (hx : x = bi1N f) (hb : C.isBl x = true) (hn : notStar y = true) (ha : OkP X XR E y (ev G a)) : OkP X XR E (.Call (.Name x p) [y] [] pos) (ev G (.bi f a)) := by
  refine .plain ?_ (fun _ => rfl) (fun _ _ _ e => nomatch e)
  subst hx
  have e : ev G (.bi f a) = fun env st => (ev G a env st).bind fun x st => bi1D f x st := by
    funext env st
    simp only [ev]
  rw [e]
  have hu := w.un
  have hc := w.calm
  cases f with
  | len => exact ok_callB1 w c_len PySem.boot_len hb hn ha
  | all => exact ok_callB1 w (c_all hc) boot_all' hb hn ha
  | any => exact ok_callB1 w (c_any hc) boot_any' hb hn ha
  | sorted c => exact ok_callB1 w (c_sorted hc hu) boot_sorted' hb hn ha
  | tuple => exact ok_callT1 w c_tuple boot_tuple' hb hn ha
  | list c => exact ok_callT1 w (c_list hc) boot_list' hb hn ha
  | dict => exact ok_callT1 w (c_dict hc) boot_dict' hb hn ha
  | str => exact ok_callT1 w c_str boot_str' hb hn ha
  | repr => exact ok_callB1 w (c_repr (w.gd hrp) hu) boot_repr' hb hn ha
  | max => exact ok_callB1 w (c_maxmin hc hu true) boot_max' hb hn ha
  | min => exact ok_callB1 w (c_maxmin hc hu false) boot_min' hb hn ha
  | sum => exact ok_callB1 w (c_sum hc) boot_sum' hb hn ha
  | int => exact ok_callT1 w c_int boot_int' hb hn ha
theorem ok_mx2 (w : WF X C G XR E) {m : Bool} {a b : ME} {x : Str} {y z : Expr} {p pos : Pos} (hx : x = if m then ("max" : Str) else "min") (hb : C.isBl x = true) (hn : notStar y = true) (hn2 : notStar z = true) (ha : OkP X XR E y (ev G a)) (hbb : OkP X XR E z (ev G b)) : OkP X XR E (.Call (.Name x p) [y, z] [] pos) (ev G (.mx2 m a b)) := by
  refine .plain ?_ (fun _ => rfl) (fun _ _ _ e => nomatch e)
  obtain ⟨h1, h2, h3⟩ := bl_of w hb
  obtain ⟨d1, _, d3⟩ := okName_of h1
  have hc := w.calm
  have key : ∀ id, CallR X (.builtin id) (r2 (rO X.K XR (max2D m))) → bootBuiltins x = some (.builtin id) → PE X (.Call (.Name x p) [y, z] [] pos) (rE X.K XR E (ev G (.mx2 m a b))) := by
    intro id hcr hv
    refine PE.imp (pe_callB hcr h2 h3 hv (pa_cons ha.pe (pa_cons hbb.pe pa_nil (star1 hn2)) (star1 hn)) d3 d1 (star1 hn) (by rw [star1 hn2]; rfl)) fun σ H Q hq => ?_
    obtain ⟨env, st, F, φ, S, r, hq⟩ := hq
    simp only [ev] at hq
    exact ⟨env, st, F, φ, S, r, Sat.bind hq fun a st1 F1 φ1 H1 e1 S1 h1 x rx => ⟨env, st1, F1, φ1, S1, r.mono e1, Sat.bind h1 fun b st2 F2 φ2 H2 e2 S2 h2 y ry => ⟨x, y, rfl, _, a, b, st2, F2, φ2, S2, rx.mono e2, ry, h2⟩⟩⟩
  cases m with
  | true => exact key "max" (c_max2 hc) (by rw [hx]; exact boot_max')
  | false => exact key "min" (c_min2 hc) (by rw [hx]; exact boot_min')
theorem boot_isiT {T : String} (h : isiOkT T = true) : bootBuiltins (Str.ofString T) = some (.type T) := by
  unfold isiOkT at h
  simp only [Bool.or_eq_true, beq_iff_eq] at h
  rcases h with ((((h | h) | h) | h) | h) | h <;> subst h <;> decide +kernel
theorem ok_isi (w : WF X C G XR E) {T : String} {a : ME} {x t : Str} {y : Expr} {p p2 pos : Pos} (hx : x = ("isinstance" : Str)) (hb : C.isBl x = true) (ht : t = Str.ofString T) (hbt : C.isBl t = true) (hT : isiOkT T = true) (hn : notStar y = true) (ha : OkP X XR E y (ev G a)) :
    OkP X XR E (.Call (.Name x p) [y, .Name t p2] [] pos) (ev G (.isi T a)) := by
  refine .plain ?_ (fun _ => rfl) (fun _ _ _ e => nomatch e)
  obtain ⟨h1, h2, h3⟩ := bl_of w hb
  obtain ⟨d1, _, d3⟩ := okName_of h1
  obtain ⟨k1, k2, k3⟩ := bl_of w hbt
  obtain ⟨t1, _, t3⟩ := okName_of k1
  have hT2 : PE X (.Name t p2) (tC (.ty T)) := pe_bltn k2 k3 (by rw [ht]; exact boot_isiT hT) rfl t3 t1
  refine PE.imp (pe_callB (c_isi (XR := XR) hT) h2 h3 (by rw [hx]; exact boot_isi') (pa_cons ha.pe (pa_cons hT2 pa_nil) (star1 hn)) d3 d1 (star1 hn)) fun σ H Q hq => ?_
  obtain ⟨env, st, F, φ, S, r, hq⟩ := hq
  simp only [ev] at hq
  exact ⟨env, st, F, φ, S, r, Sat.bind hq fun a st1 F1 φ1 H1 e1 S1 h1 x rx => ⟨x, rfl, _, a, st1, F1, φ1, S1, rx, h1⟩⟩
theorem ok_call (w : WF X C G XR E) {i : Nat} {f : Str} {es : MEs} {y : Expr} {ys : List Expr} {p pos : Pos} (hg : C.isGl f = true) (hf : C.fns[i]? = some (some f)) (hc : chks C es (y :: ys) = true) (ha : OkA X XR E (y :: ys) (evs G es)) : OkP X XR E (.Call (.Name f p) (y :: ys) [] pos) (ev G (.call i es)) := by
  refine .plain ?_ (fun _ => rfl) (fun _ _ _ e => nomatch e)
  obtain ⟨h1, h2⟩ := gl_of w hg
  obtain ⟨d1, _, _⟩ := okName_of h1
  obtain ⟨k, fa, fd, ps, F, hr, ⟨hm, _⟩, hk, hb⟩ := w.fns i f hf
  have hs : starEach (y :: ys) X.env = (false, eval y X.env) :: starEach ys X.env ∧ (backTo pos (starEach ys X.env)).any (·.1) = false := by
    cases es with
    | nil => simp [chks] at hc
    | cons e r =>
      simp only [chks, Bool.and_eq_true] at hc
      exact ⟨star1 hc.1.1, chks_plain hc.2⟩
  refine PE.imp (pe_callSD (E := E) F hr h2 hm hk hb .nil w.px ha d1 hs.1 hs.2) fun σ H Q hq => ?_
  obtain ⟨env, st, F, φ, S, r, hq⟩ := hq
  simp only [ev] at hq
  refine ⟨env, st, F, φ, S, r, Sat.bind hq fun ds st1 F1 φ1 H1 e1 S1 h1 vs rvs => ?_⟩
  show spOf X.K XR (G i) (vs ++ []) H1 Q (E σ)
  rw [List.append_nil]
  exact ⟨ds, st1, F1, φ1, S1, rvs, h1⟩
end
end MP

set_option Elab.async false
set_option linter.all false
set_option autoImplicit false
set_option maxRecDepth 100000
set_option maxHeartbeats 2000000
/-! the meaning is right: targets, what is walked, comprehensions -/
namespace MP
open PySem PySem.Spec PyProof.Rows L2

/-! ### targets -/
section
variable {K : PySem.W.Frag} {F : Hp} {φ : List Addr} {env : Env} {σ : L2.St}
theorem ER.set {i : Nat} {d : D} {v : V} (r : ER K F φ env σ) (h : RD K F φ v d) : ER K F φ (env.set i (some d)) (σ.set i (some v)) := by
  refine ⟨by rw [List.length_set, List.length_set]; exact r.len, fun j e hj => ?_⟩
  by_cases hij : i = j
  · subst hij
    have hl : i < env.length := by
      have := (List.getElem?_eq_some_iff.mp hj).1
      rwa [List.length_set] at this
    rw [List.getElem?_set_self hl] at hj
    cases Option.some.inj (Option.some.inj hj)
    exact ⟨v, by rw [List.getElem?_set_self (by rw [← r.len]; exact hl)], h⟩
  · rw [List.getElem?_set_ne hij] at hj ⊢
    exact r.val j e hj
theorem ER.wipe (r : ER K F φ env σ) : ∀ vs : List Nat, ER K F φ (wipeE env vs) (L2.wipe σ vs)
  | [] => r
  | v :: vs => by
    have ih := ER.wipe r vs
    unfold wipeE L2.wipe
    refine ⟨by rw [List.length_set, List.length_set]; exact ih.len, fun j e hj => ?_⟩
    by_cases hij : v = j
    · subst hij
      have hl : v < (wipeE env vs).length := by
        have := (List.getElem?_eq_some_iff.mp hj).1
        rwa [List.length_set] at this
      rw [List.getElem?_set_self hl] at hj
      cases hj
    · rw [List.getElem?_set_ne hij] at hj ⊢
      exact ih.val j e hj
/-- the slots that a target may change -/
def OnlyAt (vs : List Nat) (σ σ' : L2.St) : Prop := σ'.length = σ.length ∧ ∀ j, j ∉ vs → σ'[j]? = σ[j]?
end
def gD (K : PySem.W.Frag) (tg : MT) : TG := fun v σ H Q => ∃ env st F φ d, SR K F φ st H ∧ ER K F φ env σ ∧ RD K F φ v d ∧ ∃ env', bindD st tg d env = some env' ∧ ∀ σ', ER K F φ env' σ' → OnlyAt (tgVars tg) σ σ' → Q σ' H
def gDs (K : PySem.W.Frag) (tg : MTs) : TGs := fun vs σ H Q => ∃ env st F φ ds, SR K F φ st H ∧ ER K F φ env σ ∧ RDs K F φ vs ds ∧ ∃ env', bindDs st tg ds env = some env' ∧ ∀ σ', ER K F φ env' σ' → OnlyAt (tgVarss tg) σ σ' → Q σ' H
theorem PG.imp {X : Cx} {e : Expr} {t t' : TG} (h : PG X e t) (i : ∀ v σ H Q, t' v σ H Q → t v σ H Q) : PG X e t' := ⟨fun pins s σ H v u Q I r hw => h.run pins s σ H v u Q I r (i v σ H Q hw)⟩
theorem PGs.imp {X : Cx} {e : List Expr} {t t' : TGs} (h : PGs X e t) (i : ∀ v σ H Q, t' v σ H Q → t v σ H Q) : PGs X e t' := ⟨fun pins s σ H v u Q I r hw => h.run pins s σ H v u Q I r (i v σ H Q hw)⟩
theorem dpAll_len {K : PySem.W.Frag} {F : Hp} : ∀ {vs : List V} {xs : List PyData}, DpAll K F vs xs → vs.length = xs.length
  | _, _, .nil => rfl
  | _, _, .cons _ t => by simp [dpAll_len t]
section
variable {X : Cx} {C : Ctx} {G : Sem1} {XR : XRT} {E : EK}
theorem bindDs_len : ∀ {st : Store} {ts : MTs} {ds : List D} {env env' : Env} {es : List Expr} {en : PySem.Env}, bindDs st ts ds env = some env' → chkTs C ts es = true → ds.length = es.length ∧ (assignEach es en).length = es.length ∧ (assignEach es en).findIdx? (·.1) = none
  | _, .nil, [], env, env', [], en, _, _ => ⟨rfl, rfl, rfl⟩
  | _, .cons t r, d :: ds, env, env', e :: es, en, h, hc => by
    simp only [bindDs] at h
    obtain ⟨env1, h1, h2⟩ := Option.bind_eq_some_iff.mp h
    simp only [chkTs, Bool.and_eq_true] at hc
    obtain ⟨q1, q2, q3⟩ := bindDs_len (en := en) h2 hc.2
    have hne : assignEach (e :: es) en = (false, assign e en) :: assignEach es en := by
      cases e <;> first | rfl | (cases t <;> simp [chkT] at hc)
    rw [hne]
    refine ⟨by simp [q1], by simp [q2], ?_⟩
    rw [List.findIdx?_cons, if_neg (by simp), q3]
    rfl
  | _, .nil, _ :: _, _, _, _, _, h, _ => by simp [bindDs] at h
  | _, .cons _ _, [], _, _, _, _, h, _ => by simp [bindDs] at h
  | _, .nil, [], _, _, _ :: _, _, _, h => by simp [chkTs] at h
  | _, .cons _ _, _ :: _, _, _, [], _, _, h => by simp [chkTs] at h
mutual
theorem ok_tg (w : WF X C G XR E) (hf : C.fnC = true ∨ C.fnC = false) : ∀ {t : MT} {py : Expr}, chkT C t py = true → PG X py (gD X.K t)
  | .nm i, .Name x pos, h => by
    simp only [chkT, Bool.and_eq_true, decide_eq_true_eq] at h
    obtain ⟨h1, h2⟩ := slot_of h.1
    have hl : Loc X.env.scope x ∧ (X.fn x = true ∨ X.env.scope.names.lookup x = some .local) := by
      rcases h.2 with e | ⟨e1, e2⟩
      · exact ⟨.inl (by rw [w.sc]; exact e), .inr (by rw [w.sc]; exact e)⟩
      · exact ⟨.inr (by rw [w.sc]; exact e2), .inl (w.fn e1 x)⟩
    refine PG.imp (pg_name (i := i) w.nd (by rw [w.N]; exact h2) hl.1 hl.2) fun v σ H Q hq => ?_
    obtain ⟨env, st, F, φ, d, S, r, rv, env', e, q⟩ := hq
    cases Option.some.inj (show some (env.set i (some d)) = some env' from e)
    refine q _ (r.set rv) ⟨by rw [List.length_set], fun j hj => ?_⟩
    rw [List.getElem?_set_ne]
    intro e; subst e; simp [tgVars] at hj
  | .tup ts, .Tuple es k pos, h => by
    have h : chkTs C ts es = true := h
    have hs := ok_tgs w hf h
    refine ⟨fun pins s σ H v u Q I r hq => ?_⟩
    obtain ⟨env, st, F, φ, d, S, r0, rv, env', e, q⟩ := hq
    obtain ⟨ds, e0, e⟩ := Option.bind_eq_some_iff.mp (show (seqOf d st).bind (fun ds => bindDs st ts ds env) = some env' from e)
    obtain ⟨l1, l2, l3⟩ := bindDs_len (en := X.env) e h
    unfold seqOf at e0
    split at e0
    · rename_i ds' e1
      cases Option.some.inj e0
      obtain ⟨a, vs, rfl, hS, rr⟩ := items_ok S rv e1
      exact (pg_unl (n := es.length) w.calm hs l2 l3).run pins s σ H _ u Q I r ⟨a, vs, rfl, hS, by rw [rds_length rr, l1], env, st, F, φ, ds, S, r0, rr, env', e, q⟩
    · obtain ⟨a, vs, rfl, hS, rr⟩ := tups_ok S rv e0
      exact (pg_tup (n := es.length) w.calm hs l2 l3).run pins s σ H _ u Q I r ⟨a, vs, rfl, hS, by rw [rds_length rr, l1], env, st, F, φ, ds, S, r0, rr, env', e, q⟩
  | .nm _, .Tuple .., h => by simp [chkT] at h
  | .nm _, .BoolOp .., h => by simp [chkT] at h
  | .nm _, .NamedExpr .., h => by simp [chkT] at h
  | .nm _, .BinOp .., h => by simp [chkT] at h
  | .nm _, .UnaryOp .., h => by simp [chkT] at h
  | .nm _, .Lambda .., h => by simp [chkT] at h
  | .nm _, .IfExp .., h => by simp [chkT] at h
  | .nm _, .Dict .., h => by simp [chkT] at h
  | .nm _, .Set .., h => by simp [chkT] at h
  | .nm _, .ListComp .., h => by simp [chkT] at h
  | .nm _, .SetComp .., h => by simp [chkT] at h
  | .nm _, .DictComp .., h => by simp [chkT] at h
  | .nm _, .GeneratorExp .., h => by simp [chkT] at h
  | .nm _, .Await .., h => by simp [chkT] at h
  | .nm _, .Yield .., h => by simp [chkT] at h
  | .nm _, .YieldFrom .., h => by simp [chkT] at h
  | .nm _, .Compare .., h => by simp [chkT] at h
  | .nm _, .Call .., h => by simp [chkT] at h
  | .nm _, .FormattedValue .., h => by simp [chkT] at h
  | .nm _, .JoinedStr .., h => by simp [chkT] at h
  | .nm _, .Constant .., h => by simp [chkT] at h
  | .nm _, .Attribute .., h => by simp [chkT] at h
  | .nm _, .Subscript .., h => by simp [chkT] at h
  | .nm _, .Starred .., h => by simp [chkT] at h
  | .nm _, .List .., h => by simp [chkT] at h
  | .nm _, .Slice .., h => by simp [chkT] at h
  | .tup _, .Name .., h => by simp [chkT] at h
  | .tup _, .BoolOp .., h => by simp [chkT] at h
  | .tup _, .NamedExpr .., h => by simp [chkT] at h
  | .tup _, .BinOp .., h => by simp [chkT] at h
  | .tup _, .UnaryOp .., h => by simp [chkT] at h
  | .tup _, .Lambda .., h => by simp [chkT] at h
  | .tup _, .IfExp .., h => by simp [chkT] at h
  | .tup _, .Dict .., h => by simp [chkT] at h
  | .tup _, .Set .., h => by simp [chkT] at h
  | .tup _, .ListComp .., h => by simp [chkT] at h
  | .tup _, .SetComp .., h => by simp [chkT] at h
  | .tup _, .DictComp .., h => by simp [chkT] at h
  | .tup _, .GeneratorExp .., h => by simp [chkT] at h
  | .tup _, .Await .., h => by simp [chkT] at h
  | .tup _, .Yield .., h => by simp [chkT] at h
  | .tup _, .YieldFrom .., h => by simp [chkT] at h
  | .tup _, .Compare .., h => by simp [chkT] at h
  | .tup _, .Call .., h => by simp [chkT] at h
  | .tup _, .FormattedValue .., h => by simp [chkT] at h
  | .tup _, .JoinedStr .., h => by simp [chkT] at h
  | .tup _, .Constant .., h => by simp [chkT] at h
  | .tup _, .Attribute .., h => by simp [chkT] at h
  | .tup _, .Subscript .., h => by simp [chkT] at h
  | .tup _, .Starred .., h => by simp [chkT] at h
  | .tup _, .List .., h => by simp [chkT] at h
  | .tup _, .Slice .., h => by simp [chkT] at h
theorem ok_tgs (w : WF X C G XR E) (hf : C.fnC = true ∨ C.fnC = false) : ∀ {ts : MTs} {es : List Expr}, chkTs C ts es = true → PGs X es (gDs X.K ts)
  | .nil, [], h => by
    refine PGs.imp pgs_nil fun vs σ H Q hq => ?_
    obtain ⟨env, st, F, φ, ds, S, r, rv, env', e, q⟩ := hq
    cases ds with
    | nil =>
      cases rv
      cases Option.some.inj (show some env = some env' from e)
      exact ⟨rfl, q σ r ⟨rfl, fun _ _ => rfl⟩⟩
    | cons d ds => simp [bindDs] at e
  | .cons t r, x :: xs, h => by
    simp only [chkTs, Bool.and_eq_true] at h
    have h1 := ok_tg w hf h.1
    have h2 := ok_tgs w hf h.2
    have hne : (assignEach (x :: xs) X.env).map (·.2) = assign x X.env :: (assignEach xs X.env).map (·.2) := by
      have h3 := h.1
      cases x <;> first | rfl | (cases t <;> simp [chkT] at h3)
    refine PGs.imp (pgs_cons h1 h2 hne) fun vs σ H Q hq => ?_
    obtain ⟨env, st, F, φ, ds, S, r0, rv, env', e, q⟩ := hq
    cases ds with
    | nil => simp [bindDs] at e
    | cons d ds =>
      cases rv with
      | cons rv rvs =>
        obtain ⟨env1, e1, e2⟩ := Option.bind_eq_some_iff.mp (show (bindD st t d env).bind (fun env => bindDs st r ds env) = some env' from e)
        refine ⟨_, _, rfl, env, st, F, φ, d, S, r0, rv, env1, e1, fun σ1 r1 o1 => ⟨env1, st, F, φ, ds, S, r1, rvs, env', e2, fun σ2 r2 o2 => q σ2 r2 ⟨o2.1.trans o1.1, fun j hj => ?_⟩⟩⟩
        simp only [tgVarss, List.mem_append, not_or] at hj
        rw [o2.2 j hj.2, o1.2 j hj.1]
  | .nil, _ :: _, h => by simp [chkTs] at h
  | .cons _ _, [], h => by simp [chkTs] at h
end
end
end MP

set_option Elab.async false
set_option linter.all false
set_option autoImplicit false
set_option maxRecDepth 100000
set_option maxHeartbeats 2000000
/-! zip of two lists, two tuples, of a text and a tuple -/
namespace MP
open PySem PySem.Spec PyProof.Rows L2
/-- a text's signs beside a tuple's items -/
def ItzS (K : PySem.W.Frag) (zs : Str) (b : Addr) : It :=
  ⟨fun i H => ∃ (ys : List V), SqT K H b ys ∧ i < zs.cps.size ∧ i < ys.length,
    fun i H v H' => ∃ T c y, v = .ref T ∧ H T = none ∧ H' = upd H T (.tup [.str ⟨#[c]⟩, y]) ∧ zs.cps[i]? = some c ∧ ∀ ys, SqT K H b ys → ys[i]? = some y,
    fun i H => ∃ ys : List V, SqT K H b ys ∧ i ≤ zs.cps.size ∧ i ≤ ys.length ∧ (i = zs.cps.size ∨ i = ys.length)⟩
theorem draws_in {P : Program} {w : World} {A : Around} (hh : A.handled = none) (i1 i2 b : Addr) (hne : b ≠ i2) (zs : Str) (t : Tok) (its : Array Value) :
    Draws P w A.in1 i1 [i1] zs.cps.size (fun i v => ∃ c u, zs.cps[i]? = some c ∧ v = .str ⟨#[c]⟩ u) (fun i h => h.IsStrIter i1 (strIterType zs) zs t i) ∧
    Draws P w A.in1 i2 [i2, b] its.size (fun i v => its[i]? = some v) (fun i h => h.IsTupleIter i2 b i ∧ h.IsTuple b its) :=
  ⟨.text (A := A.in1) hh i1 zs t, .tuple (A := A.in1) hh i2 b hne its⟩
structure ZApart (z TI TO i1 i2 b : Addr) : Prop where
  S : ZipSep2 z TI TO i1 i2 [i1] [i2, b]
  ne : b ≠ i2
theorem zapart {I b : Nat} (h : b < I) : ZApart (I + 4) (I + 2) (I + 3) I (I + 1) b := by
  refine ⟨?_, PySem.W.neN (by omega)⟩
  have no : ∀ {a c : Nat} {l : List Addr}, a ≠ c → a ∉ l → a ∉ ((c : Addr) :: l) := fun h1 h2 h => (List.mem_cons.mp h).elim (PySem.W.neN h1) h2
  exact ⟨PySem.W.neN (by omega), PySem.W.neN (by omega), PySem.W.neN (by omega), PySem.W.neN (by omega), List.mem_cons_self, no (by omega) List.not_mem_nil, no (by omega) List.not_mem_nil, PySem.W.neN (by omega), List.mem_cons_self,
    no (by omega) (no (by omega) List.not_mem_nil), no (by omega) (no (by omega) List.not_mem_nil), no (by omega) (no (by omega) List.not_mem_nil), no (by omega) List.not_mem_nil⟩
theorem turn_zipS {P : Program} {w : World} {K : PySem.W.Frag} {elts : List Expr} {kk : Nat} {tpos : Pos} {zs : Str} {t : Tok} {b z TI TO i1 i2 : Addr} (D : ZApart z TI TO i1 i2 b) :
    Turn P w K (.Tuple elts kk tpos) (ItzS K zs b) [z, TI, TO, i1, i2] z (fun i h => IsZip h z TI TO .none ∧ IsTupOf2 h TI (.ref i1) (.ref i2) ∧ (∃ x y, IsTupOf2 h TO x y) ∧ h.IsStrIter i1 (strIterType zs) zs t i ∧ h.IsTupleIter i2 b i) where
  mem := by simp
  obj := fun i h st c hc => by
    obtain ⟨g1, g2, ⟨_, _, g3⟩, ⟨o1, e1, _, d1⟩, ⟨o2, e2, _, d2⟩⟩ := st
    simp only [List.mem_cons, List.not_mem_nil, or_false] at hc
    rcases hc with rfl | rfl | rfl | rfl | rfl
    · exact ⟨_, g1, fun v q => nomatch q⟩
    · exact ⟨_, g2, fun v q => nomatch q⟩
    · exact ⟨_, g3, fun v q => nomatch q⟩
    · exact ⟨o1, e1, fun v q => by rw [d1] at q; cases q⟩
    · exact ⟨o2, e2, fun v q => by rw [d2] at q; cases q⟩
  keep := fun i h h' st k => by
    obtain ⟨g1, g2, ⟨x, y, g3⟩, ⟨o1, e1, r1⟩, ⟨o2, e2, r2⟩⟩ := st
    exact ⟨k z (by simp) _ g1, k TI (by simp) _ g2, ⟨x, y, k TO (by simp) _ g3⟩, ⟨o1, k i1 (by simp) _ e1, r1⟩, ⟨o2, k i2 (by simp) _ e2, r2⟩⟩
  item := by
    intro X hP hw hK hc i pins s σ H E I hf st hg
    subst hP hw hK
    obtain ⟨g1, g2, ⟨x0, y0, g3⟩, h1, h2⟩ := st
    obtain ⟨ys, hq, k1, k2⟩ := hg
    obtain ⟨its, rv, p, _⟩ := I.tuple hq
    have ln := rv.length
    obtain ⟨D1, D2⟩ := draws_in (P := X.prog) (w := X.w) (I.ok.hd hc) i1 i2 b D.ne zs t its.toArray
    have live : ∀ {c o}, s.heap.get? c = some o → c < s.heap.objs.size := fun e => Heap.lt_size e
    refine wpAny_pyNext_zipD2_item D.S D1 D2 g1 g2 g3 h1 ⟨h2, p⟩ k1 (by simp; omega) fun u u2 h' tk' hu hu2 z' TO' h1' h2' hT hsz hk => ?_
    obtain ⟨c, t2, hc1, rfl⟩ := hu
    have hu2 : its[i]? = some u2 := by simpa using hu2
    have hy : ys[i]? = some (ys[i]'k2) := by simp [k2]
    obtain ⟨u3, hu3, ru⟩ := rv.get hy
    cases hu2.symm.trans hu3
    refine ⟨_, rfl, wpAny_letOwnedTupleGo_zip (s := { s with heap := h', toks := tk' }) z' fun h'' z'' sb => ?_⟩
    have nz : s.heap.objs.size ≠ z := Nat.ne_of_gt (live g1)
    have hT2 : h''.get? s.heap.objs.size = some { cls := .type "tuple", data := .seq #[.str ⟨#[c]⟩ t2, u2] } := (sb.2 _ nz).trans hT
    have r0 : RelV (.str ⟨#[c]⟩) (.str ⟨#[c]⟩ t2) := ⟨t2, rfl⟩
    have new : ObjOk X.prog X.w (upd H s.heap.objs.size (.tup [.str ⟨#[c]⟩, ys[i]])) h'' s.heap.objs.size (.tup [.str ⟨#[c]⟩, ys[i]]) :=
      ⟨by show 2 ≤ sizeLine; decide, [.str ⟨#[c]⟩ t2, u2], .cons r0 (.cons ru .nil), ⟨_, hT2, rfl, _, rfl⟩⟩
    have old : ∀ c' o, c' ∉ [z, TI, TO, i1, i2] → s.heap.get? c' = some o → h''.get? c' = some o := fun c' o hb q => by
      simp only [List.mem_cons, List.not_mem_nil, or_false, not_or] at hb
      exact (sb.2 c' hb.1).trans (hk c' o hb.1 hb.2.2.1 hb.2.2.2.1 hb.2.2.2.2 q)
    have I1 : Inv X pins σ (upd H s.heap.objs.size (.tup [.str ⟨#[c]⟩, ys[i]])) { s with heap := h'', toks := tk' } :=
      I.turnedNew (t' := tk') (ch := [z, TI, TO, i1, i2]) old hf (Nat.le_refl _) new
    refine ⟨.ref s.heap.objs.size, _, I1, rfl, ⟨_, c, ys[i], rfl, I.hok.fresh (Nat.le_refl _), rfl, hc1, fun l hl => by rw [I.tuple_inj hl hq]; exact hy⟩, ⟨z'', ?_, ⟨.str ⟨#[c]⟩ t2, u2, ?_⟩, ?_, ?_⟩, fun c' hcm => ?_⟩
    · exact (sb.2 _ D.S.TIz).trans (hk _ _ D.S.TIz D.S.TITO D.S.TIi1 D.S.TIi2 g2)
    · exact (sb.2 _ D.S.TOz).trans TO'
    · obtain ⟨o, e, r⟩ := h1'
      exact ⟨o, (sb.2 _ fun q => D.S.zi1 q.symm).trans e, r⟩
    · obtain ⟨⟨o, e, r⟩, _⟩ := h2'
      exact ⟨o, (sb.2 _ fun q => D.S.zi2 q.symm).trans e, r⟩
    · have hlt : c' < s.heap.objs.size := by
        obtain ⟨_, e1, _⟩ := h1
        obtain ⟨_, e2, _⟩ := h2
        simp only [List.mem_cons, List.not_mem_nil, or_false] at hcm
        rcases hcm with rfl | rfl | rfl | rfl | rfl
        · exact live g1
        · exact live g2
        · exact live g3
        · exact live e1
        · exact live e2
      rw [upd_ne (Nat.ne_of_lt hlt)]
      exact (hf c' hcm).1
  done := by
    intro X hP hw hK hc i pins s σ H E I hf st hg
    subst hP hw hK
    obtain ⟨g1, g2, ⟨x0, y0, g3⟩, h1, h2⟩ := st
    obtain ⟨ys, hq, k1, k2, k3⟩ := hg
    obtain ⟨its, rv, p, _⟩ := I.tuple hq
    have ln := rv.length
    obtain ⟨D1, D2⟩ := draws_in (P := X.prog) (w := X.w) (I.ok.hd hc) i1 i2 b D.ne zs t its.toArray
    refine wpAny_pyNext_zipD2_end D.S D1 D2 g1 g2 g3 h1 ⟨h2, p⟩ k1 (by simp; omega) (by simp; omega) fun h' tk' hk => ?_
    have old : ∀ c' o, c' ∉ [z, TI, TO, i1, i2] → s.heap.get? c' = some o → h'.get? c' = some o := fun c' o hb q => by
      simp only [List.mem_cons, List.not_mem_nil, or_false, not_or] at hb
      exact hk c' o hb.1 hb.2.2.1 hb.2.2.2.1 hb.2.2.2.2 q
    exact ⟨rfl, I.turnedL (t' := tk') (ch := [z, TI, TO, i1, i2]) old hf⟩
  self := fun A i s Q E st h => wpAny_pyIter_zip st.1 h
/-- two lists, two tuples, a text and a tuple -/
def iZ3 (K : PySem.W.Frag) (ta : TA) : TI := fun σ H R => ta σ H fun vs H1 => ∃ v b, vs = [v, .ref b] ∧
  ((∃ a xs ys, v = .ref a ∧ SqL K H1 a xs ∧ SqL K H1 b ys ∧ R (Itz K a b) H1) ∨ (∃ a xs ys, v = .ref a ∧ SqT K H1 a xs ∧ SqT K H1 b ys ∧ R (RZ.ItzT K a b) H1) ∨ (∃ zs ys, v = .str zs ∧ SqT K H1 b ys ∧ R (ItzS K zs b) H1))
theorem pi_zip3 {X : Cx} {e e2 : Expr} {ta : TA} {p pos tpos : Pos} {elts : List Expr} {kk : Nat} (hg : Gl X "zip") (hm : X.mg "zip" = none) (pa : PA X [e, e2] ta) (h1 : notStar e = true) (h2 : notStar e2 = true) :
    PI X (.Tuple elts kk tpos) (.Call (.Name "zip" p) [e, e2] [] pos) (iZ3 X.K ta) := by
  refine ⟨fun pins s σ H R I hq => Call_ (ld_blt I hg hm boot_zip (callWith_type1 (thn (pa.run pos pins s σ H _ I hq) fun us s1 hh => ?_) (star1 h1) (by rw [star1 h2]; rfl)))⟩
  obtain ⟨vs, H1, I1, r1, v, b, rfl, q1⟩ := hh
  cases r1 with
  | cons r rr =>
    cases rr with
    | cons r' rr =>
      cases rr
      cases r'
      obtain ⟨n, hn⟩ : ∃ n, n = s1.heap.objs.size := ⟨_, rfl⟩
      have five : ∀ c, c ∈ [n + 4, n + 2, n + 3, n, n + 1] → FpOk X pins H1 c := fun c hcm => by
        have hle : s1.heap.objs.size ≤ c := by
          simp only [List.mem_cons, List.not_mem_nil, or_false] at hcm
          rcases hcm with z | z | z | z | z <;> rw [z, hn] <;> first | exact Nat.le_refl _ | exact Nat.le_add_right _ _
        exact I1.fpOk hle (I1.hok.fresh hle)
      subst hn
      rcases q1 with ⟨a, xs, ys, rfl, qx, qy, q⟩ | ⟨a, xs, ys, rfl, qx, qy, q⟩ | ⟨zs, ys, rfl, qy, q⟩
      · cases r
        obtain ⟨_, _, p1, _⟩ := I1.list qx
        obtain ⟨_, _, p2, _⟩ := I1.list qy
        refine call_zip_2 p1.isList p2.isList fun hp hz hTI hTO i1 i2 _ hk => wpAny_pyIter_zip hz ?_
        exact ⟨_, _, _, _, H1, rfl, I1.kept (t' := s1.toks) hk, turn_zip (PySem.W.ktu_apart s1.heap.objs.size a b p1.lt p2.lt), ⟨hz, hTI, ⟨_, _, hTO⟩, i1, i2⟩, five, q⟩
      · cases r
        obtain ⟨j1, _, p1, _⟩ := I1.tuple qx
        obtain ⟨j2, _, p2, _⟩ := I1.tuple qy
        obtain ⟨_, o1, _⟩ := id p1
        obtain ⟨_, o2, _⟩ := id p2
        refine RZ.call_zipT (show s1.heap.IsTuple a j1.toArray from p1) (show s1.heap.IsTuple b j2.toArray from p2) fun hp hz hTI hTO i1 i2 _ hk => wpAny_pyIter_zip hz ?_
        exact ⟨_, _, _, _, H1, rfl, I1.kept (t' := s1.toks) hk, RZ.turn_zipT (PySem.W.ktu_apart s1.heap.objs.size a b (Heap.lt_size o1) (Heap.lt_size o2)), ⟨hz, hTI, ⟨_, _, hTO⟩, i1, i2⟩, five, q⟩
      · obtain ⟨t, rfl⟩ := r
        obtain ⟨j2, _, p2, _⟩ := I1.tuple qy
        obtain ⟨_, o2, _⟩ := id p2
        refine zip_begins2 (begins_text zs t) (begins_tuple b j2.toArray) trivial (show s1.heap.IsTuple b j2.toArray from p2) fun hp hz hTI hTO i1 i2 _ hk => wpAny_pyIter_zip hz ?_
        exact ⟨_, _, _, _, H1, rfl, I1.kept (t' := s1.toks) hk, turn_zipS (zapart (Heap.lt_size o2)), ⟨hz, hTI, ⟨_, _, hTO⟩, ⟨_, i1, rfl, rfl⟩, ⟨_, i2, rfl, rfl⟩⟩, five, q⟩
end MP

set_option Elab.async false
set_option linter.all false
set_option autoImplicit false
set_option maxRecDepth 100000
set_option maxHeartbeats 2000000
/-! the meaning is right: what is walked, comprehensions, the whole of expressions -/
namespace MP
open PySem PySem.Spec PyProof.Rows L2

def RItm (K : PySem.W.Frag) (F : Hp) (φ : List Addr) (x : V) : Itm → Prop
  | .one d => RD K F φ x d
  | .two a b => ∃ T y z, x = .ref T ∧ F T = some (.tup [y, z]) ∧ RD K F φ y a ∧ RD K F φ z b
theorem RItm.mono {K : PySem.W.Frag} {F F1 : Hp} {φ φ1 : List Addr} (e : Ext F φ F1 φ1) {x : V} : ∀ {it : Itm}, RItm K F φ x it → RItm K F1 φ1 x it
  | .one d, h => RD.mono e h
  | .two a b, ⟨T, y, z, h1, h2, h3, h4⟩ => ⟨T, y, z, h1, e.sub _ _ h2, h3.mono e, h4.mono e⟩
def gI (K : PySem.W.Frag) (tg : MT) : TG := fun v σ H Q => ∃ env st F φ it, SR K F φ st H ∧ ER K F φ env σ ∧ RItm K F φ v it ∧ ∃ env', bindI st tg it env = some env' ∧ ∀ σ', ER K F φ env' σ' → OnlyAt (tgVars tg) σ σ' → Q σ' H
section
variable {X : Cx} {C : Ctx} {G : Sem1} {XR : XRT} {E : EK}
theorem ok_tgI (w : WF X C G XR E) {t : MT} {py : Expr} (h : chkT C t py = true) : PG X py (gI X.K t) := by
  have hb : C.fnC = true ∨ C.fnC = false := by cases C.fnC <;> simp
  refine ⟨fun pins s σ H v u Q I r hq => ?_⟩
  obtain ⟨env, st, F, φ, it, S, r0, ri, env', e, q⟩ := hq
  cases it with
  | one d => exact (ok_tg w hb h).run pins s σ H v u Q I r ⟨env, st, F, φ, d, S, r0, ri, env', e, q⟩
  | two a b =>
    cases t with
    | nm i => cases e
    | tup ts =>
      cases py with
      | Tuple es k pos =>
        have h : chkTs C ts es = true := h
        have e : bindDs st ts [a, b] env = some env' := e
        obtain ⟨l1, l2, l3⟩ := bindDs_len (en := X.env) e h
        obtain ⟨T, y, z, rfl, hT, ra, rb⟩ := ri
        exact (pg_tup (n := es.length) w.calm (ok_tgs w hb h) l2 l3).run pins s σ H _ u Q I r ⟨T, [y, z], rfl, Evl.st_of (S.sub T _ hT), l1, env, st, F, φ, [a, b], S, r0, .cons ra (.cons rb .nil), env', e, q⟩
      | _ => simp [chkT] at h

/-! ### what is walked -/
/-- J walks the items while gd stands -/
def WalkOk (K : PySem.W.Frag) (J : It) (its : List Itm) (gd : Store → Prop) (F : Hp) (φ : List Addr) : Prop :=
  ∃ (Gd : Hp → Prop) (Y : Nat → Hp → V → Hp → Prop), Walk J its.length Gd Y ∧ (∀ F2 φ2 st2 H2, Ext F φ F2 φ2 → SR K F2 φ2 st2 H2 → gd st2 → Gd H2) ∧
    ∀ F2 φ2 st2 H2 i x H3, Ext F φ F2 φ2 → SR K F2 φ2 st2 H2 → gd st2 → i < its.length → Y i H2 x H3 → ∃ F3, Ext F2 φ2 F3 φ2 ∧ SR K F3 φ2 st2 H3 ∧ ∃ it, its[i]? = some it ∧ RItm K F3 φ2 x it
theorem WalkOk.ext {K : PySem.W.Frag} {J : It} {its : List Itm} {gd : Store → Prop} {F F1 : Hp} {φ φ1 : List Addr} (h : WalkOk K J its gd F φ) (e : Ext F φ F1 φ1) : WalkOk K J its gd F1 φ1 := by
  obtain ⟨Gd, Y, h1, h2, h3⟩ := h
  exact ⟨Gd, Y, h1, fun F2 φ2 st2 H2 x S g => h2 F2 φ2 st2 H2 (e.trans x) S g, fun F2 φ2 st2 H2 i x H3 y S g hi z => h3 F2 φ2 st2 H2 i x H3 (e.trans y) S g hi z⟩
def QI (K : PySem.W.Frag) (Rk : It → Hp → Prop) : Hp → List Addr → Hp → (List Itm × (Store → Prop)) → Prop := fun F' φ' H' p => ∀ J, WalkOk K J p.1 p.2 F' φ' → Rk J H'
def rI (K : PySem.W.Frag) (XR : XRT) (E : EK) (m : Env → Store → R (List Itm × (Store → Prop))) : TI := fun σ H Rk => ∃ env st F φ, SR K F φ st H ∧ ER K F φ env σ ∧ Sat K XR (E σ) (QI K Rk) F φ (m env st)
theorem PI.imp {tg l : Expr} {t t' : TI} (h : PI X tg l t) (i : ∀ σ H Q, t' σ H Q → t σ H Q) : PI X tg l t' := ⟨fun pins s σ H Q I hw => h.run pins s σ H Q I (i σ H Q hw)⟩
def iSeq (K : PySem.W.Frag) (tl : TE) : TI := fun σ H R => tl σ H fun x H1 => (∃ a, x = .ref a ∧ (∃ xs, SqL K H1 a xs) ∧ R (Itl K a) H1) ∨ (∃ a, x = .ref a ∧ (∃ xs, SqT K H1 a xs) ∧ R (Itt K a) H1) ∨ (∃ z, x = .str z ∧ R (Its z) H1) ∨ (∃ d o kvs, x = .ref d ∧ H1 d = some (.frz o (.dK kvs)) ∧ R (Itk d o kvs) H1) ∨ ∃ d o kvs, x = .ref d ∧ H1 d = some (.frz o (.dT kvs)) ∧ R (Itkt d o kvs) H1
theorem pi_seq {tg l : Expr} {tl : TE} (hl : PE X l tl) : PI X tg l (iSeq X.K tl) := by
  refine ⟨fun pins s σ H R I h => ?_⟩
  refine thn (hl.run pins s σ H _ I h) fun v s1 ⟨x, H1, I1, r1, q1⟩ => ?_
  rcases q1 with ⟨a, e, ⟨xs, hq⟩, q⟩ | ⟨a, e, ⟨xs, hq⟩, q⟩ | ⟨z, e, q⟩ | ⟨d, o, kvs, e, hd, q⟩ | ⟨d, o, kvs, e, hd, q⟩
  · subst e
    cases r1
    obtain ⟨its, rv, p, hz⟩ := I1.list hq
    refine wpAny_pyIter_list p.isList ?_
    refine ⟨s1.heap.objs.size, [s1.heap.objs.size], _, _, H1, rfl, I1.kept (t' := s1.toks) fun b o e => Heap.get?_push_of_some _ e, turn_list a _, ⟨_, Heap.get?_push_size _ rfl, rfl, rfl⟩, fun b hb => ?_, q⟩
    have e : b = s1.heap.objs.size := by simpa using hb
    subst e
    exact I1.fpOk (Nat.le_refl _) (I1.hok.fresh (Nat.le_refl _))
  · subst e
    cases r1
    obtain ⟨its, rv, p, hz⟩ := I1.tuple hq
    refine wpAny_pyIter_tuple (show s1.heap.IsTuple a its.toArray from p) ?_
    refine ⟨s1.heap.objs.size, [s1.heap.objs.size], _, _, H1, rfl, I1.kept (t' := s1.toks) fun b o e => Heap.get?_push_of_some _ e, turn_tuple a _, ⟨_, Heap.get?_push_size _ rfl, rfl, rfl⟩, fun b hb => ?_, q⟩
    have e : b = s1.heap.objs.size := by simpa using hb
    subst e
    exact I1.fpOk (Nat.le_refl _) (I1.hok.fresh (Nat.le_refl _))
  · subst e
    obtain ⟨t, rfl⟩ := r1
    cases ha : z.cps.all (· < 128)
    · exact wpAny_pyIter_wide ha (pi_one (tk := s1.toks) I1 _ (turn_str _ z t "str_iterator" (.inr rfl)) ⟨_, Heap.get?_push_size _ rfl, rfl, rfl⟩ q)
    · exact wpAny_pyIter_ascii ha (pi_one (tk := s1.toks) I1 _ (turn_str _ z t "str_ascii_iterator" (.inl rfl)) ⟨_, Heap.get?_push_size _ rfl, rfl, rfl⟩ q)
  · subst e
    cases r1
    obtain ⟨k1, k2, k3, _, _, _, k4, k5, _, _⟩ := I1.frzK hd
    exact iter_keys k1 k2 k3 k4 (pi_one (tk := s1.toks) I1 _ (turn_keys _ k4) ⟨_, Heap.get?_push_size _ rfl, rfl, by rw [k5] <;> rfl⟩ q)
  · subst e
    cases r1
    obtain ⟨k1, k2, k3, _, _, k4, k5, _⟩ := I1.frzT hd
    exact iter_keys k1 k2 k3 k4 (pi_one (tk := s1.toks) I1 _ (turn_keysT _ k4) ⟨_, Heap.get?_push_size _ rfl, rfl, by rw [k5] <;> rfl⟩ q)
theorem walkL {K : PySem.W.Frag} {F : Hp} {φ : List Addr} {a : Addr} {d : D} {ds : List D} {gd : Store → Prop} (r : RD K F φ (.ref a) d) (hg : ∀ st, gd st → items d st = some ds) : WalkOk K (Itl K a) (ds.map .one) gd F φ := by
  have at_ : ∀ F2 φ2 st2 H2, Ext F φ F2 φ2 → SR K F2 φ2 st2 H2 → gd st2 → ∃ vs, SqL K H2 a vs ∧ RDs K F2 φ2 vs ds := fun F2 φ2 st2 H2 x S g => by
    obtain ⟨b, vs, e, h1, h2⟩ := items_ok S (r.mono x) (hg st2 g)
    cases e
    exact ⟨vs, h1, h2⟩
  refine ⟨fun H => ∃ vs, SqL K H a vs ∧ vs.length = ds.length, fun i H x H' => H' = H ∧ ∀ xs, SqL K H a xs → xs[i]? = some x, ⟨fun i H hi q => ?_, fun H q => ?_, fun i H x H' hi q y => y⟩, fun F2 φ2 st2 H2 x S g => ?_, fun F2 φ2 st2 H2 i x H3 e S g hi y => ?_⟩
  · obtain ⟨vs, h1, h2⟩ := q
    rw [List.length_map, ← h2] at hi
    exact ⟨vs, vs[i], h1, by simp [hi]⟩
  · obtain ⟨vs, h1, h2⟩ := q
    exact ⟨vs, h1, by rw [List.length_map, h2]; exact Nat.le_refl _⟩
  · obtain ⟨vs, h1, h2⟩ := at_ F2 φ2 st2 H2 x S g
    exact ⟨vs, h1, rds_length h2⟩
  · obtain ⟨rfl, y⟩ := y
    obtain ⟨vs, h1, h2⟩ := at_ F2 φ2 st2 _ e S g
    obtain ⟨d', h3, h4⟩ := rds_get' h2 (y vs h1)
    exact ⟨F2, Ext.refl, S, .one d', by rw [List.getElem?_map, h3]; rfl, h4⟩
theorem walkT {K : PySem.W.Frag} {F : Hp} {φ : List Addr} {a : Addr} {xs : List PyData} {gd : Store → Prop} (r : RD K F φ (.ref a) (.p (.tuple xs))) : WalkOk K (Itt K a) (xs.map fun x => .one (.p x)) gd F φ := by
  cases r with
  | tup hS hA =>
    rename_i vs
    have hl := dpAll_len hA
    refine ⟨fun H => SqT K H a vs, YAt vs, ?_, fun F2 φ2 st2 H2 x S g => Evl.st_of (S.sub _ _ (x.sub _ _ hS)), fun F2 φ2 st2 H2 i x H3 e S g hi y => ?_⟩
    · rw [List.length_map, ← hl]; exact walk_tup
    · obtain ⟨rfl, y⟩ := y
      obtain ⟨d', h3, h4⟩ := rds_get' (dpAll_rds (φ := φ2) (dpAll_mono e.sub hA)) y
      rw [List.getElem?_map] at h3
      obtain ⟨x', h5, rfl⟩ := Option.map_eq_some_iff.mp h3
      exact ⟨F2, Ext.refl, S, .one (.p x'), by rw [List.getElem?_map, h5]; rfl, h4⟩
theorem walkS {K : PySem.W.Frag} {F : Hp} {φ : List Addr} {z : Str} {gd : Store → Prop} : WalkOk K (Its z) (z.cps.toList.map fun c => .one (.p (.str ⟨#[c]⟩))) gd F φ := by
  refine ⟨fun _ => True, fun i H v H' => H' = H ∧ ∃ c, z.cps[i]? = some c ∧ v = .str ⟨#[c]⟩, ?_, fun _ _ _ _ _ _ _ => trivial, fun F2 φ2 st2 H2 i x H3 e S g hi y => ?_⟩
  · rw [List.length_map, Array.length_toList]; exact walk_str
  · obtain ⟨rfl, c, h1, rfl⟩ := y
    exact ⟨F2, Ext.refl, S, .one (.p (.str ⟨#[c]⟩)), by rw [List.getElem?_map, Array.getElem?_toList, h1]; rfl, rd_str (φ := φ2)⟩
theorem walkR {K : PySem.W.Frag} {F : Hp} {φ : List Addr} {lo : Int} {n : Nat} {gd : Store → Prop} : WalkOk K (Itr lo n) ((List.range n).map fun (i : Nat) => .one (.p (.int (lo + (i : Int))))) gd F φ := by
  refine ⟨fun _ => True, YFn fun i => .int (lo + i), ?_, fun _ _ _ _ _ _ _ => trivial, fun F2 φ2 st2 H2 i x H3 e S g hi y => ?_⟩
  · rw [List.length_map, List.length_range]; exact walk_range
  · obtain ⟨rfl, rfl⟩ := y
    rw [List.length_map, List.length_range] at hi
    exact ⟨F2, Ext.refl, S, .one (.p (.int (lo + (i : Int)))), by rw [List.getElem?_map, List.getElem?_range hi]; rfl, rd_int (φ := φ2)⟩
theorem paired_at {α β : Type} {R : α → β → Prop} : ∀ {xs : List α} {ys : List β} {i : Nat} {x : α}, Paired R xs ys → xs[i]? = some x → ∃ y, ys[i]? = some y ∧ R x y
  | _, _, 0, _, .cons h _, e => ⟨_, rfl, by cases e; exact h⟩
  | _, _, i + 1, _, .cons _ t, e => paired_at (i := i) t e
theorem walkK {K : PySem.W.Frag} {F : Hp} {φ : List Addr} {d : Addr} {o : Obj} {ws : List (Key × V)} {kvs : List (Key × D)} {gd : Store → Prop} (hF : F d = some (.frz o (.dK ws))) (r : RKs K F φ ws kvs) :
    WalkOk K (Itk d o ws) (kvs.map fun kv => .one (.p (keyP kv.1))) gd F φ := by
  have hl : ws.length = kvs.length := Paired.length r
  refine ⟨fun H => H d = some (.frz o (.dK ws)), fun i H x H' => H' = H ∧ ∃ k v, ws[i]? = some (k, v) ∧ x = kV k, ⟨fun i H hi q => ⟨q, ?_⟩, fun H q => ⟨q, ?_⟩, fun i H x H' hi q y => y⟩, fun F2 φ2 st2 H2 x S g => S.sub _ _ (x.sub _ _ hF), fun F2 φ2 st2 H2 i x H3 e S g hi y => ?_⟩
  · rw [List.length_map] at hi; omega
  · rw [List.length_map]; omega
  · obtain ⟨rfl, k, v, h1, rfl⟩ := y
    obtain ⟨y, h2, h3⟩ := paired_at r h1
    have h3 : k = y.1 := h3.1
    exact ⟨F2, Ext.refl, S, .one (.p (keyP k)), by rw [List.getElem?_map, h2, h3]; rfl, dp_key k⟩
theorem walkKT {K : PySem.W.Frag} {F : Hp} {φ : List Addr} {d : Addr} {o : Obj} {ws : List (List Key × V)} {kvs : List (List Key × D)} (hF : F d = some (.frz o (.dT ws))) (r : RNs K F φ ws kvs) :
    WalkOk K (Itkt d o ws) (kvs.map fun kv => .one (.p (.tuple (kv.1.map keyP)))) (fun st => noPT st = true) F φ := by
  have hl : ws.length = kvs.length := Paired.length r
  refine ⟨fun H => H d = some (.frz o (.dT ws)), fun i H x H' => H' = H ∧ ∃ (k : List Key) (v : V) (q : Addr), ws[i]? = some (k, v) ∧ x = .ref q ∧ H q = some (.tup (k.map kV)), ⟨fun i H hi q => ⟨q, ?_⟩, fun H q => ⟨q, ?_⟩, fun i H x H' hi q y => y⟩, fun F2 φ2 st2 H2 x S g => S.sub _ _ (x.sub _ _ hF), fun F2 φ2 st2 H2 i x H3 e S g hi y => ?_⟩
  · rw [List.length_map] at hi; omega
  · rw [List.length_map]; omega
  · obtain ⟨rfl, k, v, q, h1, rfl, hq⟩ := y
    obtain ⟨y, h2, h3⟩ := paired_at r h1
    have h3 : k = y.1 := h3.1
    have at_ : (kvs.map fun kv => Itm.one (.p (.tuple (kv.1.map keyP))))[i]? = some (.one (.p (.tuple (k.map keyP)))) := by rw [List.getElem?_map, h2, h3]; rfl
    obtain ⟨F3, x3, S3, h4⟩ := S.keyF g hq
    exact ⟨F3, x3, S3, _, at_, Dp.tup h4 (dpAll_keys k)⟩
theorem ok_seq {tg l : Expr} {a : ME} (h : OkP X XR E l (ev G a)) : PI X tg l (rI X.K XR E (evi G (.seq a))) := by
  refine PI.imp (pi_seq h.pe) fun σ H Rk hq => ?_
  obtain ⟨env, st, F, φ, S, r, hq⟩ := hq
  simp only [evi] at hq
  refine ⟨env, st, F, φ, S, r, Sat.bind hq fun d st1 F1 φ1 H1 e1 S1 h1 v rv => ?_⟩
  unfold seqI at h1
  split at h1
  · rename_i xs
    have rv' := rv
    cases rv with
    | lst hS hA =>
      refine .inl ⟨_, rfl, ⟨_, Evl.ex_l S1.sub hS⟩, h1.ok S1 _ ?_⟩
      have := walkL (ds := xs.map D.p) (gd := fun _ => True) rv' (fun _ _ => rfl)
      rwa [List.map_map] at this
  · rename_i xs
    have rv' := rv
    cases rv with
    | tup hS hA => exact .inr (.inl ⟨_, rfl, ⟨_, Evl.st_of (S1.sub _ _ hS)⟩, h1.ok S1 _ (walkT rv')⟩)
  · exact .inr (.inr (.inl ⟨_, rv.str, h1.ok S1 _ walkS⟩))
  · rename_i n
    split at h1
    · rename_i ds e
      have rv' := rv
      have e' : cellL st1 n = some ds := by unfold cellL; rw [e]
      obtain ⟨b, vs, rfl, hS, _⟩ := items_ok S1 rv (show items (.c n) st1 = some ds from e')
      exact .inl ⟨b, rfl, ⟨vs, hS⟩, h1.ok S1 _ (walkL rv' (fun st' g => g))⟩
    · rename_i kvs e
      obtain ⟨b, hb, rfl⟩ := rv
      obtain ⟨a, e1, e2⟩ := S1.off n _ e rfl
      rw [hb] at e1
      cases Option.some.inj e1
      cases e2 with
      | lkd hF rr => exact .inr (.inr (.inr (.inl ⟨_, _, _, rfl, S1.sub _ _ hF, h1.ok S1 _ (walkK hF rr)⟩)))
    · rename_i kvs e
      obtain ⟨b, hb, rfl⟩ := rv
      obtain ⟨a, e1, e2⟩ := S1.off n _ e rfl
      rw [hb] at e1
      cases Option.some.inj e1
      cases e2 with
      | lkt hF rr => exact .inr (.inr (.inr (.inr ⟨_, _, _, rfl, S1.sub _ _ hF, h1.ok S1 _ (walkKT hF rr)⟩)))
    · exact h1.elim
  · exact h1.elim
theorem ok_rng1 (w : WF X C G XR E) {tg : Expr} {a : ME} {f : Str} {x : Expr} {p pos : Pos} (hf : f = ("range" : Str)) (hb : C.isBl f = true) (hn : notStar x = true) (h : OkP X XR E x (ev G a)) : PI X tg (.Call (.Name f p) [x] [] pos) (rI X.K XR E (evi G (.rng1 a))) := by
  subst hf
  obtain ⟨h1, h2, h3⟩ := bl_of w hb
  refine PI.imp (pi_range1 h2 h3 (pa_cons h.pe pa_nil (star1 hn)) (star1 hn)) fun σ H Rk hq => ?_
  obtain ⟨env, st, F, φ, S, r, hq⟩ := hq
  simp only [evi] at hq
  refine ⟨env, st, F, φ, S, r, Sat.bind hq fun d st1 F1 φ1 H1 e1 S1 h1 v rv => ?_⟩
  split at h1
  · rename_i i
    unfold rngI at h1
    split at h1
    · rename_i hz
      have h4 := h1.ok S1 (Itr 0 i.toNat)
      simp only [Int.sub_zero] at h4
      exact ⟨i, by rw [rv.int], hz.2.2.1, hz.2.2.2, h4 walkR⟩
    · exact h1.elim
  · exact h1.elim
theorem ok_rng2 (w : WF X C G XR E) {tg : Expr} {a b : ME} {f : Str} {x y : Expr} {p pos : Pos} (hf : f = ("range" : Str)) (hb : C.isBl f = true) (hn : notStar x = true) (hn2 : notStar y = true) (h : OkP X XR E x (ev G a)) (hh : OkP X XR E y (ev G b)) : PI X tg (.Call (.Name f p) [x, y] [] pos) (rI X.K XR E (evi G (.rng2 a b))) := by
  subst hf
  obtain ⟨h1, h2, h3⟩ := bl_of w hb
  refine PI.imp (pi_range2 h2 h3 (pa_cons h.pe (pa_cons hh.pe pa_nil (star1 hn2)) (star1 hn)) (by rw [star1 hn, star1 hn2]; rfl) (star1 hn2)) fun σ H Rk hq => ?_
  obtain ⟨env, st, F, φ, S, r, hq⟩ := hq
  simp only [evi] at hq
  refine ⟨env, st, F, φ, S, r, Sat.bind hq fun d st1 F1 φ1 H1 e1 S1 h1 v rv => ⟨env, st1, F1, φ1, S1, r.mono e1, Sat.bind h1 fun d2 st2 F2 φ2 H2 e2 S2 h2 v2 rv2 => ?_⟩⟩
  split at h2
  · rename_i i j
    unfold rngI at h2
    split at h2
    · rename_i hz
      exact ⟨i, j, by rw [rv.int, rv2.int], hz, h2.ok S2 _ walkR⟩
    · exact h2.elim
  · exact h2.elim
theorem tup_of {t : Expr} (h : isTup t = true) : ∃ es k p, t = .Tuple es k p := by
  cases t <;> first | exact ⟨_, _, _, rfl⟩ | cases h
theorem ok_enum (w : WF X C G XR E) {tg : Expr} {a : ME} {f : Str} {x : Expr} {p pos : Pos} (hf : f = ("enumerate" : Str)) (hb : C.isBl f = true) (ht : isTup tg = true) (hn : notStar x = true) (h : OkP X XR E x (ev G a)) : PI X tg (.Call (.Name f p) [x] [] pos) (rI X.K XR E (evi G (.enum a))) := by
  subst hf
  obtain ⟨es, k, tp, rfl⟩ := tup_of ht
  obtain ⟨h1, h2, h3⟩ := bl_of w hb
  refine PI.imp (pi_enum h2 h3 (pa_cons h.pe pa_nil (star1 hn)) (star1 hn)) fun σ H Rk hq => ?_
  obtain ⟨env, st, F, φ, S, r, hq⟩ := hq
  simp only [evi] at hq
  refine ⟨env, st, F, φ, S, r, Sat.bind hq fun d st1 F1 φ1 H1 e1 S1 h1 v rv => ?_⟩
  unfold enumI at h1
  split at h1
  · rename_i ds e
    obtain ⟨a, vs, rfl, hS, _⟩ := items_ok S1 rv e
    refine ⟨a, vs, rfl, hS, h1.ok S1 _ ?_⟩
    have at_ : ∀ F2 φ2 st2 H2, Ext F1 φ1 F2 φ2 → SR X.K F2 φ2 st2 H2 → gdOf d ds st2 → ∃ vs, SqL X.K H2 a vs ∧ RDs X.K F2 φ2 vs ds := fun F2 φ2 st2 H2 x S g => by
      obtain ⟨b, vs, e, h1, h2⟩ := items_ok S (rv.mono x) g
      cases e
      exact ⟨vs, h1, h2⟩
    refine ⟨fun H => ∃ vs, SqL X.K H a vs ∧ vs.length = ds.length, fun i H v H' => ∃ T x, v = .ref T ∧ H T = none ∧ H' = upd H T (.tup [.int (i : Nat), x]) ∧ ∀ xs, SqL X.K H a xs → xs[i]? = some x, ⟨fun i H hi q => ?_, fun H q => ?_, fun i H x H' hi q y => y⟩, fun F2 φ2 st2 H2 x S g => ?_, fun F2 φ2 st2 H2 i x H3 e S g hi y => ?_⟩
    · obtain ⟨vs, h1, h2⟩ := q
      rw [List.length_mapIdx, ← h2] at hi
      exact ⟨vs, vs[i], h1, by simp [hi]⟩
    · obtain ⟨vs, h1, h2⟩ := q
      exact ⟨vs, h1, by rw [List.length_mapIdx, h2]; exact Nat.le_refl _⟩
    · obtain ⟨vs, h1, h2⟩ := at_ F2 φ2 st2 H2 x S g
      exact ⟨vs, h1, rds_length h2⟩
    · obtain ⟨T, x', rfl, hT, rfl, y⟩ := y
      obtain ⟨vs, h1, h2⟩ := at_ F2 φ2 st2 _ e S g
      obtain ⟨d', h3, h4⟩ := rds_get' h2 (y vs h1)
      obtain ⟨S3, e3⟩ := S.frz (o := .tup [.int (i : Nat), x']) hT
      exact ⟨_, e3, S3, .two (.p (.int (i : Nat))) d', by rw [List.getElem?_mapIdx, h3]; rfl, T, _, _, rfl, upd_same, rd_int, h4.mono e3⟩
  · exact h1.elim
theorem ok_zip (w : WF X C G XR E) {tg : Expr} {a b : ME} {f : Str} {x y : Expr} {p pos : Pos} (hf : f = ("zip" : Str)) (hb : C.isBl f = true) (ht : isTup tg = true) (hn : notStar x = true) (hn2 : notStar y = true) (h : OkP X XR E x (ev G a)) (hh : OkP X XR E y (ev G b)) :
    PI X tg (.Call (.Name f p) [x, y] [] pos) (rI X.K XR E (evi G (.zip a b))) := by
  subst hf
  obtain ⟨es, k, tp, rfl⟩ := tup_of ht
  obtain ⟨h1, h2, h3⟩ := bl_of w hb
  refine PI.imp (pi_zip3 h2 h3 (pa_cons h.pe (pa_cons hh.pe pa_nil (star1 hn2)) (star1 hn)) hn hn2) fun σ H Rk hq => ?_
  obtain ⟨env, st, F, φ, S, r, hq⟩ := hq
  simp only [evi] at hq
  refine ⟨env, st, F, φ, S, r, Sat.bind hq fun d st1 F1 φ1 H1 e1 S1 h1 v rv => ⟨env, st1, F1, φ1, S1, r.mono e1, Sat.bind h1 fun d2 st2 F2 φ2 H2 e2 S2 h2 v2 rv2 => ?_⟩⟩
  have rv := rv.mono e2
  unfold zipI at h2
  split at h2
  · rename_i xs ys
    have q1 := rv
    have q2 := rv2
    cases q1 with
    | tup hS hA =>
      cases q2 with
      | tup hS2 hA2 =>
        rename_i a vs b ws
        have l1 := dpAll_len hA
        have l2 := dpAll_len hA2
        refine ⟨.ref a, b, rfl, .inr (.inl ⟨a, vs, ws, rfl, Evl.st_of (S2.sub _ _ hS), Evl.st_of (S2.sub _ _ hS2), h2.ok S2 _ ?_⟩)⟩
        refine ⟨fun H => SqT X.K H a vs ∧ SqT X.K H b ws, fun i H v H' => ∃ T x y, v = .ref T ∧ H T = none ∧ H' = upd H T (.tup [x, y]) ∧ vs[i]? = some x ∧ ws[i]? = some y, ⟨fun i H hi q => ?_, fun H q => ?_, fun i H x H' hi q y => ?_⟩, fun F3 φ3 st3 H3 x S g => ⟨Evl.st_of (S.sub _ _ (x.sub _ _ hS)), Evl.st_of (S.sub _ _ (x.sub _ _ hS2))⟩, fun F3 φ3 st3 H3 i x H4 e S g hi y => ?_⟩
        · rw [List.length_map, List.length_zip] at hi
          have k1 : i < vs.length := by omega
          have k2 : i < ws.length := by omega
          exact ⟨vs, ws, vs[i], ws[i], q.1, q.2, by simp [k1], by simp [k2]⟩
        · refine ⟨vs, ws, q.1, q.2, ?_⟩
          rw [List.length_map, List.length_zip]
          omega
        · obtain ⟨T, x, z, h1, h2, h3, h4, h5⟩ := y
          exact ⟨T, x, z, h1, h2, h3, h4 vs q.1, h5 ws q.2⟩
        · obtain ⟨T, x', y', rfl, hT, rfl, k1, k2⟩ := y
          obtain ⟨c1, c2, c3⟩ := rds_get' (dpAll_rds (φ := φ3) (dpAll_mono e.sub hA)) k1
          obtain ⟨f1, f2, f3⟩ := rds_get' (dpAll_rds (φ := φ3) (dpAll_mono e.sub hA2)) k2
          rw [List.getElem?_map] at c2 f2
          obtain ⟨c4, c5, rfl⟩ := Option.map_eq_some_iff.mp c2
          obtain ⟨f4, f5, rfl⟩ := Option.map_eq_some_iff.mp f2
          obtain ⟨S4, e4⟩ := S.frz (o := .tup [x', y']) hT
          refine ⟨_, e4, S4, .two (.p c4) (.p f4), ?_, T, _, _, rfl, upd_same, c3.mono e4, f3.mono e4⟩
          rw [List.getElem?_map, show (List.zip _ _)[i]? = some (c4, f4) from List.getElem?_zip_eq_some.mpr ⟨c5, f5⟩]
          rfl
  · rename_i z ys _
    have q1 := rv.str
    have q2 := rv2
    cases q2 with
    | tup hS2 hA2 =>
      rename_i b ws
      have l2 := dpAll_len hA2
      refine ⟨.str z, b, by rw [q1], .inr (.inr ⟨z, ws, rfl, Evl.st_of (S2.sub _ _ hS2), h2.ok S2 _ ?_⟩)⟩
      refine ⟨fun H => SqT X.K H b ws, fun i H v H' => ∃ T c y, v = .ref T ∧ H T = none ∧ H' = upd H T (.tup [.str ⟨#[c]⟩, y]) ∧ z.cps[i]? = some c ∧ ws[i]? = some y, ⟨fun i H hi q => ?_, fun H q => ?_, fun i H x H' hi q y => ?_⟩, fun F3 φ3 st3 H3 x S g => Evl.st_of (S.sub _ _ (x.sub _ _ hS2)), fun F3 φ3 st3 H3 i x H4 e S g hi y => ?_⟩
      · rw [List.length_map, List.length_zip, Array.length_toList] at hi
        exact ⟨ws, q, by omega, by omega⟩
      · refine ⟨ws, q, ?_⟩
        rw [List.length_map, List.length_zip, Array.length_toList]
        omega
      · obtain ⟨T, c, y, h1, h2, h3, h4, h5⟩ := y
        exact ⟨T, c, y, h1, h2, h3, h4, h5 ws q⟩
      · obtain ⟨T, c, y', rfl, hT, rfl, k1, k2⟩ := y
        obtain ⟨f1, f2, f3⟩ := rds_get' (dpAll_rds (φ := φ3) (dpAll_mono e.sub hA2)) k2
        rw [List.getElem?_map] at f2
        obtain ⟨f4, f5, rfl⟩ := Option.map_eq_some_iff.mp f2
        obtain ⟨S4, e4⟩ := S.frz (o := .tup [.str ⟨#[c]⟩, y']) hT
        refine ⟨_, e4, S4, .two (.p (.str ⟨#[c]⟩)) (.p f4), ?_, T, _, _, rfl, upd_same, rd_str, f3.mono e4⟩
        rw [List.getElem?_map, show (List.zip _ _)[i]? = some (c, f4) from List.getElem?_zip_eq_some.mpr ⟨by rw [Array.getElem?_toList]; exact k1, f5⟩]
        rfl
  · split at h2
    · rename_i xs ys ex ey
      obtain ⟨a, vs, rfl, hS, k1⟩ := items_ok S2 rv ex
      obtain ⟨b, ws, rfl, hS2, k2⟩ := items_ok S2 rv2 ey
      refine ⟨.ref a, b, rfl, .inl ⟨a, vs, ws, rfl, hS, hS2, h2.ok S2 _ ?_⟩⟩
      have at1 : ∀ F3 φ3 st3 H3, Ext F2 φ2 F3 φ3 → SR X.K F3 φ3 st3 H3 → gdOf d xs st3 → ∃ vs, SqL X.K H3 a vs ∧ RDs X.K F3 φ3 vs xs := fun F2 φ2 st2 H2 x S g => by
        obtain ⟨b, vs, e, h1, h2⟩ := items_ok S (rv.mono x) g
        cases e
        exact ⟨vs, h1, h2⟩
      have at2 : ∀ F3 φ3 st3 H3, Ext F2 φ2 F3 φ3 → SR X.K F3 φ3 st3 H3 → gdOf d2 ys st3 → ∃ vs, SqL X.K H3 b vs ∧ RDs X.K F3 φ3 vs ys := fun F2 φ2 st2 H2 x S g => by
        obtain ⟨b, vs, e, h1, h2⟩ := items_ok S (rv2.mono x) g
        cases e
        exact ⟨vs, h1, h2⟩
      refine ⟨fun H => (∃ vs, SqL X.K H a vs ∧ vs.length = xs.length) ∧ ∃ ws, SqL X.K H b ws ∧ ws.length = ys.length,
        fun i H v H' => ∃ T x y, v = .ref T ∧ H T = none ∧ H' = upd H T (.tup [x, y]) ∧ (∀ xs, SqL X.K H a xs → xs[i]? = some x) ∧ ∀ ys, SqL X.K H b ys → ys[i]? = some y, ⟨fun i H hi q => ?_, fun H q => ?_, fun i H x H' hi q y => y⟩, fun F3 φ3 st3 H3 x S g => ?_, fun F3 φ3 st3 H3 i x H4 e S g hi y => ?_⟩
      · obtain ⟨⟨vs, q1, q2⟩, ws, q3, q4⟩ := q
        rw [List.length_map, List.length_zip] at hi
        have k1 : i < vs.length := by omega
        have k2 : i < ws.length := by omega
        exact ⟨vs, ws, vs[i], ws[i], q1, q3, by simp [k1], by simp [k2]⟩
      · obtain ⟨⟨vs, q1, q2⟩, ws, q3, q4⟩ := q
        refine ⟨vs, ws, q1, q3, ?_⟩
        rw [List.length_map, List.length_zip]
        omega
      · obtain ⟨vs, q1, q2⟩ := at1 F3 φ3 st3 H3 x S g.1
        obtain ⟨ws, q3, q4⟩ := at2 F3 φ3 st3 H3 x S g.2
        exact ⟨⟨vs, q1, rds_length q2⟩, ws, q3, rds_length q4⟩
      · obtain ⟨T, x', y', rfl, hT, rfl, y1, y2⟩ := y
        obtain ⟨vs, q1, q2⟩ := at1 F3 φ3 st3 H3 e S g.1
        obtain ⟨ws, q3, q4⟩ := at2 F3 φ3 st3 H3 e S g.2
        obtain ⟨c1, c2, c3⟩ := rds_get' q2 (y1 vs q1)
        obtain ⟨f1, f2, f3⟩ := rds_get' q4 (y2 ws q3)
        obtain ⟨S4, e4⟩ := S.frz (o := .tup [x', y']) hT
        refine ⟨_, e4, S4, .two c1 f1, ?_, T, _, _, rfl, upd_same, c3.mono e4, f3.mono e4⟩
        rw [List.getElem?_map, show (List.zip _ _)[i]? = some (c1, f1) from List.getElem?_zip_eq_some.mpr ⟨c2, f2⟩]
        rfl
    · split at h2
      · rename_i xs ys ex ey
        obtain ⟨a, vs, rfl, hS, k1⟩ := tups_ok S2 rv ex
        obtain ⟨b, ws, rfl, hS2, k2⟩ := tups_ok S2 rv2 ey
        refine ⟨.ref a, b, rfl, .inr (.inl ⟨a, vs, ws, rfl, hS, hS2, h2.ok S2 _ ?_⟩)⟩
        have at1 : ∀ F3 φ3 st3 H3, Ext F2 φ2 F3 φ3 → SR X.K F3 φ3 st3 H3 → tups d st3 = some xs → ∃ vs, SqT X.K H3 a vs ∧ RDs X.K F3 φ3 vs xs := fun F2 φ2 st2 H2 x S g => by
          obtain ⟨b, vs, e, h1, h2⟩ := tups_ok S (rv.mono x) g
          cases e
          exact ⟨vs, h1, h2⟩
        have at2 : ∀ F3 φ3 st3 H3, Ext F2 φ2 F3 φ3 → SR X.K F3 φ3 st3 H3 → tups d2 st3 = some ys → ∃ vs, SqT X.K H3 b vs ∧ RDs X.K F3 φ3 vs ys := fun F2 φ2 st2 H2 x S g => by
          obtain ⟨b, vs, e, h1, h2⟩ := tups_ok S (rv2.mono x) g
          cases e
          exact ⟨vs, h1, h2⟩
        refine ⟨fun H => (∃ vs, SqT X.K H a vs ∧ vs.length = xs.length) ∧ ∃ ws, SqT X.K H b ws ∧ ws.length = ys.length,
          fun i H v H' => ∃ T x y, v = .ref T ∧ H T = none ∧ H' = upd H T (.tup [x, y]) ∧ (∀ xs, SqT X.K H a xs → xs[i]? = some x) ∧ ∀ ys, SqT X.K H b ys → ys[i]? = some y, ⟨fun i H hi q => ?_, fun H q => ?_, fun i H x H' hi q y => ?_⟩, fun F3 φ3 st3 H3 x S g => ?_, fun F3 φ3 st3 H3 i x H4 e S g hi y => ?_⟩
        · obtain ⟨⟨vs, q1, q2⟩, ws, q3, q4⟩ := q
          rw [List.length_map, List.length_zip] at hi
          have k1 : i < vs.length := by omega
          have k2 : i < ws.length := by omega
          exact ⟨vs, ws, vs[i], ws[i], q1, q3, by simp [k1], by simp [k2]⟩
        · obtain ⟨⟨vs, q1, q2⟩, ws, q3, q4⟩ := q
          refine ⟨vs, ws, q1, q3, ?_⟩
          rw [List.length_map, List.length_zip]
          omega
        · exact y
        · obtain ⟨vs, q1, q2⟩ := at1 F3 φ3 st3 H3 x S g.1
          obtain ⟨ws, q3, q4⟩ := at2 F3 φ3 st3 H3 x S g.2
          exact ⟨⟨vs, q1, rds_length q2⟩, ws, q3, rds_length q4⟩
        · obtain ⟨T, x', y', rfl, hT, rfl, y1, y2⟩ := y
          obtain ⟨vs, q1, q2⟩ := at1 F3 φ3 st3 H3 e S g.1
          obtain ⟨ws, q3, q4⟩ := at2 F3 φ3 st3 H3 e S g.2
          obtain ⟨c1, c2, c3⟩ := rds_get' q2 (y1 vs q1)
          obtain ⟨f1, f2, f3⟩ := rds_get' q4 (y2 ws q3)
          obtain ⟨S4, e4⟩ := S.frz (o := .tup [x', y']) hT
          refine ⟨_, e4, S4, .two c1 f1, ?_, T, _, _, rfl, upd_same, c3.mono e4, f3.mono e4⟩
          rw [List.getElem?_map, show (List.zip _ _)[i]? = some (c1, f1) from List.getElem?_zip_eq_some.mpr ⟨c2, f2⟩]
          rfl
      · exact h2.elim
end
end MP

set_option Elab.async false
set_option linter.all false
set_option autoImplicit false
set_option maxRecDepth 100000
set_option maxHeartbeats 2000000
/-! the meaning is right: comprehensions, the whole of expressions -/
namespace MP
open PySem PySem.Spec PyProof.Rows L2

theorem wipe_get {σ : L2.St} {j : Nat} : ∀ {vs : List Nat}, (L2.wipe σ vs)[j]? = if j ∈ vs ∧ j < σ.length then some none else σ[j]?
  | [] => by simp [L2.wipe]
  | v :: vs => by
    unfold L2.wipe
    by_cases hv : v = j
    · subst hv
      by_cases hl : v < σ.length
      · rw [List.getElem?_set_self (by rw [wipe_length]; exact hl), if_pos ⟨List.mem_cons_self, hl⟩]
      · rw [List.getElem?_eq_none (by rw [List.length_set, wipe_length]; omega), if_neg (fun z => hl z.2), List.getElem?_eq_none (by omega)]
    · rw [List.getElem?_set_ne hv, wipe_get]
      by_cases hj : j ∈ vs
      · simp [hj]
      · have : ¬ j = v := fun e => hv e.symm
        simp [hj, this]
/-- the block's own slots changed alone -/
theorem wipe_only {σ σ' : L2.St} {vs ts : List Nat} (h : OnlyAt ts (L2.wipe σ vs) σ') (hs : ∀ j ∈ ts, j ∈ vs) : L2.wipe σ' vs = L2.wipe σ vs := by
  apply List.ext_getElem?
  intro j
  have hl : σ'.length = σ.length := by rw [h.1, wipe_length]
  rw [wipe_get, wipe_get, hl]
  by_cases hj : j ∈ vs
  · by_cases hz : j < σ.length
    · rw [if_pos ⟨hj, hz⟩, if_pos ⟨hj, hz⟩]
    · rw [if_neg (fun z => hz z.2), if_neg (fun z => hz z.2), List.getElem?_eq_none (by omega), List.getElem?_eq_none (by omega)]
  · rw [if_neg (fun z => hj z.1), if_neg (fun z => hj z.1), h.2 j (fun z => hj (hs j z)), wipe_get, if_neg (fun z => hj z.1)]
section
variable {K : PySem.W.Frag} {F H : Hp} {φ : List Addr} {st : Store}
theorem rds_low {φ' : List Addr} {n : Nat} (low : ∀ v d, RD K F φ v d → dBelow n d = true → RD K F φ' v d) : ∀ {ds : List D} {vs : List V}, cellBelow n (.lst ds) = true → RDs K F φ vs ds → RDs K F φ' vs ds
  | _, _, _, .nil => .nil
  | d :: ds, _, hb, .cons r t => by
    have hb : (dBelow n d && ds.all (dBelow n)) = true := hb
    rw [Bool.and_eq_true] at hb
    exact .cons (low _ _ r hb.1) (rds_low low hb.2 t)
theorem rks_low {K : PySem.W.Frag} {F : Hp} {φ φ' : List Addr} {n : Nat} {α : Type} (low : ∀ v d, RD K F φ v d → dBelow n d = true → RD K F φ' v d) : ∀ {ws : List (α × V)} {kvs : List (α × D)}, (∀ kv ∈ kvs, dBelow n kv.2 = true) → RNs K F φ ws kvs → RNs K F φ' ws kvs
  | _, _, _, .nil => .nil
  | _, _, hb, .cons h t => .cons ⟨h.1, low _ _ h.2 (hb _ List.mem_cons_self)⟩ (rks_low low (fun kv hk => hb kv (List.mem_cons_of_mem _ hk)) t)
/-- cells dropped at the end -/
theorem SR.gc (S : SR K F φ st H) (n : Nat) : ∃ φ', SR K F φ' (gc n st) H ∧ ((φ' = φ) ∨ (φ' = φ.take n)) ∧ ∀ v d, RD K F φ v d → dBelow n d = true → RD K F φ' v d := by
  unfold MP.gc
  split
  · rename_i hc
    have low : ∀ v d, RD K F φ v d → dBelow n d = true → RD K F (φ.take n) v d := by
      intro v d r h
      cases d with
      | fn z => exact r
      | p x => exact r
      | c m =>
        obtain ⟨a, h1, rfl⟩ := r
        have hm : m < n := of_decide_eq_true h
        exact ⟨a, by rw [List.getElem?_take_of_lt hm]; exact h1, rfl⟩
    refine ⟨φ.take n, ⟨S.sub, by simp [S.len], S.nd.sublist (List.take_sublist _ _), fun m ds e hd => ?_, fun m c e hcl => ?_⟩, .inr rfl, low⟩
    · have hm : m < n := by
        have := (List.getElem?_eq_some_iff.mp e).1
        rw [List.length_take] at this; omega
      have e' := e
      rw [List.getElem?_take_of_lt hm] at e'
      obtain ⟨a, vs, h1, h2, h3, h4⟩ := S.live m ds e' hd
      refine ⟨a, vs, by rw [List.getElem?_take_of_lt hm]; exact h1, h2, h3, ?_⟩
      have hb := List.all_eq_true.mp hc _ (List.mem_of_getElem? e)
      cases h4 with
      | lst r => exact .lst (rds_low low hb r)
      | tup r => exact .tup (rds_low low hb r)
      | dct r => exact .dct (rks_low low (List.all_eq_true.mp hb) r)
      | dtt r => exact .dtt (rks_low low (List.all_eq_true.mp hb) r)
      | ins hc r => exact .ins hc (rks_low low (List.all_eq_true.mp hb) r)
    · have hm : m < n := by
        have := (List.getElem?_eq_some_iff.mp e).1
        rw [List.length_take] at this; omega
      have e' := e
      rw [List.getElem?_take_of_lt hm] at e'
      obtain ⟨a, h1, h2⟩ := S.off m c e' hcl
      refine ⟨a, by rw [List.getElem?_take_of_lt hm]; exact h1, ?_⟩
      have hb := List.all_eq_true.mp hc _ (List.mem_of_getElem? e)
      cases h2 with
      | dead h => exact .dead h
      | lkd h r => exact .lkd h (rks_low low (List.all_eq_true.mp hb) r)
      | lkt h r => exact .lkt h (rks_low low (List.all_eq_true.mp hb) r)
      | exo hc h hd r => exact .exo hc h hd (rks_low low (List.all_eq_true.mp hb) r)
      | exn hc h => exact .exn hc h
  · exact ⟨φ, S, .inl rfl, fun _ _ r _ => r⟩
theorem pre_take {φ φ' : List Addr} (h : φ <+: φ') : φ <+: φ'.take φ.length := by
  obtain ⟨t, rfl⟩ := h
  rw [List.take_left' rfl]
  exact List.prefix_refl _
/-- a cell's list frozen -/
theorem SR.freeze (S : SR K F φ st H) {n : Nat} {ds : List D} {a : Addr} {vs : List V} (hn : st[n]? = some (.lst ds)) (ha : φ[n]? = some a) (hH : H a = some (.lst vs)) : SR K (upd F a (.lst vs)) φ (st.set n .dead) H ∧ Ext F φ (upd F a (.lst vs)) φ := by
  obtain ⟨a', vs', e1, e2, e3, e4⟩ := S.cell n ds hn
  rw [ha] at e1
  cases Option.some.inj e1
  have hl : n < st.length := (List.getElem?_eq_some_iff.mp hn).1
  have ex : Ext F φ (upd F a (.lst vs)) φ := ⟨Evl.Ex.new e2, List.prefix_refl φ⟩
  have other : ∀ m b, m ≠ n → φ[m]? = some b → b ≠ a := fun m b hm hb z => by
    subst z
    exact hm (nodup_at S.nd hb ha)
  refine ⟨⟨fun b u e => ?_, by rw [List.length_set]; exact S.len, S.nd, fun m ds' e hd => ?_, fun m c e hc => ?_⟩, ex⟩
  · by_cases hb : b = a
    · subst hb; rw [upd_same] at e; rw [← e]; exact hH
    · rw [upd_ne hb] at e; exact S.sub b u e
  · by_cases hm : m = n
    · subst hm; rw [List.getElem?_set_self hl] at e; cases Option.some.inj e; cases hd
    · rw [List.getElem?_set_ne (Ne.symm hm)] at e
      obtain ⟨b, ws, h1, h2, h3, h4⟩ := S.live m ds' e hd
      exact ⟨b, ws, h1, by rw [upd_ne (other m b hm h1)]; exact h2, h3, h4.mono ex⟩
  · by_cases hm : m = n
    · subst hm
      rw [List.getElem?_set_self hl] at e
      cases Option.some.inj e
      exact ⟨a, ha, .dead (by rw [upd_same]; simp)⟩
    · rw [List.getElem?_set_ne (Ne.symm hm)] at e
      obtain ⟨b, h1, h2⟩ := S.off m c e hc
      exact ⟨b, h1, h2.mono ex⟩
end
section
variable {X : Cx} {C : Ctx} {G : Sem1} {XR : XRT} {E : EK}
theorem sat_noEx {α : Type} {E : XK} {K : PySem.W.Frag} {Rel : Hp → List Addr → Hp → α → Prop} {F : Hp} {φ : List Addr} {r : R α} (h : Sat K XR E Rel F φ (noEx r)) : Sat K XR E0 Rel F φ r := by
  cases r with
  | ok a st => exact h
  | ex c st => exact h.elim
  | bad => exact h.elim
theorem sat_noEx_bind {α β : Type} {E : XK} {K : PySem.W.Frag} {Rel : Hp → List Addr → Hp → β → Prop} {Rel' : Hp → List Addr → Hp → α → Prop} {F0 F : Hp} {φ0 φ : List Addr} {r : R α} {k : α → Store → R β} (h : Sat K XR E Rel F0 φ0 ((noEx r).bind k))
    (f : ∀ a st F1 φ1 H1, Ext F φ F1 φ1 → SR K F1 φ1 st H1 → Sat K XR E Rel F0 φ0 (k a st) → Rel' F1 φ1 H1 a) : Sat K XR E0 Rel' F φ r := by
  cases r with
  | ok a st => exact fun F' φ' H' x S => f a st F' φ' H' x S h
  | ex c st => exact h.elim
  | bad => exact h.elim
theorem okc_none : PTs X [] (rT X.K XR E fun env st => truR (evc G .none env st)) := by
  refine ⟨fun pins s σ H Q I hq => pts_nil.run pins s σ H Q I ?_⟩
  obtain ⟨env, st, F, φ, S, r, hq⟩ := hq
  exact hq.ok S
theorem okc_some {a : ME} {x : Expr} (h : OkP X XR E x (ev G a)) : PTs X [x] (rT X.K XR E fun env st => truR (evc G (.some a) env st)) :=
  ⟨fun pins s σ H Q I hq => (pts_one h.pt).run pins s σ H Q I hq⟩

theorem lc_sat {c : Bool} {own : List Nat} {tg : MT} {it : MI} {cond : MO} {elt : ME} {iter t x : Expr} {ifs : List Expr} {σ : L2.St} {H : Hp} {Q : VK}
    (hs : ∀ j ∈ tgVars tg, j ∈ own)
    (hq : rE X.K XR E (ev G (.lc c own tg it cond elt)) σ H Q) :
    tLc (rI X.K XR E (evi G it)) (gI X.K tg) (rT X.K XR (fun _ => E0) fun env st => truR (evc G cond env st)) (rE X.K XR (fun _ => E0) (ev G elt)) own σ H Q := by
  obtain ⟨env, st, F, φ, S, r, hq⟩ := hq
  simp only [ev] at hq
  refine ⟨env, st, F, φ, S, r, Sat.bind hq fun p st1 F1 φ1 H1 e1 S1 h1 J hJ Dl hD => ?_⟩
  have r1 := (r.mono e1).wipe own
  obtain ⟨Gd, Y, hw, hG, hY⟩ := hJ
  obtain ⟨S2, e2, hat⟩ := S1.newCell (vs := []) (ds := []) hD .nil
  -- the rest of the turns, and what follows
  refine lc_it hw (fun i H' => ∃ F' φ' st', Ext F1 (φ1 ++ [Dl]) F' φ' ∧ SR X.K F' φ' st' H' ∧ Sat X.K XR (E σ) (QE X.K Q) F1 φ1 ((lcL p.2 st1.length tg (evc G cond) (ev G elt) (wipeE env own) (p.1.drop i) st').bind fun _ st2 => lcEnd c st1.length st2))
    ⟨F1, φ1 ++ [Dl], _, Ext.refl, S2, by rw [List.drop_zero]; exact h1⟩ (fun i H' hi ⟨F', φ', st', e', S', h'⟩ => ?_) (fun i x H' H'' hi ⟨F', φ', st', e', S', h'⟩ hy => ?_) (fun H' ⟨F', φ', st', e', S', h'⟩ => ?_)
  · -- the walk's word stands
    refine hG F' φ' st' H' (e2.trans e') S' ?_
    cases hd : p.1.drop i with
    | nil =>
      rw [hd] at h'
      unfold lcL at h'
      split at h'
      · assumption
      · exact h'.elim
    | cons a b =>
      rw [hd] at h'
      unfold lcL at h'
      split at h'
      · assumption
      · exact h'.elim
  · -- a turn
    have hdr : p.1.drop i = p.1[i] :: p.1.drop (i + 1) := List.drop_eq_getElem_cons hi
    rw [hdr] at h'
    unfold lcL at h'
    split at h'
    · rename_i hg
      split at h'
      · exact h'.elim
      · rename_i env1 hb
        obtain ⟨F3, e3, S3, it, hit, rit⟩ := hY F' φ' st' H' i x H'' (e2.trans e') S' hg hi hy
        rw [List.getElem?_eq_getElem hi] at hit
        cases Option.some.inj hit
        refine ⟨wipeE env own, st', F3, φ', p.1[i], S3, ((r1.mono e2).mono e').mono e3, rit, env1, hb, fun σ2 r2 o2 => ⟨wipe_only o2 hs, env1, st', F3, φ', S3, r2, ?_⟩⟩
        have h'' := h'
        have h2 : Sat X.K XR (E σ) (QE X.K Q) F1 φ1 ((noEx (truR (evc G cond env1 st'))).bind fun b st => (if b = true then (noEx (ev G elt env1 st)).bind fun d st2 => match cellL st2 st1.length with
            | some acc => if acc.length < SZ then lcL p.2 st1.length tg (evc G cond) (ev G elt) (wipeE env own) (p.1.drop (i + 1)) (st2.set st1.length (.lst (acc ++ [d]))) else .bad
            | none => .bad
          else lcL p.2 st1.length tg (evc G cond) (ev G elt) (wipeE env own) (p.1.drop (i + 1)) st).bind fun _ st2 => lcEnd c st1.length st2) := by
          revert h''
          cases (noEx (truR (evc G cond env1 st'))) <;> exact id
        refine sat_noEx_bind h2 fun b st3 F4 φ4 H4 e4 S4 h4 => ?_
        cases b with
        | false =>
          exact ⟨F4, φ4, st3, (e'.trans e3).trans e4, S4, h4⟩
        | true =>
          simp only [if_true] at h4
          have h5 : Sat X.K XR (E σ) (QE X.K Q) F1 φ1 ((noEx (ev G elt env1 st3)).bind fun d st2 => (match cellL st2 st1.length with
            | some acc => if acc.length < SZ then lcL p.2 st1.length tg (evc G cond) (ev G elt) (wipeE env own) (p.1.drop (i + 1)) (st2.set st1.length (.lst (acc ++ [d]))) else .bad
            | none => .bad).bind fun _ st2 => lcEnd c st1.length st2) := by
            revert h4
            cases (noEx (ev G elt env1 st3)) <;> exact id
          refine ⟨env1, st3, F4, φ4, S4, r2.mono e4, sat_noEx_bind h5 fun d st5 F5 φ5 H5 e5 S5 h6 v rv => ?_⟩
          cases hc : cellL st5 st1.length with
          | none => rw [hc] at h6; exact h6.elim
          | some acc =>
            rw [hc] at h6
            simp only at h6
            split at h6
            · rename_i hz
              obtain ⟨a, vs, c1, c2, c3, c4⟩ := S5.cell _ _ (cellL_some hc)
              have hDa : φ5[st1.length]? = some Dl := ((e'.trans e3).trans (e4.trans e5)).at hat
              rw [hDa] at c1
              cases Option.some.inj c1
              refine ⟨vs, c3, by rw [rds_length c4]; exact Nat.lt_of_lt_of_le hz (sz_ok (Nat.le_refl _)), F5, φ5, _, ((e'.trans e3).trans (e4.trans e5)), S5.write (cellL_some hc) hDa (rds_append c4 (.cons rv .nil)), h6⟩
            · exact h6.elim
    · exact h'.elim
  · -- the end
    rw [List.drop_length] at h'
    unfold lcL at h'
    split at h'
    · simp only [R.bind_ok] at h'
      have hDa : φ'[st1.length]? = some Dl := e'.at hat
      unfold lcEnd at h'
      cases c with
      | true => exact h' _ _ _ (e2.trans e') S' _ ⟨Dl, hDa, rfl⟩
      | false =>
        simp only at h'
        split at h'
        · rename_i ds hc
          split at h'
          · rename_i xs hp
            obtain ⟨a, vs, c1, c2, c3, c4⟩ := S'.cell _ _ (cellL_some hc)
            rw [hDa] at c1
            cases Option.some.inj c1
            obtain ⟨S6, e6⟩ := S'.freeze (cellL_some hc) hDa c3
            obtain ⟨φ7, S7, hφ, _⟩ := S6.gc st1.length
            rw [pures_some hp] at c4
            have e7 : Ext F1 φ1 (upd F' Dl (.lst vs)) φ7 := by
              refine ⟨(e2.trans (e'.trans e6)).sub, ?_⟩
              have pre := (e2.trans e').pre
              rcases hφ with rfl | rfl
              · exact pre
              · rw [← S1.len]; exact pre_take pre
            exact h' _ _ _ e7 S7 _ (show RD X.K _ φ7 _ (.p _) from Dp.lst (Evl.sq_of upd_same) (dpAll_mono e6.sub c4.dpAll))
          · exact h'.elim
        · exact h'.elim
    · exact h'.elim
end
end MP

set_option Elab.async false
set_option linter.all false
set_option autoImplicit false
set_option maxRecDepth 100000
set_option maxHeartbeats 2000000
/-! the meaning is right: frozen lists, turned lists, dicts, instances, tables of defs, methods of lists -/
namespace MP
open PySem PySem.Spec PyProof.Rows L2
theorem base_of {o : Expr} {f : Str} {env : PySem.Env} (h : notSuper o = true) : attributeBase o f env (eval o env) = eval o env := by
  cases o with
  | Call fn args kws p =>
    cases fn with
    | Name x q =>
      cases args with
      | nil =>
        cases kws with
        | nil => cases h
        | cons a b => rfl
      | cons a b => rfl
    | _ => rfl
  | _ => rfl
section
variable {X : Cx} {C : Ctx} {G : Sem1} {XR : XRT} {E : EK}
theorem ok_frz {a : ME} {x : Str} {pos : Pos} (ha : OkP X XR E (.Name x pos) (ev G a)) : OkP X XR E (.Name x pos) (ev G (.frz a)) := by
  refine .plain (PE.imp ha.pe fun σ H Q hq => ?_) (fun _ => rfl) (fun _ _ _ e => nomatch e)
  obtain ⟨env, st, F, φ, S, r, hq⟩ := hq
  simp only [ev] at hq
  refine ⟨env, st, F, φ, S, r, Sat.bind hq fun d st1 F1 φ1 H1 e1 S1 h1 v rv => ?_⟩
  unfold frzD at h1
  split at h1
  · split at h1
    · rename_i ds hc
      split at h1
      · rename_i xs hp
        obtain ⟨l, c1, rfl⟩ := rv
        obtain ⟨b, vs, c2, c3, c4, c5⟩ := S1.cell _ _ (cellL_some hc)
        rw [c1] at c2
        cases Option.some.inj c2
        obtain ⟨S6, e6⟩ := S1.freeze (cellL_some hc) c1 c4
        rw [pures_some hp] at c5
        exact h1 _ _ _ e6 S6 _ (show RD X.K _ _ _ (.p _) from Dp.lst (Evl.sq_of upd_same) (dpAll_mono e6.sub c5.dpAll))
      · exact h1.elim
    · exact h1.elim
  · exact h1.ok S1 v rv
theorem ok_frzA {a : ME} {o : Expr} {f : Str} {pos : Pos} (ha : OkP X XR E (.Attribute o f pos) (ev G a)) : OkP X XR E (.Attribute o f pos) (ev G (.frz a)) := by
  refine .plain (PE.imp ha.pe fun σ H Q hq => ?_) (fun _ => rfl) (fun _ _ _ e => nomatch e)
  obtain ⟨env, st, F, φ, S, r, hq⟩ := hq
  simp only [ev] at hq
  refine ⟨env, st, F, φ, S, r, Sat.bind hq fun d st1 F1 φ1 H1 e1 S1 h1 v rv => ?_⟩
  unfold frzD at h1
  split at h1
  · split at h1
    · rename_i ds hc
      split at h1
      · rename_i xs hp
        obtain ⟨l, c1, rfl⟩ := rv
        obtain ⟨b, vs, c2, c3, c4, c5⟩ := S1.cell _ _ (cellL_some hc)
        rw [c1] at c2
        cases Option.some.inj c2
        obtain ⟨S6, e6⟩ := S1.freeze (cellL_some hc) c1 c4
        rw [pures_some hp] at c5
        exact h1 _ _ _ e6 S6 _ (show RD X.K _ _ _ (.p _) from Dp.lst (Evl.sq_of upd_same) (dpAll_mono e6.sub c5.dpAll))
      · exact h1.elim
    · exact h1.elim
  · exact h1.ok S1 v rv
/-! xs[::-1], lists and tuples -/
theorem places_rev (n : Nat) : Builtin.Slice.slicePlaces ((n : Int) - 1) (-1) (-1) = n := by
  unfold Builtin.Slice.slicePlaces
  have h1 : ¬ ((-1 : Int) > 0) := by omega
  rw [if_neg h1, show (- -1 : Int) = 1 by decide, Int.ediv_one]
  split <;> omega
theorem fm_congr {α β : Type} {f g : α → Option β} {l : List α} (h : ∀ a ∈ l, f a = g a) : l.filterMap f = l.filterMap g := by
  induction l with
  | nil => rfl
  | cons a r ih => rw [List.filterMap_cons, List.filterMap_cons, h a List.mem_cons_self, ih fun x hx => h x (List.mem_cons_of_mem _ hx)]
theorem pick_rev (xs : Array Value) : ((List.range xs.size).filterMap fun (k : Nat) => xs[((xs.size : Int) - 1 + (k : Int) * (-1)).toNat]?).toArray = xs.toList.reverse.toArray := by
  have e : PySem.slicePick xs none none (some (-1)) = ((PySem.sliceRange ((xs.size : Int) - 1) (-1) (-1)).filterMap (xs[·]?)).toArray := by
    unfold PySem.slicePick
    rw [PySem.W.krv_bounds]
  rw [← PySem.W.krv_pick, e, PySem.W.krv_sliceRange, List.filterMap_map]
  refine congrArg List.toArray (fm_congr fun k hk => ?_)
  have := List.mem_range.mp hk
  show _ = xs[xs.size - 1 - k]?
  have e2 : ((xs.size : Int) - 1 + (k : Int) * (-1)).toNat = xs.size - 1 - k := by omega
  rw [e2]
section
variable {prog : Program} {w : World} {A : Around} {E : Value → Shared → Prop} {s : Shared}
theorem sliceApplied_rev {sl : Addr} {vl vu vs : Value} {n : Nat} {Q : Int × Int × Nat → Shared → Prop} (hs : s.heap.IsSliceOf sl vl vu vs) (pl : IsPart vl none) (pu : IsPart vu none) (ps : IsPart vs (some (-1)))
    (h : Q ((n : Int) - 1, -1, n) s) : wpAny (model prog w) A (Builtin.Slice.sliceApplied (.ref sl) (pure (n : Int))) Q E s := by
  obtain ⟨os, hos, hcs, hds⟩ := id hs
  unfold Builtin.Slice.sliceApplied Builtin.Slice.sliceFields
  refine wpAny_bind (wpAny_bind (wpAny_field hos hds (x := vl) rfl (wpAny_bind (wpAny_field hos hds (x := vu) rfl (wpAny_bind (wpAny_field hos hds (x := vs) rfl (wpAny_pure ?_)))))))
  refine wpAny_bind (HT.slicePart_ ps ?_)
  show wpAny _ _ (if ((-1 : Int) == 0) = true then _ else _) _ _ s
  rw [if_neg (by decide)]
  refine wpAny_bind (HT.slicePart_ pl (wpAny_bind (HT.slicePart_ pu (wpAny_bind (wpAny_pure ?_)))))
  show wpAny _ _ (pure ((n : Int) - 1, (-1 : Int), Builtin.Slice.slicePlaces ((n : Int) - 1) (-1) (-1))) _ _ s
  rw [places_rev]
  exact wpAny_pure h
theorem getItem_tuple_rev {t sl : Addr} {items : Array Value} {vl vu vs : Value} {Q : Value → Shared → Prop} (ht : IsTup s.heap t items) (hs : s.heap.IsSliceOf sl vl vu vs) (pl : IsPart vl none) (pu : IsPart vu none) (ps : IsPart vs (some (-1)))
    (h : Q (.ref s.heap.objs.size) { s with heap := s.heap.push { cls := .type "tuple", data := .seq items.toList.reverse.toArray } })
    (hsz : items.size ≤ sizeLine) : wpAny (model prog w) A (getItem (.ref t) (.ref sl)) Q E s := by
  have hrev : sizeOk (.seq items.toList.reverse.toArray) := by
    show items.toList.reverse.toArray.size ≤ sizeLine
    rw [List.size_toArray, List.length_reverse, Array.length_toList]
    exact hsz
  obtain ⟨os, hos, hcs, hds⟩ := id hs
  have hTs : s.TypeIs (.ref sl) "slice" := ⟨os, hos, hcs⟩
  unfold getItem
  try with_reducible refine wpAny_holding ?_
  first | refine wpAny_bind (wpAny_pure ?_) | skip
  refine wpAny_bind (wpAny_sequenceKey ht.typeIs (by decide) ?_)
  refine wpAny_bind (wpAny_callSpecial?_slot (name := Str.ofString "__getitem__") ht.typeIs PyProof.Rows.slot_tuple_getitem
    (wpAny_call_entry PyProof.Rows.slot_tuple_getitem ht.typeIs entry_tuple_getitem ?_ (args_tuple_getitem _ _)))
  show wpAny _ _ (Builtin.Tuple.tupleItemsOf (.ref t) >>= _) _ _ s
  refine wpAny_bind (tupleItemsOf_ ht ?_)
  refine wpAny_bind (wpAny_typeOf hTs ?_)
  rw [if_pos (by decide)]
  refine wpAny_bind (sliceApplied_rev hs pl pu ps ?_)
  have hno : ¬ ((((items.size : Nat) : Int) - 1 == 0 && (-1 : Int) == 1 && items.size == items.size) = true) := by
    have : ((-1 : Int) == 1) = false := by decide
    rw [this]; simp
  show wpAny _ _ (if (((items.size : Nat) : Int) - 1 == 0 && (-1 : Int) == 1 && items.size == items.size) = true then _ else _) _ _ s
  rw [if_neg hno, pick_rev]
  first
    | exact wpAny_bind (m := Builtin.Tuple.tupleExact _) (wpAny_newObj_type (wpAny_pure ⟨_, rfl, wpAny_pure h⟩) hrev)
    | exact wpAny_bind (m := Builtin.Tuple.tupleExact _) (wpAny_newObj_type (wpAny_bind (wpAny_pure (wpAny_pure ⟨_, rfl, wpAny_pure h⟩))) hrev)
    | exact wpAny_bind (wpAny_bind (m := Builtin.Tuple.tupleExact _) (wpAny_newObj_type (wpAny_pure (wpAny_pure ⟨_, rfl, wpAny_pure h⟩)) hrev))
    | exact wpAny_bind (wpAny_bind (m := Builtin.Tuple.tupleExact _) (wpAny_newObj_type (wpAny_pure ⟨_, rfl, wpAny_pure h⟩) hrev))
end
def tRevA (K : PySem.W.Frag) (te : TE) : TE := fun σ H Q => te σ H fun x H1 => ∃ a xs, x = .ref a ∧ ((SqL K H1 a xs ∧ ∀ p, H1 p = none → Q (.ref p) (upd H1 p (.lst xs.reverse))) ∨ (SqT K H1 a xs ∧ ∀ p, H1 p = none → Q (.ref p) (upd H1 p (.tup xs.reverse))))
theorem pe_revA {e : Expr} {te : TE} {k : Nat} {p1 p2 p3 pos : Pos} (he : PE X e te) : PE X (.Subscript e (.Slice none none (some (.UnaryOp .USub (.Constant (.int 1) k p1) p2)) p3) pos) (tRevA X.K te) := by
  refine ⟨fun pins s σ H Q I h => ?_⟩
  refine Subscript_ (thn (he.run pins s σ H _ I h) fun v s1 ⟨x, H1, I1, r1, q1⟩ => ?_)
  obtain ⟨a, xs, ex, q⟩ := q1
  subst ex
  cases r1
  have hst : PO X (some (.UnaryOp .USub (.Constant (.int 1) k p1) p2)) (tPart (L2.tUn (L2.rU fun i => .int (-i)) (L2.tC (.int 1)))) := po_some (pe_un un_neg pe_int)
  refine wpAny_Slice (thn (po_none.run pins s1 σ H1 (fun o H2 => o = none ∧ H2 = H1) I1 ⟨rfl, rfl⟩) fun vl s2 ⟨l, H2, I2, pl, el, e2⟩ => ?_)
  subst el e2
  refine thn (po_none.run pins s2 σ H2 (fun o H3 => o = none ∧ H3 = H2) I2 ⟨rfl, rfl⟩) fun vu s3 ⟨u, H3, I3, pu, eu, e3⟩ => ?_
  subst eu e3
  refine thn (hst.run pins s3 σ H3 (fun o H4 => o = some (-1) ∧ H4 = H3) I3 ⟨1, rfl, -1, rfl, rfl, rfl⟩) fun vs s4 ⟨o, H4, I4, ps, eo, e4⟩ => ?_
  subst eo e4
  have I5 : Inv X pins σ H4 { s4 with heap := s4.heap.push { cls := .type "slice", data := .fields #[vl, vu, vs] } } := I4.kept (t' := s4.toks) fun b ob q => Heap.get?_push_of_some _ q
  show wpAny (model X.prog X.w) X.A (subscriptTail e (.Slice none none (some (.UnaryOp .USub (.Constant (.int 1) k p1) p2)) p3) (.ref a) (.ref s4.heap.objs.size)) (EP X pins σ Q) X.xe { s4 with heap := s4.heap.push { cls := .type "slice", data := .fields #[vl, vu, vs] } }
  rcases q with ⟨hx, q⟩ | ⟨hx, q⟩
  · obtain ⟨its, r, ht, hz⟩ := I5.list hx
    have hlen := r.length
    refine tail_any (ops := [.ref a, .ref s4.heap.objs.size]) ht.isList.typeIs (PySem.slot_list_getitem.lookup) ?_ (by with_unfolding_all rfl)
    refine wpAny_getItem_list_slice ht.isList (Heap.IsSliceOf.new _ vl vu vs) pl pu ps (by decide) ?_ (by rw [List.size_toArray]; omega)
    rw [PySem.W.krv_pick]
    refine ⟨.ref _, _, I5.laid (t' := s4.toks) (o := .lst xs.reverse) (fun b ob q => Heap.get?_push_of_some _ q) (Nat.le_refl _) ?_, rfl, q _ (I5.hok.fresh (Nat.le_refl _))⟩
    exact ⟨by rw [List.length_reverse]; exact hz, _, 0, r.reverse, Heap.get?_push_size _ rfl⟩
  · obtain ⟨its, r, ht, hz⟩ := I5.tuple hx
    have hlen := r.length
    refine tail_any (ops := [.ref a, .ref s4.heap.objs.size]) ht.typeIs PyProof.Rows.slot_tuple_getitem.lookup ?_ (by with_unfolding_all rfl)
    refine getItem_tuple_rev ht (Heap.IsSliceOf.new _ vl vu vs) pl pu ps ?_ (by rw [List.size_toArray]; omega)
    refine ⟨.ref _, _, I5.laid (t' := s4.toks) (o := .tup xs.reverse) (fun b ob q => Heap.get?_push_of_some _ q) (Nat.le_refl _) ?_, rfl, q _ (I5.hok.fresh (Nat.le_refl _))⟩
    exact ⟨by rw [List.length_reverse]; exact hz, _, r.reverse, IsTup.new _ _⟩
theorem ok_rev {a : ME} {x : Expr} {k : Nat} {p1 p2 p3 pos : Pos} (ha : OkP X XR E x (ev G a)) : OkP X XR E (.Subscript x (.Slice none none (some (.UnaryOp .USub (.Constant (.int 1) k p1) p2)) p3) pos) (ev G (.rev a)) := by
  refine .plain (PE.imp (pe_revA ha.pe) fun σ H Q hq => ?_) (fun _ => rfl) (fun _ _ _ e => nomatch e)
  obtain ⟨env, st, F, φ, S, r, hq⟩ := hq
  simp only [ev] at hq
  refine ⟨env, st, F, φ, S, r, Sat.bind hq fun d st1 F1 φ1 H1 e1 S1 h1 v rv => ?_⟩
  unfold revD at h1
  split at h1
  · rename_i xs
    obtain ⟨l, vs, rfl, hl, _, r1⟩ := tup_ok S1 rv
    exact ⟨l, vs, rfl, .inr ⟨hl, fun p hp => sat_mkT S1 hp (rds_reverse r1) h1⟩⟩
  · split at h1
    · rename_i xs e0
      obtain ⟨l, vs, rfl, hl, r1⟩ := items_ok S1 rv e0
      exact ⟨l, vs, rfl, .inl ⟨hl, fun p hp => sat_mkL S1 hp (rds_reverse r1) h1⟩⟩
    · exact h1.elim
theorem ok_dctE {t : Bool} {pos : Pos} : OkP X XR E (.Dict [] [] pos) (ev G (.dctE t)) := by
  cases t with
  | true =>
    refine .plain (PE.imp pe_dnewT fun σ H Q hq => ?_) (fun _ => rfl) (fun _ _ _ e => nomatch e)
    obtain ⟨env, st, F, φ, S, r, hq⟩ := hq
    simp only [ev] at hq
    exact fun p hp => sat_cell S hp (.dtt .nil) rfl hq
  | false =>
    refine .plain (PE.imp pe_dnewK fun σ H Q hq => ?_) (fun _ => rfl) (fun _ _ _ e => nomatch e)
    obtain ⟨env, st, F, φ, S, r, hq⟩ := hq
    simp only [ev] at hq
    exact fun p hp => sat_cell S hp (.dct .nil) rfl hq
/-! displays -/
def trsOf (K : PySem.W.Frag) (XR : XRT) (E : EK) (G : Sem1) : List Str → MEs → List (TE × TE)
  | k :: ks, .cons e r => (tC (.str k), rE K XR E (ev G e)) :: trsOf K XR E G ks r
  | _, _ => []
theorem bind_assoc {α β γ : Type} (r : R α) (f : α → Store → R β) (g : β → Store → R γ) : (r.bind f).bind g = r.bind fun a st => (f a st).bind g := by
  cases r <;> rfl
def lenE : MEs → Nat
  | .nil => 0
  | .cons _ r => lenE r + 1
theorem chks_len : ∀ {es : MEs} {xs : List Expr}, chks C es xs = true → lenE es = xs.length
  | .nil, [], _ => rfl
  | .cons e r, x :: xs, h => by
    simp only [chks, Bool.and_eq_true] at h
    simp [lenE, chks_len h.2]
  | .nil, _ :: _, h => by simp [chks] at h
  | .cons _ _, [], h => by simp [chks] at h
theorem keysAre_len : ∀ {ks : List Str} {keys : List (Option Expr)}, keysAre ks keys = true → ks.length = keys.length ∧ keys.all (·.isSome) = true
  | [], [], _ => ⟨rfl, rfl⟩
  | k :: ks, some (.Constant (.str x) _ _) :: r, h => by
    simp only [keysAre, Bool.and_eq_true] at h
    obtain ⟨h1, h2⟩ := keysAre_len h.2
    simp [h1, h2]
  | [], _ :: _, h => by simp [keysAre] at h
  | _ :: _, [], h => by simp [keysAre] at h
  | _ :: _, none :: _, h => by simp [keysAre] at h
  | _ :: _, some e :: _, h => by
    unfold keysAre at h
    split at h
    · contradiction
    · rename_i heq1 heq2
      cases heq1
      cases heq2
      simp only [Bool.and_eq_true] at h
      obtain ⟨h1, h2⟩ := keysAre_len h.2
      simp [h1, h2]
    · cases h
theorem tpairs_ok {β : Type} {Rel : Hp → List Addr → Hp → β → Prop} {σ : L2.St} {env : Env} : ∀ (ks : List Str) (es : MEs) (st : Store) (F : Hp) (φ : List Addr) (H : Hp) (k : List D → Store → R β) (Qp : List (V × V) → Hp → Prop), lenE es = ks.length → SR X.K F φ st H → ER X.K F φ env σ →
    Sat X.K XR (E σ) Rel F φ ((evs G es env st).bind k) →
    (∀ ds vs st2 F2 φ2 H2, ds.length = ks.length → Ext F φ F2 φ2 → SR X.K F2 φ2 st2 H2 → RDs X.K F2 φ2 vs ds → Sat X.K XR (E σ) Rel F2 φ2 (k ds st2) → Qp ((ks.zip vs).map fun q => (V.str q.1, q.2)) H2) →
    tPairs (trsOf X.K XR E G ks es) σ H Qp
  | [], .nil, st, F, φ, H, k, Qp, hl, S, r, h, f => by
    simp only [evs, R.bind_ok] at h
    exact f [] [] st F φ H rfl Ext.refl S .nil h
  | [], .cons e es, st, F, φ, H, k, Qp, hl, S, r, h, f => by simp [lenE] at hl
  | k :: ks, .nil, st, F, φ, H, kk, Qp, hl, S, r, h, f => by simp [lenE] at hl
  | k :: ks, .cons e es, st, F, φ, H, kk, Qp, hl, S, r, h, f => by
    simp only [evs, bind_assoc, R.bind_ok] at h
    refine ⟨env, st, F, φ, S, r, Sat.bind h fun d st1 F1 φ1 H1 e1 S1 h1 v rv => ?_⟩
    refine tpairs_ok ks es st1 F1 φ1 H1 (fun xs st => kk (d :: xs) st) _ (by simpa [lenE] using hl) S1 (r.mono e1) h1 (fun ds vs st2 F2 φ2 H2 hl e2 S2 rvs h2 => ?_)
    exact f (d :: ds) (v :: vs) st2 F2 φ2 H2 (by simp [hl]) (e1.trans e2) S2 (.cons (rv.mono e2) rvs) h2
inductive PesOk (X : Cx) (C : Ctx) (G : Sem1) (XR : XRT) (E : EK) : MEs → List Expr → Prop
  | nil : PesOk X C G XR E .nil []
  | cons {e : ME} {r : MEs} {x : Expr} {xs : List Expr} (h : PE X x (rE X.K XR E (ev G e))) (t : PesOk X C G XR E r xs) : PesOk X C G XR E (.cons e r) (x :: xs)
theorem pps_ok {pos : Pos} {es : MEs} {vals : List Expr} (h : PesOk X C G XR E es vals) : ∀ {ks : List Str} {keys : List (Option Expr)}, keysAre ks keys = true → lenE es = ks.length → PPs X pos keys vals (trsOf X.K XR E G ks es) := by
  induction h with
  | nil =>
    intro ks keys hk hl
    cases ks with
    | cons k ks => simp [lenE] at hl
    | nil =>
      cases keys with
      | nil => exact pps_nil
      | cons a b => simp [keysAre] at hk
  | @cons e r x xs h t ih =>
    intro ks keys hk hl
    cases ks with
    | nil => simp [lenE] at hl
    | cons k ks =>
      cases keys with
      | nil => simp [keysAre] at hk
      | cons y keys =>
        unfold keysAre at hk
        split at hk
        · contradiction
        · rename_i heq1 heq2
          cases heq1
          cases heq2
          simp only [Bool.and_eq_true] at hk
          cases eq_of_beq hk.1
          exact pps_cons pe_str h (ih hk.2 (by simpa [lenE] using hl))
        · cases hk
theorem rks_zip {K : PySem.W.Frag} {F : Hp} {φ : List Addr} : ∀ {ks : List Str} {vs : List V} {ds : List D}, RDs K F φ vs ds → RNs K F φ ((ks.zip vs).map fun q => ((Sum.inr q.1 : Key), q.2)) ((ks.zip ds).map fun q => ((Sum.inr q.1 : Key), q.2))
  | [], _, _, _ => .nil
  | _ :: _, _, _, .nil => .nil
  | k :: ks, _, _, .cons h t => .cons ⟨rfl, h⟩ (rks_zip t)
theorem ok_dct' {ks : List Str} {es : MEs} {keys : List (Option Expr)} {vals : List Expr} {pos : Pos} (h0 : ks.isEmpty = false) (h15 : ks.length ≤ 15) (hkv : keys.length = vals.length) (hk : keysAre ks keys = true) (hc : chks C es vals = true)
    (hs : PesOk X C G XR E es vals) : OkP X XR E (.Dict keys vals pos) (ev G (.dct ks es)) := by
  obtain ⟨k1, k2⟩ := keysAre_len hk
  have hl : lenE es = ks.length := by rw [chks_len hc, ← hkv, k1]
  refine .plain (PE.imp (pe_disp (pps_ok hs hk hl) k2 hkv (fun z => by subst z; rw [List.length_eq_zero_iff.mp k1] at h0; cases h0) (by rw [← k1]; exact h15)) fun σ H Q hq => ?_) (fun _ => rfl) (fun _ _ _ e => nomatch e)
  obtain ⟨env, st, F, φ, S, r, hq⟩ := hq
  simp only [ev] at hq
  intro p hp
  obtain ⟨S1, e1, ha⟩ := S.newC (c := .dct []) (o := .dK []) hp (.dct .nil) rfl
  refine tpairs_ok ks es _ _ _ _ _ _ hl S1 (r.mono e1) (hq.ext e1) fun ds vs st2 F2 φ2 H2 hl2 e2 S2 rvs h2 => ?_
  have ha2 := e2.at ha
  unfold dispD at h2
  split at h2
  · rename_i hc0
    split at h2
    · rename_i hz
      obtain ⟨l, ws, c1, c2, c3, c4⟩ := S2.dcell _ _ (dcellL_some hc0)
      rw [ha2] at c1
      cases Option.some.inj c1
      cases c4
      refine ⟨c3, (ks.zip vs).map fun q => ((Sum.inr q.1 : Key), q.2), ?_, ?_, ?_⟩
      · rw [List.map_map]; rfl
      · rw [List.length_map, List.length_zip]; omega
      · exact h2 _ _ _ Ext.refl (S2.writeC (dcellL_some hc0) rfl ha2 (.dct (rks_merge (rks_zip rvs) .nil)) rfl) _ ⟨p, ha2, rfl⟩
    · exact h2.elim
  · exact h2.elim
theorem ok_dk1 {k v : ME} {x y : Expr} {pos : Pos} (hk : OkP X XR E x (ev G k)) (hv : OkP X XR E y (ev G v)) : OkP X XR E (.Dict [some x] [y] pos) (ev G (.dk1 k v)) := by
  refine .plain (PE.imp (pe_disp (pps_cons hk.pe hv.pe pps_nil) rfl rfl (by simp) (by simp)) fun σ H Q hq => ?_) (fun _ => rfl) (fun _ _ _ e => nomatch e)
  obtain ⟨env, st, F, φ, S, r, hq⟩ := hq
  simp only [ev] at hq
  intro p hp
  obtain ⟨S1, e1, ha⟩ := S.newC (c := .dct []) (o := .dK []) hp (.dct .nil) rfl
  refine ⟨env, _, F, _, S1, r.mono e1, Sat.bind (hq.ext e1) fun dk st1 F1 φ1 H1 x1 T1 h1 vk rk => ?_⟩
  refine ⟨env, st1, F1, φ1, T1, (r.mono e1).mono x1, Sat.bind h1 fun dv st2 F2 φ2 H2 x2 T2 h2 vv rv => ?_⟩
  have ha2 := (x1.trans x2).at ha
  unfold disp1 at h2
  split at h2
  · rename_i hc0
    split at h2
    · rename_i kk ek
      obtain ⟨l, ws, c1, c2, c3, c4⟩ := T2.dcell _ _ (dcellL_some hc0)
      rw [ha2] at c1
      cases Option.some.inj c1
      cases c4
      have hkv := keyOf_ok rk ek
      subst hkv
      refine ⟨c3, [(kk, vv)], rfl, by simp, ?_⟩
      exact h2 _ _ _ Ext.refl (T2.writeC (dcellL_some hc0) rfl ha2 (.dct (.cons ⟨rfl, rv⟩ .nil)) rfl) _ ⟨p, ha2, rfl⟩
    · exact h2.elim
  · exact h2.elim
/-! instances -/
theorem insOf_ok {K : PySem.W.Frag} {F H : Hp} {φ : List Addr} {st : Store} {d : D} {v : V} {n : Nat} {c : Str} {fs : List (Str × D)} (S : SR K F φ st H) (r : RD K F φ v d) (h : insOf d st = some (n, c, fs)) :
    ∃ a A dx ws, v = .ref a ∧ d = .c n ∧ st[n]? = some (.ins c fs) ∧ φ[n]? = some a ∧ H a = some (.ins A dx ws) ∧ clsAt K c A ∧ RNs K F φ ws fs := by
  cases d with
  | fn z => cases h
  | p x => cases h
  | c m =>
    obtain ⟨a, h1, rfl⟩ := r
    unfold insOf at h
    simp only at h
    split at h
    · rename_i c' fs' e
      cases Option.some.inj h
      obtain ⟨b, A, dx, ws, e1, _, e2, e3, e4⟩ := S.icell n c fs e
      rw [h1] at e1
      cases Option.some.inj e1
      exact ⟨a, A, dx, ws, rfl, rfl, e, h1, e2, e3, e4⟩
    · cases h
theorem lookup_valV {ws : List (Str × V)} {f : Str} : ws.lookup f = valV ws f := by
  induction ws with
  | nil => rfl
  | cons a r ih =>
    obtain ⟨g, y⟩ := a
    rw [List.lookup_cons]
    unfold valV
    rw [List.find?_cons]
    by_cases h : g = f
    · subst h; simp
    · have : (f == g) = false := by simpa using fun z : f = g => h z.symm
      rw [this]
      simp only [h, decide_false]
      exact ih
theorem cls_one {K : PySem.W.Frag} {c : Str} {A B : Addr} (h1 : clsAt K c A) (h2 : clsAt K c B) : A = B := by
  unfold clsAt at h1 h2
  rw [h1] at h2
  exact Value.ref.inj (Option.some.inj (Option.some.inj h2))
theorem ok_fld (w : WF X C G XR E) {a : ME} {f : Str} {cs : List Str} {x : Expr} {pos : Pos} (hsu : notSuper x = true) (hcs : cs.all (fun c => C.clsF.contains (c, f)) = true) (ha : OkP X XR E x (ev G a)) : OkP X XR E (.Attribute x f pos) (ev G (.fld a f cs)) := by
  refine .plain (PE.imp (pe_fld ha.pe (base_of hsu)) fun σ H Q hq => ?_) (fun _ => rfl) (fun _ _ _ e => nomatch e)
  obtain ⟨env, st, F, φ, S, r, hq⟩ := hq
  simp only [ev] at hq
  refine ⟨env, st, F, φ, S, r, Sat.bind hq fun d st1 F1 φ1 H1 e1 S1 h1 v rv => ?_⟩
  unfold fldD at h1
  split at h1
  · rename_i n c fs e
    split at h1
    · rename_i hc
      split at h1
      · rename_i y hy
        obtain ⟨l, A, dx, ws, rfl, _, _, _, e2, e3, e4⟩ := insOf_ok S1 rv e
        have hm : (c, f) ∈ C.clsF := by simpa using List.all_eq_true.mp hcs c (by simpa using hc)
        obtain ⟨B, b1, b2, b3⟩ := w.clf c f hm
        cases cls_one e3 b1
        rcases rks_val (k := f) e4 with ⟨g1, _⟩ | ⟨y', u, g1, g2, g3⟩
        · rw [g1] at hy; cases hy
        · rw [g1] at hy
          cases Option.some.inj hy
          exact ⟨l, A, dx, ws, u, rfl, e2, b2, b3, by rw [lookup_valV]; exact g2, sat_val S1 g3 h1⟩
      · exact h1.elim
    · exact h1.elim
  · exact h1.elim
end
section
variable {X : Cx} {k : Nat} {A f : Addr} {fd : FuncData} {ps : List Str} {sp : Sp} {E : EK} {m : Str} {pos apos : Pos} {o : Expr} {ta : TE} {t : TA}
/-- o.m(..), the exceptions wished for at the slots -/
def tMethS (A : Addr) (m : Str) (sp : Sp) (E : EK) (ta : TE) (t : TA) : TE := fun σ H Q => ta σ H fun x H1 => ∃ a dx fs, x = .ref a ∧ H1 a = some (.ins A dx fs) ∧ fs.lookup m = none ∧ t σ H1 fun vs H2 => sp (x :: vs) H2 Q (E σ)
theorem evalMeth {o : Expr} {m : Str} {args : List Expr} {pos apos : Pos} {env : PySem.Env} (h : notSuper o = true) (hl : (apos.endLine == pos.line) = true) (hn : args.length ≤ 20) (hp : (backTo pos (starEach args env)).any (·.1) = false) : ∃ pl, eval (.Call (.Attribute o m apos) args [] pos) env = (do
      let ov ← eval o env
      standAt apos.atName
      let (f, first) ← holding [ov] (getMethod ov m pl)
      callWith pos f first (backTo pos (starEach args env)) (backToKw pos (keywordEach [] env))) := by
  have hform : methodCallForm (args.length + ([] : List Keyword).length) (backTo pos (starEach args env)) (backToKw pos (keywordEach [] env)) = true := by
    unfold methodCallForm
    have h1 : (backTo pos (starEach args env)).all (fun x => !x.1) = true := by
      rw [List.all_eq_not_any_not]
      simpa using hp
    have h2 : (backToKw pos (keywordEach [] env)) = [] := rfl
    rw [h1, h2]
    simp
    omega
  have hpos : methodCallPos true o env apos pos = pure pos := by unfold methodCallPos; simp [hl]
  refine ⟨(do return (← importBound o env).getD true), ?_⟩
  rw [PySem.arm_eval_Call, base_of h]
  unfold methodCall
  rw [hform, hpos]
  rfl
theorem pe_methS {e : Expr} {es : List Expr} (he : PE X o ta) (c : Cls X.K A) (hm : Meth X.K A m f) (F : FnOk X.prog X.w X.K X.mg X.base (L2.CX X.prog X.w) k f fd ps sp) (hr : Room k X.A) (hb : Binds X.K fd ps []) (hx : ∀ σ, PassesAt (L2.CX X.prog X.w) X σ (E σ)) (ha : PA X (e :: es) t)
    (hst : starEach (e :: es) X.env = (false, eval e X.env) :: starEach es X.env) (hpl : (backTo pos (starEach es X.env)).any (·.1) = false) (hrc : notSuper o = true) (hln : (apos.endLine == pos.line) = true) (hnn : (e :: es).length ≤ 20) :
    PE X (.Call (.Attribute o m apos) (e :: es) [] pos) (tMethS A m sp E ta t) := by
  obtain ⟨pl, ht⟩ := evalMeth (m := m) (args := e :: es) (pos := pos) (apos := apos) (env := X.env) hrc hln hnn (by rw [hst]; show (false || (backTo pos (starEach es X.env)).any (·.1)) = false; rw [hpl]; rfl)
  refine ⟨fun pins s σ H Q I h => ?_⟩
  refine PySem.W.methodCall_KW (pl := pl) (thn (he.run pins s σ H _ I h) fun u s1 ⟨x, H1, I1, rx, l, dx, fs, ex, ea, ll, q⟩ => ?_) ht
  subst ex
  obtain rfl : u = Value.ref l := rx
  refine getmeth_ok I1 ea c hm ll ?_
  refine PySem.W.callWith_K (first := [.ref l]) (h₀ := X.base) I.ok.mod.kin hm.kp (thn (ha.run pos pins s1 σ H1 _ I1 q) fun us s2 ⟨vs, H2, I2, r, q2⟩ => ⟨I2.kIn, ?_⟩) hst hpl
  exact run_fnS (us := .ref l :: us) (vs := .ref l :: vs) F hr hb (hx σ) I2 (.cons rfl r) q2
theorem pe_methS0 (he : PE X o ta) (c : Cls X.K A) (hm : Meth X.K A m f) (F : FnOk X.prog X.w X.K X.mg X.base (L2.CX X.prog X.w) k f fd ps sp) (hr : Room k X.A) (hb : Binds X.K fd ps []) (hx : ∀ σ, PassesAt (L2.CX X.prog X.w) X σ (E σ)) (hrc : notSuper o = true) (hln : (apos.endLine == pos.line) = true) :
    PE X (.Call (.Attribute o m apos) [] [] pos) (tMethS A m sp E ta tNil) := by
  obtain ⟨pl, ht⟩ := evalMeth (m := m) (args := []) (pos := pos) (apos := apos) (env := X.env) hrc hln (by simp) rfl
  refine ⟨fun pins s σ H Q I h => ?_⟩
  refine PySem.W.methodCall_KW (pl := pl) (thn (he.run pins s σ H _ I h) fun u s1 ⟨x, H1, I1, rx, l, dx, fs, ex, ea, ll, q⟩ => ?_) ht
  subst ex
  obtain rfl : u = Value.ref l := rx
  refine getmeth_ok I1 ea c hm ll ?_
  exact PySem.W.callWith_K0 (first := [.ref l]) I1.kIn hm.kp (run_fnS (us := [.ref l]) (vs := [.ref l]) F hr hb (hx σ) I1 (.cons rfl .nil) q)
end
section
variable {X : Cx} {C : Ctx} {G : Sem1} {XR : XRT} {E : EK}
theorem chks_star {es : MEs} {y : Expr} {ys : List Expr} {pos : Pos} (hc : chks C es (y :: ys) = true) : starEach (y :: ys) X.env = (false, eval y X.env) :: starEach ys X.env ∧ (backTo pos (starEach ys X.env)).any (·.1) = false := by
  cases es with
  | nil => simp [chks] at hc
  | cons e r =>
    simp only [chks, Bool.and_eq_true] at hc
    exact ⟨star1 hc.1.1, chks_plain hc.2⟩
theorem ok_meth (w : WF X C G XR E) {c m : Str} {i : Nat} {o : ME} {es : MEs} {x : Expr} {ys : List Expr} {p pos : Pos} (hln : (p.endLine == pos.line) = true) (hnn : ys.length ≤ 20) (hrc : notSuper x = true) (hm : (c, m, i) ∈ C.meths) (hc : chks C es ys = true) (ho : OkP X XR E x (ev G o)) (ha : OkA X XR E ys (evs G es)) :
    OkP X XR E (.Call (.Attribute x m p) ys [] pos) (ev G (.meth c i m o es)) := by
  refine .plain ?_ (fun _ => rfl) (fun _ _ _ e => nomatch e)
  obtain ⟨A, k, fa, fd, ps, h1, h2, h3, F, hr, hb⟩ := w.mts c m i hm
  have key : ∀ σ H Q, rE X.K XR E (ev G (.meth c i m o es)) σ H Q → tMethS A m (spOf X.K XR (G i)) E (rE X.K XR E (ev G o)) (rA X.K XR E (evs G es)) σ H Q := fun σ H Q hq => by
    obtain ⟨env, st, F, φ, S, r, hq⟩ := hq
    simp only [ev] at hq
    refine ⟨env, st, F, φ, S, r, Sat.bind hq fun d st1 F1 φ1 H1 e1 S1 g1 v rv => ?_⟩
    split at g1
    · rename_i n c' fs e
      split at g1
      · rename_i hcf
        obtain ⟨l, B, dx, ws, rfl, _, _, _, e2, e3, e4⟩ := insOf_ok S1 rv e
        obtain ⟨rfl, hno⟩ := hcf
        cases cls_one e3 h1
        refine ⟨l, dx, ws, rfl, e2, ?_, env, st1, F1, φ1, S1, r.mono e1, Sat.bind g1 fun ds st2 F2 φ2 H2 e5 S2 g2 vs rvs => ⟨_, st2, F2, φ2, S2, .cons (rv.mono e5) rvs, g2⟩⟩
        rw [lookup_valV]
        rcases rks_val (k := m) e4 with ⟨_, g⟩ | ⟨_, _, g, _⟩
        · exact g
        · rw [g] at hno; cases hno
      · exact g1.elim
    · exact g1.elim
  cases ys with
  | nil =>
    cases es with
    | nil =>
      refine PE.imp (pe_methS0 ho.pe h2 h3 F hr hb w.px hrc hln) fun σ H Q hq => ?_
      obtain ⟨env, st, F, φ, S, r, hq⟩ := key σ H Q hq
      refine ⟨env, st, F, φ, S, r, ?_⟩
      have hq := hq
      refine (show Sat X.K XR (E σ) _ F φ _ → Sat X.K XR (E σ) _ F φ _ from fun h => ?_) hq
      revert h
      cases ev G o env st with
      | bad => exact id
      | ex c st => exact id
      | ok d st1 =>
        intro h F' φ' H' x' S' v rv
        obtain ⟨a, dx, fs, z1, z2, z3, env2, st2, F2, φ2, S2, r2, z4⟩ := h F' φ' H' x' S' v rv
        refine ⟨a, dx, fs, z1, z2, z3, ?_⟩
        simp only [evs] at z4
        exact z4.ok S2 [] .nil
    | cons e r => simp [chks] at hc
  | cons y ys =>
    obtain ⟨s1, s2⟩ := chks_star (X := X) (pos := pos) hc
    exact PE.imp (pe_methS ho.pe h2 h3 F hr hb w.px ha s1 s2 hrc hln hnn) key
theorem ok_new (w : WF X C G XR E) {c : Str} {i : Nat} {es : MEs} {ys : List Expr} {p pos : Pos} (ht : C.tr = false) (hg : C.isGl c = true) (hn : (c, i) ∈ C.news) (hc : chks C es ys = true) (ha : OkA X XR E ys (evs G es)) :
    OkP X XR E (.Call (.Name c p) ys [] pos) (ev G (.new c i es)) := by
  refine .plain ?_ (fun _ => rfl) (fun _ _ _ e => nomatch e)
  obtain ⟨g1, g2⟩ := gl_of w hg
  obtain ⟨d1, _, _⟩ := okName_of g1
  obtain ⟨A, k, fa, fd, ps, h1, h2, M, F, hr, hb⟩ := w.nws c i hn
  obtain ⟨E0', rfl, hp⟩ := w.pas ht
  have key : ∀ σ H Q, rE X.K XR (fun _ => E0') (ev G (.new c i es)) σ H Q → tMake A (spOf X.K XR (G i)) [] E0' (rA X.K XR (fun _ => E0') (evs G es)) σ H Q := fun σ H Q hq => by
    obtain ⟨env, st, F, φ, S, r, hq⟩ := hq
    simp only [ev] at hq
    refine ⟨env, st, F, φ, S, r, Sat.bind hq fun ds st1 F1 φ1 H1 e1 S1 g1 vs rvs x dx hx hdx hne => ?_⟩
    have S2 := S1.junk (o := .own x) hdx
    obtain ⟨S3, e3, ha3⟩ := S2.newC (c := .ins c []) (o := .ins A dx []) (p := x) (by rw [upd_ne hne.symm]; exact hx) (.ins h1 .nil) rfl
    rw [List.append_nil]
    refine ⟨.c st1.length :: ds, _, _, _, S3, .cons (show RD X.K _ _ (.ref x) (.c st1.length) from ⟨x, ha3, rfl⟩) (RDs.mono e3 rvs), Sat.bind (g1.ext e3) fun d st4 F4 φ4 H4 e4 S4 g4 v rv => ?_⟩
    split at g4
    · exact ⟨rv.non, g4.ok S4 _ ⟨x, e4.at ha3, rfl⟩⟩
    · exact g4.elim
  cases ys with
  | nil =>
    cases es with
    | nil =>
      refine PE.imp (pe_make0 M F hr g2 h2 hb .nil hp d1) fun σ H Q hq => ?_
      obtain ⟨env, st, F, φ, S, r, hq⟩ := key σ H Q hq
      simp only [evs] at hq
      exact hq.ok S [] .nil
    | cons e r => simp [chks] at hc
  | cons y ys =>
    obtain ⟨s1, s2⟩ := chks_star (X := X) (pos := pos) hc
    exact PE.imp (pe_make M F hr g2 h2 hb .nil hp ha d1 s1 s2) key
theorem dpAll_none {K : PySem.W.Frag} {F : Hp} {vs : List V} {ds : List PyData} (h : DpAll K (fun _ => none) vs ds) : DpAll K F vs ds := dpAll_mono (fun _ _ q => (by cases q)) h
theorem ok_callD (w : WF X C G XR E) {i : Nat} {f : Str} {es : MEs} {dv : List PyData} {y : Expr} {ys : List Expr} {p pos : Pos} (hg : C.isGl f = true) (hf : C.fns[i]? = some (some f)) (hd : (i, dv) ∈ C.defs) (hc : chks C es (y :: ys) = true) (ha : OkA X XR E (y :: ys) (evs G es)) :
    OkP X XR E (.Call (.Name f p) (y :: ys) [] pos) (ev G (.callD i es dv)) := by
  refine .plain ?_ (fun _ => rfl) (fun _ _ _ e => nomatch e)
  obtain ⟨h1, h2⟩ := gl_of w hg
  obtain ⟨d1, _, _⟩ := okName_of h1
  obtain ⟨k, fa, fd, ps, ds, dvs, F, hr, hm, hk, hb, hv, hdp⟩ := w.dfs i dv f hd hf
  obtain ⟨s1, s2⟩ := chks_star (X := X) (pos := pos) hc
  refine PE.imp (pe_callSD (E := E) F hr h2 hm hk hb hv w.px ha d1 s1 s2) fun σ H Q hq => ?_
  obtain ⟨env, st, F, φ, S, r, hq⟩ := hq
  simp only [ev] at hq
  exact ⟨env, st, F, φ, S, r, Sat.bind hq fun ds st1 F1 φ1 H1 e1 S1 h1 vs rvs => ⟨_, st1, F1, φ1, S1, rds_append rvs (dpAll_rds (dpAll_none hdp)), h1⟩⟩
/-- where a def stands that a table names -/
def TabAt (X : Cx) (XR : XRT) (G : Sem1) (i : Nat) (a : Addr) : Prop :=
  ∃ k fd ps, FnOk X.prog X.w X.K X.mg X.base (L2.CX X.prog X.w) k a fd ps (spOf X.K XR (G i)) ∧ Room k X.A ∧ PySem.W.keepIn X.K (.ref a) = true ∧ Binds X.K fd ps []
theorem pa_fns (w : WF X C G XR E) : ∀ {fs : List Nat} {xs : List Expr}, fnsAre C fs xs = true → ∃ as : List Addr, PA X xs (fun _ H Q => Q (as.map V.ref) H) ∧ as.length = fs.length ∧ ∀ (j : Nat) (i : Nat), fs[j]? = some i → ∃ a, as[j]? = some a ∧ TabAt X XR G i a
  | [], [], _ => ⟨[], pa_nil, rfl, fun j i h => by simp at h⟩
  | f :: fs, .Name x p :: r, h => by
    simp only [fnsAre, Bool.and_eq_true, decide_eq_true_eq] at h
    obtain ⟨as, h1, h2, h3⟩ := pa_fns w h.2
    obtain ⟨g1, g2⟩ := gl_of w h.1.1
    obtain ⟨d1, _, _⟩ := okName_of g1
    obtain ⟨k, fa, fd, ps, F, hr, ⟨hm, _⟩, hk, hb⟩ := w.fns f x h.1.2
    refine ⟨fa :: as, pa_cons (pe_glob g2 hm (v := .ref fa) rfl d1) h1 (star1 rfl), by simp [h2], fun j i hj => ?_⟩
    cases j with
    | zero => cases Option.some.inj hj; exact ⟨fa, rfl, k, fd, ps, F, hr, hk, hb⟩
    | succ j => exact h3 j i hj
  | [], _ :: _, h => by simp [fnsAre] at h
  | _ :: _, [], h => by simp [fnsAre] at h
  | _ :: _, e :: _, h => by
    cases e with
    | Name x p =>
      simp only [fnsAre, Bool.and_eq_true, decide_eq_true_eq] at h
      obtain ⟨as, h1, h2, h3⟩ := pa_fns w h.2
      obtain ⟨g1, g2⟩ := gl_of w h.1.1
      obtain ⟨d1, _, _⟩ := okName_of g1
      obtain ⟨k, fa, fd, ps, F, hr, ⟨hm, _⟩, hk, hb⟩ := w.fns _ x h.1.2
      refine ⟨fa :: as, pa_cons (pe_glob g2 hm (v := .ref fa) rfl d1) h1 (star1 rfl), by simp [h2], fun j i hj => ?_⟩
      cases j with
      | zero => cases Option.some.inj hj; exact ⟨fa, rfl, k, fd, ps, F, hr, hk, hb⟩
      | succ j => exact h3 j i hj
    | _ => simp [fnsAre] at h
theorem ok_callT (w : WF X C G XR E) {fs : List Nat} {i : ME} {es : MEs} {xs : List Expr} {y z : Expr} {zs : List Expr} {p1 p2 pos : Pos} (hn : notSlice y = true) (hz : fs.length ≤ 20) (hf : fnsAre C fs xs = true) (hi : OkP X XR E y (ev G i)) (hc : chks C es (z :: zs) = true) (ha : OkA X XR E (z :: zs) (evs G es)) :
    OkP X XR E (.Call (.Subscript (.List xs p1) y p2) (z :: zs) [] pos) (ev G (.callT fs i es)) := by
  refine .plain ?_ (fun _ => rfl) (fun _ _ _ e => nomatch e)
  obtain ⟨as, h1, h2, h3⟩ := pa_fns w hf
  obtain ⟨s1, s2⟩ := chks_star (X := X) (pos := pos) hc
  refine ⟨fun pins s σ H Q I h => ?_⟩
  obtain ⟨env, st, F, φ, S, r, hq⟩ := h
  simp only [ev] at hq
  refine Call_ (thn ((pe_ix (pos := p2) ix_list (pe_lst (pos := p1) h1) hi.pe (plainIx hn)).run pins s σ H (fun v H1 => ∃ f a, v = .ref a ∧ TabAt X XR G f a ∧ rA X.K XR E (evs G es) σ H1 fun vs H2 => spOf X.K XR (G f) vs H2 Q (E σ)) I ?_) fun u s1' ⟨v, H1, I1, r1, f, a, ev, hT, q⟩ => ?_)
  · show (as.map V.ref).length ≤ sizeLine ∧ ∀ p, H p = none → _
    refine ⟨?_, fun p hp => ?_⟩
    · rw [List.length_map, h2]; exact Nat.le_trans hz (by decide)
    obtain ⟨S1, E1⟩ := S.frz (o := .lst (as.map V.ref)) hp
    have hq := hq.ext E1
    refine ⟨env, st, _, φ, S1, r.mono E1, ?_⟩
    cases hm : ev G i env st with
    | bad => rw [hm] at hq; exact hq.elim
    | ex c st1 => rw [hm] at hq; exact hq
    | ok d st1 =>
      rw [hm] at hq
      simp only [R.bind_ok] at hq
      intro F1 φ1 H1 e1 S2 w1 rw1
      replace hq := hq.ext e1
      split at hq
      · rename_i kk
        split at hq
        · rename_i f hf'
          obtain ⟨j, g1, g2⟩ := Option.bind_eq_some_iff.mp hf'
          obtain ⟨a, g3, g4⟩ := h3 j f g2
          refine ⟨p, as.map V.ref, kk, .ref a, rfl, rw1.int, ?_, ?_, f, a, rfl, g4, env, st1, F1, φ1, S2, (r.mono E1).mono e1, Sat.bind hq fun ds st2 F2 φ2 H2 e2 S3 g5 vs rvs => ⟨ds, st2, F2, φ2, S3, rvs, g5⟩⟩
          · exact Evl.sq_of (S2.sub _ _ (e1.sub _ _ upd_same))
          · unfold atI
            rw [List.length_map, h2, g1]
            show (as.map V.ref)[j]? = _
            rw [List.getElem?_map, g3]; rfl
        · exact hq.elim
      · exact hq.elim
  · subst ev
    cases r1
    obtain ⟨k, fd, ps, F, hr, hk, hb⟩ := hT
    refine PySem.W.callWith_K (h₀ := X.base) I.ok.mod.kin hk (thn (ha.run pos pins s1' σ H1 _ I1 q) fun us s2 ⟨vs, H2, I2, r, q⟩ => ⟨I2.kIn, ?_⟩) s1 s2
    exact run_fnS F hr hb (w.px σ) I2 r q
theorem lookup_memF : ∀ {l : List (Str × Nat)} {z : Str} {f : Nat}, l.lookup z = some f → (z, f) ∈ l
  | [], _, _, h => by cases h
  | (a, b) :: r, z, f, h => by
    rw [List.lookup_cons] at h
    split at h
    · rename_i e
      cases Option.some.inj h
      rw [eq_of_beq e]
      exact List.mem_cons_self
    · exact List.mem_cons_of_mem _ (lookup_memF h)
/-- a function's name -/
theorem ok_fnv (w : WF X C G XR E) {x y : Str} {pos : Pos} (h : C.isGl y = true) (e : x = y) (hf : C.fns.contains (some x) = true) : OkP X XR E (.Name y pos) (ev G (.fnv x)) := by
  subst e
  obtain ⟨g1, g2⟩ := gl_of w h
  obtain ⟨i, hi⟩ := List.mem_iff_getElem?.mp (List.contains_iff_mem.mp hf)
  obtain ⟨k, fa, fd, ps, F, hr, ⟨hm, hn⟩, hk, hb⟩ := w.fns i x hi
  refine .plain (PE.imp (pe_glob g2 hm (v := .ref fa) rfl (okName_of g1).1) fun σ H Q hq => ?_) (fun _ => rfl) (fun _ _ _ e => nomatch e)
  obtain ⟨env, st, F', φ, S, r, hq⟩ := hq
  simp only [ev] at hq
  exact sat_val S (show RD X.K F' φ (.ref fa) (.fn x) from ⟨fa, rfl, hn⟩) hq
/-- a call of a function that a variable holds -/
theorem ok_callV (w : WF X C G XR E) {i : Nat} {fs : List (Str × Nat)} {es : MEs} {x : Str} {y : Expr} {ys : List Expr} {p pos : Pos} (hs : (C.slot i x && C.isVis x) = true) (hf : fs.all (fun q => decide (C.fns[q.2]? = some (some q.1))) = true) (hc : chks C es (y :: ys) = true) (ha : OkA X XR E (y :: ys) (evs G es)) :
    OkP X XR E (.Call (.Name x p) (y :: ys) [] pos) (ev G (.callV i fs es)) := by
  refine .plain ?_ (fun _ => rfl) (fun _ _ _ e => nomatch e)
  obtain ⟨s1, s2⟩ := chks_star (X := X) (pos := pos) hc
  refine ⟨fun pins s σ H Q I h => ?_⟩
  obtain ⟨env, st, F, φ, S, r, hq⟩ := h
  simp only [ev] at hq
  refine Call_ (thn ((ok_var (pos := p) w hs).pe.run pins s σ H (fun v H1 => ∃ f a, v = .ref a ∧ TabAt X XR G f a ∧ rA X.K XR E (evs G es) σ H1 fun vs H2 => spOf X.K XR (G f) vs H2 Q (E σ)) I ⟨env, st, F, φ, S, r, ?_⟩) fun u s1' ⟨v, H1, I1, r1, f, a, ev, hT, q⟩ => ?_)
  · simp only [ev]
    refine Sat.bind hq fun d st1 F1 φ1 H1 e1 S1 h1 v rv => ?_
    split at h1
    · rename_i z
      split at h1
      · rename_i f hl
        obtain ⟨a, rfl, hn⟩ := rv
        have hfn := of_decide_eq_true (List.all_eq_true.mp hf _ (lookup_memF hl))
        obtain ⟨k, fa, fd, ps, F2, hr, ⟨hm, hn2⟩, hk, hb⟩ := w.fns f z hfn
        have ea : a = fa := by
          have := hn.symm.trans hn2
          injection this with this
          injection this with this
          injection this
        subst ea
        exact ⟨f, a, rfl, ⟨k, fd, ps, F2, hr, hk, hb⟩, env, st1, F1, φ1, S1, r.mono e1, Sat.bind h1 fun ds st2 F2 φ2 H2 e2 S3 g5 vs rvs => ⟨ds, st2, F2, φ2, S3, rvs, g5⟩⟩
      · exact h1.elim
    · exact h1.elim
  · subst ev
    cases r1
    obtain ⟨k, fd, ps, F, hr, hk, hb⟩ := hT
    refine PySem.W.callWith_K (h₀ := X.base) I.ok.mod.kin hk (thn (ha.run pos pins s1' σ H1 _ I1 q) fun us s2 ⟨vs, H2, I2, r, q⟩ => ⟨I2.kIn, ?_⟩) s1 s2
    exact run_fnS F hr hb (w.px σ) I2 r q
theorem ok_mcall0 {m : Mth} {o : ME} {x : Expr} {q p : Pos} (hm : mthA m = 0) (hl : (q.endLine == p.line) = true) (hsu : notSuper x = true) (ho : OkP X XR E x (ev G o)) : PE X (.Call (.Attribute x (mthN m) q) [] [] p) (rE X.K XR E (ev G (.mcall m o .nil))) := by
  have key : ∀ {r : V → List V → Hp → VK → Prop}, (∀ l n ds vs st F φ H Q E1, SR X.K F φ st H → φ[n]? = some l → cellL st n = some ds → H l = some (.lst vs) → RDs X.K F φ vs ds → Sat X.K XR E1 (QE X.K Q) F φ (mthD m (.c n) [] st) → r (.ref l) [] H Q) →
      ∀ σ H Q, rE X.K XR E (ev G (.mcall m o .nil)) σ H Q → tBM0 X.K "list" r (rE X.K XR E (ev G o)) σ H Q := fun {r} hr σ H Q hq => by
    obtain ⟨env, st, F, φ, S, rr, hq⟩ := hq
    simp only [ev, evs, R.bind_ok] at hq
    refine ⟨env, st, F, φ, S, rr, Sat.bind hq fun d st1 F1 φ1 H1 e1 S1 h1 v rv => ?_⟩
    split at h1
    · rename_i ds e0
      cases d with
      | fn z => exact h1.elim
      | p y => exact h1.elim
      | c n =>
        obtain ⟨l, c1, rfl⟩ := rv
        obtain ⟨l', vs, c2, c3, c4, c5⟩ := S1.cell n _ (cellL_some e0)
        rw [c1] at c2
        cases Option.some.inj c2
        exact ⟨.inl ⟨rfl, vs, Evl.sq_of c4⟩, hr l n ds vs st1 F1 φ1 H1 Q (E σ) S1 c1 e0 c4 c5 h1⟩
    · exact h1.elim
  cases m with
  | insert => cases hm
  | extend => cases hm
  | clear =>
    refine PE.imp (pe_bm0 PySem.F.plainAttrs_list PySem.F.slot_list_clear PySem.F.type_list_clear mt_clear ho.pe (base_of hsu) hl) (key fun l n ds vs st F φ H Q E1 S c1 e0 c4 c5 h => ?_)
    simp only [mthD, e0] at h
    exact ⟨l, vs, rfl, rfl, c4, h F φ _ Ext.refl (S.write (cellL_some e0) c1 .nil) .non rd_non⟩
  | reverse =>
    refine PE.imp (pe_bm0 PySem.F.plainAttrs_list PySem.F.slot_list_reverse PySem.F.type_list_reverse mt_reverse ho.pe (base_of hsu) hl) (key fun l n ds vs st F φ H Q E1 S c1 e0 c4 c5 h => ?_)
    simp only [mthD, e0] at h
    exact ⟨l, vs, rfl, rfl, c4, h F φ _ Ext.refl (S.write (cellL_some e0) c1 (rds_reverse c5)) .non rd_non⟩
  | pop =>
    refine PE.imp (pe_bm0 PySem.F.plainAttrs_list PySem.F.slot_list_pop PySem.F.type_list_pop mt_pop ho.pe (base_of hsu) hl) (key fun l n ds vs st F φ H Q E1 S c1 e0 c4 c5 h => ?_)
    simp only [mthD, e0] at h
    split at h
    · rename_i d hd
      obtain ⟨v, g1, g2⟩ := rds_get c5 hd
      refine ⟨l, vs, v, rfl, rfl, c4, by rw [rds_length c5]; exact g1, h F φ _ Ext.refl (S.write (cellL_some e0) c1 ?_) v g2⟩
      rw [List.dropLast_eq_take, List.dropLast_eq_take, rds_length c5]
      exact rds_take _ c5
    · exact h.elim
theorem ok_mcall2 {o : ME} {es : MEs} {x y z : Expr} {q p : Pos} (hl : (q.endLine == p.line) = true) (hsu : notSuper x = true) (hc : chks C es [y, z] = true) (ho : OkP X XR E x (ev G o)) (ha : OkA X XR E [y, z] (evs G es)) : PE X (.Call (.Attribute x "insert" q) [y, z] [] p) (rE X.K XR E (ev G (.mcall .insert o es))) := by
  obtain ⟨s1, s2⟩ := chks_star (X := X) (pos := p) hc
  refine PE.imp (pe_bm PySem.F.plainAttrs_list PySem.F.slot_list_insert PySem.F.type_list_insert mt_insert ho.pe ha (base_of hsu) (by
    rw [s1]
    have h1 : (backTo p (starEach [z] X.env)).all (fun x => !x.1) = true := by
      rw [List.all_eq_not_any_not]
      simpa using s2
    show (true && (backTo p (starEach [z] X.env)).all (fun x => !x.1) && true && decide _) = true
    rw [h1]
    rfl) hl s1 s2) fun σ H Q hq => ?_
  obtain ⟨env, st, F, φ, S, rr, hq⟩ := hq
  simp only [ev] at hq
  refine ⟨env, st, F, φ, S, rr, Sat.bind hq fun d st1 F1 φ1 H1 e1 S1 h1 v rv => ?_⟩
  split at h1
  · rename_i ds0 e0
    obtain ⟨l, vs0, rfl, hl0, _⟩ := items_ok S1 rv e0
    refine ⟨.inl ⟨rfl, vs0, hl0⟩, env, st1, F1, φ1, S1, rr.mono e1, Sat.bind h1 fun ds st2 F2 φ2 H2 e2 S2 h2 ws rws => ?_⟩
    cases d with
    | fn z => exact h2.elim
    | p y => exact h2.elim
    | c n =>
      obtain ⟨l1, c1, e⟩ := rv.mono e2
      cases e
      unfold mthD at h2
      simp only at h2
      split at h2
      · rename_i xs e3
        obtain ⟨l', vs, c2, c3, c4, c5⟩ := S2.cell n _ (cellL_some e3)
        rw [c1] at c2
        cases Option.some.inj c2
        split at h2
        · split at h2
          · rename_i hz
            cases rws with
            | cons r1 rws =>
              cases rws with
              | cons r2 rws =>
                cases rws
                rw [r1.int]
                refine ⟨l, vs, _, _, rfl, rfl, c4, by rw [rds_length c5]; exact Nat.lt_of_lt_of_le hz.1 (sz_ok (Nat.le_refl _)), hz.2.1, by omega, ?_⟩
                exact h2 F2 φ2 _ Ext.refl (S2.write (cellL_some e3) c1 (rds_append (rds_append (rds_take _ c5) (.cons r2 .nil)) (rds_drop _ c5))) .non rd_non
          · exact h2.elim
        · contradiction
        · contradiction
        · contradiction
        · contradiction
        · exact h2.elim
      · exact h2.elim
  · exact h1.elim
theorem walkV {K : PySem.W.Frag} {F : Hp} {φ : List Addr} {d : Addr} {o : Obj} {ws : List (Key × V)} {kvs : List (Key × D)} {gd : Store → Prop} (hF : F d = some (.frz o (.dK ws))) (r : RKs K F φ ws kvs) :
    WalkOk K (Itd d o ws) (kvs.map fun kv => .one kv.2) gd F φ := by
  have hl : ws.length = kvs.length := Paired.length r
  refine ⟨fun H => H d = some (.frz o (.dK ws)), fun i H x H' => H' = H ∧ ∃ k, ws[i]? = some (k, x), ⟨fun i H hi q => ⟨q, ?_⟩, fun H q => ⟨q, ?_⟩, fun i H x H' hi q y => y⟩, fun F2 φ2 st2 H2 x S g => S.sub _ _ (x.sub _ _ hF), fun F2 φ2 st2 H2 i x H3 e S g hi y => ?_⟩
  · rw [List.length_map] at hi; omega
  · rw [List.length_map]; omega
  · obtain ⟨rfl, k, h1⟩ := y
    obtain ⟨y, h2, h3⟩ := paired_at r h1
    exact ⟨F2, Ext.refl, S, .one y.2, by rw [List.getElem?_map, h2]; rfl, h3.2.mono e⟩
theorem walkVI {K : PySem.W.Frag} {F : Hp} {φ : List Addr} {d : Addr} {o : Obj} {ws : List (Key × V)} {kvs : List (Key × D)} {gd : Store → Prop} (hF : F d = some (.frz o (.dK ws))) (r : RKs K F φ ws kvs) :
    WalkOk K (Iti d o ws) (kvs.map fun kv => .two (.p (keyP kv.1)) kv.2) gd F φ := by
  have hl : ws.length = kvs.length := Paired.length r
  refine ⟨fun H => H d = some (.frz o (.dK ws)), fun i H x H' => ∃ T k v, ws[i]? = some (k, v) ∧ x = .ref T ∧ H T = none ∧ H' = upd H T (.tup [kV k, v]), ⟨fun i H hi q => ⟨q, ?_⟩, fun H q => ⟨q, ?_⟩, fun i H x H' hi q y => y⟩, fun F2 φ2 st2 H2 x S g => S.sub _ _ (x.sub _ _ hF), fun F2 φ2 st2 H2 i x H3 e S g hi y => ?_⟩
  · rw [List.length_map] at hi; omega
  · rw [List.length_map]; omega
  · obtain ⟨T, k, v, h1, rfl, hT, rfl⟩ := y
    obtain ⟨y, h2, h3⟩ := paired_at r h1
    have h4 : k = y.1 := h3.1
    obtain ⟨S3, e3⟩ := S.frz (o := .tup [kV k, v]) hT
    exact ⟨_, e3, S3, .two (.p (keyP k)) y.2, by rw [List.getElem?_map, h2, h4]; rfl, T, _, _, rfl, upd_same, dp_key k, (h3.2.mono e).mono e3⟩
end
end MP

set_option Elab.async false
set_option linter.all false
set_option autoImplicit false
set_option maxRecDepth 100000
set_option maxHeartbeats 2000000
/-! the pairs of a dict whose keys are tuples -/
namespace MP
open PySem PySem.Spec PyProof.Rows L2
/-- what a walk over the pairs gives: a new tuple each time, of the key's own tuple and the value -/
def Itit (d : Addr) (o : Obj) (kvs : List (List Key × V)) : It where
  go i H := H d = some (.frz o (.dT kvs)) ∧ i < kvs.length
  yld i H x H' := ∃ T k v q, kvs[i]? = some (k, v) ∧ x = .ref T ∧ H q = some (.tup (k.map kV)) ∧ H T = none ∧ H' = upd H T (.tup [.ref q, v])
  stop i H := H d = some (.frz o (.dT kvs)) ∧ kvs.length ≤ i
theorem frzT_all {X : Cx} {pins : List (Addr × Obj)} {σ : L2.St} {H : Hp} {s : Shared} {d : Addr} {o : Obj} {kvs : List (List Key × V)} (I : L2.Inv X pins σ H s) (hd : H d = some (.frz o (.dT kvs))) :
    (d == sysModules) = false ∧ s.heap.get? d = some o ∧ o.ExactDict ∧ ∃ es ep, o.data = .dict es ep ∧ es.size = kvs.length ∧
      ∀ (i : Nat) (k : List Key) (v : V), kvs[i]? = some (k, v) → ∃ (hi : i < es.size) (q : Addr), es[i].key = .ref q ∧ H q = some (.tup (k.map kV)) ∧ L2.RelV v es[i].val := by
  have q := I.hok d _ hd
  simp only [L2.ObjOk] at q
  obtain ⟨hg, _, hs, xs, kt, o', es, ep, hg', hx, hdt, hes, _⟩ := q
  rw [hg] at hg'
  cases Option.some.inj hg'
  have hl : xs.length = kvs.length := (Paired.length kt).symm
  have hsz : es.size = kvs.length := by
    rw [← Array.length_toList, hes, List.length_map, hl]
  refine ⟨hs, hg, hx, es, ep, hdt, hsz, fun i k v hi => ?_⟩
  have hik := (List.getElem?_eq_some_iff.mp hi).1
  obtain ⟨x, h1, h2, h3, h4⟩ := paired_at kt hi
  have hie : i < es.size := by omega
  have he : es[i] = entryOfKey (tupleKind (mixKind X.prog X.w)) x := by
    have : es.toList[i]? = some (entryOfKey (tupleKind (mixKind X.prog X.w)) x) := by rw [hes, List.getElem?_map, h1]; rfl
    rw [Array.getElem?_toList, Array.getElem?_eq_getElem hie] at this
    exact Option.some.inj this
  refine ⟨hie, x.2.1, by rw [he]; rfl, h3, by rw [he]; exact h4⟩
theorem turn_itemsT {P : Program} {w : World} {K : PySem.W.Frag} {d : Addr} {o : Obj} {es : Array DictEntry} {ep : Nat} {kvs : List (List Key × V)} {elts : List Expr} {kk : Nat} {tpos : Pos} (it : Addr) (hod : o.data = .dict es ep) :
    Turn P w K (.Tuple elts kk tpos) (Itit d o kvs) [it] it fun i h => ∃ ok ov, IsItemIter h it d i kvs.length ep ok ov := by
  refine ⟨List.mem_singleton.mpr rfl, fun i h st b hb => ?_, fun i h h' st k => ?_, fun X hP hw hK hc i pins s σ H E I hf st hg => ?_, fun X hP hw hK hc i pins s σ H E I hf st hg => ?_, fun A i s Q E st h => ?_⟩
  · obtain ⟨ok, ov, e⟩ := st
    rw [List.mem_singleton.mp hb]
    exact ⟨_, e, fun v z => nomatch z⟩
  · obtain ⟨ok, ov, e⟩ := st
    exact ⟨ok, ov, k it (List.mem_singleton.mpr rfl) _ e⟩
  · subst hP hw
    obtain ⟨hd, hi⟩ := hg
    obtain ⟨hs, hgd, hx, es', ep', hdt, hsz, ent⟩ := frzT_all I hd
    obtain ⟨e1, e2⟩ := dict_ep hod hdt
    subst e1 e2
    obtain ⟨ok, ov, he⟩ := st
    obtain ⟨⟨k, v⟩, hkv⟩ : ∃ p, kvs[i]? = some p := ⟨_, List.getElem?_eq_getElem hi⟩
    obtain ⟨hie, q, g1, g2, g3⟩ := ent i k v hkv
    rw [← hsz] at he
    have hlt : it < s.heap.objs.size := Heap.lt_size he
    refine DT.nextI he ⟨o, hgd, hx, hdt⟩ hie fun h' ho hT hz hk => ?_
    refine ⟨_, rfl, wpAny_letOwnedTupleGo_items ho fun h'' he' sb => ?_⟩
    have hT2 : h''.get? s.heap.objs.size = some { cls := .type "tuple", data := .seq #[es'[i].key, es'[i].val] } := (sb.2 _ (Nat.ne_of_gt hlt)).trans hT
    have fr : H s.heap.objs.size = none := HOk.fresh I.hok (Nat.le_refl _)
    have new : ObjOk X.prog X.w (upd H s.heap.objs.size (.tup [.ref q, v])) h'' s.heap.objs.size (.tup [.ref q, v]) := by
      simp only [L2.ObjOk]
      exact ⟨show 2 ≤ sizeLine by decide, [es'[i].key, es'[i].val], .cons g1 (.cons g3 .nil), _, hT2, rfl, 0, rfl⟩
    have I1 := Inv.turnedNew (t' := s.toks) I (fun b ob hb e => (sb.2 b fun z => hb (z ▸ List.mem_singleton.mpr rfl)).trans (hk b ob (fun z => hb (z ▸ List.mem_singleton.mpr rfl)) e)) hf (Nat.le_refl _) new
    refine ⟨.ref s.heap.objs.size, _, I1, rfl, ⟨_, k, v, q, hkv, rfl, g2, fr, rfl⟩, ⟨_, _, by rw [← hsz]; exact he'⟩, fun b hb => ?_⟩
    rw [List.mem_singleton.mp hb, upd_ne (Nat.ne_of_lt hlt)]
    exact (hf it (List.mem_singleton.mpr rfl)).1
  · subst hP hw
    obtain ⟨hd, hi⟩ := hg
    obtain ⟨f0, f1, f2, f3, f4, f5⟩ := hf it (List.mem_singleton.mpr rfl)
    obtain ⟨hs, hgd, hx, es', ep', hdt, hsz, ent⟩ := frzT_all I hd
    obtain ⟨e1, e2⟩ := dict_ep hod hdt
    subst e1 e2
    obtain ⟨ok, ov, he⟩ := st
    rw [← hsz] at he
    exact DT.endI (I.ok.hd hc) he ⟨o, hgd, hx, hdt⟩ (by omega) fun h' eb => ⟨rfl, Inv.turned I (fun b ob hb e => eb b ob hb e) f0 f1 f3 f4 f5⟩
  · obtain ⟨ok, ov, e⟩ := st
    exact PySem.W.kcp_self e h
def iItemsT (td : TE) : TI := fun σ H R => td σ H fun x H1 => ∃ d o kvs, x = .ref d ∧ H1 d = some (.frz o (.dT kvs)) ∧ R (Itit d o kvs) H1
theorem pi_itemsT {X : Cx} {e : Expr} {td : TE} {apos cpos : Pos} {elts : List Expr} {kk : Nat} {tpos : Pos} (he : PE X e td) (hbase : attributeBase e "items" X.env (eval e X.env) = eval e X.env) (hline : (apos.endLine == cpos.line) = true) :
    PI X (.Tuple elts kk tpos) (.Call (.Attribute e "items" apos) [] [] cpos) (iItemsT td) := by
  refine ⟨fun pins s σ H R I h => wpAny_Call_method hbase rfl hline F.plainAttrs_dict F.slot_dict_items F.type_dict_items (thn (he.run pins s σ H _ I h) fun u s1 hu => ?_)⟩
  obtain ⟨x, H1, I1, rx, d, o, kvs, ex, hd, q⟩ := hu
  subst ex
  have eu : u = .ref d := rx
  subst eu
  obtain ⟨hs, hgd, hx, es, ep, hdt, hsz, ent⟩ := frzT_all I1 hd
  refine ⟨⟨o, hgd, hx.1⟩, fun a ea => ?_, ?_⟩
  · cases ea
    exact ⟨o, hgd, hx.2.1⟩
  refine Calls.callWith_builtin rfl (PySem.evalArgs_none (DT.callItems hs ⟨o, hgd, hx, hdt⟩ ?_))
  have I2 := I1.kept (t' := s1.toks) (h' := s1.heap.push { cls := .type "dict_items", data := .fields #[.ref d] }) fun b ob q => Heap.get?_push_of_some _ q
  refine DT.iterI ⟨_, Heap.get?_push_size s1.heap rfl, rfl, rfl⟩ ⟨o, Heap.get?_push_of_some _ hgd, hx, hdt⟩ ?_
  refine pi_one I2 _ (turn_itemsT (kvs := kvs) _ hdt) ⟨.none, .none, ?_⟩ q
  rw [← hsz]
  exact Heap.get?_push_size _ rfl
theorem PI.or {X : Cx} {tg e : Expr} {t1 t2 : TI} (h1 : PI X tg e t1) (h2 : PI X tg e t2) : PI X tg e (fun σ H R => t1 σ H R ∨ t2 σ H R) := ⟨fun pins s σ H R I hw => hw.elim (fun h => h1.run pins s σ H R I h) (fun h => h2.run pins s σ H R I h)⟩
theorem walkVIT {K : PySem.W.Frag} {F : Hp} {φ : List Addr} {d : Addr} {o : Obj} {ws : List (List Key × V)} {kvs : List (List Key × D)} (hF : F d = some (.frz o (.dT ws))) (r : RNs K F φ ws kvs) :
    WalkOk K (Itit d o ws) (kvs.map fun kv => .two (.p (.tuple (kv.1.map keyP))) kv.2) (fun st => noPT st = true) F φ := by
  have hl : ws.length = kvs.length := Paired.length r
  refine ⟨fun H => H d = some (.frz o (.dT ws)), fun i H x H' => ∃ T k v q, ws[i]? = some (k, v) ∧ x = .ref T ∧ H q = some (.tup (k.map kV)) ∧ H T = none ∧ H' = upd H T (.tup [.ref q, v]), ⟨fun i H hi q => ⟨q, ?_⟩, fun H q => ⟨q, ?_⟩, fun i H x H' hi q y => y⟩, fun F2 φ2 st2 H2 x S g => S.sub _ _ (x.sub _ _ hF), fun F2 φ2 st2 H2 i x H3 e S g hi y => ?_⟩
  · rw [List.length_map] at hi; omega
  · rw [List.length_map]; omega
  · obtain ⟨T, k, v, q, h1, rfl, hq, hT, rfl⟩ := y
    obtain ⟨y, h2, h3⟩ := paired_at r h1
    have h4 : k = y.1 := h3.1
    obtain ⟨F3, e3, S3, hq3⟩ := S.keyF g hq
    obtain ⟨S4, e4⟩ := S3.frz (o := .tup [.ref q, v]) hT
    refine ⟨_, e3.trans e4, S4, .two (.p (.tuple (k.map keyP))) y.2, by rw [List.getElem?_map, h2, h4]; rfl, T, .ref q, v, rfl, upd_same, ?_, ?_⟩
    · exact RD.mono (d := .p (.tuple (k.map keyP))) (v := .ref q) e4 (by
        show Dp K F3 (.ref q) (.tuple (k.map keyP))
        exact .tup hq3 (dpAll_keys k))
    · exact ((h3.2.mono e).mono e3).mono e4
section
variable {X : Cx} {C : Ctx} {G : Sem1} {XR : XRT} {E : EK}
theorem ok_view {b : Bool} {tg : Expr} {a : ME} {x : Expr} {m : Str} {q p : Pos} (hm : m = if b = true then ("items" : Str) else "values") (hl : (q.endLine == p.line) = true) (hsu : notSuper x = true) (ht : (!b || isTup tg) = true) (h : OkP X XR E x (ev G a)) : PI X tg (.Call (.Attribute x m q) [] [] p) (rI X.K XR E (evi G (.view b a))) := by
  cases b with
  | true =>
    rw [if_pos rfl] at hm
    subst hm
    obtain ⟨es, k, tp, rfl⟩ := tup_of (by simpa using ht)
    refine PI.imp (PI.or (pi_items h.pe (base_of hsu) hl) (pi_itemsT h.pe (base_of hsu) hl)) fun σ H Rk hq => ?_
    obtain ⟨env, st, F, φ, S, r, hq⟩ := hq
    simp only [evi] at hq
    cases e : ev G a env st with
    | bad => rw [e] at hq; exact hq.elim
    | ex c st1 => rw [e] at hq; exact .inl ⟨env, st, F, φ, S, r, by rw [e]; exact hq⟩
    | ok d st1 =>
      rw [e, R.bind_ok] at hq
      unfold viewI at hq
      split at hq
      · rename_i n
        split at hq
        · rename_i kvs e0
          refine .inl ⟨env, st, F, φ, S, r, ?_⟩
          rw [e]
          intro F1 φ1 H1 x1 S1 v rv
          obtain ⟨b, hb, rfl⟩ := rv
          obtain ⟨a, e1, e2⟩ := S1.off n _ e0 rfl
          rw [hb] at e1
          cases Option.some.inj e1
          cases e2 with
          | lkd hF rr => exact ⟨_, _, _, rfl, S1.sub _ _ hF, hq F1 φ1 H1 x1 S1 _ (walkVI hF rr)⟩
        · rename_i kvs e0
          rw [if_pos rfl] at hq
          refine .inr ⟨env, st, F, φ, S, r, ?_⟩
          rw [e]
          intro F1 φ1 H1 x1 S1 v rv
          obtain ⟨b, hb, rfl⟩ := rv
          obtain ⟨a, e1, e2⟩ := S1.off n _ e0 rfl
          rw [hb] at e1
          cases Option.some.inj e1
          cases e2 with
          | lkt hF rr => exact ⟨_, _, _, rfl, S1.sub _ _ hF, hq F1 φ1 H1 x1 S1 _ (walkVIT hF rr)⟩
        · exact hq.elim
      · exact hq.elim
  | false =>
    rw [if_neg (by simp)] at hm
    subst hm
    refine PI.imp (pi_values h.pe (base_of hsu) hl) fun σ H Rk hq => ?_
    obtain ⟨env, st, F, φ, S, r, hq⟩ := hq
    simp only [evi] at hq
    refine ⟨env, st, F, φ, S, r, Sat.bind hq fun d st1 F1 φ1 H1 e1 S1 h1 v rv => ?_⟩
    unfold viewI at h1
    split at h1
    · rename_i n
      split at h1
      · rename_i kvs e
        obtain ⟨b, hb, rfl⟩ := rv
        obtain ⟨a, e1, e2⟩ := S1.off n _ e rfl
        rw [hb] at e1
        cases Option.some.inj e1
        cases e2 with
        | lkd hF rr => exact ⟨_, _, _, rfl, S1.sub _ _ hF, h1.ok S1 _ (walkV hF rr)⟩
      · rename_i kvs e
        rw [if_neg (by simp)] at h1
        exact h1.elim
      · exact h1.elim
    · exact h1.elim
end
end MP

set_option Elab.async false
set_option linter.all false
set_option autoImplicit false
set_option maxRecDepth 100000
set_option maxHeartbeats 2000000
/-! more expressions: the greatest or what is told of none, get and pop of dicts, extend, reversed -/
namespace MP
open PySem PySem.Spec PyProof.Rows L2
section
variable {G : Sem1} {XR : XRT}
def rMxd (K : PySem.W.Frag) (XR : XRT) (op : D → D → Store → R D) : List V → List V → Hp → VK → Prop := fun xs zs H Q => ∃ x z, xs = [x] ∧ zs = [z] ∧ rO K XR op x z H Q
theorem intKeys_some : ∀ {kvs : List (Key × D)} {ks : List Int}, intKeys kvs = some ks → kvs.map (·.1) = ks.map Sum.inl
  | [], _, h => by cases h; rfl
  | (.inl z, _) :: r, _, h => by
    obtain ⟨ks, h1, rfl⟩ := Option.map_eq_some_iff.mp (show (intKeys r).map (z :: ·) = some _ from h)
    rw [List.map_cons, intKeys_some h1]; rfl
  | (.inr _, _) :: _, _, h => by cases h
/-- the greatest key of a dict of whole numbers, or what is told of none -/
theorem maxK {X : Cx} (hc : X.calm = true) (hu : X.A.units + 200 < cLine) {pins : List (Addr × Obj)} {σ : L2.St} {H : Hp} {s : Shared} (I : Inv X pins σ H s) {a : Addr} {ws : List (Key × V)} (ha : H a = some (.dK ws)) {is : List Int} (hk : ws.map (·.1) = is.map Sum.inl) {u2 : Value} {Q : Value → Shared → Prop}
    (h0 : is = [] → ∀ h' tk, (∀ b o, s.heap.get? b = some o → h'.get? b = some o) → Q u2 { s with heap := h', toks := tk })
    (h1 : ∀ k ks, is = k :: ks → ∀ t h' tk, (∀ b o, s.heap.get? b = some o → h'.get? b = some o) → Q (.int (ks.foldl (fun a y => if decide (a < y) = true then y else a) k) t) { s with heap := h', toks := tk }) :
    wpAny (model X.prog X.w) X.A (call (.builtin "max") [.ref a] [(Str.ofString "default", u2)]) Q X.xe s := by
  obtain ⟨_, hsys, vs, rel, dof⟩ := dk_of I.hok ha
  obtain ⟨ep, dat⟩ := dof.dictAt
  have hlt : a < s.heap.objs.size := by
    obtain ⟨ob, es, ho, _⟩ := id dat
    exact Heap.lt_size ho
  have ek : vs.map (·.1) = is.map Sum.inl := (KV.keys rel).symm.trans hk
  have el : vs.length = is.length := by simpa using congrArg List.length ek
  have int_at : ∀ (i : Nat) (v : Value), (∃ k x, vs[i]? = some (k, x) ∧ (mixKind X.prog X.w).is k v = true) → i < is.length ∧ ∃ t, v = Value.int (is.getD i 0) t := fun i v ⟨k, x, q1, q2⟩ => by
    have hi : i < is.length := by have := (List.getElem?_eq_some_iff.mp q1).1; omega
    have q3 : (vs.map (·.1))[i]? = some k := by rw [List.getElem?_map, q1]; rfl
    rw [ek, List.getElem?_map, List.getElem?_eq_getElem hi] at q3
    have q3 : Sum.inl is[i] = k := Option.some.inj q3
    subst q3
    obtain ⟨t, e⟩ := Value.isInt_shape (k := is[i]) (v := v) q2
    exact ⟨hi, t, by rw [e]; simp [hi]⟩
  have keep0 : ∀ b u, s.heap.get? b = some u → (s.heap.push { cls := .type "dict_keyiterator", data := .fields #[.ref a, .int 0 0, .int vs.length 0, .int ep 0] }).get? b = some u := fun b u e => Heap.get?_push_of_some _ e
  have moved : ∀ (s₂ s' : Shared), s₂ = { s with heap := s.heap.push { cls := .type "dict_keyiterator", data := .fields #[.ref a, .int 0 0, .int vs.length 0, .int ep 0] } } → Moved [s.heap.objs.size] (fun a b => b = a) s₂ s' → ∃ h' tk, s' = { s with heap := h', toks := tk } ∧ ∀ b o, s.heap.get? b = some o → h'.get? b = some o :=
    fun s₂ s' e m => PySem.W.moved_old e rfl m
  refine PySem.call_max_walkD (wpAny_pyIter_dict (knd := mixKind X.prog X.w) hsys dat ?_)
  refine ⟨_, _, _, _, _, _, _, s.heap, (fun i j => decide (is.getD j 0 < is.getD i 0)), rfl, (Walks.dictKeys (prog := X.prog) (w := X.w) (knd := mixKind X.prog X.w) (A := X.A.in1) (I.ok.hd hc) s.heap.objs.size a (Nat.ne_of_lt hlt) vs ep).toS, ?_, fun b hb => ?_, fun b o e hm => ?_, keep0, fun hz s' m => ?_, fun hp => ⟨fun i j vi vj s' Q E hk hi hj hq => ?_, fun v s' hP m => ?_⟩⟩
  · exact ⟨⟨_, Heap.get?_push_size _ rfl, rfl, rfl⟩, dat.keep keep0⟩
  · show b < (s.heap.push _).objs.size
    rw [Heap.size_push]
    rcases List.mem_cons.mp hb with hb | hb
    · rw [hb]; exact Nat.lt_succ_self _
    · rw [List.mem_singleton.mp hb]; exact Nat.lt_succ_of_lt hlt
  · have e2 := Heap.lt_size e
    rw [List.mem_singleton.mp hm] at e2
    exact Nat.lt_irrefl _ e2
  · obtain ⟨h', tk, rfl, hk'⟩ := moved _ s' rfl m
    exact h0 (List.eq_nil_of_length_eq_zero (by omega)) h' tk hk'
  · obtain ⟨b1, t1, rfl⟩ := int_at i vi hi
    obtain ⟨b2, t2, rfl⟩ := int_at j vj hj
    exact gt_int hq
  · obtain ⟨h', tk, rfl, hk'⟩ := moved _ s' rfl m
    obtain ⟨b1, t, rfl⟩ := int_at _ v hP
    cases is with
    | nil => exact absurd b1 (Nat.not_lt_zero _)
    | cons k ks =>
      obtain ⟨q1, q2⟩ := PySem.W.argBest_fold (fun y a : Int => decide (a < y)) 0 k ks ks.length (Nat.le_refl _)
      rw [List.take_length] at q2
      have e3 : vs.length - 1 = ks.length := by rw [el]; rfl
      rw [e3]
      have := h1 k ks rfl t h' tk hk'
      rw [← q2] at this
      exact this
theorem c_mxd {X : Cx} (hc : X.calm = true) (hu : X.A.units + 200 < cLine) (mx : Bool) : CallRK X (.builtin (if mx then "max" else "min")) ["default"] (rMxd X.K XR (mxdD mx)) := by
  intro pins s σ H xs zs us ws Q I r r' h
  obtain ⟨x, z, rfl, rfl, E, a, d, st, F, φ, S, ra, rz, h⟩ := h
  obtain ⟨u2, rfl, ru2⟩ := Vals.one r'
  unfold mxdD at h
  split at h
  · exact h.elim
  · split at h
    · rename_i ys e0
      split at h
      · rename_i e1
        obtain ⟨l, vs, rfl, hl, rr⟩ := items_ok S ra e0
        rw [pures_some e1] at rr
        have rd := rr.dpAll
        obtain ⟨its, rv, pl, _⟩ := I.list hl
        obtain ⟨u, rfl, ru⟩ := Vals.one r
        cases ru
        obtain ⟨as, hr⟩ := Dp.readsAll I _ vs its (dpAll_mono S.sub rd) rv
        have al : PySem.W.AlikeAll [] := ⟨fun x hx => absurd hx List.not_mem_nil, fun x hx => absurd hx List.not_mem_nil⟩
        have fin : ∀ h' tk, (∀ b o, s.heap.get? b = some o → h'.get? b = some o) → EP X pins σ Q u2 { s with heap := h', toks := tk } := fun h' tk hk => ⟨z, H, I.kept hk, ru2, sat_val S rz h⟩
        cases mx with
        | true => exact PySem.W.max_list_default (I.ok.hd hc) pl.isList hr al (by simp only [PyData.depthAll]; omega) (fun _ => fin) (fun y ys _ _ _ _ _ e => nomatch e)
        | false => exact PySem.W.min_list_default (I.ok.hd hc) pl.isList hr al (by simp only [PyData.depthAll]; omega) (fun _ => fin) (fun y ys _ _ _ _ _ e => nomatch e)
      · rename_i y zs e1
        split at h
        · rename_i hok
          obtain ⟨h1, h2⟩ := allAlikeB_of hok
          obtain ⟨l, vs, rfl, hl, rr⟩ := items_ok S ra e0
          rw [pures_some e1] at rr
          have rd := rr.dpAll
          obtain ⟨its, rv, pl, _⟩ := I.list hl
          obtain ⟨u, rfl, ru⟩ := Vals.one r
          cases ru
          obtain ⟨as, hr⟩ := Dp.readsAll I _ vs its (dpAll_mono S.sub rd) rv
          have fin : ∀ (d : PyData), Sat X.K XR E (QE X.K Q) F φ (.ok (.p d) st) → ∀ (i : Nat) (v : Value) (h' : Heap) (tk : Nat) (bs : List Addr), its.toArray[i]? = some v → Reads h' v d bs → (∀ b o, s.heap.get? b = some o → h'.get? b = some o) →
              EP X pins σ Q v { s with heap := h', toks := tk } := by
            intro d h i v h' tk bs hv hrd hk
            obtain ⟨x, z, q1, q2, q3⟩ := reads_back rv rd (by simpa using hv)
            have I' : Inv X pins σ H { s with heap := h', toks := tk } := I.kept hk
            obtain ⟨bs', hrz⟩ := Dp.reads I' z x v (dp_mono S.sub q2) q1
            have e : z = d := PySem.SeqAt.plain_unique _ _ _ _ _ (dp_plain q2) hrz hrd
            subst e
            exact ⟨x, H, I', q1, sat_val S (show RD X.K F φ x (.p z) from q2) h⟩
          cases mx with
          | true => exact PySem.W.max_list_default (I.ok.hd hc) pl.isList hr h1 (by omega) (fun e => nomatch e) (fun y' ys' i v h' tk bs e hv hrd hk => by cases e; exact fin _ h i v h' tk bs hv hrd hk)
          | false => exact PySem.W.min_list_default (I.ok.hd hc) pl.isList hr h1 (by omega) (fun e => nomatch e) (fun y' ys' i v h' tk bs e hv hrd hk => by cases e; exact fin _ h i v h' tk bs hv hrd hk)
        · exact h.elim
      · exact h.elim
    · cases a with
      | fn z => exact h.elim
      | p y => exact h.elim
      | c n =>
        simp only at h
        split at h
        · rename_i kvs e1
          split at h
          · rename_i ks e2
            split at h
            · rename_i hm
              subst hm
              obtain ⟨b, hb, rfl⟩ := ra
              obtain ⟨b', ws', e3, _, e4, e5⟩ := S.dcell n kvs (dcellL_some e1)
              rw [hb] at e3
              cases Option.some.inj e3
              obtain ⟨u, rfl, ru⟩ := Vals.one r
              cases ru
              refine maxK hc hu I e4 (by rw [rks_keysS e5]; exact intKeys_some e2) (fun e0 h' tk hk => ?_) (fun k ks' e0 t h' tk hk => ?_)
              · subst e0
                exact ⟨z, H, I.kept hk, ru2, sat_val S rz h⟩
              · subst e0
                exact ⟨.int _, H, I.kept hk, ⟨t, rfl⟩, sat_val S rd_int h⟩
            · exact h.elim
          · exact h.elim
        · exact h.elim
variable {X : Cx} {C : Ctx} {E : EK}
theorem ok_mxd (w : WF X C G XR E) {m : Bool} {a b : ME} {x kn : Str} {y z : Expr} {p kp pos : Pos} (hx : x = if m then ("max" : Str) else "min") (hb : C.isBl x = true) (hn : notStar y = true) (hk : kn = ("default" : Str)) (ha : OkP X XR E y (ev G a)) (hbb : OkP X XR E z (ev G b)) :
    OkP X XR E (.Call (.Name x p) [y] [⟨some kn, z, kp⟩] pos) (ev G (.mxd m a b)) := by
  subst hk
  refine .plain ?_ (fun _ => rfl) (fun _ _ _ e => nomatch e)
  obtain ⟨h1, h2, h3⟩ := bl_of w hb
  obtain ⟨d1, _, d3⟩ := okName_of h1
  have key : ∀ id, CallRK X (.builtin id) ["default"] (rMxd X.K XR (mxdD m)) → bootBuiltins x = some (.builtin id) → PE X (.Call (.Name x p) [y] [⟨some "default", z, kp⟩] pos) (rE X.K XR E (ev G (.mxd m a b))) := by
    intro id hcr hv
    refine PE.imp (pe_callBK hcr h2 h3 hv (pa_cons ha.pe pa_nil (star1 hn)) (pk_cons hbb.pe pk_nil) d3 d1 (by rw [star1 hn]; rfl) (by rw [star1 hn]; rfl)) fun σ H Q hq => ?_
    obtain ⟨env, st, F, φ, S, r, hq⟩ := hq
    simp only [ev] at hq
    exact ⟨env, st, F, φ, S, r, Sat.bind hq fun a st1 F1 φ1 H1 e1 S1 h1 x rx => ⟨env, st1, F1, φ1, S1, r.mono e1, Sat.bind h1 fun b st2 F2 φ2 H2 e2 S2 h2 y ry => ⟨x, y, rfl, rfl, _, a, b, st2, F2, φ2, S2, rx.mono e2, ry, h2⟩⟩⟩
  cases m with
  | true => exact key "max" (c_mxd w.calm w.un true) (by rw [hx]; exact boot_max')
  | false => exact key "min" (c_mxd w.calm w.un false) (by rw [hx]; exact boot_min')
theorem isD_of {K : PySem.W.Frag} {F H : Hp} {φ : List Addr} {st : Store} {d : D} {v : V} (S : SR K F φ st H) (r : RD K F φ v d) (h : isDict d st = true) : ∃ a, v = .ref a ∧ IsD H a := by
  unfold isDict at h
  rw [Bool.or_eq_true] at h
  cases d with
  | fn z => rcases h with h | h <;> cases h
  | p x => rcases h with h | h <;> cases h
  | c n =>
    obtain ⟨a, h1, rfl⟩ := r
    refine ⟨a, rfl, ?_⟩
    rcases h with h | h
    · obtain ⟨kvs, e⟩ := Option.isSome_iff_exists.mp h
      unfold dictOf at e
      simp only at e
      split at e
      · rename_i k e'
        obtain ⟨b, ws, g1, _, g2, _⟩ := S.dcell n _ e'
        rw [h1] at g1
        cases Option.some.inj g1
        exact .inl ⟨ws, .inl g2⟩
      · rename_i k e'
        obtain ⟨b, g1, g2⟩ := S.off n _ e' rfl
        rw [h1] at g1
        cases Option.some.inj g1
        cases g2 with
        | lkd q1 q2 => exact .inl ⟨_, .inr ⟨_, S.sub _ _ q1⟩⟩
      · cases e
    · obtain ⟨kvs, e⟩ := Option.isSome_iff_exists.mp h
      unfold dttOf at e
      simp only at e
      split at e
      · rename_i k e'
        obtain ⟨b, ws, g1, _, g2, _⟩ := S.ttcell n _ e'
        rw [h1] at g1
        cases Option.some.inj g1
        exact .inr ⟨ws, .inl g2⟩
      · rename_i k e'
        obtain ⟨b, g1, g2⟩ := S.off n _ e' rfl
        rw [h1] at g1
        cases Option.some.inj g1
        cases g2 with
        | lkt q1 q2 => exact .inr ⟨_, .inr ⟨_, S.sub _ _ q1⟩⟩
      · cases e
theorem m1_of {o e : Expr} {m : Str} {q p : Pos} (hl : (q.endLine == p.line) = true) (hsu : notSuper o = true) (hn : notStar e = true) : M1 X o m q e p := by
  refine ⟨base_of hsu, ?_, hl, by rw [star1 hn]; rfl⟩
  rw [star1 hn]
  rfl
theorem m2_of {o e f : Expr} {m : Str} {q p : Pos} (hl : (q.endLine == p.line) = true) (hsu : notSuper o = true) (hn : notStar e = true) (hn2 : notStar f = true) : M2 X o m q e f p := by
  refine ⟨base_of hsu, ?_, hl, by rw [star1 hn, star1 hn2]; rfl⟩
  rw [star1 hn, star1 hn2]
  rfl
theorem ok_dget (w : WF X C G XR E) {o k z : ME} {x y y2 : Expr} {f : Str} {q p : Pos} (hf : f = ("get" : Str)) (hl : (q.endLine == p.line) = true) (hsu : notSuper x = true) (hn : notStar y = true) (hn2 : notStar y2 = true) (ho : OkP X XR E x (ev G o)) (hk : OkP X XR E y (ev G k)) (hz : OkP X XR E y2 (ev G z)) :
    OkP X XR E (.Call (.Attribute x f q) [y, y2] [] p) (ev G (.dget o k z)) := by
  subst hf
  have hu := w.un
  refine .plain (PE.imp (pe_dget2 (by omega) ho.pe hk.pe hz.pe (m2_of hl hsu hn hn2)) fun σ H Q hq => ?_) (fun _ => rfl) (fun _ _ _ e => nomatch e)
  obtain ⟨env, st, F, φ, S, r, hq⟩ := hq
  simp only [ev] at hq
  refine ⟨env, st, F, φ, S, r, Sat.bind hq fun d st1 F1 φ1 H1 e1 S1 h1 v rv => ?_⟩
  split at h1
  · rename_i hd
    obtain ⟨a, rfl, hD⟩ := isD_of S1 rv hd
    refine ⟨a, rfl, hD, env, st1, F1, φ1, S1, r.mono e1, Sat.bind h1 fun dk st2 F2 φ2 H2 e2 S2 h2 vk rk => ⟨env, st2, F2, φ2, S2, (r.mono e1).mono e2, Sat.bind h2 fun dz st3 F3 φ3 H3 e3 S3 h3 vz rz => ?_⟩⟩
    unfold getD' at h3
    split at h3
    · rename_i d' el
      obtain ⟨a', u, e, g, _, g3⟩ := lookD_ok S3 ((rv.mono e2).mono e3) (rk.mono e3) el
      cases e
      obtain ⟨v', rfl, rv'⟩ := g3 d' rfl
      exact ⟨_, g, sat_val S3 rv' h3⟩
    · rename_i el
      obtain ⟨a', u, e, g, g2, _⟩ := lookD_ok S3 ((rv.mono e2).mono e3) (rk.mono e3) el
      cases e
      have : u = none := by
        cases u with
        | none => rfl
        | some _ => cases g2
      subst this
      exact ⟨_, g, sat_val S3 rz h3⟩
    · exact h3.elim
  · exact h1.elim
theorem rks_drop {K : PySem.W.Frag} {F : Hp} {φ : List Addr} {k : Key} : ∀ {ws : List (Key × V)} {kvs : List (Key × D)}, RKs K F φ ws kvs → RKs K F φ (dropK ws k) (kvs.filter fun q => decide (q.1 ≠ k))
  | _, _, .nil => .nil
  | (a, _) :: _, (b, _) :: _, .cons h t => by
    have e : a = b := h.1
    subst e
    unfold dropK
    rw [List.filter_cons, List.filter_cons]
    by_cases hk : a ≠ k
    · rw [if_pos (by simpa using hk), if_pos (by simpa using hk)]
      exact .cons h (rks_drop t)
    · rw [if_neg (by simpa using hk), if_neg (by simpa using hk)]
      exact rks_drop t
theorem PE.or {X : Cx} {e : Expr} {t1 t2 : TE} (h1 : PE X e t1) (h2 : PE X e t2) : PE X e (fun σ H Q => t1 σ H Q ∨ t2 σ H Q) := ⟨fun pins s σ H Q I hw => hw.elim (fun h => h1.run pins s σ H Q I h) (fun h => h2.run pins s σ H Q I h)⟩
theorem ok_clr {o : ME} {x : Expr} {f : Str} {q p : Pos} (hf : f = ("clear" : Str)) (hl : (q.endLine == p.line) = true) (hsu : notSuper x = true) (ho : OkP X XR E x (ev G o)) :
    OkP X XR E (.Call (.Attribute x f q) [] [] p) (ev G (.clr o)) := by
  subst hf
  refine .plain (PE.imp (PE.or (pe_bm0 PySem.F.plainAttrs_list PySem.F.slot_list_clear PySem.F.type_list_clear mt_clear ho.pe (base_of hsu) hl) (pe_dclear ho.pe (base_of hsu) hl)) fun σ H Q hq => ?_) (fun _ => rfl) (fun _ _ _ e => nomatch e)
  obtain ⟨env, st, F, φ, S, r, hq⟩ := hq
  simp only [ev] at hq
  cases e : ev G o env st with
  | bad => rw [e] at hq; exact hq.elim
  | ex c st1 => rw [e] at hq; exact .inl ⟨env, st, F, φ, S, r, by rw [e]; exact hq⟩
  | ok d st1 =>
    rw [e, R.bind_ok] at hq
    unfold clrD at hq
    split at hq
    · rename_i n
      split at hq
      · rename_i ds e0
        refine .inl ⟨env, st, F, φ, S, r, ?_⟩
        rw [e]
        intro F1 φ1 H1 x1 S1 v rv
        obtain ⟨b, hb, rfl⟩ := rv
        obtain ⟨a, vs, e1, e2, e3, e4⟩ := S1.cell n ds e0
        rw [hb] at e1
        cases Option.some.inj e1
        exact ⟨.inl ⟨rfl, vs, Evl.sq_of e3⟩, b, vs, rfl, rfl, e3, hq F1 φ1 _ x1 (S1.write e0 hb .nil) .non rd_non⟩
      · rename_i ds e0
        refine .inr ⟨env, st, F, φ, S, r, ?_⟩
        rw [e]
        intro F1 φ1 H1 x1 S1 v rv
        obtain ⟨b, hb, rfl⟩ := rv
        obtain ⟨a, vs, e1, e2, e3, e4⟩ := S1.dcell n ds e0
        rw [hb] at e1
        cases Option.some.inj e1
        exact ⟨.inr (.inr (.inl ⟨rfl, .inl ⟨vs, e3⟩⟩)), b, vs, rfl, rfl, e3, hq F1 φ1 _ x1 (S1.writeC e0 rfl hb (.dct .nil) rfl) .non rd_non⟩
      · exact hq.elim
    · exact hq.elim
theorem ok_dpop {o k : ME} {x y : Expr} {f : Str} {q p : Pos} (hf : f = ("pop" : Str)) (hl : (q.endLine == p.line) = true) (hsu : notSuper x = true) (hn : notStar y = true) (ho : OkP X XR E x (ev G o)) (hk : OkP X XR E y (ev G k)) :
    OkP X XR E (.Call (.Attribute x f q) [y] [] p) (ev G (.dpop o k)) := by
  subst hf
  refine .plain (PE.imp (pe_dpop1 ho.pe hk.pe (m1_of hl hsu hn)) fun σ H Q hq => ?_) (fun _ => rfl) (fun _ _ _ e => nomatch e)
  obtain ⟨env, st, F, φ, S, r, hq⟩ := hq
  simp only [ev] at hq
  refine ⟨env, st, F, φ, S, r, Sat.bind hq fun d st1 F1 φ1 H1 e1 S1 h1 v rv => ?_⟩
  split at h1
  · rename_i hd
    obtain ⟨a, rfl, hD⟩ := isD_of S1 rv hd
    refine ⟨a, rfl, hD, env, st1, F1, φ1, S1, r.mono e1, Sat.bind h1 fun dk st2 F2 φ2 H2 e2 S2 h2 vk rk => ?_⟩
    unfold popD at h2
    split at h2
    · rename_i n
      split at h2
      · rename_i kvs e3
        split at h2
        · rename_i k' ek
          split at h2
          · rename_i d' ed
            obtain ⟨b, hb, e⟩ := rv.mono e2
            cases e
            obtain ⟨b', ws, g1, g2, g3, g4⟩ := S2.dcell n _ (dcellL_some e3)
            rw [hb] at g1
            cases Option.some.inj g1
            obtain ⟨d2, v2, q1, q2, q3⟩ := (rks_val (k := k') g4).resolve_left fun z => by rw [ed] at z; cases z.1
            rw [ed] at q1
            cases Option.some.inj q1
            have S3 := S2.writeC (c := .dct (kvs.filter fun q => decide (q.1 ≠ k'))) (o := .dK (dropK ws k')) (dcellL_some e3) rfl hb (.dct (rks_drop g4)) rfl
            exact ⟨ws, k', v2, g3, keyOf_ok rk ek, q2, h2 F2 φ2 _ Ext.refl S3 v2 q3⟩
          · exact h2.elim
        · exact h2.elim
      · exact h2.elim
    · exact h2.elim
  · exact h1.elim
theorem ok_mcall1 {o : ME} {es : MEs} {x y : Expr} {q p : Pos} (hl : (q.endLine == p.line) = true) (hsu : notSuper x = true) (hc : chks C es [y] = true) (ho : OkP X XR E x (ev G o)) (ha : OkA X XR E [y] (evs G es)) : PE X (.Call (.Attribute x "extend" q) [y] [] p) (rE X.K XR E (ev G (.mcall .extend o es))) := by
  obtain ⟨s1, s2⟩ := chks_star (X := X) (pos := p) hc
  refine PE.imp (pe_bm PySem.F.plainAttrs_list PySem.F.slot_list_extend PySem.F.type_list_extend mt_extend ho.pe ha (base_of hsu) (by rw [s1]; rfl) hl s1 s2) fun σ H Q hq => ?_
  obtain ⟨env, st, F, φ, S, rr, hq⟩ := hq
  simp only [ev] at hq
  refine ⟨env, st, F, φ, S, rr, Sat.bind hq fun d st1 F1 φ1 H1 e1 S1 h1 v rv => ?_⟩
  split at h1
  · rename_i ds0 e0
    obtain ⟨l, vs0, rfl, hl0, _⟩ := items_ok S1 rv e0
    refine ⟨.inl ⟨rfl, vs0, hl0⟩, env, st1, F1, φ1, S1, rr.mono e1, Sat.bind h1 fun ds st2 F2 φ2 H2 e2 S2 h2 ws rws => ?_⟩
    cases d with
    | fn z => exact h2.elim
    | p y => exact h2.elim
    | c n =>
      obtain ⟨l1, c1, e⟩ := rv.mono e2
      cases e
      unfold mthD at h2
      simp only at h2
      split at h2
      · rename_i xs e3
        obtain ⟨l', vs, c2, c3, c4, c5⟩ := S2.cell n _ (cellL_some e3)
        rw [c1] at c2
        cases Option.some.inj c2
        split at h2
        · contradiction
        · contradiction
        · contradiction
        · rename_i m _
          split at h2
          · rename_i ys e4
            obtain ⟨b', zs, d2, d3, d4, d5⟩ := S2.cell m _ (cellL_some e4)
            split at h2
            · rename_i hz
              cases rws with
              | cons r1 rws =>
                cases rws
                obtain ⟨b, hb, rfl⟩ := r1
                rw [hb] at d2
                cases Option.some.inj d2
                refine ⟨l, _, vs, zs, rfl, rfl, c4, d4, ?_, h2 F2 φ2 _ Ext.refl (S2.write (cellL_some e3) c1 (rds_append c5 d5)) .non rd_non⟩
                rw [rds_length c5, rds_length d5]
                exact sz_ok hz
            · exact h2.elim
          · exact h2.elim
        · contradiction
        · exact h2.elim
      · exact h2.elim
  · exact h1.elim
/-- the turns of a list from its end -/
theorem walkRv {K : PySem.W.Frag} {F : Hp} {φ : List Addr} {a : Addr} {d : D} {ds : List D} {gd : Store → Prop} (r : RD K F φ (.ref a) d) (hg : ∀ st, gd st → items d st = some ds) : WalkOk K (Itv K a ds.length) (ds.reverse.map .one) gd F φ := by
  have at_ : ∀ F2 φ2 st2 H2, Ext F φ F2 φ2 → SR K F2 φ2 st2 H2 → gd st2 → ∃ vs, SqL K H2 a vs ∧ RDs K F2 φ2 vs ds := fun F2 φ2 st2 H2 x S g => by
    obtain ⟨b, vs, e, h1, h2⟩ := items_ok S (r.mono x) (hg st2 g)
    cases e
    exact ⟨vs, h1, h2⟩
  refine ⟨fun H => ∃ vs, SqL K H a vs ∧ vs.length = ds.length, fun i H x H' => H' = H ∧ ∀ xs, SqL K H a xs → xs[ds.length - 1 - i]? = some x, ⟨fun i H hi q => ?_, fun H q => ?_, fun i H x H' hi q y => y⟩, fun F2 φ2 st2 H2 x S g => ?_, fun F2 φ2 st2 H2 i x H3 e S g hi y => ?_⟩
  · obtain ⟨vs, h1, h2⟩ := q
    rw [List.length_map, List.length_reverse] at hi
    have hj : ds.length - 1 - i < vs.length := by omega
    exact ⟨hi, vs, vs[ds.length - 1 - i], h1, List.getElem?_eq_getElem hj⟩
  · show ds.length ≤ (ds.reverse.map Itm.one).length
    rw [List.length_map, List.length_reverse]
    exact Nat.le_refl _
  · obtain ⟨vs, h1, h2⟩ := at_ F2 φ2 st2 H2 x S g
    exact ⟨vs, h1, rds_length h2⟩
  · obtain ⟨rfl, y⟩ := y
    rw [List.length_map, List.length_reverse] at hi
    obtain ⟨vs, h1, h2⟩ := at_ F2 φ2 st2 _ e S g
    obtain ⟨dd, h3, h4⟩ := rds_get' h2 (y vs h1)
    refine ⟨F2, Ext.refl, S, .one dd, ?_, h4⟩
    rw [List.getElem?_map, List.getElem?_reverse hi, h3]
    rfl
theorem ok_revI (w : WF X C G XR E) {tg : Expr} {a : ME} {f : Str} {x : Expr} {p pos : Pos} (hf : f = ("reversed" : Str)) (hb : C.isBl f = true) (hn : notStar x = true) (h : OkP X XR E x (ev G a)) : PI X tg (.Call (.Name f p) [x] [] pos) (rI X.K XR E (evi G (.rev a))) := by
  subst hf
  obtain ⟨h1, h2, h3⟩ := bl_of w hb
  refine PI.imp (RT.pi_revA h2 h3 h.pe (star1 hn)) fun σ H Rk hq => ?_
  obtain ⟨env, st, F, φ, S, r, hq⟩ := hq
  simp only [evi] at hq
  refine ⟨env, st, F, φ, S, r, Sat.bind hq fun d st1 F1 φ1 H1 e1 S1 h1 v rv => ?_⟩
  unfold revI at h1
  split at h1
  · rename_i ds e0
    obtain ⟨l, vs, rfl, hl, rr⟩ := items_ok S1 rv e0
    refine ⟨l, vs, rfl, .inl ⟨hl, ?_⟩⟩
    rw [rds_length rr]
    exact h1.ok S1 _ (walkRv rv fun st' g => g)
  · exact h1.elim
end
end MP

set_option Elab.async false
set_option linter.all false
set_option autoImplicit false
set_option maxRecDepth 100000
set_option maxHeartbeats 2000000
/-! the meaning is right: sets of tuples, slices by a step -/
namespace MP
open PySem PySem.Spec PyProof.Rows L2
section
variable {X : Cx} {C : Ctx} {G : Sem1} {XR : XRT} {E : EK}
theorem ok_sset (w : WF X C G XR E) {c : Bool} {a : ME} {x z : Str} {y : Expr} {p p2 q pos : Pos} (hx : x = ("sorted" : Str)) (hb : C.isBl x = true) (hz : z = ("set" : Str)) (hb2 : C.isBl z = true) (hn : notStar y = true) (ha : OkP X XR E y (ev G a)) :
    OkP X XR E (.Call (.Name x p) [.Call (.Name z p2) [y] [] q] [] pos) (ev G (.sset c a)) := by
  subst hx hz
  obtain ⟨_, h2, h3⟩ := bl_of w hb
  obtain ⟨_, h5, h6⟩ := bl_of w hb2
  have hc := w.calm
  have hu := w.un
  refine .plain (PE.imp (pe_ssetA hc hu h2 h3 h5 h6 ha.pe (star1 hn)) fun σ H Q hq => ?_) (fun _ => rfl) (fun _ _ _ e => nomatch e)
  obtain ⟨env, st, F, φ, S, r, hq⟩ := hq
  simp only [ev] at hq
  refine ⟨env, st, F, φ, S, r, Sat.bind hq fun d st1 F1 φ1 H1 e1 S1 h1 v rv => ?_⟩
  unfold ssetD at h1
  split at h1
  · rename_i ds e0
    split at h1
    · rename_i ks ek
      split at h1
      · rename_i hk
        obtain ⟨l, vs, rfl, hl, rr⟩ := items_ok S1 rv e0
        obtain ⟨L, g1, g2, g3⟩ := keyTs_rows rr ek
        subst g1
        have hlen : L.length = ks.length := by rw [← g2, List.length_map]
        refine .inl ⟨l, L, rfl, hl, fun q hq => S1.sub _ _ (g3 q hq), by rw [hlen]; exact hk.1, by rw [g2]; exact hk.2, fun M b hM eM hf => ?_⟩
        refine sat_mkL S1 hf ?_ h1
        rw [g2] at eM
        rw [← eM]
        have : ∀ (M : List KRow), (∀ q ∈ M, q ∈ L) → RDs X.K F1 φ1 (M.map fun q => V.ref q.1) ((M.map fun q => tupP q.2).map D.p) := by
          intro M
          induction M with
          | nil => exact fun _ => .nil
          | cons z M ih => exact fun h => .cons (Dp.tup (g3 z (h z List.mem_cons_self)) (dpAll_keys z.2)) (ih fun y hy => h y (List.mem_cons_of_mem _ hy))
        exact this M hM
      · exact h1.elim
    · exact h1.elim
  · split at h1
    · rename_i xs
      split at h1
      · rename_i zs ez
        split at h1
        · rename_i hk
          have e1 := strs_some ez
          subst e1
          obtain ⟨l, vs, rfl, hl, _, rr⟩ := tup_ok S1 rv
          have e2 := dp_strs (RDs.dpAll rr)
          subst e2
          refine .inr ⟨l, zs, rfl, hl, hk, fun ms b eM hf => ?_⟩
          refine sat_mkL S1 hf ?_ h1
          rw [← eM]
          exact rds_strs ms
        · exact h1.elim
      · exact h1.elim
    · exact h1.elim
theorem ok_lset (w : WF X C G XR E) {a : ME} {x z : Str} {y : Expr} {p p2 q pos : Pos} (hx : x = ("len" : Str)) (hb : C.isBl x = true) (hz : z = ("set" : Str)) (hb2 : C.isBl z = true) (hn : notStar y = true) (ha : OkP X XR E y (ev G a)) :
    OkP X XR E (.Call (.Name x p) [.Call (.Name z p2) [y] [] q] [] pos) (ev G (.lset a)) := by
  subst hx hz
  obtain ⟨_, h2, h3⟩ := bl_of w hb
  obtain ⟨_, h5, h6⟩ := bl_of w hb2
  have hc := w.calm
  have hu := w.un
  refine .plain (PE.imp (pe_lset hc (by omega) h2 h3 h5 h6 ha.pe (star1 hn)) fun σ H Q hq => ?_) (fun _ => rfl) (fun _ _ _ e => nomatch e)
  obtain ⟨env, st, F, φ, S, r, hq⟩ := hq
  simp only [ev] at hq
  refine ⟨env, st, F, φ, S, r, Sat.bind hq fun d st1 F1 φ1 H1 e1 S1 h1 v rv => ?_⟩
  unfold lsetD at h1
  split at h1
  · rename_i ds e0
    split at h1
    · rename_i ks ek
      split at h1
      · rename_i hk
        obtain ⟨l, vs, rfl, hl, rr⟩ := items_ok S1 rv e0
        obtain ⟨L, g1, g2, g3⟩ := keyTs_rows rr ek
        subst g1
        refine ⟨l, L, rfl, hl, fun q hq => S1.sub _ _ (g3 q hq), by rw [← g2, List.length_map] at hk; exact hk, ?_⟩
        rw [g2]
        exact sat_val S1 rd_int h1
      · exact h1.elim
    · exact h1.elim
  · exact h1.elim
/-! a step -/
theorem pick_one (its : Array Value) : PySem.slicePick its none none (some 1) = its := by
  have e1 : PySem.slicePick its none none (some 1) = PySem.slicePick its none none none := rfl
  rw [e1, slicePick_all]
def stW (K : PySem.W.Frag) (a : Addr) (Q : VK) : Option Int → Hp → Prop := fun o H2 => ∃ xs ys : List V, (o = some (-1) ∧ ys = xs.reverse ∨ o = some 1 ∧ ys = xs) ∧ SqL K H2 a xs ∧ ∀ p, H2 p = none → Q (.ref p) (upd H2 p (.lst ys))
def tStp (K : PySem.W.Frag) (ta te : TE) : TE := fun σ H Q => ta σ H fun x H1 => ∃ a, x = .ref a ∧ tPart te σ H1 (stW K a Q)
theorem pe_stp {e y : Expr} {ta te : TE} {p3 pos : Pos} (he : PE X e ta) (hy : PE X y te) : PE X (.Subscript e (.Slice none none (some y) p3) pos) (tStp X.K ta te) := by
  refine ⟨fun pins s σ H Q I h => ?_⟩
  refine Subscript_ (thn (he.run pins s σ H _ I h) fun v s1 ⟨x, H1, I1, r1, a, ex, q⟩ => ?_)
  subst ex
  cases r1
  refine wpAny_Slice (thn (po_none.run pins s1 σ H1 (fun o G => o = none ∧ G = H1) I1 ⟨rfl, rfl⟩) fun vl s2 ⟨l, H2, I2, pl, el, e2⟩ => ?_)
  subst el e2
  refine thn (po_none.run pins s2 σ H2 (fun o G => o = none ∧ G = H2) I2 ⟨rfl, rfl⟩) fun vu s3 ⟨u, H3, I3, pu, eu, e3⟩ => ?_
  subst eu e3
  refine thn ((po_some hy).run pins s3 σ H3 (stW X.K a Q) I3 q) fun vs s4 ⟨o, H4, I4, ps, xs, ys, hk, hx4, q4⟩ => ?_
  have I5 : Inv X pins σ H4 { s4 with heap := s4.heap.push { cls := .type "slice", data := .fields #[vl, vu, vs] } } := I4.kept (t' := s4.toks) fun b ob e => Heap.get?_push_of_some _ e
  obtain ⟨its, r, ht, hz⟩ := I5.list hx4
  have hl := r.length
  show wpAny (model X.prog X.w) X.A (subscriptTail e (.Slice none none (some y) p3) (.ref a) (.ref s4.heap.objs.size)) (EP X pins σ Q) X.xe _
  refine tail_any (ops := [.ref a, .ref s4.heap.objs.size]) ht.isList.typeIs (PySem.slot_list_getitem.lookup) ?_ (by with_unfolding_all rfl)
  refine wpAny_getItem_list_slice ht.isList (Heap.IsSliceOf.new _ vl vu vs) pl pu ps (by rcases hk with ⟨rfl, _⟩ | ⟨rfl, _⟩ <;> decide) ?_ (by rw [List.size_toArray]; omega)
  have fin : ∀ zs : List Value, Vals ys zs → zs.length ≤ sizeLine → PySem.slicePick its.toArray none none o = zs.toArray → EP X pins σ Q (.ref (s4.heap.push { cls := .type "slice", data := .fields #[vl, vu, vs] }).objs.size) { s4 with heap := (s4.heap.push { cls := .type "slice", data := .fields #[vl, vu, vs] }).push { cls := .type "list", data := .seq (PySem.slicePick its.toArray none none o) } } := fun zs rz hzs ez => by
    rw [ez]
    refine ⟨.ref _, _, I5.laid (t' := s4.toks) (o := .lst ys) (fun b ob e => Heap.get?_push_of_some _ e) (Nat.le_refl _) ⟨by rw [rz.length]; exact hzs, zs, 0, rz, Heap.get?_push_size _ rfl⟩, rfl, q4 _ (I5.hok.fresh (Nat.le_refl _))⟩
  rcases hk with ⟨rfl, rfl⟩ | ⟨rfl, rfl⟩
  · exact fin its.reverse r.reverse (by rw [List.length_reverse, ← hl]; exact hz) (by rw [PySem.W.krv_pick])
  · exact fin its r (by rw [← hl]; exact hz) (pick_one _)
theorem ok_stp {a e : ME} {x y : Expr} {p3 pos : Pos} (ha : OkP X XR E x (ev G a)) (he : OkP X XR E y (ev G e)) : OkP X XR E (.Subscript x (.Slice none none (some y) p3) pos) (ev G (.stp a e)) := by
  refine .plain (PE.imp (pe_stp ha.pe he.pe) fun σ H Q hq => ?_) (fun _ => rfl) (fun _ _ _ e => nomatch e)
  obtain ⟨env, st, F, φ, S, r, hq⟩ := hq
  simp only [ev] at hq
  refine ⟨env, st, F, φ, S, r, Sat.bind hq fun d st1 F1 φ1 H1 e1 S1 h1 v rv => ?_⟩
  split at h1
  · rename_i ds0 e0
    obtain ⟨l, vs0, rfl, _, _⟩ := items_ok S1 rv e0
    refine ⟨l, rfl, env, st1, F1, φ1, S1, r.mono e1, Sat.bind h1 fun i st2 F2 φ2 H2 e2 S2 h2 y ry => ?_⟩
    unfold stpD at h2
    split at h2
    · rename_i k
      have rv2 := rv.mono e2
      split at h2
      · rename_i hk
        unfold revD at h2
        split at h2
        · exact nomatch e0
        · split at h2
          · rename_i xs ex
            obtain ⟨l2, vs, e3, hl, rr⟩ := items_ok S2 rv2 ex
            cases e3
            exact ⟨k, ry.int, vs, vs.reverse, .inl ⟨by rw [hk], rfl⟩, hl, fun p hp => sat_mkL S2 hp (rds_reverse rr) h2⟩
          · exact h2.elim
      · split at h2
        · rename_i hk
          split at h2
          · rename_i xs ex
            obtain ⟨l2, vs, e3, hl, rr⟩ := items_ok S2 rv2 ex
            cases e3
            exact ⟨k, ry.int, vs, vs, .inr ⟨by rw [hk], rfl⟩, hl, fun p hp => sat_mkL S2 hp rr h2⟩
          · exact h2.elim
        · exact h2.elim
    · exact h2.elim
  · exact h1.elim
end
end MP

set_option Elab.async false
set_option linter.all false
set_option autoImplicit false
set_option maxRecDepth 100000
set_option maxHeartbeats 2000000
/-! the meaning is right: own exceptions as values -/
namespace MP
open PySem PySem.Spec PyProof.Rows L2
theorem feEq_eq {a b : FE} (h : feEq a b = true) : a = b := by
  cases a <;> cases b <;> first | (cases h; done) | (rw [eq_of_beq (show (_ == _) = true from h)])
theorem fesEq_eq : ∀ {a b : List (Str × FE)}, fesEq a b = true → a = b
  | [], [], _ => rfl
  | (x, u) :: r, (y, v) :: r', h => by
    simp only [fesEq, Bool.and_eq_true] at h
    rw [eq_of_beq h.1.1, feEq_eq h.1.2, fesEq_eq h.2]
  | [], _ :: _, h => by cases h
  | _ :: _, [], h => by cases h
theorem rns_xrel {K : PySem.W.Frag} {F : Hp} {φ : List Addr} {gs : List (Str × V)} {xs : List (Str × D)} (h : RNs K F φ gs xs) : ∀ f x, xs.lookup f = some x → ∃ v, gs.lookup f = some v ∧ RD K F φ v x := by
  induction h with
  | nil => intro f x h; cases h
  | @cons a b as bs h t ih =>
    intro f x hf
    obtain ⟨g, u⟩ := a
    obtain ⟨g', y⟩ := b
    obtain ⟨e, r⟩ := h
    have e : g = g' := e
    subst e
    rw [List.lookup_cons] at hf ⊢
    split at hf
    · cases Option.some.inj hf; exact ⟨u, rfl, r⟩
    · exact ih f x hf
theorem mkX_nex {ds : List D} {x : Exc} {st' : Store} : ∀ {fs : List (Str × FE)} {acc : List (Str × D)} {st : Store}, mkX ds fs acc st ≠ .ex x st'
  | [], acc, st, h => by cases h
  | (f, .arg i) :: r, acc, st, h => by
    simp only [mkX] at h
    split at h
    · exact mkX_nex h
    · cases h
  | (f, .lst i) :: r, acc, st, h => by
    simp only [mkX] at h
    split at h
    · unfold listD0 mkL at h
      split at h
      · exact mkX_nex h
      · split at h
        · exact mkX_nex h
        · cases h
    · cases h
theorem isText1_of {es : MEs} (h : isText1 es = true) : ∃ m, es = .cons (.lit (.str m)) .nil := by
  unfold isText1 at h
  split at h
  · exact ⟨_, rfl⟩
  · cases h
section
variable {K : PySem.W.Frag} {F H : Hp} {φ : List Addr} {st : Store}
/-- what is no cell is taken as frozen -/
theorem SR.fix (S : SR K F φ st H) {d : Addr} {o : HO} (hd : H d = some o) (hn : d ∉ φ) : SR K (upd F d o) φ st H ∧ Ext F φ (upd F d o) φ := by
  have hF : ∀ b u, F b = some u → upd F d o b = some u := fun b u e => by
    by_cases hb : b = d
    · subst hb; rw [upd_same]; rw [S.sub _ _ e] at hd; exact hd.symm
    · rw [upd_ne hb]; exact e
  have E : Ext F φ (upd F d o) φ := ⟨hF, List.prefix_refl φ⟩
  refine ⟨⟨fun b u e => ?_, S.len, S.nd, fun n c e hc => ?_, fun n c e hc => ?_⟩, E⟩
  · by_cases hb : b = d
    · subst hb; rw [upd_same] at e; rw [hd, e]
    · rw [upd_ne hb] at e; exact S.sub b u e
  · obtain ⟨a, o', h1, h2, h3, h4⟩ := S.live n c e hc
    have : a ≠ d := fun z => by
      subst z
      exact hn (List.mem_of_getElem? h1)
    exact ⟨a, o', h1, by rw [upd_ne this]; exact h2, h3, h4.mono E⟩
  · obtain ⟨a, h1, h2⟩ := S.off n c e hc
    exact ⟨a, h1, h2.mono E⟩
/-- a cell more that is not written -/
theorem SR.addOff (h : SR K F φ st H) {p : Addr} {c : Cell} (hn : p ∉ φ) (hd : lv c = false) (r : OR K F (φ ++ [p]) p c) : SR K F (φ ++ [p]) (st ++ [c]) H ∧ Ext F φ F (φ ++ [p]) ∧ (φ ++ [p])[st.length]? = some p := by
  have E : Ext F φ F (φ ++ [p]) := ⟨Evl.Ex.refl F, List.prefix_append φ [p]⟩
  have hat : (φ ++ [p])[st.length]? = some p := by rw [← h.len, List.getElem?_concat_length]
  refine ⟨⟨h.sub, by simp [h.len], ?_, fun n c' e hc' => ?_, fun n c' e hc' => ?_⟩, E, hat⟩
  · rw [List.nodup_append]
    exact ⟨h.nd, by simp, fun a ha b hb => by simp at hb; subst hb; exact fun z => hn (z ▸ ha)⟩
  · by_cases hl : n < st.length
    · rw [List.getElem?_append_left hl] at e
      obtain ⟨a, o, h1, h2, h3, h4⟩ := h.live n c' e hc'
      exact ⟨a, o, E.at h1, h2, h3, h4.mono E⟩
    · have hn' : n = st.length := by
        have := (List.getElem?_eq_some_iff.mp e).1
        simp at this; omega
      subst hn'
      rw [List.getElem?_concat_length] at e
      cases Option.some.inj e
      rw [hd] at hc'
      cases hc'
  · by_cases hl : n < st.length
    · rw [List.getElem?_append_left hl] at e
      obtain ⟨a, h1, h2⟩ := h.off n c' e hc'
      exact ⟨a, E.at h1, h2.mono E⟩
    · have hn' : n = st.length := by
        have := (List.getElem?_eq_some_iff.mp e).1
        simp at this; omega
      subst hn'
      rw [List.getElem?_concat_length] at e
      cases Option.some.inj e
      exact ⟨p, hat, r⟩
end
section
variable {X : Cx} {C : Ctx} {G : Sem1} {XR : XRT} {E : EK}
theorem ok_mkx (w : WF X C G XR E) {c : Str} {np : Nat} {fs : List (Str × FE)} {es : MEs} {y : Expr} {ys : List Expr} {p q : Pos} (hg : C.isGl c = true) (hm : (c, np, fs) ∈ C.xcls) (ht : (!fs.isEmpty || isText1 es) = true) (hn : np ≤ 100) (hc : chks C es (y :: ys) = true) (ha : OkA X XR E (y :: ys) (evs G es)) :
    OkP X XR E (.Call (.Name c p) (y :: ys) [] q) (ev G (.mkx c np fs es)) := by
  refine .plain ?_ (fun _ => rfl) (fun _ _ _ e => nomatch e)
  obtain ⟨h1, h2⟩ := gl_of w hg
  obtain ⟨d1, _, _⟩ := okName_of h1
  obtain ⟨A, g1, g2, gr, g3⟩ := w.xmk c np fs hm
  obtain ⟨s1, s2⟩ := chks_star (X := X) (pos := q) hc
  rcases g3 with ⟨rfl, kk, kx⟩ | ⟨ox, k, fI, fd, ps, i1, i2, i3, i4, i5⟩
  · have ht : isText1 es = true := ht
    obtain ⟨m, rfl⟩ := isText1_of ht
    simp only [chks, Bool.and_eq_true] at hc
    obtain ⟨⟨_, hc1⟩, hc2⟩ := hc
    cases ys with
    | cons _ _ => simp [chks] at hc2
    | nil =>
      unfold chk at hc1
      split at hc1
      · rename_i c0 k0 j0 p0
        obtain ⟨m', rfl⟩ : ∃ m' : Str, c0 = Const.str m' := by
          cases c0 <;> first | exact ⟨_, rfl⟩ | simp [litC] at hc1
        refine PE.imp (pe_exc1 PySem.F.excBase_ValueError kx g2 kk h2 pe_str s1 d1) fun σ H Q hq => ?_
        obtain ⟨env, st, F, φ, S, r, hq⟩ := hq
        simp only [ev, evs, R.bind_ok] at hq
        split at hq
        · simp only [mkX, R.bind_ok] at hq
          intro a hna
          obtain ⟨S1, e1⟩ := S.frz (o := ExO (.ref A) a) hna
          have hnφ : a ∉ φ := fun z => S.dom z hna
          obtain ⟨S2, e2, hat⟩ := S1.addOff hnφ (c := .exv c []) rfl (.exn g1 upd_same)
          exact hq _ _ _ (e1.trans e2) S2 _ (show RD X.K _ _ _ (.c _) from ⟨a, hat, rfl⟩)
        · exact hq.elim
      · cases hc1
  · refine PE.imp (pe_oexV ox i1 i2 i3 i4 i5 (fun pins σ H s e s' I => passL pins σ H s e s' I) h2 g2 ha d1 s1 s2) fun σ H Q hq => ?_
    obtain ⟨env, st, F, φ, S, r, hq⟩ := hq
    simp only [ev] at hq
    refine ⟨env, st, F, φ, S, r, Sat.bind hq fun ds st1 F1 φ1 H1 e1 S1 h1 vs rvs => ?_⟩
    split at h1
    · rename_i hnp
      refine ⟨by have := rds_length rvs; omega, fun a hna => ?_⟩
      have hFa : F1 a = none := Evl.fresh_back S1.sub hna
      have hφa : a ∉ φ1 := fun z => S1.dom z hna
      refine ⟨a, vs, ds, st1, F1, φ1, rfl, by rw [rds_length rvs]; exact hnp, upd_same, hFa, hφa, S1.junk hna, rvs, ?_⟩
      cases hx : mkX ds fs [] st1 with
      | bad => rw [hx] at h1; exact h1.elim
      | ex x st2 => exact absurd hx mkX_nex
      | ok xs st2 =>
        rw [hx] at h1
        intro F2 φ2 H2 d gs e2 S2 z1 z2 z3 z4 z5 z6 z7 z8
        refine ⟨rfl, d, gs, z1, z2, ?_⟩
        obtain ⟨S3, e3⟩ := S2.fix z1 z7
        obtain ⟨S4, e4⟩ := S3.fix z2 z5
        have hda : a ≠ d := fun z => by
          subst z
          rw [upd_same] at z3
          cases z3
        have fa : upd (upd F2 a (L2.exo a A (some d))) d (exd d gs) a = some (L2.exo a A (some d)) := by rw [upd_ne hda, upd_same]
        have ee := e3.trans e4
        obtain ⟨S5, e5, hat⟩ := S4.addOff z7 (c := .exv c xs) rfl (.exo g1 fa upd_same (RNs.mono (ee.trans ⟨Evl.Ex.refl _, List.prefix_append _ _⟩) z8))
        exact h1 _ _ _ (e2.trans (ee.trans e5)) S5 _ (show RD X.K _ _ _ (.c _) from ⟨a, hat, rfl⟩)
    · exact h1.elim
theorem exv_ok {F H : Hp} {φ : List Addr} {st : Store} {v : V} {d : D} {c : Str} {fs : List (Str × D)} (S : SR X.K F φ st H) (rv : RD X.K F φ v d) (e : exvOf d st = some (c, fs)) : ∃ a, v = .ref a ∧ OR X.K F φ a (.exv c fs) := by
  unfold exvOf at e
  split at e
  · rename_i n
    split at e
    · rename_i c' fs' hc
      cases Option.some.inj e
      obtain ⟨a, h1, rfl⟩ := rv
      obtain ⟨a', h2, h3⟩ := S.off n _ hc rfl
      rw [h1] at h2
      cases Option.some.inj h2
      exact ⟨a, rfl, h3⟩
    · cases e
  · cases e
theorem ok_xfl (w : WF X C G XR E) {c f : Str} {a : ME} {x : Expr} {pos : Pos} (hsu : notSuper x = true) (hf : (c, f) ∈ C.xfld) (ha : OkP X XR E x (ev G a)) : OkP X XR E (.Attribute x f pos) (ev G (.xfl c f a)) := by
  refine .plain (PE.imp (pe_xfV ha.pe (base_of hsu)) fun σ H Q hq => ?_) (fun _ => rfl) (fun _ _ _ e => nomatch e)
  obtain ⟨env, st, F, φ, S, r, hq⟩ := hq
  simp only [ev] at hq
  refine ⟨env, st, F, φ, S, r, Sat.bind hq fun d st1 F1 φ1 H1 e1 S1 h1 v rv => ?_⟩
  unfold xflD at h1
  split at h1
  · rename_i c' fs hx
    split at h1
    · rename_i hcc
      subst hcc
      split at h1
      · rename_i y hy
        obtain ⟨l, rfl, o⟩ := exv_ok S1 rv hx
        obtain ⟨A, a1, a2, a3⟩ := w.xcf c' f hf
        cases o with
        | exo hc h hd rr =>
          cases cls_one hc a1
          obtain ⟨v', g1, g2⟩ := rns_xrel rr f y hy
          exact ⟨l, _, _, _, v', rfl, a2, a3, S1.sub _ _ h, S1.sub _ _ hd, g1, h1.ok S1 v' g2⟩
        | exn hc h => cases hy
      · exact h1.elim
    · exact h1.elim
  · exact h1.elim
theorem held_of {F H : Hp} {φ : List Addr} {st : Store} {a A : Addr} {c : Str} {fs : List (Str × D)} (S : SR X.K F φ st H) (hA : clsAt X.K c A) (o : OR X.K F φ a (.exv c fs)) : HeldE H a A := by
  cases o with
  | exo hc h hd rr =>
    cases cls_one hc hA
    exact .inl ⟨_, S.sub _ _ h, .inr ⟨_, _, rfl, S.sub _ _ hd⟩⟩
  | exn hc h =>
    cases cls_one hc hA
    exact .inr (S.sub _ _ h)
theorem valN_mem {α : Type} {tb : List (Str × α)} {c : Str} {b : α} (h : valN tb c = some b) : (c, b) ∈ tb := by
  unfold valN at h
  obtain ⟨q, h1, h2⟩ := Option.map_eq_some_iff.mp h
  have h3 := List.find?_some h1
  have h4 := List.mem_of_find?_eq_some h1
  obtain ⟨q1, q2⟩ := q
  dsimp only at h2 h3
  rw [decide_eq_true_eq] at h3
  subst h2 h3
  exact h4
theorem ok_isx (w : WF X C G XR E) {tb : List (Str × Bool)} {a : ME} {x t : Str} {y : Expr} {p p2 pos : Pos} (hx : x = ("isinstance" : Str)) (hb : C.isBl x = true) (hn : notStar y = true) (ha : OkP X XR E y (ev G a))
    (hk : ((C.isGl t && C.hcs.contains t && tb.all (fun q => C.xtab.contains ((q.1, t), q.2) && C.xisc.contains q.1)) || (decide (t = ("ValueError" : Str)) && C.isBl t && tb.all (fun q => q.2 && C.xisc.contains q.1))) = true) :
    OkP X XR E (.Call (.Name x p) [y, .Name t p2] [] pos) (ev G (.isx tb a)) := by
  refine .plain ?_ (fun _ => rfl) (fun _ _ _ e => nomatch e)
  obtain ⟨h1, h2, h3⟩ := bl_of w hb
  obtain ⟨d1, _, d3⟩ := okName_of h1
  have fin : ∀ (tT : V) (tV : Value), PE X (.Name t p2) (tC tT) → (∀ u, RelV tT u → u = tV) → (∀ c b A, (c, b) ∈ tb → clsAt X.K c A → ExcC X.K A → PySem.W.subIn X.K (.ref A) (.ref A) = some true → PySem.W.subIn X.K (.ref A) (.type "ValueError") = some true → PySem.W.kitOne X.K (.ref A) tV = some b) →
      (∀ c b, (c, b) ∈ tb → c ∈ C.xisc) → PE X (.Call (.Name x p) [y, .Name t p2] [] pos) (rE X.K XR E (ev G (.isx tb a))) := fun tT tV hT hV hk hi => by
    refine PE.imp (pe_callB call_isV h2 h3 (by rw [hx]; exact boot_isi') (pa_cons ha.pe (pa_cons hT pa_nil) (star1 hn)) d3 d1 (star1 hn)) fun σ H Q hq => ?_
    obtain ⟨env, st, F, φ, S, r, hq⟩ := hq
    simp only [ev] at hq
    refine ⟨env, st, F, φ, S, r, Sat.bind hq fun d st1 F1 φ1 H1 e1 S1 h1 v rv => ?_⟩
    unfold isxD at h1
    split at h1
    · rename_i c fs he
      split at h1
      · rename_i b hb
        obtain ⟨l, rfl, o⟩ := exv_ok S1 rv he
        have hm := valN_mem hb
        obtain ⟨A, a1, a2, a3, a4⟩ := w.xis c (hi c b hm)
        exact ⟨l, A, tT, tV, b, rfl, a2, held_of S1 a1 o, hV, hk c b A hm a1 a2 a3 a4, h1.ok S1 _ rd_bl⟩
      · exact h1.elim
    · exact h1.elim
  rcases Bool.or_eq_true_iff.mp hk with hk | hk
  · simp only [Bool.and_eq_true, List.all_eq_true] at hk
    obtain ⟨⟨k1, k2⟩, k3⟩ := hk
    obtain ⟨t1, t2⟩ := gl_of w k1
    obtain ⟨B, b1, b2⟩ := w.hcl t (by simpa using k2)
    refine fin (.ref B) (.ref B) (pe_glob t2 b2 (v := .ref B) rfl (okName_of t1).1) (fun u hu => hu) (fun c b A hm hA hE hs hv => ?_) fun c b hm => by simpa using (k3 _ hm).2
    obtain ⟨A', B', a1, a2, a3, a4⟩ := w.xmt c t b (by simpa using (k3 _ hm).1)
    have eA := cls_one a1 hA
    have eB := cls_one a2 b1
    rw [eA, eB] at a4
    unfold PySem.W.exmOne at a4
    split at a4
    · unfold PySem.W.kitOne
      split
      · rename_i he
        have eAB : A = B := Value.ref.inj (eq_of_beq he)
        rw [← eAB] at a4
        change (if ((PySem.W.clsIn X.K A).isSome && PySem.W.typeIn X.K (.ref A) == some (.type "type")) = true then PySem.W.subIn X.K (.ref A) (.ref A) else none) = some b at a4
        split at a4
        · rw [hs] at a4
          exact a4
        · cases a4
      · exact a4
    · cases a4
  · simp only [Bool.and_eq_true, decide_eq_true_eq, List.all_eq_true] at hk
    obtain ⟨⟨rfl, k1⟩, k3⟩ := hk
    obtain ⟨t1, t2, t3⟩ := bl_of w k1
    obtain ⟨u1, _, u3⟩ := okName_of t1
    refine fin (.ty "ValueError") (.type "ValueError") (pe_bltn t2 t3 PyProof.Rows.Boot.«ValueError» rfl u3 u1) (fun u hu => hu) (fun c b A hm hA hE hs hv => ?_) fun c b hm => by simpa using (k3 _ hm).2
    have hbt : b = true := (k3 _ hm).1
    subst hbt
    unfold PySem.W.kitOne
    rw [if_neg (show ¬ ((Value.ref A == Value.type "ValueError") = true) from fun z => by cases (eq_of_beq z))]
    show (if PySem.W.kitMeta "ValueError" = true then PySem.W.subIn X.K (.ref A) (.type "ValueError") else none) = some true
    rw [if_pos (by decide +kernel)]
    exact hv
end
end MP

set_option Elab.async false
set_option linter.all false
set_option autoImplicit false
set_option maxRecDepth 100000
set_option maxHeartbeats 4000000
/-! the meaning is right: the whole of expressions -/
namespace MP
open PySem PySem.Spec PyProof.Rows L2
section
variable {G : Sem1} {XR : XRT}
theorem folded {e : Expr} (h : notSet e = true) (env : PySem.Env) (x : Value) : foldedSetIterable e env x = pure x := by
  cases e <;> first | rfl | cases h
theorem ok_join {X : Cx} {C : Ctx} {E : EK} (w : WF X C G XR E) {a b : ME} {x y : Expr} {m : Str} {q p : Pos} (hm : m = ("join" : Str)) (hl : (q.endLine == p.line) = true) (hsu : notSuper x = true) (hn : notStar y = true) (ha : OkP X XR E x (ev G a)) (hb : OkP X XR E y (ev G b)) :
    OkP X XR E (.Call (.Attribute x m q) [y] [] p) (ev G (.join a b)) := by
  subst hm
  refine .plain (PE.imp (pe_bm (X := X) PySem.F.plainAttrs_str PySem.F.slot_str_join PySem.F.type_str_join mt_join ha.pe (pa_cons hb.pe pa_nil (star1 hn)) (base_of hsu) (by rw [star1 hn]; rfl) hl (star1 hn) rfl) fun σ H Q hq => ?_) (fun _ => rfl) (fun _ _ _ e => nomatch e)
  obtain ⟨env, st, F, φ, S, r, hq⟩ := hq
  simp only [ev] at hq
  refine ⟨env, st, F, φ, S, r, Sat.bind hq fun d st1 F1 φ1 H1 e1 S1 h1 v rv => ?_⟩
  split at h1
  · rename_i z
    rw [rv.str]
    refine ⟨rfl, env, st1, F1, φ1, S1, r.mono e1, Sat.bind h1 fun d2 st2 F2 φ2 H2 e2 S2 h2 v2 rv2 => ?_⟩
    unfold joinD at h2
    split at h2
    · rename_i ys e0
      split at h2
      · rename_i zs e3
        split at h2
        · rename_i hz
          have hz' : (zs.map (·.length)).sum + zs.length * z.length ≤ 16777216 := Nat.le_trans hz (by decide)
          split at e0
          · rename_i ws
            cases Option.some.inj e0
            obtain ⟨l, vs, rfl, hl2, _, r1⟩ := tup_ok S2 rv2
            have q := r1.dpAll
            rw [strs_some e3] at q
            rw [dp_strs q] at hl2
            exact ⟨z, l, zs, rfl, rfl, .inr hl2, hz', sat_val S2 rd_str h2⟩
          · obtain ⟨ds, e4, e5⟩ := Option.bind_eq_some_iff.mp e0
            obtain ⟨l, vs, rfl, hl2, r1⟩ := items_ok S2 rv2 e4
            rw [pures_some e5] at r1
            have q := r1.dpAll
            rw [strs_some e3] at q
            rw [dp_strs q] at hl2
            exact ⟨z, l, zs, rfl, rfl, .inl hl2, hz', sat_val S2 rd_str h2⟩
        · exact h2.elim
      · exact h2.elim
    · exact h2.elim
  · exact h1.elim
theorem ok_split {X : Cx} {C : Ctx} {E : EK} (w : WF X C G XR E) {c : Bool} {a b : ME} {x y : Expr} {m : Str} {q p : Pos} (hm : m = ("split" : Str)) (hl : (q.endLine == p.line) = true) (hsu : notSuper x = true) (hn : notStar y = true) (ha : OkP X XR E x (ev G a)) (hb : OkP X XR E y (ev G b)) :
    OkP X XR E (.Call (.Attribute x m q) [y] [] p) (ev G (.split c a b)) := by
  subst hm
  refine .plain (PE.imp (pe_bm (X := X) PySem.F.plainAttrs_str PySem.F.slot_str_split PySem.F.type_str_split mt_split ha.pe (pa_cons hb.pe pa_nil (star1 hn)) (base_of hsu) (by rw [star1 hn]; rfl) hl (star1 hn) rfl) fun σ H Q hq => ?_) (fun _ => rfl) (fun _ _ _ e => nomatch e)
  obtain ⟨env, st, F, φ, S, r, hq⟩ := hq
  simp only [ev] at hq
  refine ⟨env, st, F, φ, S, r, Sat.bind hq fun d st1 F1 φ1 H1 e1 S1 h1 v rv => ?_⟩
  split at h1
  · rename_i z
    rw [rv.str]
    refine ⟨rfl, env, st1, F1, φ1, S1, r.mono e1, Sat.bind h1 fun d2 st2 F2 φ2 H2 e2 S2 h2 v2 rv2 => ?_⟩
    unfold splitD at h2
    split at h2
    · rename_i y
      split at h2
      · rename_i hz
        refine ⟨z, y, rfl, by rw [rv2.str], hz.1, sz_ok hz.2, fun p hp => sat_mkL S2 hp ?_ h2⟩
        rw [show ((Txt.split z y).map fun t => D.p (.str t)) = ((Txt.split z y).map PyData.str).map D.p by rw [List.map_map]; rfl]
        exact rds_strs _
      · exact h2.elim
    · exact h2.elim
  · exact h1.elim
theorem own_map (N : List Str) : ∀ (own : List Nat), (own.map fun j => ((N[j]?).getD ("" : Str), j)).map (·.2) = own
  | [] => rfl
  | a :: r => by rw [List.map_cons, List.map_cons, own_map N r]
theorem chki_folded {C : Ctx} {it : MI} {i t : Expr} (h : chki C it i t = true) : ∀ (env : PySem.Env) (x : Value), foldedSetIterable i env x = pure x := by
  have : notSet i = true := by
    cases it with
    | seq e => simp only [chki, Bool.and_eq_true] at h; exact h.1
    | _ => (simp only [chki] at h; split at h <;> first | rfl | cases h)
  exact folded this
mutual
theorem snd : ∀ (e : ME) {X : Cx} {C : Ctx} {E : EK} {py : Expr}, WF X C G XR E → chk C e py = true → OkP X XR E py (ev G e)
  | .var i, X, C, E, py, w, h => by
    unfold chk at h
    split at h
    · exact ok_var w h
    · cases h
  | .lit v, X, C, E, py, w, h => by
    unfold chk at h
    split at h
    · exact ok_lit h
    · cases h
  | .glb v, X, C, E, py, w, h => by
    unfold chk at h
    split at h
    · exact ok_glb w h
    · cases h
  | .fnv x, X, C, E, py, w, h => by
    unfold chk at h
    split at h
    · simp only [Bool.and_eq_true, decide_eq_true_eq] at h
      exact ok_fnv w h.1.1 h.1.2 h.2
    · cases h
  | .callV i fs es, X, C, E, py, w, h => by
    unfold chk at h
    split at h
    · have hh := h
      simp only [Bool.and_eq_true] at h
      exact ok_callV w (by rw [Bool.and_eq_true]; exact h.1.1) h.1.2 h.2 (snds es w h.2)
    · cases h
  | .split c a b, X, C, E, py, w, h => by
    unfold chk at h
    split at h
    · simp only [Bool.and_eq_true, decide_eq_true_eq] at h
      exact ok_split w h.1.1.1.1.1 h.1.1.1.1.2 h.1.1.1.2 h.1.1.2 (snd a w h.1.2) (snd b w h.2)
    · cases h
  | .slc a lo hi, X, C, E, py, w, h => by
    unfold chk at h
    split at h
    · simp only [Bool.and_eq_true] at h
      exact ok_slc (snd a w h.1.1) (sndo lo w h.1.2) (sndo hi w h.2)
    · cases h
  | .gin n kvs a, X, C, E, py, w, h => by
    unfold chk at h
    split at h
    · simp only [Bool.and_eq_true, decide_eq_true_eq] at h
      exact ok_gin w h.1.1.1 h.1.1.2 h.1.2 (snd a w h.2)
    · cases h
  | .gixIn kvs a b, X, C, E, py, w, h => by
    unfold chk at h
    split at h
    · simp only [Bool.and_eq_true] at h
      exact ok_gixIn w h.1.1.1.1 h.1.1.1.2 h.1.1.2 (snd a w h.1.2) (snd b w h.2)
    · cases h
  | .gix kvs a, X, C, E, py, w, h => by
    unfold chk at h
    split at h
    · simp only [Bool.and_eq_true] at h
      exact ok_gix w h.1.1.1 h.1.1.2 h.1.2 (snd a w h.2)
    · cases h
  | .bin o a b, X, C, E, py, w, h => by
    unfold chk at h
    split at h
    · simp only [Bool.and_eq_true, decide_eq_true_eq] at h
      obtain ⟨⟨rfl, h1⟩, h2⟩ := h
      exact ok_bin (snd a w h1) (snd b w h2)
    · cases h
  | .neg a, X, C, E, py, w, h => by
    unfold chk at h
    split at h
    · exact ok_neg (snd a w h)
    · cases h
  | .not a, X, C, E, py, w, h => by
    unfold chk at h
    split at h
    · exact ok_not (snd a w h)
    · cases h
  | .and a b, X, C, E, py, w, h => by
    unfold chk at h
    split at h
    · simp only [Bool.and_eq_true] at h
      exact ok_and (snd a w h.1) (snd b w h.2)
    · cases h
  | .or a b, X, C, E, py, w, h => by
    unfold chk at h
    split at h
    · simp only [Bool.and_eq_true] at h
      exact ok_or (snd a w h.1) (snd b w h.2)
    · cases h
  | .one a, X, C, E, py, w, h => by
    unfold chk at h
    split at h
    · exact ok_one (snd a w h)
    · cases h
  | .cmp o a b, X, C, E, py, w, h => by
    unfold chk at h
    split at h
    · simp only [Bool.and_eq_true, decide_eq_true_eq] at h
      obtain ⟨⟨⟨rfl, h0⟩, h1⟩, h2⟩ := h
      exact ok_cmp w h0 (snd a w h1) (snd b w h2)
    · cases h
  | .cmp2 o o' a b c, X, C, E, py, w, h => by
    unfold chk at h
    split at h
    · simp only [Bool.and_eq_true, decide_eq_true_eq] at h
      obtain ⟨⟨⟨⟨⟨⟨rfl, rfl⟩, h0⟩, h1⟩, h2⟩, h3⟩, h4⟩ := h
      exact ok_cmp2 w h0 h1 (snd a w h2) (snd b w h3) (snd c w h4)
    · cases h
  | .ife c a b, X, C, E, py, w, h => by
    unfold chk at h
    split at h
    · simp only [Bool.and_eq_true] at h
      exact ok_ife (snd c w h.1.1) (snd a w h.1.2) (snd b w h.2)
    · cases h
  | .tup es, X, C, E, py, w, h => by
    unfold chk at h
    split at h
    · exact ok_tup (snds es w h)
    · cases h
  | .lst c es, X, C, E, py, w, h => by
    unfold chk at h
    split at h
    · exact ok_lst (snds es w h)
    · cases h
  | .frz a, X, C, E, py, w, h => by
    unfold chk at h
    split at h
    · exact ok_frz (snd a w h)
    · exact ok_frzA (snd a w h)
    · cases h
  | .rev a, X, C, E, py, w, h => by
    unfold chk at h
    split at h
    · exact ok_rev (snd a w h)
    · cases h
  | .dctE t, X, C, E, py, w, h => by
    unfold chk at h
    split at h
    · exact ok_dctE
    · cases h
  | .dct ks es, X, C, E, py, w, h => by
    unfold chk at h
    split at h
    · simp only [Bool.and_eq_true, decide_eq_true_eq, Bool.not_eq_true'] at h
      obtain ⟨⟨⟨⟨h1, h2⟩, h3⟩, h4⟩, h5⟩ := h
      exact ok_dct' h1 h2 h3 h4 h5 (sndps es w h5)
    · cases h
  | .fld a f cs, X, C, E, py, w, h => by
    unfold chk at h
    split at h
    · simp only [Bool.and_eq_true, decide_eq_true_eq] at h
      obtain ⟨⟨⟨rfl, h2⟩, h3⟩, h4⟩ := h
      exact ok_fld w h2 h3 (snd a w h4)
    · cases h
  | .meth c i m o es, X, C, E, py, w, h => by
    unfold chk at h
    split at h
    · simp only [Bool.and_eq_true, decide_eq_true_eq] at h
      obtain ⟨⟨⟨⟨⟨⟨rfl, h2⟩, h3⟩, h4⟩, h5⟩, h6⟩, h7⟩ := h
      exact ok_meth w h2 h3 h4 (by simpa using h5) h7 (snd o w h6) (snds es w h7)
    · cases h
  | .new c i es, X, C, E, py, w, h => by
    unfold chk at h
    split at h
    · simp only [Bool.and_eq_true, decide_eq_true_eq, Bool.not_eq_true'] at h
      obtain ⟨⟨⟨⟨h1, h2⟩, rfl⟩, h4⟩, h5⟩ := h
      exact ok_new w h1 h2 (by simpa using h4) h5 (snds es w h5)
    · cases h
  | .callT fs i es, X, C, E, py, w, h => by
    unfold chk at h
    split at h
    · simp only [Bool.and_eq_true, decide_eq_true_eq] at h
      obtain ⟨⟨⟨⟨h1, h2⟩, h3⟩, h4⟩, h5⟩ := h
      exact ok_callT w h1 h2 h3 (snd i w h4) h5 (snds es w h5)
    · cases h
  | .callD f es dv, X, C, E, py, w, h => by
    unfold chk at h
    split at h
    · simp only [Bool.and_eq_true, decide_eq_true_eq] at h
      obtain ⟨⟨⟨h1, h2⟩, h3⟩, h4⟩ := h
      obtain ⟨q, hq, h5⟩ := List.any_eq_true.mp h3
      simp only [Bool.and_eq_true, beq_iff_eq] at h5
      obtain ⟨rfl, h6⟩ := h5
      cases datasEq_eq h6
      exact ok_callD w h1 h2 hq h4 (snds es w h4)
    · cases h
  | .mcall m o es, X, C, E, py, w, h => by
    unfold chk at h
    split at h
    · rename_i x f q ys p
      simp only [Bool.and_eq_true, decide_eq_true_eq] at h
      obtain ⟨⟨⟨⟨⟨rfl, h2⟩, h3⟩, h4⟩, h5⟩, h6⟩ := h
      refine .plain ?_ (fun _ => rfl) (fun _ _ _ e => nomatch e)
      by_cases hx : m = .extend
      · subst hx
        cases ys with
        | nil => cases h4
        | cons y ys =>
          cases ys with
          | nil => exact ok_mcall1 h2 h3 h6 (snd o w h5) (snds es w h6)
          | cons _ _ => cases h4
      by_cases hm : m = .insert
      · subst hm
        cases ys with
        | nil => cases h4
        | cons y ys =>
          cases ys with
          | nil => cases h4
          | cons z ys =>
            cases ys with
            | nil => exact ok_mcall2 h2 h3 h6 (snd o w h5) (snds es w h6)
            | cons _ _ => cases h4
      · have h0 : mthA m = 0 := by cases m <;> first | rfl | exact absurd rfl hm | exact absurd rfl hx
        rw [h0] at h4
        cases ys with
        | nil =>
          cases es with
          | nil => exact ok_mcall0 h0 h2 h3 (snd o w h5)
          | cons e r => simp [chks] at h6
        | cons y ys => cases h4
    · cases h
  | .ix a b, X, C, E, py, w, h => by
    unfold chk at h
    split at h
    · simp only [Bool.and_eq_true] at h
      exact ok_ix w h.1.1 (snd a w h.1.2) (snd b w h.2)
    · cases h
  | .sl a lo hi, X, C, E, py, w, h => by
    unfold chk at h
    split at h
    · simp only [Bool.and_eq_true] at h
      exact ok_sl (snd a w h.1.1) (sndo lo w h.1.2) (sndo hi w h.2)
    · cases h
  | .bi f a, X, C, E, py, w, h => by
    unfold chk at h
    split at h
    · simp only [Bool.and_eq_true, decide_eq_true_eq] at h
      exact ok_bi w h.2 h.1.1.1.1 h.1.1.1.2 h.1.1.2 (snd a w h.1.2)
    · cases h
  | .mx2 m a b, X, C, E, py, w, h => by
    unfold chk at h
    split at h
    · simp only [Bool.and_eq_true, decide_eq_true_eq] at h
      obtain ⟨⟨⟨⟨⟨h1, h2⟩, h3⟩, h4⟩, h5⟩, h6⟩ := h
      exact ok_mx2 w h1 h2 h3 h4 (snd a w h5) (snd b w h6)
    · cases h
  | .mxd m a z, X, C, E, py, w, h => by
    unfold chk at h
    split at h
    · simp only [Bool.and_eq_true, decide_eq_true_eq] at h
      obtain ⟨⟨⟨⟨⟨h1, h2⟩, h3⟩, h4⟩, h5⟩, h6⟩ := h
      exact ok_mxd w h1 h2 h3 h4 (snd a w h5) (snd z w h6)
    · cases h
  | .dk1 k v, X, C, E, py, w, h => by
    unfold chk at h
    split at h
    · simp only [Bool.and_eq_true] at h
      exact ok_dk1 (snd k w h.1) (snd v w h.2)
    · cases h
  | .dget o k z, X, C, E, py, w, h => by
    unfold chk at h
    split at h
    · simp only [Bool.and_eq_true, decide_eq_true_eq] at h
      obtain ⟨⟨⟨⟨⟨⟨⟨h1, h2⟩, h3⟩, h4⟩, h5⟩, h6⟩, h7⟩, h8⟩ := h
      exact ok_dget w h1 h2 h3 h4 h5 (snd o w h6) (snd k w h7) (snd z w h8)
    · cases h
  | .dpop o k, X, C, E, py, w, h => by
    unfold chk at h
    split at h
    · simp only [Bool.and_eq_true, decide_eq_true_eq] at h
      obtain ⟨⟨⟨⟨⟨h1, h2⟩, h3⟩, h4⟩, h5⟩, h6⟩ := h
      exact ok_dpop h1 h2 h3 h4 (snd o w h5) (snd k w h6)
    · cases h
  | .clr o, X, C, E, py, w, h => by
    unfold chk at h
    split at h
    · simp only [Bool.and_eq_true, decide_eq_true_eq] at h
      obtain ⟨⟨⟨h1, h2⟩, h3⟩, h4⟩ := h
      exact ok_clr h1 h2 h3 (snd o w h4)
    · cases h
  | .sset c a, X, C, E, py, w, h => by
    unfold chk at h
    split at h
    · simp only [Bool.and_eq_true, decide_eq_true_eq] at h
      exact ok_sset w h.1.1.1.1.1 h.1.1.1.1.2 h.1.1.1.2 h.1.1.2 h.1.2 (snd a w h.2)
    · cases h
  | .lset a, X, C, E, py, w, h => by
    unfold chk at h
    split at h
    · simp only [Bool.and_eq_true, decide_eq_true_eq] at h
      exact ok_lset w h.1.1.1.1.1 h.1.1.1.1.2 h.1.1.1.2 h.1.1.2 h.1.2 (snd a w h.2)
    · cases h
  | .stp a e, X, C, E, py, w, h => by
    unfold chk at h
    split at h
    · simp only [Bool.and_eq_true] at h
      exact ok_stp (snd a w h.1) (snd e w h.2)
    · cases h
  | .mkx c np fs es, X, C, E, py, w, h => by
    unfold chk at h
    split at h
    · simp only [Bool.and_eq_true, decide_eq_true_eq] at h
      obtain ⟨⟨⟨⟨⟨h1, rfl⟩, h3⟩, h4⟩, h5⟩, h6⟩ := h
      obtain ⟨q, hq, h7⟩ := List.any_eq_true.mp h3
      simp only [Bool.and_eq_true, beq_iff_eq] at h7
      obtain ⟨⟨k1, k2⟩, k3⟩ := h7
      have k3 := fesEq_eq k3
      obtain ⟨q1, q2, q3⟩ := q
      dsimp only at k1 k2 k3
      subst k1 k2 k3
      exact ok_mkx w h1 hq h4 h5 h6 (snds es w h6)
    · cases h
  | .xfl c f a, X, C, E, py, w, h => by
    unfold chk at h
    split at h
    · simp only [Bool.and_eq_true, decide_eq_true_eq] at h
      obtain ⟨⟨⟨rfl, h2⟩, h3⟩, h4⟩ := h
      exact ok_xfl w h3 (by simpa using h2) (snd a w h4)
    · cases h
  | .isx tb a, X, C, E, py, w, h => by
    unfold chk at h
    split at h
    · simp only [Bool.and_eq_true, decide_eq_true_eq] at h
      obtain ⟨⟨⟨⟨h1, h2⟩, h3⟩, h4⟩, h5⟩ := h
      exact ok_isx w h1 h2 h3 (snd a w h4) h5
    · cases h
  | .isi T a, X, C, E, py, w, h => by
    unfold chk at h
    split at h
    · simp only [Bool.and_eq_true, decide_eq_true_eq] at h
      obtain ⟨⟨⟨⟨⟨⟨h1, h2⟩, h3⟩, h4⟩, h5⟩, h6⟩, h7⟩ := h
      exact ok_isi w h1 h2 h3 h4 h5 h6 (snd a w h7)
    · cases h
  | .call f es, X, C, E, py, w, h => by
    unfold chk at h
    split at h
    · simp only [Bool.and_eq_true, decide_eq_true_eq] at h
      exact ok_call w h.1.1 h.1.2 h.2 (snds es w h.2)
    · cases h
  | .join a b, X, C, E, py, w, h => by
    unfold chk at h
    split at h
    · simp only [Bool.and_eq_true, decide_eq_true_eq] at h
      obtain ⟨⟨⟨⟨⟨h1, h2⟩, h3⟩, h4⟩, h5⟩, h6⟩ := h
      exact ok_join w h1 h2 h3 h4 (snd a w h5) (snd b w h6)
    · cases h
  | .lc c own tg it cond elt, X, C, E, py, w, h => by
    unfold chk at h
    split at h
    · simp only [Bool.and_eq_true] at h
      obtain ⟨⟨h1, h2⟩, ⟨⟨h3, h4⟩, h5⟩, h6⟩ := h
      have hb := blkOk_by h1
      rw [← w.N, ← w.sc] at hb
      refine .plain (PE.imp (pe_lc (g := gI X.K tg) (tt := rT X.K XR (fun _ => E0) fun env st => truR (evc G cond env st)) (te := rE X.K XR (fun _ => E0) (ev G elt)) w.calm w.nd (sndi it w h4) hb (fun s H Ca cl fp => ok_tgI (w.blk s H _ cl Ca fp) h3)
        (fun s H Ca cl fp => sndc cond (w.blk s H _ cl Ca fp) h5) (fun s H Ca cl fp => (snd elt (w.blk s H _ cl Ca fp) h6).pe) (chki_folded h4 X.env)) fun σ H Q hq => ?_) (fun _ => rfl) (fun _ _ _ e => nomatch e)
      rw [w.N, own_map]
      exact lc_sat (iter := default) (t := default) (x := default) (ifs := []) (fun j hj => by simpa using List.all_eq_true.mp h2 j hj) hq
    · cases h
theorem snds : ∀ (es : MEs) {X : Cx} {C : Ctx} {E : EK} {xs : List Expr}, WF X C G XR E → chks C es xs = true → OkA X XR E xs (evs G es)
  | .nil, X, C, E, [], w, h => oka_nil
  | .cons e r, X, C, E, x :: xs, w, h => by
    simp only [chks, Bool.and_eq_true] at h
    exact oka_cons h.1.1 (snd e w h.1.2) (snds r w h.2)
  | .nil, X, C, E, _ :: _, w, h => by simp [chks] at h
  | .cons _ _, X, C, E, [], w, h => by simp [chks] at h
theorem sndps : ∀ (es : MEs) {X : Cx} {C : Ctx} {E : EK} {xs : List Expr}, WF X C G XR E → chks C es xs = true → PesOk X C G XR E es xs
  | .nil, X, C, E, [], w, h => .nil
  | .cons e r, X, C, E, x :: xs, w, h => by
    simp only [chks, Bool.and_eq_true] at h
    exact .cons (snd e w h.1.2).pe (sndps r w h.2)
  | .nil, X, C, E, _ :: _, w, h => by simp [chks] at h
  | .cons _ _, X, C, E, [], w, h => by simp [chks] at h
theorem sndo : ∀ (o : MO) {X : Cx} {C : Ctx} {E : EK} {x : Option Expr}, WF X C G XR E → chko C o x = true → PO X x (rO' X.K XR E (evo G o))
  | .none, X, C, E, none, w, h => oko_none
  | .some e, X, C, E, some x, w, h => by
    simp only [chko] at h
    exact oko_some (snd e w h)
  | .none, X, C, E, some _, w, h => by simp [chko] at h
  | .some _, X, C, E, none, w, h => by simp [chko] at h
theorem sndc : ∀ (o : MO) {X : Cx} {C : Ctx} {E : EK} {xs : List Expr}, WF X C G XR E → chkc C o xs = true → PTs X xs (rT X.K XR E fun env st => truR (evc G o env st))
  | .none, X, C, E, [], w, h => okc_none
  | .some e, X, C, E, [x], w, h => by
    simp only [chkc] at h
    exact okc_some (snd e w h)
  | .none, X, C, E, _ :: _, w, h => by simp [chkc] at h
  | .some _, X, C, E, [], w, h => by simp [chkc] at h
  | .some _, X, C, E, _ :: _ :: _, w, h => by simp [chkc] at h
theorem sndi : ∀ (it : MI) {X : Cx} {C : Ctx} {E : EK} {i t : Expr}, WF X C G XR E → chki C it i t = true → PI X t i (rI X.K XR E (evi G it))
  | .seq e, X, C, E, i, t, w, h => by
    simp only [chki, Bool.and_eq_true] at h
    exact ok_seq (snd e w h.2)
  | .rng1 a, X, C, E, i, t, w, h => by
    unfold chki at h
    split at h
    · simp only [Bool.and_eq_true, decide_eq_true_eq] at h
      exact ok_rng1 w h.1.1.1 h.1.1.2 h.1.2 (snd a w h.2)
    · cases h
  | .rng2 a b, X, C, E, i, t, w, h => by
    unfold chki at h
    split at h
    · simp only [Bool.and_eq_true, decide_eq_true_eq] at h
      obtain ⟨⟨⟨⟨⟨h1, h2⟩, h3⟩, h4⟩, h5⟩, h6⟩ := h
      exact ok_rng2 w h1 h2 h3 h4 (snd a w h5) (snd b w h6)
    · cases h
  | .enum a, X, C, E, i, t, w, h => by
    unfold chki at h
    split at h
    · simp only [Bool.and_eq_true, decide_eq_true_eq] at h
      obtain ⟨⟨⟨⟨h1, h2⟩, h3⟩, h4⟩, h5⟩ := h
      exact ok_enum w h1 h2 h3 h4 (snd a w h5)
    · cases h
  | .zip a b, X, C, E, i, t, w, h => by
    unfold chki at h
    split at h
    · simp only [Bool.and_eq_true, decide_eq_true_eq] at h
      obtain ⟨⟨⟨⟨⟨⟨h1, h2⟩, h3⟩, h4⟩, h5⟩, h6⟩, h7⟩ := h
      exact ok_zip w h1 h2 h3 h4 h5 (snd a w h6) (snd b w h7)
    · cases h
  | .view b a, X, C, E, i, t, w, h => by
    unfold chki at h
    split at h
    · simp only [Bool.and_eq_true, decide_eq_true_eq] at h
      obtain ⟨⟨⟨⟨h1, h2⟩, h3⟩, h4⟩, h5⟩ := h
      exact ok_view h1 h2 h3 h4 (snd a w h5)
    · cases h
  | .rev a, X, C, E, i, t, w, h => by
    unfold chki at h
    split at h
    · simp only [Bool.and_eq_true, decide_eq_true_eq] at h
      obtain ⟨⟨⟨h1, h2⟩, h3⟩, h4⟩ := h
      exact ok_revI w h1 h2 h3 (snd a w h4)
    · cases h
end
end
end MP

set_option Elab.async false
set_option linter.all false
set_option autoImplicit false
set_option maxRecDepth 100000
set_option maxHeartbeats 2000000
/-! exceptions: an own __init__ that calls its base's, raise, clauses of every kind -/
namespace MP
open PySem PySem.Spec PyProof.Rows L2
theorem SR.known {K : PySem.W.Frag} {F H : Hp} {φ : List Addr} {st : Store} {d : Addr} {ws : List (Str × V)} (S : SR K F φ st H) (hd : H d = some (.xd ws)) : SR K (upd F d (.xd ws)) φ st H ∧ Ext F φ (upd F d (.xd ws)) φ := by
  have hF : ∀ b u, F b = some u → upd F d (.xd ws) b = some u := fun b u e => by
    by_cases hb : b = d
    · subst hb; rw [upd_same]; rw [S.sub _ _ e] at hd; exact hd.symm
    · rw [upd_ne hb]; exact e
  have E : Ext F φ (upd F d (.xd ws)) φ := ⟨hF, List.prefix_refl φ⟩
  refine ⟨⟨fun b u e => ?_, S.len, S.nd, fun n c e hc => ?_, fun n c e hc => ?_⟩, E⟩
  · by_cases hb : b = d
    · subst hb; rw [upd_same] at e; rw [hd, e]
    · rw [upd_ne hb] at e; exact S.sub b u e
  · obtain ⟨a, o, h1, h2, h3, h4⟩ := S.live n c e hc
    have : a ≠ d := fun z => by
      subst z
      rw [hd] at h3
      cases Option.some.inj h3
      cases h4
    exact ⟨a, o, h1, by rw [upd_ne this]; exact h2, h3, h4.mono E⟩
  · obtain ⟨a, h1, h2⟩ := S.off n c e hc
    exact ⟨a, h1, h2.mono E⟩
section
variable {X : Cx} {B : Str} {CB : Addr} {e : Expr} {es : List Expr} {p1 p2 pos : Pos} {ta : TA}
/-- Base.__init__(self, ..), Base an own class over ValueError without own __init__ -/
theorem pe_cinit (hg : Gl X B) (hm : X.mg B = some (.ref CB)) (hd : (B == ("__debug__" : Str)) = false) (hr : ClX.CRead X.K CB (.type "type")) (hv : PySem.W.findCls X.K (.ref CB) (.type "type") "__init__" = some (.val (.builtin "ValueError.__init__")))
    (ha : PA X (e :: es) ta) (hs : starEach (e :: es) X.env = (false, eval e X.env) :: starEach es X.env) (hpl : (backTo pos (starEach es X.env)).any (·.1) = false) (hl : (p2.endLine == pos.line) = true) (hn : (e :: es).length ≤ 20) :
    PE X (.Call (.Attribute (.Name B p1) "__init__" p2) (e :: es) [] pos) (tVeI X.K ta) := by
  obtain ⟨pl, ht⟩ := evalMeth (o := .Name B p1) (m := "__init__") (args := e :: es) (pos := pos) (apos := p2) (env := X.env) rfl hl hn (by rw [hs]; show (false || (backTo pos (starEach es X.env)).any (·.1)) = false; rw [hpl]; rfl)
  refine ⟨fun pins s σ H Q I h => ?_⟩
  refine PySem.W.methodCall_KW (ld_glob I hg hm ?_ hd) ht
  refine PySem.W.method_cls I.kIn hr.ga (PySem.W.cls_value I.kIn hr.rd hv rfl ?_)
  refine PyProof.Rows.callWith_method1 (thn (ha.run pos pins _ σ H _ (I.tok _) h) fun us s1 ⟨vs, H1, I1, r1, a, A, ws, ev, hz, T, ea, q⟩ => ?_) hs hpl
  subst ev
  cases r1 with
  | @cons _ u0 _ ur ra rw' =>
    obtain rfl : u0 = Value.ref a := ra
    refine oinit_ok T I1 ea ?_ fun s' J => ⟨.non, H1, J, rfl, q⟩
    rw [← Paired.length rw', sizeLine_eq]
    omega
end
/-! the own __init__ -/
def chkFv (C : Ctx) : FE → Expr → Bool
  | .arg i, .Name y _ => C.slot (i + 1) y && C.isVis y
  | .lst i, .Call (.Name l _) [.Name y _] [] _ => decide (l = ("list" : Str)) && C.isBl l && C.slot (i + 1) y && C.isVis y
  | _, _ => false
def chkF (C : Ctx) : List (Str × FE) → List Stmt → Bool
  | [], [] => true
  | (f, fe) :: r, .Assign [.Attribute (.Name s _) g _] v _ :: ss => decide (f = g) && C.slot 0 s && C.isVis s && chkFv C fe v && chkF C r ss
  | _, _ => false
def chkI (C : Ctx) (B : Str) (fs : List (Str × FE)) : List Stmt → Bool
  | .Expr (.Call (.Attribute (.Name b _) m p2) [.Name s _, .Constant (.str _) _ _] [] pos) _ :: r => decide (b = B) && C.isGl B && decide (m = ("__init__" : Str)) && (p2.endLine == pos.line) && C.slot 0 s && C.isVis s && !fs.isEmpty && decide (fs.length ≤ 50) && chkF C fs r
  | _ => false
def InitSt (F : Hp) (φ : List Addr) (H : Hp) (a A : Addr) (od : Option Addr) (gs : List (Str × V)) (H1 : Hp) : Prop :=
  F a = none ∧ a ∉ φ ∧ (∀ b, H b = none → H1 b = none) ∧ match od with
    | none => gs = [] ∧ H a = some (exo a A none)
    | some d => H a = some (exo a A (some d)) ∧ H d = some (exd d gs) ∧ H1 d = none ∧ F d = none ∧ d ∉ φ ∧ d ≠ a
def IniEnd (K : PySem.W.Frag) (F : Hp) (φ : List Addr) (a A : Addr) (H1 : Hp) (P : Hp → Prop) (r : R (List (Str × D))) : Prop :=
  match r with
  | .ok xs st' => ∀ F' φ' H2 d gs, Ext F φ F' φ' → SR K F' φ' st' H2 → H2 a = some (exo a A (some d)) → H2 d = some (exd d gs) → H1 d = none → F' d = none → d ∉ φ' → F' a = none → a ∉ φ' → RNs K F' φ' gs xs → P H2
  | _ => False
theorem IniEnd.ext {K : PySem.W.Frag} {F F1 : Hp} {φ φ1 : List Addr} {a A : Addr} {H1 : Hp} {P : Hp → Prop} {r : R (List (Str × D))} (e : Ext F φ F1 φ1) (h : IniEnd K F φ a A H1 P r) : IniEnd K F1 φ1 a A H1 P r := by
  cases r with
  | ok xs st => exact fun F' φ' H2 d gs x => h F' φ' H2 d gs (e.trans x)
  | ex c st => exact h
  | bad => exact h
def rIni (K : PySem.W.Frag) (A : Addr) (fs : List (Str × FE)) : TS := fun De σ H => ∃ ds st F φ a od gs acc H1, SR K F φ st H ∧ σ[0]? = some (some (.ref a)) ∧ (∀ i d, ds[i]? = some d → ∃ v : V, σ[i + 1]? = some (some v) ∧ RD K F φ v d) ∧ InitSt F φ H a A od gs H1 ∧
  gs.length + fs.length ≤ 100 ∧ (fs = [] → od ≠ none) ∧ RNs K F φ gs acc ∧ IniEnd K F φ a A H1 (De.nx σ) (mkX ds fs acc st)
section
variable {X : Cx} {C : Ctx}
structure IniX (X : Cx) (C : Ctx) (A : Addr) (fs : List (Str × FE)) : Prop where
  N : X.N = C.N
  sc : X.env.scope = C.sc
  bl : ∀ x, x ∈ C.bl → X.mg x = none
  ox : OexC X.K A
  no : ∀ f fe, (f, fe) ∈ fs → PySem.W.findIn X.K (.ref A) f = some none
theorem pe_slot (hN : X.N = C.N) (hs : X.env.scope = C.sc) {i : Nat} {x : Str} {pos : Pos} (h1 : C.slot i x = true) (h2 : C.isVis x = true) : PE X (.Name x pos) (tVar i) := by
  obtain ⟨g1, g2⟩ := slot_of h1
  obtain ⟨d1, d2, _⟩ := okName_of g1
  exact pe_var (i := i) (by rw [hN]; exact g2) (by rw [hs]; exact vis_of h2) d1 d2
/-- one field is stored -/
theorem ini_put {A : Addr} {f : Str} {σ : L2.St} {H H1 F : Hp} {φ : List Addr} {st : Store} {a : Addr} {od : Option Addr} {gs : List (Str × V)} {y : V} {De : Ends} (T : OexC X.K A) (hno : PySem.W.findIn X.K (.ref A) f = some none) (S : SR X.K F φ st H) (J : InitSt F φ H a A od gs H1) (hg : gs.length ≤ 100)
    (k : ∀ H2 d, SR X.K F φ st H2 → InitSt F φ H2 a A (some d) ((f, y) :: gs) H1 → De.nx σ H2) :
    ∃ a' A' : Addr, V.ref a = .ref a' ∧ OexC X.K A' ∧ PySem.W.findIn X.K (.ref A') f = some none ∧
      ((H a' = some (exo a' A' none) ∧ ∀ dx, H dx = none → dx ≠ a' → De.nx σ (upd (upd H dx (exd dx [(f, y)])) a' (exo a' A' (some dx)))) ∨
        ∃ (dx : Addr) (fs : List (Str × V)), H a' = some (exo a' A' (some dx)) ∧ H dx = some (exd dx fs) ∧ fs.length ≤ 900 ∧ De.nx σ (upd H dx (exd dx ((f, y) :: fs)))) := by
  obtain ⟨j1, j2, j3, j4⟩ := J
  refine ⟨a, A, rfl, T, hno, ?_⟩
  cases od with
  | none =>
    obtain ⟨rfl, j5⟩ := j4
    refine .inl ⟨j5, fun dx hdx hne => ?_⟩
    have hFd : F dx = none := Evl.fresh_back S.sub hdx
    have hφd : dx ∉ φ := fun z => S.dom z hdx
    refine k _ dx ((S.over hFd hφd).over j1 j2) ⟨j1, j2, fun b hb => ?_, by rw [upd_same], by rw [upd_ne hne, upd_same], j3 dx hdx, hFd, hφd, hne⟩
    have hba : b ≠ a := fun z => by subst z; rw [upd_same] at hb; cases hb
    rw [upd_ne hba] at hb
    have hbd : b ≠ dx := fun z => by subst z; rw [upd_same] at hb; cases hb
    rw [upd_ne hbd] at hb
    exact j3 b hb
  | some d =>
    obtain ⟨j5, j6, j7, j8, j9, j10⟩ := j4
    have hne : a ≠ d := j10.symm
    refine .inr ⟨d, gs, j5, j6, by omega, k _ d (S.over j8 j9) ⟨j1, j2, fun b hb => ?_, by rw [upd_ne hne]; exact j5, by rw [upd_same], j7, j8, j9, j10⟩⟩
    have hbd : b ≠ d := fun z => by subst z; rw [upd_same] at hb; cases hb
    rw [upd_ne hbd] at hb
    exact j3 b hb
theorem InitSt.of_ext {F F' : Hp} {φ φ' : List Addr} {H H' H1 : Hp} {a A : Addr} {od : Option Addr} {gs : List (Str × V)} (J : InitSt F φ H a A od gs H1) (hF : F' a = none) (hφ : a ∉ φ') (hH : ∀ b, H b ≠ none → H' b = H b) (hFd : ∀ d, od = some d → F' d = none ∧ d ∉ φ') : InitSt F' φ' H' a A od gs H1 := by
  obtain ⟨j1, j2, j3, j4⟩ := J
  refine ⟨hF, hφ, fun b hb => j3 b ?_, ?_⟩
  · cases hq : H b with
    | none => rfl
    | some o => rw [hH b (by rw [hq]; simp), hq] at hb; cases hb
  · cases od with
    | none => exact ⟨j4.1, by rw [hH a (by rw [j4.2]; simp)]; exact j4.2⟩
    | some d =>
      obtain ⟨j5, j6, j7, _, _, j10⟩ := j4
      exact ⟨by rw [hH a (by rw [j5]; simp)]; exact j5, by rw [hH d (by rw [j6]; simp)]; exact j6, j7, (hFd d rfl).1, (hFd d rfl).2, j10⟩
theorem ini_ok {A : Addr} : ∀ {fs : List (Str × FE)} {ss : List Stmt}, IniX X C A fs → chkF C fs ss = true → PSs X ss (rIni X.K A fs)
  | [], [], w, h => PSs.imp pss_nil fun De σ H hq => by
    obtain ⟨ds, st, F, φ, a, od, gs, acc, H1, S, h0, hp, J, hg, hne, hr, hk⟩ := hq
    cases od with
    | none => exact absurd rfl (hne rfl)
    | some d =>
      obtain ⟨j1, j2, j3, j5, j6, j7, j8, j9, _⟩ := J
      exact hk F φ H d gs Ext.refl S j5 j6 j7 j8 j9 j1 j2 hr
  | (f, fe) :: r, s :: ss, w, h => by
    unfold chkF at h
    split at h
    · rename_i e1 e2; cases e1
    · rename_i f' fe' r' sn q g p' v pos ss' e1 e2
      cases e1
      cases e2
      simp only [Bool.and_eq_true, decide_eq_true_eq] at h
      obtain ⟨⟨⟨⟨rfl, h1⟩, h2⟩, h3⟩, h4⟩ := h
      have ih := ini_ok (A := A) (fs := r) (ss := ss) ⟨w.N, w.sc, w.bl, w.ox, fun f fe hm => w.no f fe (List.mem_cons_of_mem _ hm)⟩ h4
      have ho : PE X (.Name sn q) (tVar 0) := pe_slot w.N w.sc h1 h2
      have hno := w.no f fe List.mem_cons_self
      unfold chkFv at h3
      split at h3
      · rename_i i y q2
        simp only [Bool.and_eq_true] at h3
        refine PSs.imp (pss_cons (ps_ost (f := f) ho (pe_slot (i := i + 1) w.N w.sc h3.1 h3.2)) ih) fun De σ H hq => ?_
        obtain ⟨ds, st, F, φ, a, od, gs, acc, H1, S, h0, hp, J, hg, hne, hr, hk⟩ := hq
        simp only [mkX] at hk
        split at hk
        · rename_i d hd
          obtain ⟨y, hy1, hy2⟩ := hp i d hd
          refine ⟨y, hy1, .ref a, h0, ini_put w.ox hno S J (by simp only [List.length_cons] at hg; omega) fun H2 dx S2 J2 => ?_⟩
          exact ⟨ds, st, F, φ, a, some dx, _, (f, d) :: acc, H1, S2, h0, hp, J2, by simp only [List.length_cons] at hg ⊢; omega, (fun _ z => nomatch z), .cons ⟨rfl, hy2⟩ hr, hk⟩
        · exact hk.elim
      · rename_i i l q2 y q3 q4
        simp only [Bool.and_eq_true, decide_eq_true_eq] at h3
        obtain ⟨⟨⟨rfl, h5⟩, h6⟩, h7⟩ := h3
        unfold Ctx.isBl Ctx.isGl at h5
        simp only [Bool.and_eq_true, decide_eq_true_eq] at h5
        obtain ⟨⟨g1, g2⟩, g3⟩ := h5
        obtain ⟨d1, _, d3⟩ := okName_of g1
        have hcl : PE X (.Call (.Name "list" q2) [.Name y q3] [] q4) _ := pe_callTy call_list_of (show X.env.scope.names.lookup _ = _ by rw [w.sc]; exact g2) (w.bl _ (by simpa using g3)) boot_list' (pa_cons (pe_slot (i := i + 1) w.N w.sc h6 h7) pa_nil (star1 rfl)) d3 d1 (star1 rfl)
        refine PSs.imp (pss_cons (ps_ost (f := f) ho hcl) ih) fun De σ H hq => ?_
        obtain ⟨ds, st, F, φ, a, od, gs, acc, H1, S, h0, hp, J, hg, hne, hr, hk⟩ := hq
        simp only [mkX] at hk
        split at hk
        · rename_i d hd
          obtain ⟨y, hy1, hy2⟩ := hp i d hd
          have go : ∀ (l0 : Addr) (vs : List V) (xs : List D), y = .ref l0 → (SqL X.K H l0 vs ∨ SqT X.K H l0 vs) → RDs X.K F φ vs xs → IniEnd X.K F φ a A H1 (De.nx σ) (mkX ds r ((f, .c st.length) :: acc) (st ++ [.lst xs])) →
              tOst X.K f (tVar 0) (fun σ H Q => tCons (tVar (i + 1)) tNil σ H fun xs H1 => ∃ p ys, xs = [.ref p] ∧ (SqL X.K H1 p ys ∨ SqT X.K H1 p ys) ∧ ∀ l, H1 l = none → Q (.ref l) (upd H1 l (.lst ys))) { De with nx := rIni X.K A r De } σ H := fun l0 vs xs ey hs hrx hk => by
            refine ⟨y, hy1, l0, vs, by rw [ey], hs, fun l hl => ?_⟩
            obtain ⟨S1, e1, ha1⟩ := S.newCell hl hrx
            have hHl : ∀ b, H b ≠ none → upd H l (.lst vs) b = H b := fun b hb => upd_ne (fun z => by subst z; exact hb hl)
            have notl : ∀ b, H b ≠ none → b ∉ φ → b ∉ φ ++ [l] := fun b hb hn hm => by
              rcases List.mem_append.mp hm with hm | hm
              · exact hn hm
              · rw [List.mem_singleton.mp hm] at hb; exact hb hl
            have ha0 : H a ≠ none := by
              obtain ⟨_, _, _, j4⟩ := J
              cases od with
              | none => rw [j4.2]; simp
              | some d => rw [j4.1]; simp
            have J1 : InitSt F (φ ++ [l]) (upd H l (.lst vs)) a A od gs H1 := J.of_ext J.1 (notl a ha0 J.2.1) hHl fun d hd' => by
              subst hd'
              obtain ⟨_, _, _, _, j6, _, j8, j9, _⟩ := J
              exact ⟨j8, notl d (by rw [j6]; simp) j9⟩
            refine ⟨.ref a, h0, ini_put w.ox hno S1 J1 (by simp only [List.length_cons] at hg; omega) fun H2 dx S2 J2 => ?_⟩
            refine ⟨ds, _, F, _, a, some dx, _, (f, .c st.length) :: acc, H1, S2, h0, fun j d hd => ?_, J2, by simp only [List.length_cons] at hg ⊢; omega, (fun _ z => nomatch z), .cons ⟨rfl, show RD X.K _ _ _ (.c _) from ⟨l, ha1, rfl⟩⟩ (RNs.mono e1 hr), IniEnd.ext e1 hk⟩
            obtain ⟨v, k1, k2⟩ := hp j d hd
            exact ⟨v, k1, k2.mono e1⟩
          unfold listD0 at hk
          split at hk
          · rename_i xs
            obtain ⟨l0, vs, e0, hl0, _, r1⟩ := tup_ok S hy2
            exact go l0 vs _ e0 (.inr hl0) r1 hk
          · split at hk
            · rename_i xs e3
              obtain ⟨l0, vs, e0, hl0, r1⟩ := items_ok S hy2 e3
              exact go l0 vs _ e0 (.inl hl0) r1 hk
            · exact hk.elim
        · exact hk.elim
      · cases h3
    · cases h
  | [], _ :: _, w, h => by simp [chkF] at h
  | _ :: _, [], w, h => by simp [chkF] at h
end
theorem start_at {N : List Str} {vs : List V} {i : Nat} {v : V} (h : vs[i]? = some v) : (L2.start N vs)[i]? = some (some v) := by
  unfold L2.start
  have hl := (List.getElem?_eq_some_iff.mp h).1
  rw [List.getElem?_append_left (by simpa using hl), List.getElem?_map, h]
  rfl
/-- an exception's own __init__ keeps what it promises -/
theorem initFn {P : Program} {w : World} {K : PySem.W.Frag} {mg : Str → Option Value} {base : Heap} {C : Ctx} {A CB fI : Addr} {B qual : Str} {np : Nat} {fs : List (Str × FE)} {st : Stmt} {fd : FuncData} (F : Fun K "__init__" qual st fI fd)
    (S : FnScope C.N (C.N.take (np + 1)) (defScope st)) (hl : (C.N.take (np + 1)).length = np + 1) (hsc : C.sc = defScope st) (hc : chkI C B fs (defBody st) = true) (ox : OexC K A) (no : ∀ f fe, (f, fe) ∈ fs → PySem.W.findIn K (.ref A) f = some none)
    (hB : mg B = some (.ref CB)) (hr : ClX.CRead K CB (.type "type")) (hv : PySem.W.findCls K (.ref CB) (.type "type") "__init__" = some (.val (.builtin "ValueError.__init__"))) (hbl : ∀ x, x ∈ C.bl → mg x = none) :
    FnOk P w K mg base (L2.CX P w) 1 fI fd (C.N.take (np + 1)) (spInit K A np fs) := by
  refine F.okX S (fun vs H Q E h => ?_) (fun cdv A0 outer s H vs Q E hro h => ?_)
  · obtain ⟨a, ws, ds, st, F', φ, rfl, e, _⟩ := h
    rw [List.length_cons, e, hl]
  · obtain ⟨a, ws, ds, stt, F', φ, rfl, e, h1, h2, h3, S', r, hk⟩ := h
    unfold chkI at hc
    split at hc
    · rename_i b q1 m p2 sn q2 mm q3 q4 pos q5 rest heq
      simp only [Bool.and_eq_true, decide_eq_true_eq, Bool.not_eq_true'] at hc
      obtain ⟨⟨⟨⟨⟨⟨⟨⟨rfl, c1⟩, rfl⟩, c2⟩, c3⟩, c4⟩, c5⟩, c6⟩, c7⟩ := hc
      rw [heq]
      unfold Ctx.isGl at c1
      simp only [Bool.and_eq_true, decide_eq_true_eq] at c1
      obtain ⟨d1, _, _⟩ := okName_of c1.1
      have hgl : Gl (cxOf (L2.CX P w) P w K mg base C.N qual (defScope st) fI cdv A0 outer s H E) b := by
        show (defScope st).names.lookup b = _
        rw [← hsc]; exact c1.2
      have hself : PE (cxOf (L2.CX P w) P w K mg base C.N qual (defScope st) fI cdv A0 outer s H E) (.Name sn q2) (tVar 0) := pe_slot (C := C) rfl hsc.symm c3 c4
      refine ⟨_, pss_cons (ps_expr (pe_cinit hgl hB d1 hr hv (pa_cons hself (pa_cons pe_str pa_nil (star1 rfl)) (star1 rfl)) (star1 rfl) rfl c2 (by simp)) rfl) (ini_ok (A := A) ⟨rfl, hsc.symm, hbl, ox, no⟩ c7), ?_⟩
      refine ⟨.ref a, start_at rfl, a, A, [.str mm], rfl, by simp, ox, h1, ?_⟩
      refine ⟨ds, stt, F', φ, a, none, [], [], H, S', start_at rfl, fun i d hd => ?_, ⟨h2, h3, fun b hb => hb, rfl, h1⟩, by simp; omega, fun z => ?_, .nil, ?_⟩
      · obtain ⟨v, g1, g2⟩ := rds_get r hd
        exact ⟨v, start_at (by simpa using g1), g2⟩
      · subst z; cases c5
      · revert hk
        cases mkX ds fs [] stt with
        | ok xs st' => exact fun hk F2 φ2 H2 d gs x y z1 z2 z3 z4 z5 z6 z7 z8 => hk F2 φ2 H2 d gs x y z1 z2 z3 z4 z5 z6 z7 z8
        | ex c st' => exact id
        | bad => exact id
    · cases hc
/-! clauses, with names and without -/
/-- the ends behind a clause's suite: its name is gone -/
def unEnds (oi : Option Nat) (De : Ends) : Ends :=
  match oi with
  | none => De
  | some i => { nx := fun σ' H' => De.nx (σ'.set i none) H', rt := De.rt, bk := fun σ' H' => De.bk (σ'.set i none) H', ct := fun σ' H' => De.ct (σ'.set i none) H' }
def inSlot (oi : Option Nat) (a : Addr) (σ : L2.St) : L2.St :=
  match oi with
  | none => σ
  | some i => σ.set i (some (.ref a))
abbrev Cl := Value × Option Nat × (Addr → Value → Option Addr → TS)
def wMix (K : PySem.W.Frag) (Wo : WX) (De : Ends) : List Cl → WX
  | [] => Wo
  | (c, oi, ts) :: r => fun cls d σ H => ∃ b, PySem.W.exmOne K cls c = some b ∧ (b = true → ∀ a, H a = none → ts a cls d (unEnds oi De) (inSlot oi a σ) H) ∧ (b = false → wMix K Wo De r cls d σ H)
inductive ClsOk (X : Cx) : List ExceptHandler → List Cl → Prop
  | nil : ClsOk X [] []
  | bare {x : Str} {c : Value} {ts : Addr → Value → Option Addr → TS} {s0 : Stmt} {sr : List Stmt} {q1 q2 : Pos} {hds : List ExceptHandler} {l : List Cl} (hc : Names X x c)
      (hsu : ∀ (a : Addr) (oe : Obj) (cls : Value) (d : Option Addr) (pn : List (Addr × Obj)), Zc cls d oe → (∃ vs, oe.data = .fields vs) → PSs (X.suite a ((a, oe) :: pn)) (s0 :: sr) (ts a cls d)) (r : ClsOk X hds l) :
      ClsOk X (.ExceptHandler (some (.Name x q1)) none (s0 :: sr) q2 :: hds) ((c, none, ts) :: l)
  | named {x n : Str} {i : Nat} {c : Value} {ts : Addr → Value → Option Addr → TS} {s0 : Stmt} {sr : List Stmt} {q1 q2 : Pos} {hds : List ExceptHandler} {l : List Cl} (hc : Names X x c) (hi : X.N[i]? = some n) (hln : X.env.kindOf n = some .local)
      (hsu : ∀ (a : Addr) (oe : Obj) (cls : Value) (d : Option Addr) (pn : List (Addr × Obj)), Zc cls d oe → (∃ vs, oe.data = .fields vs) → PSs (X.suite a ((a, oe) :: pn)) (s0 :: sr) (ts a cls d)) (r : ClsOk X hds l) :
      ClsOk X (.ExceptHandler (some (.Name x q1)) (some n) (s0 :: sr) q2 :: hds) ((c, some i, ts) :: l)
section
variable {X : Cx} {body : List Stmt} {h0 : ExceptHandler} {hds : List ExceptHandler} {l : List Cl} {pos : Pos} {tb : WX → TS} {Wo : WX}
theorem ps_try_mix (hstk : X.stack = X.env :: X.outer) (hfrm : X.env.frame = some X.env.locals) (hN : X.N.Nodup) (tk : Takes X Wo)
    (hb : ∀ (W : WX) (pn : List (Addr × Obj)) (xe : Value → Shared → Prop), Takes (X.tr pn xe) W → PassesOwn (model X.prog X.w) X.A X.env xe → PSs (X.tr pn xe) body (tb W))
    (hh : ClsOk X (h0 :: hds) l) : PS X (.Try body (h0 :: hds) [] [] pos) (fun De σ H => tb (wMix X.K Wo De l) De σ H) := by
  refine ⟨fun pins s σ H De I hq0 => ?_⟩
  have okX := I.ok
  have frm : X.A.frames = some (X.env :: X.outer) := by rw [okX.frames, hstk]
  refine wpAny_Try_except ?_
  have hbody := hb (wMix X.K Wo De l) (X.pn ++ pins) (fun ex s₁ => wpAny (model X.prog X.w) X.A (noteFrame ex X.env) (fun _ s₂ => wpAny (model X.prog X.w) X.A (setFlight ex none) (fun _ s₃ => wpAny (model X.prog X.w) X.A (handleBy ex X.env (h0 :: hds)) (SP X pins De) X.xe s₃) X.xe s₂) X.xe s₁) (fun u s' flown => ?_) PassesOwn.looking
  · refine wpAny_mono (hbody.run [] s σ H De (I.toTry _) hq0) (fun fl s1 hfl => ?_) (fun _ _ z => z)
    cases fl with
    | next => exact let ⟨σ', H', J', q⟩ := hfl; wpAny_execs_nil ⟨σ', H', J'.ofTry okX, q⟩
    | brk => exact let ⟨σ', H', J', q⟩ := hfl; ⟨σ', H', J'.ofTry okX, q⟩
    | cont => exact let ⟨σ', H', J', q⟩ := hfl; ⟨σ', H', J'.ofTry okX, q⟩
    | ret u => exact let ⟨v, σ', H', J', rv, q⟩ := hfl; ⟨v, σ', H', J'.ofTry okX, rv, q⟩
  · obtain ⟨a, Bs, sI, pins', σ', H', cls, d, rfl, J0, nb, up, sky, na, eos, ag, want⟩ := flown
    have J : Inv X pins σ' H' sI := J0.ofTry okX
    have sky1 : Sky Bs (X.env :: X.outer) a (Zc cls d) X.env.locals s'.heap := by rw [← hstk]; exact sky
    show wpAny (model X.prog X.w) X.A (noteFrame (.ref a) X.env) _ _ _
    refine Sky.land Zc.steady frm hfrm sky1 fun g3 fly3 up3 => ?_
    have J3 : Inv X pins σ' H' { s' with heap := g3 } := J.landed nb fly3.1 (up.trans up3) eos ag
    obtain ⟨oe3, vs3, eget3, ezc3, edat3⟩ := fly3.there
    have away : ∀ {g : Heap} {ob : Obj} {vs : Array Value}, g.FunFrames Bs (X.env :: X.outer) → g.get? a = some ob → ob.data = .fields vs → a ∉ frs (X.env :: X.outer) := fun {g ob vs} ff e dd hm => by
      obtain ⟨_, ob', e', hnf⟩ := ff.mem hm
      rw [e] at e'
      cases e'
      exact hnf _ dd
    have nfr := away fly3.2.2.1 eget3 edat3
    have nL : a ≠ X.env.locals := fun z => nfr (List.mem_filterMap.mpr ⟨X.env, List.mem_cons_self, by rw [hfrm, z]⟩)
    have nF : a ∉ X.fs := fun hm => by
      obtain ⟨ev, hev, q⟩ := List.mem_filterMap.mp hm
      exact nfr (List.mem_filterMap.mpr ⟨ev, List.mem_cons_of_mem _ hev, q⟩)
    have S3 := J3.suite eget3 edat3 na nL nF
    have test : ∀ {x : Str} {c : Value} {q1 : Pos} {Q : Value → Shared → Prop} {E : Value → Shared → Prop}, Names X x c → Q c { s' with heap := g3 } → wpAny (model X.prog X.w) (X.A.mark (some (.ref a))) (eval (.Name x q1) X.env) Q E { s' with heap := g3 } := fun {x c q1 Q E} hc q => by
      obtain ⟨hg, hdbg, hm | ⟨hm, hv, hnn⟩⟩ := hc
      · exact ld_glob (X := X.suite a ((a, oe3) :: (X.pn ++ pins))) S3 hg hm q hdbg
      · exact ld_blt (X := X.suite a ((a, oe3) :: (X.pn ++ pins))) S3 hg hm hv q hnn hdbg
    have LT : PySem.W.Looks (model X.prog X.w) g3 (typeOf (.ref a)) cls := fun A Q E t k q => wpAny_typeOf_ref (k _ _ eget3) (by rw [ezc3.1]; exact q)
    have go : ∀ {hs2 : List ExceptHandler} {l2 : List Cl}, ClsOk X hs2 l2 → wMix X.K Wo De l2 cls d σ' H' → wpAny (model X.prog X.w) X.A (handleBy (.ref a) X.env hs2) (SP X pins De) X.xe { s' with heap := g3 } := by
      intro hs2 l2 hk
      induction hk with
      | nil =>
        intro wish
        refine wpAny_handleBy_nil ?_
        obtain ⟨k1, k2, k3, oe, vs, T, oT, ts', eg, ez, ed, e1, hr⟩ := id fly3
        unfold PySem.passOn
        refine wpAny_bind (wpAny_field eg ed e1 ?_)
        rw [if_neg (show ¬ ((Value.ref T == Value.none) = true) from by simp)]
        have fin : wpAny (model X.prog X.w) X.A (setFlight (.ref a) X.env.frame) (fun _ s4 => wpAny (model X.prog X.w) X.A (throw (.ref a) : Sem Flow) (SP X pins De) X.xe s4) X.xe { s' with heap := g3 } := by
          rw [hfrm]
          refine HandSPX.setFlight_upZ fly3 fun g4 hh4 up4 => wpAny_throw (tk _ _ ⟨a, Bs, sI, pins, σ', H', cls, d, rfl, J, nb, (up.trans up3).trans up4, .inr (.inr (by rw [hstk]; exact hh4)), na, eos, ag, wish⟩)
        first
          | exact wpAny_bind (wpAny_pure (wpAny_bind fin))
          | exact wpAny_bind fin
      | @bare x c ts s0 sr q1 q2 hs3 l3 hc hsu r ih =>
        intro wish
        obtain ⟨b, hb1, hyes, hno⟩ := wish
        refine wpAny_handleBy_cons (codeAny_handlers_test ?_) (by intro q; cases q)
        refine test hc ((PySem.W.exm_one (M := model X.prog X.w) J3.kIn LT hb1).here ?_)
        cases b with
        | true =>
          refine codeAny_handlers_suite ?_
          refine HandSPX.lands_againZ fly3 fun g4 fly4 up4 => ?_
          have J4 : Inv X pins σ' H' { s' with heap := g4 } := J.landed nb fly4.1 ((up.trans up3).trans up4) eos ag
          obtain ⟨oe4, vs4, eget4, ezc4, edat4⟩ := fly4.there
          refine wpAny_mono ((hsu a oe4 cls d (X.pn ++ pins) ezc4 ⟨_, edat4⟩).run [] _ _ H' _ (J4.suite eget4 edat4 na nL nF) (hyes rfl a na)) (fun fl s6 hfl => ?_) (fun _ _ z => False.elim z)
          cases fl with
          | next => exact let ⟨σ6, H6, S6, q6⟩ := hfl; ⟨σ6, H6, S6.unsuite okX, q6⟩
          | brk => exact let ⟨σ6, H6, S6, q6⟩ := hfl; ⟨σ6, H6, S6.unsuite okX, q6⟩
          | cont => exact let ⟨σ6, H6, S6, q6⟩ := hfl; ⟨σ6, H6, S6.unsuite okX, q6⟩
          | ret u => exact let ⟨v6, σ6, H6, S6, r6, q6⟩ := hfl; ⟨v6, σ6, H6, S6.unsuite okX, r6, q6⟩
        | false =>
          show wpAny _ X.A (handleBy (.ref a) X.env hs3) _ _ _
          exact ih (hno rfl)
      | @named x n i c ts s0 sr q1 q2 hs3 l3 hc hi hln hsu r ih =>
        intro wish
        obtain ⟨b, hb1, hyes, hno⟩ := wish
        refine wpAny_handleBy_cons (codeAny_handlers_test ?_) (by intro q; cases q)
        refine test hc ((PySem.W.exm_one (M := model X.prog X.w) J3.kIn LT hb1).here ?_)
        cases b with
        | true =>
          refine codeAny_handlers_suite_as ?_
          refine HandSPX.lands_againZ fly3 fun g4 fly4 up4 => ?_
          have J4 : Inv X pins σ' H' { s' with heap := g4 } := J.landed nb fly4.1 ((up.trans up3).trans up4) eos ag
          obtain ⟨oe4, vs4, eget4, ezc4, edat4⟩ := fly4.there
          have S4 := J4.suite eget4 edat4 na nL nF
          refine store_ok (X := X.suite a ((a, oe4) :: (X.pn ++ pins))) (v := .ref a) S4 hN hi (.inl hln) rfl (fun s5 S5 => ?_) (.inr hln)
          refine wpAny_mono ((hsu a oe4 cls d (X.pn ++ pins) ezc4 ⟨_, edat4⟩).run [] s5 _ H' _ S5 (hyes rfl a na)) (fun fl s6 hfl => ?_) (fun _ _ z => False.elim z)
          have gone : ∀ {σ6 : L2.St} {H6 : Hp} {Q : Shared → Prop}, Inv (X.suite a ((a, oe4) :: (X.pn ++ pins))) [] σ6 H6 s6 → (∀ s7, Inv X pins (σ6.set i none) H6 s7 → Q s7) →
              wpAny (model X.prog X.w) X.A (do bindName X.env n .none; unbindBehindTheSuite X.env n q2) (fun _ s7 => Q s7) X.xe s6 := fun {σ6 H6 Q} S6 hq => gone_ok (S6.unsuite okX) hN hi hln hq
          cases fl with
          | next => exact let ⟨σ6, H6, S6, q6⟩ := hfl; gone S6 fun s7 J7 => ⟨_, _, J7, q6⟩
          | brk => exact let ⟨σ6, H6, S6, q6⟩ := hfl; gone S6 fun s7 J7 => ⟨_, _, J7, q6⟩
          | cont => exact let ⟨σ6, H6, S6, q6⟩ := hfl; gone S6 fun s7 J7 => ⟨_, _, J7, q6⟩
          | ret u => exact let ⟨v6, σ6, H6, S6, r6, q6⟩ := hfl; gone S6 fun s7 J7 => ⟨_, _, _, J7, r6, q6⟩
        | false =>
          show wpAny _ X.A (handleBy (.ref a) X.env hs3) _ _ _
          exact ih (hno rfl)
    exact go hh want
end
end MP

set_option Elab.async false
set_option linter.all false
set_option autoImplicit false
set_option maxRecDepth 100000
set_option maxHeartbeats 2000000
/-! dicts that are walked: locked meanwhile -/
namespace MP
open PySem PySem.Spec PyProof.Rows L2
/-- the frozen part without a -/
def dl (F : Hp) (a : Addr) : Hp := fun b => if b = a then none else F b
theorem dl_ne {F : Hp} {a b : Addr} (h : b ≠ a) : dl F a b = F b := if_neg h
theorem dl_same {F : Hp} {a : Addr} : dl F a a = none := if_pos rfl
/-- a locked dict stands at a -/
def Lk (F : Hp) (a : Addr) : Prop := ∃ od, (∃ ws, F a = some (.frz od (.dK ws))) ∨ ∃ ws, F a = some (.frz od (.dT ws))
section
variable {K : PySem.W.Frag} {F H : Hp} {φ : List Addr} {st : Store} {a : Addr}
theorem sql_del (ha : Lk F a) {b : Addr} {vs : List V} (h : SqL K F b vs) : SqL K (dl F a) b vs := by
  rcases h with (h | ⟨o, h⟩) | h
  · refine .inl (.inl ?_)
    rw [dl_ne (fun z => by subst z; obtain ⟨od, ⟨ws, e⟩ | ⟨ws, e⟩⟩ := ha <;> (rw [e] at h; cases h))]
    exact h
  · refine .inl (.inr ⟨o, ?_⟩)
    rw [dl_ne (fun z => by subst z; obtain ⟨od, ⟨ws, e⟩ | ⟨ws, e⟩⟩ := ha <;> (rw [e] at h; cases h))]
    exact h
  · exact .inr h
mutual
theorem dp_del (ha : Lk F a) : ∀ {d : PyData} {v : V}, Dp K F v d → Dp K (dl F a) v d
  | .none, _, h => by cases h; exact .non
  | .bool b, _, h => by cases h; exact .bl b
  | .int i, _, h => by cases h; exact .int i
  | .str x, _, h => by cases h; exact .str x
  | .list ds, _, h => by cases h with | lst hs ha' => exact .lst (sql_del ha hs) (dpAll_del ha ha')
  | .tuple ds, _, h => by
    cases h with
    | tup hs ha' =>
      refine .tup ?_ (dpAll_del ha ha')
      rw [dl_ne (fun z => by subst z; obtain ⟨od, ⟨ws, e⟩ | ⟨ws, e⟩⟩ := ha <;> (rw [e] at hs; cases hs))]
      exact hs
  | .dict _, _, h => by cases h
theorem dpAll_del (ha : Lk F a) : ∀ {ds : List PyData} {vs : List V}, DpAll K F vs ds → DpAll K (dl F a) vs ds
  | [], _, h => by cases h; exact .nil
  | d :: ds, _, h => by cases h with | cons h1 h2 => exact .cons (dp_del ha h1) (dpAll_del ha h2)
end
theorem RD.del (ha : Lk F a) : ∀ {d : D} {v : V}, RD K F φ v d → RD K (dl F a) φ v d
  | .p x, _, h => dp_del ha h
  | .c n, _, h => h
  | .fn z, _, h => h
theorem RDs.del (ha : Lk F a) : ∀ {vs : List V} {ds : List D}, RDs K F φ vs ds → RDs K (dl F a) φ vs ds
  | _, _, .nil => .nil
  | _, _, .cons h t => .cons (RD.del ha h) (RDs.del ha t)
theorem RNs.del {α : Type} (ha : Lk F a) : ∀ {ws : List (α × V)} {kvs : List (α × D)}, RNs K F φ ws kvs → RNs K (dl F a) φ ws kvs
  | _, _, .nil => .nil
  | _, _, .cons h t => .cons ⟨h.1, RD.del ha h.2⟩ (RNs.del ha t)
theorem CR.del (ha : Lk F a) {c : Cell} {o : HO} (h : CR K F φ c o) : CR K (dl F a) φ c o := by
  cases h with
  | lst r => exact .lst (RDs.del ha r)
  | tup r => exact .tup (RDs.del ha r)
  | dct r => exact .dct (RNs.del ha r)
  | dtt r => exact .dtt (RNs.del ha r)
  | ins hc r => exact .ins hc (RNs.del ha r)
theorem OR.del (ha : Lk F a) {b : Addr} {c : Cell} (hb : b ≠ a) (h : OR K F φ b c) : OR K (dl F a) φ b c := by
  cases h with
  | dead h => exact .dead (by rw [dl_ne hb]; exact h)
  | lkd h r => exact .lkd (by rw [dl_ne hb]; exact h) (RNs.del ha r)
  | lkt h r => exact .lkt (by rw [dl_ne hb]; exact h) (RNs.del ha r)
  | @exo _ A d _ ws hc h hd r =>
    refine .exo hc (by rw [dl_ne hb]; exact h) ?_ (RNs.del ha r)
    rw [dl_ne fun z => ?_]
    · exact hd
    · subst z
      obtain ⟨od, ⟨ws', e⟩ | ⟨ws', e⟩⟩ := ha
      · have z' : HO.frz _ _ = HO.ext _ := Option.some.inj (e.symm.trans hd)
        cases z'
      · have z' : HO.frz _ _ = HO.ext _ := Option.some.inj (e.symm.trans hd)
        cases z'
  | exn hc h => exact .exn hc (by rw [dl_ne hb]; exact h)
theorem ER.del (ha : Lk F a) {env : Env} {σ : L2.St} (h : ER K F φ env σ) : ER K (dl F a) φ env σ := ⟨h.len, fun i d hi => let ⟨v, h1, h2⟩ := h.val i d hi; ⟨v, h1, RD.del ha h2⟩⟩
/-- a cell locked -/
theorem SR.lock (S : SR K F φ st H) {n : Nat} {c0 c : Cell} {u : HO} {od : Obj} (hn : st[n]? = some c0) (h0 : lv c0 = true) (ha : φ[n]? = some a) (hc : lv c = false) (ho : ∀ F1, Ext F φ F1 φ → F1 a = some (.frz od u) → OR K F1 φ a c) :
    SR K (upd F a (.frz od u)) φ (st.set n c) (upd H a (.frz od u)) ∧ Ext F φ (upd F a (.frz od u)) φ := by
  obtain ⟨a', o, e1, e2, e3, e4⟩ := S.live n c0 hn h0
  rw [ha] at e1
  cases Option.some.inj e1
  have hl : n < st.length := (List.getElem?_eq_some_iff.mp hn).1
  have ex : Ext F φ (upd F a (.frz od u)) φ := ⟨Evl.Ex.new e2, List.prefix_refl φ⟩
  have other : ∀ m b, m ≠ n → φ[m]? = some b → b ≠ a := fun m b hm hb z => by
    subst z
    exact hm (nodup_at S.nd hb ha)
  refine ⟨⟨fun b w e => ?_, by rw [List.length_set]; exact S.len, S.nd, fun m ds' e hd => ?_, fun m c' e hc' => ?_⟩, ex⟩
  · by_cases hb : b = a
    · subst hb; rw [upd_same] at e ⊢; exact e
    · rw [upd_ne hb] at e ⊢; exact S.sub b w e
  · by_cases hm : m = n
    · subst hm; rw [List.getElem?_set_self hl] at e; cases Option.some.inj e; rw [hc] at hd; cases hd
    · rw [List.getElem?_set_ne (Ne.symm hm)] at e
      obtain ⟨b, ws, h1, h2, h3, h4⟩ := S.live m ds' e hd
      exact ⟨b, ws, h1, by rw [upd_ne (other m b hm h1)]; exact h2, by rw [upd_ne (other m b hm h1)]; exact h3, h4.mono ex⟩
  · by_cases hm : m = n
    · subst hm
      rw [List.getElem?_set_self hl] at e
      cases Option.some.inj e
      exact ⟨a, ha, ho _ ex upd_same⟩
    · rw [List.getElem?_set_ne (Ne.symm hm)] at e
      obtain ⟨b, h1, h2⟩ := S.off m c' e hc'
      exact ⟨b, h1, h2.mono ex⟩
/-- .. and let go again -/
theorem SR.unlock (S : SR K F φ st H) (hk : Lk F a) {n : Nat} {c0 c : Cell} {u : HO} (hn : st[n]? = some c0) (ha : φ[n]? = some a) (hc : lv c = true) (hr : CR K (dl F a) φ c u) : SR K (dl F a) φ (st.set n c) (upd H a u) := by
  have hl : n < st.length := (List.getElem?_eq_some_iff.mp hn).1
  have other : ∀ m b, m ≠ n → φ[m]? = some b → b ≠ a := fun m b hm hb z => by
    subst z
    exact hm (nodup_at S.nd hb ha)
  refine ⟨fun b w e => ?_, by rw [List.length_set]; exact S.len, S.nd, fun m ds' e hd => ?_, fun m c' e hc' => ?_⟩
  · by_cases hb : b = a
    · subst hb; rw [dl_same] at e; cases e
    · rw [dl_ne hb] at e; rw [upd_ne hb]; exact S.sub b w e
  · by_cases hm : m = n
    · subst hm
      rw [List.getElem?_set_self hl] at e
      cases Option.some.inj e
      exact ⟨a, u, ha, dl_same, upd_same, hr⟩
    · rw [List.getElem?_set_ne (Ne.symm hm)] at e
      obtain ⟨b, ws, h1, h2, h3, h4⟩ := S.live m ds' e hd
      exact ⟨b, ws, h1, by rw [dl_ne (other m b hm h1)]; exact h2, by rw [upd_ne (other m b hm h1)]; exact h3, h4.del hk⟩
  · by_cases hm : m = n
    · subst hm; rw [List.getElem?_set_self hl] at e; cases Option.some.inj e; rw [hc] at hc'; cases hc'
    · rw [List.getElem?_set_ne (Ne.symm hm)] at e
      obtain ⟨b, h1, h2⟩ := S.off m c' e hc'
      exact ⟨b, h1, h2.del hk (other m b hm h1)⟩
theorem ext_dl {F' : Hp} {φ' : List Addr} (x : Ext F φ F' φ') (h : F a = none) : Ext F φ (dl F' a) φ' :=
  ⟨fun b u e => by rw [dl_ne (fun z => by subst z; rw [h] at e; cases e)]; exact x.sub b u e, x.pre⟩
end
/-! the meaning of a lock -/
open Classical in
noncomputable def unlkR (n : Nat) (c c' : Cell) (f : Fl) (st : Store) : R Fl := if st[n]? = some c then .ok f (st.set n c') else .bad
/-- the way from a variable to a dict -/
inductive Pst where
  | fld (f : Str)
  | key (z : Str)
  | kv (i : Nat)
  | ix (k : Nat)
def stepD (env : Env) (st : Store) (d : D) : Pst → Option D
  | .fld f => (insOf d st).bind fun q => valD q.2.2 f
  | .key z => (dictOf d st).bind fun kvs => valD kvs (.inr z)
  | .kv i => match env[i]? with
    | some (some (.p (.str z))) => (dictOf d st).bind fun kvs => valD kvs (.inr z)
    | _ => none
  | .ix k => (seqOf d st).bind fun xs => xs[k]?
def pathD (env : Env) (st : Store) : D → List Pst → Option D
  | d, [] => some d
  | d, p :: ps => (stepD env st d p).bind fun d => pathD env st d ps
def pathN (env : Env) (st : Store) (i : Nat) (ps : List Pst) : Option D :=
  match env[i]? with
  | some (some d) => pathD env st d ps
  | _ => none
noncomputable def lockR (i : Nat) (ps : List Pst) (env : Env) (st : Store) (k : Store → R Fl) : R Fl :=
  match pathN env st i ps with
  | some (.c n) => match st[n]? with
    | some (.dct kvs) => (noEx (k (st.set n (.lkd kvs)))).bind fun f st' => unlkR n (.lkd kvs) (.dct kvs) f st'
    | some (.dtt kvs) => (noEx (k (st.set n (.lkt kvs)))).bind fun f st' => unlkR n (.lkt kvs) (.dtt kvs) f st'
    | _ => .bad
  | _ => .bad
theorem qs_del {K : PySem.W.Frag} {F' H' H2 : Hp} {φ' : List Addr} {De : Ends} {a : Addr} {od : Obj} {u : HO} (hk : Lk F' a) (e : H' a = some (.frz od u)) (e2 : H2 = upd H' a u) : ∀ {f : Fl}, QS K De (dl F' a) φ' H2 f →
    QS K ⟨fun σ' H' => H' a = some (.frz od u) ∧ De.nx σ' (upd H' a u), fun v H' => H' a = some (.frz od u) ∧ De.rt v (upd H' a u), fun σ' H' => H' a = some (.frz od u) ∧ De.bk σ' (upd H' a u), fun σ' H' => H' a = some (.frz od u) ∧ De.ct σ' (upd H' a u)⟩ F' φ' H' f
  | .nx env, h => fun σ' r => ⟨e, e2 ▸ h σ' (r.del hk)⟩
  | .rt d, h => fun v r => ⟨e, e2 ▸ h v (r.del hk)⟩
  | .bk env, h => fun σ' r => ⟨e, e2 ▸ h σ' (r.del hk)⟩
  | .ct env, h => fun σ' r => ⟨e, e2 ▸ h σ' (r.del hk)⟩
theorem ok_lock {X : Cx} {XR : XRT} {E : XK} {py : Stmt} {m : Env → Store → R Fl} (i : Nat) (ps : List Pst) (h : PS X py (rS X.K XR (fun _ => E) m)) : PS X py (rS X.K XR (fun _ => E) fun env st => lockR i ps env st (m env)) := PS.imp (ps_lock h) fun De σ H hq => by
  obtain ⟨env, st, F, φ, S, r, hq⟩ := hq
  have hq : Sat X.K XR E (QS X.K De) F φ (lockR i ps env st (m env)) := hq
  unfold lockR at hq
  split at hq
  · rename_i n e0
    split at hq
    · rename_i kvs e2
      obtain ⟨a, ws, h1, h2, h3, h4⟩ := S.dcell n kvs e2
      refine ⟨a, .dK ws, h3, trivial, fun od => ?_⟩
      obtain ⟨S1, x1⟩ := S.lock (c := .lkd kvs) (u := .dK ws) (od := od) e2 rfl h1 rfl fun F1 x e => .lkd e (RKs.mono x h4)
      refine ⟨env, _, _, φ, S1, r.mono x1, ?_⟩
      revert hq
      cases m env (st.set n (.lkd kvs)) with
      | bad => exact fun hq => hq.elim
      | ex c st' => exact fun hq => hq.elim
      | ok f st' =>
        intro hq F' φ' H' x S'
        have hq : Sat X.K XR E (QS X.K De) F φ (unlkR n (.lkd kvs) (.dct kvs) f st') := hq
        unfold unlkR at hq
        split at hq
        · rename_i e3
          have ha' : φ'[n]? = some a := x.at h1
          have hF' : F' a = some (.frz od (.dK ws)) := x.sub _ _ upd_same
          have hk : Lk F' a := ⟨od, .inl ⟨ws, hF'⟩⟩
          obtain ⟨b, q1, q2⟩ := S'.off n _ e3 rfl
          rw [ha'] at q1
          cases Option.some.inj q1
          cases q2 with
          | lkd q3 q4 =>
            rw [hF'] at q3
            cases q3
            exact qs_del hk (S'.sub _ _ hF') rfl (hq (dl F' a) φ' (upd H' a (.dK ws)) (ext_dl (x1.trans x) h2) (S'.unlock hk e3 ha' rfl (.dct (RNs.del hk q4))))
        · exact hq.elim
    · rename_i kvs e2
      obtain ⟨a, ws, h1, h2, h3, h4⟩ := S.ttcell n kvs e2
      refine ⟨a, .dT ws, h3, trivial, fun od => ?_⟩
      obtain ⟨S1, x1⟩ := S.lock (c := .lkt kvs) (u := .dT ws) (od := od) e2 rfl h1 rfl fun F1 x e => .lkt e (RNs.mono x h4)
      refine ⟨env, _, _, φ, S1, r.mono x1, ?_⟩
      revert hq
      cases m env (st.set n (.lkt kvs)) with
      | bad => exact fun hq => hq.elim
      | ex c st' => exact fun hq => hq.elim
      | ok f st' =>
        intro hq F' φ' H' x S'
        have hq : Sat X.K XR E (QS X.K De) F φ (unlkR n (.lkt kvs) (.dtt kvs) f st') := hq
        unfold unlkR at hq
        split at hq
        · rename_i e3
          have ha' : φ'[n]? = some a := x.at h1
          have hF' : F' a = some (.frz od (.dT ws)) := x.sub _ _ upd_same
          have hk : Lk F' a := ⟨od, .inr ⟨ws, hF'⟩⟩
          obtain ⟨b, q1, q2⟩ := S'.off n _ e3 rfl
          rw [ha'] at q1
          cases Option.some.inj q1
          cases q2 with
          | lkt q3 q4 =>
            rw [hF'] at q3
            cases q3
            exact qs_del hk (S'.sub _ _ hF') rfl (hq (dl F' a) φ' (upd H' a (.dT ws)) (ext_dl (x1.trans x) h2) (S'.unlock hk e3 ha' rfl (.dtt (RNs.del hk q4))))
        · exact hq.elim
    · exact hq.elim
  · exact hq.elim
end MP

set_option Elab.async false
set_option linter.all false
set_option autoImplicit false
set_option maxRecDepth 100000
set_option maxHeartbeats 2000000
/-! statements -/
namespace MP
open PySem PySem.Spec PyProof.Rows L2

/-! what a clause's suite says: constants, fields of the exception, displays of such -/
mutual
inductive SE where
  | lit (x : PyData)
  | fld (c f : Str)
  | lst (es : SEs)
  | tup (es : SEs)
inductive SEs where
  | nil
  | cons (e : SE) (r : SEs)
end
/-- the body of a try: nothing is stored ahead of what may raise -/
inductive TB where
  | nil
  | ex (e : ME)
  | set (t : MT) (e : ME)
  | exSet (e : ME) (t : MT) (q : ME)
  | ife (c : ME) (a b : TB)
/-- a clause: which classes it takes, its name's slot, slot = what -/
structure Hd where
  tb : List (Str × Bool)
  oi : Option Nat
  j : Nat
  e : SE
mutual
inductive MS where
  | setFld (o : ME) (f : Str) (cs : List Str) (e : ME)
  | raise (c : Str) (np : Nat) (fs : List (Str × FE)) (es : MEs)
  | tryS (b : TB) (hs : List Hd)
  | whl (n : Nat) (c : ME) (b : MSs)
  | lock (i : Nat) (ps : List MP.Pst) (s : MS)
  | set (t : MT) (e : ME)
  | setLc (i : Nat) (e : ME)
  | setIx (o i v : ME)
  | app (o e : ME)
  | ex (e : ME)
  | ret (e : ME)
  | retN
  | ife (c : ME) (a b : MSs)
  | loop (t : MT) (it : MI) (b : MSs)
  | pass
  | brk
  | cont
inductive MSs where
  | nil
  | cons (s : MS) (r : MSs)
end

/-! ### meaning -/
def thenR (r : R Fl) (k : Env → Store → R Fl) : R Fl :=
  match r with
  | .ok (.nx env) st => k env st
  | r => r
@[simp] theorem thenR_nx (env : Env) (st : Store) (k : Env → Store → R Fl) : thenR (.ok (.nx env) st) k = k env st := rfl
@[simp] theorem thenR_rt (d : D) (st : Store) (k : Env → Store → R Fl) : thenR (.ok (.rt d) st) k = .ok (.rt d) st := rfl
@[simp] theorem thenR_bk (env : Env) (st : Store) (k : Env → Store → R Fl) : thenR (.ok (.bk env) st) k = .ok (.bk env) st := rfl
@[simp] theorem thenR_ct (env : Env) (st : Store) (k : Env → Store → R Fl) : thenR (.ok (.ct env) st) k = .ok (.ct env) st := rfl
@[simp] theorem thenR_ex (e : Exc) (st : Store) (k : Env → Store → R Fl) : thenR (.ex e st) k = .ex e st := rfl
@[simp] theorem thenR_bad (k : Env → Store → R Fl) : thenR .bad k = .bad := rfl
/-- the turns of a loop -/
def nextR (r : R Fl) (k : Env → Store → R Fl) : R Fl :=
  match r with
  | .ok (.nx env) st => k env st
  | .ok (.ct env) st => k env st
  | .ok (.bk env) st => .ok (.nx env) st
  | r => r
@[simp] theorem nextR_nx (env : Env) (st : Store) (k : Env → Store → R Fl) : nextR (.ok (.nx env) st) k = k env st := rfl
@[simp] theorem nextR_ct (env : Env) (st : Store) (k : Env → Store → R Fl) : nextR (.ok (.ct env) st) k = k env st := rfl
@[simp] theorem nextR_rt (d : D) (st : Store) (k : Env → Store → R Fl) : nextR (.ok (.rt d) st) k = .ok (.rt d) st := rfl
@[simp] theorem nextR_bk (env : Env) (st : Store) (k : Env → Store → R Fl) : nextR (.ok (.bk env) st) k = .ok (.nx env) st := rfl
@[simp] theorem nextR_ex (e : Exc) (st : Store) (k : Env → Store → R Fl) : nextR (.ex e st) k = .ex e st := rfl
@[simp] theorem nextR_bad (k : Env → Store → R Fl) : nextR .bad k = .bad := rfl
open Classical in
noncomputable def forL (gd : Store → Prop) (tg : MT) (body : Env → Store → R Fl) : List Itm → Env → Store → R Fl
  | [], env, st => if gd st then .ok (.nx env) st else .bad
  | it :: r, env, st => if gd st then match bindI st tg it env with
      | none => .bad
      | some env1 => nextR (body env1 st) (forL gd tg body r)
    else .bad
def setIxD (o i x : D) (env : Env) (st : Store) : R Fl :=
  match o with
  | .c n => match st[n]? with
    | some (.lst ds) => match i with
      | .p (.int k) => match ixN ds.length k with
        | some j => .ok (.nx env) (st.set n (.lst (ds.set j x)))
        | none => .bad
      | _ => .bad
    | some (.dct kvs) => match keyOf i with
      | some k => if kvs.length < SZ then .ok (.nx env) (st.set n (.dct (putD kvs k x))) else .bad
      | none => .bad
    | some (.dtt kvs) => match keyT i with
      | some k => if kvs.length < SZ then .ok (.nx env) (st.set n (.dtt (putD kvs k x))) else .bad
      | none => .bad
    | _ => .bad
  | _ => .bad
def putFD (f : Str) (x : D) : List (Str × D) → List (Str × D)
  | [] => [(f, x)]
  | (g, y) :: r => if g = f then (g, x) :: r else (g, y) :: putFD f x r
def setFldD (f : Str) (cs : List Str) (o x : D) (env : Env) (st : Store) : R Fl :=
  match insOf o st with
  | some (n, c, fs) => if fs.length < 100 ∧ cs.contains c = true then .ok (.nx env) (st.set n (.ins c (putFD f x fs))) else .bad
  | none => .bad
mutual
def seE (x : Exc) : SE → Store → R D
  | .lit v, st => .ok (.p v) st
  | .fld c f, st => if x.cls = c then match x.fs.lookup f with
    | some d => .ok d st
    | none => .bad
    else .bad
  | .lst es, st => (seEs x es st).bind fun ds st => if ds.length ≤ SZ then mkL false ds st else .bad
  | .tup es, st => (seEs x es st).bind fun ds st => if ds.length ≤ SZ then mkT ds st else .bad
def seEs (x : Exc) : SEs → Store → R (List D)
  | .nil, st => .ok [] st
  | .cons e r, st => (seE x e st).bind fun d st => (seEs x r st).bind fun ds st => .ok (d :: ds) st
end
def outE (oi : Option Nat) (env : Env) : Env :=
  match oi with
  | none => env
  | some i => env.set i none
def hdOk (oi : Option Nat) (env : Env) : Bool :=
  match oi with
  | none => true
  | some i => decide (i < env.length)
def hdL : List Hd → Exc → Env → Store → R Fl
  | [], x, _, st => .ex x st
  | h :: r, x, env, st => match valN h.tb x.cls with
    | none => .bad
    | some false => hdL r x env st
    | some true => if hdOk h.oi env = true then (noEx (seE x h.e st)).bind fun d st => .ok (.nx (outE h.oi ((outE h.oi env).set h.j (some d)))) st else .bad
def catchR (r : R Fl) (k : Exc → Store → R Fl) : R Fl :=
  match r with
  | .ex x st => k x st
  | r => r
noncomputable def tbv (G : Sem1) : TB → Env → Store → R Fl
  | .nil, env, st => .ok (.nx env) st
  | .ex e, env, st => (ev G e env st).bind fun _ st => .ok (.nx env) st
  | .set t e, env, st => (ev G e env st).bind fun d st => match bindD st t d env with
    | some env => .ok (.nx env) st
    | none => .bad
  | .exSet e t q, env, st => (ev G e env st).bind fun _ st => (noEx (ev G q env st)).bind fun d st => match bindD st t d env with
    | some env => .ok (.nx env) st
    | none => .bad
  | .ife c a b, env, st => (truR (ev G c env st)).bind fun k st => if k = true then tbv G a env st else tbv G b env st
/-- the turns of a while, at most n -/
def whlL (c : Env → Store → R Bool) (body : Env → Store → R Fl) : Nat → Env → Store → R Fl
  | 0, _, _ => .bad
  | n + 1, env, st => (c env st).bind fun k st => if k = true then nextR (body env st) (whlL c body n) else .ok (.nx env) st
mutual
noncomputable def sv (G : Sem1) : MS → Env → Store → R Fl
  | .set t e, env, st => (ev G e env st).bind fun d st => match bindD st t d env with
    | some env => .ok (.nx env) st
    | none => .bad
  | .setLc i e, env, st => (ev G e env st).bind fun d st => .ok (.nx (env.set i (some d))) st
  | .setIx o i v, env, st => (ev G v env st).bind fun x st => (ev G o env st).bind fun o st => (ev G i env st).bind fun i st => setIxD o i x env st
  | .app o e, env, st => (ev G o env st).bind fun o st => match o with
    | .c n => match cellL st n with
      | some _ => (ev G e env st).bind fun x st => match cellL st n with
        | some ds => if ds.length < SZ then .ok (.nx env) (st.set n (.lst (ds ++ [x]))) else .bad
        | none => .bad
      | none => .bad
    | _ => .bad
  | .setFld o f cs e, env, st => (ev G e env st).bind fun x st => (ev G o env st).bind fun o st => setFldD f cs o x env st
  | .raise c np fs es, env, st => (evs G es env st).bind fun ds st => if ds.length = np then (mkX ds fs [] st).bind fun xs st => .ex ⟨c, xs⟩ st else .bad
  | .tryS b hs, env, st => catchR (tbv G b env st) fun x st => hdL hs x env st
  | .lock i ps s, env, st => lockR i ps env st fun st => sv G s env st
  | .whl n c b, env, st => whlL (fun env st => truR (ev G c env st)) (svs G b) n env st
  | .ex e, env, st => (ev G e env st).bind fun _ st => .ok (.nx env) st
  | .ret e, env, st => (ev G e env st).bind fun d st => .ok (.rt d) st
  | .retN, env, st => .ok (.rt (.p .none)) st
  | .ife c a b, env, st => (truR (ev G c env st)).bind fun k st => if k = true then svs G a env st else svs G b env st
  | .loop t it b, env, st => (evi G it env st).bind fun p st => forL p.2 t (svs G b) p.1 env st
  | .pass, env, st => .ok (.nx env) st
  | .brk, env, st => .ok (.bk env) st
  | .cont, env, st => .ok (.ct env) st
noncomputable def svs (G : Sem1) : MSs → Env → Store → R Fl
  | .nil, env, st => .ok (.nx env) st
  | .cons s r, env, st => thenR (sv G s env st) (svs G r)
end

/-! ### the text -/
def isLc : Expr → Bool
  | .ListComp .. => true
  | .SetComp .. => true
  | .DictComp .. => true
  | _ => false
/-- the exchange of stores of a tuple display does not come in -/
def noSwap (t e : Expr) : Bool :=
  match t, e with
  | .Tuple .., .Tuple .. => false
  | .List .., .Tuple .. => false
  | _, _ => true
mutual
def chkSE (C : Ctx) (hc : Str) (oi : Option Nat) : SE → Expr → Bool
  | .lit v, py => match py with
    | .Constant c _ _ => litC c v
    | _ => false
  | .fld c f, py => match py with
    | .Attribute (.Name n _) g _ => decide (c = hc) && decide (f = g) && C.xfld.contains (hc, f) && (match oi with | some i => C.slot i n && C.isVis n | none => false)
    | _ => false
  | .lst es, py => match py with
    | .List xs _ => chkSEs C hc oi es xs
    | _ => false
  | .tup es, py => match py with
    | .Tuple xs _ _ => chkSEs C hc oi es xs
    | _ => false
def chkSEs (C : Ctx) (hc : Str) (oi : Option Nat) : SEs → List Expr → Bool
  | .nil, [] => true
  | .cons e r, x :: xs => notStar x && chkSE C hc oi e x && chkSEs C hc oi r xs
  | _, _ => false
end
def chkTab (C : Ctx) (hc : Str) (tb : List (Str × Bool)) : Bool := tb.all fun q => C.xtab.contains ((q.1, hc), q.2)
def chkHd (C : Ctx) (h : Hd) : ExceptHandler → Bool
  | .ExceptHandler (some (.Name x _)) n [.Assign [.Name y _] v _] _ => C.isGl x && C.hcs.contains x && chkTab C x h.tb && chkSE C x h.oi h.e v && C.slot h.j y && decide (C.sc.names.lookup y = some .local) &&
      (match n, h.oi with
        | none, none => true
        | some m, some i => C.slot i m && decide (C.sc.names.lookup m = some .local)
        | _, _ => false)
  | _ => false
def chkHds (C : Ctx) : List Hd → List ExceptHandler → Bool
  | [], [] => true
  | h :: r, x :: xs => chkHd C h x && chkHds C r xs
  | _, _ => false
def chkTB (C : Ctx) : TB → List Stmt → Bool
  | .nil, py => py.isEmpty
  | .ex e, py => match py with
    | [.Expr x _] => !isLc x && chk C e x
    | _ => false
  | .set t e, py => match py with
    | [.Assign [tg] x _] => !isLc x && noSwap tg x && notStar tg && chkT C t tg && chk C e x
    | _ => false
  | .exSet e t q, py => match py with
    | [.Expr x _, .Assign [tg] y _] => !isLc x && chk C e x && !isLc y && noSwap tg y && notStar tg && chkT C t tg && chk { C with tr := false } q y
    | _ => false
  | .ife c a b, py => match py with
    | [.If t x y _] => chk C c t && chkTB C a x && chkTB C b y
    | _ => false
mutual
def chkS (C : Ctx) : MS → Stmt → Bool
  | .set t e, py => match py with
    | .Assign [tg] x _ => !isLc x && noSwap tg x && notStar tg && chkT C t tg && chk C e x
    | _ => false
  | .setLc i e, py => match py with
    | .Assign [.Name y q] (.ListComp elt gs scope pos) sp => C.slot i y && decide (C.sc.names.lookup y = some .local) && (q.line == pos.line) &&
        !(scope.names.any fun p => p.1 == y && (p.2 == .local || p.2 == .cell)) && (match e with | .lc .. => true | _ => false) && chk C e (.ListComp elt gs scope pos)
    | _ => false
  | .setIx o i v, py => match py with
    | .Assign [.Subscript a b _] x _ => !isLc x && notSlice b && chk C o a && chk C i b && chk C v x
    | _ => false
  | .setFld o f cs e, py => match py with
    | .Assign [.Attribute a g _] x _ => decide (f = g) && !isLc x && cs.all (fun c => C.clsF.contains (c, f)) && chk C o a && chk C e x
    | _ => false
  | .raise c np fs es, py => match py with
    | .Raise (some (.Call (.Name x _) (y :: ys) [] _)) none _ => C.isGl x && decide (c = x) && C.xcls.any (fun q => q.1 == c && q.2.1 == np && fesEq fs q.2.2) && (!fs.isEmpty || isText1 es) && decide (np ≤ 100) && chks C es (y :: ys)
    | _ => false
  | .tryS b hs, py => match py with
    | .Try body (h :: hds) [] [] _ => chkTB { C with tr := true } b body && chkHds C hs (h :: hds)
    | _ => false
  | .lock _ _ s, py => chkS C s py
  | .whl _ c b, py => match py with
    | .While t x [] _ => chk C c t && chkSs C b x
    | _ => false
  | .app o e, py => match py with
    | .Expr (.Call (.Attribute a m q) [b] [] p) _ => decide (m = ("append" : Str)) && (q.endLine == p.line) && notSuper a && notStar b && chk C o a && chk C e b
    | _ => false
  | .ex e, py => match py with
    | .Expr x _ => !isLc x && chk C e x
    | _ => false
  | .ret e, py => match py with
    | .Return (some x) _ => chk C e x
    | _ => false
  | .retN, py => match py with
    | .Return none _ => true
    | _ => false
  | .ife c a b, py => match py with
    | .If t x y _ => chk C c t && chkSs C a x && chkSs C b y
    | _ => false
  | .loop t it b, py => match py with
    | .For tg i x [] _ => chkT C t tg && chki C it i tg && chkSs C b x
    | _ => false
  | .pass, py => match py with
    | .Pass _ => true
    | _ => false
  | .brk, py => match py with
    | .Break _ => true
    | _ => false
  | .cont, py => match py with
    | .Continue _ => true
    | _ => false
def chkSs (C : Ctx) : MSs → List Stmt → Bool
  | .nil, [] => true
  | .cons s r, x :: xs => chkS C s x && chkSs C r xs
  | _, _ => false
end

/-! ### right -/
section
variable {G : Sem1} {XR : XRT} {X : Cx} {C : Ctx} {E : XK}
structure WFS (X : Cx) (C : Ctx) (G : Sem1) (XR : XRT) (E : XK) : Prop where
  wf : WF X C G XR (fun _ => E)
  po : PassesOwn (model X.prog X.w) X.A X.env X.xe
  kind : X.env.scope.kind = .function
  xr : XR = XRel X.K
  tk : Takes X fun cls d _ H => E cls d H
  stk : X.stack = X.env :: X.outer
  frm : X.env.frame = some X.env.locals
theorem sw_no {e : Expr} (h : isLc e = false) (t : Option Expr) (l : Nat) (env : PySem.Env) : swapsWith e t l env = pure false := by
  cases e <;> first | rfl | cases h
theorem sw1_no {e t : Expr} (h : isLc e = false) (l : Nat) (env : PySem.Env) : swapsWithSole [t] e l env = pure false := sw_no h _ _ _
theorem noSwap_of {t e : Expr} (h : noSwap t e = true) (env : PySem.Env) : swappedStores [t] e env = pure none := by
  cases t with
  | Tuple a b c => cases e <;> first | rfl | cases h
  | List a b => cases e <;> first | rfl | cases h
  | _ => rfl
theorem oks_nil : PSs X [] (rS X.K XR (fun _ => E) (svs G .nil)) := PSs.imp pss_nil fun De σ H hq => by
  obtain ⟨env, st, F, φ, S, r, hq⟩ := hq
  simp only [svs] at hq
  exact hq.ok S σ r
theorem sat_then {r : R Fl} {k : Env → Store → R Fl} {F : Hp} {φ : List Addr} {De : Ends} {σ : L2.St} (h : Sat X.K XR E (QS X.K De) F φ (thenR r k)) : Sat X.K XR E (QS X.K { De with nx := rS X.K XR (fun _ => E) k De }) F φ r := by
  cases r with
  | bad => exact h.elim
  | ex c st => exact h
  | ok f st =>
    cases f with
    | nx env => exact fun F' φ' H' x S σ' r' => ⟨env, st, F', φ', S, r', Sat.ext x h⟩
    | rt d => exact h
    | bk env => exact h
    | ct env => exact h
theorem oks_cons {s : MS} {r : MSs} {x : Stmt} {xs : List Stmt} (h1 : PS X x (rS X.K XR (fun _ => E) (sv G s))) (h2 : PSs X xs (rS X.K XR (fun _ => E) (svs G r))) : PSs X (x :: xs) (rS X.K XR (fun _ => E) (svs G (.cons s r))) := PSs.imp (pss_cons h1 h2) fun De σ H hq => by
  obtain ⟨env, st, F, φ, S, rr, hq⟩ := hq
  simp only [svs] at hq
  exact ⟨env, st, F, φ, S, rr, sat_then (σ := σ) hq⟩
theorem oks_set (w : WFS X C G XR E) {t : MT} {e : ME} {tg x : Expr} {pos : Pos} (hl : isLc x = false) (hn : noSwap tg x = true) (hst : notStar tg = true) (ht : chkT C t tg = true) (he : OkP X XR (fun _ => E) x (ev G e)) : PS X (.Assign [tg] x pos) (rS X.K XR (fun _ => E) (sv G (.set t e))) := by
  have hb : C.fnC = true ∨ C.fnC = false := by cases C.fnC <;> simp
  have h1 : (assignEach [tg] X.env).map (·.2) = [assign tg X.env] := by cases tg <;> first | rfl | cases hst
  refine PS.imp (ps_asg he.pe (ok_tg w.wf hb ht) (sw1_no hl _ _) (noSwap_of hn _) h1) fun De σ H hq => ?_
  obtain ⟨env, st, F, φ, S, r, hq⟩ := hq
  simp only [sv] at hq
  refine ⟨env, st, F, φ, S, r, Sat.bind hq fun d st1 F1 φ1 H1 e1 S1 h1 v rv => ?_⟩
  split at h1
  · rename_i env' eb
    exact ⟨env, st1, F1, φ1, d, S1, r.mono e1, rv, env', eb, fun σ' r' _ => h1.ok S1 σ' r'⟩
  · exact h1.elim
theorem set_any (hu : X.A.units + 1 < cLine) : PSet X (fun o i v H Q => rSetL o i v H Q ∨ rSetD o i v H Q) := by
  intro pins s σ H o i v ov iv u Q I ro ri rv h
  rcases h with h | h
  · exact set_list pins s σ H o i v ov iv u Q I ro ri rv h
  · exact set_dict hu pins s σ H o i v ov iv u Q I ro ri rv h
theorem oks_setIx {o i v : ME} {a b x : Expr} {p pos : Pos} (hu : X.A.units + 1 < cLine) (hl : isLc x = false) (hb : notSlice b = true) (ho : OkP X XR (fun _ => E) a (ev G o)) (hi : OkP X XR (fun _ => E) b (ev G i)) (hv : OkP X XR (fun _ => E) x (ev G v)) : PS X (.Assign [.Subscript a b p] x pos) (rS X.K XR (fun _ => E) (sv G (.setIx o i v))) := by
  have ha : ∀ u, assign (.Subscript a b p) X.env u = (do
      let ov ← holding [u] (eval a X.env)
      let iv ← holding [u, ov] (eval b X.env)
      standAt p
      holding [u, ov, iv] (setItem ov iv u)
      release [u, ov, iv] []) := by
    intro u
    cases b <;> first | rfl | cases hb
  refine PS.imp (ps_asg hv.pe (pg_sub ho.pe hi.pe (set_any hu) ha) (sw1_no hl _ _) (by cases x <;> rfl) rfl) fun De σ H hq => ?_
  obtain ⟨env, st, F, φ, S, r, hq⟩ := hq
  simp only [sv] at hq
  refine ⟨env, st, F, φ, S, r, Sat.bind hq fun d st1 F1 φ1 H1 e1 S1 h1 w rw => ⟨env, st1, F1, φ1, S1, r.mono e1, Sat.bind h1 fun d2 st2 F2 φ2 H2 e2 S2 h2 w2 rw2 => ⟨env, st2, F2, φ2, S2, (r.mono e1).mono e2, Sat.bind h2 fun d3 st3 F3 φ3 H3 e3 S3 h3 w3 rw3 => ?_⟩⟩⟩
  have rw' := (rw.mono e2).mono e3
  have rr := ((r.mono e1).mono e2).mono e3
  unfold setIxD at h3
  split at h3
  · rename_i n
    obtain ⟨l, c1, rfl⟩ := rw2.mono e3
    split at h3
    · rename_i ds hc
      split at h3
      · rename_i k
        split at h3
        · rename_i j hj
          obtain ⟨l', vs, c2, c3, c4, c5⟩ := S3.cell n ds hc
          rw [c1] at c2
          cases Option.some.inj c2
          refine .inl ⟨l, vs, k, j, rfl, rw3.int, c4, by rw [rds_length c5]; exact hj, ?_⟩
          exact h3 F3 φ3 _ Ext.refl (S3.write hc c1 (rds_set rw' j c5)) σ rr
        · exact h3.elim
      · exact h3.elim
    · rename_i kvs hc
      split at h3
      · rename_i k ek
        split at h3
        · rename_i hz
          obtain ⟨l', ws, c2, c3, c4, c5⟩ := S3.dcell n kvs hc
          rw [c1] at c2
          cases Option.some.inj c2
          rw [keyOf_ok rw3 ek]
          refine .inr ⟨l, _, rfl, .k c4 (by rw [rks_length c5]; exact Nat.lt_of_lt_of_le hz (sz_ok (Nat.le_refl _))), ?_⟩
          exact h3 F3 φ3 _ Ext.refl (S3.writeC hc rfl c1 (.dct (rks_put rw' c5)) rfl) σ rr
        · exact h3.elim
      · exact h3.elim
    · rename_i kvs hc
      split at h3
      · rename_i k ek
        split at h3
        · rename_i hz
          obtain ⟨l', ws, c2, c3, c4, c5⟩ := S3.ttcell n kvs hc
          rw [c1] at c2
          cases Option.some.inj c2
          obtain ⟨b, rfl, hb⟩ := keyT_ok rw3 ek
          refine .inr ⟨l, _, rfl, .t c4 (S3.sub _ _ hb) (by rw [rks_length c5]; exact Nat.lt_of_lt_of_le hz (sz_ok (Nat.le_refl _))), ?_⟩
          exact h3 F3 φ3 _ Ext.refl (S3.writeC hc rfl c1 (.dtt (rks_put rw' c5)) rfl) σ rr
        · exact h3.elim
      · exact h3.elim
    · exact h3.elim
  · exact h3.elim
theorem oks_app {o e : ME} {a b : Expr} {m : Str} {q p pos : Pos} (hm : m = ("append" : Str)) (hl : (q.endLine == p.line) = true) (hsu : notSuper a = true) (hn : notStar b = true) (ho : OkP X XR (fun _ => E) a (ev G o)) (he : OkP X XR (fun _ => E) b (ev G e)) : PS X (.Expr (.Call (.Attribute a m q) [b] [] p) pos) (rS X.K XR (fun _ => E) (sv G (.app o e))) := by
  subst hm
  refine PS.imp (ps_expr (pe_bm PySem.F.plainAttrs_list PySem.F.slot_list_append PySem.F.type_list_append mt_append ho.pe (pa_cons he.pe pa_nil (star1 hn)) (base_of hsu) (by rw [star1 hn]; rfl) hl (star1 hn) rfl) (sw_no rfl _ _ _)) fun De σ H hq => ?_
  obtain ⟨env, st, F, φ, S, r, hq⟩ := hq
  simp only [sv] at hq
  refine ⟨env, st, F, φ, S, r, Sat.bind hq fun d st1 F1 φ1 H1 e1 S1 h1 v rv => ?_⟩
  split at h1
  · rename_i n
    split at h1
    · rename_i ds0 hc0
      obtain ⟨l, c1, rfl⟩ := rv
      obtain ⟨l', vs, c2, c3, c4, c5⟩ := S1.cell n _ (cellL_some hc0)
      rw [c1] at c2
      cases Option.some.inj c2
      refine ⟨.inl ⟨rfl, vs, Evl.sq_of c4⟩, env, st1, F1, φ1, S1, r.mono e1, Sat.bind h1 fun d2 st2 F2 φ2 H2 e2 S2 h2 w2 rw2 => ?_⟩
      split at h2
      · rename_i ds hc
        split at h2
        · rename_i hz
          have k1 := e2.at c1
          obtain ⟨l', vs, c2, c3, c4, c5⟩ := S2.cell n ds (cellL_some hc)
          rw [k1] at c2
          cases Option.some.inj c2
          refine ⟨l, vs, w2, rfl, rfl, c4, by rw [rds_length c5]; exact Nat.lt_of_lt_of_le hz (sz_ok (Nat.le_refl _)), ?_⟩
          exact h2 F2 φ2 _ Ext.refl (S2.write (cellL_some hc) k1 (rds_append c5 (.cons rw2 .nil))) σ ((r.mono e1).mono e2)
        · exact h2.elim
      · exact h2.elim
    · exact h1.elim
  · exact h1.elim
theorem oks_ex {e : ME} {x : Expr} {pos : Pos} (hl : isLc x = false) (he : OkP X XR (fun _ => E) x (ev G e)) : PS X (.Expr x pos) (rS X.K XR (fun _ => E) (sv G (.ex e))) := by
  refine PS.imp (ps_expr he.pe (sw_no hl _ _ _)) fun De σ H hq => ?_
  obtain ⟨env, st, F, φ, S, r, hq⟩ := hq
  simp only [sv] at hq
  exact ⟨env, st, F, φ, S, r, Sat.bind hq fun d st1 F1 φ1 H1 e1 S1 h1 v rv => h1.ok S1 σ (r.mono e1)⟩
theorem oks_ret {e : ME} {x : Expr} {pos : Pos} (he : OkP X XR (fun _ => E) x (ev G e)) : PS X (.Return (some x) pos) (rS X.K XR (fun _ => E) (sv G (.ret e))) := by
  refine PS.imp (ps_ret he.pe) fun De σ H hq => ?_
  obtain ⟨env, st, F, φ, S, r, hq⟩ := hq
  simp only [sv] at hq
  exact ⟨env, st, F, φ, S, r, Sat.bind hq fun d st1 F1 φ1 H1 e1 S1 h1 v rv => h1.ok S1 v rv⟩
theorem oks_retN {pos : Pos} : PS X (.Return none pos) (rS X.K XR (fun _ => E) (sv G .retN)) := by
  refine PS.imp ps_retN fun De σ H hq => ?_
  obtain ⟨env, st, F, φ, S, r, hq⟩ := hq
  simp only [sv] at hq
  exact hq.ok S .non rd_non
theorem oks_pass {pos : Pos} : PS X (.Pass pos) (rS X.K XR (fun _ => E) (sv G .pass)) := by
  refine PS.imp ps_pass fun De σ H hq => ?_
  obtain ⟨env, st, F, φ, S, r, hq⟩ := hq
  simp only [sv] at hq
  exact hq.ok S σ r
theorem oks_brk {pos : Pos} : PS X (.Break pos) (rS X.K XR (fun _ => E) (sv G .brk)) := by
  refine PS.imp ps_break fun De σ H hq => ?_
  obtain ⟨env, st, F, φ, S, r, hq⟩ := hq
  simp only [sv] at hq
  exact hq.ok S σ r
theorem oks_cont {pos : Pos} : PS X (.Continue pos) (rS X.K XR (fun _ => E) (sv G .cont)) := by
  refine PS.imp ps_continue fun De σ H hq => ?_
  obtain ⟨env, st, F, φ, S, r, hq⟩ := hq
  simp only [sv] at hq
  exact hq.ok S σ r
theorem oks_ife {c : ME} {a b : MSs} {t : Expr} {x y : List Stmt} {pos : Pos} (hc : OkP X XR (fun _ => E) t (ev G c)) (ha : PSs X x (rS X.K XR (fun _ => E) (svs G a))) (hb : PSs X y (rS X.K XR (fun _ => E) (svs G b))) : PS X (.If t x y pos) (rS X.K XR (fun _ => E) (sv G (.ife c a b))) := by
  refine PS.imp (ps_if hc.pt ha hb) fun De σ H hq => ?_
  obtain ⟨env, st, F, φ, S, r, hq⟩ := hq
  simp only [sv] at hq
  refine ⟨env, st, F, φ, S, r, Sat.bind hq fun k st1 F1 φ1 H1 e1 S1 h1 => ?_⟩
  cases k with
  | true => exact ⟨env, st1, F1, φ1, S1, r.mono e1, h1⟩
  | false => exact ⟨env, st1, F1, φ1, S1, r.mono e1, h1⟩
theorem sat_next {r : R Fl} {k : Env → Store → R Fl} {F0 F : Hp} {φ0 φ : List Addr} {De : Ends} {P : L2.St → Hp → Prop} (x : Ext F0 φ0 F φ) (h : Sat X.K XR E (QS X.K De) F0 φ0 (nextR r k))
    (hP : ∀ env st F' φ' σ' H', Ext F φ F' φ' → SR X.K F' φ' st H' → ER X.K F' φ' env σ' → Sat X.K XR E (QS X.K De) F0 φ0 (k env st) → P σ' H') :
    Sat X.K XR E (QS X.K { De with nx := P, ct := P, bk := De.nx }) F φ r := by
  cases r with
  | bad => exact h.elim
  | ex c st => exact Sat.ext (r := R.ex c st) x h
  | ok f st =>
    cases f with
    | nx env => exact fun F' φ' H' y S σ' r' => hP env st F' φ' σ' H' y S r' h
    | ct env => exact fun F' φ' H' y S σ' r' => hP env st F' φ' σ' H' y S r' h
    | rt d => exact Sat.ext (r := R.ok (Fl.rt d) st) x h
    | bk env => exact fun F' φ' H' y S σ' r' => h F' φ' H' (x.trans y) S σ' r'
theorem oks_loop (w : WFS X C G XR E) {t : MT} {it : MI} {b : MSs} {tg i : Expr} {x : List Stmt} {pos : Pos} (ht : chkT C t tg = true) (hi : chki C it i tg = true) (hb : PSs X x (rS X.K XR (fun _ => E) (svs G b))) : PS X (.For tg i x [] pos) (rS X.K XR (fun _ => E) (sv G (.loop t it b))) := by
  refine PS.imp (ps_for w.po w.wf.calm (sndi it w.wf hi) (ok_tgI w.wf ht) hb (chki_folded hi X.env)) fun De σ H hq => ?_
  obtain ⟨env, st, F, φ, S, r, hq⟩ := hq
  simp only [sv] at hq
  refine ⟨env, st, F, φ, S, r, Sat.bind hq fun p st1 F1 φ1 H1 e1 S1 h1 J hJ => ?_⟩
  obtain ⟨Gd, Y, hw, hG, hY⟩ := hJ
  refine for_it hw (fun j σ' H' => ∃ F' φ' st' env', Ext F1 φ1 F' φ' ∧ SR X.K F' φ' st' H' ∧ ER X.K F' φ' env' σ' ∧ Sat X.K XR E (QS X.K De) F1 φ1 (forL p.2 t (svs G b) (p.1.drop j) env' st'))
    ⟨F1, φ1, st1, env, Ext.refl, S1, r.mono e1, by rw [List.drop_zero]; exact h1⟩ (fun j σ' H' hj ⟨F', φ', st', env', e', S', r', h'⟩ => ?_) (fun j z σ' H' H'' hj ⟨F', φ', st', env', e', S', r', h'⟩ hy => ?_) (fun σ' H' ⟨F', φ', st', env', e', S', r', h'⟩ => ?_)
  · refine hG F' φ' st' H' e' S' ?_
    cases hd : p.1.drop j with
    | nil =>
      rw [hd] at h'
      unfold forL at h'
      split at h'
      · assumption
      · exact h'.elim
    | cons a b =>
      rw [hd] at h'
      unfold forL at h'
      split at h'
      · assumption
      · exact h'.elim
  · have hdr : p.1.drop j = p.1[j] :: p.1.drop (j + 1) := List.drop_eq_getElem_cons hj
    rw [hdr] at h'
    unfold forL at h'
    split at h'
    · rename_i hg
      split at h'
      · exact h'.elim
      · rename_i env1 hbd
        obtain ⟨F3, e3, S3, itm, hit, rit⟩ := hY F' φ' st' H' j z H'' e' S' hg hj hy
        rw [List.getElem?_eq_getElem hj] at hit
        cases Option.some.inj hit
        refine ⟨env', st', F3, φ', p.1[j], S3, r'.mono e3, rit, env1, hbd, fun σ2 r2 o2 => ⟨env1, st', F3, φ', S3, r2, sat_next (e'.trans e3) h' fun env5 st5 F5 φ5 σ5 H5 e5 S5 r5 h5 => ?_⟩⟩
        exact ⟨F5, φ5, st5, env5, (e'.trans e3).trans e5, S5, r5, h5⟩
    · exact h'.elim
  · rw [List.drop_length] at h'
    unfold forL at h'
    split at h'
    · exact h' F' φ' H' e' S' σ' r'
    · exact h'.elim

theorem oks_setLc (w : WFS X C G XR E) {i : Nat} {e : ME} {y : Str} {q : Pos} {elt : Expr} {gs : List Comprehension} {scope : Scope} {pos sp : Pos}
    (hs : C.slot i y = true) (hy : C.sc.names.lookup y = some .local) (hl : (q.line == pos.line) = true) (ha : (scope.names.any fun p => p.1 == y && (p.2 == .local || p.2 == .cell)) = false) (he : (match e with | .lc .. => true | _ => false) = true)
    (hc : chk C e (.ListComp elt gs scope pos) = true) : PS X (.Assign [.Name y q] (.ListComp elt gs scope pos) sp) (rS X.K XR (fun _ => E) (sv G (.setLc i e))) := by
  cases e with
  | lc c own tg it cond el =>
    unfold chk at hc
    split at hc
    · rename_i x t i' ifs sc' pos' heq
      cases heq
      simp only [Bool.and_eq_true] at hc
      obtain ⟨⟨h1, h2⟩, ⟨⟨h3, h4⟩, h5⟩, h6⟩ := hc
      have hb := blkOk_by h1
      rw [← w.wf.N, ← w.wf.sc] at hb
      have hyl : X.env.scope.names.lookup y = some .local := by rw [w.wf.sc]; exact hy
      obtain ⟨_, hN⟩ := slot_of hs
      refine PS.imp (ps_setLc (i := i) (g := gI X.K tg) (tt := rT X.K XR (fun _ => E0) fun env st => truR (evc G cond env st)) (te := rE X.K XR (fun _ => E0) (ev G el)) w.wf.calm w.wf.nd (by rw [w.wf.N]; exact hN) hyl (sw_true w.kind hyl hl ha) (sndi it w.wf h4) hb
        (fun s H Ca cl fp => ok_tgI (w.wf.blk s H _ cl Ca fp) h3) (fun s H Ca cl fp => sndc cond (w.wf.blk s H _ cl Ca fp) h5) (fun s H Ca cl fp => (snd el (w.wf.blk s H _ cl Ca fp) h6).pe) (chki_folded h4 X.env)) fun De σ H hq => ?_
      rw [w.wf.N, own_map]
      refine lc_sat (c := c) (iter := default) (t := default) (x := default) (ifs := []) (fun j hj => by simpa using List.all_eq_true.mp h2 j hj) ?_
      obtain ⟨env, st, F, φ, S, r, hq⟩ := hq
      simp only [sv] at hq
      exact ⟨env, st, F, φ, S, r, Sat.bind hq fun d st1 F1 φ1 H1 e1 S1 h1 v rv => h1.ok S1 _ ((r.mono e1).set rv)⟩
    · cases hc
  | _ => cases he
theorem ER.unset {K : PySem.W.Frag} {F : Hp} {φ : List Addr} {env : Env} {σ : L2.St} (r : ER K F φ env σ) (i : Nat) (y : Option V) : ER K F φ (env.set i none) (σ.set i y) := by
  refine ⟨by rw [List.length_set, List.length_set]; exact r.len, fun j e hj => ?_⟩
  by_cases hij : i = j
  · subst hij
    have hl : i < env.length := by
      have := (List.getElem?_eq_some_iff.mp hj).1
      rwa [List.length_set] at this
    rw [List.getElem?_set_self hl] at hj
    cases hj
  · rw [List.getElem?_set_ne hij] at hj ⊢
    exact r.val j e hj
/-! o.f = e -/
theorem rns_putF {K : PySem.W.Frag} {F : Hp} {φ : List Addr} {f : Str} {v : V} {d : D} (r : RD K F φ v d) : ∀ {ws : List (Str × V)} {fs : List (Str × D)}, RNs K F φ ws fs → RNs K F φ (putF f v ws) (putFD f d fs)
  | _, _, .nil => .cons ⟨rfl, r⟩ .nil
  | (g, x) :: ws, (g', y) :: fs, .cons h t => by
    obtain ⟨e, q⟩ := h
    have e : g = g' := e
    subst e
    unfold putF putFD
    by_cases hg : g = f
    · rw [if_pos hg, if_pos hg]; exact .cons ⟨rfl, r⟩ t
    · rw [if_neg hg, if_neg hg]; exact .cons ⟨rfl, q⟩ (rns_putF r t)
theorem oks_setFld (w : WF X C G XR (fun _ => E)) {o e : ME} {f : Str} {cs : List Str} {a x : Expr} {p pos : Pos} (hl : isLc x = false) (hcs : cs.all (fun c => C.clsF.contains (c, f)) = true) (ho : OkP X XR (fun _ => E) a (ev G o)) (he : OkP X XR (fun _ => E) x (ev G e)) : PS X (.Assign [.Attribute a f p] x pos) (rS X.K XR (fun _ => E) (sv G (.setFld o f cs e))) := by
  refine PS.imp (ps_fld ho.pe he.pe (sw_no hl _ _ _)) fun De σ H hq => ?_
  obtain ⟨env, st, F, φ, S, r, hq⟩ := hq
  simp only [sv] at hq
  refine ⟨env, st, F, φ, S, r, Sat.bind hq fun d st1 F1 φ1 H1 e1 S1 h1 v rv => ⟨env, st1, F1, φ1, S1, r.mono e1, Sat.bind h1 fun d2 st2 F2 φ2 H2 e2 S2 h2 v2 rv2 => ?_⟩⟩
  unfold setFldD at h2
  split at h2
  · rename_i n c fs e
    split at h2
    · rename_i hz
      obtain ⟨l, A, dx, ws, rfl, _, k1, k2, k3, k4, k5⟩ := insOf_ok S2 rv2 e
      have hm : (c, f) ∈ C.clsF := by simpa using List.all_eq_true.mp hcs c (by simpa using hz.2)
      obtain ⟨B, b1, b2, b3⟩ := w.clf c f hm
      cases cls_one k4 b1
      refine ⟨l, A, dx, ws, rfl, k3, b2, b3, by rw [rks_length k5]; omega, ?_⟩
      exact h2 F2 φ2 _ Ext.refl (S2.writeC k1 rfl k2 (.ins k4 (rns_putF (rv.mono e2) k5)) rfl) σ ((r.mono e1).mono e2)
    · exact h2.elim
  · exact h2.elim
/-! raise -/
theorem oks_raise (w : WFS X C G XR E) {c : Str} {np : Nat} {fs : List (Str × FE)} {es : MEs} {y : Expr} {ys : List Expr} {p q pos : Pos} (hg : C.isGl c = true) (hm : (c, np, fs) ∈ C.xcls) (ht : (!fs.isEmpty || isText1 es) = true) (hn : np ≤ 100) (hc : chks C es (y :: ys) = true) (ha : OkA X XR (fun _ => E) (y :: ys) (evs G es)) :
    PS X (.Raise (some (.Call (.Name c p) (y :: ys) [] q)) none pos) (rS X.K XR (fun _ => E) (sv G (.raise c np fs es))) := by
  obtain ⟨h1, h2⟩ := gl_of w.wf hg
  obtain ⟨d1, _, _⟩ := okName_of h1
  obtain ⟨A, g1, g2, gr, g3⟩ := w.wf.xmk c np fs hm
  obtain ⟨s1, s2⟩ := chks_star (X := X) (pos := q) hc
  have hxr := w.xr
  rcases g3 with ⟨rfl, kk, kx⟩ | ⟨ox, k, fI, fd, ps, i1, i2, i3, i4, i5⟩
  · have ht : isText1 es = true := ht
    obtain ⟨m, rfl⟩ := isText1_of ht
    simp only [chks, Bool.and_eq_true] at hc
    obtain ⟨⟨_, hc1⟩, hc2⟩ := hc
    cases ys with
    | cons _ _ => simp [chks] at hc2
    | nil =>
      unfold chk at hc1
      split at hc1
      · rename_i c0 k0 j0 p0
        obtain ⟨m', rfl⟩ : ∃ m' : Str, c0 = Const.str m' := by
          cases c0 <;> first | exact ⟨_, rfl⟩ | simp [litC] at hc1
        refine PS.imp (ps_raise w.wf.calm w.tk (pmk_own PySem.F.excBase_ValueError kx g2 kk gr h2 d1)) fun De σ H hq => ?_
        obtain ⟨env, st, F, φ, S, r, hq⟩ := hq
        simp only [sv, evs, ev, R.bind_ok] at hq
        split at hq
        · simp only [mkX, R.bind_ok] at hq
          refine hq F φ H _ _ Ext.refl S ?_
          rw [hxr]
          exact ⟨A, g1, rfl, .inl rfl⟩
        · exact hq.elim
      · cases hc1
  · refine PS.imp (ps_raise w.wf.calm w.tk (pmk_oex ox i1 i2 i3 i4 i5 .nil (fun pins σ H s e s' I => passL pins σ H s e s' I) h2 g2 ha d1 s1 s2)) fun De σ H hq => ?_
    obtain ⟨env, st, F, φ, S, r, hq⟩ := hq
    simp only [sv] at hq
    refine ⟨env, st, F, φ, S, r, Sat.bind hq fun ds st1 F1 φ1 H1 e1 S1 h1 vs rvs => ?_⟩
    split at h1
    · rename_i hnp
      refine ⟨by have := rds_length rvs; omega, fun a hna => ?_⟩
      have hFa : F1 a = none := Evl.fresh_back S1.sub hna
      have hφa : a ∉ φ1 := fun z => S1.dom z hna
      rw [List.append_nil]
      refine ⟨a, vs, ds, st1, F1, φ1, rfl, by rw [rds_length rvs]; exact hnp, upd_same, hFa, hφa, S1.junk hna, rvs, ?_⟩
      cases hx : mkX ds fs [] st1 with
      | bad => rw [hx] at h1; exact h1.elim
      | ex x st2 => exact absurd hx mkX_nex
      | ok xs st2 =>
        rw [hx] at h1
        intro F2 φ2 H2 d gs e2 S2 z1 z2 z3 z4 z5 z6 z7 z8
        have hda : d ≠ a := fun z => by subst z; rw [upd_same] at z3; cases z3
        refine ⟨rfl, d, gs, z1, z2, by rw [upd_ne hda] at z3; exact z3, ?_⟩
        have S3 : SR X.K F2 φ2 st2 (upd (L2.del H2 a) d (.xd gs)) := by
          refine S2.congr (fun b u hb => ?_) fun b hb hF => ?_
          · have n1 : b ≠ d := fun z => by subst z; rw [z4] at hb; cases hb
            have n2 : b ≠ a := fun z => by subst z; rw [z6] at hb; cases hb
            rw [upd_ne n1, del_ne n2]
            exact S2.sub b u hb
          · have n1 : b ≠ d := fun z => by subst z; exact z5 hb
            have n2 : b ≠ a := fun z => by subst z; exact z7 hb
            rw [upd_ne n1, del_ne n2]
        refine h1 F2 φ2 _ _ _ e2 S3 ?_
        rw [hxr]
        exact ⟨A, g1, rfl, .inr ⟨d, gs, rfl, upd_same, rns_xrel z8⟩⟩
    · exact h1.elim
/-! try -/
def FRel (K : PySem.W.Frag) (F : Hp) (φ : List Addr) (d : Option Addr) (x : Exc) : Prop :=
  x.fs = [] ∨ ∃ dd ws, d = some dd ∧ F dd = some (.xd ws) ∧ ∀ f y, x.fs.lookup f = some y → ∃ v, ws.lookup f = some v ∧ RD K F φ v y
theorem FRel.mono {K : PySem.W.Frag} {F F1 : Hp} {φ φ1 : List Addr} {d : Option Addr} {x : Exc} (e : Ext F φ F1 φ1) (h : FRel K F φ d x) : FRel K F1 φ1 d x := by
  rcases h with h | ⟨dd, ws, h1, h2, h3⟩
  · exact .inl h
  · exact .inr ⟨dd, ws, h1, e.sub _ _ h2, fun f y hf => let ⟨v, g1, g2⟩ := h3 f y hf; ⟨v, g1, g2.mono e⟩⟩
def rSE (K : PySem.W.Frag) (XR : XRT) (a : Addr) (cls : Value) (d : Option Addr) (oi : Option Nat) (m : Exc → Store → R D) : TE := fun σ H Q => ∃ st F φ x, SR K F φ st H ∧ (∀ i, oi = some i → σ[i]? = some (some (.ref a))) ∧ FRel K F φ d x ∧ (∃ A, clsAt K x.cls A ∧ cls = .ref A) ∧ Sat K XR E0 (QE K Q) F φ (m x st)
def rSA (K : PySem.W.Frag) (XR : XRT) (a : Addr) (cls : Value) (d : Option Addr) (oi : Option Nat) (m : Exc → Store → R (List D)) : TA := fun σ H Q => ∃ st F φ x, SR K F φ st H ∧ (∀ i, oi = some i → σ[i]? = some (some (.ref a))) ∧ FRel K F φ d x ∧ (∃ A, clsAt K x.cls A ∧ cls = .ref A) ∧ Sat K XR E0 (QA K Q) F φ (m x st)
theorem lit_suite {v : PyData} {c : Const} {k : Nat} {pos : Pos} {a : Addr} {oe : Obj} {cls : Value} {d : Option Addr} {oi : Option Nat} {pn : List (Addr × Obj)} (h : litC c v = true) : PE (X.suite a ((a, oe) :: pn)) (.Constant c k pos) (rSE X.K XR a cls d oi fun x st => seE x (.lit v) st) := by
  unfold litC at h
  split at h
  · refine PE.imp pe_non fun σ H Q hq => ?_
    obtain ⟨st, F, φ, x, S, _, _, _, hq⟩ := hq
    simp only [seE] at hq
    exact sat_val S rd_non hq
  · cases eq_of_beq h
    refine PE.imp pe_bl fun σ H Q hq => ?_
    obtain ⟨st, F, φ, x, S, _, _, _, hq⟩ := hq
    simp only [seE] at hq
    exact sat_val S rd_bl hq
  · cases eq_of_beq h
    refine PE.imp pe_int fun σ H Q hq => ?_
    obtain ⟨st, F, φ, x, S, _, _, _, hq⟩ := hq
    simp only [seE] at hq
    exact sat_val S rd_int hq
  · cases eq_of_beq h
    refine PE.imp pe_str fun σ H Q hq => ?_
    obtain ⟨st, F, φ, x, S, _, _, _, hq⟩ := hq
    simp only [seE] at hq
    exact sat_val S rd_str hq
  · cases h
theorem fld_suite {E' : EK} (w : WF X C G XR E') {hc f n : Str} {i : Nat} {a : Addr} {oe : Obj} {cls : Value} {d : Option Addr} {pn : List (Addr × Obj)} {q pos : Pos} (hz : Zc cls d oe) (hf : ∃ vs, oe.data = .fields vs) (h1 : (hc, f) ∈ C.xfld) (h2 : C.slot i n = true) (h3 : C.isVis n = true) :
    PE (X.suite a ((a, oe) :: pn)) (.Attribute (.Name n q) f pos) (rSE X.K XR a cls d (some i) fun x st => seE x (.fld hc f) st) := by
  obtain ⟨A, a1, a2, a3⟩ := w.xcf hc f h1
  have hn : PE (X.suite a ((a, oe) :: pn)) (.Name n q) (tVar i) := pe_slot (X := X.suite a ((a, oe) :: pn)) (C := C) w.N w.sc h2 h3
  refine PE.imp (pe_xf (X := X) a2 a3 hz hf hn rfl) fun σ H Q hq => ?_
  obtain ⟨st, F, φ, x, S, hs, hfr, ⟨B, hB, hcls⟩, hq⟩ := hq
  simp only [seE] at hq
  split at hq
  · rename_i hcx
    split at hq
    · rename_i y hy
      rcases hfr with he | ⟨dd, ws, e1, e2, e3⟩
      · rw [he] at hy; cases hy
      · obtain ⟨v, g1, g2⟩ := e3 f y hy
        rw [hcx] at hB
        cases cls_one hB a1
        exact ⟨.ref a, hs i rfl, rfl, hcls, dd, ws, v, e1, S.sub _ _ e2, g1, sat_val S g2 hq⟩
    · exact hq.elim
  · exact hq.elim
mutual
theorem se_ok {E' : EK} (w : WF X C G XR E') {hc : Str} {oi : Option Nat} {a : Addr} {oe : Obj} {cls : Value} {d : Option Addr} {pn : List (Addr × Obj)} (hz : Zc cls d oe) (hf : ∃ vs, oe.data = .fields vs) : ∀ (e : SE) {py : Expr}, chkSE C hc oi e py = true → PE (X.suite a ((a, oe) :: pn)) py (rSE X.K XR a cls d oi fun x st => seE x e st)
  | .lit v, py, h => by
    unfold chkSE at h
    split at h
    · exact lit_suite h
    · cases h
  | .fld c f, py, h => by
    unfold chkSE at h
    split at h
    · simp only [Bool.and_eq_true, decide_eq_true_eq] at h
      obtain ⟨⟨⟨rfl, rfl⟩, h3⟩, h4⟩ := h
      cases oi with
      | none => cases h4
      | some i =>
        simp only [Bool.and_eq_true] at h4
        exact fld_suite w hz hf (by simpa using h3) h4.1 h4.2
    · cases h
  | .lst es, py, h => by
    unfold chkSE at h
    split at h
    · refine PE.imp (pe_lst (ses_ok w hz hf es h)) fun σ H Q hq => ?_
      obtain ⟨st, F, φ, x, S, hs, hfr, hcl, hq⟩ := hq
      simp only [seE] at hq
      refine ⟨st, F, φ, x, S, hs, hfr, hcl, Sat.bind hq fun ds st1 F1 φ1 H1 e1 S1 h1 vs rvs => ?_⟩
      split at h1
      · rename_i hz'
        exact ⟨by rw [rds_length rvs]; exact sz_ok hz', fun p hp => sat_mkL S1 hp rvs h1⟩
      · exact h1.elim
    · cases h
  | .tup es, py, h => by
    unfold chkSE at h
    split at h
    · refine PE.imp (pe_tup (ses_ok w hz hf es h)) fun σ H Q hq => ?_
      obtain ⟨st, F, φ, x, S, hs, hfr, hcl, hq⟩ := hq
      simp only [seE] at hq
      refine ⟨st, F, φ, x, S, hs, hfr, hcl, Sat.bind hq fun ds st1 F1 φ1 H1 e1 S1 h1 vs rvs => ?_⟩
      split at h1
      · rename_i hz'
        exact ⟨by rw [rds_length rvs]; exact sz_ok hz', fun p hp => sat_mkT S1 hp rvs h1⟩
      · exact h1.elim
    · cases h
theorem ses_ok {E' : EK} (w : WF X C G XR E') {hc : Str} {oi : Option Nat} {a : Addr} {oe : Obj} {cls : Value} {d : Option Addr} {pn : List (Addr × Obj)} (hz : Zc cls d oe) (hf : ∃ vs, oe.data = .fields vs) : ∀ (es : SEs) {xs : List Expr}, chkSEs C hc oi es xs = true → PA (X.suite a ((a, oe) :: pn)) xs (rSA X.K XR a cls d oi fun x st => seEs x es st)
  | .nil, [], h => PA.imp pa_nil fun σ H Q hq => by
    obtain ⟨st, F, φ, x, S, hs, hfr, hcl, hq⟩ := hq
    simp only [seEs] at hq
    exact hq.ok S [] .nil
  | .cons e r, x :: xs, h => by
    simp only [chkSEs, Bool.and_eq_true] at h
    refine PA.imp (pa_cons (se_ok w hz hf e h.1.2) (ses_ok w hz hf r h.2) (star1 h.1.1)) fun σ H Q hq => ?_
    obtain ⟨st, F, φ, y, S, hs, hfr, hcl, hq⟩ := hq
    simp only [seEs] at hq
    exact ⟨st, F, φ, y, S, hs, hfr, hcl, Sat.bind hq fun dd st1 F1 φ1 H1 e1 S1 h1 v rv => ⟨st1, F1, φ1, y, S1, hs, hfr.mono e1, hcl, Sat.bind h1 fun ds st2 F2 φ2 H2 e2 S2 h2 vs rvs => h2.ok S2 _ (.cons (rv.mono e2) rvs)⟩⟩
  | .nil, _ :: _, h => by simp [chkSEs] at h
  | .cons _ _, [], h => by simp [chkSEs] at h
end
theorem suite_ok {E' : EK} (w : WF X C G XR E') {hc : Str} {h : Hd} {y : Str} {v : Expr} {q pos : Pos} {a : Addr} {oe : Obj} {cls : Value} {d : Option Addr} {pn : List (Addr × Obj)} (hz : Zc cls d oe) (hf : ∃ vs, oe.data = .fields vs) (he : chkSE C hc h.oi h.e v = true) (hj : C.slot h.j y = true) (hy : C.sc.names.lookup y = some .local) :
    PSs (X.suite a ((a, oe) :: pn)) [.Assign [.Name y q] v pos] (fun De σ H => rSE X.K XR a cls d h.oi (fun x st => seE x h.e st) σ H fun u H1 => De.nx (σ.set h.j (some u)) H1) := by
  have hl : isLc v = false := by
    cases he' : h.e with
    | lit z => rw [he'] at he; unfold chkSE at he; split at he <;> first | rfl | cases he
    | fld c f => rw [he'] at he; unfold chkSE at he; split at he <;> first | rfl | cases he
    | lst es => rw [he'] at he; unfold chkSE at he; split at he <;> first | rfl | cases he
    | tup es => rw [he'] at he; unfold chkSE at he; split at he <;> first | rfl | cases he
  obtain ⟨_, g2⟩ := slot_of hj
  have hloc : (X.suite a ((a, oe) :: pn)).env.scope.names.lookup y = some .local := by
    show X.env.scope.names.lookup y = _
    rw [w.sc]; exact hy
  refine PSs.imp (pss_one (ps_asg (se_ok w hz hf h.e he) (pg_name (i := h.j) w.nd (show X.N[h.j]? = some y by rw [w.N]; exact g2) (.inl hloc) (.inr hloc)) (sw1_no hl _ _) (noSwap_of (by cases v <;> rfl) _) rfl)) fun De σ H hq => ?_
  exact hq
theorem tb_ok {Xa : Cx} {E1 : EK} : ∀ (b : TB) {C : Ctx} {body : List Stmt}, WF Xa C G XR E1 → WF Xa { C with tr := false } G XR (fun _ => E0) → chkTB C b body = true → PSs Xa body (rS Xa.K XR E1 (tbv G b))
  | .nil, C, body, w, w0, h => by
    unfold chkTB at h
    cases body with
    | nil =>
      refine PSs.imp pss_nil fun De σ H hq => ?_
      obtain ⟨env, st, F, φ, S, r, hq⟩ := hq
      simp only [tbv] at hq
      exact hq.ok S σ r
    | cons a r => cases h
  | .ex e, C, body, w, w0, h => by
    unfold chkTB at h
    split at h
    · simp only [Bool.and_eq_true, Bool.not_eq_true'] at h
      refine PSs.imp (pss_one (ps_expr (snd e w h.2).pe (sw_no h.1 _ _ _))) fun De σ H hq => ?_
      obtain ⟨env, st, F, φ, S, r, hq⟩ := hq
      simp only [tbv] at hq
      exact ⟨env, st, F, φ, S, r, Sat.bind hq fun d st1 F1 φ1 H1 e1 S1 h1 v rv => h1.ok S1 σ (r.mono e1)⟩
    · cases h
  | .set t e, C, body, w, w0, h => by
    unfold chkTB at h
    split at h
    · rename_i tg x pos
      simp only [Bool.and_eq_true, Bool.not_eq_true'] at h
      obtain ⟨⟨⟨⟨h1, h2⟩, h3⟩, h4⟩, h5⟩ := h
      have hb : C.fnC = true ∨ C.fnC = false := by cases C.fnC <;> simp
      have has : (assignEach [tg] Xa.env).map (·.2) = [assign tg Xa.env] := by cases tg <;> first | rfl | cases h3
      refine PSs.imp (pss_one (ps_asg (snd e w h5).pe (ok_tg w hb h4) (sw1_no h1 _ _) (noSwap_of h2 _) has)) fun De σ H hq => ?_
      obtain ⟨env, st, F, φ, S, r, hq⟩ := hq
      simp only [tbv] at hq
      refine ⟨env, st, F, φ, S, r, Sat.bind hq fun d st1 F1 φ1 H1 e1 S1 h1 v rv => ?_⟩
      split at h1
      · rename_i env' eb
        exact ⟨env, st1, F1, φ1, d, S1, r.mono e1, rv, env', eb, fun σ' r' _ => h1.ok S1 σ' r'⟩
      · exact h1.elim
    · cases h
  | .exSet e t q, C, body, w, w0, h => by
    unfold chkTB at h
    split at h
    · rename_i x p1 tg y p2
      simp only [Bool.and_eq_true, Bool.not_eq_true'] at h
      obtain ⟨⟨⟨⟨⟨⟨h0, h1⟩, h2⟩, h3⟩, h4⟩, h5⟩, h6⟩ := h
      have hb : C.fnC = true ∨ C.fnC = false := by cases C.fnC <;> simp
      have has : (assignEach [tg] Xa.env).map (·.2) = [assign tg Xa.env] := by cases tg <;> first | rfl | cases h4
      refine PSs.imp (pss_cons (ps_expr (snd e w h1).pe (sw_no h0 _ _ _)) (pss_one (ps_asg (snd q w0 h6).pe (ok_tg w hb h5) (sw1_no h2 _ _) (noSwap_of h3 _) has))) fun De σ H hq => ?_
      obtain ⟨env, st, F, φ, S, r, hq⟩ := hq
      simp only [tbv] at hq
      refine ⟨env, st, F, φ, S, r, Sat.bind hq fun d0 st0 F0 φ0 H0 e0 S0 g0 v0 rv0 => ⟨env, st0, F0, φ0, S0, r.mono e0, sat_noEx_bind g0 fun d st1 F1 φ1 H1 e1 S1 h1 v rv => ?_⟩⟩
      split at h1
      · rename_i env' eb
        exact ⟨env, st1, F1, φ1, d, S1, (r.mono e0).mono e1, rv, env', eb, fun σ' r' _ => (h1.ext e1).ok S1 σ' r'⟩
      · exact h1.elim
    · cases h
  | .ife c a b, C, body, w, w0, h => by
    unfold chkTB at h
    split at h
    · simp only [Bool.and_eq_true] at h
      refine PSs.imp (pss_one (ps_if (snd c w h.1.1).pt (tb_ok a w w0 h.1.2) (tb_ok b w w0 h.2))) fun De σ H hq => ?_
      obtain ⟨env, st, F, φ, S, r, hq⟩ := hq
      simp only [tbv] at hq
      refine ⟨env, st, F, φ, S, r, Sat.bind hq fun k st1 F1 φ1 H1 e1 S1 h1 => ?_⟩
      cases k with
      | true => exact ⟨env, st1, F1, φ1, S1, r.mono e1, h1⟩
      | false => exact ⟨env, st1, F1, φ1, S1, r.mono e1, h1⟩
    · cases h
/-- the clauses' readings -/
def clsOf (K : PySem.W.Frag) (XR : XRT) (mg : Str → Option Value) : List Hd → List ExceptHandler → List Cl
  | h :: r, .ExceptHandler (some (.Name x _)) _ _ _ :: hs => ((mg x).getD .none, h.oi, fun a cls d De σ H => rSE K XR a cls d h.oi (fun x st => seE x h.e st) σ H fun u H1 => De.nx (σ.set h.j (some u)) H1) :: clsOf K XR mg r hs
  | _, _ => []
theorem cls_ok {E' : EK} (w : WF X C G XR E') : ∀ {hs : List Hd} {hds : List ExceptHandler}, chkHds C hs hds = true → ClsOk X hds (clsOf X.K XR X.mg hs hds)
  | [], [], _ => .nil
  | h :: r, x :: xs, hc => by
    simp only [chkHds, Bool.and_eq_true] at hc
    have ih := cls_ok w hc.2
    have h1 := hc.1
    unfold chkHd at h1
    split at h1
    · rename_i xn q0 n y q1 v q2 q3
      simp only [Bool.and_eq_true, decide_eq_true_eq] at h1
      obtain ⟨⟨⟨⟨⟨⟨a1, a2⟩, a3⟩, a4⟩, a5⟩, a6⟩, a7⟩ := h1
      obtain ⟨g1, g2⟩ := gl_of w a1
      obtain ⟨d1, _, _⟩ := okName_of g1
      obtain ⟨B, b1, b2⟩ := w.hcl _ (by simpa using a2)
      have hN : Names X _ ((X.mg _).getD .none) := ⟨g2, d1, .inl (by rw [b2]; rfl)⟩
      unfold clsOf
      split at a7
      · rename_i e2
        rw [e2]
        refine .bare hN (fun a oe cls d pn hz hf => ?_) ih
        have := suite_ok (h := h) (q := q1) (pos := q2) (pn := pn) (a := a) w hz hf a4 a5 a6
        rw [e2] at this
        exact this
      · rename_i m i e2
        simp only [Bool.and_eq_true, decide_eq_true_eq] at a7
        rw [e2]
        obtain ⟨_, s2⟩ := slot_of a7.1
        refine .named (i := i) hN (by rw [w.N]; exact s2) (show X.env.scope.names.lookup m = _ by rw [w.sc]; exact a7.2) (fun a oe cls d pn hz hf => ?_) ih
        have := suite_ok (h := h) (q := q1) (pos := q2) (pn := pn) (a := a) w hz hf a4 a5 a6
        rw [e2] at this
        exact this
      · cases a7
    · cases h1
  | [], _ :: _, h => by simp [chkHds] at h
  | _ :: _, [], h => by simp [chkHds] at h
theorem wmix_ok (w : WFS X C G XR E) {De : Ends} {σ : L2.St} {x : Exc} {env : Env} {st : Store} : ∀ {hs : List Hd} {hds : List ExceptHandler} {F H : Hp} {φ : List Addr} {cls : Value} {oa : Option Addr}, chkHds C hs hds = true → SR X.K F φ st H → ER X.K F φ env σ → XRel X.K F φ x cls oa H →
    Sat X.K XR E (QS X.K De) F φ (hdL hs x env st) → wMix X.K (fun cls d _ H => E cls d H) De (clsOf X.K XR X.mg hs hds) cls oa σ H
  | [], [], F, H, φ, cls, oa, _, S, r, hx, h => by
    simp only [hdL] at h
    refine h F φ H cls oa Ext.refl S ?_
    rw [w.xr]; exact hx
  | hd :: rs, y :: ys, F, H, φ, cls, oa, hc, S, r, hx, h => by
    simp only [chkHds, Bool.and_eq_true] at hc
    have h1 := hc.1
    unfold chkHd at h1
    split at h1
    · simp only [Bool.and_eq_true, decide_eq_true_eq] at h1
      obtain ⟨⟨⟨⟨⟨⟨a1, a2⟩, a3⟩, a4⟩, a5⟩, a6⟩, a7⟩ := h1
      obtain ⟨A, x1, x2, x3⟩ := id hx
      unfold clsOf
      simp only [hdL] at h
      cases hv : valN hd.tb x.cls with
      | none => rw [hv] at h; exact h.elim
      | some bb =>
        rw [hv] at h
        have hm := List.all_eq_true.mp a3 _ (valN_mem hv)
        obtain ⟨A', B', m1, m2, m3, m4⟩ := w.wf.xmt _ _ _ (by simpa using hm)
        cases cls_one m1 x1
        refine ⟨bb, by rw [m3, x2]; exact m4, fun hb a hna => ?_, fun hb => ?_⟩
        · subst hb
          simp only at h
          split at h
          · rename_i hok
            have key : ∃ F1, Ext F φ F1 φ ∧ SR X.K F1 φ st H ∧ FRel X.K F1 φ oa x := by
              rcases x3 with e | ⟨dd, ws, e1, e2, e3⟩
              · exact ⟨F, Ext.refl, S, .inl e⟩
              · obtain ⟨S1, E1⟩ := S.known e2
                exact ⟨_, E1, S1, .inr ⟨dd, ws, e1, upd_same, fun f y hf => let ⟨v, g1, g2⟩ := e3 f y hf; ⟨v, g1, g2.mono E1⟩⟩⟩
            obtain ⟨F1, E1, S1, hfr⟩ := key
            have r1 := r.mono E1
            refine ⟨st, F1, φ, x, S1, fun i hi => ?_, hfr, ⟨_, x1, x2⟩, ?_⟩
            · rw [hi] at hok
              rw [hi]
              have : i < σ.length := by rw [← r.len]; exact of_decide_eq_true hok
              show (σ.set i (some (.ref a)))[i]? = _
              rw [List.getElem?_set_self this]
            · refine sat_noEx_bind (h.ext E1) fun d st2 F2 φ2 H2 e2 S2 h2 v rv => ?_
              have h3 := (h2.ext e2).ok S2
              cases ho : hd.oi with
              | none =>
                rw [ho] at h3
                exact h3 _ ((r1.mono e2).set rv)
              | some i =>
                rw [ho] at h3
                exact h3 _ ((((r1.mono e2).unset i _).set rv).unset i _)
          · exact h.elim
        · subst hb
          exact wmix_ok w hc.2 S r hx h
    · cases h1
  | [], _ :: _, _, _, _, _, _, h, _, _, _, _ => by simp [chkHds] at h
  | _ :: _, [], _, _, _, _, _, h, _, _, _, _ => by simp [chkHds] at h
theorem oks_try (w : WFS X C G XR E) {b : TB} {hs : List Hd} {body : List Stmt} {h0 : ExceptHandler} {hds : List ExceptHandler} {pos : Pos} (hb : chkTB { C with tr := true } b body = true) (hh : chkHds C hs (h0 :: hds) = true) : PS X (.Try body (h0 :: hds) [] [] pos) (rS X.K XR (fun _ => E) (sv G (.tryS b hs))) := by
  refine PS.imp (ps_try_mix (tb := fun W => rS X.K XR (WE W) (tbv G b)) w.stk w.frm w.wf.nd w.tk (fun W pn xe tk _ => tb_ok (Xa := X.tr pn xe) b (w.wf.tr W pn xe tk) (w.wf.tr0 pn xe) hb) (cls_ok w.wf hh)) fun De σ H hq => ?_
  obtain ⟨env, st, F, φ, S, r, hq⟩ := hq
  simp only [sv] at hq
  refine ⟨env, st, F, φ, S, r, ?_⟩
  cases hm : tbv G b env st with
  | bad => rw [hm] at hq; exact hq.elim
  | ok f st1 => rw [hm] at hq; exact hq
  | ex x st1 =>
    rw [hm] at hq
    intro F1 φ1 H1 cls oa e1 S1 hx
    rw [w.xr] at hx
    exact wmix_ok w hh S1 (r.mono e1) hx (hq.ext e1)
theorem oks_whl (w : WFS X C G XR E) {n : Nat} {c : ME} {b : MSs} {t : Expr} {x : List Stmt} {pos : Pos} (hc : OkP X XR (fun _ => E) t (ev G c)) (hb : PSs X x (rS X.K XR (fun _ => E) (svs G b))) : PS X (.While t x [] pos) (rS X.K XR (fun _ => E) (sv G (.whl n c b))) := by
  refine PS.imp (ps_while w.po hc.pt hb) fun De σ H hq => ?_
  obtain ⟨env, st, F, φ, S, r, hq⟩ := hq
  simp only [sv] at hq
  refine ⟨fun m σ H => ∃ env st F' φ', SR X.K F' φ' st H ∧ ER X.K F' φ' env σ ∧ Sat X.K XR E (QS X.K De) F' φ' (whlL (fun env st => truR (ev G c env st)) (svs G b) m env st), ⟨n, env, st, F, φ, S, r, hq⟩, ?_⟩
  rintro m σ' H' ⟨env', st', F', φ', S', r', h'⟩
  cases m with
  | zero => exact h'.elim
  | succ m =>
    unfold whlL at h'
    refine ⟨env', st', F', φ', S', r', Sat.bind h' fun k st1 F1 φ1 H1 e1 S1 h1 => ?_⟩
    cases k with
    | true =>
      refine ⟨fun σ2 H2 => ∃ env st F2 φ2, Ext F1 φ1 F2 φ2 ∧ SR X.K F2 φ2 st H2 ∧ ER X.K F2 φ2 env σ2 ∧ Sat X.K XR E (QS X.K De) F1 φ1 (whlL (fun env st => truR (ev G c env st)) (svs G b) m env st), ?_, ?_⟩
      · rintro σ2 H2 ⟨env2, st2, F2, φ2, e2, S2, r2, h2⟩
        exact ⟨m, Nat.lt_succ_self m, env2, st2, F2, φ2, S2, r2, h2.ext e2⟩
      · exact ⟨env', st1, F1, φ1, S1, r'.mono e1, sat_next Ext.refl h1 fun env5 st5 F5 φ5 σ5 H5 e5 S5 r5 h5 => ⟨env5, st5, F5, φ5, e5, S5, r5, h5⟩⟩
    | false => exact h1.ok S1 σ' (r'.mono e1)
mutual
theorem sndS (w : WFS X C G XR E) : ∀ (s : MS) {py : Stmt}, chkS C s py = true → PS X py (rS X.K XR (fun _ => E) (sv G s))
  | .set t e, py, h => by
    unfold chkS at h
    split at h
    · simp only [Bool.and_eq_true, Bool.not_eq_true'] at h
      obtain ⟨⟨⟨⟨h1, h2⟩, h3⟩, h4⟩, h5⟩ := h
      exact oks_set w h1 h2 h3 h4 (snd e w.wf h5)
    · cases h
  | .setFld o f cs e, py, h => by
    unfold chkS at h
    split at h
    · simp only [Bool.and_eq_true, decide_eq_true_eq, Bool.not_eq_true'] at h
      obtain ⟨⟨⟨⟨rfl, h2⟩, h3⟩, h4⟩, h5⟩ := h
      exact oks_setFld w.wf h2 h3 (snd o w.wf h4) (snd e w.wf h5)
    · cases h
  | .raise c np fs es, py, h => by
    unfold chkS at h
    split at h
    · simp only [Bool.and_eq_true, decide_eq_true_eq] at h
      obtain ⟨⟨⟨⟨⟨h1, rfl⟩, h3⟩, h4⟩, h5⟩, h6⟩ := h
      obtain ⟨q, hq, h7⟩ := List.any_eq_true.mp h3
      simp only [Bool.and_eq_true, beq_iff_eq] at h7
      obtain ⟨⟨k1, k2⟩, k3⟩ := h7
      have k3 := fesEq_eq k3
      obtain ⟨q1, q2, q3⟩ := q
      dsimp only at k1 k2 k3
      subst k1 k2 k3
      exact oks_raise w h1 hq h4 h5 h6 (snds es w.wf h6)
    · cases h
  | .tryS b hs, py, h => by
    unfold chkS at h
    split at h
    · simp only [Bool.and_eq_true] at h
      exact oks_try w h.1 h.2
    · cases h
  | .lock i ps s, py, h => by
    have h : chkS C s py = true := by simpa only [chkS] using h
    have := ok_lock i ps (sndS w s h)
    refine PS.imp this fun De σ H hq => ?_
    obtain ⟨env, st, F, φ, S, r, hq⟩ := hq
    simp only [sv] at hq
    exact ⟨env, st, F, φ, S, r, hq⟩
  | .whl n c b, py, h => by
    unfold chkS at h
    split at h
    · simp only [Bool.and_eq_true] at h
      exact oks_whl w (snd c w.wf h.1) (sndSs w b h.2)
    · cases h
  | .setLc i e, py, h => by
    unfold chkS at h
    split at h
    · simp only [Bool.and_eq_true, decide_eq_true_eq, Bool.not_eq_true'] at h
      obtain ⟨⟨⟨⟨⟨h1, h2⟩, h3⟩, h4⟩, h5⟩, h6⟩ := h
      exact oks_setLc w h1 h2 h3 h4 h5 h6
    · cases h
  | .setIx o i v, py, h => by
    unfold chkS at h
    split at h
    · simp only [Bool.and_eq_true, Bool.not_eq_true'] at h
      obtain ⟨⟨⟨⟨h1, h2⟩, h3⟩, h4⟩, h5⟩ := h
      exact oks_setIx (by have := w.wf.un; omega) h1 h2 (snd o w.wf h3) (snd i w.wf h4) (snd v w.wf h5)
    · cases h
  | .app o e, py, h => by
    unfold chkS at h
    split at h
    · simp only [Bool.and_eq_true, decide_eq_true_eq] at h
      obtain ⟨⟨⟨⟨⟨h1, h2⟩, h3⟩, h4⟩, h5⟩, h6⟩ := h
      exact oks_app h1 h2 h3 h4 (snd o w.wf h5) (snd e w.wf h6)
    · cases h
  | .ex e, py, h => by
    unfold chkS at h
    split at h
    · simp only [Bool.and_eq_true, Bool.not_eq_true'] at h
      exact oks_ex h.1 (snd e w.wf h.2)
    · cases h
  | .ret e, py, h => by
    unfold chkS at h
    split at h
    · exact oks_ret (snd e w.wf h)
    · cases h
  | .retN, py, h => by
    unfold chkS at h
    split at h
    · exact oks_retN
    · cases h
  | .ife c a b, py, h => by
    unfold chkS at h
    split at h
    · simp only [Bool.and_eq_true] at h
      exact oks_ife (snd c w.wf h.1.1) (sndSs w a h.1.2) (sndSs w b h.2)
    · cases h
  | .loop t it b, py, h => by
    unfold chkS at h
    split at h
    · simp only [Bool.and_eq_true] at h
      exact oks_loop w h.1.1 h.1.2 (sndSs w b h.2)
    · cases h
  | .pass, py, h => by
    unfold chkS at h
    split at h
    · exact oks_pass
    · cases h
  | .brk, py, h => by
    unfold chkS at h
    split at h
    · exact oks_brk
    · cases h
  | .cont, py, h => by
    unfold chkS at h
    split at h
    · exact oks_cont
    · cases h
theorem sndSs (w : WFS X C G XR E) : ∀ (ss : MSs) {py : List Stmt}, chkSs C ss py = true → PSs X py (rS X.K XR (fun _ => E) (svs G ss))
  | .nil, [], h => oks_nil
  | .cons s r, x :: xs, h => by
    simp only [chkSs, Bool.and_eq_true] at h
    exact oks_cons (sndS w s h.1) (sndSs w r h.2)
  | .nil, _ :: _, h => by simp [chkSs] at h
  | .cons _ _, [], h => by simp [chkSs] at h
end
end
end MP

set_option Elab.async false
set_option linter.all false
set_option autoImplicit false
set_option maxRecDepth 100000
set_option maxHeartbeats 2000000
/-! defs -/
namespace MP
open PySem PySem.Spec PyProof.Rows L2

structure Def where
  name : Str
  gname : Str
  qual : Str
  cls : Option Str
  N : List Str
  np : Nat
  dfl : List PyData
  body : MSs
  st : Stmt
  /-- it asks repr: called by none of the others -/
  rp : Bool := false
/-- what else is told of a text -/
structure Tabs where
  glbs : List (Str × PyData)
  gds : List (Str × List (Str × PyData))
  bl : List Str
  clsF : List (Str × Str)
  xcls : List (Str × Nat × List (Str × FE))
  xtab : List ((Str × Str) × Bool)
  xfld : List (Str × Str)
  hcs : List Str
  xisc : List Str := []
/-- a call's end: the cells that it made dropped -/
def finD (n : Nat) (d : D) (st : Store) : R D := if dBelow n d = true then .ok d (gc n st) else .ok d st
def exBelow (n : Nat) (e : Exc) : Bool := e.fs.all fun q => dBelow n q.2
def finX (n : Nat) (e : Exc) (st : Store) : R D := if exBelow n e = true then .ex e (gc n st) else .ex e st
def finR (n : Nat) (r : R Fl) : R D :=
  match r with
  | .ok (.nx _) st => finD n (.p .none) st
  | .ok (.rt d) st => finD n d st
  | .ex e st => finX n e st
  | _ => .bad
/-- the names at the entry -/
def env0 (n : Nat) (ds : List D) : Env := ds.map some ++ List.replicate (n - ds.length) none
noncomputable def fnSem (G : Sem1) (d : Def) (ds : List D) (st : Store) : R D :=
  if ds.length = d.np then finR st.length (svs G d.body (env0 d.N.length ds) st) else .bad
noncomputable def semK (defs : List Def) : Nat → Sem1
  | 0, _, _, _ => .bad
  | k + 1, i, ds, st => match defs[i]? with
    | some d => fnSem (semK defs k) d ds st
    | none => semK defs k (i - defs.length) ds st
termination_by n => n
theorem semK_zero (defs : List Def) (i : Nat) (ds : List D) (st : Store) : semK defs 0 i ds st = .bad := by rw [semK]
theorem semK_succ (defs : List Def) (k i : Nat) (ds : List D) (st : Store) : semK defs (k + 1) i ds st = match defs[i]? with
    | some d => fnSem (semK defs k) d ds st
    | none => semK defs k (i - defs.length) ds st := by rw [semK]
def scC (d : Def) : Bool :=
  let sc := defScope d.st
  decide (sc.kind = .function) && !sc.isCoroutine && !sc.isGenerator && decide d.N.Nodup && decide (d.N.take (d.N.take d.np).length = d.N.take d.np) && decide (d.np ≤ d.N.length) &&
    (d.N.take d.np).all (fun x => decide (sc.names.lookup x = some .local ∨ sc.names.lookup x = some .cell)) && sc.names.all (fun y => decide (y.2 ≠ .free))
theorem scC_of {d : Def} (h : scC d = true) : FnScope d.N (d.N.take d.np) (defScope d.st) ∧ (d.N.take d.np).length = d.np := by
  unfold scC at h
  simp only [Bool.and_eq_true, decide_eq_true_eq, Bool.not_eq_true', List.all_eq_true] at h
  obtain ⟨⟨⟨⟨⟨⟨⟨h1, h2⟩, h3⟩, h4⟩, h5⟩, h6⟩, h7⟩, h8⟩ := h
  exact ⟨⟨h1, h2, h3, h4, h5, h7, h8⟩, by rw [List.length_take]; omega⟩
def methsOf (defs : List Def) : List (Str × Str × Nat) := (defs.zipIdx).filterMap fun q => match q.1.cls with
  | some c => if q.1.name == ("__init__" : Str) then none else some (c, q.1.name, q.2)
  | none => none
def newsOf (defs : List Def) : List (Str × Nat) := (defs.zipIdx).filterMap fun q => match q.1.cls with
  | some c => if q.1.name == ("__init__" : Str) then some (c, q.2 + defs.length) else none
  | none => none
def dfsOf (defs : List Def) : List (Nat × List PyData) := (defs.zipIdx).filterMap fun q => match q.1.cls with
  | some _ => none
  | none => if q.1.dfl.isEmpty then none else some (q.2, q.1.dfl)
def fnName (d : Def) : Option Str := match d.cls with
  | some _ => none
  | none => if d.rp = true then none else some d.gname
/-- what is checked of a def's text -/
def ctxOf (defs : List Def) (T : Tabs) (d : Def) : Ctx := { N := d.N, sc := defScope d.st, fnC := true, tr := false, glbs := T.glbs, gds := T.gds, fns := defs.map fnName, bl := T.bl, clsF := T.clsF, meths := methsOf defs, news := newsOf defs, defs := dfsOf defs, xcls := T.xcls, xtab := T.xtab, xfld := T.xfld, hcs := T.hcs, xisc := T.xisc, rp := d.rp }
def defC (defs : List Def) (T : Tabs) (d : Def) : Bool := scC d && chkSs (ctxOf defs T d) d.body (defBody d.st)
def defK (defs : List Def) (T : Tabs) (d : Def) : Bool := if d.rp = true then d.cls.isNone else defC defs T d
/-- where a def stands behind the top -/
def FunAt (K : PySem.W.Frag) (mg : Str → Option Value) (d : Def) : Prop := match d.cls with
  | none => ∃ fa fd, Fun K d.name d.qual d.st fa fd ∧ (mg d.gname = some (.ref fa) ∧ clsAt K d.gname fa) ∧ Binds K fd (d.N.take d.np) [] ∧ (d.dfl ≠ [] → ∃ ds dvs, Binds K fd (d.N.take d.np) ds ∧ Vals dvs ds ∧ DpAll K (fun _ => none) dvs d.dfl)
  | some c => ∃ A fa fd, clsAt K c A ∧ Fun K d.name d.qual d.st fa fd ∧ Binds K fd (d.N.take d.np) [] ∧
      (if d.name == ("__init__" : Str) then mg c = some (.ref A) ∧ Mk K A fa else Cls K A ∧ Meth K A d.name fa)
structure Mods (K : PySem.W.Frag) (w : World) (mg : Str → Option Value) (defs : List Def) (T : Tabs) : Prop where
  fns : ∀ d ∈ defs, FunAt K mg d
  glb : ∀ x d, T.glbs.lookup x = some d → ∃ u v, mg x = some u ∧ RelV v u ∧ Dp K (fun _ => none) v d
  gds : ∀ x kvs, T.gds.lookup x = some kvs → ∃ p, mg x = some (.ref p) ∧ (p == sysModules) = false ∧ ∀ z d, kvs.lookup z = some d → ∃ v, KDct K w p z v ∧ L2.Dp K (fun _ => none) v d
  bl : ∀ x, x ∈ T.bl → mg x = none
  clf : ∀ c f, (c, f) ∈ T.clsF → ∃ A, clsAt K c A ∧ Cls K A ∧ NoAttr K A f
  xmk : ∀ c np fs, (c, np, fs) ∈ T.xcls → ∃ A, clsAt K c A ∧ mg c = some (.ref A) ∧ PySem.W.subIn K (.ref A) (.type "BaseException") = some true ∧ PySem.W.typeIn K (.ref A) = some (.type "type") ∧
    ((fs = [] ∧ PySem.W.keepIn K (.ref A) = true ∧ PySem.W.excIn K A veBases "ValueError.__new__" = true) ∨
      (OexC K A ∧ ∃ fI fd ps, PySem.W.findIn K (.ref A) "__init__" = some (some (.ref fI)) ∧ PySem.W.typeIn K (.ref fI) = some (.type "function") ∧ (∀ (P : Program) (w : World) (base : Heap), FnOk P w K mg base (L2.CX P w) 1 fI fd ps (spInit K A np fs)) ∧ Binds K fd ps []))
  xmt : ∀ c d b, ((c, d), b) ∈ T.xtab → ∃ A B, clsAt K c A ∧ clsAt K d B ∧ mg d = some (.ref B) ∧ PySem.W.exmOne K (.ref A) (.ref B) = some b
  xcf : ∀ c f, (c, f) ∈ T.xfld → ∃ A, clsAt K c A ∧ XfC K A ∧ PySem.W.findIn K (.ref A) f = some none
  hcl : ∀ d, d ∈ T.hcs → ∃ B, clsAt K d B ∧ mg d = some (.ref B)
  xis : ∀ c, c ∈ T.xisc → ∃ A, clsAt K c A ∧ ExcC K A ∧ PySem.W.subIn K (.ref A) (.ref A) = some true ∧ PySem.W.subIn K (.ref A) (.type "ValueError") = some true
section
variable {P : Program} {w : World} {K : PySem.W.Frag} {mg : Str → Option Value} {base : Heap} {E : XK}
theorem er_start {F : Hp} {φ : List Addr} {N : List Str} {vs : List V} {ds : List D} (r : RDs K F φ vs ds) : ER K F φ (env0 N.length ds) (L2.start N vs) := by
  have hl := rds_length r
  unfold env0 L2.start
  refine ⟨by simp [hl], fun i d hi => ?_⟩
  by_cases hz : i < ds.length
  · rw [List.getElem?_append_left (by simpa using hz), List.getElem?_map] at hi
    obtain ⟨e, h1, h2⟩ := Option.map_eq_some_iff.mp hi
    cases h2
    obtain ⟨v, h3, h4⟩ := rds_get r h1
    refine ⟨v, ?_, h4⟩
    rw [List.getElem?_append_left (by simp; omega), List.getElem?_map, h3]
    rfl
  · rw [List.getElem?_append_right (by simp; omega), List.getElem?_replicate] at hi
    split at hi <;> cases hi
theorem XRel.low {F H : Hp} {φ φ' : List Addr} {n : Nat} {e : Exc} {cls : Value} {oa : Option Addr} (low : ∀ v d, RD K F φ v d → dBelow n d = true → RD K F φ' v d) (hb : exBelow n e = true) (h : XRel K F φ e cls oa H) : XRel K F φ' e cls oa H := by
  obtain ⟨C, h1, h2, h3⟩ := h
  refine ⟨C, h1, h2, h3.imp id ?_⟩
  rintro ⟨d, ws, e1, e2, e3⟩
  refine ⟨d, ws, e1, e2, fun f x hf => ?_⟩
  obtain ⟨v, g1, g2⟩ := e3 f x hf
  refine ⟨v, g1, low v x g2 ?_⟩
  have hm : (f, x) ∈ e.fs := by
    have key : ∀ {l : List (Str × D)}, l.lookup f = some x → (f, x) ∈ l := by
      intro l
      induction l with
      | nil => intro h; cases h
      | cons a r ih =>
        intro h
        obtain ⟨g, y⟩ := a
        rw [List.lookup_cons] at h
        split at h
        · rename_i hfg
          cases Option.some.inj h
          rw [eq_of_beq hfg]
          exact List.mem_cons_self
        · exact List.mem_cons_of_mem _ (ih h)
    exact key hf
  exact List.all_eq_true.mp hb _ hm
theorem sat_fin {r : R Fl} {F H : Hp} {φ : List Addr} {st : Store} {Q : VK} (S : SR K F φ st H) (h : Sat K (XRel K) E (QE K Q) F φ (finR st.length r)) :
    Sat K (XRel K) E (QS K { nx := fun _ H' => Q .non H', rt := Q }) F φ r := by
  have back : ∀ {F' H' : Hp} {φ' φ2 : List Addr}, Ext F φ F' φ' → (φ2 = φ' ∨ φ2 = φ'.take st.length) → Ext F φ F' φ2 := by
    intro F' H' φ' φ2 x hφ
    refine ⟨x.sub, ?_⟩
    rcases hφ with rfl | rfl
    · exact x.pre
    · rw [← S.len]; exact pre_take x.pre
  have key : ∀ d st', Sat K (XRel K) E (QE K Q) F φ (finD st.length d st') → ∀ F' φ' H', Ext F φ F' φ' → SR K F' φ' st' H' → ∀ v, RD K F' φ' v d → Q v H' := by
    intro d st' h F' φ' H' x S' v rv
    unfold finD at h
    split at h
    · rename_i hb
      obtain ⟨φ2, S2, hφ, low⟩ := S'.gc st.length
      exact h F' φ2 H' (back (H' := H') x hφ) S2 v (low v d rv hb)
    · exact h F' φ' H' x S' v rv
  cases r with
  | bad => exact h.elim
  | ex c st' =>
    intro F' φ' H' cls oa x S' hxr
    have h : Sat K (XRel K) E (QE K Q) F φ (finX st.length c st') := h
    unfold finX at h
    split at h
    · rename_i hb
      obtain ⟨φ2, S2, hφ, low⟩ := S'.gc st.length
      exact h F' φ2 H' cls oa (back (H' := H') x hφ) S2 (hxr.low low hb)
    · exact h F' φ' H' cls oa x S' hxr
  | ok f st' =>
    cases f with
    | nx env => exact fun F' φ' H' x S' σ' _ => key _ _ h F' φ' H' x S' .non rd_non
    | rt d => exact fun F' φ' H' x S' v rv => key _ _ h F' φ' H' x S' v rv
    | bk env => exact h.elim
    | ct env => exact h.elim
theorem dp_of_ints {K : PySem.W.Frag} {F : Hp} : ∀ ns : List Int, DpAll K F (ns.map V.int) (ns.map PyData.int)
  | [] => .nil
  | n :: r => .cons (.int n) (dp_of_ints r)
theorem semK_at {defs : List Def} {k i : Nat} {d : Def} (hd : defs[i]? = some d) (ds : List D) (st : Store) : semK defs (k + 1) i ds st = fnSem (semK defs k) d ds st := by
  rw [semK_succ, hd]
theorem semK_new {defs : List Def} {k i : Nat} (ds : List D) (st : Store) : semK defs (k + 1) (i + defs.length) ds st = semK defs k i ds st := by
  rw [semK_succ, List.getElem?_eq_none (by omega), Nat.add_sub_cancel]
theorem fnBad {k : Nat} {fa : Addr} {fd : FuncData} {ps : List Str} {XR : XRT} {sem : List D → Store → R D} (h : ∀ ds st, sem ds st = .bad) : FnOk P w K mg base (L2.CX P w) k fa fd ps (spOf K XR sem) := by
  refine ⟨fun vs H Q E hq => ?_, fun A outer s H args us vs Q E hr e0 hb r hq => ?_⟩
  · obtain ⟨ds, st, _, _, _, _, hq⟩ := hq
    rw [h ds st] at hq
    exact hq.elim
  · obtain ⟨ds, st, _, _, _, _, hq⟩ := hq
    rw [h ds st] at hq
    exact hq.elim
theorem zipIdx_mem {α : Type} {l : List α} {a : α} {i : Nat} (h : (a, i) ∈ l.zipIdx) : l[i]? = some a := by
  obtain ⟨j, hj, e⟩ := List.getElem_of_mem h
  rw [List.getElem_zipIdx] at e
  cases e
  simp only [List.length_zipIdx] at hj
  simp [hj]
/-- each def keeps its meaning, k calls deep -/
theorem fnOk {defs : List Def} {T : Tabs} (M : Mods K w mg defs T) (hc : ∀ d ∈ defs, defK defs T d = true) : ∀ (k : Nat) (i : Nat) (d : Def), defs[i]? = some d → d.rp = false → ∀ fa fd, Fun K d.name d.qual d.st fa fd →
    FnOk P w K mg base (L2.CX P w) (k + 2) fa fd (d.N.take d.np) (spOf K (XRel K) (semK defs k i))
  | 0, i, d, hd, _, fa, fd, F => fnBad fun _ _ => semK_zero ..
  | k + 1, i, d, hd, hrp, fa, fd, F => by
    have hdm := List.mem_of_getElem? hd
    have hcd := hc d hdm
    have rpc : ∀ (d' : Def) (c : Str), d' ∈ defs → d'.cls = some c → d'.rp = false := fun d' c hm hcl => by
      have := hc d' hm
      unfold defK at this
      split at this
      · rw [hcl] at this; cases this
      · rename_i q; simpa using q
    unfold defK at hcd
    rw [if_neg (by rw [hrp]; simp)] at hcd
    unfold defC at hcd
    rw [Bool.and_eq_true] at hcd
    obtain ⟨hsc, hlen⟩ := scC_of hcd.1
    have sem_eq := fun ds st => semK_at (k := k) hd ds st
    refine F.okX hsc (fun vs H Q E h => ?_) (fun cdv A outer s H vs Q E hr h => ?_)
    · obtain ⟨ds, st, F', φ, S, r, h⟩ := h
      rw [sem_eq] at h
      unfold fnSem at h
      split at h
      · rename_i e
        rw [rds_length r, e, hlen]
      · exact h.elim
    · obtain ⟨ds, st, F', φ, S, r, h⟩ := h
      rw [sem_eq] at h
      unfold fnSem at h
      split at h
      · have tk : Takes (cxOf (L2.CX P w) P w K mg base d.N d.qual (defScope d.st) fa cdv A outer s H E) fun cls d σ H => E cls d H := takes_of rfl rfl rfl rfl
        have pcall : Passes (L2.CX P w) (cxOf (L2.CX P w) P w K mg base d.N d.qual (defScope d.st) fa cdv A outer s H E) E := passes_call tk fun cls d σ H h => h
        have wf : WF (cxOf (L2.CX P w) P w K mg base d.N d.qual (defScope d.st) fa cdv A outer s H E) (ctxOf defs T d) (semK defs k) (XRel K) (fun _ => E) := by
          refine ⟨rfl, rfl, hsc.nd, rfl, fun _ _ => rfl, M.glb, M.gds, M.bl, fun j f hj => ?_, M.clf, fun c m j hj => ?_, fun c j hj => ?_, fun j dv f hj hf => ?_, fun c np fs hm => ?_, M.xmt, M.xcf, M.hcl, M.xis, fun _ => ⟨E, rfl, pcall⟩, fun σ pins H s e s' I c => pcall pins σ H s e s' I c, ?_, ?_⟩
          · have hj : (defs.map fnName)[j]? = some (some f) := hj
            rw [List.getElem?_map] at hj
            obtain ⟨d', h1, h2⟩ := Option.map_eq_some_iff.mp hj
            have hf := M.fns d' (List.mem_of_getElem? h1)
            unfold FunAt at hf
            unfold fnName at h2
            cases hcl : d'.cls with
            | none =>
              rw [hcl] at hf h2
              dsimp only at h2
              split at h2
              · cases h2
              · rename_i hq
                cases Option.some.inj h2
                obtain ⟨fa', fd', F2, hm, hb, _⟩ := hf
                exact ⟨k + 2, fa', fd', d'.N.take d'.np, fnOk M hc k j d' h1 (by simpa using hq) fa' fd' F2, hr, hm, F2.kp, hb⟩
            | some c =>
              rw [hcl] at h2
              cases h2
          · obtain ⟨⟨d', j'⟩, h1, h2⟩ := List.mem_filterMap.mp hj
            have hf := M.fns d' (List.mem_of_getElem? (zipIdx_mem h1))
            unfold FunAt at hf
            dsimp only at h2
            split at h2
            · rename_i c' hcl
              split at h2
              · cases h2
              · rename_i hni
                cases Option.some.inj h2
                rw [hcl] at hf
                obtain ⟨A', fa', fd', g1, F2, hb, g2⟩ := hf
                rw [if_neg hni] at g2
                exact ⟨A', k + 2, fa', fd', d'.N.take d'.np, g1, g2.1, g2.2, fnOk M hc k j d' (zipIdx_mem h1) (rpc _ _ (List.mem_of_getElem? (zipIdx_mem h1)) hcl) fa' fd' F2, hr, hb⟩
            · cases h2
          · obtain ⟨⟨d', j'⟩, h1, h2⟩ := List.mem_filterMap.mp hj
            have hf := M.fns d' (List.mem_of_getElem? (zipIdx_mem h1))
            unfold FunAt at hf
            dsimp only at h2
            split at h2
            · rename_i c' hcl
              split at h2
              · rename_i hni
                cases Option.some.inj h2
                rw [hcl] at hf
                obtain ⟨A', fa', fd', g1, F2, hb, g2⟩ := hf
                rw [if_pos hni] at g2
                cases k with
                | zero => exact ⟨A', 0, fa', fd', d'.N.take d'.np, g1, g2.1, g2.2, fnBad fun _ _ => semK_zero .., hr.mono (by omega), hb⟩
                | succ k =>
                  refine ⟨A', k + 2, fa', fd', d'.N.take d'.np, g1, g2.1, g2.2, ?_, hr.mono (by omega), hb⟩
                  have e : semK defs (k + 1) (j' + defs.length) = semK defs k j' := by funext ds st; exact semK_new ds st
                  rw [e]
                  exact fnOk M hc k j' d' (zipIdx_mem h1) (rpc _ _ (List.mem_of_getElem? (zipIdx_mem h1)) hcl) fa' fd' F2
              · cases h2
            · cases h2
          · obtain ⟨⟨d', j'⟩, h1, h2⟩ := List.mem_filterMap.mp hj
            have hg := zipIdx_mem h1
            have hff := M.fns d' (List.mem_of_getElem? hg)
            unfold FunAt at hff
            dsimp only at h2
            split at h2
            · cases h2
            · rename_i hcl
              split at h2
              · cases h2
              · rename_i hne
                cases Option.some.inj h2
                rw [hcl] at hff
                obtain ⟨fa', fd', F2, hm, hb, hd2⟩ := hff
                obtain ⟨ds2, dvs, q1, q2, q3⟩ := hd2 (fun z => by rw [z] at hne; exact hne rfl)
                have hj2 : (defs.map fnName)[j]? = some (some f) := hf
                rw [List.getElem?_map, hg] at hj2
                have hfn : fnName d' = some f := Option.some.inj hj2
                unfold fnName at hfn
                rw [hcl] at hfn
                dsimp only at hfn
                split at hfn
                · cases hfn
                · rename_i hq
                  cases Option.some.inj hfn
                  exact ⟨k + 2, fa', fd', d'.N.take d'.np, ds2, dvs, fnOk M hc k j d' hg (by simpa using hq) fa' fd' F2, hr, hm.1, F2.kp, q1, q2, q3⟩
          · obtain ⟨A', g1, g2, g3, g4, g5⟩ := M.xmk c np fs hm
            refine ⟨A', g1, g2, raises_own g3 g4, ?_⟩
            rcases g5 with g5 | ⟨ox, fI, fd', ps, q1, q2, q3, q4⟩
            · exact .inl g5
            · exact .inr ⟨ox, 1, fI, fd', ps, q1, q2, q3 P w base, hr.mono (by omega), q4⟩
          · have := hr.un
            show (A.deeper _).units + 200 < cLine
            omega
          · exact fun z => by rw [show (ctxOf defs T d).rp = d.rp from rfl, hrp] at z; cases z
        have wfs : WFS (cxOf (L2.CX P w) P w K mg base d.N d.qual (defScope d.st) fa cdv A outer s H E) (ctxOf defs T d) (semK defs k) (XRel K) E := ⟨wf, passes_of rfl, hsc.kind, rfl, tk, rfl, rfl⟩
        refine ⟨_, sndSs wfs d.body hcd.2, env0 d.N.length ds, st, F', φ, S, er_start r, sat_fin S h⟩
      · exact h.elim
end
end MP

set_option Elab.async false
set_option linter.all false
set_option autoImplicit false
set_option maxRecDepth 100000
set_option maxHeartbeats 1000000
/-! what holds behind a reading: a plain calculus -/
namespace MP
open PySem PySem.Spec PyProof.Rows L2

def wpe {α : Type} (X : Exc → Store → Prop) (r : R α) (Q : α → Store → Prop) : Prop :=
  match r with
  | .ok a st => Q a st
  | .ex e st => X e st
  | .bad => False
/-- nothing is raised -/
def NoX : Exc → Store → Prop := fun _ _ => False
variable {X : Exc → Store → Prop}
@[simp] theorem noX_F (e : Exc) (st : Store) : NoX e st = False := Eq.trans rfl rfl
section
variable {α β : Type} {Q : α → Store → Prop}
@[simp] theorem wp_ok (a : α) (st : Store) : wpe X (.ok a st) Q = Q a st := Eq.trans rfl rfl
@[simp] theorem wp_bad : wpe X (.bad : R α) Q = False := Eq.trans rfl rfl
@[simp] theorem wp_ex (e : Exc) (st : Store) : wpe X (.ex e st : R α) Q = X e st := Eq.trans rfl rfl
@[simp] theorem wp_bind (r : R α) (k : α → Store → R β) (Q : β → Store → Prop) : wpe X (r.bind k) Q = wpe X r fun a st => wpe X (k a st) Q := by cases r <;> rfl
theorem wp_mono {r : R α} {Q' : α → Store → Prop} (h : wpe X r Q) (i : ∀ a st, Q a st → Q' a st) : wpe X r Q' := by
  cases r with
  | ok a st => exact i a st h
  | _ => exact h
theorem wpe_of {r : R α} (h : wpe NoX r Q) : wpe X r Q := by
  cases r with
  | ok a st => exact h
  | _ => exact h.elim
theorem wpe_mono {X' : Exc → Store → Prop} {r : R α} {Q' : α → Store → Prop} (h : wpe X r Q) (i : ∀ a st, Q a st → Q' a st) (j : ∀ e st, X e st → X' e st) : wpe X' r Q' := by
  cases r with
  | ok a st => exact i a st h
  | ex e st => exact j e st h
  | bad => exact h
theorem wp_elim {r : R α} (h : wpe NoX r Q) : ∃ a st, r = .ok a st ∧ Q a st := by
  cases r with
  | ok a st => exact ⟨a, st, rfl, h⟩
  | _ => exact h.elim
@[simp] theorem wp_noEx (r : R α) : wpe X (noEx r) Q = wpe NoX r Q := by cases r <;> rfl
theorem wp_catch (r : R Fl) (k : Exc → Store → R Fl) (Q : Fl → Store → Prop) : wpe X (catchR r k) Q = wpe (fun e st => wpe X (k e st) Q) r Q := by cases r <;> rfl
@[simp] theorem wp_ite (c : Prop) [Decidable c] (a b : R α) : wpe X (if c then a else b) Q = if c then wpe X a Q else wpe X b Q := by split <;> rfl
end
def QF (Q : Fl → Store → Prop) (k : Env → Store → Prop) : Fl → Store → Prop
  | .nx env, st => k env st
  | f, st => Q f st
@[simp] theorem QF_nx (Q : Fl → Store → Prop) (k : Env → Store → Prop) (env : Env) (st : Store) : QF Q k (.nx env) st = k env st := Eq.trans rfl rfl
@[simp] theorem QF_rt (Q : Fl → Store → Prop) (k : Env → Store → Prop) (d : D) (st : Store) : QF Q k (.rt d) st = Q (.rt d) st := Eq.trans rfl rfl
@[simp] theorem QF_bk (Q : Fl → Store → Prop) (k : Env → Store → Prop) (env : Env) (st : Store) : QF Q k (.bk env) st = Q (.bk env) st := Eq.trans rfl rfl
@[simp] theorem QF_ct (Q : Fl → Store → Prop) (k : Env → Store → Prop) (env : Env) (st : Store) : QF Q k (.ct env) st = Q (.ct env) st := Eq.trans rfl rfl
@[simp] theorem wp_then (r : R Fl) (k : Env → Store → R Fl) (Q : Fl → Store → Prop) : wpe X (thenR r k) Q = wpe X r (QF Q fun env st => wpe X (k env st) Q) := by
  cases r with
  | ok f st => cases f <;> rfl
  | _ => rfl
/-- a loop's turn -/
def QN (Q : Fl → Store → Prop) (k : Env → Store → Prop) : Fl → Store → Prop
  | .nx env, st => k env st
  | .ct env, st => k env st
  | .bk env, st => Q (.nx env) st
  | .rt d, st => Q (.rt d) st
@[simp] theorem QN_nx (Q : Fl → Store → Prop) (k : Env → Store → Prop) (env : Env) (st : Store) : QN Q k (.nx env) st = k env st := Eq.trans rfl rfl
@[simp] theorem QN_rt (Q : Fl → Store → Prop) (k : Env → Store → Prop) (d : D) (st : Store) : QN Q k (.rt d) st = Q (.rt d) st := Eq.trans rfl rfl
@[simp] theorem QN_bk (Q : Fl → Store → Prop) (k : Env → Store → Prop) (env : Env) (st : Store) : QN Q k (.bk env) st = Q (.nx env) st := Eq.trans rfl rfl
@[simp] theorem QN_ct (Q : Fl → Store → Prop) (k : Env → Store → Prop) (env : Env) (st : Store) : QN Q k (.ct env) st = k env st := Eq.trans rfl rfl
theorem wp_next (r : R Fl) (k : Env → Store → R Fl) (Q : Fl → Store → Prop) : wpe X (nextR r k) Q = wpe X r (QN Q fun env st => wpe X (k env st) Q) := by
  cases r with
  | ok f st => cases f <;> rfl
  | _ => rfl
def QT1 (Q : Bool → Store → Prop) : D → Store → Prop := fun d st => ∃ k, tru d st = some k ∧ Q k st
@[simp] theorem wp_truR (r : R D) (Q : Bool → Store → Prop) : wpe X (truR r) Q = wpe X r (QT1 Q) := by
  unfold truR
  rw [wp_bind]
  congr 1
  funext d st
  unfold QT1
  cases tru d st with
  | none => simp
  | some k => simp
@[simp] theorem QT1_bool (Q : Bool → Store → Prop) (b : Bool) (st : Store) : QT1 Q (.p (.bool b)) st = Q b st := by
  unfold QT1; simp [tru]
/-- the end of a call -/
def QE1 (X : Exc → Store → Prop) (n : Nat) (Q : D → Store → Prop) : Fl → Store → Prop
  | .nx _, st => wpe X (finD n (.p .none) st) Q
  | .rt d, st => wpe X (finD n d st) Q
  | _, _ => False
/-- .. where it raises -/
def XE1 (X : Exc → Store → Prop) (n : Nat) : Exc → Store → Prop := fun e st => if exBelow n e = true then X e (gc n st) else X e st
theorem wp_finX (n : Nat) (e : Exc) (st : Store) (Q : D → Store → Prop) : wpe X (finX n e st) Q = XE1 X n e st := by
  unfold finX XE1
  split <;> rfl
@[simp] theorem wp_fin (n : Nat) (r : R Fl) (Q : D → Store → Prop) : wpe X (finR n r) Q = wpe (XE1 X n) r (QE1 X n Q) := by
  cases r with
  | ok f st => cases f <;> rfl
  | ex e st => exact wp_finX n e st Q
  | bad => rfl
@[simp] theorem QE1_nx (n : Nat) (Q : D → Store → Prop) (env : Env) (st : Store) : QE1 X n Q (.nx env) st = wpe X (finD n (.p .none) st) Q := Eq.trans rfl rfl
@[simp] theorem QE1_rt (n : Nat) (Q : D → Store → Prop) (d : D) (st : Store) : QE1 X n Q (.rt d) st = wpe X (finD n d st) Q := Eq.trans rfl rfl
theorem wp_finP {n : Nat} {x : PyData} {st : Store} {Q : D → Store → Prop} : wpe X (finD n (.p x) st) Q = Q (.p x) (gc n st) := Eq.trans rfl rfl
theorem sem_eq {defs : List Def} {k i : Nat} {d : Def} (h : defs[i]? = some d) {ds : List D} {st : Store} (hl : ds.length = d.np) : semK defs (k + 1) i ds st = finR st.length (svs (semK defs k) d.body (env0 d.N.length ds) st) := by
  rw [semK_at h, fnSem, if_pos hl]
/-- a call -/
theorem wpe_sem {defs : List Def} {k i : Nat} {d : Def} (h : defs[i]? = some d) {ds : List D} {st : Store} {Q : D → Store → Prop} (hl : ds.length = d.np)
    (hw : wpe (XE1 X st.length) (svs (semK defs k) d.body (env0 d.N.length ds) st) (QE1 X st.length Q)) : wpe X (semK defs (k + 1) i ds st) Q := by
  rw [sem_eq h hl, wp_fin]
  exact hw
theorem wp_sem {defs : List Def} {k i : Nat} {d : Def} (h : defs[i]? = some d) {ds : List D} {st : Store} {Q : D → Store → Prop} (hl : ds.length = d.np)
    (hw : wpe NoX (svs (semK defs k) d.body (env0 d.N.length ds) st) (QE1 X st.length Q)) : wpe X (semK defs (k + 1) i ds st) Q :=
  wpe_sem h hl (wpe_of hw)
/-- the cells above are dropped -/
theorem gc_app {st ex : Store} (h : st.all (cellBelow st.length) = true) : gc st.length (st ++ ex) = st := by
  unfold gc
  rw [List.take_left, if_pos h]
theorem gc_at {n : Nat} {st ex : Store} (e : n = st.length) (h : st.all (cellBelow n) = true) : gc n (st ++ ex) = st := by
  subst e; exact gc_app h
theorem gc_self {n : Nat} {st : Store} (e : n = st.length) : gc n st = st := by
  subst e; unfold gc; rw [List.take_length]; split <;> rfl
/-- a loop over items, an invariant by the place -/
theorem wp_for {gd : Store → Prop} {tg : MT} {body : Env → Store → R Fl} {Q : Fl → Store → Prop} (I : Nat → Env → Store → Prop) (its : List Itm)
    (hg : ∀ j env st, I j env st → gd st)
    (hb : ∀ j (h : j < its.length) env st, I j env st → ∃ env1, bindI st tg its[j] env = some env1 ∧ wpe X (body env1 st) (QN Q (I (j + 1))))
    (he : ∀ env st, I its.length env st → Q (.nx env) st) : ∀ (n j : Nat) (env : Env) (st : Store), j + n = its.length → I j env st → wpe X (forL gd tg body (its.drop j) env st) Q
  | 0, j, env, st, e, hi => by
    have : its.drop j = [] := List.drop_of_length_le (by omega)
    rw [this]
    unfold forL
    rw [if_pos (hg j env st hi)]
    have e : j = its.length := by omega
    subst e
    exact he env st hi
  | n + 1, j, env, st, e, hi => by
    have hj : j < its.length := by omega
    have : its.drop j = its[j] :: its.drop (j + 1) := List.drop_eq_getElem_cons hj
    rw [this]
    unfold forL
    rw [if_pos (hg j env st hi)]
    obtain ⟨env1, h1, h2⟩ := hb j hj env st hi
    rw [h1]
    show wpe X (nextR _ _) Q
    rw [wp_next]
    refine wp_mono h2 fun f st' h => ?_
    have ih := fun env st => wp_for I its hg hb he n (j + 1) env st (by omega)
    cases f with
    | nx env' => exact ih env' st' h
    | ct env' => exact ih env' st' h
    | rt d => exact h
    | bk env' => exact h
theorem wp_for0 {gd : Store → Prop} {tg : MT} {body : Env → Store → R Fl} {Q : Fl → Store → Prop} (I : Nat → Env → Store → Prop) {its : List Itm} {env : Env} {st : Store} (h0 : I 0 env st)
    (hg : ∀ j env st, I j env st → gd st)
    (hb : ∀ j (h : j < its.length) env st, I j env st → ∃ env1, bindI st tg its[j] env = some env1 ∧ wpe X (body env1 st) (QN Q (I (j + 1))))
    (he : ∀ env st, I its.length env st → Q (.nx env) st) : wpe X (forL gd tg body its env st) Q := by
  have := wp_for I its hg hb he its.length 0 env st (by omega) h0
  rwa [List.drop_zero] at this
/-- .. a comprehension -/
theorem wp_lc {gd : Store → Prop} {n : Nat} {tg : MT} {cond elt : MD} {env0 : Env} {Q : Unit → Store → Prop} (I : Nat → List D → Store → Prop) (its : List Itm)
    (hn : ∀ j acc st, I j acc st → cellL st n = some acc)
    (hg : ∀ j acc st, I j acc st → gd st)
    (hb : ∀ j (h : j < its.length) acc st, I j acc st → ∃ env1, bindI st tg its[j] env0 = some env1 ∧ wpe NoX (cond env1 st) (QT1 fun b st1 => if b = true then wpe NoX (elt env1 st1) fun d st2 => ∃ acc', cellL st2 n = some acc' ∧ acc'.length < SZ ∧ I (j + 1) (acc' ++ [d]) (st2.set n (.lst (acc' ++ [d])))
        else ∃ acc', I (j + 1) acc' st1))
    (he : ∀ acc st, I its.length acc st → Q () st) : ∀ (m j : Nat) (acc : List D) (st : Store), j + m = its.length → I j acc st → wpe X (lcL gd n tg cond elt env0 (its.drop j) st) Q
  | 0, j, acc, st, e, hi => by
    have : its.drop j = [] := List.drop_of_length_le (by omega)
    rw [this]
    unfold lcL
    rw [if_pos (hg j acc st hi)]
    have e : j = its.length := by omega
    subst e
    exact he acc st hi
  | m + 1, j, acc, st, e, hi => by
    have hj : j < its.length := by omega
    have : its.drop j = its[j] :: its.drop (j + 1) := List.drop_eq_getElem_cons hj
    rw [this]
    unfold lcL
    rw [if_pos (hg j acc st hi)]
    obtain ⟨env1, h1, h2⟩ := hb j hj acc st hi
    rw [h1]
    have ih := fun acc st => wp_lc I its hn hg hb he m (j + 1) acc st (by omega)
    simp only [wp_bind, wp_noEx, wp_truR]
    refine wp_mono h2 fun d st1 ⟨k, hk, h3⟩ => ⟨k, hk, ?_⟩
    cases k with
    | true =>
      simp only [if_true, wp_bind, wp_noEx] at h3 ⊢
      refine wp_mono h3 fun d st2 ⟨acc', h4, h5, h6⟩ => ?_
      rw [h4]
      simp only [wp_ite]
      rw [if_pos h5]
      exact ih _ _ h6
    | false =>
      obtain ⟨acc', h4⟩ := h3
      exact ih acc' st1 h4
/-- a comprehension that changes nothing else: the values are a map of the items that stay -/
theorem wp_lcMap {gd : Store → Prop} {tg : MT} {cond elt : MD} {env0 : Env} {Q : Unit → Store → Prop} {its : List Itm} {base : Store} (f : Itm → D)
    (hg : ∀ acc, gd (base ++ [.lst acc])) (hz : its.length ≤ SZ)
    (hb : ∀ it ∈ its, ∀ acc, ∃ env1, bindI (base ++ [.lst acc]) tg it env0 = some env1 ∧ cond env1 (base ++ [.lst acc]) = .ok (.p (.bool true)) (base ++ [.lst acc]) ∧ elt env1 (base ++ [.lst acc]) = .ok (f it) (base ++ [.lst acc]))
    (he : Q () (base ++ [.lst (its.map f)])) : wpe X (lcL gd base.length tg cond elt env0 its (base ++ [.lst []])) Q := by
  have hc : ∀ acc, cellL (base ++ [Cell.lst acc]) base.length = some acc := fun acc => by
    unfold cellL
    rw [List.getElem?_concat_length]
  have := wp_lc (X := X) (gd := gd) (n := base.length) (tg := tg) (cond := cond) (elt := elt) (env0 := env0) (Q := Q) (fun j acc st => acc = (its.take j).map f ∧ st = base ++ [.lst acc]) its (fun j acc st h => by rw [h.2]; exact hc acc) (fun j acc st h => by rw [h.2]; exact hg acc)
    (fun j hj acc st h => by
      obtain ⟨h1, rfl⟩ := h
      obtain ⟨env1, q1, q2, q3⟩ := hb its[j] (List.getElem_mem hj) acc
      refine ⟨env1, q1, ?_⟩
      rw [q2, wp_ok, QT1_bool, if_pos rfl, q3, wp_ok]
      refine ⟨acc, hc acc, ?_, ?_, ?_⟩
      · rw [h1, List.length_map, List.length_take]; omega
      · rw [h1, List.take_succ_eq_append_getElem hj, List.map_append]; rfl
      · rw [List.set_append_right _ _ (Nat.le_refl _)]; simp)
    (fun acc st h => by
      obtain ⟨h1, rfl⟩ := h
      rw [List.take_length] at h1
      rw [h1]
      exact he) its.length 0 [] (base ++ [.lst []]) (by omega) ⟨rfl, rfl⟩
  rwa [List.drop_zero] at this
theorem wp_lc0 {gd : Store → Prop} {n : Nat} {tg : MT} {cond elt : MD} {env0 : Env} {Q : Unit → Store → Prop} (I : Nat → List D → Store → Prop) {its : List Itm} {st : Store} (h0 : I 0 [] st)
    (hn : ∀ j acc st, I j acc st → cellL st n = some acc)
    (hg : ∀ j acc st, I j acc st → gd st)
    (hb : ∀ j (h : j < its.length) acc st, I j acc st → ∃ env1, bindI st tg its[j] env0 = some env1 ∧ wpe NoX (cond env1 st) (QT1 fun b st1 => if b = true then wpe NoX (elt env1 st1) fun d st2 => ∃ acc', cellL st2 n = some acc' ∧ acc'.length < SZ ∧ I (j + 1) (acc' ++ [d]) (st2.set n (.lst (acc' ++ [d])))
        else ∃ acc', I (j + 1) acc' st1))
    (he : ∀ acc st, I its.length acc st → Q () st) : wpe X (lcL gd n tg cond elt env0 its st) Q := by
  have := wp_lc (X := X) I its hn hg hb he its.length 0 [] st (by omega) h0
  rwa [List.drop_zero] at this

/-! operations on known kinds (as equations that are not unfolded again) -/
section
variable {st : Store}
theorem nr {α : Sort _} {a b : α} (h : a = b) : a = b := Eq.trans h rfl
theorem e_add (i j : Int) : binD .Add (.p (.int i)) (.p (.int j)) st = .ok (.p (.int (i + j))) st := nr rfl
theorem e_sub (i j : Int) : binD .Sub (.p (.int i)) (.p (.int j)) st = .ok (.p (.int (i - j))) st := nr rfl
theorem e_mul (i j : Int) : binD .Mult (.p (.int i)) (.p (.int j)) st = if mulOk i j = true then .ok (.p (.int (i * j))) st else .bad := nr rfl
theorem e_div (i j : Int) : binD .FloorDiv (.p (.int i)) (.p (.int j)) st = if 0 < j ∧ j < 2 ^ 100 then .ok (.p (.int (i / j))) st else .bad := nr rfl
theorem e_mod (i j : Int) : binD .Mod (.p (.int i)) (.p (.int j)) st = if 0 < j then .ok (.p (.int (i % j))) st else .bad := nr rfl
theorem e_pow18 : binD .Pow (.p (.int 10)) (.p (.int 18)) st = .ok (.p (.int 1000000000000000000)) st := by
  simp [binD, powD]
theorem e_pow17 : binD .Pow (.p (.int 10)) (.p (.int 17)) st = .ok (.p (.int 100000000000000000)) st := by
  simp [binD, powD]
theorem e_pow12 : binD .Pow (.p (.int 10)) (.p (.int 12)) st = .ok (.p (.int 1000000000000)) st := by
  simp [binD, powD]
theorem e_lt (i j : Int) : cmpD .Lt (.p (.int i)) (.p (.int j)) st = .ok (.p (.bool (decide (i < j)))) st := nr rfl
theorem e_gt (i j : Int) : cmpD .Gt (.p (.int i)) (.p (.int j)) st = .ok (.p (.bool (decide (j < i)))) st := nr rfl
theorem e_le (i j : Int) : cmpD .LtE (.p (.int i)) (.p (.int j)) st = .ok (.p (.bool (!decide (j < i)))) st := nr rfl
theorem e_ge (i j : Int) : cmpD .GtE (.p (.int i)) (.p (.int j)) st = .ok (.p (.bool (!decide (i < j)))) st := nr rfl
theorem e_eqi (i j : Int) : cmpD .Eq (.p (.int i)) (.p (.int j)) st = .ok (.p (.bool (i == j))) st := nr rfl
theorem e_nei (i j : Int) : cmpD .NotEq (.p (.int i)) (.p (.int j)) st = .ok (.p (.bool (!(i == j)))) st := nr rfl
theorem e_eqs (i j : Str) : cmpD .Eq (.p (.str i)) (.p (.str j)) st = .ok (.p (.bool (i == j))) st := nr rfl
theorem e_nes (i j : Str) : cmpD .NotEq (.p (.str i)) (.p (.str j)) st = .ok (.p (.bool (!(i == j)))) st := nr rfl
theorem mulOk_r {i j : Int} (h : j.natAbs < 18446744073709551616) : mulOk i j = true := by
  unfold mulOk
  rw [Bool.or_eq_true]
  exact .inr (decide_eq_true h)
theorem mulOk_l {i j : Int} (h : i.natAbs < 18446744073709551616) : mulOk i j = true := by
  unfold mulOk
  rw [Bool.or_eq_true]
  exact .inl (decide_eq_true h)
theorem wp_if {α : Type} {c : Prop} [Decidable c] {a b : R α} {Q : α → Store → Prop} (hc : c) (h : wpe X a Q) : wpe X (if c then a else b) Q := by rw [if_pos hc]; exact h
end
section
variable {G : Sem1}
theorem e_ev_var (i : Nat) (env : Env) (st : Store) : ev G (ME.var i) env st = (varD env i st) := nr rfl
theorem e_ev_lit (x : PyData) (env : Env) (st : Store) : ev G (ME.lit x) env st = (.ok (.p x) st) := nr rfl
theorem e_ev_glb (x : PyData) (env : Env) (st : Store) : ev G (ME.glb x) env st = (.ok (.p x) st) := nr rfl
theorem e_ev_gix (kvs : List (Str × PyData)) (e : ME) (env : Env) (st : Store) : ev G (ME.gix kvs e) env st = ((ev G e env st).bind fun x st => gixD kvs x st) := nr rfl
theorem e_ev_bin (o : Operator) (a b : ME) (env : Env) (st : Store) : ev G (ME.bin o a b) env st = ((ev G a env st).bind fun x st => (ev G b env st).bind fun y st => binD o x y st) := nr rfl
theorem e_ev_neg (a : ME) (env : Env) (st : Store) : ev G (ME.neg a) env st = ((ev G a env st).bind fun x st => negD x st) := nr rfl
theorem e_ev_not (a : ME) (env : Env) (st : Store) : ev G (ME.not a) env st = ((truR (ev G a env st)).bind fun k st => .ok (.p (.bool (!k))) st) := nr rfl
theorem e_ev_and (a b : ME) (env : Env) (st : Store) : ev G (ME.and a b) env st = ((ev G a env st).bind fun x st => match tru x st with
    | some true => ev G b env st
    | some false => .ok x st
    | none => .bad) := nr rfl
theorem e_ev_or (a b : ME) (env : Env) (st : Store) : ev G (ME.or a b) env st = ((ev G a env st).bind fun x st => match tru x st with
    | some true => .ok x st
    | some false => ev G b env st
    | none => .bad) := nr rfl
theorem e_ev_one (a : ME) (env : Env) (st : Store) : ev G (ME.one a) env st = (ev G a env st) := nr rfl
theorem e_ev_cmp (o : CmpOp) (a b : ME) (env : Env) (st : Store) : ev G (ME.cmp o a b) env st = ((ev G a env st).bind fun x st => (ev G b env st).bind fun y st => cmpD o x y st) := nr rfl
theorem e_ev_cmp2 (o o2 : CmpOp) (a b c : ME) (env : Env) (st : Store) : ev G (ME.cmp2 o o2 a b c) env st = ((ev G a env st).bind fun x st => (ev G b env st).bind fun y st => (cmpD o x y st).bind fun k st => match k with
    | .p (.bool true) => (ev G c env st).bind fun z st => cmpD o2 y z st
    | .p (.bool false) => .ok (.p (.bool false)) st
    | _ => .bad) := nr rfl
theorem e_ev_ife (c a b : ME) (env : Env) (st : Store) : ev G (ME.ife c a b) env st = ((truR (ev G c env st)).bind fun k st => if k = true then ev G a env st else ev G b env st) := nr rfl
theorem e_ev_tup (es : MEs) (env : Env) (st : Store) : ev G (ME.tup es) env st = ((evs G es env st).bind fun ds st => if ds.length ≤ SZ then mkT ds st else .bad) := nr rfl
theorem e_ev_lst (c : Bool) (es : MEs) (env : Env) (st : Store) : ev G (ME.lst c es) env st = ((evs G es env st).bind fun ds st => if ds.length ≤ SZ then mkL c ds st else .bad) := nr rfl
theorem e_ev_frz (a : ME) (env : Env) (st : Store) : ev G (ME.frz a) env st = ((ev G a env st).bind fun x st => frzD x st) := nr rfl
theorem e_ev_rev (a : ME) (env : Env) (st : Store) : ev G (ME.rev a) env st = ((ev G a env st).bind fun x st => revD x st) := nr rfl
theorem e_ev_dctE (t : Bool) (env : Env) (st : Store) : ev G (ME.dctE t) env st = (.ok (.c st.length) (st ++ [if t = true then .dtt [] else .dct []])) := nr rfl
theorem e_ev_dct (ks : List Str) (es : MEs) (env : Env) (st : Store) : ev G (ME.dct ks es) env st = ((evs G es env (st ++ [.dct []])).bind fun ds st1 => dispD st.length ks ds st1) := nr rfl
theorem e_ev_fld (a : ME) (f : Str) (cs : List Str) (env : Env) (st : Store) : ev G (ME.fld a f cs) env st = ((ev G a env st).bind fun x st => fldD f cs x st) := nr rfl
theorem e_ev_meth (c : Str) (i : Nat) (m : Str) (o : ME) (es : MEs) (env : Env) (st : Store) : ev G (ME.meth c i m o es) env st = ((ev G o env st).bind fun x st => match insOf x st with
    | some (_, c', fs) => if c' = c ∧ (valD fs m).isSome = false then (evs G es env st).bind fun ds st => G i (x :: ds) st else .bad
    | none => .bad) := nr rfl
theorem e_ev_new (c : Str) (i : Nat) (es : MEs) (env : Env) (st : Store) : ev G (ME.new c i es) env st = ((evs G es env st).bind fun ds st => (G i (.c st.length :: ds) (st ++ [.ins c []])).bind fun d st1 => match d with
    | .p .none => .ok (.c st.length) st1
    | _ => .bad) := nr rfl
theorem e_ev_callT (fs : List Nat) (i : ME) (es : MEs) (env : Env) (st : Store) : ev G (ME.callT fs i es) env st = ((ev G i env st).bind fun x st => match x with
    | .p (.int k) => match atI fs k with
      | some f => (evs G es env st).bind fun ds st => G f ds st
      | none => .bad
    | _ => .bad) := nr rfl
theorem e_ev_callD (f : Nat) (es : MEs) (dv : List PyData) (env : Env) (st : Store) : ev G (ME.callD f es dv) env st = ((evs G es env st).bind fun ds st => G f (ds ++ dv.map .p) st) := nr rfl
theorem e_ev_mcall (m : Mth) (o : ME) (es : MEs) (env : Env) (st : Store) : ev G (ME.mcall m o es) env st = ((ev G o env st).bind fun x st => match items x st with
    | some _ => (evs G es env st).bind fun ds st => mthD m x ds st
    | none => .bad) := nr rfl
theorem e_ev_ix (a b : ME) (env : Env) (st : Store) : ev G (ME.ix a b) env st = ((ev G a env st).bind fun x st => (ev G b env st).bind fun y st => ixD x y st) := nr rfl
theorem e_ev_sl (a : ME) (lo hi : MO) (env : Env) (st : Store) : ev G (ME.sl a lo hi) env st = ((ev G a env st).bind fun x st => (evo G lo env st).bind fun l st => (evo G hi env st).bind fun h st => slD x l h st) := nr rfl
theorem e_ev_bi (f : Bi) (a : ME) (env : Env) (st : Store) : ev G (ME.bi f a) env st = ((ev G a env st).bind fun x st => bi1D f x st) := nr rfl
theorem e_ev_mx2 (m : Bool) (a b : ME) (env : Env) (st : Store) : ev G (ME.mx2 m a b) env st = ((ev G a env st).bind fun x st => (ev G b env st).bind fun y st => max2D m x y st) := nr rfl
theorem e_ev_mxd (m : Bool) (a z : ME) (env : Env) (st : Store) : ev G (ME.mxd m a z) env st = ((ev G a env st).bind fun x st => (ev G z env st).bind fun z st => mxdD m x z st) := nr rfl
theorem e_ev_dk1 (k v : ME) (env : Env) (st : Store) : ev G (ME.dk1 k v) env st = ((ev G k env (st ++ [.dct []])).bind fun x st1 => (ev G v env st1).bind fun y st2 => disp1 st.length x y st2) := nr rfl
theorem e_ev_dget (o k z : ME) (env : Env) (st : Store) : ev G (ME.dget o k z) env st = ((ev G o env st).bind fun x st => if isDict x st = true then (ev G k env st).bind fun y st => (ev G z env st).bind fun z st => getD' x y z st else .bad) := nr rfl
theorem e_ev_fnv (x : Str) (env : Env) (st : Store) : ev G (ME.fnv x) env st = .ok (.fn x) st := nr rfl
theorem e_ev_callV (i : Nat) (fs : List (Str × Nat)) (es : MEs) (env : Env) (st : Store) : ev G (ME.callV i fs es) env st = ((varD env i st).bind fun x st => match x with
    | .fn x => match fs.lookup x with
      | some f => (evs G es env st).bind fun ds st => G f ds st
      | none => .bad
    | _ => .bad) := nr rfl
theorem e_ev_split (c : Bool) (o e : ME) (env : Env) (st : Store) : ev G (ME.split c o e) env st = ((ev G o env st).bind fun x st => match x with
    | .p (.str z) => (ev G e env st).bind fun y st => splitD c z y st
    | _ => .bad) := nr rfl
theorem e_ev_sset (c : Bool) (a : ME) (env : Env) (st : Store) : ev G (ME.sset c a) env st = ((ev G a env st).bind fun x st => ssetD c x st) := nr rfl
theorem e_ev_lset (a : ME) (env : Env) (st : Store) : ev G (ME.lset a) env st = ((ev G a env st).bind fun x st => lsetD x st) := nr rfl
theorem e_ev_stp (a e : ME) (env : Env) (st : Store) : ev G (ME.stp a e) env st = ((ev G a env st).bind fun x st => match items x st with
    | some _ => (ev G e env st).bind fun y st => stpD x y st
    | none => .bad) := nr rfl
theorem e_ev_slc (a : ME) (lo hi : MO) (env : Env) (st : Store) : ev G (ME.slc a lo hi) env st = ((ev G a env st).bind fun x st => (evo G lo env st).bind fun l st => (evo G hi env st).bind fun h st => slDc x l h st) := nr rfl
theorem e_ev_gin (n : Bool) (kvs : List (Str × PyData)) (e : ME) (env : Env) (st : Store) : ev G (ME.gin n kvs e) env st = ((ev G e env st).bind fun x st => ginD n kvs x st) := nr rfl
theorem e_ev_gixIn (kvs : List (Str × PyData)) (a e : ME) (env : Env) (st : Store) : ev G (ME.gixIn kvs a e) env st = ((ev G a env st).bind fun x st => (ev G e env st).bind fun y st => gixInD kvs x y st) := nr rfl
theorem e_ev_clr (o : ME) (env : Env) (st : Store) : ev G (ME.clr o) env st = ((ev G o env st).bind fun x st => clrD x st) := nr rfl
theorem e_ev_dpop (o k : ME) (env : Env) (st : Store) : ev G (ME.dpop o k) env st = ((ev G o env st).bind fun x st => if isDict x st = true then (ev G k env st).bind fun y st => popD x y st else .bad) := nr rfl
theorem e_ev_isi (T : String) (a : ME) (env : Env) (st : Store) : ev G (ME.isi T a) env st = ((ev G a env st).bind fun x st => isiD T x st) := nr rfl
theorem e_ev_mkx (c : Str) (np : Nat) (fs : List (Str × FE)) (es : MEs) (env : Env) (st : Store) : ev G (ME.mkx c np fs es) env st = ((evs G es env st).bind fun ds st => if ds.length = np then (mkX ds fs [] st).bind fun xs st => .ok (.c st.length) (st ++ [.exv c xs]) else .bad) := nr rfl
theorem e_ev_xfl (c f : Str) (a : ME) (env : Env) (st : Store) : ev G (ME.xfl c f a) env st = ((ev G a env st).bind fun x st => xflD c f x st) := nr rfl
theorem e_ev_isx (tb : List (Str × Bool)) (a : ME) (env : Env) (st : Store) : ev G (ME.isx tb a) env st = ((ev G a env st).bind fun x st => isxD tb x st) := nr rfl
theorem e_ev_call (f : Nat) (es : MEs) (env : Env) (st : Store) : ev G (ME.call f es) env st = ((evs G es env st).bind fun ds st => G f ds st) := nr rfl
theorem e_ev_join (a b : ME) (env : Env) (st : Store) : ev G (ME.join a b) env st = ((ev G a env st).bind fun x st => match x with
    | .p (.str z) => (ev G b env st).bind fun y st => joinD z y st
    | _ => .bad) := nr rfl
theorem e_ev_lc (c : Bool) (own : List Nat) (tg : MT) (it : MI) (cond : MO) (elt : ME) (env : Env) (st : Store) : ev G (ME.lc c own tg it cond elt) env st = ((evi G it env st).bind fun p st1 =>
      (lcL p.2 st1.length tg (evc G cond) (ev G elt) (wipeE env own) p.1 (st1 ++ [.lst []])).bind fun _ st2 => lcEnd c st1.length st2) := nr rfl
theorem e_evs_nil  (env : Env) (st : Store) : evs G (MEs.nil) env st = (.ok [] st) := nr rfl
theorem e_evs_cons (e : ME) (r : MEs) (env : Env) (st : Store) : evs G (MEs.cons e r) env st = ((ev G e env st).bind fun x st => (evs G r env st).bind fun xs st => .ok (x :: xs) st) := nr rfl
theorem e_evo_none  (env : Env) (st : Store) : evo G (MO.none) env st = (.ok none st) := nr rfl
theorem e_evo_some (e : ME) (env : Env) (st : Store) : evo G (MO.some e) env st = ((ev G e env st).bind fun x st => match x with
    | .p (.int i) => .ok (some i) st
    | _ => .bad) := nr rfl
theorem e_evc_none  (env : Env) (st : Store) : evc G (MO.none) env st = (.ok (.p (.bool true)) st) := nr rfl
theorem e_evc_some (e : ME) (env : Env) (st : Store) : evc G (MO.some e) env st = (ev G e env st) := nr rfl
theorem e_evi_seq (e : ME) (env : Env) (st : Store) : evi G (MI.seq e) env st = ((ev G e env st).bind fun x st => seqI x st) := nr rfl
theorem e_evi_rng1 (a : ME) (env : Env) (st : Store) : evi G (MI.rng1 a) env st = ((ev G a env st).bind fun x st => match x with
    | .p (.int i) => rngI 0 i st
    | _ => .bad) := nr rfl
theorem e_evi_rng2 (a b : ME) (env : Env) (st : Store) : evi G (MI.rng2 a b) env st = ((ev G a env st).bind fun x st => (ev G b env st).bind fun y st => match x, y with
    | .p (.int i), .p (.int j) => rngI i j st
    | _, _ => .bad) := nr rfl
theorem e_evi_rev (a : ME) (env : Env) (st : Store) : evi G (MI.rev a) env st = ((ev G a env st).bind fun x st => revI x st) := nr rfl
theorem e_evi_view (b : Bool) (a : ME) (env : Env) (st : Store) : evi G (MI.view b a) env st = ((ev G a env st).bind fun x st => viewI b x st) := nr rfl
theorem e_evi_enum (a : ME) (env : Env) (st : Store) : evi G (MI.enum a) env st = ((ev G a env st).bind fun x st => enumI x st) := nr rfl
theorem e_evi_zip (a b : ME) (env : Env) (st : Store) : evi G (MI.zip a b) env st = ((ev G a env st).bind fun x st => (ev G b env st).bind fun y st => zipI x y st) := nr rfl
theorem e_tbv_nil  (env : Env) (st : Store) : tbv G (TB.nil) env st = (.ok (.nx env) st) := nr rfl
theorem e_tbv_ex (e : ME) (env : Env) (st : Store) : tbv G (TB.ex e) env st = ((ev G e env st).bind fun _ st => .ok (.nx env) st) := nr rfl
theorem e_tbv_set (t : MT) (e : ME) (env : Env) (st : Store) : tbv G (TB.set t e) env st = ((ev G e env st).bind fun d st => match bindD st t d env with
    | some env => .ok (.nx env) st
    | none => .bad) := nr rfl
theorem e_tbv_exSet (e : ME) (t : MT) (q : ME) (env : Env) (st : Store) : tbv G (TB.exSet e t q) env st = ((ev G e env st).bind fun _ st => (noEx (ev G q env st)).bind fun d st => match bindD st t d env with
    | some env => .ok (.nx env) st
    | none => .bad) := nr rfl
theorem e_tbv_ife (c : ME) (a b : TB) (env : Env) (st : Store) : tbv G (TB.ife c a b) env st = ((truR (ev G c env st)).bind fun k st => if k = true then tbv G a env st else tbv G b env st) := nr rfl
theorem e_sv_set (t : MT) (e : ME) (env : Env) (st : Store) : sv G (MS.set t e) env st = ((ev G e env st).bind fun d st => match bindD st t d env with
    | some env => .ok (.nx env) st
    | none => .bad) := nr rfl
theorem e_sv_setLc (i : Nat) (e : ME) (env : Env) (st : Store) : sv G (MS.setLc i e) env st = ((ev G e env st).bind fun d st => .ok (.nx (env.set i (some d))) st) := nr rfl
theorem e_sv_setIx (o i v : ME) (env : Env) (st : Store) : sv G (MS.setIx o i v) env st = ((ev G v env st).bind fun x st => (ev G o env st).bind fun o st => (ev G i env st).bind fun i st => setIxD o i x env st) := nr rfl
theorem e_sv_app (o e : ME) (env : Env) (st : Store) : sv G (MS.app o e) env st = ((ev G o env st).bind fun o st => match o with
    | .c n => match cellL st n with
      | some _ => (ev G e env st).bind fun x st => match cellL st n with
        | some ds => if ds.length < SZ then .ok (.nx env) (st.set n (.lst (ds ++ [x]))) else .bad
        | none => .bad
      | none => .bad
    | _ => .bad) := nr rfl
theorem e_sv_setFld (o : ME) (f : Str) (cs : List Str) (e : ME) (env : Env) (st : Store) : sv G (MS.setFld o f cs e) env st = ((ev G e env st).bind fun x st => (ev G o env st).bind fun o st => setFldD f cs o x env st) := nr rfl
theorem e_sv_raise (c : Str) (np : Nat) (fs : List (Str × FE)) (es : MEs) (env : Env) (st : Store) : sv G (MS.raise c np fs es) env st = ((evs G es env st).bind fun ds st => if ds.length = np then (mkX ds fs [] st).bind fun xs st => .ex ⟨c, xs⟩ st else .bad) := nr rfl
theorem e_sv_tryS (b : TB) (hs : List Hd) (env : Env) (st : Store) : sv G (MS.tryS b hs) env st = (catchR (tbv G b env st) fun x st => hdL hs x env st) := nr rfl
theorem e_sv_whl (n : Nat) (c : ME) (b : MSs) (env : Env) (st : Store) : sv G (MS.whl n c b) env st = (whlL (fun env st => truR (ev G c env st)) (svs G b) n env st) := nr rfl
theorem e_sv_ex (e : ME) (env : Env) (st : Store) : sv G (MS.ex e) env st = ((ev G e env st).bind fun _ st => .ok (.nx env) st) := nr rfl
theorem e_sv_ret (e : ME) (env : Env) (st : Store) : sv G (MS.ret e) env st = ((ev G e env st).bind fun d st => .ok (.rt d) st) := nr rfl
theorem e_sv_retN  (env : Env) (st : Store) : sv G (MS.retN) env st = (.ok (.rt (.p .none)) st) := nr rfl
theorem e_sv_ife (c : ME) (a b : MSs) (env : Env) (st : Store) : sv G (MS.ife c a b) env st = ((truR (ev G c env st)).bind fun k st => if k = true then svs G a env st else svs G b env st) := nr rfl
theorem e_sv_loop (t : MT) (it : MI) (b : MSs) (env : Env) (st : Store) : sv G (MS.loop t it b) env st = ((evi G it env st).bind fun p st => forL p.2 t (svs G b) p.1 env st) := nr rfl
theorem e_sv_pass  (env : Env) (st : Store) : sv G (MS.pass) env st = (.ok (.nx env) st) := nr rfl
theorem e_sv_brk  (env : Env) (st : Store) : sv G (MS.brk) env st = (.ok (.bk env) st) := nr rfl
theorem e_sv_cont  (env : Env) (st : Store) : sv G (MS.cont) env st = (.ok (.ct env) st) := nr rfl
theorem e_svs_nil  (env : Env) (st : Store) : svs G (MSs.nil) env st = (.ok (.nx env) st) := nr rfl
theorem e_svs_cons (s : MS) (r : MSs) (env : Env) (st : Store) : svs G (MSs.cons s r) env st = (thenR (sv G s env st) (svs G r)) := nr rfl
-- e_ev_var, e_ev_lit, e_ev_glb, e_ev_gix, e_ev_bin, e_ev_neg, e_ev_not, e_ev_and, e_ev_or, e_ev_one, e_ev_cmp, e_ev_cmp2, e_ev_ife, e_ev_tup, e_ev_lst, e_ev_frz, e_ev_rev, e_ev_dctE, e_ev_dct, e_ev_fld, e_ev_meth, e_ev_new, e_ev_callT, e_ev_callD, e_ev_mcall, e_ev_ix, e_ev_sl, e_ev_bi, e_ev_mx2, e_ev_isi, e_ev_call, e_ev_join, e_ev_lc, e_evs_nil, e_evs_cons, e_evo_none, e_evo_some, e_evc_none, e_evc_some, e_evi_seq, e_evi_rng1, e_evi_rng2, e_evi_enum, e_evi_zip, e_tbv_nil, e_tbv_ex, e_tbv_set, e_tbv_exSet, e_tbv_ife, e_sv_set, e_sv_setLc, e_sv_setIx, e_sv_app, e_sv_setFld, e_sv_raise, e_sv_tryS, e_sv_whl, e_sv_ex, e_sv_ret, e_sv_retN, e_sv_ife, e_sv_loop, e_sv_pass, e_sv_brk, e_sv_cont, e_svs_nil, e_svs_cons
end
theorem if_go {c : Prop} [Decidable c] {p q : Prop} (h : c) (hp : p) : if c then p else q := by rw [if_pos h]; exact hp
theorem abs_mod {x m : Int} (h : 0 < m) (h2 : m < 18446744073709551616) : (x % m).natAbs < 18446744073709551616 := by
  have h3 := Int.emod_nonneg x (Int.ne_of_gt h)
  have h4 := Int.emod_lt_of_pos x h
  omega
section
variable {st : Store}
theorem e_slL (xs : List PyData) (lo hi : Option Int) : slD (.p (.list xs)) lo hi st = .ok (.p (.list (cut xs lo hi))) st := by
  unfold slD items
  simp only [← List.map_map]
  rw [cut_map, mkL_p]
theorem e_slT (xs : List PyData) (lo hi : Option Int) : slD (.p (.tuple xs)) lo hi st = .ok (.p (.tuple (cut xs lo hi))) st := nr rfl
theorem e_slS (z : Str) (lo hi : Option Int) : slD (.p (.str z)) lo hi st = if z.length ≤ SZ then .ok (.p (.str (cutS z lo hi))) st else .bad := nr rfl
theorem e_listCL (xs : List PyData) : bi1D (.list true) (.p (.list xs)) st = .ok (.c st.length) (st ++ [.lst (xs.map .p)]) := nr rfl
theorem e_listPT (xs : List PyData) : bi1D (.list false) (.p (.tuple xs)) st = .ok (.p (.list xs)) st := nr (mkL_p xs st)
theorem e_listPL (xs : List PyData) : bi1D (.list false) (.p (.list xs)) st = .ok (.p (.list xs)) st := nr (mkL_p xs st)
theorem e_tupL (xs : List PyData) : bi1D .tuple (.p (.list xs)) st = .ok (.p (.tuple xs)) st := by
  unfold bi1D tupleD items
  simp only [pures_map]
theorem e_lenT (xs : List PyData) : bi1D .len (.p (.tuple xs)) st = .ok (.p (.int xs.length)) st := nr rfl
theorem e_lenL (xs : List PyData) : bi1D .len (.p (.list xs)) st = .ok (.p (.int xs.length)) st := by
  unfold bi1D lenD items
  simp only [List.length_map]
theorem e_lenS (x : Str) : bi1D .len (.p (.str x)) st = if x.length ≤ SZ then .ok (.p (.int x.length)) st else .bad := nr rfl
theorem e_enumL (xs : List PyData) : enumI (.p (.list xs)) st = .ok ((xs.map D.p).mapIdx fun i d => .two (.p (.int (i : Nat))) d, gdOf (.p (.list xs)) (xs.map D.p)) st := nr rfl
theorem e_rng (lo hi : Int) : rngI lo hi st = if -(2 ^ 62) ≤ lo ∧ lo < 2 ^ 62 ∧ -(2 ^ 62) ≤ hi ∧ hi < 2 ^ 62 then .ok ((List.range (hi - lo).toNat).map fun (i : Nat) => .one (.p (.int (lo + (i : Int)))), fun _ => True) st else .bad := nr rfl
theorem e_rng0 (n : Nat) (h : n ≤ 1000) : rngI 0 (n : Int) st = .ok ((List.range n).map fun (i : Nat) => .one (.p (.int (i : Int))), fun _ => True) st := by
  rw [e_rng, if_pos (by omega)]
  simp
theorem e_ixT (xs : List PyData) (i : Int) : ixD (.p (.tuple xs)) (.p (.int i)) st = match atI xs i with | some x => .ok (.p x) st | none => .bad := nr rfl
theorem e_ixL (xs : List PyData) (i : Int) : ixD (.p (.list xs)) (.p (.int i)) st = match atI xs i with | some x => .ok (.p x) st | none => .bad := by
  unfold ixD isDict dictOf dttOf ixD0 items
  simp only [Option.isSome_none, Bool.or_self, Bool.false_eq_true, if_false]
  cases e : atI xs i with
  | none =>
    have : atI (xs.map D.p) i = none := by
      unfold atI at e ⊢
      rw [List.length_map]
      cases e2 : ixN xs.length i with
      | none => rfl
      | some j => rw [e2] at e; simpa using e
    rw [this]
  | some x => rw [atI_map e]
theorem cut_take {α : Type} (xs : List α) (n : Nat) : cut xs none (some (n : Int)) = xs.take n := by
  unfold cut
  rw [HT.sIx_none, HT.sIx_nat, List.drop_zero, Nat.sub_zero]
  by_cases h : n ≤ xs.length
  · rw [Nat.min_eq_left h]
  · rw [Nat.min_eq_right (by omega), List.take_length, List.take_of_length_le (by omega)]
theorem cut_drop {α : Type} (xs : List α) (n : Nat) : cut xs (some (n : Int)) none = xs.drop n := by
  unfold cut
  rw [HT.sIx_none, HT.sIx_nat]
  by_cases h : n ≤ xs.length
  · rw [Nat.min_eq_left h, List.take_of_length_le (by rw [List.length_drop]; omega)]
  · rw [Nat.min_eq_right (by omega), List.drop_length, List.drop_of_length_le (by omega)]; simp
theorem cut_len {α : Type} (xs : List α) (lo hi : Option Int) : (cut xs lo hi).length ≤ xs.length := by
  unfold cut
  rw [List.length_take, List.length_drop]; omega
theorem gd_list (xs : List PyData) (st : Store) : gdOf (.p (.list xs)) (xs.map D.p) st := rfl
end
theorem e_mkLT (ds : List D) (st : Store) : mkL true ds st = .ok (.c st.length) (st ++ [.lst ds]) := nr rfl
theorem e_mkLF (xs : List PyData) (st : Store) : mkL false (xs.map .p) st = .ok (.p (.list xs)) st := nr (mkL_p xs st)
theorem e_mkL1 (x : PyData) (st : Store) : mkL false [.p x] st = .ok (.p (.list [x])) st := e_mkLF [x] st
theorem e_mkL2 (x y : PyData) (st : Store) : mkL false [.p x, .p y] st = .ok (.p (.list [x, y])) st := e_mkLF [x, y] st
theorem e_mkL3 (x y z : PyData) (st : Store) : mkL false [.p x, .p y, .p z] st = .ok (.p (.list [x, y, z])) st := e_mkLF [x, y, z] st
theorem sz_le {n : Nat} (h : n ≤ 1000) : n ≤ SZ := Nat.le_trans h (by decide)
theorem e_adds (x y : Str) (st : Store) : binD .Add (.p (.str x)) (.p (.str y)) st = if x.length + y.length ≤ SZ then .ok (.p (.str (x ++ y))) st else .bad := nr rfl
theorem e_addS (x y : Str) (st : Store) (h : x.length + y.length ≤ 1000) : binD .Add (.p (.str x)) (.p (.str y)) st = .ok (.p (.str (x ++ y))) st := by rw [e_adds, if_pos (sz_le h)]
theorem str_app_len (x y : Str) : (x ++ y).length = x.length + y.length := by
  show (x.cps ++ y.cps).size = _
  rw [Array.size_append]; rfl
theorem str_app_tl (x y : Str) : (x ++ y).cps.toList = x.cps.toList ++ y.cps.toList := by
  show (x.cps ++ y.cps).toList = _
  rw [Array.toList_append]
theorem fin_new {n m : Nat} (h : n ≤ m) (st : Store) : finD n (.c m) st = .ok (.c m) st := by
  unfold finD
  rw [if_neg]
  simp [dBelow]; omega
theorem sz_0 : (0 ≤ SZ) = True := eq_true (by decide)
theorem sz_1 : (1 ≤ SZ) = True := eq_true (by decide)
theorem sz_2 : (2 ≤ SZ) = True := eq_true (by decide)
theorem sz_3 : (3 ≤ SZ) = True := eq_true (by decide)
theorem sz_4 : (4 ≤ SZ) = True := eq_true (by decide)
theorem sz_5 : (5 ≤ SZ) = True := eq_true (by decide)
theorem sz_6 : (6 ≤ SZ) = True := eq_true (by decide)
theorem sz_7 : (7 ≤ SZ) = True := eq_true (by decide)
theorem sz_8 : (8 ≤ SZ) = True := eq_true (by decide)
theorem sz_9 : (9 ≤ SZ) = True := eq_true (by decide)
theorem sz_10 : (10 ≤ SZ) = True := eq_true (by decide)
theorem sz_11 : (11 ≤ SZ) = True := eq_true (by decide)
theorem sz_12 : (12 ≤ SZ) = True := eq_true (by decide)
theorem sz_13 : (13 ≤ SZ) = True := eq_true (by decide)
theorem sz_14 : (14 ≤ SZ) = True := eq_true (by decide)
theorem sz_15 : (15 ≤ SZ) = True := eq_true (by decide)
theorem sz_16 : (16 ≤ SZ) = True := eq_true (by decide)
theorem sz_17 : (17 ≤ SZ) = True := eq_true (by decide)
theorem sz_18 : (18 ≤ SZ) = True := eq_true (by decide)
theorem sz_19 : (19 ≤ SZ) = True := eq_true (by decide)
theorem sz_20 : (20 ≤ SZ) = True := eq_true (by decide)
theorem sz_21 : (21 ≤ SZ) = True := eq_true (by decide)
theorem sz_22 : (22 ≤ SZ) = True := eq_true (by decide)
theorem sz_23 : (23 ≤ SZ) = True := eq_true (by decide)
theorem sz_24 : (24 ≤ SZ) = True := eq_true (by decide)
theorem sz_25 : (25 ≤ SZ) = True := eq_true (by decide)
theorem sz_26 : (26 ≤ SZ) = True := eq_true (by decide)
theorem sz_27 : (27 ≤ SZ) = True := eq_true (by decide)
theorem sz_28 : (28 ≤ SZ) = True := eq_true (by decide)
theorem sz_29 : (29 ≤ SZ) = True := eq_true (by decide)
theorem sz_30 : (30 ≤ SZ) = True := eq_true (by decide)
theorem sz_31 : (31 ≤ SZ) = True := eq_true (by decide)
theorem sz_32 : (32 ≤ SZ) = True := eq_true (by decide)
theorem sz_33 : (33 ≤ SZ) = True := eq_true (by decide)
theorem sz_34 : (34 ≤ SZ) = True := eq_true (by decide)
theorem sz_35 : (35 ≤ SZ) = True := eq_true (by decide)
theorem sz_36 : (36 ≤ SZ) = True := eq_true (by decide)
theorem sz_37 : (37 ≤ SZ) = True := eq_true (by decide)
theorem sz_38 : (38 ≤ SZ) = True := eq_true (by decide)
theorem sz_39 : (39 ≤ SZ) = True := eq_true (by decide)
theorem sz_40 : (40 ≤ SZ) = True := eq_true (by decide)
theorem tru_b (b : Bool) (st : Store) : tru (.p (.bool b)) st = some b := nr rfl
theorem seqI_L (xs : List PyData) (st : Store) : seqI (.p (.list xs)) st = .ok (xs.map fun x => .one (.p x), fun _ => True) st := nr rfl
theorem seqI_T (xs : List PyData) (st : Store) : seqI (.p (.tuple xs)) st = .ok (xs.map fun x => .one (.p x), fun _ => True) st := nr rfl
theorem pures_map' {α : Type} (f : α → PyData) (l : List α) : pures (l.map fun x => D.p (f x)) = some (l.map f) := by
  have := pures_map (l.map f)
  rw [List.map_map] at this
  exact this
theorem atI_0 {α : Type} (a : α) (r : List α) : atI (a :: r) 0 = some a := atI_nat (j := 0) rfl
theorem atI_1 {α : Type} (a b : α) (r : List α) : atI (a :: b :: r) 1 = some b := atI_nat (j := 1) rfl
theorem atI_2 {α : Type} (a b c : α) (r : List α) : atI (a :: b :: c :: r) 2 = some c := atI_nat (j := 2) rfl
theorem atI_3 {α : Type} (a b c d : α) (r : List α) : atI (a :: b :: c :: d :: r) 3 = some d := atI_nat (j := 3) rfl
theorem atI_4 {α : Type} (a b c d e : α) (r : List α) : atI (a :: b :: c :: d :: e :: r) 4 = some e := atI_nat (j := 4) rfl
theorem atI_5 {α : Type} (a b c d e f : α) (r : List α) : atI (a :: b :: c :: d :: e :: f :: r) 5 = some f := atI_nat (j := 5) rfl
theorem atI_6 {α : Type} (a b c d e f g : α) (r : List α) : atI (a :: b :: c :: d :: e :: f :: g :: r) 6 = some g := atI_nat (j := 6) rfl
/-- a place that is in the list -/
theorem atI_in {α : Type} {l : List α} {x : Int} (h0 : 0 ≤ x) (h1 : x < l.length) : ∃ a ∈ l, atI l x = some a := by
  obtain ⟨n, rfl⟩ : ∃ n : Nat, x = n := ⟨x.toNat, by omega⟩
  have hn : n < l.length := by omega
  exact ⟨l[n], List.getElem_mem hn, atI_nat (by simp [hn])⟩
theorem ixL_in {l : List PyData} {x : Int} (st : Store) (h0 : 0 ≤ x) (h1 : x < l.length) : ∃ a ∈ l, ixD (.p (.list l)) (.p (.int x)) st = .ok (.p a) st := by
  obtain ⟨a, h, e⟩ := atI_in h0 h1
  exact ⟨a, h, by rw [e_ixL, e]⟩
theorem ixT_in {l : List PyData} {x : Int} (st : Store) (h0 : 0 ≤ x) (h1 : x < l.length) : ∃ a ∈ l, ixD (.p (.tuple l)) (.p (.int x)) st = .ok (.p a) st := by
  obtain ⟨a, h, e⟩ := atI_in h0 h1
  exact ⟨a, h, by rw [e_ixT, e]⟩
theorem e_sorted2 (a b : Int) (st : Store) : ∃ x y : Int, x ≤ y ∧ (x = a ∨ x = b) ∧ (y = a ∨ y = b) ∧ bi1D (.sorted false) (.p (.list [.int a, .int b])) st = .ok (.p (.list [.int x, .int y])) st := by
  have hok : sortOk [.int a, .int b] = true := by simp [sortOk, PySem.W.alike, PyData.depth, sz_2]
  have hs : sortP [.int a, .int b] = if a ≤ b then [.int a, .int b] else [.int b, .int a] := by
    unfold sortP
    rw [PySem.W.dataLe_eq]
    simp only [List.mergeSort, List.MergeSort.Internal.splitInTwo, List.length, List.splitAt, List.splitAt.go, List.reverse, List.reverseAux, List.merge, PySem.W.dataLt_int, cond]
    simp
  have h : bi1D (.sorted false) (.p (.list [.int a, .int b])) st = .ok (.p (.list (sortP [.int a, .int b]))) st := by
    unfold bi1D sortedD
    simp only [items, pures_map, hok, Bool.true_or, if_true, mkL_p]
  rw [h, hs]
  split
  · exact ⟨a, b, by assumption, .inl rfl, .inr rfl, rfl⟩
  · exact ⟨b, a, by omega, .inr rfl, .inl rfl, rfl⟩
theorem e_b_nm (st : Store) (i : Nat) (d : D) (env : Env) : bindD st (.nm i) d env = some (env.set i (some d)) := nr rfl
theorem e_b_tT (st : Store) (ts : MTs) (xs : List PyData) (env : Env) : bindD st (.tup ts) (.p (.tuple xs)) env = bindDs st ts (xs.map .p) env := nr rfl
theorem e_b_tL (st : Store) (ts : MTs) (xs : List PyData) (env : Env) : bindD st (.tup ts) (.p (.list xs)) env = bindDs st ts (xs.map .p) env := nr rfl
theorem e_b_nil (st : Store) (env : Env) : bindDs st .nil [] env = some env := nr rfl
theorem e_b_cons (st : Store) (t : MT) (r : MTs) (d : D) (ds : List D) (env : Env) : bindDs st (.cons t r) (d :: ds) env = (bindD st t d env).bind fun env => bindDs st r ds env := nr rfl
/-- a test's outcome, its value at hand -/
def QT2 (P : Bool → D → Store → Prop) : D → Store → Prop := fun d st => ∃ k, tru d st = some k ∧ P k d st
theorem QT2_bool (P : Bool → D → Store → Prop) (b : Bool) (st : Store) : QT2 P (.p (.bool b)) st = P b (.p (.bool b)) st := by
  unfold QT2; simp [tru]
def QB (P : Bool → Store → Prop) : D → Store → Prop
  | .p (.bool k), st => P k st
  | _, _ => False
theorem QB_bool (P : Bool → Store → Prop) (b : Bool) (st : Store) : QB P (.p (.bool b)) st = P b st := nr rfl
section
variable {G : Sem1} {Q : D → Store → Prop}
theorem w_and (a b : ME) (env : Env) (st : Store) : wpe X (ev G (.and a b) env st) Q = wpe X (ev G a env st) (QT2 fun k x st => if k = true then wpe X (ev G b env st) Q else Q x st) := by
  rw [e_ev_and, wp_bind]
  congr 1
  funext d st
  unfold QT2
  cases tru d st with
  | none => simp
  | some k => cases k <;> simp
theorem w_or (a b : ME) (env : Env) (st : Store) : wpe X (ev G (.or a b) env st) Q = wpe X (ev G a env st) (QT2 fun k x st => if k = true then Q x st else wpe X (ev G b env st) Q) := by
  rw [e_ev_or, wp_bind]
  congr 1
  funext d st
  unfold QT2
  cases tru d st with
  | none => simp
  | some k => cases k <;> simp
theorem w_cmp2 (o o2 : CmpOp) (a b c : ME) (env : Env) (st : Store) : wpe X (ev G (.cmp2 o o2 a b c) env st) Q = wpe X (ev G a env st) fun x st => wpe X (ev G b env st) fun y st => wpe X (cmpD o x y st) (QB fun k st => if k = true then wpe X (ev G c env st) fun z st => wpe X (cmpD o2 y z st) Q else Q (.p (.bool false)) st) := by
  rw [e_ev_cmp2]
  simp only [wp_bind]
  congr 1
  funext x st
  congr 1
  funext y st
  congr 1
  funext d st
  unfold QB
  cases d with
  | c n => rfl
  | fn z => rfl
  | p z =>
    cases z with
    | bool k => cases k <;> simp
    | _ => rfl
end
theorem e_eqX {x y : PyData} (h : min x.depth y.depth ≤ 64) (st : Store) : cmpD .Eq (.p x) (.p y) st = .ok (.p (.bool (PyData.eqv x y))) st := by
  unfold cmpD eqD
  simp only [toP_p]
  rw [if_pos]
  · rfl
  · unfold eqRoom
    exact decide_eq_true h
theorem e_gix (kvs : List (Str × PyData)) (z : Str) (v : PyData) (h : kvs.lookup z = some v) (st : Store) : gixD kvs (.p (.str z)) st = .ok (.p v) st := by
  unfold gixD
  simp only [h]
theorem sort_two (x y : PyData) (h : mixB [x, y] = true) (st : Store) : bi1D (.sorted false) (.p (.list [x, y])) st = .ok (.p (.list (if PySem.W.dataLt y x = true then [y, x] else [x, y]))) st := by
  have hs : sortP [x, y] = if PySem.W.dataLt y x = true then [y, x] else [x, y] := by
    unfold sortP
    rw [PySem.W.dataLe_eq]
    simp only [List.mergeSort, List.MergeSort.Internal.splitInTwo, List.length, List.splitAt, List.splitAt.go, List.reverse, List.reverseAux, List.merge, cond]
    cases PySem.W.dataLt y x <;> simp
  unfold bi1D sortedD
  simp only [items, pures_map, h, Bool.or_true, if_true, mkL_p, hs]
theorem gc_st (st : Store) : gc st.length st = st := gc_self rfl
theorem wp_for_cons {gd : Store → Prop} {tg : MT} {body : Env → Store → R Fl} {it : Itm} {r : List Itm} {env env1 : Env} {st : Store} {Q : Fl → Store → Prop} (hg : gd st) (hb : bindI st tg it env = some env1)
    (h : wpe X (body env1 st) (QN Q fun env st => wpe X (forL gd tg body r env st) Q)) : wpe X (forL gd tg body (it :: r) env st) Q := by
  unfold forL
  rw [if_pos hg, hb]
  show wpe X (nextR _ _) Q
  rw [wp_next]
  exact h
theorem wp_for_nil {gd : Store → Prop} {tg : MT} {body : Env → Store → R Fl} {env : Env} {st : Store} {Q : Fl → Store → Prop} (hg : gd st) (h : Q (.nx env) st) : wpe X (forL gd tg body [] env st) Q := by
  unfold forL
  rw [if_pos hg]
  exact h
theorem seqI_C {n : Nat} {st : Store} {ds : List D} (h : cellL st n = some ds) : seqI (.c n) st = .ok (ds.map .one, fun st' => cellL st' n = some ds) st := by
  unfold seqI
  simp only [cellL_some h]
theorem e_isi_bb (b : Bool) (st : Store) : isiD "bool" (.p (.bool b)) st = .ok (.p (.bool true)) st := nr rfl
theorem e_neb (a b : Bool) (st : Store) : cmpD .NotEq (.p (.bool a)) (.p (.bool b)) st = .ok (.p (.bool (!(a == b)))) st := by
  cases a <;> cases b <;> exact nr rfl
theorem not_true_false : (!true) = false := rfl
end MP

set_option Elab.async false
set_option linter.all false
set_option autoImplicit false
set_option maxRecDepth 100000
set_option maxHeartbeats 2000000
/-! the facts of a text's head, gathered -/
namespace MP
open PySem PySem.Spec PyProof.Rows L2
section
variable {w : World} {K : PySem.W.Frag} {h : Heap} {mg : Str → Option Value}
theorem funAt {d : Def} {f : Addr} {od an : Option Addr} {sl : Array (Option Value)} {oc kV dc pm cd ct : Value} (X : K.In h) (G : h.Ns mainGlobals mg) (hc : d.cls = none) (hd : d.dfl = [])
    (a : PySem.W.nsIn K mainGlobals d.gname = some (some (.ref f))) (l : K.lookup f = some ⟨oc, od, .func (PySem.W.fnOf d.name d.qual (defArgs d.st) (defBody d.st) (defScope d.st) .none kV dc pm an cd ct), sl⟩) (c : PySem.W.codeIn K cd d.qual = true) (k : PySem.W.keepIn K (.ref f) = true)
    (hb : ∀ F : Fun K d.name d.qual d.st f (PySem.W.fnOf d.name d.qual (defArgs d.st) (defBody d.st) (defScope d.st) .none kV dc pm an cd ct), Binds K (PySem.W.fnOf d.name d.qual (defArgs d.st) (defBody d.st) (defScope d.st) .none kV dc pm an cd ct) (d.N.take d.np) []) : FunAt K mg d := by
  have F := fun_mk (st := d.st) l c k
  unfold FunAt
  rw [hc]
  exact ⟨f, _, F, ⟨PySem.W.mg_of X G a, a⟩, hb F, fun z => absurd hd z⟩
/-- a method -/
theorem methAt {d : Def} {c : Str} {A f : Addr} {od an : Option Addr} {sl : Array (Option Value)} {oc kV dc pm cd ct : Value} (hc : d.cls = some c) (hn : (d.name == ("__init__" : Str)) = false)
    (a : PySem.W.nsIn K mainGlobals c = some (some (.ref A))) (cl : Cls K A) (fi : PySem.W.findIn K (.ref A) d.name = some (some (.ref f))) (fn : PySem.W.isFn K (.ref f) = true)
    (l : K.lookup f = some ⟨oc, od, .func (PySem.W.fnOf d.name d.qual (defArgs d.st) (defBody d.st) (defScope d.st) .none kV dc pm an cd ct), sl⟩) (cc : PySem.W.codeIn K cd d.qual = true) (k : PySem.W.keepIn K (.ref f) = true)
    (hb : ∀ F : Fun K d.name d.qual d.st f (PySem.W.fnOf d.name d.qual (defArgs d.st) (defBody d.st) (defScope d.st) .none kV dc pm an cd ct), Binds K (PySem.W.fnOf d.name d.qual (defArgs d.st) (defBody d.st) (defScope d.st) .none kV dc pm an cd ct) (d.N.take d.np) []) : FunAt K mg d := by
  have F := fun_mk (st := d.st) l cc k
  unfold FunAt
  rw [hc]
  refine ⟨A, f, _, a, F, hb F, ?_⟩
  rw [if_neg (by rw [hn]; simp)]
  exact ⟨cl, ⟨fi, fn, k⟩⟩
/-- an __init__ -/
theorem iniAt {d : Def} {c : Str} {A f : Addr} {od an : Option Addr} {sl : Array (Option Value)} {oc kV dc pm cd ct : Value} (X : K.In h) (G : h.Ns mainGlobals mg) (hc : d.cls = some c) (hn : d.name = "__init__")
    (a : PySem.W.nsIn K mainGlobals c = some (some (.ref A))) (mk : PySem.W.makesIn K A = true) (fi : PySem.W.findIn K (.ref A) "__init__" = some (some (.ref f))) (fn : PySem.W.isFn K (.ref f) = true) (kc : PySem.W.keepIn K (.ref A) = true)
    (l : K.lookup f = some ⟨oc, od, .func (PySem.W.fnOf d.name d.qual (defArgs d.st) (defBody d.st) (defScope d.st) .none kV dc pm an cd ct), sl⟩) (cc : PySem.W.codeIn K cd d.qual = true) (k : PySem.W.keepIn K (.ref f) = true)
    (hb : ∀ F : Fun K d.name d.qual d.st f (PySem.W.fnOf d.name d.qual (defArgs d.st) (defBody d.st) (defScope d.st) .none kV dc pm an cd ct), Binds K (PySem.W.fnOf d.name d.qual (defArgs d.st) (defBody d.st) (defScope d.st) .none kV dc pm an cd ct) (d.N.take d.np) []) : FunAt K mg d := by
  have F := fun_mk (st := d.st) l cc k
  unfold FunAt
  rw [hc]
  refine ⟨A, f, _, a, F, hb F, ?_⟩
  rw [if_pos (by rw [hn]; exact beq_self_eq_true _)]
  exact ⟨PySem.W.mg_of X G a, ⟨mk, fi, fn, kc⟩⟩
theorem clf_of {c f : Str} {A : Addr} (a : PySem.W.nsIn K mainGlobals c = some (some (.ref A))) (cl : Cls K A) (no : PySem.W.findIn K (.ref A) f = some none) : ∃ A, clsAt K c A ∧ Cls K A ∧ NoAttr K A f := ⟨A, a, cl, no⟩
/-- an own exception with fields -/
theorem xmk_own {c B : Str} {np : Nat} {fs : List (Str × FE)} {A CB fI : Addr} {T : Tabs} {d : Def} {fd : FuncData} {nm q : Str} {N : Addr} {bs bm : List Value} {sn : List Str} {sub : List Value} {ab : Bool} {col : Option Bool} {dd : Option Addr} {k0 k1 k2 k3 k5 : Option Value}
    (X : K.In h) (G : h.Ns mainGlobals mg) (a : PySem.W.nsIn K mainGlobals c = some (some (.ref A))) (l : K.lookup A = some (excClassObj nm q A N bs bm true sn sub ab col dd k0 k1 k2 k3 k5 "ValueError.__new__")) (hv : PySem.HandSPX.refsVE bm = true)
    (sa : PySem.W.findIn K (.ref A) "__setattr__" = some (some (.builtin "object.__setattr__"))) (ex : PySem.W.subIn K (.ref A) (.type "BaseException") = some true) (ty : PySem.W.typeIn K (.ref A) = some (.type "type")) (kp : PySem.W.keepIn K (.ref A) = true)
    (fi : PySem.W.findIn K (.ref A) "__init__" = some (some (.ref fI))) (tf : PySem.W.typeIn K (.ref fI) = some (.type "function")) (hd : d.name = "__init__") (hnp : d.np = np + 1) (F : Fun K d.name d.qual d.st fI fd) (hb : Binds K fd (d.N.take d.np) [])
    (hs : scC d = true) (hc : chkI (ctxOf [] T d) B fs (defBody d.st) = true) (no : ∀ f fe, (f, fe) ∈ fs → PySem.W.findIn K (.ref A) f = some none) (hB : PySem.W.nsIn K mainGlobals B = some (some (.ref CB)))
    (rd : PySem.W.readsIn K CB (.type "type") = true) (sp : PySem.W.specialIn K (.ref CB) "__getattribute__" = some (some (.builtin "type.__getattribute__"))) (fc : PySem.W.findCls K (.ref CB) (.type "type") "__init__" = some (.val (.builtin "ValueError.__init__")))
    (hbl : ∀ x, x ∈ T.bl → mg x = none) :
    ∃ A, clsAt K c A ∧ mg c = some (.ref A) ∧ PySem.W.subIn K (.ref A) (.type "BaseException") = some true ∧ PySem.W.typeIn K (.ref A) = some (.type "type") ∧
    ((fs = [] ∧ PySem.W.keepIn K (.ref A) = true ∧ PySem.W.excIn K A veBases "ValueError.__new__" = true) ∨
      (OexC K A ∧ ∃ fI fd ps, PySem.W.findIn K (.ref A) "__init__" = some (some (.ref fI)) ∧ PySem.W.typeIn K (.ref fI) = some (.type "function") ∧ (∀ (P : Program) (w : World) (base : Heap), FnOk P w K mg base (L2.CX P w) 1 fI fd ps (spInit K A np fs)) ∧ Binds K fd ps [])) := by
  obtain ⟨S, hl⟩ := scC_of hs
  have ox : OexC K A := ⟨⟨nm, q, N, bs, bm, sn, sub, ab, col, dd, k0, k1, k2, k3, k5, l, hv⟩, sa, ex, ty, kp⟩
  rw [hd] at F
  rw [hnp] at S hl hb
  exact ⟨A, a, PySem.W.mg_of X G a, ex, ty, .inr ⟨ox, fI, fd, d.N.take (np + 1), fi, tf, fun P w base => initFn (C := ctxOf [] T d) F S hl rfl hc ox no (PySem.W.mg_of X G hB) ⟨rd, sp⟩ fc hbl, hb⟩⟩
/-- .. without an __init__ of its own -/
theorem xmk_plain {c : Str} {np : Nat} {A : Addr} (X : K.In h) (G : h.Ns mainGlobals mg) (a : PySem.W.nsIn K mainGlobals c = some (some (.ref A))) (ex : PySem.W.subIn K (.ref A) (.type "BaseException") = some true) (ty : PySem.W.typeIn K (.ref A) = some (.type "type")) (kp : PySem.W.keepIn K (.ref A) = true)
    (xi : PySem.W.excIn K A veBases "ValueError.__new__" = true) :
    ∃ A, clsAt K c A ∧ mg c = some (.ref A) ∧ PySem.W.subIn K (.ref A) (.type "BaseException") = some true ∧ PySem.W.typeIn K (.ref A) = some (.type "type") ∧
    ((([] : List (Str × FE)) = [] ∧ PySem.W.keepIn K (.ref A) = true ∧ PySem.W.excIn K A veBases "ValueError.__new__" = true) ∨
      (OexC K A ∧ ∃ fI fd ps, PySem.W.findIn K (.ref A) "__init__" = some (some (.ref fI)) ∧ PySem.W.typeIn K (.ref fI) = some (.type "function") ∧ (∀ (P : Program) (w : World) (base : Heap), FnOk P w K mg base (L2.CX P w) 1 fI fd ps (spInit K A np [])) ∧ Binds K fd ps [])) :=
  ⟨A, a, PySem.W.mg_of X G a, ex, ty, .inl ⟨rfl, kp, xi⟩⟩
theorem xmt_of {c d : Str} {b : Bool} {A B : Addr} (X : K.In h) (G : h.Ns mainGlobals mg) (a : PySem.W.nsIn K mainGlobals c = some (some (.ref A))) (e : PySem.W.nsIn K mainGlobals d = some (some (.ref B))) (ex : PySem.W.subIn K (.ref B) (.type "BaseException") = some true) (ic : PySem.W.isClsIn K B = true) (ty : PySem.W.typeIn K (.ref B) = some (.type "type"))
    (s : PySem.W.subIn K (.ref A) (.ref B) = some b) : ∃ A B, clsAt K c A ∧ clsAt K d B ∧ mg d = some (.ref B) ∧ PySem.W.exmOne K (.ref A) (.ref B) = some b :=
  ⟨A, B, a, e, PySem.W.mg_of X G e, by
    have h2 : ((PySem.W.clsIn K B).isSome && PySem.W.typeIn K (.ref B) == some (.type "type")) = true := by
      rw [show (PySem.W.clsIn K B).isSome = true from ic, ty] <;> rfl
    unfold PySem.W.exmOne
    rw [if_pos (by rw [ex] <;> rfl)]
    show (if ((PySem.W.clsIn K B).isSome && PySem.W.typeIn K (.ref B) == some (.type "type")) = true then PySem.W.subIn K (.ref A) (.ref B) else none) = some b
    rw [if_pos h2]
    exact s⟩
theorem xcf_of {c f : Str} {A : Addr} (a : PySem.W.nsIn K mainGlobals c = some (some (.ref A))) (ga : PySem.W.findIn K (.ref A) "__getattribute__" = some (some (.builtin "BaseException.__getattribute__"))) (gg : PySem.W.findIn K (.ref A) "__getattr__" = some none) (ex : PySem.W.subIn K (.ref A) (.type "BaseException") = some true) (hd : PySem.W.hasDictIn K A = true)
    (no : PySem.W.findIn K (.ref A) f = some none) : ∃ A, clsAt K c A ∧ XfC K A ∧ PySem.W.findIn K (.ref A) f = some none := ⟨A, a, ⟨ga, gg, ex, hd⟩, no⟩
theorem hcl_of {d : Str} {B : Addr} (X : K.In h) (G : h.Ns mainGlobals mg) (e : PySem.W.nsIn K mainGlobals d = some (some (.ref B))) : ∃ B, clsAt K d B ∧ mg d = some (.ref B) := ⟨B, e, PySem.W.mg_of X G e⟩
end
end MP

set_option Elab.async false
set_option linter.all false
set_option autoImplicit false
set_option maxRecDepth 100000
set_option maxHeartbeats 1000000
/-! more of the plain calculus: dicts, kinds, exceptions -/
namespace MP
open PySem PySem.Spec PyProof.Rows L2
section
variable {st : Store}
theorem e_mkT (ds : List D) (st : Store) : mkT ds st = match pures ds with
  | some xs => .ok (.p (.tuple xs)) st
  | none => .ok (.c st.length) (st ++ [.tup ds]) := nr rfl
theorem isDict_p (x : PyData) : isDict (.p x) st = false := nr rfl
theorem isDict_c {n : Nat} {ds : List D} (h : cellL st n = some ds) : isDict (.c n) st = false := by
  have h' := cellL_some h
  unfold isDict dictOf dttOf
  simp only [h', Option.isSome_none, Bool.or_self]
  try rfl
theorem isDict_d {n : Nat} {kvs : List (Key × D)} (h : st[n]? = some (.dct kvs)) : isDict (.c n) st = true := by
  unfold isDict dictOf
  simp only [h, Option.isSome_some, Bool.true_or]
theorem ix_c {n : Nat} {ds : List D} (h : cellL st n = some ds) (i : Int) : ixD (.c n) (.p (.int i)) st = match atI ds i with | some d => .ok d st | none => .bad := by
  have h0 : items (.c n) st = some ds := h
  unfold ixD
  rw [isDict_c h]
  simp only [ixD0, h0, Bool.false_eq_true, if_false] <;> (cases atI ds i <;> rfl)
theorem look_d {n : Nat} {kvs : List (Key × D)} (h : st[n]? = some (.dct kvs)) (z : Str) : lookD (.c n) (.p (.str z)) st = some (valD kvs (.inr z)) := by
  unfold lookD dictOf
  simp only [h]
  rfl
theorem in_d {n : Nat} {kvs : List (Key × D)} (h : st[n]? = some (.dct kvs)) (z : Str) : cmpD .In (.p (.str z)) (.c n) st = .ok (.p (.bool (valD kvs (.inr z)).isSome)) st := by
  show inD false _ _ st = _
  unfold inD
  rw [isDict_d h, look_d h]
  rfl
theorem notIn_d {n : Nat} {kvs : List (Key × D)} (h : st[n]? = some (.dct kvs)) (z : Str) : cmpD .NotIn (.p (.str z)) (.c n) st = .ok (.p (.bool (!(valD kvs (.inr z)).isSome))) st := by
  show inD true _ _ st = _
  unfold inD
  rw [isDict_d h, look_d h]
  rfl
theorem ix_d {n : Nat} {kvs : List (Key × D)} (h : st[n]? = some (.dct kvs)) {z : Str} {d : D} (hv : valD kvs (.inr z) = some d) : ixD (.c n) (.p (.str z)) st = .ok d st := by
  unfold ixD
  rw [isDict_d h, look_d h, hv]
  rfl
theorem valD_cons {k k' : Str} {d : D} {r : List (Key × D)} : valD ((.inr k', d) :: r) (.inr k : Key) = if k' = k then some d else valD r (.inr k) := by
  unfold valD
  rw [List.find?_cons]
  by_cases h : k' = k
  · subst h; simp
  · have : (Sum.inr k' : Key) ≠ Sum.inr k := fun e => h (Sum.inr.inj e)
    simp [h, this]
theorem valD_nil (k : Key) : valD ([] : List (Key × D)) k = none := nr rfl
theorem disp3 {n : Nat} (h : dcellL st n = some []) (a b c : Str) (x y z : D) (h1 : a ≠ b) (h2 : a ≠ c) (h3 : b ≠ c) : dispD n [a, b, c] [x, y, z] st = .ok (.c n) (st.set n (.dct [(.inr a, x), (.inr b, y), (.inr c, z)])) := by
  have i1 : (Sum.inr a : Key) ≠ Sum.inr b := fun e => h1 (Sum.inr.inj e)
  have i2 : (Sum.inr a : Key) ≠ Sum.inr c := fun e => h2 (Sum.inr.inj e)
  have i3 : (Sum.inr b : Key) ≠ Sum.inr c := fun e => h3 (Sum.inr.inj e)
  unfold dispD
  simp only [h]
  rw [if_pos ⟨rfl, by show 3 ≤ 15; decide⟩]
  have : mergeD [] (([a, b, c].zip [x, y, z]).map fun p => (Sum.inr p.1, p.2)) = [(.inr a, x), (.inr b, y), (.inr c, z)] := by
    simp [mergeD, putD, h1, h2, h3, i1, i2, i3]
  rw [this]
theorem dcell_new (st : Store) : dcellL (st ++ [.dct []]) st.length = some [] := by
  unfold dcellL
  rw [List.getElem?_concat_length]
def isInt : PyData → Bool
  | .int _ => true
  | .bool _ => true
  | _ => false
def isBool : PyData → Bool
  | .bool _ => true
  | _ => false
def isStr : PyData → Bool
  | .str _ => true
  | _ => false
def isTuple : PyData → Bool
  | .tuple _ => true
  | _ => false
def isList : PyData → Bool
  | .list _ => true
  | _ => false
theorem e_isInt {x : PyData} (h : x.plain = true) : isiD "int" (.p x) st = .ok (.p (.bool (isInt x))) st := by
  cases x <;> first | exact nr rfl | cases h
theorem e_isBool {x : PyData} (h : x.plain = true) : isiD "bool" (.p x) st = .ok (.p (.bool (isBool x))) st := by
  cases x <;> first | exact nr rfl | cases h
theorem e_isStr {x : PyData} (h : x.plain = true) : isiD "str" (.p x) st = .ok (.p (.bool (isStr x))) st := by
  cases x <;> first | exact nr rfl | cases h
theorem e_isTuple {x : PyData} (h : x.plain = true) : isiD "tuple" (.p x) st = .ok (.p (.bool (isTuple x))) st := by
  cases x <;> first | exact nr rfl | cases h
theorem e_isList {x : PyData} (h : x.plain = true) : isiD "list" (.p x) st = .ok (.p (.bool (isList x))) st := by
  cases x <;> first | exact nr rfl | cases h
theorem e_addLL (xs ys : List PyData) (h : xs.length + ys.length ≤ 1000) : binD .Add (.p (.list xs)) (.p (.list ys)) st = .ok (.p (.list (xs ++ ys))) st := by
  unfold binD addD
  simp only [items, List.length_map, if_pos (sz_le h)]
  rw [← List.map_append, mkL_p]
theorem e_addTT (xs ys : List PyData) (h : xs.length + ys.length ≤ 1000) : binD .Add (.p (.tuple xs)) (.p (.tuple ys)) st = .ok (.p (.tuple (xs ++ ys))) st := by
  unfold binD addD
  simp only [if_pos (sz_le h)]
theorem e_isN (d : D) : cmpD .Is d (.p .none) st = .ok (.p (.bool (isC .none d))) st := nr rfl
theorem e_isK (d : D) (k : Bool) : cmpD .Is d (.p (.bool k)) st = .ok (.p (.bool (isC (.bool k) d))) st := nr rfl
theorem e_all (bs : List Bool) : bi1D .all (.p (.list (bs.map .bool))) st = .ok (.p (.bool (bs.all id))) st := by
  unfold bi1D allD items
  simp only
  have h := bools_map (fun b : Bool => b) bs
  rw [show (bs.map PyData.bool).map D.p = bs.map fun x => D.p (.bool x) from by rw [List.map_map]; rfl, h]
  simp
theorem e_neX {x y : PyData} (h : min x.depth y.depth ≤ 64) : cmpD .NotEq (.p x) (.p y) st = .ok (.p (.bool (!PyData.eqv x y))) st := by
  unfold cmpD eqD
  simp only [toP_p]
  rw [if_pos]
  · rfl
  · unfold eqRoom
    exact decide_eq_true h
theorem e_inT {x : PyData} {ys : List PyData} (h : x.depth ≤ 64) : cmpD .In (.p x) (.p (.tuple ys)) st = .ok (.p (.bool (ys.any fun y => PyData.eqv y x))) st := by
  show inD false _ _ st = _
  unfold inD
  rw [isDict_p, if_neg (by simp)]
  unfold inD0
  simp only [toP_p, decide_eq_true h, if_true, Bool.false_eq_true, if_false]
theorem e_notInT {x : PyData} {ys : List PyData} (h : x.depth ≤ 64) : cmpD .NotIn (.p x) (.p (.tuple ys)) st = .ok (.p (.bool (!(ys.any fun y => PyData.eqv y x)))) st := by
  show inD true _ _ st = _
  unfold inD
  rw [isDict_p, if_neg (by simp)]
  unfold inD0
  simp only [toP_p, decide_eq_true h, if_true]
theorem any_strs (hs : List Str) (z : Str) : ((hs.map PyData.str).any fun y => PyData.eqv y (.str z)) = hs.contains z := by
  induction hs with
  | nil => rfl
  | cons a r ih =>
    rw [List.map_cons, List.any_cons, ih, List.contains_cons]
    congr 1
    simp only [PyData.eqv]
    exact BEq.comm
theorem cellBelow_mono {n m : Nat} (hnm : n ≤ m) {c : Cell} (h : cellBelow n c = true) : cellBelow m c = true := by
  have hd : ∀ {d : D}, dBelow n d = true → dBelow m d = true := fun {d} h => by
    cases d with
    | fn z => rfl
    | p x => rfl
    | c k => simp only [dBelow, decide_eq_true_eq] at h ⊢; omega
  cases c <;> first | rfl | (simp only [cellBelow, List.all_eq_true] at h ⊢; exact fun x hx => hd (h x hx))
/-- the cells hold nothing beyond -/
def Clo (st : Store) : Prop := st.all (cellBelow st.length) = true
theorem gc_cl {st ex : Store} (h : Clo st) : gc st.length (st ++ ex) = st := gc_app h
theorem frz_c {n : Nat} {xs : List PyData} (h : cellL st n = some (xs.map .p)) : frzD (.c n) st = .ok (.p (.list xs)) (st.set n .dead) := by
  unfold frzD
  simp only [h, pures_map]
theorem ins_c {n : Nat} {xs : List D} (h : cellL st n = some xs) (i : Int) (y : D) (hz : xs.length ≤ 1000) (h0 : 0 ≤ i) (h1 : i ≤ 1000) : mthD .insert (.c n) [.p (.int i), y] st = .ok (.p .none) (st.set n (.lst (xs.take i.toNat ++ [y] ++ xs.drop i.toNat))) := by
  unfold mthD
  simp only [h]
  rw [if_pos ⟨Nat.lt_of_le_of_lt hz (by decide), h0, by omega⟩]
theorem items_c {n : Nat} {xs : List D} (h : cellL st n = some xs) : items (.c n) st = some xs := h
theorem e_zipST (z : Str) (ys : List PyData) : zipI (.p (.str z)) (.p (.tuple ys)) st = .ok ((z.cps.toList.zip ys).map fun p => .two (.p (.str ⟨#[p.1]⟩)) (.p p.2), fun _ => True) st := nr rfl
end
theorem e_sv_lock {G : Sem1} (i : Nat) (ps : List Pst) (s : MS) (env : Env) (st : Store) : sv G (MS.lock i ps s) env st = lockR i ps env st fun st => sv G s env st := nr rfl
theorem wp_unlk {n : Nat} {c c' : Cell} {f : Fl} {st : Store} {X : Exc → Store → Prop} {Q : Fl → Store → Prop} (h : st[n]? = some c) (hq : Q f (st.set n c')) : wpe X (unlkR n c c' f st) Q := by
  unfold unlkR
  rw [if_pos h]
  exact hq
theorem lock_d {i n : Nat} {ps : List Pst} {env : Env} {st : Store} {kvs : List (Key × D)} {k : Store → R Fl} {X : Exc → Store → Prop} {Q : Fl → Store → Prop} (he : pathN env st i ps = some (.c n)) (h : st[n]? = some (.dct kvs))
    (hw : wpe NoX (k (st.set n (.lkd kvs))) fun f st' => st'[n]? = some (.lkd kvs) ∧ Q f (st'.set n (.dct kvs))) : wpe X (lockR i ps env st k) Q := by
  unfold lockR
  simp only [he, h]
  rw [wp_bind, wp_noEx]
  exact wp_mono hw fun f st' hh => wp_unlk hh.1 hh.2
theorem lock_t {i n : Nat} {ps : List Pst} {env : Env} {st : Store} {kvs : List (List Key × D)} {k : Store → R Fl} {X : Exc → Store → Prop} {Q : Fl → Store → Prop} (he : pathN env st i ps = some (.c n)) (h : st[n]? = some (.dtt kvs))
    (hw : wpe NoX (k (st.set n (.lkt kvs))) fun f st' => st'[n]? = some (.lkt kvs) ∧ Q f (st'.set n (.dtt kvs))) : wpe X (lockR i ps env st k) Q := by
  unfold lockR
  simp only [he, h]
  rw [wp_bind, wp_noEx]
  exact wp_mono hw fun f st' hh => wp_unlk hh.1 hh.2
theorem seqI_K {n : Nat} {st : Store} {kvs : List (Key × D)} (h : st[n]? = some (.lkd kvs)) : seqI (.c n) st = .ok (kvs.map fun kv => .one (.p (keyP kv.1)), fun _ => True) st := by
  unfold seqI
  simp only [h]
theorem seqI_KT {n : Nat} {st : Store} {kvs : List (List Key × D)} (h : st[n]? = some (.lkt kvs)) : seqI (.c n) st = .ok (kvs.map fun kv => .one (.p (.tuple (kv.1.map keyP))), fun st' => noPT st' = true) st := by
  unfold seqI
  simp only [h]
theorem eqv_self {x : PyData} (h : x.plain = true) : PyData.eqv x x = true := PySem.SeqAt.eqv_refl_plain x h
end MP

set_option Elab.async false
set_option linter.all false
set_option autoImplicit false
set_option maxRecDepth 100000
set_option maxHeartbeats 2000000
/-! a def that asks repr: promised where nothing is being shown -/
namespace MP
open PySem PySem.Spec PyProof.Rows L2
/-- a promise at such places alone -/
def AtG (P : Program) (w : World) (K : PySem.W.Frag) (mg : Str → Option Value) (base : Heap) (k : Nat) (f : Addr) (fd : FuncData) (ps : List Str) (sp : Sp) : Prop :=
  ∀ (A : Around) (out : List PySem.Env) (s : Shared) (H : Hp) (args : Args) (us : List Value) (vs : List V) (Q : VK) (E : XK), A.guards = some [] → Room k A → Env0 P w K mg base A out s H → BindsTo s fd args (ps.zip us) → Vals vs us → sp vs H Q E →
    codeAny (model P w) A (.call (.ref f) args) (L2.CR (L2.CX P w) out P w H s Q E) s
section
variable {P : Program} {w : World} {K : PySem.W.Frag} {mg : Str → Option Value} {base : Heap}
/-- a call of a def, its body's reading told at this very place -/
theorem call_here {x qual : Str} {stm : Stmt} {f : Addr} {fd : FuncData} {N ps : List Str} {k : Nat} (F : Fun K x qual stm f fd) (S : FnScope N ps (defScope stm)) {A : Around} {out : List PySem.Env} {s : Shared} {H : Hp} {args : Args} {us : List Value} {vs : List V} {Q : VK} {E : XK} (hr : Room (k + 1) A) (e0 : Env0 P w K mg base A out s H) (hb : BindsTo s fd args (ps.zip us)) (r : Vals vs us) (hl : vs.length = ps.length)
    (body : ∀ cdv : Value, ∃ t, PSs (cxOf (L2.CX P w) P w K mg base N qual (defScope stm) f cdv A out s H E) (defBody stm) t ∧ t { nx := fun _ H' => Q .non H', rt := Q } (start N vs) H) :
    codeAny (model P w) A (.call (.ref f) args) (L2.CR (L2.CX P w) out P w H s Q E) s := by
  obtain ⟨oc, od, kV, doc, pm, an, cdv, ct, osl, rfl, lk, hcd⟩ := F.ex
  have old : ∀ b o, base.get? b = some o → s.heap.get? b = some o := fun b o e => (e0.bs b o e).1
  have inK := e0.mod.kin.keeps old
  have nolim := e0.mod.nolimit.keeps old
  have kinds : ∀ y ∈ ps.zip us, (defScope stm).names.lookup y.1 = some .local ∨ ((defScope stm).names.lookup y.1 = some .cell ∧ ((cellsFrom (s.heap.objs.size + 1) (defScope stm).names []).lookup y.1).isSome = true) := fun ⟨n, v⟩ hy => (S.par n (List.of_mem_zip hy).1).imp id fun q => ⟨q, PySem.W.cellsFrom_some _ _ _ (.inl q)⟩
  refine codeAny_call_function hr.depth (inK _ _ lk) rfl S.co S.gen rfl (PySem.W.codeRec_of inK hcd) (hb _ _ _ _ (wpAny_newFunctionEnv_cells S.kind kinds fun env he s1 xx => ?_))
  subst he
  obtain ⟨t, ht, hq⟩ := body cdv
  have I := inv_start (CX := L2.CX P w) (N := N) (qual := qual) (f := f) (cd := cdv) (E := E) S hr.hd e0 hl r xx
  refine ⟨nolim.keeps xx.toInCall.keep, codeAny_func (wpAny_mono (ht.run [] s1 _ H _ I hq) (fun fl s' hs => ?_) fun e s' hs => hs)⟩
  cases fl with
  | brk => exact hs.elim fun _ z => z.elim fun _ z => z.2.elim
  | cont => exact hs.elim fun _ z => z.elim fun _ z => z.2.elim
  | next => exact hs.elim fun σ1 z => z.elim fun H1 z => ⟨V.non, H1, z.1.os, z.1.bare, z.1.base, z.1.hok, rfl, z.2⟩
  | ret u => exact hs.elim fun v z => z.elim fun σ1 z => z.elim fun H1 z => ⟨v, H1, z.1.os, z.1.bare, z.1.base, z.1.hok, z.2.1, z.2.2⟩
theorem atG {defs : List Def} {T : Tabs} (M : Mods K w mg defs T) (hc : ∀ d ∈ defs, defK defs T d = true) (k i : Nat) (d : Def) (hd : defs[i]? = some d) (hcd : defC defs T d = true) {fa : Addr} {fd : FuncData} (F : Fun K d.name d.qual d.st fa fd) :
    AtG P w K mg base (k + 3) fa fd (d.N.take d.np) (spOf K (XRel K) (semK defs (k + 1) i)) := by
  intro A out s H args us vs Q E hgd hr0 e0 hb rv hsp
  have hr : ∀ env, Room (k + 2) (A.deeper env) := fun env => hr0.deeper env
  unfold defC at hcd
  rw [Bool.and_eq_true] at hcd
  obtain ⟨hsc, hlen⟩ := scC_of hcd.1
  have sem_eq := fun ds st => semK_at (k := k) hd ds st
  have rpc : ∀ (d' : Def) (c : Str), d' ∈ defs → d'.cls = some c → d'.rp = false := fun d' c hm hcl => by
    have := hc d' hm
    unfold defK at this
    split at this
    · rw [hcl] at this; cases this
    · rename_i q; simpa using q
  obtain ⟨ds, st, F', φ, S, r, h⟩ := hsp
  rw [sem_eq] at h
  unfold fnSem at h
  split at h
  · rename_i hl
    refine call_here F hsc hr0 e0 hb rv (by rw [rds_length r, hl, hlen]) fun cdv => ?_
    have hr := hr (envOfC d.qual (defScope d.st) s.heap.objs.size fa cdv)
    have tk : Takes (cxOf (L2.CX P w) P w K mg base d.N d.qual (defScope d.st) fa cdv A out s H E) fun cls d σ H => E cls d H := takes_of rfl rfl rfl rfl
    have pcall : Passes (L2.CX P w) (cxOf (L2.CX P w) P w K mg base d.N d.qual (defScope d.st) fa cdv A out s H E) E := passes_call tk fun cls d σ H h => h
    have wf : WF (cxOf (L2.CX P w) P w K mg base d.N d.qual (defScope d.st) fa cdv A out s H E) (ctxOf defs T d) (semK defs k) (XRel K) (fun _ => E) := by
      refine ⟨rfl, rfl, hsc.nd, rfl, fun _ _ => rfl, M.glb, M.gds, M.bl, fun j f hj => ?_, M.clf, fun c m j hj => ?_, fun c j hj => ?_, fun j dv f hj hf => ?_, fun c np fs hm => ?_, M.xmt, M.xcf, M.hcl, M.xis, fun _ => ⟨E, rfl, pcall⟩, fun σ pins H s e s' I c => pcall pins σ H s e s' I c, ?_, ?_⟩
      · have hj : (defs.map fnName)[j]? = some (some f) := hj
        rw [List.getElem?_map] at hj
        obtain ⟨d', h1, h2⟩ := Option.map_eq_some_iff.mp hj
        have hf := M.fns d' (List.mem_of_getElem? h1)
        unfold FunAt at hf
        unfold fnName at h2
        cases hcl : d'.cls with
        | none =>
          rw [hcl] at hf h2
          dsimp only at h2
          split at h2
          · cases h2
          · rename_i hq
            cases Option.some.inj h2
            obtain ⟨fa', fd', F2, hm, hb, _⟩ := hf
            exact ⟨k + 2, fa', fd', d'.N.take d'.np, fnOk M hc k j d' h1 (by simpa using hq) fa' fd' F2, hr, hm, F2.kp, hb⟩
        | some c =>
          rw [hcl] at h2
          cases h2
      · obtain ⟨⟨d', j'⟩, h1, h2⟩ := List.mem_filterMap.mp hj
        have hf := M.fns d' (List.mem_of_getElem? (zipIdx_mem h1))
        unfold FunAt at hf
        dsimp only at h2
        split at h2
        · rename_i c' hcl
          split at h2
          · cases h2
          · rename_i hni
            cases Option.some.inj h2
            rw [hcl] at hf
            obtain ⟨A', fa', fd', g1, F2, hb, g2⟩ := hf
            rw [if_neg hni] at g2
            exact ⟨A', k + 2, fa', fd', d'.N.take d'.np, g1, g2.1, g2.2, fnOk M hc k j d' (zipIdx_mem h1) (rpc _ _ (List.mem_of_getElem? (zipIdx_mem h1)) hcl) fa' fd' F2, hr, hb⟩
        · cases h2
      · obtain ⟨⟨d', j'⟩, h1, h2⟩ := List.mem_filterMap.mp hj
        have hf := M.fns d' (List.mem_of_getElem? (zipIdx_mem h1))
        unfold FunAt at hf
        dsimp only at h2
        split at h2
        · rename_i c' hcl
          split at h2
          · rename_i hni
            cases Option.some.inj h2
            rw [hcl] at hf
            obtain ⟨A', fa', fd', g1, F2, hb, g2⟩ := hf
            rw [if_pos hni] at g2
            cases k with
            | zero => exact ⟨A', 0, fa', fd', d'.N.take d'.np, g1, g2.1, g2.2, fnBad fun _ _ => semK_zero .., hr.mono (by omega), hb⟩
            | succ k =>
              refine ⟨A', k + 2, fa', fd', d'.N.take d'.np, g1, g2.1, g2.2, ?_, hr.mono (by omega), hb⟩
              have e : semK defs (k + 1) (j' + defs.length) = semK defs k j' := by funext ds st; exact semK_new ds st
              rw [e]
              exact fnOk M hc k j' d' (zipIdx_mem h1) (rpc _ _ (List.mem_of_getElem? (zipIdx_mem h1)) hcl) fa' fd' F2
          · cases h2
        · cases h2
      · obtain ⟨⟨d', j'⟩, h1, h2⟩ := List.mem_filterMap.mp hj
        have hg := zipIdx_mem h1
        have hff := M.fns d' (List.mem_of_getElem? hg)
        unfold FunAt at hff
        dsimp only at h2
        split at h2
        · cases h2
        · rename_i hcl
          split at h2
          · cases h2
          · rename_i hne
            cases Option.some.inj h2
            rw [hcl] at hff
            obtain ⟨fa', fd', F2, hm, hb, hd2⟩ := hff
            obtain ⟨ds2, dvs, q1, q2, q3⟩ := hd2 (fun z => by rw [z] at hne; exact hne rfl)
            have hj2 : (defs.map fnName)[j]? = some (some f) := hf
            rw [List.getElem?_map, hg] at hj2
            have hfn : fnName d' = some f := Option.some.inj hj2
            unfold fnName at hfn
            rw [hcl] at hfn
            dsimp only at hfn
            split at hfn
            · cases hfn
            · rename_i hq
              cases Option.some.inj hfn
              exact ⟨k + 2, fa', fd', d'.N.take d'.np, ds2, dvs, fnOk M hc k j d' hg (by simpa using hq) fa' fd' F2, hr, hm.1, F2.kp, q1, q2, q3⟩
      · obtain ⟨A', g1, g2, g3, g4, g5⟩ := M.xmk c np fs hm
        refine ⟨A', g1, g2, raises_own g3 g4, ?_⟩
        rcases g5 with g5 | ⟨ox, fI, fd', ps, q1, q2, q3, q4⟩
        · exact .inl g5
        · exact .inr ⟨ox, 1, fI, fd', ps, q1, q2, q3 P w base, hr.mono (by omega), q4⟩
      · have := hr.un
        show (A.deeper _).units + 200 < cLine
        omega
      · exact fun _ => hgd
    have wfs : WFS (cxOf (L2.CX P w) P w K mg base d.N d.qual (defScope d.st) fa cdv A out s H E) (ctxOf defs T d) (semK defs k) (XRel K) E := ⟨wf, passes_of rfl, hsc.kind, rfl, tk, rfl, rfl⟩
    exact ⟨_, sndSs wfs d.body hcd.2, env0 d.N.length ds, st, F', φ, S, er_start r, sat_fin S h⟩
  · exact h.elim
end
section
variable {P : Program} {w : World} {K : PySem.W.Frag} {mg mb : Str → Option Value} {k : Nat} {fa a : Addr} {fd : FuncData} {x : Str} {sp : Sp} {s1 : Shared} {vs : List Value} {ns : List Int}
/-- how the law's call is to end -/
abbrev EndsTrue (s1 : Shared) : (Except Value Flow) → Shared → Prop := fun r s' => r = .ok (.ret (.bool true)) ∧ OldK s1.heap s'.heap ∧ s'.os = s1.os ∧ AllBare s'.gens
/-- .. from a heap in which the script alone may be tracked -/
theorem head_from (inK : K.In s1.heap) (nm : s1.heap.Ns mainGlobals mg) (nb : s1.heap.Ns builtinsNs mb) (bb : ∀ x : Str, x ≠ "__name__" → mb x = bootBuiltins x) (nol : s1.heap.NoLimit) (gens : s1.gens = #[])
    (at_ : s1.heap.get? a = some { cls := .type "list", data := .seq vs.toArray }) (room : Room k callerA) (F : ∀ b : Heap, K.In b → b.Ns mainGlobals mg → AtG P w K mg b k fa fd [x] sp) (bind : ∀ (s : Shared) (u : Value), BindsTo s fd ⟨[u], []⟩ [(x, u)])
    {H : Hp} (only : L2.Only H) (hok : HOk P w H s1.heap) (alone : ∀ b, H b ≠ none → b = a) (notK : H a ≠ none → K.lookup a = none) (q0 : sp [.ref a] H (fun v _ => v = .bl true) fun _ _ _ => False) :
    codeAny (model P w) callerA (.call (.ref fa) ⟨[.ref a], []⟩) (EndsTrue s1) s1 := by
  have freeOf : ∀ {b : Addr} {o : Obj} {es : Array DictEntry} {ep : Nat}, s1.heap.get? b = some o → o.data = .dict es ep → H b = none := fun {b o es ep} e d => Classical.byContradiction fun z => by
    rw [alone b z, at_] at e
    cases e
    exact nomatch (show Data.seq vs.toArray _ = Data.dict es ep from d)
  have hidNs : ∀ {b : Addr} {m : Str → Option Value}, s1.heap.Ns b m → (hidT s1.heap H).Ns b m := fun {b m} z => z.elim fun o z => z.elim fun es z => z.elim fun ep z => ⟨o, es, ep, hidT_get z.1 (freeOf z.1 z.2.1), z.2⟩
  have hidK : K.In (hidT s1.heap H) := fun b o e => hidT_get (inK b o e) (Classical.byContradiction fun z => by
    have hz := notK (by rw [← alone b z]; exact z)
    rw [alone b z, hz] at e
    cases e)
  have modOk : Mod K mg (hidT s1.heap H) := ⟨hidK, hidNs nm, ⟨mb, hidNs nb, bb⟩, nol.elim fun mc z => ⟨mc, hidNs z.1, z.2⟩⟩
  have env : Env0 P w K mg (hidT s1.heap H) callerA [] s1 H := ⟨rfl, modOk, (fun b o e => of_hidT e), Nat.le_of_eq (hidT_size _ _), trivial, (fun b hb => nomatch (show b ∈ ([] : List Addr) from hb)), hok, .of_eq gens⟩
  have go := F _ hidK (hidNs nm) callerA [] s1 H ⟨[.ref a], []⟩ [.ref a] [.ref a] _ _ rfl room env (bind s1 (.ref a)) (.cons rfl .nil) q0
  refine codeAny_mono go fun r s' h => ?_
  cases r with
  | error e =>
    obtain ⟨_, _, _, _, _, _, _, _, _, _, _, _, z⟩ := h
    exact z.elim
  | ok fl =>
    cases fl with
    | ret u =>
      obtain ⟨v, H2, os, bare, un, hok2, rv, q⟩ := h
      cases (show v = .bl true from q)
      cases (show u = Value.bool true from rv)
      refine ⟨rfl, OldK.of_keep fun b o e => ?_, os, bare⟩
      rcases only b with z | ⟨ob, xs, z⟩
      · exact un.keep b o e z (fun y => nomatch (show b ∈ ([] : List Addr) from y)) (by simp)
      · have g1 := (hok b _ z).1
        have g2 := (hok2 b _ (un.frzs b ob _ z)).1
        rw [e] at g1
        cases g1
        exact g2
    | next => cases (show False from h)
    | brk => cases (show False from h)
    | cont => cases (show False from h)
/-- the law's promise, behind the top -/
theorem head_call (inK : K.In s1.heap) (nm : s1.heap.Ns mainGlobals mg) (nb : s1.heap.Ns builtinsNs mb) (bb : ∀ x : Str, x ≠ "__name__" → mb x = bootBuiltins x) (nol : s1.heap.NoLimit) (gens : s1.gens = #[])
    (at_ : s1.heap.get? a = some { cls := .type "list", data := .seq vs.toArray }) (intsI : IntsAre vs ns) (hl : ns.length ≤ sizeLine) (room : Room k callerA) (F : ∀ b : Heap, K.In b → b.Ns mainGlobals mg → AtG P w K mg b k fa fd [x] sp) (bind : ∀ (s : Shared) (u : Value), BindsTo s fd ⟨[u], []⟩ [(x, u)])
    (hsp : ∀ H : Hp, L2.Only H → SqL K H a (ns.map V.int) → sp [.ref a] H (fun v _ => v = .bl true) fun _ _ _ => False) : codeAny (model P w) callerA (.call (.ref fa) ⟨[.ref a], []⟩) (EndsTrue s1) s1 := by
  have rv := L2.vals_ints intsI
  obtain ⟨Hn, hHn⟩ : ∃ Hn : Hp, Hn = fun _ => none := ⟨_, rfl⟩
  have nH : ∀ b, Hn b = none := fun b => by rw [hHn]
  cases hk : K.lookup a with
  | some o =>
    have e := inK a o hk
    rw [at_] at e
    cases e
    exact head_from inK nm nb bb nol gens at_ room F bind (H := Hn) (fun b => .inl (nH b)) (fun b u z => by rw [nH] at z; cases z) (fun b z => absurd (nH b) z) (fun z => absurd (nH a) z)
      (hsp Hn (fun b => .inl (nH b)) (.inr ⟨_, vs.toArray, _, hk, rfl, rfl, rfl, by rw [List.size_toArray, intsI.length]; exact hl, by simpa using rv⟩))
  | none =>
    obtain ⟨o, ho⟩ : ∃ o : Obj, o = { cls := .type "list", data := .seq vs.toArray } := ⟨_, rfl⟩
    have ua : upd Hn a (.frz o (.lst (ns.map V.int))) a = some (.frz o (.lst (ns.map V.int))) := by rw [upd_same]
    have un : ∀ b, b ≠ a → upd Hn a (.frz o (.lst (ns.map V.int))) b = none := fun b hb => by rw [upd_ne hb, nH]
    have one : L2.Only (upd Hn a (.frz o (.lst (ns.map V.int)))) := fun b => by
      by_cases hb : b = a
      · exact .inr ⟨o, _, by rw [hb, ua]⟩
      · exact .inl (un b hb)
    refine head_from inK nm nb bb nol gens at_ room F bind one (fun b u z => ?_) (fun b z => Classical.byContradiction fun hb => z (un b hb)) (fun _ => hk) (hsp _ one (.inl (.inr ⟨o, ua⟩)))
    by_cases hb : b = a
    · subst hb
      rw [ua] at z
      cases z
      rw [ho]
      exact ⟨at_, by rw [List.length_map]; exact hl, vs, _, rv, at_⟩
    · rw [un b hb] at z
      cases z
end
/-- the walk behind the head -/
theorem walk_here {l : PySem.W.OpenLaw} {n k : Nat} {q : Program} {loose : List Str} {XP : (Str → Option Value) → Heap → Prop} {YP : World → Heap → Prop} {d : DefRec} {K : Params → PySem.W.Frag} {sp : World → Sp} {x : Str} (hn : l.most = some n) (hn2 : n ≤ sizeLine) (hdf : d.params.defaults = []) (hr : Room k callerA)
    (hY : ∀ (w : World) (h : Heap), YP w h → (K w.params).In h) (hsp : ∀ (w : World) (H : Hp) (a : Addr) (ns : List Int), ns.length ≤ n → L2.Only H → SqL (K w.params) H a (ns.map V.int) → sp w [.ref a] H (fun v _ => v = .bl true) fun _ _ _ => False)
    (F : ∀ (w : World) (mg : Str → Option Value) (fa : Addr) (h : Heap), (K w.params).In h → h.Ns mainGlobals mg → mg d.name = some (.ref fa) → ∃ fd : FuncData, (∀ (s : Shared) (u : Value), BindsTo s fd ⟨[u], []⟩ [(x, u)]) ∧ ∀ b : Heap, (K w.params).In b → b.Ns mainGlobals mg → AtG l.prog w (K w.params) mg b k fa fd [x] (sp w)) :
    PySem.W.WalkO q loose XP YP l.row.toRowW d [] (fun f vs => PySem.call f vs) := by
  refine Att.attach_call hn hdf fun w s₀ s₁ mg mb fa o pm cd doc a vs ns G Y ho hd hcd hmg at_ intsI len gens => ?_
  obtain ⟨fd, hb, hF⟩ := F w mg fa _ (hY w _ Y) G.T.g hmg
  exact head_call (hY w _ Y) G.T.g G.T.b G.T.builtins G.T.nolimit gens at_ intsI (Nat.le_trans len hn2) hr hF hb fun H hO hS => hsp w H a ns len hO hS
end MP
set_option Elab.async false
set_option linter.all false
set_option autoImplicit false
set_option maxRecDepth 100000
set_option maxHeartbeats 2000000
namespace K06
open PySem PySem.Spec PyProof.Rows L2 MP
def tS (i : Nat) : Stmt := PySem.Challenge.pw_gapcalls_k06_refusals_apart.main.body.getD i (.Pass ⟨0, 0, 0, 0⟩)
def cS (i j : Nat) : Stmt := match tS i with | .ClassDef _ _ _ body _ _ _ _ _ _ _ => body.getD j (.Pass ⟨0, 0, 0, 0⟩) | _ => .Pass ⟨0, 0, 0, 0⟩
/-- _law_spread -/
def b0 : MSs :=
    (.cons (.ife (.cmp .GtE (.var 0) (.bin .Pow (.lit (.int 10)) (.lit (.int 18)))) (.cons (.ret (.var 0)) .nil) .nil) (.cons (.set (.nm 2) (.bin .Mod
    (.bin .Add (.bin .Add (.bin .Mult (.bin .Mod (.var 0) (.lit (.int 1000000007))) (.lit (.int 69069))) (.bin .Mult (.var 1) (.lit (.int 40503)))) (.lit
    (.int 977))) (.lit (.int 2147483629)))) (.cons (.set (.nm 3) (.bin .Mod (.bin .Add (.bin .Add (.bin .Mult (.var 2) (.var 2)) (.bin .Mult (.var 1)
    (.lit (.int 7919)))) (.bin .Mod (.var 0) (.lit (.int 65537)))) (.lit (.int 2147483587)))) (.cons (.set (.nm 4) (.bin .Mod (.bin .Add (.bin .Add (.bin
    .Mult (.var 3) (.var 3)) (.bin .Mult (.var 2) (.lit (.int 31)))) (.lit (.int 5))) (.lit (.int 2147483563)))) (.cons (.ret (.bin .Add (.bin .Mult (.bin
    .Add (.bin .Mult (.var 2) (.lit (.int 2147483659))) (.var 3)) (.lit (.int 2147483693))) (.var 4))) .nil)))))
def d0 : Def := { name := "_law_spread", gname := "_law_spread", qual := "_law_spread", cls := none, N := ["_law_cell", "_law_at", "_law_one", "_law_two", "_law_three"], np := 2, dfl := [], body := b0, st := tS 12 }
/-- _law_open -/
def b1 : MSs :=
    (.cons (.set (.nm 1) (.bi (.list true) (.sl (.var 0) .none (.some (.lit (.int 12)))))) (.cons (.loop (.tup (.cons (.nm 2) (.cons (.nm 3) .nil)))
    (.enum (.sl (.var 0) (.some (.lit (.int 12))) (.some (.lit (.int 63))))) (.cons (.setIx (.var 1) (.bin .Mod (.var 2) (.lit (.int 12))) (.bin .Add (.ix
    (.var 1) (.bin .Mod (.var 2) (.lit (.int 12)))) (.var 3))) .nil)) (.cons (.ret (.lst true (.cons (.var 1) (.cons (.lit (.int 0)) (.cons (.lit (.int
    0)) .nil))))) .nil)))
def d1 : Def := { name := "_law_open", gname := "_law_open", qual := "_law_open", cls := none, N := ["_law_script", "_law_cells", "_law_k", "_law_cell"], np := 1, dfl := [], body := b1, st := tS 13 }
/-- _law_take -/
def b2 : MSs :=
    (.cons (.ife (.cmp .Lt (.ix (.var 0) (.lit (.int 2))) (.var 1)) (.cons (.set (.nm 3) (.ix (.var 0) (.lit (.int 1)))) (.cons (.set (.nm 4) (.lit (.int
    0))) (.cons (.ife (.cmp .Lt (.var 3) (.bi .len (.ix (.var 0) (.lit (.int 0))))) (.cons (.set (.nm 4) (.ix (.ix (.var 0) (.lit (.int 0))) (.var 3)))
    .nil) (.cons (.ife (.cmp .Gt (.bi .len (.ix (.var 0) (.lit (.int 0)))) (.lit (.int 0))) (.cons (.set (.nm 4) (.bin .Mod (.ix (.ix (.var 0) (.lit (.int
    0))) (.bin .Mod (.bin .Add (.bin .Mult (.var 3) (.lit (.int 5))) (.lit (.int 3))) (.bi .len (.ix (.var 0) (.lit (.int 0)))))) (.bin .Add (.bin .Pow
    (.lit (.int 10)) (.lit (.int 17))) (.var 3)))) .nil) .nil) .nil)) (.cons (.setIx (.var 0) (.lit (.int 1)) (.bin .Add (.var 3) (.lit (.int 1)))) (.cons
    (.setIx (.var 0) (.lit (.int 2)) (.call 0 (.cons (.var 4) (.cons (.var 3) .nil)))) .nil))))) .nil) (.cons (.set (.nm 2) (.bin .Mod (.ix (.var 0) (.lit
    (.int 2))) (.var 1))) (.cons (.setIx (.var 0) (.lit (.int 2)) (.bin .FloorDiv (.ix (.var 0) (.lit (.int 2))) (.var 1))) (.cons (.ret (.var 2))
    .nil))))
def d2 : Def := { name := "_law_take", gname := "_law_take", qual := "_law_take", cls := none, N := ["_law_pen", "_law_many", "_law_found", "_law_at", "_law_cell"], np := 2, dfl := [], body := b2, st := tS 15 }
/-- _law_number -/
def b3 : MSs :=
    (.cons (.ret (.ix (.lst false (.cons (.lit (.int 0)) (.cons (.lit (.int 14)) (.cons (.call 2 (.cons (.var 0) (.cons (.lit (.int 15)) .nil))) .nil))))
    (.call 2 (.cons (.var 0) (.cons (.lit (.int 3)) .nil))))) .nil)
def d3 : Def := { name := "_law_number", gname := "_law_number", qual := "_law_number", cls := none, N := ["_law_pen"], np := 1, dfl := [], body := b3, st := tS 17 }
def b4_l0 : MSs :=
    (.cons (.ife (.not (.call 4 (.cons (.var 2) (.cons (.var 3) .nil)))) (.cons (.ret (.lit (.bool false))) .nil) .nil) .nil)
/-- _law_same -/
def b4 : MSs :=
    (.cons (.ife (.cmp .Is (.var 1) (.lit .none)) (.cons (.ret (.cmp .Is (.var 0) (.lit .none))) .nil) .nil) (.cons (.ife (.cmp .Is (.var 1) (.lit (.bool
    true))) (.cons (.ret (.cmp .Is (.var 0) (.lit (.bool true)))) .nil) .nil) (.cons (.ife (.cmp .Is (.var 1) (.lit (.bool false))) (.cons (.ret (.cmp .Is
    (.var 0) (.lit (.bool false)))) .nil) .nil) (.cons (.ife (.isi "int" (.var 1)) (.cons (.ret (.and (.isi "int" (.var 0)) (.and (.not (.isi "bool" (.var
    0))) (.one (.cmp .Eq (.var 0) (.var 1)))))) .nil) .nil) (.cons (.ife (.isi "str" (.var 1)) (.cons (.ret (.and (.isi "str" (.var 0)) (.one (.cmp .Eq
    (.var 0) (.var 1))))) .nil) .nil) (.cons (.ife (.or (.cmp .NotEq (.isi "tuple" (.var 1)) (.isi "tuple" (.var 0))) (.one (.cmp .NotEq (.isi "list"
    (.var 1)) (.isi "list" (.var 0))))) (.cons (.ret (.lit (.bool false))) .nil) .nil) (.cons (.ife (.cmp .NotEq (.bi .len (.var 0)) (.bi .len (.var 1)))
    (.cons (.ret (.lit (.bool false))) .nil) .nil) (.cons (.loop (.tup (.cons (.nm 2) (.cons (.nm 3) .nil))) (.zip (.var 0) (.var 1)) b4_l0) (.cons (.ret
    (.lit (.bool true))) .nil)))))))))
def d4 : Def := { name := "_law_same", gname := "_law_same", qual := "_law_same", cls := none, N := ["_law_found", "_law_due", "_law_one", "_law_other"], np := 2, dfl := [], body := b4, st := tS 18 }
/-- _law_sorts -/
def b5 : MSs :=
    (.cons (.set (.nm 1) (.lst false (.cons (.isx [("Clash", false), ("NoAsk", false), ("NoJob", false), ("NoLine", false), ("NoRow", true), ("NoText",
    false), ("OffTime", false), ("Short", false), ("TooMany", false)] (.var 0)) (.cons (.isx [("Clash", false), ("NoAsk", false), ("NoJob", false),
    ("NoLine", false), ("NoRow", false), ("NoText", true), ("OffTime", false), ("Short", false), ("TooMany", false)] (.var 0)) (.cons (.isx [("Clash",
    true), ("NoAsk", false), ("NoJob", false), ("NoLine", false), ("NoRow", false), ("NoText", false), ("OffTime", false), ("Short", false), ("TooMany",
    false)] (.var 0)) .nil))))) (.cons (.set (.nm 1) (.bin .Add (.var 1) (.lst false (.cons (.isx [("Clash", false), ("NoAsk", false), ("NoJob", false),
    ("NoLine", false), ("NoRow", false), ("NoText", false), ("OffTime", false), ("Short", true), ("TooMany", false)] (.var 0)) (.cons (.isx [("Clash",
    false), ("NoAsk", false), ("NoJob", false), ("NoLine", false), ("NoRow", false), ("NoText", false), ("OffTime", true), ("Short", false), ("TooMany",
    false)] (.var 0)) (.cons (.isx [("Clash", false), ("NoAsk", true), ("NoJob", false), ("NoLine", false), ("NoRow", false), ("NoText", false),
    ("OffTime", false), ("Short", false), ("TooMany", false)] (.var 0)) .nil)))))) (.cons (.set (.nm 1) (.bin .Add (.var 1) (.lst false (.cons (.isx
    [("Clash", false), ("NoAsk", false), ("NoJob", true), ("NoLine", false), ("NoRow", false), ("NoText", false), ("OffTime", false), ("Short", false),
    ("TooMany", false)] (.var 0)) (.cons (.isx [("Clash", false), ("NoAsk", false), ("NoJob", false), ("NoLine", false), ("NoRow", false), ("NoText",
    false), ("OffTime", false), ("Short", false), ("TooMany", true)] (.var 0)) (.cons (.isx [("Clash", false), ("NoAsk", false), ("NoJob", false),
    ("NoLine", true), ("NoRow", false), ("NoText", false), ("OffTime", false), ("Short", false), ("TooMany", false)] (.var 0)) .nil)))))) (.cons (.ret
    (.var 1)) .nil))))
def d5 : Def := { name := "_law_sorts", gname := "_law_sorts", qual := "_law_sorts", cls := none, N := ["_law_caught", "_law_some"], np := 1, dfl := [], body := b5, st := tS 19 }
def b6_t13 : MSs :=
    (.cons (.ret (.call 4 (.cons (.lst false (.cons (.frz (.xfl "Short" "side" (.var 10))) (.cons (.frz (.xfl "Short" "some" (.var 10))) (.cons (.frz
    (.xfl "OffTime" "links" (.mkx "OffTime" 1 [("links", .lst 0)] (.cons (.bi (.list false) (.var 9)) .nil)))) .nil)))) (.cons (.lst false (.cons (.lit
    (.str "jobs")) (.cons (.var 8) (.cons (.var 9) .nil)))) .nil)))) .nil)
def b6_t12 : MSs :=
    (.cons (.set (.nm 10) (.mkx "Short" 2 [("side", .arg 0), ("some", .lst 1)] (.cons (.lit (.str "jobs")) (.cons (.bi (.list false) (.var 8)) .nil))))
    b6_t13)
def b6_t11 : MSs :=
    (.cons (.set (.nm 9) (.sl (.lst false (.cons (.tup (.cons (.lit (.str "b")) (.cons (.lit (.str "a")) (.cons (.call 3 (.cons (.var 1) .nil)) .nil))))
    (.cons (.tup (.cons (.lit (.str "a")) (.cons (.lit (.str "b")) (.cons (.bin .Sub (.lit (.int 0)) (.call 3 (.cons (.var 1) .nil))) .nil)))) .nil)))
    .none (.some (.call 2 (.cons (.var 1) (.cons (.lit (.int 3)) .nil)))))) b6_t12)
def b6_t10 : MSs :=
    (.cons (.set (.nm 8) (.sl (.lst false (.cons (.tup (.cons (.lit (.str "b")) (.cons (.call 3 (.cons (.var 1) .nil)) .nil))) (.cons (.tup (.cons (.lit
    (.str "a")) (.cons (.call 3 (.cons (.var 1) .nil)) .nil))) (.cons (.tup (.cons (.lit (.str "a")) (.cons (.lit (.int 0)) .nil))) .nil)))) .none (.some
    (.call 2 (.cons (.var 1) (.cons (.lit (.int 4)) .nil)))))) b6_t11)
def b6_t9 : MSs :=
    (.cons (.ife (.not (.call 4 (.cons (.var 7) (.cons (.lst false (.cons (.var 2) (.cons (.bin .Add (.var 2) (.lit (.int 2))) (.cons (.var 2) (.cons
    (.bin .Add (.var 2) (.lit (.int 1))) (.cons (.lit (.str "asks")) (.cons (.var 3) (.cons (.var 4) .nil)))))))) .nil)))) (.cons (.ret (.lit (.bool
    false))) .nil) .nil) b6_t10)
def b6_t8 : MSs :=
    (.cons (.set (.nm 7) (.bin .Add (.var 7) (.lst false (.cons (.frz (.xfl "Short" "some" (.ix (.var 5) (.lit (.int 3))))) (.cons (.frz (.xfl "OffTime"
    "links" (.ix (.var 5) (.lit (.int 4))))) .nil))))) b6_t9)
def b6_l0 : MSs :=
    (.cons (.ife (.or (.not (.isx [("Clash", true), ("NoAsk", true), ("NoJob", true), ("NoLine", true), ("NoRow", true), ("NoText", true), ("OffTime",
    true), ("Short", true), ("TooMany", true)] (.ix (.var 5) (.var 6)))) (.one (.not (.isx [("Clash", true), ("NoAsk", true), ("NoJob", true), ("NoLine",
    true), ("NoRow", true), ("NoText", true), ("OffTime", true), ("Short", true), ("TooMany", true)] (.ix (.var 5) (.var 6)))))) (.cons (.ret (.lit (.bool
    false))) .nil) .nil) (.cons (.ife (.cmp .NotEq (.call 5 (.cons (.ix (.var 5) (.var 6)) .nil)) (.lc false [11] (.nm 11) (.rng1 (.lit (.int 9))) .none
    (.cmp .Eq (.var 11) (.var 6)))) (.cons (.ret (.lit (.bool false))) .nil) .nil) .nil))
def b6_t6 : MSs :=
    (.cons (.loop (.nm 6) (.rng1 (.lit (.int 9))) b6_l0) (.cons (.set (.nm 7) (.lst false (.cons (.frz (.xfl "NoRow" "number" (.ix (.var 5) (.lit (.int
    0))))) (.cons (.frz (.xfl "NoText" "number" (.ix (.var 5) (.lit (.int 1))))) (.cons (.frz (.xfl "Clash" "first" (.ix (.var 5) (.lit (.int 2)))))
    (.cons (.frz (.xfl "Clash" "second" (.ix (.var 5) (.lit (.int 2))))) (.cons (.frz (.xfl "Short" "side" (.ix (.var 5) (.lit (.int 3))))) .nil)))))))
    b6_t8))
def b6_t5 : MSs :=
    (.cons (.set (.nm 5) (.bin .Add (.var 5) (.lst false (.cons (.mkx "NoAsk" 1 [] (.cons (.lit (.str "text")) .nil)) (.cons (.mkx "NoJob" 1 [] (.cons
    (.lit (.str "text")) .nil)) (.cons (.mkx "TooMany" 1 [] (.cons (.lit (.str "text")) .nil)) (.cons (.mkx "NoLine" 1 [] (.cons (.lit (.str "text"))
    .nil)) .nil))))))) b6_t6)
/-- law -/
def b6 : MSs :=
    (.cons (.set (.nm 1) (.call 1 (.cons (.var 0) .nil))) (.cons (.set (.nm 2) (.call 3 (.cons (.var 1) .nil))) (.cons (.set (.nm 3) (.lst false (.cons
    (.tup (.cons (.lit (.str "a")) (.cons (.call 3 (.cons (.var 1) .nil)) .nil))) .nil))) (.cons (.set (.nm 4) (.lst false (.cons (.tup (.cons (.lit (.str
    "a")) (.cons (.lit (.str "b")) (.cons (.bin .Sub (.call 3 (.cons (.var 1) .nil)) (.lit (.int 9))) .nil)))) .nil))) (.cons (.set (.nm 5) (.lst false
    (.cons (.mkx "NoRow" 1 [("number", .arg 0)] (.cons (.var 2) .nil)) (.cons (.mkx "NoText" 1 [("number", .arg 0)] (.cons (.bin .Add (.var 2) (.lit (.int
    2))) .nil)) (.cons (.mkx "Clash" 2 [("first", .arg 0), ("second", .arg 1)] (.cons (.var 2) (.cons (.bin .Add (.var 2) (.lit (.int 1))) .nil))) (.cons
    (.mkx "Short" 2 [("side", .arg 0), ("some", .lst 1)] (.cons (.lit (.str "asks")) (.cons (.var 3) .nil))) (.cons (.mkx "OffTime" 1 [("links", .lst 0)]
    (.cons (.var 4) .nil)) .nil))))))) b6_t5)))))
def d6 : Def := { name := "law", gname := "law", qual := "law", cls := none, N := ["_law_script", "_law_pen", "_law_one", "_law_some", "_law_links", "_law_made", "_law_number_here", "_law_fields", "_law_more", "_law_rings", "_law_short", "_law_k"], np := 1, dfl := [], body := b6, st := tS 20 }
def defs : List Def := [d0, d1, d2, d3, d4, d5, d6]
def glbs : List (Str × PyData) := []
def gds : List (Str × List (Str × PyData)) := []
def bl : List Str := ["ValueError", "len", "tuple", "list", "int", "isinstance", "range", "enumerate", "zip", "str", "bool"]
def xcls : List (Str × Nat × List (Str × FE)) := [("Clash", 2, [("first", .arg 0), ("second", .arg 1)]), ("NoAsk", 1, []), ("NoJob", 1, []), ("NoLine", 1, []), ("NoRow", 1, [("number", .arg 0)]), ("NoText", 1, [("number", .arg 0)]), ("OffTime", 1, [("links", .lst 0)]), ("Short", 2, [("side", .arg 0), ("some", .lst 1)]), ("TooMany", 1, [])]
def xtab0 : List ((Str × Str) × Bool) := [(("Clash", "CallError"), true), (("NoAsk", "CallError"), true), (("NoJob", "CallError"), true), (("NoLine", "CallError"), true), (("NoRow", "CallError"), true), (("NoText", "CallError"), true), (("OffTime", "CallError"), true), (("Short", "CallError"), true), (("TooMany", "CallError"), true), (("Clash", "Clash"), true), (("NoAsk", "Clash"), false), (("NoJob", "Clash"), false)]
def xtab1 : List ((Str × Str) × Bool) := [(("NoLine", "Clash"), false), (("NoRow", "Clash"), false), (("NoText", "Clash"), false), (("OffTime", "Clash"), false), (("Short", "Clash"), false), (("TooMany", "Clash"), false), (("Clash", "NoAsk"), false), (("NoAsk", "NoAsk"), true), (("NoJob", "NoAsk"), false), (("NoLine", "NoAsk"), false), (("NoRow", "NoAsk"), false), (("NoText", "NoAsk"), false)]
def xtab2 : List ((Str × Str) × Bool) := [(("OffTime", "NoAsk"), false), (("Short", "NoAsk"), false), (("TooMany", "NoAsk"), false), (("Clash", "NoJob"), false), (("NoAsk", "NoJob"), false), (("NoJob", "NoJob"), true), (("NoLine", "NoJob"), false), (("NoRow", "NoJob"), false), (("NoText", "NoJob"), false), (("OffTime", "NoJob"), false), (("Short", "NoJob"), false), (("TooMany", "NoJob"), false)]
def xtab3 : List ((Str × Str) × Bool) := [(("Clash", "NoLine"), false), (("NoAsk", "NoLine"), false), (("NoJob", "NoLine"), false), (("NoLine", "NoLine"), true), (("NoRow", "NoLine"), false), (("NoText", "NoLine"), false), (("OffTime", "NoLine"), false), (("Short", "NoLine"), false), (("TooMany", "NoLine"), false), (("Clash", "NoRow"), false), (("NoAsk", "NoRow"), false), (("NoJob", "NoRow"), false)]
def xtab4 : List ((Str × Str) × Bool) := [(("NoLine", "NoRow"), false), (("NoRow", "NoRow"), true), (("NoText", "NoRow"), false), (("OffTime", "NoRow"), false), (("Short", "NoRow"), false), (("TooMany", "NoRow"), false), (("Clash", "NoText"), false), (("NoAsk", "NoText"), false), (("NoJob", "NoText"), false), (("NoLine", "NoText"), false), (("NoRow", "NoText"), false), (("NoText", "NoText"), true)]
def xtab5 : List ((Str × Str) × Bool) := [(("OffTime", "NoText"), false), (("Short", "NoText"), false), (("TooMany", "NoText"), false), (("Clash", "OffTime"), false), (("NoAsk", "OffTime"), false), (("NoJob", "OffTime"), false), (("NoLine", "OffTime"), false), (("NoRow", "OffTime"), false), (("NoText", "OffTime"), false), (("OffTime", "OffTime"), true), (("Short", "OffTime"), false), (("TooMany", "OffTime"), false)]
def xtab6 : List ((Str × Str) × Bool) := [(("Clash", "Short"), false), (("NoAsk", "Short"), false), (("NoJob", "Short"), false), (("NoLine", "Short"), false), (("NoRow", "Short"), false), (("NoText", "Short"), false), (("OffTime", "Short"), false), (("Short", "Short"), true), (("TooMany", "Short"), false), (("Clash", "TooMany"), false), (("NoAsk", "TooMany"), false), (("NoJob", "TooMany"), false)]
def xtab7 : List ((Str × Str) × Bool) := [(("NoLine", "TooMany"), false), (("NoRow", "TooMany"), false), (("NoText", "TooMany"), false), (("OffTime", "TooMany"), false), (("Short", "TooMany"), false), (("TooMany", "TooMany"), true)]
def xtab : List ((Str × Str) × Bool) := xtab0 ++ (xtab1 ++ (xtab2 ++ (xtab3 ++ (xtab4 ++ (xtab5 ++ (xtab6 ++ (xtab7)))))))
def xfld : List (Str × Str) := [("Clash", "first"), ("Clash", "second"), ("NoRow", "number"), ("NoText", "number"), ("OffTime", "links"), ("Short", "side"), ("Short", "some")]
def hcs : List Str := ["CallError", "Clash", "NoAsk", "NoJob", "NoLine", "NoRow", "NoText", "OffTime", "Short", "TooMany"]
def clsF : List (Str × Str) := []
def xisc : List Str := ["Clash", "NoAsk", "NoJob", "NoLine", "NoRow", "NoText", "OffTime", "Short", "TooMany"]
def T : Tabs := ⟨glbs, gds, bl, clsF, xcls, xtab, xfld, hcs, xisc⟩
theorem k0 : defK defs T d0 = true := by decide +kernel
theorem k1 : defK defs T d1 = true := by decide +kernel
theorem k2 : defK defs T d2 = true := by decide +kernel
theorem k3 : defK defs T d3 = true := by decide +kernel
theorem k4 : defK defs T d4 = true := by decide +kernel
theorem k5 : defK defs T d5 = true := by decide +kernel
theorem k6 : defK defs T d6 = true := by decide +kernel
def e0 : Def := { name := "__init__", gname := "__init__", qual := "Clash.__init__", cls := some "Clash", N := ["self", "first", "second"], np := 3, dfl := [], body := .nil, st := cS 4 0 }
theorem s0 : scC e0 = true := by decide +kernel
theorem i0 : chkI (ctxOf [] T e0) "CallError" [("first", .arg 0), ("second", .arg 1)] (defBody e0.st) = true := by decide +kernel
def e1 : Def := { name := "__init__", gname := "__init__", qual := "NoRow.__init__", cls := some "NoRow", N := ["self", "number"], np := 2, dfl := [], body := .nil, st := cS 2 0 }
theorem s1 : scC e1 = true := by decide +kernel
theorem i1 : chkI (ctxOf [] T e1) "CallError" [("number", .arg 0)] (defBody e1.st) = true := by decide +kernel
def e2 : Def := { name := "__init__", gname := "__init__", qual := "NoText.__init__", cls := some "NoText", N := ["self", "number"], np := 2, dfl := [], body := .nil, st := cS 3 0 }
theorem s2 : scC e2 = true := by decide +kernel
theorem i2 : chkI (ctxOf [] T e2) "CallError" [("number", .arg 0)] (defBody e2.st) = true := by decide +kernel
def e3 : Def := { name := "__init__", gname := "__init__", qual := "OffTime.__init__", cls := some "OffTime", N := ["self", "links"], np := 2, dfl := [], body := .nil, st := cS 6 0 }
theorem s3 : scC e3 = true := by decide +kernel
theorem i3 : chkI (ctxOf [] T e3) "CallError" [("links", .lst 0)] (defBody e3.st) = true := by decide +kernel
def e4 : Def := { name := "__init__", gname := "__init__", qual := "Short.__init__", cls := some "Short", N := ["self", "side", "some"], np := 3, dfl := [], body := .nil, st := cS 5 0 }
theorem s4 : scC e4 = true := by decide +kernel
theorem i4 : chkI (ctxOf [] T e4) "CallError" [("side", .arg 0), ("some", .lst 1)] (defBody e4.st) = true := by decide +kernel

/-! the pen: it draws numbers -/
def pen (cs : List Int) (i : Nat) (v : Int) : Store := [.lst (cs.map fun c => .p (.int c)), .lst [.c 0, .p (.int i), .p (.int v)]]
def OkEx (ex : Store) : Prop := ex.all (cellBelow (2 + ex.length)) = true
theorem gc_pen {cs : List Int} {i : Nat} {v : Int} {ex more : Store} {n : Nat} (h : OkEx ex) (e : n = 2 + ex.length) : gc n (pen cs i v ++ ex ++ more) = pen cs i v ++ ex := by
  refine gc_at (by rw [e]; simp [pen]; omega) ?_
  rw [List.all_append, Bool.and_eq_true]
  refine ⟨?_, by rw [e]; exact h⟩
  have : 0 < 2 + ex.length := by omega
  simp [pen, cellBelow, dBelow, e, this]
theorem gc_pen0 {cs : List Int} {i : Nat} {v : Int} {ex : Store} {n : Nat} (e : n = 2 + ex.length) : gc n (pen cs i v ++ ex) = pen cs i v ++ ex := gc_self (by rw [e]; simp [pen]; omega)
theorem spread_ok (k : Nat) (c a : Int) (st : Store) : wpe NoX (semK defs (k + 1) 0 [.p (.int c), .p (.int a)] st) fun d st' => ∃ x : Int, d = .p (.int x) ∧ st' = st := by
  refine wp_sem (d := d0) rfl rfl ?_
  simp only [d0, b0, e_svs_cons, e_svs_nil, e_sv_ife, e_sv_ret, e_sv_retN, e_sv_set, e_sv_setIx, e_sv_setLc, e_sv_app, e_sv_ex, e_sv_loop, e_sv_pass, e_ev_var, e_ev_lit, e_ev_glb, e_ev_gix, e_ev_bin, e_ev_neg, e_ev_not, w_and, w_or, QT2_bool, QB_bool, e_ev_one, e_ev_cmp, w_cmp2, e_ev_ife, e_ev_tup, e_mkT, e_ev_lst, e_ev_frz, e_ev_rev, e_ev_dct, e_ev_mcall, e_ev_callD, e_ev_callT, e_sv_tryS, e_sv_raise, e_sv_setFld, e_sv_lock, e_ev_fld, e_ev_meth, e_ev_new, e_tbv_ex, e_tbv_set, e_tbv_ife, e_tbv_exSet, e_sv_brk, e_sv_cont, wp_catch, e_evc_none, e_evc_some, e_ev_ix, e_ev_sl, e_ev_bi, e_ev_mx2, e_ev_mxd, e_ev_dget, e_ev_dpop, e_ev_clr, e_ev_split, e_ev_fnv, e_ev_callV, e_ev_slc, e_ev_gin, e_ev_gixIn, e_ev_isi, e_ev_mkx, e_ev_xfl, e_ev_isx, e_ev_sset, e_ev_lset, e_ev_stp, e_ev_call, e_ev_join, e_ev_lc, e_evs_nil, e_evs_cons, e_evo_none, e_evo_some, e_evi_seq, e_evi_rng1, e_evi_rng2, e_evi_enum, e_evi_zip, e_evi_view, e_evi_rev, env0, varD, e_b_nm, e_b_tT, e_b_tL, e_b_nil, e_b_cons, wp_bind, wp_then, wp_ok, wp_truR, wp_finP, QF_nx, QF_rt, QE1_rt, QE1_nx, QT1_bool, List.map, List.length, List.replicate, List.getElem?_cons_zero, List.getElem?_cons_succ, List.set, Nat.reduceSub, List.cons_append, List.nil_append, Nat.reduceAdd, wp_ite, e_mkLT, tru_b, seqI_L, seqI_T, pures_p, pures_nil, Option.map_some, Option.bind_some, if_true, sz_0, sz_1, sz_2, sz_3, sz_4, sz_5, sz_6, sz_7, sz_8, sz_9, sz_10, sz_11, sz_12, sz_13, sz_14, sz_15, sz_16, sz_17, sz_18, sz_19, sz_20, sz_21, sz_22, sz_23, sz_24, sz_25, sz_26, sz_27, sz_28, sz_29, sz_30, sz_31, sz_32, sz_33, sz_34, sz_35, sz_36, sz_37, sz_38, sz_39, sz_40, e_pow18, e_ge]
  split
  · exact ⟨c, rfl, gc_self rfl⟩
  · simp only [e_svs_cons, e_svs_nil, e_sv_ife, e_sv_ret, e_sv_retN, e_sv_set, e_sv_setIx, e_sv_setLc, e_sv_app, e_sv_ex, e_sv_loop, e_sv_pass, e_ev_var, e_ev_lit, e_ev_glb, e_ev_gix, e_ev_bin, e_ev_neg, e_ev_not, w_and, w_or, QT2_bool, QB_bool, e_ev_one, e_ev_cmp, w_cmp2, e_ev_ife, e_ev_tup, e_mkT, e_ev_lst, e_ev_frz, e_ev_rev, e_ev_dct, e_ev_mcall, e_ev_callD, e_ev_callT, e_sv_tryS, e_sv_raise, e_sv_setFld, e_sv_lock, e_ev_fld, e_ev_meth, e_ev_new, e_tbv_ex, e_tbv_set, e_tbv_ife, e_tbv_exSet, e_sv_brk, e_sv_cont, wp_catch, e_evc_none, e_evc_some, e_ev_ix, e_ev_sl, e_ev_bi, e_ev_mx2, e_ev_mxd, e_ev_dget, e_ev_dpop, e_ev_clr, e_ev_split, e_ev_fnv, e_ev_callV, e_ev_slc, e_ev_gin, e_ev_gixIn, e_ev_isi, e_ev_mkx, e_ev_xfl, e_ev_isx, e_ev_sset, e_ev_lset, e_ev_stp, e_ev_call, e_ev_join, e_ev_lc, e_evs_nil, e_evs_cons, e_evo_none, e_evo_some, e_evi_seq, e_evi_rng1, e_evi_rng2, e_evi_enum, e_evi_zip, e_evi_view, e_evi_rev, env0, varD, e_b_nm, e_b_tT, e_b_tL, e_b_nil, e_b_cons, wp_bind, wp_then, wp_ok, wp_truR, wp_finP, QF_nx, QF_rt, QE1_rt, QE1_nx, QT1_bool, List.map, List.length, List.replicate, List.getElem?_cons_zero, List.getElem?_cons_succ, List.set, Nat.reduceSub, List.cons_append, List.nil_append, Nat.reduceAdd, wp_ite, e_mkLT, tru_b, seqI_L, seqI_T, pures_p, pures_nil, Option.map_some, Option.bind_some, if_true, sz_0, sz_1, sz_2, sz_3, sz_4, sz_5, sz_6, sz_7, sz_8, sz_9, sz_10, sz_11, sz_12, sz_13, sz_14, sz_15, sz_16, sz_17, sz_18, sz_19, sz_20, sz_21, sz_22, sz_23, sz_24, sz_25, sz_26, sz_27, sz_28, sz_29, sz_30, sz_31, sz_32, sz_33, sz_34, sz_35, sz_36, sz_37, sz_38, sz_39, sz_40, e_mod, e_mul, e_add, Int.reduceLT, if_true]
    refine if_go (mulOk_r (by decide)) (if_go (mulOk_r (by decide)) (if_go (mulOk_r (abs_mod (by decide) (by decide))) (if_go (mulOk_r (by decide)) (if_go (mulOk_r (abs_mod (by decide) (by decide))) (if_go (mulOk_r (by decide)) (if_go (mulOk_r (by decide)) (if_go (mulOk_r (by decide)) ?_)))))))
    exact ⟨_, rfl, gc_self rfl⟩
theorem pen_len (cs : List Int) (i : Nat) (v : Int) (ex : Store) : (pen cs i v ++ ex).length = 2 + ex.length := by simp [pen]; omega
theorem pen_1 (cs : List Int) (i : Nat) (v : Int) (ex : Store) : cellL (pen cs i v ++ ex) 1 = some [.c 0, .p (.int i), .p (.int v)] := rfl
theorem pen_0 (cs : List Int) (i : Nat) (v : Int) (ex : Store) : cellL (pen cs i v ++ ex) 0 = some (cs.map fun c => .p (.int c)) := rfl
theorem pen_set (cs : List Int) (i j : Nat) (v u : Int) (ex : Store) : (pen cs i v ++ ex).set 1 (.lst [.c 0, .p (.int j), .p (.int u)]) = pen cs j u ++ ex := rfl
theorem len_c {n : Nat} {st : Store} {ds : List D} (h : cellL st n = some ds) : bi1D .len (.c n) st = .ok (.p (.int ds.length)) st := by
  have : items (.c n) st = some ds := h
  unfold bi1D lenD
  simp only [this]
theorem setIx_c {n : Nat} {st : Store} {ds : List D} (h : cellL st n = some ds) (j : Nat) (hj : j < ds.length) (x : D) (env : MP.Env) : setIxD (.c n) (.p (.int (j : Int))) x env st = .ok (.nx env) (st.set n (.lst (ds.set j x))) := by
  unfold setIxD
  simp only [cellL_some h]
  have : ixN ds.length (j : Int) = some j := by unfold ixN; simp [hj]
  rw [this]
section
variable {cs : List Int} {i : Nat} {v m : Int} {ex : Store}
theorem p_ix0 : ixD (.c 1) (.p (.int 0)) (pen cs i v ++ ex) = .ok (.c 0) (pen cs i v ++ ex) := nr rfl
theorem p_ix1 : ixD (.c 1) (.p (.int 1)) (pen cs i v ++ ex) = .ok (.p (.int i)) (pen cs i v ++ ex) := nr rfl
theorem p_ix2 : ixD (.c 1) (.p (.int 2)) (pen cs i v ++ ex) = .ok (.p (.int v)) (pen cs i v ++ ex) := nr rfl
theorem p_len : bi1D .len (.c 0) (pen cs i v ++ ex) = .ok (.p (.int cs.length)) (pen cs i v ++ ex) := by
  rw [len_c (pen_0 cs i v ex), List.length_map]
theorem p_cell {j : Nat} (hj : j < cs.length) : ixD (.c 0) (.p (.int j)) (pen cs i v ++ ex) = .ok (.p (.int cs[j])) (pen cs i v ++ ex) := by
  rw [ix_c (pen_0 cs i v ex)]
  have : atI (cs.map fun c => D.p (.int c)) (j : Int) = some (.p (.int cs[j])) := by
    exact atI_nat (by simp [hj])
  rw [this]
theorem p_set1 (env : MP.Env) (u : Int) (j : Nat) (hu : u = j) : setIxD (.c 1) (.p (.int 1)) (.p (.int u)) env (pen cs i v ++ ex) = .ok (.nx env) (pen cs j v ++ ex) := by
  subst hu; exact nr rfl
theorem p_set2 (env : MP.Env) (u : Int) : setIxD (.c 1) (.p (.int 2)) (.p (.int u)) env (pen cs i v ++ ex) = .ok (.nx env) (pen cs i u ++ ex) := nr rfl
end
theorem take_ok (k : Nat) {cs : List Int} {i : Nat} {v m : Int} {ex : Store} (hm : 0 < m) (hm2 : m < 2 ^ 100) :
    wpe NoX (semK defs (k + 2) 2 [.c 1, .p (.int m)] (pen cs i v ++ ex)) fun d st' => ∃ (x : Int) (j : Nat) (u : Int), 0 ≤ x ∧ x < m ∧ d = .p (.int x) ∧ st' = pen cs j u ++ ex := by
  refine wp_sem (d := d2) rfl rfl ?_
  have hg : ∀ (j : Nat) (u : Int), gc (pen cs i v ++ ex).length (pen cs j u ++ ex) = pen cs j u ++ ex := fun j u => gc_pen0 (pen_len cs i v ex)
  have h1 := Int.emod_nonneg
  have h2 := fun x : Int => Int.emod_lt_of_pos x hm
  simp only [d2, b2, e_svs_cons, e_svs_nil, e_sv_ife, e_sv_ret, e_sv_retN, e_sv_set, e_sv_setIx, e_sv_setLc, e_sv_app, e_sv_ex, e_sv_loop, e_sv_pass, e_ev_var, e_ev_lit, e_ev_glb, e_ev_gix, e_ev_bin, e_ev_neg, e_ev_not, w_and, w_or, QT2_bool, QB_bool, e_ev_one, e_ev_cmp, w_cmp2, e_ev_ife, e_ev_tup, e_mkT, e_ev_lst, e_ev_frz, e_ev_rev, e_ev_dct, e_ev_mcall, e_ev_callD, e_ev_callT, e_sv_tryS, e_sv_raise, e_sv_setFld, e_sv_lock, e_ev_fld, e_ev_meth, e_ev_new, e_tbv_ex, e_tbv_set, e_tbv_ife, e_tbv_exSet, e_sv_brk, e_sv_cont, wp_catch, e_evc_none, e_evc_some, e_ev_ix, e_ev_sl, e_ev_bi, e_ev_mx2, e_ev_mxd, e_ev_dget, e_ev_dpop, e_ev_clr, e_ev_split, e_ev_fnv, e_ev_callV, e_ev_slc, e_ev_gin, e_ev_gixIn, e_ev_isi, e_ev_mkx, e_ev_xfl, e_ev_isx, e_ev_sset, e_ev_lset, e_ev_stp, e_ev_call, e_ev_join, e_ev_lc, e_evs_nil, e_evs_cons, e_evo_none, e_evo_some, e_evi_seq, e_evi_rng1, e_evi_rng2, e_evi_enum, e_evi_zip, e_evi_view, e_evi_rev, env0, varD, e_b_nm, e_b_tT, e_b_tL, e_b_nil, e_b_cons, wp_bind, wp_then, wp_ok, wp_truR, wp_finP, QF_nx, QF_rt, QE1_rt, QE1_nx, QT1_bool, List.map, List.length, List.replicate, List.getElem?_cons_zero, List.getElem?_cons_succ, List.set, Nat.reduceSub, List.cons_append, List.nil_append, Nat.reduceAdd, wp_ite, e_mkLT, tru_b, seqI_L, seqI_T, pures_p, pures_nil, Option.map_some, Option.bind_some, if_true, sz_0, sz_1, sz_2, sz_3, sz_4, sz_5, sz_6, sz_7, sz_8, sz_9, sz_10, sz_11, sz_12, sz_13, sz_14, sz_15, sz_16, sz_17, sz_18, sz_19, sz_20, sz_21, sz_22, sz_23, sz_24, sz_25, sz_26, sz_27, sz_28, sz_29, sz_30, sz_31, sz_32, sz_33, sz_34, sz_35, sz_36, sz_37, sz_38, sz_39, sz_40, p_ix2, e_lt]
  split
  · simp only [e_svs_cons, e_svs_nil, e_sv_ife, e_sv_ret, e_sv_retN, e_sv_set, e_sv_setIx, e_sv_setLc, e_sv_app, e_sv_ex, e_sv_loop, e_sv_pass, e_ev_var, e_ev_lit, e_ev_glb, e_ev_gix, e_ev_bin, e_ev_neg, e_ev_not, w_and, w_or, QT2_bool, QB_bool, e_ev_one, e_ev_cmp, w_cmp2, e_ev_ife, e_ev_tup, e_mkT, e_ev_lst, e_ev_frz, e_ev_rev, e_ev_dct, e_ev_mcall, e_ev_callD, e_ev_callT, e_sv_tryS, e_sv_raise, e_sv_setFld, e_sv_lock, e_ev_fld, e_ev_meth, e_ev_new, e_tbv_ex, e_tbv_set, e_tbv_ife, e_tbv_exSet, e_sv_brk, e_sv_cont, wp_catch, e_evc_none, e_evc_some, e_ev_ix, e_ev_sl, e_ev_bi, e_ev_mx2, e_ev_mxd, e_ev_dget, e_ev_dpop, e_ev_clr, e_ev_split, e_ev_fnv, e_ev_callV, e_ev_slc, e_ev_gin, e_ev_gixIn, e_ev_isi, e_ev_mkx, e_ev_xfl, e_ev_isx, e_ev_sset, e_ev_lset, e_ev_stp, e_ev_call, e_ev_join, e_ev_lc, e_evs_nil, e_evs_cons, e_evo_none, e_evo_some, e_evi_seq, e_evi_rng1, e_evi_rng2, e_evi_enum, e_evi_zip, e_evi_view, e_evi_rev, env0, varD, e_b_nm, e_b_tT, e_b_tL, e_b_nil, e_b_cons, wp_bind, wp_then, wp_ok, wp_truR, wp_finP, QF_nx, QF_rt, QE1_rt, QE1_nx, QT1_bool, List.map, List.length, List.replicate, List.getElem?_cons_zero, List.getElem?_cons_succ, List.set, Nat.reduceSub, List.cons_append, List.nil_append, Nat.reduceAdd, wp_ite, e_mkLT, tru_b, seqI_L, seqI_T, pures_p, pures_nil, Option.map_some, Option.bind_some, if_true, sz_0, sz_1, sz_2, sz_3, sz_4, sz_5, sz_6, sz_7, sz_8, sz_9, sz_10, sz_11, sz_12, sz_13, sz_14, sz_15, sz_16, sz_17, sz_18, sz_19, sz_20, sz_21, sz_22, sz_23, sz_24, sz_25, sz_26, sz_27, sz_28, sz_29, sz_30, sz_31, sz_32, sz_33, sz_34, sz_35, sz_36, sz_37, sz_38, sz_39, sz_40, p_ix1, p_ix0, p_len, e_lt]
    have fin : ∀ (c : Int), True := fun _ => trivial
    split
    · rename_i hlt
      have hlt : i < cs.length := by simpa using hlt
      simp only [e_svs_cons, e_svs_nil, e_sv_ife, e_sv_ret, e_sv_retN, e_sv_set, e_sv_setIx, e_sv_setLc, e_sv_app, e_sv_ex, e_sv_loop, e_sv_pass, e_ev_var, e_ev_lit, e_ev_glb, e_ev_gix, e_ev_bin, e_ev_neg, e_ev_not, w_and, w_or, QT2_bool, QB_bool, e_ev_one, e_ev_cmp, w_cmp2, e_ev_ife, e_ev_tup, e_mkT, e_ev_lst, e_ev_frz, e_ev_rev, e_ev_dct, e_ev_mcall, e_ev_callD, e_ev_callT, e_sv_tryS, e_sv_raise, e_sv_setFld, e_sv_lock, e_ev_fld, e_ev_meth, e_ev_new, e_tbv_ex, e_tbv_set, e_tbv_ife, e_tbv_exSet, e_sv_brk, e_sv_cont, wp_catch, e_evc_none, e_evc_some, e_ev_ix, e_ev_sl, e_ev_bi, e_ev_mx2, e_ev_mxd, e_ev_dget, e_ev_dpop, e_ev_clr, e_ev_split, e_ev_fnv, e_ev_callV, e_ev_slc, e_ev_gin, e_ev_gixIn, e_ev_isi, e_ev_mkx, e_ev_xfl, e_ev_isx, e_ev_sset, e_ev_lset, e_ev_stp, e_ev_call, e_ev_join, e_ev_lc, e_evs_nil, e_evs_cons, e_evo_none, e_evo_some, e_evi_seq, e_evi_rng1, e_evi_rng2, e_evi_enum, e_evi_zip, e_evi_view, e_evi_rev, env0, varD, e_b_nm, e_b_tT, e_b_tL, e_b_nil, e_b_cons, wp_bind, wp_then, wp_ok, wp_truR, wp_finP, QF_nx, QF_rt, QE1_rt, QE1_nx, QT1_bool, List.map, List.length, List.replicate, List.getElem?_cons_zero, List.getElem?_cons_succ, List.set, Nat.reduceSub, List.cons_append, List.nil_append, Nat.reduceAdd, wp_ite, e_mkLT, tru_b, seqI_L, seqI_T, pures_p, pures_nil, Option.map_some, Option.bind_some, if_true, sz_0, sz_1, sz_2, sz_3, sz_4, sz_5, sz_6, sz_7, sz_8, sz_9, sz_10, sz_11, sz_12, sz_13, sz_14, sz_15, sz_16, sz_17, sz_18, sz_19, sz_20, sz_21, sz_22, sz_23, sz_24, sz_25, sz_26, sz_27, sz_28, sz_29, sz_30, sz_31, sz_32, sz_33, sz_34, sz_35, sz_36, sz_37, sz_38, sz_39, sz_40, p_ix0, p_cell hlt, e_add, p_set1 (cs := cs) _ ((i : Int) + 1) (i + 1) (by simp)]
      refine wp_mono (spread_ok k _ _ _) ?_
      rintro _ _ ⟨x, rfl, rfl⟩
      simp only [e_svs_cons, e_svs_nil, e_sv_ife, e_sv_ret, e_sv_retN, e_sv_set, e_sv_setIx, e_sv_setLc, e_sv_app, e_sv_ex, e_sv_loop, e_sv_pass, e_ev_var, e_ev_lit, e_ev_glb, e_ev_gix, e_ev_bin, e_ev_neg, e_ev_not, w_and, w_or, QT2_bool, QB_bool, e_ev_one, e_ev_cmp, w_cmp2, e_ev_ife, e_ev_tup, e_mkT, e_ev_lst, e_ev_frz, e_ev_rev, e_ev_dct, e_ev_mcall, e_ev_callD, e_ev_callT, e_sv_tryS, e_sv_raise, e_sv_setFld, e_sv_lock, e_ev_fld, e_ev_meth, e_ev_new, e_tbv_ex, e_tbv_set, e_tbv_ife, e_tbv_exSet, e_sv_brk, e_sv_cont, wp_catch, e_evc_none, e_evc_some, e_ev_ix, e_ev_sl, e_ev_bi, e_ev_mx2, e_ev_mxd, e_ev_dget, e_ev_dpop, e_ev_clr, e_ev_split, e_ev_fnv, e_ev_callV, e_ev_slc, e_ev_gin, e_ev_gixIn, e_ev_isi, e_ev_mkx, e_ev_xfl, e_ev_isx, e_ev_sset, e_ev_lset, e_ev_stp, e_ev_call, e_ev_join, e_ev_lc, e_evs_nil, e_evs_cons, e_evo_none, e_evo_some, e_evi_seq, e_evi_rng1, e_evi_rng2, e_evi_enum, e_evi_zip, e_evi_view, e_evi_rev, env0, varD, e_b_nm, e_b_tT, e_b_tL, e_b_nil, e_b_cons, wp_bind, wp_then, wp_ok, wp_truR, wp_finP, QF_nx, QF_rt, QE1_rt, QE1_nx, QT1_bool, List.map, List.length, List.replicate, List.getElem?_cons_zero, List.getElem?_cons_succ, List.set, Nat.reduceSub, List.cons_append, List.nil_append, Nat.reduceAdd, wp_ite, e_mkLT, tru_b, seqI_L, seqI_T, pures_p, pures_nil, Option.map_some, Option.bind_some, if_true, sz_0, sz_1, sz_2, sz_3, sz_4, sz_5, sz_6, sz_7, sz_8, sz_9, sz_10, sz_11, sz_12, sz_13, sz_14, sz_15, sz_16, sz_17, sz_18, sz_19, sz_20, sz_21, sz_22, sz_23, sz_24, sz_25, sz_26, sz_27, sz_28, sz_29, sz_30, sz_31, sz_32, sz_33, sz_34, sz_35, sz_36, sz_37, sz_38, sz_39, sz_40, p_set2, p_ix2, e_mod, e_div]
      rw [if_pos hm, if_pos ⟨hm, hm2⟩]
      exact ⟨_, _, _, h1 _ (Int.ne_of_gt hm), h2 _, rfl, hg _ _⟩
    · simp only [e_svs_cons, e_svs_nil, e_sv_ife, e_sv_ret, e_sv_retN, e_sv_set, e_sv_setIx, e_sv_setLc, e_sv_app, e_sv_ex, e_sv_loop, e_sv_pass, e_ev_var, e_ev_lit, e_ev_glb, e_ev_gix, e_ev_bin, e_ev_neg, e_ev_not, w_and, w_or, QT2_bool, QB_bool, e_ev_one, e_ev_cmp, w_cmp2, e_ev_ife, e_ev_tup, e_mkT, e_ev_lst, e_ev_frz, e_ev_rev, e_ev_dct, e_ev_mcall, e_ev_callD, e_ev_callT, e_sv_tryS, e_sv_raise, e_sv_setFld, e_sv_lock, e_ev_fld, e_ev_meth, e_ev_new, e_tbv_ex, e_tbv_set, e_tbv_ife, e_tbv_exSet, e_sv_brk, e_sv_cont, wp_catch, e_evc_none, e_evc_some, e_ev_ix, e_ev_sl, e_ev_bi, e_ev_mx2, e_ev_mxd, e_ev_dget, e_ev_dpop, e_ev_clr, e_ev_split, e_ev_fnv, e_ev_callV, e_ev_slc, e_ev_gin, e_ev_gixIn, e_ev_isi, e_ev_mkx, e_ev_xfl, e_ev_isx, e_ev_sset, e_ev_lset, e_ev_stp, e_ev_call, e_ev_join, e_ev_lc, e_evs_nil, e_evs_cons, e_evo_none, e_evo_some, e_evi_seq, e_evi_rng1, e_evi_rng2, e_evi_enum, e_evi_zip, e_evi_view, e_evi_rev, env0, varD, e_b_nm, e_b_tT, e_b_tL, e_b_nil, e_b_cons, wp_bind, wp_then, wp_ok, wp_truR, wp_finP, QF_nx, QF_rt, QE1_rt, QE1_nx, QT1_bool, List.map, List.length, List.replicate, List.getElem?_cons_zero, List.getElem?_cons_succ, List.set, Nat.reduceSub, List.cons_append, List.nil_append, Nat.reduceAdd, wp_ite, e_mkLT, tru_b, seqI_L, seqI_T, pures_p, pures_nil, Option.map_some, Option.bind_some, if_true, sz_0, sz_1, sz_2, sz_3, sz_4, sz_5, sz_6, sz_7, sz_8, sz_9, sz_10, sz_11, sz_12, sz_13, sz_14, sz_15, sz_16, sz_17, sz_18, sz_19, sz_20, sz_21, sz_22, sz_23, sz_24, sz_25, sz_26, sz_27, sz_28, sz_29, sz_30, sz_31, sz_32, sz_33, sz_34, sz_35, sz_36, sz_37, sz_38, sz_39, sz_40, p_ix0, p_len, e_gt]
      split
      · rename_i hlt
        have hlt : 0 < cs.length := by simpa using hlt
        simp only [e_svs_cons, e_svs_nil, e_sv_ife, e_sv_ret, e_sv_retN, e_sv_set, e_sv_setIx, e_sv_setLc, e_sv_app, e_sv_ex, e_sv_loop, e_sv_pass, e_ev_var, e_ev_lit, e_ev_glb, e_ev_gix, e_ev_bin, e_ev_neg, e_ev_not, w_and, w_or, QT2_bool, QB_bool, e_ev_one, e_ev_cmp, w_cmp2, e_ev_ife, e_ev_tup, e_mkT, e_ev_lst, e_ev_frz, e_ev_rev, e_ev_dct, e_ev_mcall, e_ev_callD, e_ev_callT, e_sv_tryS, e_sv_raise, e_sv_setFld, e_sv_lock, e_ev_fld, e_ev_meth, e_ev_new, e_tbv_ex, e_tbv_set, e_tbv_ife, e_tbv_exSet, e_sv_brk, e_sv_cont, wp_catch, e_evc_none, e_evc_some, e_ev_ix, e_ev_sl, e_ev_bi, e_ev_mx2, e_ev_mxd, e_ev_dget, e_ev_dpop, e_ev_clr, e_ev_split, e_ev_fnv, e_ev_callV, e_ev_slc, e_ev_gin, e_ev_gixIn, e_ev_isi, e_ev_mkx, e_ev_xfl, e_ev_isx, e_ev_sset, e_ev_lset, e_ev_stp, e_ev_call, e_ev_join, e_ev_lc, e_evs_nil, e_evs_cons, e_evo_none, e_evo_some, e_evi_seq, e_evi_rng1, e_evi_rng2, e_evi_enum, e_evi_zip, e_evi_view, e_evi_rev, env0, varD, e_b_nm, e_b_tT, e_b_tL, e_b_nil, e_b_cons, wp_bind, wp_then, wp_ok, wp_truR, wp_finP, QF_nx, QF_rt, QE1_rt, QE1_nx, QT1_bool, List.map, List.length, List.replicate, List.getElem?_cons_zero, List.getElem?_cons_succ, List.set, Nat.reduceSub, List.cons_append, List.nil_append, Nat.reduceAdd, wp_ite, e_mkLT, tru_b, seqI_L, seqI_T, pures_p, pures_nil, Option.map_some, Option.bind_some, if_true, sz_0, sz_1, sz_2, sz_3, sz_4, sz_5, sz_6, sz_7, sz_8, sz_9, sz_10, sz_11, sz_12, sz_13, sz_14, sz_15, sz_16, sz_17, sz_18, sz_19, sz_20, sz_21, sz_22, sz_23, sz_24, sz_25, sz_26, sz_27, sz_28, sz_29, sz_30, sz_31, sz_32, sz_33, sz_34, sz_35, sz_36, sz_37, sz_38, sz_39, sz_40, p_ix0, p_len, e_mul, e_add, e_mod, e_pow17]
        rw [if_pos (mulOk_r (by decide))]
        rw [if_pos (by omega)]
        obtain ⟨q, hq⟩ : ∃ q : Nat, ((i : Int) * 5 + 3) % (cs.length : Int) = q := ⟨((i * 5 + 3) % cs.length : Nat), by simp⟩
        have hq2 : q < cs.length := by
          have := Int.emod_lt_of_pos ((i : Int) * 5 + 3) (show (0 : Int) < cs.length by omega)
          omega
        rw [hq]
        simp only [e_svs_cons, e_svs_nil, e_sv_ife, e_sv_ret, e_sv_retN, e_sv_set, e_sv_setIx, e_sv_setLc, e_sv_app, e_sv_ex, e_sv_loop, e_sv_pass, e_ev_var, e_ev_lit, e_ev_glb, e_ev_gix, e_ev_bin, e_ev_neg, e_ev_not, w_and, w_or, QT2_bool, QB_bool, e_ev_one, e_ev_cmp, w_cmp2, e_ev_ife, e_ev_tup, e_mkT, e_ev_lst, e_ev_frz, e_ev_rev, e_ev_dct, e_ev_mcall, e_ev_callD, e_ev_callT, e_sv_tryS, e_sv_raise, e_sv_setFld, e_sv_lock, e_ev_fld, e_ev_meth, e_ev_new, e_tbv_ex, e_tbv_set, e_tbv_ife, e_tbv_exSet, e_sv_brk, e_sv_cont, wp_catch, e_evc_none, e_evc_some, e_ev_ix, e_ev_sl, e_ev_bi, e_ev_mx2, e_ev_mxd, e_ev_dget, e_ev_dpop, e_ev_clr, e_ev_split, e_ev_fnv, e_ev_callV, e_ev_slc, e_ev_gin, e_ev_gixIn, e_ev_isi, e_ev_mkx, e_ev_xfl, e_ev_isx, e_ev_sset, e_ev_lset, e_ev_stp, e_ev_call, e_ev_join, e_ev_lc, e_evs_nil, e_evs_cons, e_evo_none, e_evo_some, e_evi_seq, e_evi_rng1, e_evi_rng2, e_evi_enum, e_evi_zip, e_evi_view, e_evi_rev, env0, varD, e_b_nm, e_b_tT, e_b_tL, e_b_nil, e_b_cons, wp_bind, wp_then, wp_ok, wp_truR, wp_finP, QF_nx, QF_rt, QE1_rt, QE1_nx, QT1_bool, List.map, List.length, List.replicate, List.getElem?_cons_zero, List.getElem?_cons_succ, List.set, Nat.reduceSub, List.cons_append, List.nil_append, Nat.reduceAdd, wp_ite, e_mkLT, tru_b, seqI_L, seqI_T, pures_p, pures_nil, Option.map_some, Option.bind_some, if_true, sz_0, sz_1, sz_2, sz_3, sz_4, sz_5, sz_6, sz_7, sz_8, sz_9, sz_10, sz_11, sz_12, sz_13, sz_14, sz_15, sz_16, sz_17, sz_18, sz_19, sz_20, sz_21, sz_22, sz_23, sz_24, sz_25, sz_26, sz_27, sz_28, sz_29, sz_30, sz_31, sz_32, sz_33, sz_34, sz_35, sz_36, sz_37, sz_38, sz_39, sz_40, p_cell hq2, e_add, e_mod, p_set1 (cs := cs) _ ((i : Int) + 1) (i + 1) (by simp)]
        rw [if_pos (by omega)]
        refine wp_mono (spread_ok k _ _ _) ?_
        rintro _ _ ⟨x, rfl, rfl⟩
        simp only [e_svs_cons, e_svs_nil, e_sv_ife, e_sv_ret, e_sv_retN, e_sv_set, e_sv_setIx, e_sv_setLc, e_sv_app, e_sv_ex, e_sv_loop, e_sv_pass, e_ev_var, e_ev_lit, e_ev_glb, e_ev_gix, e_ev_bin, e_ev_neg, e_ev_not, w_and, w_or, QT2_bool, QB_bool, e_ev_one, e_ev_cmp, w_cmp2, e_ev_ife, e_ev_tup, e_mkT, e_ev_lst, e_ev_frz, e_ev_rev, e_ev_dct, e_ev_mcall, e_ev_callD, e_ev_callT, e_sv_tryS, e_sv_raise, e_sv_setFld, e_sv_lock, e_ev_fld, e_ev_meth, e_ev_new, e_tbv_ex, e_tbv_set, e_tbv_ife, e_tbv_exSet, e_sv_brk, e_sv_cont, wp_catch, e_evc_none, e_evc_some, e_ev_ix, e_ev_sl, e_ev_bi, e_ev_mx2, e_ev_mxd, e_ev_dget, e_ev_dpop, e_ev_clr, e_ev_split, e_ev_fnv, e_ev_callV, e_ev_slc, e_ev_gin, e_ev_gixIn, e_ev_isi, e_ev_mkx, e_ev_xfl, e_ev_isx, e_ev_sset, e_ev_lset, e_ev_stp, e_ev_call, e_ev_join, e_ev_lc, e_evs_nil, e_evs_cons, e_evo_none, e_evo_some, e_evi_seq, e_evi_rng1, e_evi_rng2, e_evi_enum, e_evi_zip, e_evi_view, e_evi_rev, env0, varD, e_b_nm, e_b_tT, e_b_tL, e_b_nil, e_b_cons, wp_bind, wp_then, wp_ok, wp_truR, wp_finP, QF_nx, QF_rt, QE1_rt, QE1_nx, QT1_bool, List.map, List.length, List.replicate, List.getElem?_cons_zero, List.getElem?_cons_succ, List.set, Nat.reduceSub, List.cons_append, List.nil_append, Nat.reduceAdd, wp_ite, e_mkLT, tru_b, seqI_L, seqI_T, pures_p, pures_nil, Option.map_some, Option.bind_some, if_true, sz_0, sz_1, sz_2, sz_3, sz_4, sz_5, sz_6, sz_7, sz_8, sz_9, sz_10, sz_11, sz_12, sz_13, sz_14, sz_15, sz_16, sz_17, sz_18, sz_19, sz_20, sz_21, sz_22, sz_23, sz_24, sz_25, sz_26, sz_27, sz_28, sz_29, sz_30, sz_31, sz_32, sz_33, sz_34, sz_35, sz_36, sz_37, sz_38, sz_39, sz_40, p_set2, p_ix2, e_mod, e_div]
        rw [if_pos hm, if_pos ⟨hm, hm2⟩]
        exact ⟨_, _, _, h1 _ (Int.ne_of_gt hm), h2 _, rfl, hg _ _⟩
      · simp only [e_svs_cons, e_svs_nil, e_sv_ife, e_sv_ret, e_sv_retN, e_sv_set, e_sv_setIx, e_sv_setLc, e_sv_app, e_sv_ex, e_sv_loop, e_sv_pass, e_ev_var, e_ev_lit, e_ev_glb, e_ev_gix, e_ev_bin, e_ev_neg, e_ev_not, w_and, w_or, QT2_bool, QB_bool, e_ev_one, e_ev_cmp, w_cmp2, e_ev_ife, e_ev_tup, e_mkT, e_ev_lst, e_ev_frz, e_ev_rev, e_ev_dct, e_ev_mcall, e_ev_callD, e_ev_callT, e_sv_tryS, e_sv_raise, e_sv_setFld, e_sv_lock, e_ev_fld, e_ev_meth, e_ev_new, e_tbv_ex, e_tbv_set, e_tbv_ife, e_tbv_exSet, e_sv_brk, e_sv_cont, wp_catch, e_evc_none, e_evc_some, e_ev_ix, e_ev_sl, e_ev_bi, e_ev_mx2, e_ev_mxd, e_ev_dget, e_ev_dpop, e_ev_clr, e_ev_split, e_ev_fnv, e_ev_callV, e_ev_slc, e_ev_gin, e_ev_gixIn, e_ev_isi, e_ev_mkx, e_ev_xfl, e_ev_isx, e_ev_sset, e_ev_lset, e_ev_stp, e_ev_call, e_ev_join, e_ev_lc, e_evs_nil, e_evs_cons, e_evo_none, e_evo_some, e_evi_seq, e_evi_rng1, e_evi_rng2, e_evi_enum, e_evi_zip, e_evi_view, e_evi_rev, env0, varD, e_b_nm, e_b_tT, e_b_tL, e_b_nil, e_b_cons, wp_bind, wp_then, wp_ok, wp_truR, wp_finP, QF_nx, QF_rt, QE1_rt, QE1_nx, QT1_bool, List.map, List.length, List.replicate, List.getElem?_cons_zero, List.getElem?_cons_succ, List.set, Nat.reduceSub, List.cons_append, List.nil_append, Nat.reduceAdd, wp_ite, e_mkLT, tru_b, seqI_L, seqI_T, pures_p, pures_nil, Option.map_some, Option.bind_some, if_true, sz_0, sz_1, sz_2, sz_3, sz_4, sz_5, sz_6, sz_7, sz_8, sz_9, sz_10, sz_11, sz_12, sz_13, sz_14, sz_15, sz_16, sz_17, sz_18, sz_19, sz_20, sz_21, sz_22, sz_23, sz_24, sz_25, sz_26, sz_27, sz_28, sz_29, sz_30, sz_31, sz_32, sz_33, sz_34, sz_35, sz_36, sz_37, sz_38, sz_39, sz_40, e_add, p_set1 (cs := cs) _ ((i : Int) + 1) (i + 1) (by simp)]
        refine wp_mono (spread_ok k _ _ _) ?_
        rintro _ _ ⟨x, rfl, rfl⟩
        simp only [e_svs_cons, e_svs_nil, e_sv_ife, e_sv_ret, e_sv_retN, e_sv_set, e_sv_setIx, e_sv_setLc, e_sv_app, e_sv_ex, e_sv_loop, e_sv_pass, e_ev_var, e_ev_lit, e_ev_glb, e_ev_gix, e_ev_bin, e_ev_neg, e_ev_not, w_and, w_or, QT2_bool, QB_bool, e_ev_one, e_ev_cmp, w_cmp2, e_ev_ife, e_ev_tup, e_mkT, e_ev_lst, e_ev_frz, e_ev_rev, e_ev_dct, e_ev_mcall, e_ev_callD, e_ev_callT, e_sv_tryS, e_sv_raise, e_sv_setFld, e_sv_lock, e_ev_fld, e_ev_meth, e_ev_new, e_tbv_ex, e_tbv_set, e_tbv_ife, e_tbv_exSet, e_sv_brk, e_sv_cont, wp_catch, e_evc_none, e_evc_some, e_ev_ix, e_ev_sl, e_ev_bi, e_ev_mx2, e_ev_mxd, e_ev_dget, e_ev_dpop, e_ev_clr, e_ev_split, e_ev_fnv, e_ev_callV, e_ev_slc, e_ev_gin, e_ev_gixIn, e_ev_isi, e_ev_mkx, e_ev_xfl, e_ev_isx, e_ev_sset, e_ev_lset, e_ev_stp, e_ev_call, e_ev_join, e_ev_lc, e_evs_nil, e_evs_cons, e_evo_none, e_evo_some, e_evi_seq, e_evi_rng1, e_evi_rng2, e_evi_enum, e_evi_zip, e_evi_view, e_evi_rev, env0, varD, e_b_nm, e_b_tT, e_b_tL, e_b_nil, e_b_cons, wp_bind, wp_then, wp_ok, wp_truR, wp_finP, QF_nx, QF_rt, QE1_rt, QE1_nx, QT1_bool, List.map, List.length, List.replicate, List.getElem?_cons_zero, List.getElem?_cons_succ, List.set, Nat.reduceSub, List.cons_append, List.nil_append, Nat.reduceAdd, wp_ite, e_mkLT, tru_b, seqI_L, seqI_T, pures_p, pures_nil, Option.map_some, Option.bind_some, if_true, sz_0, sz_1, sz_2, sz_3, sz_4, sz_5, sz_6, sz_7, sz_8, sz_9, sz_10, sz_11, sz_12, sz_13, sz_14, sz_15, sz_16, sz_17, sz_18, sz_19, sz_20, sz_21, sz_22, sz_23, sz_24, sz_25, sz_26, sz_27, sz_28, sz_29, sz_30, sz_31, sz_32, sz_33, sz_34, sz_35, sz_36, sz_37, sz_38, sz_39, sz_40, p_set2, p_ix2, e_mod, e_div]
        rw [if_pos hm, if_pos ⟨hm, hm2⟩]
        exact ⟨_, _, _, h1 _ (Int.ne_of_gt hm), h2 _, rfl, hg _ _⟩
  · simp only [e_svs_cons, e_svs_nil, e_sv_ife, e_sv_ret, e_sv_retN, e_sv_set, e_sv_setIx, e_sv_setLc, e_sv_app, e_sv_ex, e_sv_loop, e_sv_pass, e_ev_var, e_ev_lit, e_ev_glb, e_ev_gix, e_ev_bin, e_ev_neg, e_ev_not, w_and, w_or, QT2_bool, QB_bool, e_ev_one, e_ev_cmp, w_cmp2, e_ev_ife, e_ev_tup, e_mkT, e_ev_lst, e_ev_frz, e_ev_rev, e_ev_dct, e_ev_mcall, e_ev_callD, e_ev_callT, e_sv_tryS, e_sv_raise, e_sv_setFld, e_sv_lock, e_ev_fld, e_ev_meth, e_ev_new, e_tbv_ex, e_tbv_set, e_tbv_ife, e_tbv_exSet, e_sv_brk, e_sv_cont, wp_catch, e_evc_none, e_evc_some, e_ev_ix, e_ev_sl, e_ev_bi, e_ev_mx2, e_ev_mxd, e_ev_dget, e_ev_dpop, e_ev_clr, e_ev_split, e_ev_fnv, e_ev_callV, e_ev_slc, e_ev_gin, e_ev_gixIn, e_ev_isi, e_ev_mkx, e_ev_xfl, e_ev_isx, e_ev_sset, e_ev_lset, e_ev_stp, e_ev_call, e_ev_join, e_ev_lc, e_evs_nil, e_evs_cons, e_evo_none, e_evo_some, e_evi_seq, e_evi_rng1, e_evi_rng2, e_evi_enum, e_evi_zip, e_evi_view, e_evi_rev, env0, varD, e_b_nm, e_b_tT, e_b_tL, e_b_nil, e_b_cons, wp_bind, wp_then, wp_ok, wp_truR, wp_finP, QF_nx, QF_rt, QE1_rt, QE1_nx, QT1_bool, List.map, List.length, List.replicate, List.getElem?_cons_zero, List.getElem?_cons_succ, List.set, Nat.reduceSub, List.cons_append, List.nil_append, Nat.reduceAdd, wp_ite, e_mkLT, tru_b, seqI_L, seqI_T, pures_p, pures_nil, Option.map_some, Option.bind_some, if_true, sz_0, sz_1, sz_2, sz_3, sz_4, sz_5, sz_6, sz_7, sz_8, sz_9, sz_10, sz_11, sz_12, sz_13, sz_14, sz_15, sz_16, sz_17, sz_18, sz_19, sz_20, sz_21, sz_22, sz_23, sz_24, sz_25, sz_26, sz_27, sz_28, sz_29, sz_30, sz_31, sz_32, sz_33, sz_34, sz_35, sz_36, sz_37, sz_38, sz_39, sz_40, p_ix2, p_set2, e_mod, e_div]
    rw [if_pos hm, if_pos ⟨hm, hm2⟩]
    exact ⟨_, _, _, h1 _ (Int.ne_of_gt hm), h2 _, rfl, hg _ _⟩
theorem take_then (k : Nat) {cs : List Int} {i : Nat} {v m : Int} {ex : Store} (hm : 0 < m) (hm2 : m < 2 ^ 100) {Q : D → Store → Prop} (h : ∀ (x : Int) (j : Nat) (u : Int), 0 ≤ x → x < m → Q (.p (.int x)) (pen cs j u ++ ex)) :
    wpe NoX (semK defs (k + 2) 2 [.c 1, .p (.int m)] (pen cs i v ++ ex)) Q :=
  wp_mono (take_ok k hm hm2) (by rintro _ _ ⟨x, j, u, h0, h1, rfl, rfl⟩; exact h x j u h0 h1)
theorem open_ok (k : Nat) (ns : List Int) : wpe NoX (semK defs (k + 1) 1 [.p (.list (ns.map .int))] []) fun d st' => ∃ cs : List Int, d = .c 1 ∧ st' = pen cs 0 0 := by
  refine wp_sem (d := d1) rfl rfl ?_
  simp only [d1, b1, e_svs_cons, e_svs_nil, e_sv_ife, e_sv_ret, e_sv_retN, e_sv_set, e_sv_setIx, e_sv_setLc, e_sv_app, e_sv_ex, e_sv_loop, e_sv_pass, e_ev_var, e_ev_lit, e_ev_glb, e_ev_gix, e_ev_bin, e_ev_neg, e_ev_not, w_and, w_or, QT2_bool, QB_bool, e_ev_one, e_ev_cmp, w_cmp2, e_ev_ife, e_ev_tup, e_mkT, e_ev_lst, e_ev_frz, e_ev_rev, e_ev_dct, e_ev_mcall, e_ev_callD, e_ev_callT, e_sv_tryS, e_sv_raise, e_sv_setFld, e_sv_lock, e_ev_fld, e_ev_meth, e_ev_new, e_tbv_ex, e_tbv_set, e_tbv_ife, e_tbv_exSet, e_sv_brk, e_sv_cont, wp_catch, e_evc_none, e_evc_some, e_ev_ix, e_ev_sl, e_ev_bi, e_ev_mx2, e_ev_mxd, e_ev_dget, e_ev_dpop, e_ev_clr, e_ev_split, e_ev_fnv, e_ev_callV, e_ev_slc, e_ev_gin, e_ev_gixIn, e_ev_isi, e_ev_mkx, e_ev_xfl, e_ev_isx, e_ev_sset, e_ev_lset, e_ev_stp, e_ev_call, e_ev_join, e_ev_lc, e_evs_nil, e_evs_cons, e_evo_none, e_evo_some, e_evi_seq, e_evi_rng1, e_evi_rng2, e_evi_enum, e_evi_zip, e_evi_view, e_evi_rev, env0, varD, e_b_nm, e_b_tT, e_b_tL, e_b_nil, e_b_cons, wp_bind, wp_then, wp_ok, wp_truR, wp_finP, QF_nx, QF_rt, QE1_rt, QE1_nx, QT1_bool, List.map, List.length, List.replicate, List.getElem?_cons_zero, List.getElem?_cons_succ, List.set, Nat.reduceSub, List.cons_append, List.nil_append, Nat.reduceAdd, wp_ite, e_mkLT, tru_b, seqI_L, seqI_T, pures_p, pures_nil, Option.map_some, Option.bind_some, if_true, sz_0, sz_1, sz_2, sz_3, sz_4, sz_5, sz_6, sz_7, sz_8, sz_9, sz_10, sz_11, sz_12, sz_13, sz_14, sz_15, sz_16, sz_17, sz_18, sz_19, sz_20, sz_21, sz_22, sz_23, sz_24, sz_25, sz_26, sz_27, sz_28, sz_29, sz_30, sz_31, sz_32, sz_33, sz_34, sz_35, sz_36, sz_37, sz_38, sz_39, sz_40, e_slL, e_listCL, e_enumL]
  have c1 : cut (ns.map PyData.int) none (some 12) = (ns.take 12).map PyData.int := by rw [show (12 : Int) = ((12 : Nat) : Int) from rfl, cut_take, List.map_take]
  obtain ⟨r, c2, hr⟩ : ∃ r : List Int, cut (ns.map PyData.int) (some 12) (some 63) = r.map PyData.int ∧ (r ≠ [] → 12 < ns.length) := by
    refine ⟨cut ns (some 12) (some 63), cut_map _ _ _ _, fun h => ?_⟩
    by_cases hl : 12 < ns.length
    · exact hl
    · refine absurd ?_ h
      unfold cut
      rw [show (12 : Int) = ((12 : Nat) : Int) from rfl, HT.sIx_nat, Nat.min_eq_right (by omega), List.drop_length, List.take_nil]
  rw [c1, c2]
  refine wp_for0 (fun _ env st => ∃ (cs : List Int) (x y : Option D), cs.length = (ns.take 12).length ∧ env = [some (.p (.list (ns.map .int))), some (.c 0), x, y] ∧ st = [.lst (cs.map fun c => .p (.int c))])
    ⟨ns.take 12, _, _, rfl, rfl, by simp; rfl⟩ (fun j env st h => gd_list _ _) (fun j hj env st h => ?_) (fun env st h => ?_)
  · obtain ⟨cs, x, y, h1, rfl, rfl⟩ := h
    simp only [List.length_mapIdx, List.length_map] at hj
    have h12 : 12 < ns.length := hr (by intro e; rw [e] at hj; simp at hj)
    have hcs : cs.length = 12 := by rw [h1, List.length_take]; omega
    refine ⟨[some (.p (.list (ns.map .int))), some (.c 0), some (.p (.int (j : Nat))), some (.p (.int r[j]))], ?_, ?_⟩
    · simp [bindI, bindDs, bindD]
    · have hc0 : cellL [Cell.lst (cs.map fun c => D.p (.int c))] 0 = some (cs.map fun c => D.p (.int c)) := rfl
      obtain ⟨q, hq⟩ : ∃ q : Nat, (j : Int) % 12 = q := ⟨j % 12, by simp⟩
      have hq2 : q < cs.length := by omega
      have hat : atI (cs.map fun c => D.p (.int c)) (q : Int) = some (.p (.int cs[q])) := atI_nat (by simp [hq2])
      simp only [e_svs_cons, e_svs_nil, e_sv_ife, e_sv_ret, e_sv_retN, e_sv_set, e_sv_setIx, e_sv_setLc, e_sv_app, e_sv_ex, e_sv_loop, e_sv_pass, e_ev_var, e_ev_lit, e_ev_glb, e_ev_gix, e_ev_bin, e_ev_neg, e_ev_not, w_and, w_or, QT2_bool, QB_bool, e_ev_one, e_ev_cmp, w_cmp2, e_ev_ife, e_ev_tup, e_mkT, e_ev_lst, e_ev_frz, e_ev_rev, e_ev_dct, e_ev_mcall, e_ev_callD, e_ev_callT, e_sv_tryS, e_sv_raise, e_sv_setFld, e_sv_lock, e_ev_fld, e_ev_meth, e_ev_new, e_tbv_ex, e_tbv_set, e_tbv_ife, e_tbv_exSet, e_sv_brk, e_sv_cont, wp_catch, e_evc_none, e_evc_some, e_ev_ix, e_ev_sl, e_ev_bi, e_ev_mx2, e_ev_mxd, e_ev_dget, e_ev_dpop, e_ev_clr, e_ev_split, e_ev_fnv, e_ev_callV, e_ev_slc, e_ev_gin, e_ev_gixIn, e_ev_isi, e_ev_mkx, e_ev_xfl, e_ev_isx, e_ev_sset, e_ev_lset, e_ev_stp, e_ev_call, e_ev_join, e_ev_lc, e_evs_nil, e_evs_cons, e_evo_none, e_evo_some, e_evi_seq, e_evi_rng1, e_evi_rng2, e_evi_enum, e_evi_zip, e_evi_view, e_evi_rev, env0, varD, e_b_nm, e_b_tT, e_b_tL, e_b_nil, e_b_cons, wp_bind, wp_then, wp_ok, wp_truR, wp_finP, QF_nx, QF_rt, QE1_rt, QE1_nx, QT1_bool, List.map, List.length, List.replicate, List.getElem?_cons_zero, List.getElem?_cons_succ, List.set, Nat.reduceSub, List.cons_append, List.nil_append, Nat.reduceAdd, wp_ite, e_mkLT, tru_b, seqI_L, seqI_T, pures_p, pures_nil, Option.map_some, Option.bind_some, if_true, sz_0, sz_1, sz_2, sz_3, sz_4, sz_5, sz_6, sz_7, sz_8, sz_9, sz_10, sz_11, sz_12, sz_13, sz_14, sz_15, sz_16, sz_17, sz_18, sz_19, sz_20, sz_21, sz_22, sz_23, sz_24, sz_25, sz_26, sz_27, sz_28, sz_29, sz_30, sz_31, sz_32, sz_33, sz_34, sz_35, sz_36, sz_37, sz_38, sz_39, sz_40, e_mod, Int.reduceLT, if_true, hq, ix_c hc0, hat, e_add, setIx_c hc0 q (by simpa using hq2), QN_nx]
      refine ⟨cs.set q (cs[q] + r[j]), _, _, by rw [List.length_set]; exact h1, rfl, ?_⟩
      simp [List.map_set]
  · obtain ⟨cs, x, y, h1, rfl, rfl⟩ := h
    simp only [e_svs_cons, e_svs_nil, e_sv_ife, e_sv_ret, e_sv_retN, e_sv_set, e_sv_setIx, e_sv_setLc, e_sv_app, e_sv_ex, e_sv_loop, e_sv_pass, e_ev_var, e_ev_lit, e_ev_glb, e_ev_gix, e_ev_bin, e_ev_neg, e_ev_not, w_and, w_or, QT2_bool, QB_bool, e_ev_one, e_ev_cmp, w_cmp2, e_ev_ife, e_ev_tup, e_mkT, e_ev_lst, e_ev_frz, e_ev_rev, e_ev_dct, e_ev_mcall, e_ev_callD, e_ev_callT, e_sv_tryS, e_sv_raise, e_sv_setFld, e_sv_lock, e_ev_fld, e_ev_meth, e_ev_new, e_tbv_ex, e_tbv_set, e_tbv_ife, e_tbv_exSet, e_sv_brk, e_sv_cont, wp_catch, e_evc_none, e_evc_some, e_ev_ix, e_ev_sl, e_ev_bi, e_ev_mx2, e_ev_mxd, e_ev_dget, e_ev_dpop, e_ev_clr, e_ev_split, e_ev_fnv, e_ev_callV, e_ev_slc, e_ev_gin, e_ev_gixIn, e_ev_isi, e_ev_mkx, e_ev_xfl, e_ev_isx, e_ev_sset, e_ev_lset, e_ev_stp, e_ev_call, e_ev_join, e_ev_lc, e_evs_nil, e_evs_cons, e_evo_none, e_evo_some, e_evi_seq, e_evi_rng1, e_evi_rng2, e_evi_enum, e_evi_zip, e_evi_view, e_evi_rev, env0, varD, e_b_nm, e_b_tT, e_b_tL, e_b_nil, e_b_cons, wp_bind, wp_then, wp_ok, wp_truR, wp_finP, QF_nx, QF_rt, QE1_rt, QE1_nx, QT1_bool, List.map, List.length, List.replicate, List.getElem?_cons_zero, List.getElem?_cons_succ, List.set, Nat.reduceSub, List.cons_append, List.nil_append, Nat.reduceAdd, wp_ite, e_mkLT, tru_b, seqI_L, seqI_T, pures_p, pures_nil, Option.map_some, Option.bind_some, if_true, sz_0, sz_1, sz_2, sz_3, sz_4, sz_5, sz_6, sz_7, sz_8, sz_9, sz_10, sz_11, sz_12, sz_13, sz_14, sz_15, sz_16, sz_17, sz_18, sz_19, sz_20, sz_21, sz_22, sz_23, sz_24, sz_25, sz_26, sz_27, sz_28, sz_29, sz_30, sz_31, sz_32, sz_33, sz_34, sz_35, sz_36, sz_37, sz_38, sz_39, sz_40]
    exact ⟨cs, rfl, rfl⟩
/-! comprehensions while the pen draws -/
theorem pen_app (cs : List Int) (i : Nat) (v : Int) (ex : Store) (c : Cell) : pen cs i v ++ ex ++ [c] = pen cs i v ++ (ex ++ [c]) := List.append_assoc _ _ _
theorem pen_last (cs : List Int) (i : Nat) (v : Int) (ex : Store) (acc : List D) : cellL (pen cs i v ++ (ex ++ [.lst acc])) (2 + ex.length) = some acc := by
  rw [← pen_app, ← pen_len cs i v ex]
  unfold cellL
  rw [List.getElem?_concat_length]
theorem pen_setLast (cs : List Int) (i : Nat) (v : Int) (ex : Store) (c c' : Cell) : (pen cs i v ++ (ex ++ [c])).set (2 + ex.length) c' = pen cs i v ++ (ex ++ [c']) := by
  rw [← pen_app, ← pen_app, ← pen_len cs i v ex, List.set_append_right _ _ (Nat.le_refl _)]
  simp
theorem lc_core {cs : List Int} {i : Nat} {v : Int} {ex : Store} {tg : MT} {cond elt : MD} {env0 : MP.Env} {its : List Itm} (P : Nat → PyData → Prop) (full : Bool) (hz : its.length ≤ 1000)
    (hb : ∀ j (h : j < its.length) acc i' u', ∃ env1, bindI (pen cs i' u' ++ (ex ++ [.lst acc])) tg its[j] env0 = some env1 ∧ wpe NoX (cond env1 (pen cs i' u' ++ (ex ++ [.lst acc]))) (QT1 fun b st1 => ∃ i2 u2, st1 = pen cs i2 u2 ++ (ex ++ [.lst acc]) ∧ (full = true → b = true) ∧
      (b = true → wpe NoX (elt env1 st1) fun d st2 => ∃ x i3 u3, d = .p x ∧ P j x ∧ st2 = pen cs i3 u3 ++ (ex ++ [.lst acc])))) :
    wpe NoX (lcL (fun _ => True) (pen cs i v ++ ex).length tg cond elt env0 its (pen cs i v ++ ex ++ [.lst []])) fun _ st => ∃ (xs : List PyData) (i' : Nat) (u' : Int), st = pen cs i' u' ++ (ex ++ [.lst (xs.map .p)]) ∧ (∀ x ∈ xs, ∃ j, j < its.length ∧ P j x) ∧ xs.length ≤ its.length ∧
      (full = true → xs.length = its.length ∧ ∀ j (h : j < xs.length), P j xs[j]) := by
  rw [pen_len, pen_app]
  refine wp_lc0 (fun j acc st => ∃ (xs : List PyData) (i' : Nat) (u' : Int), acc = xs.map D.p ∧ st = pen cs i' u' ++ (ex ++ [.lst acc]) ∧ (∀ x ∈ xs, ∃ j, j < its.length ∧ P j x) ∧ xs.length ≤ j ∧ (full = true → xs.length = j ∧ ∀ j (h : j < xs.length), P j xs[j]))
    ⟨[], i, v, rfl, rfl, (by simp), Nat.le_refl _, fun _ => ⟨rfl, fun j h => absurd h (Nat.not_lt_zero _)⟩⟩ (fun j acc st h => ?_) (fun _ _ _ _ => trivial) (fun j hj acc st h => ?_) (fun acc st h => ?_)
  · obtain ⟨xs, i', u', rfl, rfl, _⟩ := h
    exact pen_last _ _ _ _ _
  · obtain ⟨xs, i', u', rfl, rfl, h1, h2, h3⟩ := h
    obtain ⟨env1, e1, hw⟩ := hb j hj (xs.map .p) i' u'
    refine ⟨env1, e1, wp_mono hw fun d st1 ⟨b, hb1, i2, u2, es, hfull, h4⟩ => ⟨b, hb1, ?_⟩⟩
    subst es
    cases b with
    | true =>
      rw [if_pos rfl]
      refine wp_mono (h4 rfl) fun d st2 ⟨x, i3, u3, ed, hP, es⟩ => ?_
      subst ed es
      refine ⟨_, pen_last _ _ _ _ _, by rw [List.length_map]; exact Nat.lt_of_le_of_lt h2 (Nat.lt_of_lt_of_le hj (Nat.le_trans hz (by decide))), xs ++ [x], i3, u3, by simp, by rw [pen_setLast], ?_, by simp; omega, fun hf => ?_⟩
      · intro y hy
        rcases List.mem_append.mp hy with hy | hy
        · exact h1 y hy
        · rw [List.mem_singleton.mp hy]; exact ⟨j, hj, hP⟩
      · obtain ⟨q1, q2⟩ := h3 hf
        refine ⟨by simp [q1], fun m hm => ?_⟩
        by_cases hl : m < xs.length
        · rw [List.getElem_append_left hl]; exact q2 m hl
        · have : m = xs.length := by simp at hm; omega
          subst this
          rw [List.getElem_append_right (Nat.le_refl _)]
          simp only [Nat.sub_self, List.getElem_cons_zero]
          rw [q1]; exact hP
    | false =>
      rw [if_neg (by simp)]
      refine ⟨xs.map .p, xs, i2, u2, rfl, rfl, h1, by omega, fun hf => absurd (hfull hf) (by simp)⟩
  · obtain ⟨xs, i', u', rfl, rfl, h1, h2, h3⟩ := h
    exact ⟨xs, i', u', rfl, h1, h2, h3⟩
theorem lcEnd_pen {cs : List Int} {i : Nat} {v : Int} {ex : Store} {xs : List PyData} {n : Nat} (hn : n = 2 + ex.length) (hx : OkEx ex) : lcEnd false n (pen cs i v ++ (ex ++ [.lst (xs.map .p)])) = .ok (.p (.list xs)) (pen cs i v ++ ex) := by
  subst hn
  unfold lcEnd
  simp only [pen_last, pures_map, pen_setLast]
  rw [← pen_app, gc_pen hx rfl]
theorem lcEnd_penC {cs : List Int} {i : Nat} {v : Int} {ex : Store} {n : Nat} {st : Store} : lcEnd true n st = .ok (.c n) st := rfl
/-! names -/
def isL (c : Nat) : Prop := 97 ≤ c ∧ c ≤ 122
def abc : Str := "abcdefghijklmnopqrstuvwxyz"
theorem abc_len : abc.length = 26 := by decide +kernel
theorem abc_at (x : Int) (h0 : 0 ≤ x) (h1 : x < 26) : atI abc.cps.toList x = some (97 + x.toNat) := by
  have key : ∀ n : Fin 26, abc.cps.toList[n.val]? = some (97 + n.val) := by decide +kernel
  obtain ⟨n, rfl⟩ : ∃ n : Nat, x = n := ⟨x.toNat, by omega⟩
  have hn : n < 26 := by omega
  rw [atI_nat (key ⟨n, hn⟩)]
  simp
theorem abc_ix (x : Int) (h0 : 0 ≤ x) (h1 : x < 26) (st : Store) : ixD (.p (.str abc)) (.p (.int x)) st = .ok (.p (.str ⟨#[97 + x.toNat]⟩)) st := by
  unfold ixD
  rw [isDict_p, if_neg (by simp)]
  unfold ixD0
  simp only
  rw [if_pos (by rw [abc_len]; decide), abc_at x h0 h1]
def atOf (w : Int) (n : Nat) : Int := if w = 0 then 0 else if w = 1 then n else (n : Int) / 2
def partOf (b : Str) (w s : Int) (k : Nat) : Str := cutS b none (some ((s + k * (w % 2)) % 8))
def nameAt (b : Str) (w t s : Int) (k : Nat) : Str :=
  cutS (partOf b w s k) none (some (atOf w (partOf b w s k).length)) ++ (⟨#[97 + ((t + 3 * (k : Int)) % 26).toNat]⟩ : Str) ++ cutS (partOf b w s k) (some (atOf w (partOf b w s k).length)) none
theorem joinL_nil : ∀ l : List (List Nat), TL.joinL [] l = l.flatten
  | [] => rfl
  | [x] => by simp [TL.joinL]
  | x :: y :: r => by
    have := joinL_nil (y :: r)
    simp [TL.joinL] at this ⊢
    rw [this]
theorem tl_join0 (zs : List Str) : (Txt.join "" zs).cps.toList = (zs.map fun z => z.cps.toList).flatten := by
  rw [TL.join_eq]
  have := TL.tl_join "" zs
  rw [show TL.tl "" = [] from rfl, joinL_nil] at this
  exact this
theorem ones_join (zs : List Nat) : (Txt.join "" (zs.map fun c => (⟨#[c]⟩ : Str))).cps.toList = zs := by
  rw [tl_join0]
  induction zs with
  | nil => rfl
  | cons c r ih => simpa using ih
theorem strs_of : ∀ {xs : List PyData} {P : Nat → Prop}, (∀ x ∈ xs, ∃ c, P c ∧ x = .str ⟨#[c]⟩) → ∃ zs : List Nat, xs = zs.map (fun c => PyData.str ⟨#[c]⟩) ∧ ∀ c ∈ zs, P c
  | [], _, _ => ⟨[], rfl, by simp⟩
  | x :: r, P, h => by
    obtain ⟨c, hc, rfl⟩ := h _ List.mem_cons_self
    obtain ⟨zs, rfl, h2⟩ := strs_of (xs := r) fun x hx => h x (List.mem_cons_of_mem _ hx)
    exact ⟨c :: zs, rfl, by simpa using ⟨hc, h2⟩⟩
theorem join_ones (zs : List Nat) (hz : zs.length ≤ 1000) (st : Store) : joinD "" (.p (.list (zs.map fun c => PyData.str ⟨#[c]⟩))) st = .ok (.p (.str (Txt.join "" (zs.map fun c => (⟨#[c]⟩ : Str))))) st := by
  have h1 : pures ((zs.map fun c => PyData.str ⟨#[c]⟩).map D.p) = some (zs.map fun c => PyData.str ⟨#[c]⟩) := pures_map _
  have h2 : strsP (zs.map fun c => PyData.str ⟨#[c]⟩) = some (zs.map fun c => (⟨#[c]⟩ : Str)) := by
    have := MP.strs_map (zs.map fun c => (⟨#[c]⟩ : Str))
    rw [List.map_map] at this
    exact this
  have h3 : ((zs.map fun c => (⟨#[c]⟩ : Str)).map (·.length)).sum = zs.length := by
    rw [List.map_map]
    clear h1 h2 hz
    induction zs with
    | nil => rfl
    | cons c r ih => rw [List.map_cons, List.sum_cons, ih]; show 1 + r.length = r.length + 1; omega
  unfold joinD
  simp only [items, Option.bind_some, h1, h2]
  rw [if_pos (by rw [h3]; show zs.length + _ * 0 ≤ 100000; omega)]
theorem cutS_le (z : Str) (lo hi : Option Int) : (cutS z lo hi).length ≤ z.length := cutS_length z lo hi
/-! a town -/
def sLe (a b : Str) : Bool := decide (a.cps.toList ≤ b.cps.toList)
def sortS (l : List Str) : List Str := l.mergeSort sLe
theorem sort_strs (l : List Str) : sortP (l.map .str) = (sortS l).map .str := by
  unfold sortP sortS
  rw [List.map_mergeSort (r := sLe) (s := PySem.W.dataLe false fun x : PyData => x) (f := PyData.str)]
  intro a _ b _
  exact (congrFun (congrFun (PySem.W.dataLe_str (fun x : Str => x)) a) b).symm
theorem sortOk_strs (l : List Str) (h : l.length ≤ 1000) : sortOk (l.map .str) = true := by
  unfold sortOk
  simp only [Bool.and_eq_true, List.all_eq_true, Bool.or_eq_true, decide_eq_true_eq, List.length_map, List.mem_map]
  refine ⟨⟨⟨?_, .inr ?_⟩, ?_⟩, sz_le h⟩
  · rintro _ ⟨a, _, rfl⟩ _ ⟨b, _, rfl⟩; rfl
  · rintro _ ⟨a, _, rfl⟩; rfl
  · rintro _ ⟨a, _, rfl⟩; exact Nat.zero_le _
theorem sorted_c {n : Nat} {st : Store} {l : List Str} (h : cellL st n = some (l.map fun x => .p (.str x))) (hl : l.length ≤ 1000) : bi1D (.sorted false) (.c n) st = .ok (.p (.list ((sortS l).map .str))) st := by
  have h1 : items (.c n) st = some (l.map fun x => .p (.str x)) := h
  have h2 : pures (l.map fun x => D.p (.str x)) = some (l.map .str) := by
    exact pures_map' PyData.str l
  show sortedD false (.c n) st = _
  unfold sortedD
  simp only [h1, h2, sortOk_strs l hl, Bool.true_or, if_true, sort_strs]
  exact mkL_p _ _
theorem sortS_len (l : List Str) : (sortS l).length = l.length := List.length_mergeSort l
theorem sortS_mem {l : List Str} {x : Str} : x ∈ sortS l ↔ x ∈ l := List.mem_mergeSort
theorem okEx_snoc {ex : Store} {ds : List D} (h : OkEx ex) (hd : ∀ d ∈ ds, ∃ x, d = .p x) : OkEx (ex ++ [.lst ds]) := by
  unfold OkEx at h ⊢
  rw [List.all_eq_true] at h ⊢
  intro c hc
  rw [List.length_append, List.length_singleton]
  rcases List.mem_append.mp hc with hc | hc
  · exact cellBelow_mono (by omega) (h c hc)
  · rw [List.mem_singleton.mp hc]
    simp only [cellBelow, List.all_eq_true]
    intro d hd'
    obtain ⟨x, rfl⟩ := hd d hd'
    rfl
def townD (hs gs : List Str) : PyData := .tuple [.tuple (hs.map .str), .tuple (gs.map .str)]
structure Town (m : Nat) (hs gs : List Str) : Prop where
  names : ∃ (b : Str) (w t s : Int) (n : Nat), (∀ c ∈ b.cps.toList, isL c) ∧ b.length = 7 ∧ 0 ≤ w ∧ w < 3 ∧ 0 ≤ t ∧ t < 26 ∧ 0 ≤ s ∧ s < 8 ∧ 1 ≤ n ∧ n ≤ m ∧ hs = sortS ((List.range n).map (nameAt b w t s))
  gates : ∀ g ∈ gs, g ∈ hs
  shrt : gs.length ≤ hs.length
  sub : gs.Sublist hs
theorem Town.ne {m : Nat} {hs gs : List Str} (h : Town m hs gs) : 1 ≤ hs.length ∧ hs.length ≤ m := by
  obtain ⟨b, w, t, s, n, _, _, _, _, _, _, _, _, h1, h2, rfl⟩ := h.names
  rw [sortS_len, List.length_map, List.length_range]
  exact ⟨h1, h2⟩
theorem strs_in : ∀ {xs : List PyData} {hs : List Str}, (∀ x ∈ xs, ∃ h ∈ hs, x = .str h) → ∃ gs : List Str, xs = gs.map .str ∧ ∀ g ∈ gs, g ∈ hs
  | [], _, _ => ⟨[], rfl, by simp⟩
  | x :: r, hs, h => by
    obtain ⟨g, hg, rfl⟩ := h _ List.mem_cons_self
    obtain ⟨gs, rfl, h2⟩ := strs_in (xs := r) fun x hx => h x (List.mem_cons_of_mem _ hx)
    exact ⟨g :: gs, rfl, by simpa using ⟨hg, h2⟩⟩
theorem e_eqEmpty (xs : List PyData) (st : Store) : cmpD .Eq (.p (.list xs)) (.p (.list [])) st = .ok (.p (.bool xs.isEmpty)) st := by
  unfold cmpD eqD
  simp only [toP_p]
  rw [if_pos]
  · cases xs with
    | nil => rfl
    | cons x r => rfl
  · unfold eqRoom
    rw [decide_eq_true_eq]
    exact Nat.le_trans (Nat.min_le_right _ _) (by decide)
/-- a comprehension that keeps the order -/
theorem lc_sub {cs : List Int} {i : Nat} {v : Int} {ex : Store} {tg : MT} {cond elt : MD} {env0 : MP.Env} {its : List Itm} (f : Nat → PyData) (hz : its.length ≤ 1000)
    (hb : ∀ j (h : j < its.length) acc i' u', ∃ env1, bindI (pen cs i' u' ++ (ex ++ [.lst acc])) tg its[j] env0 = some env1 ∧ wpe NoX (cond env1 (pen cs i' u' ++ (ex ++ [.lst acc]))) (QT1 fun b st1 => ∃ i2 u2, st1 = pen cs i2 u2 ++ (ex ++ [.lst acc]) ∧
      (b = true → wpe NoX (elt env1 st1) fun d st2 => ∃ i3 u3, d = .p (f j) ∧ st2 = pen cs i3 u3 ++ (ex ++ [.lst acc])))) :
    wpe NoX (lcL (fun _ => True) (pen cs i v ++ ex).length tg cond elt env0 its (pen cs i v ++ ex ++ [.lst []])) fun _ st => ∃ (xs : List PyData) (i' : Nat) (u' : Int), st = pen cs i' u' ++ (ex ++ [.lst (xs.map .p)]) ∧ xs.Sublist ((List.range its.length).map f) := by
  rw [pen_len, pen_app]
  refine wp_lc0 (fun j acc st => ∃ (xs : List PyData) (i' : Nat) (u' : Int), acc = xs.map D.p ∧ st = pen cs i' u' ++ (ex ++ [.lst acc]) ∧ xs.Sublist ((List.range j).map f))
    ⟨[], i, v, rfl, rfl, List.nil_sublist _⟩ (fun j acc st h => ?_) (fun _ _ _ _ => trivial) (fun j hj acc st h => ?_) (fun acc st h => ?_)
  · obtain ⟨xs, i', u', rfl, rfl, _⟩ := h
    exact pen_last _ _ _ _ _
  · obtain ⟨xs, i', u', rfl, rfl, h1⟩ := h
    obtain ⟨env1, e1, hw⟩ := hb j hj (xs.map .p) i' u'
    have hl : xs.length ≤ j := by
      have := h1.length_le
      simpa using this
    refine ⟨env1, e1, wp_mono hw fun d st1 ⟨b, hb1, i2, u2, es, h4⟩ => ⟨b, hb1, ?_⟩⟩
    subst es
    cases b with
    | true =>
      rw [if_pos rfl]
      refine wp_mono (h4 rfl) fun d st2 ⟨i3, u3, ed, es⟩ => ?_
      subst ed es
      refine ⟨_, pen_last _ _ _ _ _, by rw [List.length_map]; exact Nat.lt_of_le_of_lt hl (Nat.lt_of_lt_of_le hj (Nat.le_trans hz (by decide))), xs ++ [f j], i3, u3, by simp, by rw [pen_setLast], ?_⟩
      rw [List.range_succ, List.map_append]
      exact h1.append (List.Sublist.refl _)
    | false =>
      rw [if_neg (by simp)]
      refine ⟨xs.map .p, xs, i2, u2, rfl, rfl, ?_⟩
      rw [List.range_succ, List.map_append]
      exact h1.trans (List.sublist_append_left _ _)
  · obtain ⟨xs, i', u', rfl, rfl, h1⟩ := h
    exact ⟨xs, i', u', rfl, h1⟩
/-! what many laws share -/
theorem qb_elim {P : Bool → Store → Prop} {d : D} {st : Store} (h : QB P d st) : ∃ b, d = .p (.bool b) ∧ P b st := by
  cases d with
  | c n => exact h.elim
  | fn z => exact h.elim
  | p x => cases x with
    | bool b => exact ⟨b, rfl, h⟩
    | _ => exact h.elim
theorem set_lastW (st : Store) (c c' : Cell) : (st ++ [c]).set st.length c' = st ++ [c'] := by
  rw [List.set_append_right _ _ (Nat.le_refl _)]; simp
/-- a comprehension that changes nothing -/
theorem lc_gen {α : Type} {gd : Store → Prop} {base : Store} {tg : MT} {cond elt : MD} {env0 : MP.Env} {X : Exc → Store → Prop} {Q : Unit → Store → Prop} (l : List α) (g : α → Itm) (f : α → Option D) (hg : ∀ acc, gd (base ++ [.lst acc])) (hz : l.length ≤ 1000)
    (hb : ∀ a ∈ l, ∀ acc, ∃ env1, bindI (base ++ [.lst acc]) tg (g a) env0 = some env1 ∧ wpe NoX (cond env1 (base ++ [.lst acc])) (QB fun b st1 => st1 = base ++ [.lst acc] ∧ if b = true then wpe NoX (elt env1 (base ++ [.lst acc])) (fun d st2 => st2 = base ++ [.lst acc] ∧ f a = some d) else f a = none))
    (hq : Q () (base ++ [.lst (l.filterMap f)])) : wpe X (lcL gd base.length tg cond elt env0 (l.map g) (base ++ [.lst []])) Q := by
  refine wp_lc0 (fun j acc st => acc = (l.take j).filterMap f ∧ st = base ++ [.lst acc]) ⟨rfl, rfl⟩ (fun j acc st h => ?_) (fun j acc st h => ?_) (fun j hj acc st h => ?_) (fun acc st h => ?_)
  · obtain ⟨_, rfl⟩ := h
    unfold cellL
    rw [List.getElem?_concat_length]
  · obtain ⟨_, rfl⟩ := h
    exact hg acc
  · obtain ⟨rfl, rfl⟩ := h
    rw [List.length_map] at hj
    obtain ⟨env1, e1, hw⟩ := hb l[j] (List.getElem_mem hj) ((l.take j).filterMap f)
    refine ⟨env1, by rw [List.getElem_map]; exact e1, wp_mono hw fun d st1 hd => ?_⟩
    obtain ⟨b, rfl, es, hb2⟩ := qb_elim hd
    subst es
    rw [QT1_bool]
    have hl : ((l.take j).filterMap f).length ≤ j := Nat.le_trans (List.length_filterMap_le _ _) (by rw [List.length_take]; omega)
    have hstep : (l.take (j + 1)).filterMap f = (l.take j).filterMap f ++ [l[j]].filterMap f := by
      rw [List.take_succ_eq_append_getElem hj, List.filterMap_append]
    cases b with
    | false =>
      rw [if_neg (by simp)] at hb2 ⊢
      refine ⟨_, ?_, rfl⟩
      rw [hstep]
      simp [hb2]
    | true =>
      rw [if_pos rfl] at hb2 ⊢
      refine wp_mono hb2 fun d st2 ⟨es, ex⟩ => ?_
      subst es
      refine ⟨(l.take j).filterMap f, ?_, ?_, ?_, ?_⟩
      · unfold cellL
        rw [List.getElem?_concat_length]
      · exact Nat.lt_of_le_of_lt (show ((l.take j).filterMap f).length ≤ 1000 by omega) (by decide)
      · rw [hstep]
        simp [ex]
      · rw [set_lastW]
  · obtain ⟨rfl, rfl⟩ := h
    rw [List.length_map, List.take_length]
    exact hq
theorem town_ixW (hs gs : List Str) (st : Store) : ixD (.p (townD hs gs)) (.p (.int 0)) st = .ok (.p (.tuple (hs.map .str))) st := MP.nr rfl
theorem town_ixW1 (hs gs : List Str) (st : Store) : ixD (.p (townD hs gs)) (.p (.int 1)) st = .ok (.p (.tuple (gs.map .str))) st := MP.nr rfl
theorem house_ixW {hs : List Str} {x : Int} (st : Store) (h0 : 0 ≤ x) (h1 : x < hs.length) : ∃ h ∈ hs, ixD (.p (.tuple (hs.map .str))) (.p (.int x)) st = .ok (.p (.str h)) st := by
  obtain ⟨a, h, e⟩ := ixT_in (l := hs.map PyData.str) st h0 (by rw [List.length_map]; exact h1)
  obtain ⟨y, hy, rfl⟩ := List.mem_map.mp h
  exact ⟨y, hy, e⟩
theorem cellL_of {st : Store} {n : Nat} {ds : List D} (h : st[n]? = some (.lst ds)) : cellL st n = some ds := by
  unfold cellL
  simp only [h]
theorem e_lcT (n : Nat) (st : Store) : lcEnd true n st = .ok (.c n) st := MP.nr rfl
theorem e_intB (b : Bool) (st : Store) : bi1D .int (.p (.bool b)) st = .ok (.p (.int (if b = true then 1 else 0))) st := MP.nr rfl
theorem npW_put {s : Store} {n : Nat} {c : Cell} (h : noPT s = true) (hc : noPT [c] = true) : noPT (s.set n c) = true := by
  unfold noPT at h ⊢
  rw [List.all_eq_true]
  intro x hx
  rcases List.mem_or_eq_of_mem_set hx with h1 | h1
  · exact List.all_eq_true.mp h x h1
  · subst h1
    exact List.all_eq_true.mp hc _ List.mem_cons_self
theorem npW_app {s r : Store} (h : noPT s = true) (hc : noPT r = true) : noPT (s ++ r) = true := by
  unfold noPT at h hc ⊢
  rw [List.all_append, Bool.and_eq_true]
  exact ⟨h, hc⟩
theorem npW_pen {cs : List Int} {i : Nat} {v : Int} {y : Store} : noPT (pen cs i v ++ y) = noPT y := by
  unfold noPT
  rw [List.all_append]
  rfl

/-! rows -/
inductive Row (hs : List Str) : PyData → Prop
  | ask (h g : Str) (n1 n2 o b : Int) (hh : h ∈ hs) (hg : g ∈ hs) (h1 : 0 ≤ n1 ∧ n1 ≤ 14) (h2 : 0 ≤ n2 ∧ n2 ≤ 14) (ho : -1000000000000 ≤ o) (hob : o ≤ b) (hb : b ≤ 1000000000000) : Row hs (.tuple [.str "ask", .str h, .int n1, .int n2, .str g, .int o, .int b])
  | job (h : Str) (n o b : Int) (hh : h ∈ hs) (h1 : 0 ≤ n ∧ n ≤ 14) (ho : -1000000000000 ≤ o) (hob : o ≤ b) (hb : b ≤ 1000000000000) : Row hs (.tuple [.str "job", .str h, .int n, .int o, .int b])
  | all (h : Str) (c1 c2 : Int) (hh : h ∈ hs) (h1 : 0 ≤ c1 ∧ c1 ≤ 15) (h2 : 0 ≤ c2 ∧ c2 ≤ 15) : Row hs (.tuple [.str "all", .str h, .int c1, .int c2])
section
variable {cs : List Int} {i : Nat} {v : Int} {ex : Store}
theorem gc_p (cs' : List Int) (j : Nat) (u : Int) : gc (pen cs i v ++ ex).length (pen cs' j u ++ ex) = pen cs' j u ++ ex := gc_pen0 (pen_len cs i v ex)
theorem town_ix (hs gs : List Str) (st : Store) : ixD (.p (townD hs gs)) (.p (.int 0)) st = .ok (.p (.tuple (hs.map .str))) st := nr rfl
theorem house_ix {hs : List Str} {x : Int} (st : Store) (h0 : 0 ≤ x) (h1 : x < (hs.map PyData.str).length) : ∃ h ∈ hs, ixD (.p (.tuple (hs.map .str))) (.p (.int x)) st = .ok (.p (.str h)) st := by
  obtain ⟨a, h, e⟩ := ixT_in st h0 h1
  obtain ⟨y, hy, rfl⟩ := List.mem_map.mp h
  exact ⟨y, hy, e⟩
end

/-! drawn rows -/
section
variable {cs : List Int} {i : Nat} {v : Int} {ex : Store}
theorem number_ok (k : Nat) : wpe NoX (semK defs (k + 3) 3 [.c 1] (pen cs i v ++ ex)) fun d st' => ∃ (x : Int) (j : Nat) (u : Int), 0 ≤ x ∧ x ≤ 14 ∧ d = .p (.int x) ∧ st' = pen cs j u ++ ex := by
  refine wp_sem (d := d3) rfl rfl ?_
  simp only [d3, b3, e_svs_cons, e_svs_nil, e_sv_ife, e_sv_ret, e_sv_retN, e_sv_set, e_sv_setIx, e_sv_setLc, e_sv_app, e_sv_ex, e_sv_loop, e_sv_pass, e_ev_var, e_ev_lit, e_ev_glb, e_ev_gix, e_ev_bin, e_ev_neg, e_ev_not, w_and, w_or, QT2_bool, QB_bool, e_ev_one, e_ev_cmp, w_cmp2, e_ev_ife, e_ev_tup, e_mkT, e_ev_lst, e_ev_frz, e_ev_rev, e_ev_dct, e_ev_mcall, e_ev_callD, e_ev_callT, e_sv_tryS, e_sv_raise, e_sv_setFld, e_sv_lock, e_ev_fld, e_ev_meth, e_ev_new, e_tbv_ex, e_tbv_set, e_tbv_ife, e_tbv_exSet, e_sv_brk, e_sv_cont, wp_catch, e_evc_none, e_evc_some, e_ev_ix, e_ev_sl, e_ev_bi, e_ev_mx2, e_ev_mxd, e_ev_dget, e_ev_dpop, e_ev_clr, e_ev_split, e_ev_fnv, e_ev_callV, e_ev_slc, e_ev_gin, e_ev_gixIn, e_ev_isi, e_ev_mkx, e_ev_xfl, e_ev_isx, e_ev_sset, e_ev_lset, e_ev_stp, e_ev_call, e_ev_join, e_ev_lc, e_evs_nil, e_evs_cons, e_evo_none, e_evo_some, e_evi_seq, e_evi_rng1, e_evi_rng2, e_evi_enum, e_evi_zip, e_evi_view, e_evi_rev, env0, varD, e_b_nm, e_b_tT, e_b_tL, e_b_nil, e_b_cons, wp_bind, wp_then, wp_ok, wp_truR, wp_finP, QF_nx, QF_rt, QE1_rt, QE1_nx, QT1_bool, List.map, List.length, List.replicate, List.getElem?_cons_zero, List.getElem?_cons_succ, List.set, Nat.reduceSub, List.cons_append, List.nil_append, Nat.reduceAdd, wp_ite, e_mkLT, tru_b, seqI_L, seqI_T, pures_p, pures_nil, Option.map_some, Option.bind_some, if_true, sz_0, sz_1, sz_2, sz_3, sz_4, sz_5, sz_6, sz_7, sz_8, sz_9, sz_10, sz_11, sz_12, sz_13, sz_14, sz_15, sz_16, sz_17, sz_18, sz_19, sz_20, sz_21, sz_22, sz_23, sz_24, sz_25, sz_26, sz_27, sz_28, sz_29, sz_30, sz_31, sz_32, sz_33, sz_34, sz_35, sz_36, sz_37, sz_38, sz_39, sz_40]
  refine take_then k (by decide) (by decide) fun x i1 u1 x0 x1 => ?_
  simp only [e_mkL3, e_svs_cons, e_svs_nil, e_sv_ife, e_sv_ret, e_sv_retN, e_sv_set, e_sv_setIx, e_sv_setLc, e_sv_app, e_sv_ex, e_sv_loop, e_sv_pass, e_ev_var, e_ev_lit, e_ev_glb, e_ev_gix, e_ev_bin, e_ev_neg, e_ev_not, w_and, w_or, QT2_bool, QB_bool, e_ev_one, e_ev_cmp, w_cmp2, e_ev_ife, e_ev_tup, e_mkT, e_ev_lst, e_ev_frz, e_ev_rev, e_ev_dct, e_ev_mcall, e_ev_callD, e_ev_callT, e_sv_tryS, e_sv_raise, e_sv_setFld, e_sv_lock, e_ev_fld, e_ev_meth, e_ev_new, e_tbv_ex, e_tbv_set, e_tbv_ife, e_tbv_exSet, e_sv_brk, e_sv_cont, wp_catch, e_evc_none, e_evc_some, e_ev_ix, e_ev_sl, e_ev_bi, e_ev_mx2, e_ev_mxd, e_ev_dget, e_ev_dpop, e_ev_clr, e_ev_split, e_ev_fnv, e_ev_callV, e_ev_slc, e_ev_gin, e_ev_gixIn, e_ev_isi, e_ev_mkx, e_ev_xfl, e_ev_isx, e_ev_sset, e_ev_lset, e_ev_stp, e_ev_call, e_ev_join, e_ev_lc, e_evs_nil, e_evs_cons, e_evo_none, e_evo_some, e_evi_seq, e_evi_rng1, e_evi_rng2, e_evi_enum, e_evi_zip, e_evi_view, e_evi_rev, env0, varD, e_b_nm, e_b_tT, e_b_tL, e_b_nil, e_b_cons, wp_bind, wp_then, wp_ok, wp_truR, wp_finP, QF_nx, QF_rt, QE1_rt, QE1_nx, QT1_bool, List.map, List.length, List.replicate, List.getElem?_cons_zero, List.getElem?_cons_succ, List.set, Nat.reduceSub, List.cons_append, List.nil_append, Nat.reduceAdd, wp_ite, e_mkLT, tru_b, seqI_L, seqI_T, pures_p, pures_nil, Option.map_some, Option.bind_some, if_true, sz_0, sz_1, sz_2, sz_3, sz_4, sz_5, sz_6, sz_7, sz_8, sz_9, sz_10, sz_11, sz_12, sz_13, sz_14, sz_15, sz_16, sz_17, sz_18, sz_19, sz_20, sz_21, sz_22, sz_23, sz_24, sz_25, sz_26, sz_27, sz_28, sz_29, sz_30, sz_31, sz_32, sz_33, sz_34, sz_35, sz_36, sz_37, sz_38, sz_39, sz_40]
  refine take_then k (by decide) (by decide) fun y i2 u2 y0 y1 => ?_
  obtain ⟨a, ha, e⟩ := ixL_in (l := [.int 0, .int 14, .int x]) (pen cs i2 u2 ++ ex) y0 y1
  rw [e, wp_ok]
  try simp only [e_svs_cons, e_svs_nil, e_sv_ife, e_sv_ret, e_sv_retN, e_sv_set, e_sv_setIx, e_sv_setLc, e_sv_app, e_sv_ex, e_sv_loop, e_sv_pass, e_ev_var, e_ev_lit, e_ev_glb, e_ev_gix, e_ev_bin, e_ev_neg, e_ev_not, w_and, w_or, QT2_bool, QB_bool, e_ev_one, e_ev_cmp, w_cmp2, e_ev_ife, e_ev_tup, e_mkT, e_ev_lst, e_ev_frz, e_ev_rev, e_ev_dct, e_ev_mcall, e_ev_callD, e_ev_callT, e_sv_tryS, e_sv_raise, e_sv_setFld, e_sv_lock, e_ev_fld, e_ev_meth, e_ev_new, e_tbv_ex, e_tbv_set, e_tbv_ife, e_tbv_exSet, e_sv_brk, e_sv_cont, wp_catch, e_evc_none, e_evc_some, e_ev_ix, e_ev_sl, e_ev_bi, e_ev_mx2, e_ev_mxd, e_ev_dget, e_ev_dpop, e_ev_clr, e_ev_split, e_ev_fnv, e_ev_callV, e_ev_slc, e_ev_gin, e_ev_gixIn, e_ev_isi, e_ev_mkx, e_ev_xfl, e_ev_isx, e_ev_sset, e_ev_lset, e_ev_stp, e_ev_call, e_ev_join, e_ev_lc, e_evs_nil, e_evs_cons, e_evo_none, e_evo_some, e_evi_seq, e_evi_rng1, e_evi_rng2, e_evi_enum, e_evi_zip, e_evi_view, e_evi_rev, env0, varD, e_b_nm, e_b_tT, e_b_tL, e_b_nil, e_b_cons, wp_bind, wp_then, wp_ok, wp_truR, wp_finP, QF_nx, QF_rt, QE1_rt, QE1_nx, QT1_bool, List.map, List.length, List.replicate, List.getElem?_cons_zero, List.getElem?_cons_succ, List.set, Nat.reduceSub, List.cons_append, List.nil_append, Nat.reduceAdd, wp_ite, e_mkLT, tru_b, seqI_L, seqI_T, pures_p, pures_nil, Option.map_some, Option.bind_some, if_true, sz_0, sz_1, sz_2, sz_3, sz_4, sz_5, sz_6, sz_7, sz_8, sz_9, sz_10, sz_11, sz_12, sz_13, sz_14, sz_15, sz_16, sz_17, sz_18, sz_19, sz_20, sz_21, sz_22, sz_23, sz_24, sz_25, sz_26, sz_27, sz_28, sz_29, sz_30, sz_31, sz_32, sz_33, sz_34, sz_35, sz_36, sz_37, sz_38, sz_39, sz_40]
  rw [gc_p]
  simp only [List.mem_cons, List.not_mem_nil, or_false] at ha
  rcases ha with rfl | rfl | rfl
  · exact ⟨_, _, _, by decide, by decide, rfl, rfl⟩
  · exact ⟨_, _, _, by decide, by decide, rfl, rfl⟩
  · exact ⟨_, _, _, x0, by omega, rfl, rfl⟩
theorem number_then (k : Nat) {Q : D → Store → Prop} (h : ∀ (x : Int) (j : Nat) (u : Int), 0 ≤ x → x ≤ 14 → Q (.p (.int x)) (pen cs j u ++ ex)) : wpe NoX (semK defs (k + 3) 3 [.c 1] (pen cs i v ++ ex)) Q :=
  wp_mono (number_ok k) (by rintro _ _ ⟨x, j, u, h0, h1, rfl, rfl⟩; exact h x j u h0 h1)
end
section
variable {cs : List Int} {i : Nat} {v : Int} {ex : Store}
end

/-! stores that are closed -/
theorem clo_of {cs : List Int} {i : Nat} {u : Int} {ex : Store} (h : OkEx ex) : Clo (pen cs i u ++ ex) := by
  unfold Clo
  rw [pen_len, List.all_append, Bool.and_eq_true]
  refine ⟨?_, h⟩
  have : 0 < 2 + ex.length := by omega
  simp [pen, cellBelow, dBelow, this]
theorem clo_snoc {st : Store} {c : Cell} (h : Clo st) (hb : cellBelow (st.length + 1) c = true) : Clo (st ++ [c]) := by
  unfold Clo at h ⊢
  rw [List.length_append, List.length_singleton, List.all_eq_true]
  intro x hx
  rcases List.mem_append.mp hx with hx | hx
  · exact cellBelow_mono (by omega) (List.all_eq_true.mp h x hx)
  · rw [List.mem_singleton.mp hx]; exact hb
theorem clo_setW {s : Store} {n : Nat} {c : Cell} (h : Clo s) (hb : cellBelow s.length c = true) : Clo (s.set n c) := by
  unfold Clo at h ⊢
  rw [List.length_set, List.all_eq_true]
  intro x hx
  rcases List.mem_or_eq_of_mem_set hx with h1 | h1
  · exact List.all_eq_true.mp h x h1
  · subst h1; exact hb
theorem lcEnd_clW {st : Store} (hc : Clo st) (xs : List PyData) : lcEnd false st.length (st ++ [.lst (xs.map .p)]) = .ok (.p (.list xs)) st := by
  unfold lcEnd
  have h1 : cellL (st ++ [Cell.lst (xs.map .p)]) st.length = some (xs.map .p) := cellL_of (List.getElem?_concat_length ..)
  simp only [h1, pures_map, set_lastW]
  rw [gc_cl hc]

/-! comprehensions -/
theorem lc_range {st : Store} (hc : Clo st) {N : Nat} (hN : N ≤ 900) {v : Nat} {elt : ME} {env : MP.Env} {G : Sem1} {f : Nat → PyData} {X : Exc → Store → Prop} {Q : D → Store → Prop}
    (helt : ∀ i, i < N → ∀ S, ev G elt (env.set v (some (.p (.int (i : Nat))))) S = .ok (.p (f i)) S)
    (hq : Q (.p (.list ((List.range N).map f))) st) :
    wpe X (lcL (fun _ => True) st.length (.nm v) (evc G .none) (ev G elt) env ((List.range N).map fun (i : Nat) => .one (.p (.int (i : Int)))) (st ++ [.lst []])) (fun _ st2 => wpe X (lcEnd false st.length st2) Q) := by
  refine lc_gen (List.range N) _ (fun i => some (D.p (f i))) (fun acc => trivial) (by rw [List.length_range]; omega) (fun i hi acc => ?_) ?_
  · refine ⟨_, rfl, ?_⟩
    rw [e_evc_none, wp_ok, QB_bool]
    refine ⟨rfl, ?_⟩
    rw [if_pos rfl, helt i (List.mem_range.mp hi), wp_ok]
    exact ⟨rfl, rfl⟩
  · have e : (List.range N).filterMap (fun i => some (D.p (f i))) = ((List.range N).map f).map .p := by
      rw [List.map_map]
      generalize List.range N = l
      induction l with
      | nil => rfl
      | cons a r ih => rw [List.filterMap_cons]; simpa using ih
    rw [e, lcEnd_clW hc, wp_ok]
    exact hq
theorem list_bJ (xs : List PyData) (k : Nat) : cellBelow k (.lst (xs.map .p)) = true := by simp [cellBelow, dBelow]
/-- a comprehension whose test makes things that are let go -/
theorem lc_junk {α : Type} {base : Store} {tg : MT} {cond elt : MD} {env0 : MP.Env} {X : Exc → Store → Prop} {Q : D → Store → Prop} (hc : Clo base) (l : List α) (g : α → Itm) (f : α → Option PyData) (hz : l.length ≤ 1000)
    (hb : ∀ a ∈ l, ∀ S, Clo S → ∃ env1, bindI S tg (g a) env0 = some env1 ∧ wpe NoX (cond env1 S) (QB fun b S' => (∃ ex, S' = S ++ ex) ∧ Clo S' ∧ if b = true then wpe NoX (elt env1 S') (fun d S2 => S2 = S' ∧ ∃ x, d = .p x ∧ f a = some x) else f a = none))
    (hq : Q (.p (.list (l.filterMap f))) base) : wpe X (lcL (fun _ => True) base.length tg cond elt env0 (l.map g) (base ++ [.lst []])) (fun _ st2 => wpe X (lcEnd false base.length st2) Q) := by
  have cell : ∀ acc ex, (base ++ Cell.lst acc :: ex)[base.length]? = some (.lst acc) := fun acc ex => by rw [List.getElem?_append_right (Nat.le_refl _), Nat.sub_self]; rfl
  have sett : ∀ acc ex c, (base ++ Cell.lst acc :: ex).set base.length c = base ++ c :: ex := fun acc ex c => by rw [List.set_append_right _ _ (Nat.le_refl _), Nat.sub_self]; rfl
  refine wp_lc0 (fun j acc st => acc = ((l.take j).filterMap f).map D.p ∧ Clo st ∧ ∃ ex, st = base ++ .lst acc :: ex) ⟨rfl, clo_snoc hc (by simp [cellBelow]), [], rfl⟩ (fun j acc st h => ?_) (fun j acc st h => trivial) (fun j hj acc st h => ?_) (fun acc st h => ?_)
  · obtain ⟨_, _, ex, rfl⟩ := h
    exact cellL_of (cell _ _)
  · obtain ⟨rfl, hcl, ex, rfl⟩ := h
    rw [List.length_map] at hj
    obtain ⟨env1, e1, hw⟩ := hb l[j] (List.getElem_mem hj) _ hcl
    refine ⟨env1, by rw [List.getElem_map]; exact e1, wp_mono hw fun d st1 hd => ?_⟩
    obtain ⟨b, rfl, ⟨ex2, es⟩, hcl2, hb2⟩ := qb_elim hd
    subst es
    rw [QT1_bool]
    have hl : ((l.take j).filterMap f).length ≤ j := Nat.le_trans (List.length_filterMap_le _ _) (by rw [List.length_take]; omega)
    have hstep : (l.take (j + 1)).filterMap f = (l.take j).filterMap f ++ [l[j]].filterMap f := by
      rw [List.take_succ_eq_append_getElem hj, List.filterMap_append]
    have eapp : ∀ acc : List D, base ++ Cell.lst acc :: ex ++ ex2 = base ++ Cell.lst acc :: (ex ++ ex2) := fun acc => by rw [List.append_assoc, List.cons_append]
    cases b with
    | false =>
      rw [if_neg (by simp)] at hb2 ⊢
      refine ⟨_, ?_, hcl2, ex ++ ex2, eapp _⟩
      rw [hstep]
      simp [hb2]
    | true =>
      rw [if_pos rfl] at hb2 ⊢
      refine wp_mono hb2 fun d st2 ⟨es, x, ed, ex'⟩ => ?_
      subst es ed
      refine ⟨((l.take j).filterMap f).map D.p, ?_, ?_, ?_, ?_, ex ++ ex2, ?_⟩
      · rw [eapp]; exact cellL_of (cell _ _)
      · rw [List.length_map]
        exact Nat.lt_of_le_of_lt (show ((l.take j).filterMap f).length ≤ 1000 by omega) (by decide)
      · rw [hstep]
        simp [ex']
      · refine clo_setW hcl2 ?_
        have e := list_bJ ((l.take j).filterMap f ++ [x]) (base ++ Cell.lst (((l.take j).filterMap f).map D.p) :: ex ++ ex2).length
        rwa [List.map_append] at e
      · rw [eapp, sett]
  · obtain ⟨rfl, hcl, ex, rfl⟩ := h
    rw [List.length_map, List.take_length]
    unfold lcEnd
    simp only [cellL_of (cell _ _), pures_map, sett]
    rw [wp_ok, gc_cl hc]
    exact hq
theorem in_iK {n : Nat} {st : Store} {kvs : List (Key × D)} (h : st[n]? = some (.dct kvs)) (i : Int) : cmpD .NotIn (.p (.int i)) (.c n) st = .ok (.p (.bool (!(valD kvs (.inl i)).isSome))) st := by
  have e : dictOf (.c n) st = some kvs := by
    unfold dictOf
    simp only [h]
  show inD true _ _ st = _
  unfold inD isDict lookD
  simp only [e, Option.isSome_some, Bool.true_or, if_true, show keyOf (.p (.int i)) = some (.inl i) from rfl, Option.map_some]
theorem lc_junk_p {α : Type} {base : Store} {tg : MT} {cond elt : ME} {G : Sem1} {env0 : MP.Env} {X : Exc → Store → Prop} {Q : D → Store → Prop} (hc : Clo base) (l : List α) (g : α → Itm) (p : α → Bool) (f : α → PyData) (hz : l.length ≤ 1000)
    (hb : ∀ a ∈ l, ∀ S, ∃ env1, bindI S tg (g a) env0 = some env1 ∧ wpe NoX (ev G cond env1 S) (fun d S' => d = .p (.bool (p a)) ∧ S' = S) ∧ (p a = true → wpe NoX (ev G elt env1 S) fun d S' => d = .p (f a) ∧ S' = S))
    (hq : Q (.p (.list ((l.filter p).map f))) base) : wpe X (lcL (fun _ => True) base.length tg (evc G (.some cond)) (ev G elt) env0 (l.map g) (base ++ [.lst []])) (fun _ st2 => wpe X (lcEnd false base.length st2) Q) := by
  refine lc_junk hc l g (fun a => if p a = true then some (f a) else none) hz (fun a ha S hS => ?_) ?_
  · obtain ⟨env1, e1, h1, h2⟩ := hb a ha S
    refine ⟨env1, e1, ?_⟩
    rw [e_evc_some]
    refine wp_mono h1 ?_
    rintro _ _ ⟨rfl, rfl⟩
    rw [QB_bool]
    refine ⟨⟨[], by simp⟩, hS, ?_⟩
    by_cases e : p a = true
    · rw [if_pos e]
      refine wp_mono (h2 e) ?_
      rintro _ _ ⟨rfl, rfl⟩
      exact ⟨rfl, _, rfl, if_pos e⟩
    · rw [if_neg e]
      exact if_neg e
  · have e : (l.filterMap fun a => if p a = true then some (f a) else none) = (l.filter p).map f := by
      clear hq hb hz
      induction l with
      | nil => rfl
      | cons a r ih =>
        rw [List.filterMap_cons, List.filter_cons]
        cases p a <;> simpa using ih
    rw [e]
    exact hq

/-! refusals held as values -/
def kl : List Str := ["Clash", "NoAsk", "NoJob", "NoLine", "NoRow", "NoText", "OffTime", "Short", "TooMany"]
def kr : List Str := ["NoRow", "NoText", "Clash", "Short", "OffTime", "NoAsk", "NoJob", "TooMany", "NoLine"]
theorem exv_at {n : Nat} {st : Store} {c : Str} {fs : List (Str × D)} (h : st[n]? = some (.exv c fs)) : exvOf (.c n) st = some (c, fs) := by
  unfold exvOf
  simp only [h]
theorem e_xfl {n : Nat} {st : Store} {c f : Str} {fs : List (Str × D)} {d : D} (h : st[n]? = some (.exv c fs)) (hf : fs.lookup f = some d) : xflD c f (.c n) st = .ok d st := by
  unfold xflD
  simp only [exv_at h, if_true, hf]
theorem e_isxO {x : D} {st : Store} {c : Str} {fs : List (Str × D)} {tb : List (Str × Bool)} {b : Bool} (h : exvOf x st = some (c, fs)) (hb : valN tb c = some b) : isxD tb x st = .ok (.p (.bool b)) st := by
  unfold isxD
  simp only [h, hb]
theorem val_all : ∀ c ∈ kl, valN ([("Clash", true), ("NoAsk", true), ("NoJob", true), ("NoLine", true), ("NoRow", true), ("NoText", true), ("OffTime", true), ("Short", true), ("TooMany", true)] : List (Str × Bool)) c = some true := by decide +kernel
theorem val_0 : ∀ c ∈ kl, valN ([("Clash", false), ("NoAsk", false), ("NoJob", false), ("NoLine", false), ("NoRow", true), ("NoText", false), ("OffTime", false), ("Short", false), ("TooMany", false)] : List (Str × Bool)) c = some (decide (c = ("NoRow" : Str))) := by decide +kernel
theorem val_1 : ∀ c ∈ kl, valN ([("Clash", false), ("NoAsk", false), ("NoJob", false), ("NoLine", false), ("NoRow", false), ("NoText", true), ("OffTime", false), ("Short", false), ("TooMany", false)] : List (Str × Bool)) c = some (decide (c = ("NoText" : Str))) := by decide +kernel
theorem val_2 : ∀ c ∈ kl, valN ([("Clash", true), ("NoAsk", false), ("NoJob", false), ("NoLine", false), ("NoRow", false), ("NoText", false), ("OffTime", false), ("Short", false), ("TooMany", false)] : List (Str × Bool)) c = some (decide (c = ("Clash" : Str))) := by decide +kernel
theorem val_3 : ∀ c ∈ kl, valN ([("Clash", false), ("NoAsk", false), ("NoJob", false), ("NoLine", false), ("NoRow", false), ("NoText", false), ("OffTime", false), ("Short", true), ("TooMany", false)] : List (Str × Bool)) c = some (decide (c = ("Short" : Str))) := by decide +kernel
theorem val_4 : ∀ c ∈ kl, valN ([("Clash", false), ("NoAsk", false), ("NoJob", false), ("NoLine", false), ("NoRow", false), ("NoText", false), ("OffTime", true), ("Short", false), ("TooMany", false)] : List (Str × Bool)) c = some (decide (c = ("OffTime" : Str))) := by decide +kernel
theorem val_5 : ∀ c ∈ kl, valN ([("Clash", false), ("NoAsk", true), ("NoJob", false), ("NoLine", false), ("NoRow", false), ("NoText", false), ("OffTime", false), ("Short", false), ("TooMany", false)] : List (Str × Bool)) c = some (decide (c = ("NoAsk" : Str))) := by decide +kernel
theorem val_6 : ∀ c ∈ kl, valN ([("Clash", false), ("NoAsk", false), ("NoJob", true), ("NoLine", false), ("NoRow", false), ("NoText", false), ("OffTime", false), ("Short", false), ("TooMany", false)] : List (Str × Bool)) c = some (decide (c = ("NoJob" : Str))) := by decide +kernel
theorem val_7 : ∀ c ∈ kl, valN ([("Clash", false), ("NoAsk", false), ("NoJob", false), ("NoLine", false), ("NoRow", false), ("NoText", false), ("OffTime", false), ("Short", false), ("TooMany", true)] : List (Str × Bool)) c = some (decide (c = ("TooMany" : Str))) := by decide +kernel
theorem val_8 : ∀ c ∈ kl, valN ([("Clash", false), ("NoAsk", false), ("NoJob", false), ("NoLine", true), ("NoRow", false), ("NoText", false), ("OffTime", false), ("Short", false), ("TooMany", false)] : List (Str × Bool)) c = some (decide (c = ("NoLine" : Str))) := by decide +kernel
theorem e_frzP (x : PyData) (st : Store) : frzD (.p x) st = .ok (.p x) st := MP.nr rfl
theorem e_frzC {n : Nat} {st : Store} {xs : List PyData} (h : cellL st n = some (xs.map .p)) : frzD (.c n) st = .ok (.p (.list xs)) (st.set n .dead) := by
  unfold frzD
  simp only [h, pures_map]
theorem e_addLs1 (xs ys : List PyData) (h : xs.length + ys.length ≤ 1000) (st : Store) : binD .Add (.p (.list xs)) (.p (.list ys)) st = .ok (.p (.list (xs ++ ys))) st := by
  unfold binD addD
  simp only [items, List.length_map]
  rw [if_pos (sz_le h), ← List.map_append, mkL_p]
theorem sorts_then (k : Nat) {x : D} {st : Store} {c : Str} {fs : List (Str × D)} (h : exvOf x st = some (c, fs)) (hc : c ∈ kl) {X : Exc → Store → Prop} {Q : D → Store → Prop} (hq : Q (.p (.list (kr.map fun d => .bool (decide (c = d))))) st) :
    wpe X (semK defs (k + 1) 5 [x] st) Q := by
  refine wp_sem (d := d5) rfl rfl ?_
  have l3 : ∀ (a b c : PyData) st, mkL false [.p a, .p b, .p c] st = .ok (.p (.list [a, b, c])) st := fun a b c st => e_mkLF [a, b, c] st
  simp only [d5, b5, e_svs_cons, e_svs_nil, e_sv_ife, e_sv_ret, e_sv_retN, e_sv_set, e_sv_setIx, e_sv_setLc, e_sv_app, e_sv_ex, e_sv_loop, e_sv_pass, e_ev_var, e_ev_lit, e_ev_glb, e_ev_gix, e_ev_bin, e_ev_neg, e_ev_not, w_and, w_or, QT2_bool, QB_bool, e_ev_one, e_ev_cmp, w_cmp2, e_ev_ife, e_ev_tup, e_mkT, e_ev_lst, e_ev_frz, e_ev_rev, e_ev_dct, e_ev_mcall, e_ev_callD, e_ev_callT, e_sv_tryS, e_sv_raise, e_sv_setFld, e_sv_lock, e_ev_fld, e_ev_meth, e_ev_new, e_tbv_ex, e_tbv_set, e_tbv_ife, e_tbv_exSet, e_sv_brk, e_sv_cont, wp_catch, e_evc_none, e_evc_some, e_ev_ix, e_ev_sl, e_ev_bi, e_ev_mx2, e_ev_mxd, e_ev_dget, e_ev_dpop, e_ev_clr, e_ev_split, e_ev_fnv, e_ev_callV, e_ev_slc, e_ev_gin, e_ev_gixIn, e_ev_isi, e_ev_mkx, e_ev_xfl, e_ev_isx, e_ev_sset, e_ev_lset, e_ev_stp, e_ev_call, e_ev_join, e_ev_lc, e_evs_nil, e_evs_cons, e_evo_none, e_evo_some, e_evi_seq, e_evi_rng1, e_evi_rng2, e_evi_enum, e_evi_zip, e_evi_view, e_evi_rev, env0, varD, e_b_nm, e_b_tT, e_b_tL, e_b_nil, e_b_cons, wp_bind, wp_then, wp_ok, wp_truR, wp_finP, QF_nx, QF_rt, QE1_rt, QE1_nx, QT1_bool, List.map, List.length, List.replicate, List.getElem?_cons_zero, List.getElem?_cons_succ, List.set, Nat.reduceSub, List.cons_append, List.nil_append, Nat.reduceAdd, wp_ite, e_mkLT, tru_b, seqI_L, seqI_T, pures_p, pures_nil, Option.map_some, Option.bind_some, if_true, sz_0, sz_1, sz_2, sz_3, sz_4, sz_5, sz_6, sz_7, sz_8, sz_9, sz_10, sz_11, sz_12, sz_13, sz_14, sz_15, sz_16, sz_17, sz_18, sz_19, sz_20, sz_21, sz_22, sz_23, sz_24, sz_25, sz_26, sz_27, sz_28, sz_29, sz_30, sz_31, sz_32, sz_33, sz_34, sz_35, sz_36, sz_37, sz_38, sz_39, sz_40, e_isxO h (val_0 c hc), e_isxO h (val_1 c hc), e_isxO h (val_2 c hc), e_isxO h (val_3 c hc), e_isxO h (val_4 c hc), e_isxO h (val_5 c hc), e_isxO h (val_6 c hc), e_isxO h (val_7 c hc), e_isxO h (val_8 c hc), l3, e_addLs1 [_, _, _] [_, _, _] (Nat.le_of_ble_eq_true rfl), e_addLs1 [_, _, _, _, _, _] [_, _, _] (Nat.le_of_ble_eq_true rfl)]
  rw [gc_st]
  exact hq
/-! the same, of any depth -/
theorem plain_memA : ∀ {vs : List PyData}, PyData.plainAll vs = true → ∀ v ∈ vs, v.plain = true
  | a :: r, h, v, hv => by
    have h : (PyData.plain a && PyData.plainAll r) = true := h
    rw [Bool.and_eq_true] at h
    rcases List.mem_cons.mp hv with rfl | hv
    · exact h.1
    · exact plain_memA h.2 v hv
theorem depth_memA {m : Nat} : ∀ {vs : List PyData}, PyData.depthAll vs ≤ m → ∀ v ∈ vs, v.depth ≤ m
  | a :: r, h, v, hv => by
    simp only [PyData.depthAll] at h
    rcases List.mem_cons.mp hv with rfl | hv
    · omega
    · exact depth_memA (vs := r) (by omega) v hv
theorem e_zipTA (xs ys : List PyData) (st : Store) : zipI (.p (.tuple xs)) (.p (.tuple ys)) st = .ok ((xs.zip ys).map fun p => .two (.p p.1) (.p p.2), fun _ => True) st := MP.nr rfl
theorem e_zipLA (xs ys : List PyData) (st : Store) : zipI (.p (.list xs)) (.p (.list ys)) st = .ok (((xs.map D.p).zip (ys.map D.p)).map fun p => .two p.1 p.2, fun st => gdOf (.p (.list xs)) (xs.map .p) st ∧ gdOf (.p (.list ys)) (ys.map .p) st) st := MP.nr rfl
theorem same_all : ∀ (n k : Nat) {x : PyData} (hp : x.plain = true) (hd : x.depth ≤ n) {st : Store} {X : Exc → Store → Prop} {Q : D → Store → Prop} (h : Q (.p (.bool true)) st), wpe X (semK defs (k + n + 1) 4 [.p x, .p x] st) Q := by
  intro n
  induction n with
  | zero =>
    intro k x hp hd st X Q h
    refine wp_sem (d := d4) rfl rfl ?_
    simp only [d4, b4, e_svs_cons, e_svs_nil, e_sv_ife, e_sv_ret, e_sv_retN, e_sv_set, e_sv_setIx, e_sv_setLc, e_sv_app, e_sv_ex, e_sv_loop, e_sv_pass, e_ev_var, e_ev_lit, e_ev_glb, e_ev_gix, e_ev_bin, e_ev_neg, e_ev_not, w_and, w_or, QT2_bool, QB_bool, e_ev_one, e_ev_cmp, w_cmp2, e_ev_ife, e_ev_tup, e_mkT, e_ev_lst, e_ev_frz, e_ev_rev, e_ev_dct, e_ev_mcall, e_ev_callD, e_ev_callT, e_sv_tryS, e_sv_raise, e_sv_setFld, e_sv_lock, e_ev_fld, e_ev_meth, e_ev_new, e_tbv_ex, e_tbv_set, e_tbv_ife, e_tbv_exSet, e_sv_brk, e_sv_cont, wp_catch, e_evc_none, e_evc_some, e_ev_ix, e_ev_sl, e_ev_bi, e_ev_mx2, e_ev_mxd, e_ev_dget, e_ev_dpop, e_ev_clr, e_ev_split, e_ev_fnv, e_ev_callV, e_ev_slc, e_ev_gin, e_ev_gixIn, e_ev_isi, e_ev_mkx, e_ev_xfl, e_ev_isx, e_ev_sset, e_ev_lset, e_ev_stp, e_ev_call, e_ev_join, e_ev_lc, e_evs_nil, e_evs_cons, e_evo_none, e_evo_some, e_evi_seq, e_evi_rng1, e_evi_rng2, e_evi_enum, e_evi_zip, e_evi_view, e_evi_rev, env0, varD, e_b_nm, e_b_tT, e_b_tL, e_b_nil, e_b_cons, wp_bind, wp_then, wp_ok, wp_truR, wp_finP, QF_nx, QF_rt, QE1_rt, QE1_nx, QT1_bool, List.map, List.length, List.replicate, List.getElem?_cons_zero, List.getElem?_cons_succ, List.set, Nat.reduceSub, List.cons_append, List.nil_append, Nat.reduceAdd, wp_ite, e_mkLT, tru_b, seqI_L, seqI_T, pures_p, pures_nil, Option.map_some, Option.bind_some, if_true, sz_0, sz_1, sz_2, sz_3, sz_4, sz_5, sz_6, sz_7, sz_8, sz_9, sz_10, sz_11, sz_12, sz_13, sz_14, sz_15, sz_16, sz_17, sz_18, sz_19, sz_20, sz_21, sz_22, sz_23, sz_24, sz_25, sz_26, sz_27, sz_28, sz_29, sz_30, sz_31, sz_32, sz_33, sz_34, sz_35, sz_36, sz_37, sz_38, sz_39, sz_40, e_isN, e_isK, e_isInt hp, e_isBool hp, e_isStr hp]
    cases x with
    | none => simpa [isC, gc_st] using h
    | bool b => cases b <;> simpa [isC, gc_st] using h
    | int n =>
      simp only [isC, Bool.false_eq_true, if_false, MP.isInt, isBool, Bool.not_false, e_svs_cons, e_svs_nil, e_sv_ife, e_sv_ret, e_sv_retN, e_sv_set, e_sv_setIx, e_sv_setLc, e_sv_app, e_sv_ex, e_sv_loop, e_sv_pass, e_ev_var, e_ev_lit, e_ev_glb, e_ev_gix, e_ev_bin, e_ev_neg, e_ev_not, w_and, w_or, QT2_bool, QB_bool, e_ev_one, e_ev_cmp, w_cmp2, e_ev_ife, e_ev_tup, e_mkT, e_ev_lst, e_ev_frz, e_ev_rev, e_ev_dct, e_ev_mcall, e_ev_callD, e_ev_callT, e_sv_tryS, e_sv_raise, e_sv_setFld, e_sv_lock, e_ev_fld, e_ev_meth, e_ev_new, e_tbv_ex, e_tbv_set, e_tbv_ife, e_tbv_exSet, e_sv_brk, e_sv_cont, wp_catch, e_evc_none, e_evc_some, e_ev_ix, e_ev_sl, e_ev_bi, e_ev_mx2, e_ev_mxd, e_ev_dget, e_ev_dpop, e_ev_clr, e_ev_split, e_ev_fnv, e_ev_callV, e_ev_slc, e_ev_gin, e_ev_gixIn, e_ev_isi, e_ev_mkx, e_ev_xfl, e_ev_isx, e_ev_sset, e_ev_lset, e_ev_stp, e_ev_call, e_ev_join, e_ev_lc, e_evs_nil, e_evs_cons, e_evo_none, e_evo_some, e_evi_seq, e_evi_rng1, e_evi_rng2, e_evi_enum, e_evi_zip, e_evi_view, e_evi_rev, env0, varD, e_b_nm, e_b_tT, e_b_tL, e_b_nil, e_b_cons, wp_bind, wp_then, wp_ok, wp_truR, wp_finP, QF_nx, QF_rt, QE1_rt, QE1_nx, QT1_bool, List.map, List.length, List.replicate, List.getElem?_cons_zero, List.getElem?_cons_succ, List.set, Nat.reduceSub, List.cons_append, List.nil_append, Nat.reduceAdd, wp_ite, e_mkLT, tru_b, seqI_L, seqI_T, pures_p, pures_nil, Option.map_some, Option.bind_some, if_true, sz_0, sz_1, sz_2, sz_3, sz_4, sz_5, sz_6, sz_7, sz_8, sz_9, sz_10, sz_11, sz_12, sz_13, sz_14, sz_15, sz_16, sz_17, sz_18, sz_19, sz_20, sz_21, sz_22, sz_23, sz_24, sz_25, sz_26, sz_27, sz_28, sz_29, sz_30, sz_31, sz_32, sz_33, sz_34, sz_35, sz_36, sz_37, sz_38, sz_39, sz_40, e_eqi, beq_self_eq_true, gc_st]
      exact h
    | str z =>
      simp only [isC, Bool.false_eq_true, if_false, MP.isInt, isStr, e_svs_cons, e_svs_nil, e_sv_ife, e_sv_ret, e_sv_retN, e_sv_set, e_sv_setIx, e_sv_setLc, e_sv_app, e_sv_ex, e_sv_loop, e_sv_pass, e_ev_var, e_ev_lit, e_ev_glb, e_ev_gix, e_ev_bin, e_ev_neg, e_ev_not, w_and, w_or, QT2_bool, QB_bool, e_ev_one, e_ev_cmp, w_cmp2, e_ev_ife, e_ev_tup, e_mkT, e_ev_lst, e_ev_frz, e_ev_rev, e_ev_dct, e_ev_mcall, e_ev_callD, e_ev_callT, e_sv_tryS, e_sv_raise, e_sv_setFld, e_sv_lock, e_ev_fld, e_ev_meth, e_ev_new, e_tbv_ex, e_tbv_set, e_tbv_ife, e_tbv_exSet, e_sv_brk, e_sv_cont, wp_catch, e_evc_none, e_evc_some, e_ev_ix, e_ev_sl, e_ev_bi, e_ev_mx2, e_ev_mxd, e_ev_dget, e_ev_dpop, e_ev_clr, e_ev_split, e_ev_fnv, e_ev_callV, e_ev_slc, e_ev_gin, e_ev_gixIn, e_ev_isi, e_ev_mkx, e_ev_xfl, e_ev_isx, e_ev_sset, e_ev_lset, e_ev_stp, e_ev_call, e_ev_join, e_ev_lc, e_evs_nil, e_evs_cons, e_evo_none, e_evo_some, e_evi_seq, e_evi_rng1, e_evi_rng2, e_evi_enum, e_evi_zip, e_evi_view, e_evi_rev, env0, varD, e_b_nm, e_b_tT, e_b_tL, e_b_nil, e_b_cons, wp_bind, wp_then, wp_ok, wp_truR, wp_finP, QF_nx, QF_rt, QE1_rt, QE1_nx, QT1_bool, List.map, List.length, List.replicate, List.getElem?_cons_zero, List.getElem?_cons_succ, List.set, Nat.reduceSub, List.cons_append, List.nil_append, Nat.reduceAdd, wp_ite, e_mkLT, tru_b, seqI_L, seqI_T, pures_p, pures_nil, Option.map_some, Option.bind_some, if_true, sz_0, sz_1, sz_2, sz_3, sz_4, sz_5, sz_6, sz_7, sz_8, sz_9, sz_10, sz_11, sz_12, sz_13, sz_14, sz_15, sz_16, sz_17, sz_18, sz_19, sz_20, sz_21, sz_22, sz_23, sz_24, sz_25, sz_26, sz_27, sz_28, sz_29, sz_30, sz_31, sz_32, sz_33, sz_34, sz_35, sz_36, sz_37, sz_38, sz_39, sz_40, e_eqs, beq_self_eq_true, gc_st]
      exact h
    | list vs => simp [PyData.depth] at hd
    | tuple vs => simp [PyData.depth] at hd
    | dict kvs => cases hp
  | succ m ih =>
    intro k x hp hd st X Q h
    cases x with
    | dict kvs => cases hp
    | tuple vs =>
      have h1 := plain_memA (show PyData.plainAll vs = true from hp)
      have h2 := depth_memA (m := m) (vs := vs) (by simp only [PyData.depth] at hd; omega)
      refine wp_sem (d := d4) rfl rfl ?_
      simp only [d4, b4, e_svs_cons, e_svs_nil, e_sv_ife, e_sv_ret, e_sv_retN, e_sv_set, e_sv_setIx, e_sv_setLc, e_sv_app, e_sv_ex, e_sv_loop, e_sv_pass, e_ev_var, e_ev_lit, e_ev_glb, e_ev_gix, e_ev_bin, e_ev_neg, e_ev_not, w_and, w_or, QT2_bool, QB_bool, e_ev_one, e_ev_cmp, w_cmp2, e_ev_ife, e_ev_tup, e_mkT, e_ev_lst, e_ev_frz, e_ev_rev, e_ev_dct, e_ev_mcall, e_ev_callD, e_ev_callT, e_sv_tryS, e_sv_raise, e_sv_setFld, e_sv_lock, e_ev_fld, e_ev_meth, e_ev_new, e_tbv_ex, e_tbv_set, e_tbv_ife, e_tbv_exSet, e_sv_brk, e_sv_cont, wp_catch, e_evc_none, e_evc_some, e_ev_ix, e_ev_sl, e_ev_bi, e_ev_mx2, e_ev_mxd, e_ev_dget, e_ev_dpop, e_ev_clr, e_ev_split, e_ev_fnv, e_ev_callV, e_ev_slc, e_ev_gin, e_ev_gixIn, e_ev_isi, e_ev_mkx, e_ev_xfl, e_ev_isx, e_ev_sset, e_ev_lset, e_ev_stp, e_ev_call, e_ev_join, e_ev_lc, e_evs_nil, e_evs_cons, e_evo_none, e_evo_some, e_evi_seq, e_evi_rng1, e_evi_rng2, e_evi_enum, e_evi_zip, e_evi_view, e_evi_rev, env0, varD, e_b_nm, e_b_tT, e_b_tL, e_b_nil, e_b_cons, wp_bind, wp_then, wp_ok, wp_truR, wp_finP, QF_nx, QF_rt, QE1_rt, QE1_nx, QT1_bool, List.map, List.length, List.replicate, List.getElem?_cons_zero, List.getElem?_cons_succ, List.set, Nat.reduceSub, List.cons_append, List.nil_append, Nat.reduceAdd, wp_ite, e_mkLT, tru_b, seqI_L, seqI_T, pures_p, pures_nil, Option.map_some, Option.bind_some, if_true, sz_0, sz_1, sz_2, sz_3, sz_4, sz_5, sz_6, sz_7, sz_8, sz_9, sz_10, sz_11, sz_12, sz_13, sz_14, sz_15, sz_16, sz_17, sz_18, sz_19, sz_20, sz_21, sz_22, sz_23, sz_24, sz_25, sz_26, sz_27, sz_28, sz_29, sz_30, sz_31, sz_32, sz_33, sz_34, sz_35, sz_36, sz_37, sz_38, sz_39, sz_40, e_isN, e_isK, e_isInt hp, e_isBool hp, e_isStr hp, e_isTuple hp, e_isList hp, e_neb, isC, Bool.false_eq_true, if_false, MP.isInt, isStr, isTuple, isList, beq_self_eq_true, Bool.not_true, e_lenT, e_nei, e_zipTA]
      refine wp_for0 (fun j env s => s = st ∧ ∃ (x2 x3 : Option D), env = [some (.p (.tuple vs)), some (.p (.tuple vs)), x2, x3]) ⟨rfl, _, _, rfl⟩ (fun _ _ _ _ => trivial) (fun j hj env s hi => ?_) (fun env s hi => ?_)
      · obtain ⟨rfl, x2, x3, rfl⟩ := hi
        simp only [List.length_map, List.length_zip, Nat.min_self] at hj
        refine ⟨_, by rw [List.getElem_map, List.getElem_zip]; rfl, ?_⟩
        unfold b4_l0
        simp only [e_svs_cons, e_svs_nil, e_sv_ife, e_sv_ret, e_sv_retN, e_sv_set, e_sv_setIx, e_sv_setLc, e_sv_app, e_sv_ex, e_sv_loop, e_sv_pass, e_ev_var, e_ev_lit, e_ev_glb, e_ev_gix, e_ev_bin, e_ev_neg, e_ev_not, w_and, w_or, QT2_bool, QB_bool, e_ev_one, e_ev_cmp, w_cmp2, e_ev_ife, e_ev_tup, e_mkT, e_ev_lst, e_ev_frz, e_ev_rev, e_ev_dct, e_ev_mcall, e_ev_callD, e_ev_callT, e_sv_tryS, e_sv_raise, e_sv_setFld, e_sv_lock, e_ev_fld, e_ev_meth, e_ev_new, e_tbv_ex, e_tbv_set, e_tbv_ife, e_tbv_exSet, e_sv_brk, e_sv_cont, wp_catch, e_evc_none, e_evc_some, e_ev_ix, e_ev_sl, e_ev_bi, e_ev_mx2, e_ev_mxd, e_ev_dget, e_ev_dpop, e_ev_clr, e_ev_split, e_ev_fnv, e_ev_callV, e_ev_slc, e_ev_gin, e_ev_gixIn, e_ev_isi, e_ev_mkx, e_ev_xfl, e_ev_isx, e_ev_sset, e_ev_lset, e_ev_stp, e_ev_call, e_ev_join, e_ev_lc, e_evs_nil, e_evs_cons, e_evo_none, e_evo_some, e_evi_seq, e_evi_rng1, e_evi_rng2, e_evi_enum, e_evi_zip, e_evi_view, e_evi_rev, env0, varD, e_b_nm, e_b_tT, e_b_tL, e_b_nil, e_b_cons, wp_bind, wp_then, wp_ok, wp_truR, wp_finP, QF_nx, QF_rt, QE1_rt, QE1_nx, QT1_bool, List.map, List.length, List.replicate, List.getElem?_cons_zero, List.getElem?_cons_succ, List.set, Nat.reduceSub, List.cons_append, List.nil_append, Nat.reduceAdd, wp_ite, e_mkLT, tru_b, seqI_L, seqI_T, pures_p, pures_nil, Option.map_some, Option.bind_some, if_true, sz_0, sz_1, sz_2, sz_3, sz_4, sz_5, sz_6, sz_7, sz_8, sz_9, sz_10, sz_11, sz_12, sz_13, sz_14, sz_15, sz_16, sz_17, sz_18, sz_19, sz_20, sz_21, sz_22, sz_23, sz_24, sz_25, sz_26, sz_27, sz_28, sz_29, sz_30, sz_31, sz_32, sz_33, sz_34, sz_35, sz_36, sz_37, sz_38, sz_39, sz_40]
        refine ih k (h1 _ (List.getElem_mem hj)) (h2 _ (List.getElem_mem hj)) ?_
        simp only [e_svs_cons, e_svs_nil, e_sv_ife, e_sv_ret, e_sv_retN, e_sv_set, e_sv_setIx, e_sv_setLc, e_sv_app, e_sv_ex, e_sv_loop, e_sv_pass, e_ev_var, e_ev_lit, e_ev_glb, e_ev_gix, e_ev_bin, e_ev_neg, e_ev_not, w_and, w_or, QT2_bool, QB_bool, e_ev_one, e_ev_cmp, w_cmp2, e_ev_ife, e_ev_tup, e_mkT, e_ev_lst, e_ev_frz, e_ev_rev, e_ev_dct, e_ev_mcall, e_ev_callD, e_ev_callT, e_sv_tryS, e_sv_raise, e_sv_setFld, e_sv_lock, e_ev_fld, e_ev_meth, e_ev_new, e_tbv_ex, e_tbv_set, e_tbv_ife, e_tbv_exSet, e_sv_brk, e_sv_cont, wp_catch, e_evc_none, e_evc_some, e_ev_ix, e_ev_sl, e_ev_bi, e_ev_mx2, e_ev_mxd, e_ev_dget, e_ev_dpop, e_ev_clr, e_ev_split, e_ev_fnv, e_ev_callV, e_ev_slc, e_ev_gin, e_ev_gixIn, e_ev_isi, e_ev_mkx, e_ev_xfl, e_ev_isx, e_ev_sset, e_ev_lset, e_ev_stp, e_ev_call, e_ev_join, e_ev_lc, e_evs_nil, e_evs_cons, e_evo_none, e_evo_some, e_evi_seq, e_evi_rng1, e_evi_rng2, e_evi_enum, e_evi_zip, e_evi_view, e_evi_rev, env0, varD, e_b_nm, e_b_tT, e_b_tL, e_b_nil, e_b_cons, wp_bind, wp_then, wp_ok, wp_truR, wp_finP, QF_nx, QF_rt, QE1_rt, QE1_nx, QT1_bool, List.map, List.length, List.replicate, List.getElem?_cons_zero, List.getElem?_cons_succ, List.set, Nat.reduceSub, List.cons_append, List.nil_append, Nat.reduceAdd, wp_ite, e_mkLT, tru_b, seqI_L, seqI_T, pures_p, pures_nil, Option.map_some, Option.bind_some, if_true, sz_0, sz_1, sz_2, sz_3, sz_4, sz_5, sz_6, sz_7, sz_8, sz_9, sz_10, sz_11, sz_12, sz_13, sz_14, sz_15, sz_16, sz_17, sz_18, sz_19, sz_20, sz_21, sz_22, sz_23, sz_24, sz_25, sz_26, sz_27, sz_28, sz_29, sz_30, sz_31, sz_32, sz_33, sz_34, sz_35, sz_36, sz_37, sz_38, sz_39, sz_40, Bool.not_true, Bool.false_eq_true, if_false, QN_nx]
        exact ⟨trivial, _, _, rfl⟩
      · obtain ⟨rfl, x2, x3, rfl⟩ := hi
        simp only [e_svs_cons, e_svs_nil, e_sv_ife, e_sv_ret, e_sv_retN, e_sv_set, e_sv_setIx, e_sv_setLc, e_sv_app, e_sv_ex, e_sv_loop, e_sv_pass, e_ev_var, e_ev_lit, e_ev_glb, e_ev_gix, e_ev_bin, e_ev_neg, e_ev_not, w_and, w_or, QT2_bool, QB_bool, e_ev_one, e_ev_cmp, w_cmp2, e_ev_ife, e_ev_tup, e_mkT, e_ev_lst, e_ev_frz, e_ev_rev, e_ev_dct, e_ev_mcall, e_ev_callD, e_ev_callT, e_sv_tryS, e_sv_raise, e_sv_setFld, e_sv_lock, e_ev_fld, e_ev_meth, e_ev_new, e_tbv_ex, e_tbv_set, e_tbv_ife, e_tbv_exSet, e_sv_brk, e_sv_cont, wp_catch, e_evc_none, e_evc_some, e_ev_ix, e_ev_sl, e_ev_bi, e_ev_mx2, e_ev_mxd, e_ev_dget, e_ev_dpop, e_ev_clr, e_ev_split, e_ev_fnv, e_ev_callV, e_ev_slc, e_ev_gin, e_ev_gixIn, e_ev_isi, e_ev_mkx, e_ev_xfl, e_ev_isx, e_ev_sset, e_ev_lset, e_ev_stp, e_ev_call, e_ev_join, e_ev_lc, e_evs_nil, e_evs_cons, e_evo_none, e_evo_some, e_evi_seq, e_evi_rng1, e_evi_rng2, e_evi_enum, e_evi_zip, e_evi_view, e_evi_rev, env0, varD, e_b_nm, e_b_tT, e_b_tL, e_b_nil, e_b_cons, wp_bind, wp_then, wp_ok, wp_truR, wp_finP, QF_nx, QF_rt, QE1_rt, QE1_nx, QT1_bool, List.map, List.length, List.replicate, List.getElem?_cons_zero, List.getElem?_cons_succ, List.set, Nat.reduceSub, List.cons_append, List.nil_append, Nat.reduceAdd, wp_ite, e_mkLT, tru_b, seqI_L, seqI_T, pures_p, pures_nil, Option.map_some, Option.bind_some, if_true, sz_0, sz_1, sz_2, sz_3, sz_4, sz_5, sz_6, sz_7, sz_8, sz_9, sz_10, sz_11, sz_12, sz_13, sz_14, sz_15, sz_16, sz_17, sz_18, sz_19, sz_20, sz_21, sz_22, sz_23, sz_24, sz_25, sz_26, sz_27, sz_28, sz_29, sz_30, sz_31, sz_32, sz_33, sz_34, sz_35, sz_36, sz_37, sz_38, sz_39, sz_40, gc_st]
        exact h
    | list vs =>
      have h1 := plain_memA (show PyData.plainAll vs = true from hp)
      have h2 := depth_memA (m := m) (vs := vs) (by simp only [PyData.depth] at hd; omega)
      refine wp_sem (d := d4) rfl rfl ?_
      simp only [d4, b4, e_svs_cons, e_svs_nil, e_sv_ife, e_sv_ret, e_sv_retN, e_sv_set, e_sv_setIx, e_sv_setLc, e_sv_app, e_sv_ex, e_sv_loop, e_sv_pass, e_ev_var, e_ev_lit, e_ev_glb, e_ev_gix, e_ev_bin, e_ev_neg, e_ev_not, w_and, w_or, QT2_bool, QB_bool, e_ev_one, e_ev_cmp, w_cmp2, e_ev_ife, e_ev_tup, e_mkT, e_ev_lst, e_ev_frz, e_ev_rev, e_ev_dct, e_ev_mcall, e_ev_callD, e_ev_callT, e_sv_tryS, e_sv_raise, e_sv_setFld, e_sv_lock, e_ev_fld, e_ev_meth, e_ev_new, e_tbv_ex, e_tbv_set, e_tbv_ife, e_tbv_exSet, e_sv_brk, e_sv_cont, wp_catch, e_evc_none, e_evc_some, e_ev_ix, e_ev_sl, e_ev_bi, e_ev_mx2, e_ev_mxd, e_ev_dget, e_ev_dpop, e_ev_clr, e_ev_split, e_ev_fnv, e_ev_callV, e_ev_slc, e_ev_gin, e_ev_gixIn, e_ev_isi, e_ev_mkx, e_ev_xfl, e_ev_isx, e_ev_sset, e_ev_lset, e_ev_stp, e_ev_call, e_ev_join, e_ev_lc, e_evs_nil, e_evs_cons, e_evo_none, e_evo_some, e_evi_seq, e_evi_rng1, e_evi_rng2, e_evi_enum, e_evi_zip, e_evi_view, e_evi_rev, env0, varD, e_b_nm, e_b_tT, e_b_tL, e_b_nil, e_b_cons, wp_bind, wp_then, wp_ok, wp_truR, wp_finP, QF_nx, QF_rt, QE1_rt, QE1_nx, QT1_bool, List.map, List.length, List.replicate, List.getElem?_cons_zero, List.getElem?_cons_succ, List.set, Nat.reduceSub, List.cons_append, List.nil_append, Nat.reduceAdd, wp_ite, e_mkLT, tru_b, seqI_L, seqI_T, pures_p, pures_nil, Option.map_some, Option.bind_some, if_true, sz_0, sz_1, sz_2, sz_3, sz_4, sz_5, sz_6, sz_7, sz_8, sz_9, sz_10, sz_11, sz_12, sz_13, sz_14, sz_15, sz_16, sz_17, sz_18, sz_19, sz_20, sz_21, sz_22, sz_23, sz_24, sz_25, sz_26, sz_27, sz_28, sz_29, sz_30, sz_31, sz_32, sz_33, sz_34, sz_35, sz_36, sz_37, sz_38, sz_39, sz_40, e_isN, e_isK, e_isInt hp, e_isBool hp, e_isStr hp, e_isTuple hp, e_isList hp, e_neb, isC, Bool.false_eq_true, if_false, MP.isInt, isStr, isTuple, isList, beq_self_eq_true, Bool.not_true, e_lenL, e_nei, e_zipLA]
      refine wp_for0 (fun j env s => s = st ∧ ∃ (x2 x3 : Option D), env = [some (.p (.list vs)), some (.p (.list vs)), x2, x3]) ⟨rfl, _, _, rfl⟩ (fun _ _ _ _ => ⟨gd_list _ _, gd_list _ _⟩) (fun j hj env s hi => ?_) (fun env s hi => ?_)
      · obtain ⟨rfl, x2, x3, rfl⟩ := hi
        simp only [List.length_map, List.length_zip, Nat.min_self] at hj
        refine ⟨_, by rw [List.getElem_map, List.getElem_zip, List.getElem_map]; rfl, ?_⟩
        unfold b4_l0
        simp only [e_svs_cons, e_svs_nil, e_sv_ife, e_sv_ret, e_sv_retN, e_sv_set, e_sv_setIx, e_sv_setLc, e_sv_app, e_sv_ex, e_sv_loop, e_sv_pass, e_ev_var, e_ev_lit, e_ev_glb, e_ev_gix, e_ev_bin, e_ev_neg, e_ev_not, w_and, w_or, QT2_bool, QB_bool, e_ev_one, e_ev_cmp, w_cmp2, e_ev_ife, e_ev_tup, e_mkT, e_ev_lst, e_ev_frz, e_ev_rev, e_ev_dct, e_ev_mcall, e_ev_callD, e_ev_callT, e_sv_tryS, e_sv_raise, e_sv_setFld, e_sv_lock, e_ev_fld, e_ev_meth, e_ev_new, e_tbv_ex, e_tbv_set, e_tbv_ife, e_tbv_exSet, e_sv_brk, e_sv_cont, wp_catch, e_evc_none, e_evc_some, e_ev_ix, e_ev_sl, e_ev_bi, e_ev_mx2, e_ev_mxd, e_ev_dget, e_ev_dpop, e_ev_clr, e_ev_split, e_ev_fnv, e_ev_callV, e_ev_slc, e_ev_gin, e_ev_gixIn, e_ev_isi, e_ev_mkx, e_ev_xfl, e_ev_isx, e_ev_sset, e_ev_lset, e_ev_stp, e_ev_call, e_ev_join, e_ev_lc, e_evs_nil, e_evs_cons, e_evo_none, e_evo_some, e_evi_seq, e_evi_rng1, e_evi_rng2, e_evi_enum, e_evi_zip, e_evi_view, e_evi_rev, env0, varD, e_b_nm, e_b_tT, e_b_tL, e_b_nil, e_b_cons, wp_bind, wp_then, wp_ok, wp_truR, wp_finP, QF_nx, QF_rt, QE1_rt, QE1_nx, QT1_bool, List.map, List.length, List.replicate, List.getElem?_cons_zero, List.getElem?_cons_succ, List.set, Nat.reduceSub, List.cons_append, List.nil_append, Nat.reduceAdd, wp_ite, e_mkLT, tru_b, seqI_L, seqI_T, pures_p, pures_nil, Option.map_some, Option.bind_some, if_true, sz_0, sz_1, sz_2, sz_3, sz_4, sz_5, sz_6, sz_7, sz_8, sz_9, sz_10, sz_11, sz_12, sz_13, sz_14, sz_15, sz_16, sz_17, sz_18, sz_19, sz_20, sz_21, sz_22, sz_23, sz_24, sz_25, sz_26, sz_27, sz_28, sz_29, sz_30, sz_31, sz_32, sz_33, sz_34, sz_35, sz_36, sz_37, sz_38, sz_39, sz_40]
        refine ih k (h1 _ (List.getElem_mem hj)) (h2 _ (List.getElem_mem hj)) ?_
        simp only [e_svs_cons, e_svs_nil, e_sv_ife, e_sv_ret, e_sv_retN, e_sv_set, e_sv_setIx, e_sv_setLc, e_sv_app, e_sv_ex, e_sv_loop, e_sv_pass, e_ev_var, e_ev_lit, e_ev_glb, e_ev_gix, e_ev_bin, e_ev_neg, e_ev_not, w_and, w_or, QT2_bool, QB_bool, e_ev_one, e_ev_cmp, w_cmp2, e_ev_ife, e_ev_tup, e_mkT, e_ev_lst, e_ev_frz, e_ev_rev, e_ev_dct, e_ev_mcall, e_ev_callD, e_ev_callT, e_sv_tryS, e_sv_raise, e_sv_setFld, e_sv_lock, e_ev_fld, e_ev_meth, e_ev_new, e_tbv_ex, e_tbv_set, e_tbv_ife, e_tbv_exSet, e_sv_brk, e_sv_cont, wp_catch, e_evc_none, e_evc_some, e_ev_ix, e_ev_sl, e_ev_bi, e_ev_mx2, e_ev_mxd, e_ev_dget, e_ev_dpop, e_ev_clr, e_ev_split, e_ev_fnv, e_ev_callV, e_ev_slc, e_ev_gin, e_ev_gixIn, e_ev_isi, e_ev_mkx, e_ev_xfl, e_ev_isx, e_ev_sset, e_ev_lset, e_ev_stp, e_ev_call, e_ev_join, e_ev_lc, e_evs_nil, e_evs_cons, e_evo_none, e_evo_some, e_evi_seq, e_evi_rng1, e_evi_rng2, e_evi_enum, e_evi_zip, e_evi_view, e_evi_rev, env0, varD, e_b_nm, e_b_tT, e_b_tL, e_b_nil, e_b_cons, wp_bind, wp_then, wp_ok, wp_truR, wp_finP, QF_nx, QF_rt, QE1_rt, QE1_nx, QT1_bool, List.map, List.length, List.replicate, List.getElem?_cons_zero, List.getElem?_cons_succ, List.set, Nat.reduceSub, List.cons_append, List.nil_append, Nat.reduceAdd, wp_ite, e_mkLT, tru_b, seqI_L, seqI_T, pures_p, pures_nil, Option.map_some, Option.bind_some, if_true, sz_0, sz_1, sz_2, sz_3, sz_4, sz_5, sz_6, sz_7, sz_8, sz_9, sz_10, sz_11, sz_12, sz_13, sz_14, sz_15, sz_16, sz_17, sz_18, sz_19, sz_20, sz_21, sz_22, sz_23, sz_24, sz_25, sz_26, sz_27, sz_28, sz_29, sz_30, sz_31, sz_32, sz_33, sz_34, sz_35, sz_36, sz_37, sz_38, sz_39, sz_40, Bool.not_true, Bool.false_eq_true, if_false, QN_nx]
        exact ⟨trivial, _, _, rfl⟩
      · obtain ⟨rfl, x2, x3, rfl⟩ := hi
        simp only [e_svs_cons, e_svs_nil, e_sv_ife, e_sv_ret, e_sv_retN, e_sv_set, e_sv_setIx, e_sv_setLc, e_sv_app, e_sv_ex, e_sv_loop, e_sv_pass, e_ev_var, e_ev_lit, e_ev_glb, e_ev_gix, e_ev_bin, e_ev_neg, e_ev_not, w_and, w_or, QT2_bool, QB_bool, e_ev_one, e_ev_cmp, w_cmp2, e_ev_ife, e_ev_tup, e_mkT, e_ev_lst, e_ev_frz, e_ev_rev, e_ev_dct, e_ev_mcall, e_ev_callD, e_ev_callT, e_sv_tryS, e_sv_raise, e_sv_setFld, e_sv_lock, e_ev_fld, e_ev_meth, e_ev_new, e_tbv_ex, e_tbv_set, e_tbv_ife, e_tbv_exSet, e_sv_brk, e_sv_cont, wp_catch, e_evc_none, e_evc_some, e_ev_ix, e_ev_sl, e_ev_bi, e_ev_mx2, e_ev_mxd, e_ev_dget, e_ev_dpop, e_ev_clr, e_ev_split, e_ev_fnv, e_ev_callV, e_ev_slc, e_ev_gin, e_ev_gixIn, e_ev_isi, e_ev_mkx, e_ev_xfl, e_ev_isx, e_ev_sset, e_ev_lset, e_ev_stp, e_ev_call, e_ev_join, e_ev_lc, e_evs_nil, e_evs_cons, e_evo_none, e_evo_some, e_evi_seq, e_evi_rng1, e_evi_rng2, e_evi_enum, e_evi_zip, e_evi_view, e_evi_rev, env0, varD, e_b_nm, e_b_tT, e_b_tL, e_b_nil, e_b_cons, wp_bind, wp_then, wp_ok, wp_truR, wp_finP, QF_nx, QF_rt, QE1_rt, QE1_nx, QT1_bool, List.map, List.length, List.replicate, List.getElem?_cons_zero, List.getElem?_cons_succ, List.set, Nat.reduceSub, List.cons_append, List.nil_append, Nat.reduceAdd, wp_ite, e_mkLT, tru_b, seqI_L, seqI_T, pures_p, pures_nil, Option.map_some, Option.bind_some, if_true, sz_0, sz_1, sz_2, sz_3, sz_4, sz_5, sz_6, sz_7, sz_8, sz_9, sz_10, sz_11, sz_12, sz_13, sz_14, sz_15, sz_16, sz_17, sz_18, sz_19, sz_20, sz_21, sz_22, sz_23, sz_24, sz_25, sz_26, sz_27, sz_28, sz_29, sz_30, sz_31, sz_32, sz_33, sz_34, sz_35, sz_36, sz_37, sz_38, sz_39, sz_40, gc_st]
        exact h
    | _ =>
      refine wp_sem (d := d4) rfl rfl ?_
      simp only [d4, b4, e_svs_cons, e_svs_nil, e_sv_ife, e_sv_ret, e_sv_retN, e_sv_set, e_sv_setIx, e_sv_setLc, e_sv_app, e_sv_ex, e_sv_loop, e_sv_pass, e_ev_var, e_ev_lit, e_ev_glb, e_ev_gix, e_ev_bin, e_ev_neg, e_ev_not, w_and, w_or, QT2_bool, QB_bool, e_ev_one, e_ev_cmp, w_cmp2, e_ev_ife, e_ev_tup, e_mkT, e_ev_lst, e_ev_frz, e_ev_rev, e_ev_dct, e_ev_mcall, e_ev_callD, e_ev_callT, e_sv_tryS, e_sv_raise, e_sv_setFld, e_sv_lock, e_ev_fld, e_ev_meth, e_ev_new, e_tbv_ex, e_tbv_set, e_tbv_ife, e_tbv_exSet, e_sv_brk, e_sv_cont, wp_catch, e_evc_none, e_evc_some, e_ev_ix, e_ev_sl, e_ev_bi, e_ev_mx2, e_ev_mxd, e_ev_dget, e_ev_dpop, e_ev_clr, e_ev_split, e_ev_fnv, e_ev_callV, e_ev_slc, e_ev_gin, e_ev_gixIn, e_ev_isi, e_ev_mkx, e_ev_xfl, e_ev_isx, e_ev_sset, e_ev_lset, e_ev_stp, e_ev_call, e_ev_join, e_ev_lc, e_evs_nil, e_evs_cons, e_evo_none, e_evo_some, e_evi_seq, e_evi_rng1, e_evi_rng2, e_evi_enum, e_evi_zip, e_evi_view, e_evi_rev, env0, varD, e_b_nm, e_b_tT, e_b_tL, e_b_nil, e_b_cons, wp_bind, wp_then, wp_ok, wp_truR, wp_finP, QF_nx, QF_rt, QE1_rt, QE1_nx, QT1_bool, List.map, List.length, List.replicate, List.getElem?_cons_zero, List.getElem?_cons_succ, List.set, Nat.reduceSub, List.cons_append, List.nil_append, Nat.reduceAdd, wp_ite, e_mkLT, tru_b, seqI_L, seqI_T, pures_p, pures_nil, Option.map_some, Option.bind_some, if_true, sz_0, sz_1, sz_2, sz_3, sz_4, sz_5, sz_6, sz_7, sz_8, sz_9, sz_10, sz_11, sz_12, sz_13, sz_14, sz_15, sz_16, sz_17, sz_18, sz_19, sz_20, sz_21, sz_22, sz_23, sz_24, sz_25, sz_26, sz_27, sz_28, sz_29, sz_30, sz_31, sz_32, sz_33, sz_34, sz_35, sz_36, sz_37, sz_38, sz_39, sz_40, e_isN, e_isK, e_isInt hp, e_isBool hp, e_isStr hp]
      first
        | (simpa [isC, gc_st] using h; done)
        | (rename_i b; cases b <;> simpa [isC, gc_st] using h; done)
        | (simp only [isC, Bool.false_eq_true, if_false, MP.isInt, isBool, Bool.not_false, e_svs_cons, e_svs_nil, e_sv_ife, e_sv_ret, e_sv_retN, e_sv_set, e_sv_setIx, e_sv_setLc, e_sv_app, e_sv_ex, e_sv_loop, e_sv_pass, e_ev_var, e_ev_lit, e_ev_glb, e_ev_gix, e_ev_bin, e_ev_neg, e_ev_not, w_and, w_or, QT2_bool, QB_bool, e_ev_one, e_ev_cmp, w_cmp2, e_ev_ife, e_ev_tup, e_mkT, e_ev_lst, e_ev_frz, e_ev_rev, e_ev_dct, e_ev_mcall, e_ev_callD, e_ev_callT, e_sv_tryS, e_sv_raise, e_sv_setFld, e_sv_lock, e_ev_fld, e_ev_meth, e_ev_new, e_tbv_ex, e_tbv_set, e_tbv_ife, e_tbv_exSet, e_sv_brk, e_sv_cont, wp_catch, e_evc_none, e_evc_some, e_ev_ix, e_ev_sl, e_ev_bi, e_ev_mx2, e_ev_mxd, e_ev_dget, e_ev_dpop, e_ev_clr, e_ev_split, e_ev_fnv, e_ev_callV, e_ev_slc, e_ev_gin, e_ev_gixIn, e_ev_isi, e_ev_mkx, e_ev_xfl, e_ev_isx, e_ev_sset, e_ev_lset, e_ev_stp, e_ev_call, e_ev_join, e_ev_lc, e_evs_nil, e_evs_cons, e_evo_none, e_evo_some, e_evi_seq, e_evi_rng1, e_evi_rng2, e_evi_enum, e_evi_zip, e_evi_view, e_evi_rev, env0, varD, e_b_nm, e_b_tT, e_b_tL, e_b_nil, e_b_cons, wp_bind, wp_then, wp_ok, wp_truR, wp_finP, QF_nx, QF_rt, QE1_rt, QE1_nx, QT1_bool, List.map, List.length, List.replicate, List.getElem?_cons_zero, List.getElem?_cons_succ, List.set, Nat.reduceSub, List.cons_append, List.nil_append, Nat.reduceAdd, wp_ite, e_mkLT, tru_b, seqI_L, seqI_T, pures_p, pures_nil, Option.map_some, Option.bind_some, if_true, sz_0, sz_1, sz_2, sz_3, sz_4, sz_5, sz_6, sz_7, sz_8, sz_9, sz_10, sz_11, sz_12, sz_13, sz_14, sz_15, sz_16, sz_17, sz_18, sz_19, sz_20, sz_21, sz_22, sz_23, sz_24, sz_25, sz_26, sz_27, sz_28, sz_29, sz_30, sz_31, sz_32, sz_33, sz_34, sz_35, sz_36, sz_37, sz_38, sz_39, sz_40, e_eqi, beq_self_eq_true, gc_st]; exact h)
        | (simp only [isC, Bool.false_eq_true, if_false, MP.isInt, isStr, e_svs_cons, e_svs_nil, e_sv_ife, e_sv_ret, e_sv_retN, e_sv_set, e_sv_setIx, e_sv_setLc, e_sv_app, e_sv_ex, e_sv_loop, e_sv_pass, e_ev_var, e_ev_lit, e_ev_glb, e_ev_gix, e_ev_bin, e_ev_neg, e_ev_not, w_and, w_or, QT2_bool, QB_bool, e_ev_one, e_ev_cmp, w_cmp2, e_ev_ife, e_ev_tup, e_mkT, e_ev_lst, e_ev_frz, e_ev_rev, e_ev_dct, e_ev_mcall, e_ev_callD, e_ev_callT, e_sv_tryS, e_sv_raise, e_sv_setFld, e_sv_lock, e_ev_fld, e_ev_meth, e_ev_new, e_tbv_ex, e_tbv_set, e_tbv_ife, e_tbv_exSet, e_sv_brk, e_sv_cont, wp_catch, e_evc_none, e_evc_some, e_ev_ix, e_ev_sl, e_ev_bi, e_ev_mx2, e_ev_mxd, e_ev_dget, e_ev_dpop, e_ev_clr, e_ev_split, e_ev_fnv, e_ev_callV, e_ev_slc, e_ev_gin, e_ev_gixIn, e_ev_isi, e_ev_mkx, e_ev_xfl, e_ev_isx, e_ev_sset, e_ev_lset, e_ev_stp, e_ev_call, e_ev_join, e_ev_lc, e_evs_nil, e_evs_cons, e_evo_none, e_evo_some, e_evi_seq, e_evi_rng1, e_evi_rng2, e_evi_enum, e_evi_zip, e_evi_view, e_evi_rev, env0, varD, e_b_nm, e_b_tT, e_b_tL, e_b_nil, e_b_cons, wp_bind, wp_then, wp_ok, wp_truR, wp_finP, QF_nx, QF_rt, QE1_rt, QE1_nx, QT1_bool, List.map, List.length, List.replicate, List.getElem?_cons_zero, List.getElem?_cons_succ, List.set, Nat.reduceSub, List.cons_append, List.nil_append, Nat.reduceAdd, wp_ite, e_mkLT, tru_b, seqI_L, seqI_T, pures_p, pures_nil, Option.map_some, Option.bind_some, if_true, sz_0, sz_1, sz_2, sz_3, sz_4, sz_5, sz_6, sz_7, sz_8, sz_9, sz_10, sz_11, sz_12, sz_13, sz_14, sz_15, sz_16, sz_17, sz_18, sz_19, sz_20, sz_21, sz_22, sz_23, sz_24, sz_25, sz_26, sz_27, sz_28, sz_29, sz_30, sz_31, sz_32, sz_33, sz_34, sz_35, sz_36, sz_37, sz_38, sz_39, sz_40, e_eqs, beq_self_eq_true, gc_st]; exact h)

/-! the law -/
theorem mkX1e (a : D) (f : Str) (st : Store) : mkX [a] [(f, .arg 0)] [] st = .ok [(f, a)] st := MP.nr rfl
theorem mkX2e (a b : D) (f g : Str) (st : Store) : mkX [a, b] [(f, .arg 0), (g, .arg 1)] [] st = .ok [(g, b), (f, a)] st := MP.nr rfl
theorem mkX0e (a : D) (st : Store) : mkX [a] [] [] st = .ok [] st := MP.nr rfl
theorem mkXle (f : Str) (xs : List PyData) (st : Store) : mkX [.p (.list xs)] [(f, .lst 0)] [] st = .ok [(f, .c st.length)] (st ++ [.lst (xs.map .p)]) := MP.nr rfl
theorem mkXse (a : D) (f g : Str) (xs : List PyData) (st : Store) : mkX [a, .p (.list xs)] [(f, .arg 0), (g, .lst 1)] [] st = .ok [(g, .c st.length), (f, a)] (st ++ [.lst (xs.map .p)]) := MP.nr rfl
theorem mkL_ce (n : Nat) (r : List D) (st : Store) : mkL false (.c n :: r) st = .ok (.c st.length) (st ++ [.lst (.c n :: r)]) := MP.nr rfl
theorem mkL_1e (a : PyData) (st : Store) : mkL false [.p a] st = .ok (.p (.list [a])) st := e_mkLF [a] st
theorem mkL_2e (a b : PyData) (st : Store) : mkL false [.p a, .p b] st = .ok (.p (.list [a, b])) st := e_mkLF [a, b] st
theorem mkL_3e (a b c : PyData) (st : Store) : mkL false [.p a, .p b, .p c] st = .ok (.p (.list [a, b, c])) st := e_mkLF [a, b, c] st
theorem mkL_5e (a b c d e : PyData) (st : Store) : mkL false [.p a, .p b, .p c, .p d, .p e] st = .ok (.p (.list [a, b, c, d, e])) st := e_mkLF [a, b, c, d, e] st
theorem mkL_7e (a b c d e f g : PyData) (st : Store) : mkL false [.p a, .p b, .p c, .p d, .p e, .p f, .p g] st = .ok (.p (.list [a, b, c, d, e, f, g])) st := e_mkLF [a, b, c, d, e, f, g] st
theorem e_addCC {n m : Nat} {st : Store} {xs ys : List D} (h1 : cellL st n = some xs) (h2 : cellL st m = some ys) (hz : xs.length + ys.length ≤ 1000) : binD .Add (.c n) (.c m) st = mkL false (xs ++ ys) st := by
  have e1 : items (.c n) st = some xs := h1
  have e2 : items (.c m) st = some ys := h2
  unfold binD addD
  simp only [e1, e2]
  rw [if_pos (sz_le hz)]
def some6 (b : Int) : PyData := .tuple [.str "a", .int b]
def link6 (c : Int) : PyData := .tuple [.str "a", .str "b", .int (c - 9)]
def EE (a b c : Int) : Store := [.exv "NoRow" [("number", .p (.int a))], .exv "NoText" [("number", .p (.int (a + 2)))], .exv "Clash" [("second", .p (.int (a + 1))), ("first", .p (.int a))], .lst [.p (some6 b)], .exv "Short" [("some", .c 5), ("side", .p (.str "asks"))],
  .lst [.p (link6 c)], .exv "OffTime" [("links", .c 7)], .lst [.c 2, .c 3, .c 4, .c 6, .c 8], .exv "NoAsk" [], .exv "NoJob" [], .exv "TooMany" [], .exv "NoLine" [], .lst [.c 10, .c 11, .c 12, .c 13], .lst [.c 2, .c 3, .c 4, .c 6, .c 8, .c 10, .c 11, .c 12, .c 13]]
def E1 (a b c : Int) : Store := (EE a b c).set 3 .dead
def E2 (a b c : Int) : Store := (E1 a b c).set 5 .dead
theorem ok6 (a b c : Int) : OkEx (EE a b c) := rfl
theorem ok62 (a b c : Int) : OkEx (E2 a b c) := rfl
theorem plain_6 {x : PyData} : True := trivial
theorem lk_s1 (x y : D) : ([("some", x), ("side", y)] : List (Str × D)).lookup ("side" : Str) = some y := by
  rw [List.lookup_cons, show (("side" : Str) == "some") = false from by decide +kernel, List.lookup_cons, show (("side" : Str) == "side") = true from by decide +kernel]
theorem lk_s2 (x y : D) : ([("some", x), ("side", y)] : List (Str × D)).lookup ("some" : Str) = some x := by
  rw [List.lookup_cons, show (("some" : Str) == "some") = true from by decide +kernel]
theorem lk_c1 (x y : D) : ([("second", x), ("first", y)] : List (Str × D)).lookup ("first" : Str) = some y := by
  rw [List.lookup_cons, show (("first" : Str) == "second") = false from by decide +kernel, List.lookup_cons, show (("first" : Str) == "first") = true from by decide +kernel]
theorem lk_c2 (x y : D) : ([("second", x), ("first", y)] : List (Str × D)).lookup ("second" : Str) = some x := by
  rw [List.lookup_cons, show (("second" : Str) == "second") = true from by decide +kernel]
theorem lk_1 (f : Str) (x : D) : ([(f, x)] : List (Str × D)).lookup f = some x := by
  rw [List.lookup_cons, show (f == f) = true from beq_self_eq_true f]
theorem law13e {cs : List Int} {i : Nat} {u a b c : Int} {M R : List PyData} (hM : PyData.plain (.list M) = true) (hR : PyData.plain (.list R) = true) (dM : (PyData.list M).depth ≤ 3) (dR : (PyData.list R).depth ≤ 3) {x0 x2 x3 x4 x5 x6 x7 x11 : Option D} {Q : Fl → Store → Prop} (hQ : ∀ st, Q (.rt (.p (.bool true))) st) :
    wpe NoX (svs (semK defs 60) b6_t12 [x0, some (.c 1), x2, x3, x4, x5, x6, x7, some (.p (.list M)), some (.p (.list R)), none, x11] (pen cs i u ++ E2 a b c)) Q := by
  unfold b6_t12
  obtain ⟨E, eE⟩ : ∃ E, E = E2 a b c := ⟨_, rfl⟩
  rw [← eE]
  have lE : (pen cs i u ++ E).length = 16 := by rw [pen_len, eE]; rfl
  simp only [e_svs_cons, e_svs_nil, e_sv_ife, e_sv_ret, e_sv_retN, e_sv_set, e_sv_setIx, e_sv_setLc, e_sv_app, e_sv_ex, e_sv_loop, e_sv_pass, e_ev_var, e_ev_lit, e_ev_glb, e_ev_gix, e_ev_bin, e_ev_neg, e_ev_not, w_and, w_or, QT2_bool, QB_bool, e_ev_one, e_ev_cmp, w_cmp2, e_ev_ife, e_ev_tup, e_mkT, e_ev_lst, e_ev_frz, e_ev_rev, e_ev_dct, e_ev_mcall, e_ev_callD, e_ev_callT, e_sv_tryS, e_sv_raise, e_sv_setFld, e_sv_lock, e_ev_fld, e_ev_meth, e_ev_new, e_tbv_ex, e_tbv_set, e_tbv_ife, e_tbv_exSet, e_sv_brk, e_sv_cont, wp_catch, e_evc_none, e_evc_some, e_ev_ix, e_ev_sl, e_ev_bi, e_ev_mx2, e_ev_mxd, e_ev_dget, e_ev_dpop, e_ev_clr, e_ev_split, e_ev_fnv, e_ev_callV, e_ev_slc, e_ev_gin, e_ev_gixIn, e_ev_isi, e_ev_mkx, e_ev_xfl, e_ev_isx, e_ev_sset, e_ev_lset, e_ev_stp, e_ev_call, e_ev_join, e_ev_lc, e_evs_nil, e_evs_cons, e_evo_none, e_evo_some, e_evi_seq, e_evi_rng1, e_evi_rng2, e_evi_enum, e_evi_zip, e_evi_view, e_evi_rev, env0, varD, e_b_nm, e_b_tT, e_b_tL, e_b_nil, e_b_cons, wp_bind, wp_then, wp_ok, wp_truR, wp_finP, QF_nx, QF_rt, QE1_rt, QE1_nx, QT1_bool, List.map, List.length, List.replicate, List.getElem?_cons_zero, List.getElem?_cons_succ, List.set, Nat.reduceSub, List.cons_append, List.nil_append, Nat.reduceAdd, wp_ite, e_mkLT, tru_b, seqI_L, seqI_T, pures_p, pures_nil, Option.map_some, Option.bind_some, if_true, sz_0, sz_1, sz_2, sz_3, sz_4, sz_5, sz_6, sz_7, sz_8, sz_9, sz_10, sz_11, sz_12, sz_13, sz_14, sz_15, sz_16, sz_17, sz_18, sz_19, sz_20, sz_21, sz_22, sz_23, sz_24, sz_25, sz_26, sz_27, sz_28, sz_29, sz_30, sz_31, sz_32, sz_33, sz_34, sz_35, sz_36, sz_37, sz_38, sz_39, sz_40, e_listPL, mkXse]
  rw [lE]
  have lE2 : (pen cs i u ++ E ++ [Cell.lst (M.map D.p)]).length = 17 := by rw [List.length_append, lE]; rfl
  rw [lE2]
  unfold b6_t13
  obtain ⟨S1, eS1⟩ : ∃ S1, S1 = pen cs i u ++ E ++ [Cell.lst (M.map D.p)] ++ [Cell.exv "Short" [("some", .c 16), ("side", .p (.str "jobs"))]] := ⟨_, rfl⟩
  rw [← eS1]
  have g17 : S1[17]? = some (.exv "Short" [("some", .c 16), ("side", .p (.str "jobs"))]) := by
    rw [eS1, ← lE2]; exact List.getElem?_concat_length ..
  have g16 : cellL S1 16 = some (M.map D.p) := by
    refine cellL_of ?_
    rw [eS1, List.getElem?_append_left (by rw [lE2]; decide), ← lE]
    exact List.getElem?_concat_length ..
  have lS : S1.length = 18 := by rw [eS1, List.length_append, lE2]; rfl
  simp only [e_svs_cons, e_svs_nil, e_sv_ife, e_sv_ret, e_sv_retN, e_sv_set, e_sv_setIx, e_sv_setLc, e_sv_app, e_sv_ex, e_sv_loop, e_sv_pass, e_ev_var, e_ev_lit, e_ev_glb, e_ev_gix, e_ev_bin, e_ev_neg, e_ev_not, w_and, w_or, QT2_bool, QB_bool, e_ev_one, e_ev_cmp, w_cmp2, e_ev_ife, e_ev_tup, e_mkT, e_ev_lst, e_ev_frz, e_ev_rev, e_ev_dct, e_ev_mcall, e_ev_callD, e_ev_callT, e_sv_tryS, e_sv_raise, e_sv_setFld, e_sv_lock, e_ev_fld, e_ev_meth, e_ev_new, e_tbv_ex, e_tbv_set, e_tbv_ife, e_tbv_exSet, e_sv_brk, e_sv_cont, wp_catch, e_evc_none, e_evc_some, e_ev_ix, e_ev_sl, e_ev_bi, e_ev_mx2, e_ev_mxd, e_ev_dget, e_ev_dpop, e_ev_clr, e_ev_split, e_ev_fnv, e_ev_callV, e_ev_slc, e_ev_gin, e_ev_gixIn, e_ev_isi, e_ev_mkx, e_ev_xfl, e_ev_isx, e_ev_sset, e_ev_lset, e_ev_stp, e_ev_call, e_ev_join, e_ev_lc, e_evs_nil, e_evs_cons, e_evo_none, e_evo_some, e_evi_seq, e_evi_rng1, e_evi_rng2, e_evi_enum, e_evi_zip, e_evi_view, e_evi_rev, env0, varD, e_b_nm, e_b_tT, e_b_tL, e_b_nil, e_b_cons, wp_bind, wp_then, wp_ok, wp_truR, wp_finP, QF_nx, QF_rt, QE1_rt, QE1_nx, QT1_bool, List.map, List.length, List.replicate, List.getElem?_cons_zero, List.getElem?_cons_succ, List.set, Nat.reduceSub, List.cons_append, List.nil_append, Nat.reduceAdd, wp_ite, e_mkLT, tru_b, seqI_L, seqI_T, pures_p, pures_nil, Option.map_some, Option.bind_some, if_true, sz_0, sz_1, sz_2, sz_3, sz_4, sz_5, sz_6, sz_7, sz_8, sz_9, sz_10, sz_11, sz_12, sz_13, sz_14, sz_15, sz_16, sz_17, sz_18, sz_19, sz_20, sz_21, sz_22, sz_23, sz_24, sz_25, sz_26, sz_27, sz_28, sz_29, sz_30, sz_31, sz_32, sz_33, sz_34, sz_35, sz_36, sz_37, sz_38, sz_39, sz_40, e_xfl g17 (lk_s1 _ _), e_xfl g17 (lk_s2 _ _), e_frzP, e_frzC g16, e_listPL, mkXle]
  obtain ⟨S2, eS2⟩ : ∃ S2, S2 = S1.set 16 .dead := ⟨_, rfl⟩
  rw [← eS2]
  have lS2 : S2.length = 18 := by rw [eS2, List.length_set, lS]
  have lS3 : (S2 ++ [Cell.lst (R.map D.p)]).length = 19 := by rw [List.length_append, lS2]; rfl
  rw [lS2, lS3]
  have g19 : (S2 ++ [Cell.lst (R.map D.p)] ++ [Cell.exv "OffTime" [("links", .c 18)]])[19]? = some (.exv "OffTime" [("links", .c 18)]) := by
    rw [← lS3]; exact List.getElem?_concat_length ..
  have g18 : cellL (S2 ++ [Cell.lst (R.map D.p)] ++ [Cell.exv "OffTime" [("links", .c 18)]]) 18 = some (R.map D.p) := by
    refine cellL_of ?_
    rw [List.getElem?_append_left (by rw [lS3]; decide), ← lS2]
    exact List.getElem?_concat_length ..
  simp only [e_svs_cons, e_svs_nil, e_sv_ife, e_sv_ret, e_sv_retN, e_sv_set, e_sv_setIx, e_sv_setLc, e_sv_app, e_sv_ex, e_sv_loop, e_sv_pass, e_ev_var, e_ev_lit, e_ev_glb, e_ev_gix, e_ev_bin, e_ev_neg, e_ev_not, w_and, w_or, QT2_bool, QB_bool, e_ev_one, e_ev_cmp, w_cmp2, e_ev_ife, e_ev_tup, e_mkT, e_ev_lst, e_ev_frz, e_ev_rev, e_ev_dct, e_ev_mcall, e_ev_callD, e_ev_callT, e_sv_tryS, e_sv_raise, e_sv_setFld, e_sv_lock, e_ev_fld, e_ev_meth, e_ev_new, e_tbv_ex, e_tbv_set, e_tbv_ife, e_tbv_exSet, e_sv_brk, e_sv_cont, wp_catch, e_evc_none, e_evc_some, e_ev_ix, e_ev_sl, e_ev_bi, e_ev_mx2, e_ev_mxd, e_ev_dget, e_ev_dpop, e_ev_clr, e_ev_split, e_ev_fnv, e_ev_callV, e_ev_slc, e_ev_gin, e_ev_gixIn, e_ev_isi, e_ev_mkx, e_ev_xfl, e_ev_isx, e_ev_sset, e_ev_lset, e_ev_stp, e_ev_call, e_ev_join, e_ev_lc, e_evs_nil, e_evs_cons, e_evo_none, e_evo_some, e_evi_seq, e_evi_rng1, e_evi_rng2, e_evi_enum, e_evi_zip, e_evi_view, e_evi_rev, env0, varD, e_b_nm, e_b_tT, e_b_tL, e_b_nil, e_b_cons, wp_bind, wp_then, wp_ok, wp_truR, wp_finP, QF_nx, QF_rt, QE1_rt, QE1_nx, QT1_bool, List.map, List.length, List.replicate, List.getElem?_cons_zero, List.getElem?_cons_succ, List.set, Nat.reduceSub, List.cons_append, List.nil_append, Nat.reduceAdd, wp_ite, e_mkLT, tru_b, seqI_L, seqI_T, pures_p, pures_nil, Option.map_some, Option.bind_some, if_true, sz_0, sz_1, sz_2, sz_3, sz_4, sz_5, sz_6, sz_7, sz_8, sz_9, sz_10, sz_11, sz_12, sz_13, sz_14, sz_15, sz_16, sz_17, sz_18, sz_19, sz_20, sz_21, sz_22, sz_23, sz_24, sz_25, sz_26, sz_27, sz_28, sz_29, sz_30, sz_31, sz_32, sz_33, sz_34, sz_35, sz_36, sz_37, sz_38, sz_39, sz_40, e_xfl g19 (lk_1 _ _), e_frzC g18, mkL_3e]
  refine same_all 4 55 ?_ ?_ ?_
  · show (PyData.plain (.str "jobs") && (PyData.plain (.list M) && (PyData.plain (.list R) && true))) = true
    rw [hM, hR]; rfl
  · show PyData.depthAll [.str "jobs", .list M, .list R] + 1 ≤ 4
    have h1 : (PyData.str "jobs").depth = 0 := rfl
    simp only [PyData.depthAll, h1] at dM dR ⊢
    omega
  · try simp only [e_svs_cons, e_svs_nil, e_sv_ife, e_sv_ret, e_sv_retN, e_sv_set, e_sv_setIx, e_sv_setLc, e_sv_app, e_sv_ex, e_sv_loop, e_sv_pass, e_ev_var, e_ev_lit, e_ev_glb, e_ev_gix, e_ev_bin, e_ev_neg, e_ev_not, w_and, w_or, QT2_bool, QB_bool, e_ev_one, e_ev_cmp, w_cmp2, e_ev_ife, e_ev_tup, e_mkT, e_ev_lst, e_ev_frz, e_ev_rev, e_ev_dct, e_ev_mcall, e_ev_callD, e_ev_callT, e_sv_tryS, e_sv_raise, e_sv_setFld, e_sv_lock, e_ev_fld, e_ev_meth, e_ev_new, e_tbv_ex, e_tbv_set, e_tbv_ife, e_tbv_exSet, e_sv_brk, e_sv_cont, wp_catch, e_evc_none, e_evc_some, e_ev_ix, e_ev_sl, e_ev_bi, e_ev_mx2, e_ev_mxd, e_ev_dget, e_ev_dpop, e_ev_clr, e_ev_split, e_ev_fnv, e_ev_callV, e_ev_slc, e_ev_gin, e_ev_gixIn, e_ev_isi, e_ev_mkx, e_ev_xfl, e_ev_isx, e_ev_sset, e_ev_lset, e_ev_stp, e_ev_call, e_ev_join, e_ev_lc, e_evs_nil, e_evs_cons, e_evo_none, e_evo_some, e_evi_seq, e_evi_rng1, e_evi_rng2, e_evi_enum, e_evi_zip, e_evi_view, e_evi_rev, env0, varD, e_b_nm, e_b_tT, e_b_tL, e_b_nil, e_b_cons, wp_bind, wp_then, wp_ok, wp_truR, wp_finP, QF_nx, QF_rt, QE1_rt, QE1_nx, QT1_bool, List.map, List.length, List.replicate, List.getElem?_cons_zero, List.getElem?_cons_succ, List.set, Nat.reduceSub, List.cons_append, List.nil_append, Nat.reduceAdd, wp_ite, e_mkLT, tru_b, seqI_L, seqI_T, pures_p, pures_nil, Option.map_some, Option.bind_some, if_true, sz_0, sz_1, sz_2, sz_3, sz_4, sz_5, sz_6, sz_7, sz_8, sz_9, sz_10, sz_11, sz_12, sz_13, sz_14, sz_15, sz_16, sz_17, sz_18, sz_19, sz_20, sz_21, sz_22, sz_23, sz_24, sz_25, sz_26, sz_27, sz_28, sz_29, sz_30, sz_31, sz_32, sz_33, sz_34, sz_35, sz_36, sz_37, sz_38, sz_39, sz_40]
    exact hQ _
theorem plain_lI {vs : List PyData} (h : ∀ y ∈ vs, y.plain = true) : PyData.plain (.list vs) = true := by
  show PyData.plainAll vs = true
  induction vs with
  | nil => rfl
  | cons a r ih =>
    show (PyData.plain a && PyData.plainAll r) = true
    rw [h a List.mem_cons_self, ih fun x hx => h x (List.mem_cons_of_mem _ hx)]
    rfl
theorem depth_lI {n : Nat} {vs : List PyData} (h : ∀ y ∈ vs, y.depth ≤ n) : (PyData.list vs).depth ≤ n + 1 := by
  have : PyData.depthAll vs ≤ n := by
    induction vs with
    | nil => exact Nat.zero_le _
    | cons a r ih =>
      have h1 := h a List.mem_cons_self
      have h2 := ih fun x hx => h x (List.mem_cons_of_mem _ hx)
      simp only [PyData.depthAll]
      omega
  simp only [PyData.depth]
  omega
theorem cut_memI {α : Type} {l : List α} {lo hi : Option Int} {x : α} (h : x ∈ cut l lo hi) : x ∈ l := List.mem_of_mem_drop (List.mem_of_mem_take h)
theorem law10e {cs : List Int} {i : Nat} {u a b c : Int} {x0 x2 x3 x4 x5 x6 x7 x11 : Option D} {Q : Fl → Store → Prop} (hQ : ∀ st, Q (.rt (.p (.bool true))) st) :
    wpe NoX (svs (semK defs 60) b6_t10 [x0, some (.c 1), x2, x3, x4, x5, x6, x7, none, none, none, x11] (pen cs i u ++ E2 a b c)) Q := by
  unfold b6_t10
  simp only [e_svs_cons, e_svs_nil, e_sv_ife, e_sv_ret, e_sv_retN, e_sv_set, e_sv_setIx, e_sv_setLc, e_sv_app, e_sv_ex, e_sv_loop, e_sv_pass, e_ev_var, e_ev_lit, e_ev_glb, e_ev_gix, e_ev_bin, e_ev_neg, e_ev_not, w_and, w_or, QT2_bool, QB_bool, e_ev_one, e_ev_cmp, w_cmp2, e_ev_ife, e_ev_tup, e_mkT, e_ev_lst, e_ev_frz, e_ev_rev, e_ev_dct, e_ev_mcall, e_ev_callD, e_ev_callT, e_sv_tryS, e_sv_raise, e_sv_setFld, e_sv_lock, e_ev_fld, e_ev_meth, e_ev_new, e_tbv_ex, e_tbv_set, e_tbv_ife, e_tbv_exSet, e_sv_brk, e_sv_cont, wp_catch, e_evc_none, e_evc_some, e_ev_ix, e_ev_sl, e_ev_bi, e_ev_mx2, e_ev_mxd, e_ev_dget, e_ev_dpop, e_ev_clr, e_ev_split, e_ev_fnv, e_ev_callV, e_ev_slc, e_ev_gin, e_ev_gixIn, e_ev_isi, e_ev_mkx, e_ev_xfl, e_ev_isx, e_ev_sset, e_ev_lset, e_ev_stp, e_ev_call, e_ev_join, e_ev_lc, e_evs_nil, e_evs_cons, e_evo_none, e_evo_some, e_evi_seq, e_evi_rng1, e_evi_rng2, e_evi_enum, e_evi_zip, e_evi_view, e_evi_rev, env0, varD, e_b_nm, e_b_tT, e_b_tL, e_b_nil, e_b_cons, wp_bind, wp_then, wp_ok, wp_truR, wp_finP, QF_nx, QF_rt, QE1_rt, QE1_nx, QT1_bool, List.map, List.length, List.replicate, List.getElem?_cons_zero, List.getElem?_cons_succ, List.set, Nat.reduceSub, List.cons_append, List.nil_append, Nat.reduceAdd, wp_ite, e_mkLT, tru_b, seqI_L, seqI_T, pures_p, pures_nil, Option.map_some, Option.bind_some, if_true, sz_0, sz_1, sz_2, sz_3, sz_4, sz_5, sz_6, sz_7, sz_8, sz_9, sz_10, sz_11, sz_12, sz_13, sz_14, sz_15, sz_16, sz_17, sz_18, sz_19, sz_20, sz_21, sz_22, sz_23, sz_24, sz_25, sz_26, sz_27, sz_28, sz_29, sz_30, sz_31, sz_32, sz_33, sz_34, sz_35, sz_36, sz_37, sz_38, sz_39, sz_40]
  refine number_then 57 fun n1 i1 u1 _ _ => ?_
  simp only [e_svs_cons, e_svs_nil, e_sv_ife, e_sv_ret, e_sv_retN, e_sv_set, e_sv_setIx, e_sv_setLc, e_sv_app, e_sv_ex, e_sv_loop, e_sv_pass, e_ev_var, e_ev_lit, e_ev_glb, e_ev_gix, e_ev_bin, e_ev_neg, e_ev_not, w_and, w_or, QT2_bool, QB_bool, e_ev_one, e_ev_cmp, w_cmp2, e_ev_ife, e_ev_tup, e_mkT, e_ev_lst, e_ev_frz, e_ev_rev, e_ev_dct, e_ev_mcall, e_ev_callD, e_ev_callT, e_sv_tryS, e_sv_raise, e_sv_setFld, e_sv_lock, e_ev_fld, e_ev_meth, e_ev_new, e_tbv_ex, e_tbv_set, e_tbv_ife, e_tbv_exSet, e_sv_brk, e_sv_cont, wp_catch, e_evc_none, e_evc_some, e_ev_ix, e_ev_sl, e_ev_bi, e_ev_mx2, e_ev_mxd, e_ev_dget, e_ev_dpop, e_ev_clr, e_ev_split, e_ev_fnv, e_ev_callV, e_ev_slc, e_ev_gin, e_ev_gixIn, e_ev_isi, e_ev_mkx, e_ev_xfl, e_ev_isx, e_ev_sset, e_ev_lset, e_ev_stp, e_ev_call, e_ev_join, e_ev_lc, e_evs_nil, e_evs_cons, e_evo_none, e_evo_some, e_evi_seq, e_evi_rng1, e_evi_rng2, e_evi_enum, e_evi_zip, e_evi_view, e_evi_rev, env0, varD, e_b_nm, e_b_tT, e_b_tL, e_b_nil, e_b_cons, wp_bind, wp_then, wp_ok, wp_truR, wp_finP, QF_nx, QF_rt, QE1_rt, QE1_nx, QT1_bool, List.map, List.length, List.replicate, List.getElem?_cons_zero, List.getElem?_cons_succ, List.set, Nat.reduceSub, List.cons_append, List.nil_append, Nat.reduceAdd, wp_ite, e_mkLT, tru_b, seqI_L, seqI_T, pures_p, pures_nil, Option.map_some, Option.bind_some, if_true, sz_0, sz_1, sz_2, sz_3, sz_4, sz_5, sz_6, sz_7, sz_8, sz_9, sz_10, sz_11, sz_12, sz_13, sz_14, sz_15, sz_16, sz_17, sz_18, sz_19, sz_20, sz_21, sz_22, sz_23, sz_24, sz_25, sz_26, sz_27, sz_28, sz_29, sz_30, sz_31, sz_32, sz_33, sz_34, sz_35, sz_36, sz_37, sz_38, sz_39, sz_40]
  refine number_then 57 fun n2 i2 u2 _ _ => ?_
  simp only [e_svs_cons, e_svs_nil, e_sv_ife, e_sv_ret, e_sv_retN, e_sv_set, e_sv_setIx, e_sv_setLc, e_sv_app, e_sv_ex, e_sv_loop, e_sv_pass, e_ev_var, e_ev_lit, e_ev_glb, e_ev_gix, e_ev_bin, e_ev_neg, e_ev_not, w_and, w_or, QT2_bool, QB_bool, e_ev_one, e_ev_cmp, w_cmp2, e_ev_ife, e_ev_tup, e_mkT, e_ev_lst, e_ev_frz, e_ev_rev, e_ev_dct, e_ev_mcall, e_ev_callD, e_ev_callT, e_sv_tryS, e_sv_raise, e_sv_setFld, e_sv_lock, e_ev_fld, e_ev_meth, e_ev_new, e_tbv_ex, e_tbv_set, e_tbv_ife, e_tbv_exSet, e_sv_brk, e_sv_cont, wp_catch, e_evc_none, e_evc_some, e_ev_ix, e_ev_sl, e_ev_bi, e_ev_mx2, e_ev_mxd, e_ev_dget, e_ev_dpop, e_ev_clr, e_ev_split, e_ev_fnv, e_ev_callV, e_ev_slc, e_ev_gin, e_ev_gixIn, e_ev_isi, e_ev_mkx, e_ev_xfl, e_ev_isx, e_ev_sset, e_ev_lset, e_ev_stp, e_ev_call, e_ev_join, e_ev_lc, e_evs_nil, e_evs_cons, e_evo_none, e_evo_some, e_evi_seq, e_evi_rng1, e_evi_rng2, e_evi_enum, e_evi_zip, e_evi_view, e_evi_rev, env0, varD, e_b_nm, e_b_tT, e_b_tL, e_b_nil, e_b_cons, wp_bind, wp_then, wp_ok, wp_truR, wp_finP, QF_nx, QF_rt, QE1_rt, QE1_nx, QT1_bool, List.map, List.length, List.replicate, List.getElem?_cons_zero, List.getElem?_cons_succ, List.set, Nat.reduceSub, List.cons_append, List.nil_append, Nat.reduceAdd, wp_ite, e_mkLT, tru_b, seqI_L, seqI_T, pures_p, pures_nil, Option.map_some, Option.bind_some, if_true, sz_0, sz_1, sz_2, sz_3, sz_4, sz_5, sz_6, sz_7, sz_8, sz_9, sz_10, sz_11, sz_12, sz_13, sz_14, sz_15, sz_16, sz_17, sz_18, sz_19, sz_20, sz_21, sz_22, sz_23, sz_24, sz_25, sz_26, sz_27, sz_28, sz_29, sz_30, sz_31, sz_32, sz_33, sz_34, sz_35, sz_36, sz_37, sz_38, sz_39, sz_40, mkL_3e]
  refine take_then 58 (by decide) (by decide) fun t i3 u3 t0 t1 => ?_
  simp only [e_svs_cons, e_svs_nil, e_sv_ife, e_sv_ret, e_sv_retN, e_sv_set, e_sv_setIx, e_sv_setLc, e_sv_app, e_sv_ex, e_sv_loop, e_sv_pass, e_ev_var, e_ev_lit, e_ev_glb, e_ev_gix, e_ev_bin, e_ev_neg, e_ev_not, w_and, w_or, QT2_bool, QB_bool, e_ev_one, e_ev_cmp, w_cmp2, e_ev_ife, e_ev_tup, e_mkT, e_ev_lst, e_ev_frz, e_ev_rev, e_ev_dct, e_ev_mcall, e_ev_callD, e_ev_callT, e_sv_tryS, e_sv_raise, e_sv_setFld, e_sv_lock, e_ev_fld, e_ev_meth, e_ev_new, e_tbv_ex, e_tbv_set, e_tbv_ife, e_tbv_exSet, e_sv_brk, e_sv_cont, wp_catch, e_evc_none, e_evc_some, e_ev_ix, e_ev_sl, e_ev_bi, e_ev_mx2, e_ev_mxd, e_ev_dget, e_ev_dpop, e_ev_clr, e_ev_split, e_ev_fnv, e_ev_callV, e_ev_slc, e_ev_gin, e_ev_gixIn, e_ev_isi, e_ev_mkx, e_ev_xfl, e_ev_isx, e_ev_sset, e_ev_lset, e_ev_stp, e_ev_call, e_ev_join, e_ev_lc, e_evs_nil, e_evs_cons, e_evo_none, e_evo_some, e_evi_seq, e_evi_rng1, e_evi_rng2, e_evi_enum, e_evi_zip, e_evi_view, e_evi_rev, env0, varD, e_b_nm, e_b_tT, e_b_tL, e_b_nil, e_b_cons, wp_bind, wp_then, wp_ok, wp_truR, wp_finP, QF_nx, QF_rt, QE1_rt, QE1_nx, QT1_bool, List.map, List.length, List.replicate, List.getElem?_cons_zero, List.getElem?_cons_succ, List.set, Nat.reduceSub, List.cons_append, List.nil_append, Nat.reduceAdd, wp_ite, e_mkLT, tru_b, seqI_L, seqI_T, pures_p, pures_nil, Option.map_some, Option.bind_some, if_true, sz_0, sz_1, sz_2, sz_3, sz_4, sz_5, sz_6, sz_7, sz_8, sz_9, sz_10, sz_11, sz_12, sz_13, sz_14, sz_15, sz_16, sz_17, sz_18, sz_19, sz_20, sz_21, sz_22, sz_23, sz_24, sz_25, sz_26, sz_27, sz_28, sz_29, sz_30, sz_31, sz_32, sz_33, sz_34, sz_35, sz_36, sz_37, sz_38, sz_39, sz_40, e_slL]
  obtain ⟨L, eL⟩ : ∃ L, L = [PyData.tuple [.str "b", .int n1], .tuple [.str "a", .int n2], .tuple [.str "a", .int 0]] := ⟨_, rfl⟩
  have L1 : ∀ y ∈ L, y.plain = true ∧ y.depth ≤ 1 := by
    rw [eL]
    intro y hy
    simp only [List.mem_cons, List.not_mem_nil, or_false] at hy
    rcases hy with rfl | rfl | rfl
    · exact ⟨rfl, Nat.le_of_ble_eq_true rfl⟩
    · exact ⟨rfl, Nat.le_of_ble_eq_true rfl⟩
    · exact ⟨rfl, Nat.le_of_ble_eq_true rfl⟩
  rw [← eL]
  unfold b6_t11
  simp only [e_svs_cons, e_svs_nil, e_sv_ife, e_sv_ret, e_sv_retN, e_sv_set, e_sv_setIx, e_sv_setLc, e_sv_app, e_sv_ex, e_sv_loop, e_sv_pass, e_ev_var, e_ev_lit, e_ev_glb, e_ev_gix, e_ev_bin, e_ev_neg, e_ev_not, w_and, w_or, QT2_bool, QB_bool, e_ev_one, e_ev_cmp, w_cmp2, e_ev_ife, e_ev_tup, e_mkT, e_ev_lst, e_ev_frz, e_ev_rev, e_ev_dct, e_ev_mcall, e_ev_callD, e_ev_callT, e_sv_tryS, e_sv_raise, e_sv_setFld, e_sv_lock, e_ev_fld, e_ev_meth, e_ev_new, e_tbv_ex, e_tbv_set, e_tbv_ife, e_tbv_exSet, e_sv_brk, e_sv_cont, wp_catch, e_evc_none, e_evc_some, e_ev_ix, e_ev_sl, e_ev_bi, e_ev_mx2, e_ev_mxd, e_ev_dget, e_ev_dpop, e_ev_clr, e_ev_split, e_ev_fnv, e_ev_callV, e_ev_slc, e_ev_gin, e_ev_gixIn, e_ev_isi, e_ev_mkx, e_ev_xfl, e_ev_isx, e_ev_sset, e_ev_lset, e_ev_stp, e_ev_call, e_ev_join, e_ev_lc, e_evs_nil, e_evs_cons, e_evo_none, e_evo_some, e_evi_seq, e_evi_rng1, e_evi_rng2, e_evi_enum, e_evi_zip, e_evi_view, e_evi_rev, env0, varD, e_b_nm, e_b_tT, e_b_tL, e_b_nil, e_b_cons, wp_bind, wp_then, wp_ok, wp_truR, wp_finP, QF_nx, QF_rt, QE1_rt, QE1_nx, QT1_bool, List.map, List.length, List.replicate, List.getElem?_cons_zero, List.getElem?_cons_succ, List.set, Nat.reduceSub, List.cons_append, List.nil_append, Nat.reduceAdd, wp_ite, e_mkLT, tru_b, seqI_L, seqI_T, pures_p, pures_nil, Option.map_some, Option.bind_some, if_true, sz_0, sz_1, sz_2, sz_3, sz_4, sz_5, sz_6, sz_7, sz_8, sz_9, sz_10, sz_11, sz_12, sz_13, sz_14, sz_15, sz_16, sz_17, sz_18, sz_19, sz_20, sz_21, sz_22, sz_23, sz_24, sz_25, sz_26, sz_27, sz_28, sz_29, sz_30, sz_31, sz_32, sz_33, sz_34, sz_35, sz_36, sz_37, sz_38, sz_39, sz_40]
  refine number_then 57 fun n3 i4 u4 _ _ => ?_
  simp only [e_svs_cons, e_svs_nil, e_sv_ife, e_sv_ret, e_sv_retN, e_sv_set, e_sv_setIx, e_sv_setLc, e_sv_app, e_sv_ex, e_sv_loop, e_sv_pass, e_ev_var, e_ev_lit, e_ev_glb, e_ev_gix, e_ev_bin, e_ev_neg, e_ev_not, w_and, w_or, QT2_bool, QB_bool, e_ev_one, e_ev_cmp, w_cmp2, e_ev_ife, e_ev_tup, e_mkT, e_ev_lst, e_ev_frz, e_ev_rev, e_ev_dct, e_ev_mcall, e_ev_callD, e_ev_callT, e_sv_tryS, e_sv_raise, e_sv_setFld, e_sv_lock, e_ev_fld, e_ev_meth, e_ev_new, e_tbv_ex, e_tbv_set, e_tbv_ife, e_tbv_exSet, e_sv_brk, e_sv_cont, wp_catch, e_evc_none, e_evc_some, e_ev_ix, e_ev_sl, e_ev_bi, e_ev_mx2, e_ev_mxd, e_ev_dget, e_ev_dpop, e_ev_clr, e_ev_split, e_ev_fnv, e_ev_callV, e_ev_slc, e_ev_gin, e_ev_gixIn, e_ev_isi, e_ev_mkx, e_ev_xfl, e_ev_isx, e_ev_sset, e_ev_lset, e_ev_stp, e_ev_call, e_ev_join, e_ev_lc, e_evs_nil, e_evs_cons, e_evo_none, e_evo_some, e_evi_seq, e_evi_rng1, e_evi_rng2, e_evi_enum, e_evi_zip, e_evi_view, e_evi_rev, env0, varD, e_b_nm, e_b_tT, e_b_tL, e_b_nil, e_b_cons, wp_bind, wp_then, wp_ok, wp_truR, wp_finP, QF_nx, QF_rt, QE1_rt, QE1_nx, QT1_bool, List.map, List.length, List.replicate, List.getElem?_cons_zero, List.getElem?_cons_succ, List.set, Nat.reduceSub, List.cons_append, List.nil_append, Nat.reduceAdd, wp_ite, e_mkLT, tru_b, seqI_L, seqI_T, pures_p, pures_nil, Option.map_some, Option.bind_some, if_true, sz_0, sz_1, sz_2, sz_3, sz_4, sz_5, sz_6, sz_7, sz_8, sz_9, sz_10, sz_11, sz_12, sz_13, sz_14, sz_15, sz_16, sz_17, sz_18, sz_19, sz_20, sz_21, sz_22, sz_23, sz_24, sz_25, sz_26, sz_27, sz_28, sz_29, sz_30, sz_31, sz_32, sz_33, sz_34, sz_35, sz_36, sz_37, sz_38, sz_39, sz_40]
  refine number_then 57 fun n4 i5 u5 _ _ => ?_
  simp only [e_svs_cons, e_svs_nil, e_sv_ife, e_sv_ret, e_sv_retN, e_sv_set, e_sv_setIx, e_sv_setLc, e_sv_app, e_sv_ex, e_sv_loop, e_sv_pass, e_ev_var, e_ev_lit, e_ev_glb, e_ev_gix, e_ev_bin, e_ev_neg, e_ev_not, w_and, w_or, QT2_bool, QB_bool, e_ev_one, e_ev_cmp, w_cmp2, e_ev_ife, e_ev_tup, e_mkT, e_ev_lst, e_ev_frz, e_ev_rev, e_ev_dct, e_ev_mcall, e_ev_callD, e_ev_callT, e_sv_tryS, e_sv_raise, e_sv_setFld, e_sv_lock, e_ev_fld, e_ev_meth, e_ev_new, e_tbv_ex, e_tbv_set, e_tbv_ife, e_tbv_exSet, e_sv_brk, e_sv_cont, wp_catch, e_evc_none, e_evc_some, e_ev_ix, e_ev_sl, e_ev_bi, e_ev_mx2, e_ev_mxd, e_ev_dget, e_ev_dpop, e_ev_clr, e_ev_split, e_ev_fnv, e_ev_callV, e_ev_slc, e_ev_gin, e_ev_gixIn, e_ev_isi, e_ev_mkx, e_ev_xfl, e_ev_isx, e_ev_sset, e_ev_lset, e_ev_stp, e_ev_call, e_ev_join, e_ev_lc, e_evs_nil, e_evs_cons, e_evo_none, e_evo_some, e_evi_seq, e_evi_rng1, e_evi_rng2, e_evi_enum, e_evi_zip, e_evi_view, e_evi_rev, env0, varD, e_b_nm, e_b_tT, e_b_tL, e_b_nil, e_b_cons, wp_bind, wp_then, wp_ok, wp_truR, wp_finP, QF_nx, QF_rt, QE1_rt, QE1_nx, QT1_bool, List.map, List.length, List.replicate, List.getElem?_cons_zero, List.getElem?_cons_succ, List.set, Nat.reduceSub, List.cons_append, List.nil_append, Nat.reduceAdd, wp_ite, e_mkLT, tru_b, seqI_L, seqI_T, pures_p, pures_nil, Option.map_some, Option.bind_some, if_true, sz_0, sz_1, sz_2, sz_3, sz_4, sz_5, sz_6, sz_7, sz_8, sz_9, sz_10, sz_11, sz_12, sz_13, sz_14, sz_15, sz_16, sz_17, sz_18, sz_19, sz_20, sz_21, sz_22, sz_23, sz_24, sz_25, sz_26, sz_27, sz_28, sz_29, sz_30, sz_31, sz_32, sz_33, sz_34, sz_35, sz_36, sz_37, sz_38, sz_39, sz_40, e_sub, mkL_2e]
  refine take_then 58 (by decide) (by decide) fun t' i6 u6 t0' t1' => ?_
  simp only [e_svs_cons, e_svs_nil, e_sv_ife, e_sv_ret, e_sv_retN, e_sv_set, e_sv_setIx, e_sv_setLc, e_sv_app, e_sv_ex, e_sv_loop, e_sv_pass, e_ev_var, e_ev_lit, e_ev_glb, e_ev_gix, e_ev_bin, e_ev_neg, e_ev_not, w_and, w_or, QT2_bool, QB_bool, e_ev_one, e_ev_cmp, w_cmp2, e_ev_ife, e_ev_tup, e_mkT, e_ev_lst, e_ev_frz, e_ev_rev, e_ev_dct, e_ev_mcall, e_ev_callD, e_ev_callT, e_sv_tryS, e_sv_raise, e_sv_setFld, e_sv_lock, e_ev_fld, e_ev_meth, e_ev_new, e_tbv_ex, e_tbv_set, e_tbv_ife, e_tbv_exSet, e_sv_brk, e_sv_cont, wp_catch, e_evc_none, e_evc_some, e_ev_ix, e_ev_sl, e_ev_bi, e_ev_mx2, e_ev_mxd, e_ev_dget, e_ev_dpop, e_ev_clr, e_ev_split, e_ev_fnv, e_ev_callV, e_ev_slc, e_ev_gin, e_ev_gixIn, e_ev_isi, e_ev_mkx, e_ev_xfl, e_ev_isx, e_ev_sset, e_ev_lset, e_ev_stp, e_ev_call, e_ev_join, e_ev_lc, e_evs_nil, e_evs_cons, e_evo_none, e_evo_some, e_evi_seq, e_evi_rng1, e_evi_rng2, e_evi_enum, e_evi_zip, e_evi_view, e_evi_rev, env0, varD, e_b_nm, e_b_tT, e_b_tL, e_b_nil, e_b_cons, wp_bind, wp_then, wp_ok, wp_truR, wp_finP, QF_nx, QF_rt, QE1_rt, QE1_nx, QT1_bool, List.map, List.length, List.replicate, List.getElem?_cons_zero, List.getElem?_cons_succ, List.set, Nat.reduceSub, List.cons_append, List.nil_append, Nat.reduceAdd, wp_ite, e_mkLT, tru_b, seqI_L, seqI_T, pures_p, pures_nil, Option.map_some, Option.bind_some, if_true, sz_0, sz_1, sz_2, sz_3, sz_4, sz_5, sz_6, sz_7, sz_8, sz_9, sz_10, sz_11, sz_12, sz_13, sz_14, sz_15, sz_16, sz_17, sz_18, sz_19, sz_20, sz_21, sz_22, sz_23, sz_24, sz_25, sz_26, sz_27, sz_28, sz_29, sz_30, sz_31, sz_32, sz_33, sz_34, sz_35, sz_36, sz_37, sz_38, sz_39, sz_40, e_slL]
  obtain ⟨R, eR⟩ : ∃ R, R = [PyData.tuple [.str "b", .str "a", .int n3], .tuple [.str "a", .str "b", .int (0 - n4)]] := ⟨_, rfl⟩
  have R1 : ∀ y ∈ R, y.plain = true ∧ y.depth ≤ 1 := by
    rw [eR]
    intro y hy
    simp only [List.mem_cons, List.not_mem_nil, or_false] at hy
    rcases hy with rfl | rfl
    · exact ⟨rfl, Nat.le_of_ble_eq_true rfl⟩
    · exact ⟨rfl, Nat.le_of_ble_eq_true rfl⟩
  rw [← eR]
  exact law13e (plain_lI fun y hy => (L1 y (cut_memI hy)).1) (plain_lI fun y hy => (R1 y (cut_memI hy)).1) (Nat.le_trans (depth_lI fun y hy => (L1 y (cut_memI hy)).2) (by decide)) (Nat.le_trans (depth_lI fun y hy => (R1 y (cut_memI hy)).2) (by decide)) hQ
def made6 : List D := [.c 2, .c 3, .c 4, .c 6, .c 8, .c 10, .c 11, .c 12, .c 13]
theorem cls_at {cs : List Int} {i : Nat} {u a b c : Int} : ∀ (j : Nat), j < 9 → ∃ m k fs, made6[j]? = some (.c m) ∧ (pen cs i u ++ EE a b c)[m]? = some (.exv k fs) ∧ k ∈ kl ∧ (kr.map fun d => decide (k = d)) = (List.range 9).map fun n : Nat => ((n : Int) == (j : Int))
  | 0, _ => ⟨2, "NoRow", _, rfl, rfl, by decide +kernel, by decide +kernel⟩
  | 1, _ => ⟨3, "NoText", _, rfl, rfl, by decide +kernel, by decide +kernel⟩
  | 2, _ => ⟨4, "Clash", _, rfl, rfl, by decide +kernel, by decide +kernel⟩
  | 3, _ => ⟨6, "Short", _, rfl, rfl, by decide +kernel, by decide +kernel⟩
  | 4, _ => ⟨8, "OffTime", _, rfl, rfl, by decide +kernel, by decide +kernel⟩
  | 5, _ => ⟨10, "NoAsk", _, rfl, rfl, by decide +kernel, by decide +kernel⟩
  | 6, _ => ⟨11, "NoJob", _, rfl, rfl, by decide +kernel, by decide +kernel⟩
  | 7, _ => ⟨12, "TooMany", _, rfl, rfl, by decide +kernel, by decide +kernel⟩
  | 8, _ => ⟨13, "NoLine", _, rfl, rfl, by decide +kernel, by decide +kernel⟩
  | n + 9, h => absurd h (by omega)
theorem law6e {cs : List Int} {i : Nat} {u a b c : Int} {x0 : Option D} {Q : Fl → Store → Prop} (hQ : ∀ st, Q (.rt (.p (.bool true))) st) :
    wpe NoX (svs (semK defs 60) b6_t6 [x0, some (.c 1), some (.p (.int a)), some (.p (.list [some6 b])), some (.p (.list [link6 c])), some (.c 15), none, none, none, none, none, none] (pen cs i u ++ EE a b c)) Q := by
  unfold b6_t6
  have cst : Clo (pen cs i u ++ EE a b c) := clo_of (ok6 a b c)
  have g15 : cellL (pen cs i u ++ EE a b c) 15 = some made6 := rfl
  simp only [e_svs_cons, e_svs_nil, e_sv_ife, e_sv_ret, e_sv_retN, e_sv_set, e_sv_setIx, e_sv_setLc, e_sv_app, e_sv_ex, e_sv_loop, e_sv_pass, e_ev_var, e_ev_lit, e_ev_glb, e_ev_gix, e_ev_bin, e_ev_neg, e_ev_not, w_and, w_or, QT2_bool, QB_bool, e_ev_one, e_ev_cmp, w_cmp2, e_ev_ife, e_ev_tup, e_mkT, e_ev_lst, e_ev_frz, e_ev_rev, e_ev_dct, e_ev_mcall, e_ev_callD, e_ev_callT, e_sv_tryS, e_sv_raise, e_sv_setFld, e_sv_lock, e_ev_fld, e_ev_meth, e_ev_new, e_tbv_ex, e_tbv_set, e_tbv_ife, e_tbv_exSet, e_sv_brk, e_sv_cont, wp_catch, e_evc_none, e_evc_some, e_ev_ix, e_ev_sl, e_ev_bi, e_ev_mx2, e_ev_mxd, e_ev_dget, e_ev_dpop, e_ev_clr, e_ev_split, e_ev_fnv, e_ev_callV, e_ev_slc, e_ev_gin, e_ev_gixIn, e_ev_isi, e_ev_mkx, e_ev_xfl, e_ev_isx, e_ev_sset, e_ev_lset, e_ev_stp, e_ev_call, e_ev_join, e_ev_lc, e_evs_nil, e_evs_cons, e_evo_none, e_evo_some, e_evi_seq, e_evi_rng1, e_evi_rng2, e_evi_enum, e_evi_zip, e_evi_view, e_evi_rev, env0, varD, e_b_nm, e_b_tT, e_b_tL, e_b_nil, e_b_cons, wp_bind, wp_then, wp_ok, wp_truR, wp_finP, QF_nx, QF_rt, QE1_rt, QE1_nx, QT1_bool, List.map, List.length, List.replicate, List.getElem?_cons_zero, List.getElem?_cons_succ, List.set, Nat.reduceSub, List.cons_append, List.nil_append, Nat.reduceAdd, wp_ite, e_mkLT, tru_b, seqI_L, seqI_T, pures_p, pures_nil, Option.map_some, Option.bind_some, if_true, sz_0, sz_1, sz_2, sz_3, sz_4, sz_5, sz_6, sz_7, sz_8, sz_9, sz_10, sz_11, sz_12, sz_13, sz_14, sz_15, sz_16, sz_17, sz_18, sz_19, sz_20, sz_21, sz_22, sz_23, sz_24, sz_25, sz_26, sz_27, sz_28, sz_29, sz_30, sz_31, sz_32, sz_33, sz_34, sz_35, sz_36, sz_37, sz_38, sz_39, sz_40, show (9 : Int) = ((9 : Nat) : Int) from rfl, e_rng0 9 (by decide)]
  refine wp_for0 (fun j env st => st = pen cs i u ++ EE a b c ∧ ∃ x6, env = [x0, some (.c 1), some (.p (.int a)), some (.p (.list [some6 b])), some (.p (.list [link6 c])), some (.c 15), x6, none, none, none, none, none])
    ⟨rfl, _, rfl⟩ (fun _ _ _ _ => trivial) (fun j hj env st h => ?_) (fun env st h => ?_)
  · obtain ⟨rfl, x6, rfl⟩ := h
    have hj9 : j < 9 := by simpa using hj
    obtain ⟨m, k, fs, h1, h2, hk, keq⟩ := cls_at (cs := cs) (i := i) (u := u) (a := a) (b := b) (c := c) j hj9
    refine ⟨_, by rw [List.getElem_map, List.getElem_range]; rfl, ?_⟩
    unfold b6_l0
    have eix : ixD (.c 15) (.p (.int (j : Int))) (pen cs i u ++ EE a b c) = .ok (.c m) (pen cs i u ++ EE a b c) := by rw [ix_c g15, atI_nat h1]
    simp only [e_svs_cons, e_svs_nil, e_sv_ife, e_sv_ret, e_sv_retN, e_sv_set, e_sv_setIx, e_sv_setLc, e_sv_app, e_sv_ex, e_sv_loop, e_sv_pass, e_ev_var, e_ev_lit, e_ev_glb, e_ev_gix, e_ev_bin, e_ev_neg, e_ev_not, w_and, w_or, QT2_bool, QB_bool, e_ev_one, e_ev_cmp, w_cmp2, e_ev_ife, e_ev_tup, e_mkT, e_ev_lst, e_ev_frz, e_ev_rev, e_ev_dct, e_ev_mcall, e_ev_callD, e_ev_callT, e_sv_tryS, e_sv_raise, e_sv_setFld, e_sv_lock, e_ev_fld, e_ev_meth, e_ev_new, e_tbv_ex, e_tbv_set, e_tbv_ife, e_tbv_exSet, e_sv_brk, e_sv_cont, wp_catch, e_evc_none, e_evc_some, e_ev_ix, e_ev_sl, e_ev_bi, e_ev_mx2, e_ev_mxd, e_ev_dget, e_ev_dpop, e_ev_clr, e_ev_split, e_ev_fnv, e_ev_callV, e_ev_slc, e_ev_gin, e_ev_gixIn, e_ev_isi, e_ev_mkx, e_ev_xfl, e_ev_isx, e_ev_sset, e_ev_lset, e_ev_stp, e_ev_call, e_ev_join, e_ev_lc, e_evs_nil, e_evs_cons, e_evo_none, e_evo_some, e_evi_seq, e_evi_rng1, e_evi_rng2, e_evi_enum, e_evi_zip, e_evi_view, e_evi_rev, env0, varD, e_b_nm, e_b_tT, e_b_tL, e_b_nil, e_b_cons, wp_bind, wp_then, wp_ok, wp_truR, wp_finP, QF_nx, QF_rt, QE1_rt, QE1_nx, QT1_bool, List.map, List.length, List.replicate, List.getElem?_cons_zero, List.getElem?_cons_succ, List.set, Nat.reduceSub, List.cons_append, List.nil_append, Nat.reduceAdd, wp_ite, e_mkLT, tru_b, seqI_L, seqI_T, pures_p, pures_nil, Option.map_some, Option.bind_some, if_true, sz_0, sz_1, sz_2, sz_3, sz_4, sz_5, sz_6, sz_7, sz_8, sz_9, sz_10, sz_11, sz_12, sz_13, sz_14, sz_15, sz_16, sz_17, sz_18, sz_19, sz_20, sz_21, sz_22, sz_23, sz_24, sz_25, sz_26, sz_27, sz_28, sz_29, sz_30, sz_31, sz_32, sz_33, sz_34, sz_35, sz_36, sz_37, sz_38, sz_39, sz_40, eix, e_isxO (exv_at h2) (val_all k hk), Bool.not_true, Bool.false_eq_true, if_false]
    refine sorts_then 59 (exv_at h2) hk ?_
    simp only [e_svs_cons, e_svs_nil, e_sv_ife, e_sv_ret, e_sv_retN, e_sv_set, e_sv_setIx, e_sv_setLc, e_sv_app, e_sv_ex, e_sv_loop, e_sv_pass, e_ev_var, e_ev_lit, e_ev_glb, e_ev_gix, e_ev_bin, e_ev_neg, e_ev_not, w_and, w_or, QT2_bool, QB_bool, e_ev_one, e_ev_cmp, w_cmp2, e_ev_ife, e_ev_tup, e_mkT, e_ev_lst, e_ev_frz, e_ev_rev, e_ev_dct, e_ev_mcall, e_ev_callD, e_ev_callT, e_sv_tryS, e_sv_raise, e_sv_setFld, e_sv_lock, e_ev_fld, e_ev_meth, e_ev_new, e_tbv_ex, e_tbv_set, e_tbv_ife, e_tbv_exSet, e_sv_brk, e_sv_cont, wp_catch, e_evc_none, e_evc_some, e_ev_ix, e_ev_sl, e_ev_bi, e_ev_mx2, e_ev_mxd, e_ev_dget, e_ev_dpop, e_ev_clr, e_ev_split, e_ev_fnv, e_ev_callV, e_ev_slc, e_ev_gin, e_ev_gixIn, e_ev_isi, e_ev_mkx, e_ev_xfl, e_ev_isx, e_ev_sset, e_ev_lset, e_ev_stp, e_ev_call, e_ev_join, e_ev_lc, e_evs_nil, e_evs_cons, e_evo_none, e_evo_some, e_evi_seq, e_evi_rng1, e_evi_rng2, e_evi_enum, e_evi_zip, e_evi_view, e_evi_rev, env0, varD, e_b_nm, e_b_tT, e_b_tL, e_b_nil, e_b_cons, wp_bind, wp_then, wp_ok, wp_truR, wp_finP, QF_nx, QF_rt, QE1_rt, QE1_nx, QT1_bool, List.map, List.length, List.replicate, List.getElem?_cons_zero, List.getElem?_cons_succ, List.set, Nat.reduceSub, List.cons_append, List.nil_append, Nat.reduceAdd, wp_ite, e_mkLT, tru_b, seqI_L, seqI_T, pures_p, pures_nil, Option.map_some, Option.bind_some, if_true, sz_0, sz_1, sz_2, sz_3, sz_4, sz_5, sz_6, sz_7, sz_8, sz_9, sz_10, sz_11, sz_12, sz_13, sz_14, sz_15, sz_16, sz_17, sz_18, sz_19, sz_20, sz_21, sz_22, sz_23, sz_24, sz_25, sz_26, sz_27, sz_28, sz_29, sz_30, sz_31, sz_32, sz_33, sz_34, sz_35, sz_36, sz_37, sz_38, sz_39, sz_40, show (9 : Int) = ((9 : Nat) : Int) from rfl, e_rng0 9 (by decide)]
    refine lc_range cst (N := 9) (by decide) (f := fun n => .bool ((n : Int) == (j : Int))) (fun n hn S => ?_) ?_
    · simp only [e_svs_cons, e_svs_nil, e_sv_ife, e_sv_ret, e_sv_retN, e_sv_set, e_sv_setIx, e_sv_setLc, e_sv_app, e_sv_ex, e_sv_loop, e_sv_pass, e_ev_var, e_ev_lit, e_ev_glb, e_ev_gix, e_ev_bin, e_ev_neg, e_ev_not, w_and, w_or, QT2_bool, QB_bool, e_ev_one, e_ev_cmp, w_cmp2, e_ev_ife, e_ev_tup, e_mkT, e_ev_lst, e_ev_frz, e_ev_rev, e_ev_dct, e_ev_mcall, e_ev_callD, e_ev_callT, e_sv_tryS, e_sv_raise, e_sv_setFld, e_sv_lock, e_ev_fld, e_ev_meth, e_ev_new, e_tbv_ex, e_tbv_set, e_tbv_ife, e_tbv_exSet, e_sv_brk, e_sv_cont, wp_catch, e_evc_none, e_evc_some, e_ev_ix, e_ev_sl, e_ev_bi, e_ev_mx2, e_ev_mxd, e_ev_dget, e_ev_dpop, e_ev_clr, e_ev_split, e_ev_fnv, e_ev_callV, e_ev_slc, e_ev_gin, e_ev_gixIn, e_ev_isi, e_ev_mkx, e_ev_xfl, e_ev_isx, e_ev_sset, e_ev_lset, e_ev_stp, e_ev_call, e_ev_join, e_ev_lc, e_evs_nil, e_evs_cons, e_evo_none, e_evo_some, e_evi_seq, e_evi_rng1, e_evi_rng2, e_evi_enum, e_evi_zip, e_evi_view, e_evi_rev, env0, varD, e_b_nm, e_b_tT, e_b_tL, e_b_nil, e_b_cons, wp_bind, wp_then, wp_ok, wp_truR, wp_finP, QF_nx, QF_rt, QE1_rt, QE1_nx, QT1_bool, List.map, List.length, List.replicate, List.getElem?_cons_zero, List.getElem?_cons_succ, List.set, Nat.reduceSub, List.cons_append, List.nil_append, Nat.reduceAdd, wp_ite, e_mkLT, tru_b, seqI_L, seqI_T, pures_p, pures_nil, Option.map_some, Option.bind_some, if_true, sz_0, sz_1, sz_2, sz_3, sz_4, sz_5, sz_6, sz_7, sz_8, sz_9, sz_10, sz_11, sz_12, sz_13, sz_14, sz_15, sz_16, sz_17, sz_18, sz_19, sz_20, sz_21, sz_22, sz_23, sz_24, sz_25, sz_26, sz_27, sz_28, sz_29, sz_30, sz_31, sz_32, sz_33, sz_34, sz_35, sz_36, sz_37, sz_38, sz_39, sz_40, wipeE, MP.R.bind_ok, e_eqi]
    · have keq2 : (kr.map fun d => PyData.bool (decide (k = d))) = (List.range 9).map fun n : Nat => PyData.bool ((n : Int) == (j : Int)) := by
        have := congrArg (List.map PyData.bool) keq
        rwa [List.map_map, List.map_map] at this
      rw [keq2]
      have hp : PyData.plain (.list ((List.range 9).map fun n : Nat => PyData.bool ((n : Int) == (j : Int)))) = true := rfl
      have hd : min (PyData.list ((List.range 9).map fun n : Nat => PyData.bool ((n : Int) == (j : Int)))).depth (PyData.list ((List.range 9).map fun n : Nat => PyData.bool ((n : Int) == (j : Int)))).depth ≤ 64 := Nat.le_of_ble_eq_true rfl
      rw [e_neX hd, eqv_self hp]
      simp only [e_svs_cons, e_svs_nil, e_sv_ife, e_sv_ret, e_sv_retN, e_sv_set, e_sv_setIx, e_sv_setLc, e_sv_app, e_sv_ex, e_sv_loop, e_sv_pass, e_ev_var, e_ev_lit, e_ev_glb, e_ev_gix, e_ev_bin, e_ev_neg, e_ev_not, w_and, w_or, QT2_bool, QB_bool, e_ev_one, e_ev_cmp, w_cmp2, e_ev_ife, e_ev_tup, e_mkT, e_ev_lst, e_ev_frz, e_ev_rev, e_ev_dct, e_ev_mcall, e_ev_callD, e_ev_callT, e_sv_tryS, e_sv_raise, e_sv_setFld, e_sv_lock, e_ev_fld, e_ev_meth, e_ev_new, e_tbv_ex, e_tbv_set, e_tbv_ife, e_tbv_exSet, e_sv_brk, e_sv_cont, wp_catch, e_evc_none, e_evc_some, e_ev_ix, e_ev_sl, e_ev_bi, e_ev_mx2, e_ev_mxd, e_ev_dget, e_ev_dpop, e_ev_clr, e_ev_split, e_ev_fnv, e_ev_callV, e_ev_slc, e_ev_gin, e_ev_gixIn, e_ev_isi, e_ev_mkx, e_ev_xfl, e_ev_isx, e_ev_sset, e_ev_lset, e_ev_stp, e_ev_call, e_ev_join, e_ev_lc, e_evs_nil, e_evs_cons, e_evo_none, e_evo_some, e_evi_seq, e_evi_rng1, e_evi_rng2, e_evi_enum, e_evi_zip, e_evi_view, e_evi_rev, env0, varD, e_b_nm, e_b_tT, e_b_tL, e_b_nil, e_b_cons, wp_bind, wp_then, wp_ok, wp_truR, wp_finP, QF_nx, QF_rt, QE1_rt, QE1_nx, QT1_bool, List.map, List.length, List.replicate, List.getElem?_cons_zero, List.getElem?_cons_succ, List.set, Nat.reduceSub, List.cons_append, List.nil_append, Nat.reduceAdd, wp_ite, e_mkLT, tru_b, seqI_L, seqI_T, pures_p, pures_nil, Option.map_some, Option.bind_some, if_true, sz_0, sz_1, sz_2, sz_3, sz_4, sz_5, sz_6, sz_7, sz_8, sz_9, sz_10, sz_11, sz_12, sz_13, sz_14, sz_15, sz_16, sz_17, sz_18, sz_19, sz_20, sz_21, sz_22, sz_23, sz_24, sz_25, sz_26, sz_27, sz_28, sz_29, sz_30, sz_31, sz_32, sz_33, sz_34, sz_35, sz_36, sz_37, sz_38, sz_39, sz_40, Bool.not_true, Bool.false_eq_true, if_false, QN_nx]
      exact ⟨trivial, _, rfl⟩
  · obtain ⟨rfl, x6, rfl⟩ := h
    have i0 : ∀ (j m : Nat) st, cellL st 15 = some made6 → made6[j]? = some (.c m) → ixD (.c 15) (.p (.int (j : Int))) st = .ok (.c m) st := fun j m st h1 h2 => by rw [ix_c h1, atI_nat h2]
    have x0' := i0 0 2 _ g15 rfl
    have x1' := i0 1 3 _ g15 rfl
    have x2' := i0 2 4 _ g15 rfl
    have x3' := i0 3 6 _ g15 rfl
    have f0 : xflD "NoRow" "number" (.c 2) (pen cs i u ++ EE a b c) = .ok (.p (.int a)) (pen cs i u ++ EE a b c) := e_xfl rfl (lk_1 _ _)
    have f1 : xflD "NoText" "number" (.c 3) (pen cs i u ++ EE a b c) = .ok (.p (.int (a + 2))) (pen cs i u ++ EE a b c) := e_xfl rfl (lk_1 _ _)
    have f2 : xflD "Clash" "first" (.c 4) (pen cs i u ++ EE a b c) = .ok (.p (.int a)) (pen cs i u ++ EE a b c) := e_xfl rfl (lk_c1 _ _)
    have f3 : xflD "Clash" "second" (.c 4) (pen cs i u ++ EE a b c) = .ok (.p (.int (a + 1))) (pen cs i u ++ EE a b c) := e_xfl rfl (lk_c2 _ _)
    have f4 : xflD "Short" "side" (.c 6) (pen cs i u ++ EE a b c) = .ok (.p (.str "asks")) (pen cs i u ++ EE a b c) := e_xfl rfl (lk_s1 _ _)
    simp only [QF_nx, e_svs_cons, e_svs_nil, e_sv_ife, e_sv_ret, e_sv_retN, e_sv_set, e_sv_setIx, e_sv_setLc, e_sv_app, e_sv_ex, e_sv_loop, e_sv_pass, e_ev_var, e_ev_lit, e_ev_glb, e_ev_gix, e_ev_bin, e_ev_neg, e_ev_not, w_and, w_or, QT2_bool, QB_bool, e_ev_one, e_ev_cmp, w_cmp2, e_ev_ife, e_ev_tup, e_mkT, e_ev_lst, e_ev_frz, e_ev_rev, e_ev_dct, e_ev_mcall, e_ev_callD, e_ev_callT, e_sv_tryS, e_sv_raise, e_sv_setFld, e_sv_lock, e_ev_fld, e_ev_meth, e_ev_new, e_tbv_ex, e_tbv_set, e_tbv_ife, e_tbv_exSet, e_sv_brk, e_sv_cont, wp_catch, e_evc_none, e_evc_some, e_ev_ix, e_ev_sl, e_ev_bi, e_ev_mx2, e_ev_mxd, e_ev_dget, e_ev_dpop, e_ev_clr, e_ev_split, e_ev_fnv, e_ev_callV, e_ev_slc, e_ev_gin, e_ev_gixIn, e_ev_isi, e_ev_mkx, e_ev_xfl, e_ev_isx, e_ev_sset, e_ev_lset, e_ev_stp, e_ev_call, e_ev_join, e_ev_lc, e_evs_nil, e_evs_cons, e_evo_none, e_evo_some, e_evi_seq, e_evi_rng1, e_evi_rng2, e_evi_enum, e_evi_zip, e_evi_view, e_evi_rev, env0, varD, e_b_nm, e_b_tT, e_b_tL, e_b_nil, e_b_cons, wp_bind, wp_then, wp_ok, wp_truR, wp_finP, QF_nx, QF_rt, QE1_rt, QE1_nx, QT1_bool, List.map, List.length, List.replicate, List.getElem?_cons_zero, List.getElem?_cons_succ, List.set, Nat.reduceSub, List.cons_append, List.nil_append, Nat.reduceAdd, wp_ite, e_mkLT, tru_b, seqI_L, seqI_T, pures_p, pures_nil, Option.map_some, Option.bind_some, if_true, sz_0, sz_1, sz_2, sz_3, sz_4, sz_5, sz_6, sz_7, sz_8, sz_9, sz_10, sz_11, sz_12, sz_13, sz_14, sz_15, sz_16, sz_17, sz_18, sz_19, sz_20, sz_21, sz_22, sz_23, sz_24, sz_25, sz_26, sz_27, sz_28, sz_29, sz_30, sz_31, sz_32, sz_33, sz_34, sz_35, sz_36, sz_37, sz_38, sz_39, sz_40, x0', x1', x2', x3', show ixD (.c 15) (.p (.int 0)) (pen cs i u ++ EE a b c) = .ok (.c 2) (pen cs i u ++ EE a b c) from x0', show ixD (.c 15) (.p (.int 1)) (pen cs i u ++ EE a b c) = .ok (.c 3) (pen cs i u ++ EE a b c) from x1', show ixD (.c 15) (.p (.int 2)) (pen cs i u ++ EE a b c) = .ok (.c 4) (pen cs i u ++ EE a b c) from x2', show ixD (.c 15) (.p (.int 3)) (pen cs i u ++ EE a b c) = .ok (.c 6) (pen cs i u ++ EE a b c) from x3', f0, f1, f2, f3, f4, e_frzP, mkL_5e]
    unfold b6_t8
    have x3'' : ixD (.c 15) (.p (.int 3)) (pen cs i u ++ EE a b c) = .ok (.c 6) (pen cs i u ++ EE a b c) := x3'
    have f5 : xflD "Short" "some" (.c 6) (pen cs i u ++ EE a b c) = .ok (.c 5) (pen cs i u ++ EE a b c) := e_xfl rfl (lk_s2 _ _)
    have z5 : frzD (.c 5) (pen cs i u ++ EE a b c) = .ok (.p (.list [some6 b])) (pen cs i u ++ E1 a b c) := e_frzC (xs := [some6 b]) rfl
    have x4' : ixD (.c 15) (.p (.int 4)) (pen cs i u ++ E1 a b c) = .ok (.c 8) (pen cs i u ++ E1 a b c) := i0 4 8 _ rfl rfl
    have f6 : xflD "OffTime" "links" (.c 8) (pen cs i u ++ E1 a b c) = .ok (.c 7) (pen cs i u ++ E1 a b c) := e_xfl rfl (lk_1 _ _)
    have z7 : frzD (.c 7) (pen cs i u ++ E1 a b c) = .ok (.p (.list [link6 c])) (pen cs i u ++ E2 a b c) := e_frzC (xs := [link6 c]) rfl
    simp only [e_svs_cons, e_svs_nil, e_sv_ife, e_sv_ret, e_sv_retN, e_sv_set, e_sv_setIx, e_sv_setLc, e_sv_app, e_sv_ex, e_sv_loop, e_sv_pass, e_ev_var, e_ev_lit, e_ev_glb, e_ev_gix, e_ev_bin, e_ev_neg, e_ev_not, w_and, w_or, QT2_bool, QB_bool, e_ev_one, e_ev_cmp, w_cmp2, e_ev_ife, e_ev_tup, e_mkT, e_ev_lst, e_ev_frz, e_ev_rev, e_ev_dct, e_ev_mcall, e_ev_callD, e_ev_callT, e_sv_tryS, e_sv_raise, e_sv_setFld, e_sv_lock, e_ev_fld, e_ev_meth, e_ev_new, e_tbv_ex, e_tbv_set, e_tbv_ife, e_tbv_exSet, e_sv_brk, e_sv_cont, wp_catch, e_evc_none, e_evc_some, e_ev_ix, e_ev_sl, e_ev_bi, e_ev_mx2, e_ev_mxd, e_ev_dget, e_ev_dpop, e_ev_clr, e_ev_split, e_ev_fnv, e_ev_callV, e_ev_slc, e_ev_gin, e_ev_gixIn, e_ev_isi, e_ev_mkx, e_ev_xfl, e_ev_isx, e_ev_sset, e_ev_lset, e_ev_stp, e_ev_call, e_ev_join, e_ev_lc, e_evs_nil, e_evs_cons, e_evo_none, e_evo_some, e_evi_seq, e_evi_rng1, e_evi_rng2, e_evi_enum, e_evi_zip, e_evi_view, e_evi_rev, env0, varD, e_b_nm, e_b_tT, e_b_tL, e_b_nil, e_b_cons, wp_bind, wp_then, wp_ok, wp_truR, wp_finP, QF_nx, QF_rt, QE1_rt, QE1_nx, QT1_bool, List.map, List.length, List.replicate, List.getElem?_cons_zero, List.getElem?_cons_succ, List.set, Nat.reduceSub, List.cons_append, List.nil_append, Nat.reduceAdd, wp_ite, e_mkLT, tru_b, seqI_L, seqI_T, pures_p, pures_nil, Option.map_some, Option.bind_some, if_true, sz_0, sz_1, sz_2, sz_3, sz_4, sz_5, sz_6, sz_7, sz_8, sz_9, sz_10, sz_11, sz_12, sz_13, sz_14, sz_15, sz_16, sz_17, sz_18, sz_19, sz_20, sz_21, sz_22, sz_23, sz_24, sz_25, sz_26, sz_27, sz_28, sz_29, sz_30, sz_31, sz_32, sz_33, sz_34, sz_35, sz_36, sz_37, sz_38, sz_39, sz_40, x3'', f5, z5, x4', f6, z7, mkL_2e, e_addLs1 [_, _, _, _, _] [_, _] (Nat.le_of_ble_eq_true rfl)]
    unfold b6_t9
    simp only [e_svs_cons, e_svs_nil, e_sv_ife, e_sv_ret, e_sv_retN, e_sv_set, e_sv_setIx, e_sv_setLc, e_sv_app, e_sv_ex, e_sv_loop, e_sv_pass, e_ev_var, e_ev_lit, e_ev_glb, e_ev_gix, e_ev_bin, e_ev_neg, e_ev_not, w_and, w_or, QT2_bool, QB_bool, e_ev_one, e_ev_cmp, w_cmp2, e_ev_ife, e_ev_tup, e_mkT, e_ev_lst, e_ev_frz, e_ev_rev, e_ev_dct, e_ev_mcall, e_ev_callD, e_ev_callT, e_sv_tryS, e_sv_raise, e_sv_setFld, e_sv_lock, e_ev_fld, e_ev_meth, e_ev_new, e_tbv_ex, e_tbv_set, e_tbv_ife, e_tbv_exSet, e_sv_brk, e_sv_cont, wp_catch, e_evc_none, e_evc_some, e_ev_ix, e_ev_sl, e_ev_bi, e_ev_mx2, e_ev_mxd, e_ev_dget, e_ev_dpop, e_ev_clr, e_ev_split, e_ev_fnv, e_ev_callV, e_ev_slc, e_ev_gin, e_ev_gixIn, e_ev_isi, e_ev_mkx, e_ev_xfl, e_ev_isx, e_ev_sset, e_ev_lset, e_ev_stp, e_ev_call, e_ev_join, e_ev_lc, e_evs_nil, e_evs_cons, e_evo_none, e_evo_some, e_evi_seq, e_evi_rng1, e_evi_rng2, e_evi_enum, e_evi_zip, e_evi_view, e_evi_rev, env0, varD, e_b_nm, e_b_tT, e_b_tL, e_b_nil, e_b_cons, wp_bind, wp_then, wp_ok, wp_truR, wp_finP, QF_nx, QF_rt, QE1_rt, QE1_nx, QT1_bool, List.map, List.length, List.replicate, List.getElem?_cons_zero, List.getElem?_cons_succ, List.set, Nat.reduceSub, List.cons_append, List.nil_append, Nat.reduceAdd, wp_ite, e_mkLT, tru_b, seqI_L, seqI_T, pures_p, pures_nil, Option.map_some, Option.bind_some, if_true, sz_0, sz_1, sz_2, sz_3, sz_4, sz_5, sz_6, sz_7, sz_8, sz_9, sz_10, sz_11, sz_12, sz_13, sz_14, sz_15, sz_16, sz_17, sz_18, sz_19, sz_20, sz_21, sz_22, sz_23, sz_24, sz_25, sz_26, sz_27, sz_28, sz_29, sz_30, sz_31, sz_32, sz_33, sz_34, sz_35, sz_36, sz_37, sz_38, sz_39, sz_40, e_add, mkL_7e]
    refine same_all 4 55 rfl (Nat.le_of_ble_eq_true rfl) ?_
    try simp only [e_svs_cons, e_svs_nil, e_sv_ife, e_sv_ret, e_sv_retN, e_sv_set, e_sv_setIx, e_sv_setLc, e_sv_app, e_sv_ex, e_sv_loop, e_sv_pass, e_ev_var, e_ev_lit, e_ev_glb, e_ev_gix, e_ev_bin, e_ev_neg, e_ev_not, w_and, w_or, QT2_bool, QB_bool, e_ev_one, e_ev_cmp, w_cmp2, e_ev_ife, e_ev_tup, e_mkT, e_ev_lst, e_ev_frz, e_ev_rev, e_ev_dct, e_ev_mcall, e_ev_callD, e_ev_callT, e_sv_tryS, e_sv_raise, e_sv_setFld, e_sv_lock, e_ev_fld, e_ev_meth, e_ev_new, e_tbv_ex, e_tbv_set, e_tbv_ife, e_tbv_exSet, e_sv_brk, e_sv_cont, wp_catch, e_evc_none, e_evc_some, e_ev_ix, e_ev_sl, e_ev_bi, e_ev_mx2, e_ev_mxd, e_ev_dget, e_ev_dpop, e_ev_clr, e_ev_split, e_ev_fnv, e_ev_callV, e_ev_slc, e_ev_gin, e_ev_gixIn, e_ev_isi, e_ev_mkx, e_ev_xfl, e_ev_isx, e_ev_sset, e_ev_lset, e_ev_stp, e_ev_call, e_ev_join, e_ev_lc, e_evs_nil, e_evs_cons, e_evo_none, e_evo_some, e_evi_seq, e_evi_rng1, e_evi_rng2, e_evi_enum, e_evi_zip, e_evi_view, e_evi_rev, env0, varD, e_b_nm, e_b_tT, e_b_tL, e_b_nil, e_b_cons, wp_bind, wp_then, wp_ok, wp_truR, wp_finP, QF_nx, QF_rt, QE1_rt, QE1_nx, QT1_bool, List.map, List.length, List.replicate, List.getElem?_cons_zero, List.getElem?_cons_succ, List.set, Nat.reduceSub, List.cons_append, List.nil_append, Nat.reduceAdd, wp_ite, e_mkLT, tru_b, seqI_L, seqI_T, pures_p, pures_nil, Option.map_some, Option.bind_some, if_true, sz_0, sz_1, sz_2, sz_3, sz_4, sz_5, sz_6, sz_7, sz_8, sz_9, sz_10, sz_11, sz_12, sz_13, sz_14, sz_15, sz_16, sz_17, sz_18, sz_19, sz_20, sz_21, sz_22, sz_23, sz_24, sz_25, sz_26, sz_27, sz_28, sz_29, sz_30, sz_31, sz_32, sz_33, sz_34, sz_35, sz_36, sz_37, sz_38, sz_39, sz_40, Bool.not_true, Bool.false_eq_true, if_false]
    exact law10e hQ
theorem run_law (ns : List Int) (hl : ns.length ≤ 63) : ∃ st, semK defs 61 6 [.p (.list (ns.map .int))] [] = .ok (.p (.bool true)) st := by
  have key : wpe NoX (semK defs 61 6 [.p (.list (ns.map .int))] []) fun d _ => d = .p (.bool true) := by
    refine wp_sem (k := 60) (d := d6) rfl rfl ?_
    simp only [d6, b6, e_svs_cons, e_svs_nil, e_sv_ife, e_sv_ret, e_sv_retN, e_sv_set, e_sv_setIx, e_sv_setLc, e_sv_app, e_sv_ex, e_sv_loop, e_sv_pass, e_ev_var, e_ev_lit, e_ev_glb, e_ev_gix, e_ev_bin, e_ev_neg, e_ev_not, w_and, w_or, QT2_bool, QB_bool, e_ev_one, e_ev_cmp, w_cmp2, e_ev_ife, e_ev_tup, e_mkT, e_ev_lst, e_ev_frz, e_ev_rev, e_ev_dct, e_ev_mcall, e_ev_callD, e_ev_callT, e_sv_tryS, e_sv_raise, e_sv_setFld, e_sv_lock, e_ev_fld, e_ev_meth, e_ev_new, e_tbv_ex, e_tbv_set, e_tbv_ife, e_tbv_exSet, e_sv_brk, e_sv_cont, wp_catch, e_evc_none, e_evc_some, e_ev_ix, e_ev_sl, e_ev_bi, e_ev_mx2, e_ev_mxd, e_ev_dget, e_ev_dpop, e_ev_clr, e_ev_split, e_ev_fnv, e_ev_callV, e_ev_slc, e_ev_gin, e_ev_gixIn, e_ev_isi, e_ev_mkx, e_ev_xfl, e_ev_isx, e_ev_sset, e_ev_lset, e_ev_stp, e_ev_call, e_ev_join, e_ev_lc, e_evs_nil, e_evs_cons, e_evo_none, e_evo_some, e_evi_seq, e_evi_rng1, e_evi_rng2, e_evi_enum, e_evi_zip, e_evi_view, e_evi_rev, env0, varD, e_b_nm, e_b_tT, e_b_tL, e_b_nil, e_b_cons, wp_bind, wp_then, wp_ok, wp_truR, wp_finP, QF_nx, QF_rt, QE1_rt, QE1_nx, QT1_bool, List.map, List.length, List.replicate, List.getElem?_cons_zero, List.getElem?_cons_succ, List.set, Nat.reduceSub, List.cons_append, List.nil_append, Nat.reduceAdd, wp_ite, e_mkLT, tru_b, seqI_L, seqI_T, pures_p, pures_nil, Option.map_some, Option.bind_some, if_true, sz_0, sz_1, sz_2, sz_3, sz_4, sz_5, sz_6, sz_7, sz_8, sz_9, sz_10, sz_11, sz_12, sz_13, sz_14, sz_15, sz_16, sz_17, sz_18, sz_19, sz_20, sz_21, sz_22, sz_23, sz_24, sz_25, sz_26, sz_27, sz_28, sz_29, sz_30, sz_31, sz_32, sz_33, sz_34, sz_35, sz_36, sz_37, sz_38, sz_39, sz_40]
    refine wp_mono (open_ok 59 ns) ?_
    rintro _ _ ⟨cs, rfl, rfl⟩
    rw [← List.append_nil (pen cs 0 0)]
    try simp only [e_svs_cons, e_svs_nil, e_sv_ife, e_sv_ret, e_sv_retN, e_sv_set, e_sv_setIx, e_sv_setLc, e_sv_app, e_sv_ex, e_sv_loop, e_sv_pass, e_ev_var, e_ev_lit, e_ev_glb, e_ev_gix, e_ev_bin, e_ev_neg, e_ev_not, w_and, w_or, QT2_bool, QB_bool, e_ev_one, e_ev_cmp, w_cmp2, e_ev_ife, e_ev_tup, e_mkT, e_ev_lst, e_ev_frz, e_ev_rev, e_ev_dct, e_ev_mcall, e_ev_callD, e_ev_callT, e_sv_tryS, e_sv_raise, e_sv_setFld, e_sv_lock, e_ev_fld, e_ev_meth, e_ev_new, e_tbv_ex, e_tbv_set, e_tbv_ife, e_tbv_exSet, e_sv_brk, e_sv_cont, wp_catch, e_evc_none, e_evc_some, e_ev_ix, e_ev_sl, e_ev_bi, e_ev_mx2, e_ev_mxd, e_ev_dget, e_ev_dpop, e_ev_clr, e_ev_split, e_ev_fnv, e_ev_callV, e_ev_slc, e_ev_gin, e_ev_gixIn, e_ev_isi, e_ev_mkx, e_ev_xfl, e_ev_isx, e_ev_sset, e_ev_lset, e_ev_stp, e_ev_call, e_ev_join, e_ev_lc, e_evs_nil, e_evs_cons, e_evo_none, e_evo_some, e_evi_seq, e_evi_rng1, e_evi_rng2, e_evi_enum, e_evi_zip, e_evi_view, e_evi_rev, env0, varD, e_b_nm, e_b_tT, e_b_tL, e_b_nil, e_b_cons, wp_bind, wp_then, wp_ok, wp_truR, wp_finP, QF_nx, QF_rt, QE1_rt, QE1_nx, QT1_bool, List.map, List.length, List.replicate, List.getElem?_cons_zero, List.getElem?_cons_succ, List.set, Nat.reduceSub, List.cons_append, List.nil_append, Nat.reduceAdd, wp_ite, e_mkLT, tru_b, seqI_L, seqI_T, pures_p, pures_nil, Option.map_some, Option.bind_some, if_true, sz_0, sz_1, sz_2, sz_3, sz_4, sz_5, sz_6, sz_7, sz_8, sz_9, sz_10, sz_11, sz_12, sz_13, sz_14, sz_15, sz_16, sz_17, sz_18, sz_19, sz_20, sz_21, sz_22, sz_23, sz_24, sz_25, sz_26, sz_27, sz_28, sz_29, sz_30, sz_31, sz_32, sz_33, sz_34, sz_35, sz_36, sz_37, sz_38, sz_39, sz_40]
    refine number_then 57 fun a i1 u1 _ _ => ?_
    try simp only [e_svs_cons, e_svs_nil, e_sv_ife, e_sv_ret, e_sv_retN, e_sv_set, e_sv_setIx, e_sv_setLc, e_sv_app, e_sv_ex, e_sv_loop, e_sv_pass, e_ev_var, e_ev_lit, e_ev_glb, e_ev_gix, e_ev_bin, e_ev_neg, e_ev_not, w_and, w_or, QT2_bool, QB_bool, e_ev_one, e_ev_cmp, w_cmp2, e_ev_ife, e_ev_tup, e_mkT, e_ev_lst, e_ev_frz, e_ev_rev, e_ev_dct, e_ev_mcall, e_ev_callD, e_ev_callT, e_sv_tryS, e_sv_raise, e_sv_setFld, e_sv_lock, e_ev_fld, e_ev_meth, e_ev_new, e_tbv_ex, e_tbv_set, e_tbv_ife, e_tbv_exSet, e_sv_brk, e_sv_cont, wp_catch, e_evc_none, e_evc_some, e_ev_ix, e_ev_sl, e_ev_bi, e_ev_mx2, e_ev_mxd, e_ev_dget, e_ev_dpop, e_ev_clr, e_ev_split, e_ev_fnv, e_ev_callV, e_ev_slc, e_ev_gin, e_ev_gixIn, e_ev_isi, e_ev_mkx, e_ev_xfl, e_ev_isx, e_ev_sset, e_ev_lset, e_ev_stp, e_ev_call, e_ev_join, e_ev_lc, e_evs_nil, e_evs_cons, e_evo_none, e_evo_some, e_evi_seq, e_evi_rng1, e_evi_rng2, e_evi_enum, e_evi_zip, e_evi_view, e_evi_rev, env0, varD, e_b_nm, e_b_tT, e_b_tL, e_b_nil, e_b_cons, wp_bind, wp_then, wp_ok, wp_truR, wp_finP, QF_nx, QF_rt, QE1_rt, QE1_nx, QT1_bool, List.map, List.length, List.replicate, List.getElem?_cons_zero, List.getElem?_cons_succ, List.set, Nat.reduceSub, List.cons_append, List.nil_append, Nat.reduceAdd, wp_ite, e_mkLT, tru_b, seqI_L, seqI_T, pures_p, pures_nil, Option.map_some, Option.bind_some, if_true, sz_0, sz_1, sz_2, sz_3, sz_4, sz_5, sz_6, sz_7, sz_8, sz_9, sz_10, sz_11, sz_12, sz_13, sz_14, sz_15, sz_16, sz_17, sz_18, sz_19, sz_20, sz_21, sz_22, sz_23, sz_24, sz_25, sz_26, sz_27, sz_28, sz_29, sz_30, sz_31, sz_32, sz_33, sz_34, sz_35, sz_36, sz_37, sz_38, sz_39, sz_40]
    refine number_then 57 fun b i2 u2 _ _ => ?_
    simp only [e_svs_cons, e_svs_nil, e_sv_ife, e_sv_ret, e_sv_retN, e_sv_set, e_sv_setIx, e_sv_setLc, e_sv_app, e_sv_ex, e_sv_loop, e_sv_pass, e_ev_var, e_ev_lit, e_ev_glb, e_ev_gix, e_ev_bin, e_ev_neg, e_ev_not, w_and, w_or, QT2_bool, QB_bool, e_ev_one, e_ev_cmp, w_cmp2, e_ev_ife, e_ev_tup, e_mkT, e_ev_lst, e_ev_frz, e_ev_rev, e_ev_dct, e_ev_mcall, e_ev_callD, e_ev_callT, e_sv_tryS, e_sv_raise, e_sv_setFld, e_sv_lock, e_ev_fld, e_ev_meth, e_ev_new, e_tbv_ex, e_tbv_set, e_tbv_ife, e_tbv_exSet, e_sv_brk, e_sv_cont, wp_catch, e_evc_none, e_evc_some, e_ev_ix, e_ev_sl, e_ev_bi, e_ev_mx2, e_ev_mxd, e_ev_dget, e_ev_dpop, e_ev_clr, e_ev_split, e_ev_fnv, e_ev_callV, e_ev_slc, e_ev_gin, e_ev_gixIn, e_ev_isi, e_ev_mkx, e_ev_xfl, e_ev_isx, e_ev_sset, e_ev_lset, e_ev_stp, e_ev_call, e_ev_join, e_ev_lc, e_evs_nil, e_evs_cons, e_evo_none, e_evo_some, e_evi_seq, e_evi_rng1, e_evi_rng2, e_evi_enum, e_evi_zip, e_evi_view, e_evi_rev, env0, varD, e_b_nm, e_b_tT, e_b_tL, e_b_nil, e_b_cons, wp_bind, wp_then, wp_ok, wp_truR, wp_finP, QF_nx, QF_rt, QE1_rt, QE1_nx, QT1_bool, List.map, List.length, List.replicate, List.getElem?_cons_zero, List.getElem?_cons_succ, List.set, Nat.reduceSub, List.cons_append, List.nil_append, Nat.reduceAdd, wp_ite, e_mkLT, tru_b, seqI_L, seqI_T, pures_p, pures_nil, Option.map_some, Option.bind_some, if_true, sz_0, sz_1, sz_2, sz_3, sz_4, sz_5, sz_6, sz_7, sz_8, sz_9, sz_10, sz_11, sz_12, sz_13, sz_14, sz_15, sz_16, sz_17, sz_18, sz_19, sz_20, sz_21, sz_22, sz_23, sz_24, sz_25, sz_26, sz_27, sz_28, sz_29, sz_30, sz_31, sz_32, sz_33, sz_34, sz_35, sz_36, sz_37, sz_38, sz_39, sz_40, mkL_1e]
    refine number_then 57 fun c i3 u3 _ _ => ?_
    simp only [e_svs_cons, e_svs_nil, e_sv_ife, e_sv_ret, e_sv_retN, e_sv_set, e_sv_setIx, e_sv_setLc, e_sv_app, e_sv_ex, e_sv_loop, e_sv_pass, e_ev_var, e_ev_lit, e_ev_glb, e_ev_gix, e_ev_bin, e_ev_neg, e_ev_not, w_and, w_or, QT2_bool, QB_bool, e_ev_one, e_ev_cmp, w_cmp2, e_ev_ife, e_ev_tup, e_mkT, e_ev_lst, e_ev_frz, e_ev_rev, e_ev_dct, e_ev_mcall, e_ev_callD, e_ev_callT, e_sv_tryS, e_sv_raise, e_sv_setFld, e_sv_lock, e_ev_fld, e_ev_meth, e_ev_new, e_tbv_ex, e_tbv_set, e_tbv_ife, e_tbv_exSet, e_sv_brk, e_sv_cont, wp_catch, e_evc_none, e_evc_some, e_ev_ix, e_ev_sl, e_ev_bi, e_ev_mx2, e_ev_mxd, e_ev_dget, e_ev_dpop, e_ev_clr, e_ev_split, e_ev_fnv, e_ev_callV, e_ev_slc, e_ev_gin, e_ev_gixIn, e_ev_isi, e_ev_mkx, e_ev_xfl, e_ev_isx, e_ev_sset, e_ev_lset, e_ev_stp, e_ev_call, e_ev_join, e_ev_lc, e_evs_nil, e_evs_cons, e_evo_none, e_evo_some, e_evi_seq, e_evi_rng1, e_evi_rng2, e_evi_enum, e_evi_zip, e_evi_view, e_evi_rev, env0, varD, e_b_nm, e_b_tT, e_b_tL, e_b_nil, e_b_cons, wp_bind, wp_then, wp_ok, wp_truR, wp_finP, QF_nx, QF_rt, QE1_rt, QE1_nx, QT1_bool, List.map, List.length, List.replicate, List.getElem?_cons_zero, List.getElem?_cons_succ, List.set, Nat.reduceSub, List.cons_append, List.nil_append, Nat.reduceAdd, wp_ite, e_mkLT, tru_b, seqI_L, seqI_T, pures_p, pures_nil, Option.map_some, Option.bind_some, if_true, sz_0, sz_1, sz_2, sz_3, sz_4, sz_5, sz_6, sz_7, sz_8, sz_9, sz_10, sz_11, sz_12, sz_13, sz_14, sz_15, sz_16, sz_17, sz_18, sz_19, sz_20, sz_21, sz_22, sz_23, sz_24, sz_25, sz_26, sz_27, sz_28, sz_29, sz_30, sz_31, sz_32, sz_33, sz_34, sz_35, sz_36, sz_37, sz_38, sz_39, sz_40, e_sub, mkL_1e, e_add, mkX1e, mkX2e, mkXse, mkXle, pen_len, pen_app, List.length_append, List.length_cons, List.length_nil, Nat.reduceAdd, mkL_ce]
    unfold b6_t5
    simp only [e_svs_cons, e_svs_nil, e_sv_ife, e_sv_ret, e_sv_retN, e_sv_set, e_sv_setIx, e_sv_setLc, e_sv_app, e_sv_ex, e_sv_loop, e_sv_pass, e_ev_var, e_ev_lit, e_ev_glb, e_ev_gix, e_ev_bin, e_ev_neg, e_ev_not, w_and, w_or, QT2_bool, QB_bool, e_ev_one, e_ev_cmp, w_cmp2, e_ev_ife, e_ev_tup, e_mkT, e_ev_lst, e_ev_frz, e_ev_rev, e_ev_dct, e_ev_mcall, e_ev_callD, e_ev_callT, e_sv_tryS, e_sv_raise, e_sv_setFld, e_sv_lock, e_ev_fld, e_ev_meth, e_ev_new, e_tbv_ex, e_tbv_set, e_tbv_ife, e_tbv_exSet, e_sv_brk, e_sv_cont, wp_catch, e_evc_none, e_evc_some, e_ev_ix, e_ev_sl, e_ev_bi, e_ev_mx2, e_ev_mxd, e_ev_dget, e_ev_dpop, e_ev_clr, e_ev_split, e_ev_fnv, e_ev_callV, e_ev_slc, e_ev_gin, e_ev_gixIn, e_ev_isi, e_ev_mkx, e_ev_xfl, e_ev_isx, e_ev_sset, e_ev_lset, e_ev_stp, e_ev_call, e_ev_join, e_ev_lc, e_evs_nil, e_evs_cons, e_evo_none, e_evo_some, e_evi_seq, e_evi_rng1, e_evi_rng2, e_evi_enum, e_evi_zip, e_evi_view, e_evi_rev, env0, varD, e_b_nm, e_b_tT, e_b_tL, e_b_nil, e_b_cons, wp_bind, wp_then, wp_ok, wp_truR, wp_finP, QF_nx, QF_rt, QE1_rt, QE1_nx, QT1_bool, List.map, List.length, List.replicate, List.getElem?_cons_zero, List.getElem?_cons_succ, List.set, Nat.reduceSub, List.cons_append, List.nil_append, Nat.reduceAdd, wp_ite, e_mkLT, tru_b, seqI_L, seqI_T, pures_p, pures_nil, Option.map_some, Option.bind_some, if_true, sz_0, sz_1, sz_2, sz_3, sz_4, sz_5, sz_6, sz_7, sz_8, sz_9, sz_10, sz_11, sz_12, sz_13, sz_14, sz_15, sz_16, sz_17, sz_18, sz_19, sz_20, sz_21, sz_22, sz_23, sz_24, sz_25, sz_26, sz_27, sz_28, sz_29, sz_30, sz_31, sz_32, sz_33, sz_34, sz_35, sz_36, sz_37, sz_38, sz_39, sz_40, mkX0e, pen_len, pen_app, List.length_append, List.length_cons, List.length_nil, Nat.reduceAdd, mkL_ce]
    rw [e_addCC (xs := [.c 2, .c 3, .c 4, .c 6, .c 8]) (ys := [.c 10, .c 11, .c 12, .c 13]) rfl rfl (by decide)]
    simp only [List.cons_append, List.nil_append, mkL_ce, wp_ok]
    exact law6e (b := b) (c := c) fun st => rfl
  obtain ⟨d, st, e, rfl⟩ := wp_elim key
  exact ⟨st, e⟩


theorem sp_law {K : PySem.W.Frag} {H : Hp} {a : Addr} {ns : List Int} (hl : ns.length ≤ 63) (hS : SqL K H a (ns.map V.int)) :
    spOf K (XRel K) (semK defs 61 6) [.ref a] H (fun v _ => v = .bl true) fun _ _ _ => False := by
  obtain ⟨st, e⟩ := run_law ns hl
  refine ⟨[.p (.list (ns.map .int))], [], H, [], ⟨Evl.Ex.refl H, rfl, List.nodup_nil, fun n c h hne => ?_, fun n c h hne => ?_⟩, .cons (.lst hS (dp_of_ints ns)) .nil, ?_⟩
  · cases h
  · cases h
  · rw [e]
    exact fun F' φ' H' x S v rv => rv.bl
theorem cx_law {P : Program} {w : World} {H : Hp} {s : Shared} {e : Value} {s' : Shared} (h : L2.CX P w [] H s (fun _ _ _ => False) e s') : False := by
  obtain ⟨_, _, _, _, _, _, _, _, _, _, _, _, z⟩ := h
  exact z
theorem hC : ∀ d ∈ defs, defK defs T d = true := by
  intro d hd
  simp only [defs, List.mem_cons, List.not_mem_nil, or_false] at hd
  rcases hd with rfl | rfl | rfl | rfl | rfl | rfl | rfl
  · exact k0
  · exact k1
  · exact k2
  · exact k3
  · exact k4
  · exact k5
  · exact k6
theorem all_mk {w : World} {K : PySem.W.Frag} {h : Heap} {mg : Str → Option Value} {fa f0 f1 f2 f3 f4 f5 f6 : Addr} (X : K.In h) (G : h.Ns mainGlobals mg) (hfa : mg "law" = some (.ref fa))
    {od0 an0 od1 an1 od2 an2 od3 an3 od4 an4 od5 an5 od6 an6 : Option Addr} {sl0 sl1 sl2 sl3 sl4 sl5 sl6 : Array (Option Value)} {oc0 kV0 dc0 pm0 cd0 ct0 oc1 kV1 dc1 pm1 cd1 ct1 oc2 kV2 dc2 pm2 cd2 ct2 oc3 kV3 dc3 pm3 cd3 ct3 oc4 kV4 dc4 pm4 cd4 ct4 oc5 kV5 dc5 pm5 cd5 ct5 oc6 kV6 dc6 pm6 cd6 ct6 : Value}
    (a0 : PySem.W.nsIn K mainGlobals d0.gname = some (some (.ref f0)))
    (l0 : K.lookup f0 = some ⟨oc0, od0, .func (PySem.W.fnOf d0.name d0.qual (defArgs d0.st) (defBody d0.st) (defScope d0.st) .none kV0 dc0 pm0 an0 cd0 ct0), sl0⟩)
    (c0 : PySem.W.codeIn K cd0 d0.qual = true)
    (k0 : PySem.W.keepIn K (.ref f0) = true)
    (a1 : PySem.W.nsIn K mainGlobals d1.gname = some (some (.ref f1)))
    (l1 : K.lookup f1 = some ⟨oc1, od1, .func (PySem.W.fnOf d1.name d1.qual (defArgs d1.st) (defBody d1.st) (defScope d1.st) .none kV1 dc1 pm1 an1 cd1 ct1), sl1⟩)
    (c1 : PySem.W.codeIn K cd1 d1.qual = true)
    (k1 : PySem.W.keepIn K (.ref f1) = true)
    (a2 : PySem.W.nsIn K mainGlobals d2.gname = some (some (.ref f2)))
    (l2 : K.lookup f2 = some ⟨oc2, od2, .func (PySem.W.fnOf d2.name d2.qual (defArgs d2.st) (defBody d2.st) (defScope d2.st) .none kV2 dc2 pm2 an2 cd2 ct2), sl2⟩)
    (c2 : PySem.W.codeIn K cd2 d2.qual = true)
    (k2 : PySem.W.keepIn K (.ref f2) = true)
    (a3 : PySem.W.nsIn K mainGlobals d3.gname = some (some (.ref f3)))
    (l3 : K.lookup f3 = some ⟨oc3, od3, .func (PySem.W.fnOf d3.name d3.qual (defArgs d3.st) (defBody d3.st) (defScope d3.st) .none kV3 dc3 pm3 an3 cd3 ct3), sl3⟩)
    (c3 : PySem.W.codeIn K cd3 d3.qual = true)
    (k3 : PySem.W.keepIn K (.ref f3) = true)
    (a4 : PySem.W.nsIn K mainGlobals d4.gname = some (some (.ref f4)))
    (l4 : K.lookup f4 = some ⟨oc4, od4, .func (PySem.W.fnOf d4.name d4.qual (defArgs d4.st) (defBody d4.st) (defScope d4.st) .none kV4 dc4 pm4 an4 cd4 ct4), sl4⟩)
    (c4 : PySem.W.codeIn K cd4 d4.qual = true)
    (k4 : PySem.W.keepIn K (.ref f4) = true)
    (a5 : PySem.W.nsIn K mainGlobals d5.gname = some (some (.ref f5)))
    (l5 : K.lookup f5 = some ⟨oc5, od5, .func (PySem.W.fnOf d5.name d5.qual (defArgs d5.st) (defBody d5.st) (defScope d5.st) .none kV5 dc5 pm5 an5 cd5 ct5), sl5⟩)
    (c5 : PySem.W.codeIn K cd5 d5.qual = true)
    (k5 : PySem.W.keepIn K (.ref f5) = true)
    (a6 : PySem.W.nsIn K mainGlobals d6.gname = some (some (.ref f6)))
    (l6 : K.lookup f6 = some ⟨oc6, od6, .func (PySem.W.fnOf d6.name d6.qual (defArgs d6.st) (defBody d6.st) (defScope d6.st) .none kV6 dc6 pm6 an6 cd6 ct6), sl6⟩)
    (c6 : PySem.W.codeIn K cd6 d6.qual = true)
    (k6 : PySem.W.keepIn K (.ref f6) = true)
    (z0 : PySem.W.nsIn K mainGlobals "ValueError" = some none)
    (z1 : PySem.W.nsIn K mainGlobals "len" = some none)
    (z2 : PySem.W.nsIn K mainGlobals "tuple" = some none)
    (z3 : PySem.W.nsIn K mainGlobals "list" = some none)
    (z4 : PySem.W.nsIn K mainGlobals "int" = some none)
    (z5 : PySem.W.nsIn K mainGlobals "isinstance" = some none)
    (z6 : PySem.W.nsIn K mainGlobals "range" = some none)
    (z7 : PySem.W.nsIn K mainGlobals "enumerate" = some none)
    (z8 : PySem.W.nsIn K mainGlobals "zip" = some none)
    (z9 : PySem.W.nsIn K mainGlobals "str" = some none)
    (z10 : PySem.W.nsIn K mainGlobals "bool" = some none)
    {E0 : Addr}
    (ea0 : PySem.W.nsIn K mainGlobals "Clash" = some (some (.ref E0)))
    (eb0 : PySem.W.subIn K (.ref E0) (.type "BaseException") = some true)
    (et0 : PySem.W.typeIn K (.ref E0) = some (.type "type"))
    (ek0 : PySem.W.keepIn K (.ref E0) = true)
    (ei0 : PySem.W.isClsIn K E0 = true)
    {nm0 qn0 : Str} {N0 : Addr} {bs0 bm0 : List Value} {sn0 : List Str} {sub0 : List Value} {ab0 : Bool} {col0 : Option Bool} {dd0 : Option Addr} {m00 m10 m20 m30 m50 : Option Value}
    {fI0 : Addr} {odI0 anI0 : Option Addr} {slI0 : Array (Option Value)} {ocI0 kVI0 dcI0 pmI0 cdI0 ctI0 : Value}
    (el0 : K.lookup E0 = some (excClassObj nm0 qn0 E0 N0 bs0 bm0 true sn0 sub0 ab0 col0 dd0 m00 m10 m20 m30 m50 "ValueError.__new__"))
    (ev0 : PySem.HandSPX.refsVE bm0 = true)
    (ez0 : PySem.W.findIn K (.ref E0) "__setattr__" = some (some (.builtin "object.__setattr__")))
    (ef0 : PySem.W.findIn K (.ref E0) "__init__" = some (some (.ref fI0)))
    (eg0 : PySem.W.typeIn K (.ref fI0) = some (.type "function"))
    (em0 : K.lookup fI0 = some ⟨ocI0, odI0, .func (PySem.W.fnOf e0.name e0.qual (defArgs e0.st) (defBody e0.st) (defScope e0.st) .none kVI0 dcI0 pmI0 anI0 cdI0 ctI0), slI0⟩)
    (ec0 : PySem.W.codeIn K cdI0 e0.qual = true)
    (eh0 : PySem.W.keepIn K (.ref fI0) = true)
    (en0_0 : PySem.W.findIn K (.ref E0) "first" = some none)
    (en0_1 : PySem.W.findIn K (.ref E0) "second" = some none)
    {E1 : Addr}
    (ea1 : PySem.W.nsIn K mainGlobals "NoAsk" = some (some (.ref E1)))
    (eb1 : PySem.W.subIn K (.ref E1) (.type "BaseException") = some true)
    (et1 : PySem.W.typeIn K (.ref E1) = some (.type "type"))
    (ek1 : PySem.W.keepIn K (.ref E1) = true)
    (ex1 : PySem.W.excIn K E1 veBases "ValueError.__new__" = true)
    (ei1 : PySem.W.isClsIn K E1 = true)
    {E2 : Addr}
    (ea2 : PySem.W.nsIn K mainGlobals "NoJob" = some (some (.ref E2)))
    (eb2 : PySem.W.subIn K (.ref E2) (.type "BaseException") = some true)
    (et2 : PySem.W.typeIn K (.ref E2) = some (.type "type"))
    (ek2 : PySem.W.keepIn K (.ref E2) = true)
    (ex2 : PySem.W.excIn K E2 veBases "ValueError.__new__" = true)
    (ei2 : PySem.W.isClsIn K E2 = true)
    {E3 : Addr}
    (ea3 : PySem.W.nsIn K mainGlobals "NoLine" = some (some (.ref E3)))
    (eb3 : PySem.W.subIn K (.ref E3) (.type "BaseException") = some true)
    (et3 : PySem.W.typeIn K (.ref E3) = some (.type "type"))
    (ek3 : PySem.W.keepIn K (.ref E3) = true)
    (ex3 : PySem.W.excIn K E3 veBases "ValueError.__new__" = true)
    (ei3 : PySem.W.isClsIn K E3 = true)
    {E4 : Addr}
    (ea4 : PySem.W.nsIn K mainGlobals "NoRow" = some (some (.ref E4)))
    (eb4 : PySem.W.subIn K (.ref E4) (.type "BaseException") = some true)
    (et4 : PySem.W.typeIn K (.ref E4) = some (.type "type"))
    (ek4 : PySem.W.keepIn K (.ref E4) = true)
    (ei4 : PySem.W.isClsIn K E4 = true)
    {nm4 qn4 : Str} {N4 : Addr} {bs4 bm4 : List Value} {sn4 : List Str} {sub4 : List Value} {ab4 : Bool} {col4 : Option Bool} {dd4 : Option Addr} {m04 m14 m24 m34 m54 : Option Value}
    {fI4 : Addr} {odI4 anI4 : Option Addr} {slI4 : Array (Option Value)} {ocI4 kVI4 dcI4 pmI4 cdI4 ctI4 : Value}
    (el4 : K.lookup E4 = some (excClassObj nm4 qn4 E4 N4 bs4 bm4 true sn4 sub4 ab4 col4 dd4 m04 m14 m24 m34 m54 "ValueError.__new__"))
    (ev4 : PySem.HandSPX.refsVE bm4 = true)
    (ez4 : PySem.W.findIn K (.ref E4) "__setattr__" = some (some (.builtin "object.__setattr__")))
    (ef4 : PySem.W.findIn K (.ref E4) "__init__" = some (some (.ref fI4)))
    (eg4 : PySem.W.typeIn K (.ref fI4) = some (.type "function"))
    (em4 : K.lookup fI4 = some ⟨ocI4, odI4, .func (PySem.W.fnOf e1.name e1.qual (defArgs e1.st) (defBody e1.st) (defScope e1.st) .none kVI4 dcI4 pmI4 anI4 cdI4 ctI4), slI4⟩)
    (ec4 : PySem.W.codeIn K cdI4 e1.qual = true)
    (eh4 : PySem.W.keepIn K (.ref fI4) = true)
    (en4_0 : PySem.W.findIn K (.ref E4) "number" = some none)
    {E5 : Addr}
    (ea5 : PySem.W.nsIn K mainGlobals "NoText" = some (some (.ref E5)))
    (eb5 : PySem.W.subIn K (.ref E5) (.type "BaseException") = some true)
    (et5 : PySem.W.typeIn K (.ref E5) = some (.type "type"))
    (ek5 : PySem.W.keepIn K (.ref E5) = true)
    (ei5 : PySem.W.isClsIn K E5 = true)
    {nm5 qn5 : Str} {N5 : Addr} {bs5 bm5 : List Value} {sn5 : List Str} {sub5 : List Value} {ab5 : Bool} {col5 : Option Bool} {dd5 : Option Addr} {m05 m15 m25 m35 m55 : Option Value}
    {fI5 : Addr} {odI5 anI5 : Option Addr} {slI5 : Array (Option Value)} {ocI5 kVI5 dcI5 pmI5 cdI5 ctI5 : Value}
    (el5 : K.lookup E5 = some (excClassObj nm5 qn5 E5 N5 bs5 bm5 true sn5 sub5 ab5 col5 dd5 m05 m15 m25 m35 m55 "ValueError.__new__"))
    (ev5 : PySem.HandSPX.refsVE bm5 = true)
    (ez5 : PySem.W.findIn K (.ref E5) "__setattr__" = some (some (.builtin "object.__setattr__")))
    (ef5 : PySem.W.findIn K (.ref E5) "__init__" = some (some (.ref fI5)))
    (eg5 : PySem.W.typeIn K (.ref fI5) = some (.type "function"))
    (em5 : K.lookup fI5 = some ⟨ocI5, odI5, .func (PySem.W.fnOf e2.name e2.qual (defArgs e2.st) (defBody e2.st) (defScope e2.st) .none kVI5 dcI5 pmI5 anI5 cdI5 ctI5), slI5⟩)
    (ec5 : PySem.W.codeIn K cdI5 e2.qual = true)
    (eh5 : PySem.W.keepIn K (.ref fI5) = true)
    (en5_0 : PySem.W.findIn K (.ref E5) "number" = some none)
    {E6 : Addr}
    (ea6 : PySem.W.nsIn K mainGlobals "OffTime" = some (some (.ref E6)))
    (eb6 : PySem.W.subIn K (.ref E6) (.type "BaseException") = some true)
    (et6 : PySem.W.typeIn K (.ref E6) = some (.type "type"))
    (ek6 : PySem.W.keepIn K (.ref E6) = true)
    (ei6 : PySem.W.isClsIn K E6 = true)
    {nm6 qn6 : Str} {N6 : Addr} {bs6 bm6 : List Value} {sn6 : List Str} {sub6 : List Value} {ab6 : Bool} {col6 : Option Bool} {dd6 : Option Addr} {m06 m16 m26 m36 m56 : Option Value}
    {fI6 : Addr} {odI6 anI6 : Option Addr} {slI6 : Array (Option Value)} {ocI6 kVI6 dcI6 pmI6 cdI6 ctI6 : Value}
    (el6 : K.lookup E6 = some (excClassObj nm6 qn6 E6 N6 bs6 bm6 true sn6 sub6 ab6 col6 dd6 m06 m16 m26 m36 m56 "ValueError.__new__"))
    (ev6 : PySem.HandSPX.refsVE bm6 = true)
    (ez6 : PySem.W.findIn K (.ref E6) "__setattr__" = some (some (.builtin "object.__setattr__")))
    (ef6 : PySem.W.findIn K (.ref E6) "__init__" = some (some (.ref fI6)))
    (eg6 : PySem.W.typeIn K (.ref fI6) = some (.type "function"))
    (em6 : K.lookup fI6 = some ⟨ocI6, odI6, .func (PySem.W.fnOf e3.name e3.qual (defArgs e3.st) (defBody e3.st) (defScope e3.st) .none kVI6 dcI6 pmI6 anI6 cdI6 ctI6), slI6⟩)
    (ec6 : PySem.W.codeIn K cdI6 e3.qual = true)
    (eh6 : PySem.W.keepIn K (.ref fI6) = true)
    (en6_0 : PySem.W.findIn K (.ref E6) "links" = some none)
    {E7 : Addr}
    (ea7 : PySem.W.nsIn K mainGlobals "Short" = some (some (.ref E7)))
    (eb7 : PySem.W.subIn K (.ref E7) (.type "BaseException") = some true)
    (et7 : PySem.W.typeIn K (.ref E7) = some (.type "type"))
    (ek7 : PySem.W.keepIn K (.ref E7) = true)
    (ei7 : PySem.W.isClsIn K E7 = true)
    {nm7 qn7 : Str} {N7 : Addr} {bs7 bm7 : List Value} {sn7 : List Str} {sub7 : List Value} {ab7 : Bool} {col7 : Option Bool} {dd7 : Option Addr} {m07 m17 m27 m37 m57 : Option Value}
    {fI7 : Addr} {odI7 anI7 : Option Addr} {slI7 : Array (Option Value)} {ocI7 kVI7 dcI7 pmI7 cdI7 ctI7 : Value}
    (el7 : K.lookup E7 = some (excClassObj nm7 qn7 E7 N7 bs7 bm7 true sn7 sub7 ab7 col7 dd7 m07 m17 m27 m37 m57 "ValueError.__new__"))
    (ev7 : PySem.HandSPX.refsVE bm7 = true)
    (ez7 : PySem.W.findIn K (.ref E7) "__setattr__" = some (some (.builtin "object.__setattr__")))
    (ef7 : PySem.W.findIn K (.ref E7) "__init__" = some (some (.ref fI7)))
    (eg7 : PySem.W.typeIn K (.ref fI7) = some (.type "function"))
    (em7 : K.lookup fI7 = some ⟨ocI7, odI7, .func (PySem.W.fnOf e4.name e4.qual (defArgs e4.st) (defBody e4.st) (defScope e4.st) .none kVI7 dcI7 pmI7 anI7 cdI7 ctI7), slI7⟩)
    (ec7 : PySem.W.codeIn K cdI7 e4.qual = true)
    (eh7 : PySem.W.keepIn K (.ref fI7) = true)
    (en7_0 : PySem.W.findIn K (.ref E7) "side" = some none)
    (en7_1 : PySem.W.findIn K (.ref E7) "some" = some none)
    {E8 : Addr}
    (ea8 : PySem.W.nsIn K mainGlobals "TooMany" = some (some (.ref E8)))
    (eb8 : PySem.W.subIn K (.ref E8) (.type "BaseException") = some true)
    (et8 : PySem.W.typeIn K (.ref E8) = some (.type "type"))
    (ek8 : PySem.W.keepIn K (.ref E8) = true)
    (ex8 : PySem.W.excIn K E8 veBases "ValueError.__new__" = true)
    (ei8 : PySem.W.isClsIn K E8 = true)
    {E9 : Addr}
    (ea9 : PySem.W.nsIn K mainGlobals "CallError" = some (some (.ref E9)))
    (eb9 : PySem.W.subIn K (.ref E9) (.type "BaseException") = some true)
    (et9 : PySem.W.typeIn K (.ref E9) = some (.type "type"))
    (ei9 : PySem.W.isClsIn K E9 = true)
    (er9 : PySem.W.readsIn K E9 (.type "type") = true)
    (es9 : PySem.W.specialIn K (.ref E9) "__getattribute__" = some (some (.builtin "type.__getattribute__")))
    (eu9 : PySem.W.findCls K (.ref E9) (.type "type") "__init__" = some (.val (.builtin "ValueError.__init__")))
    (ep0 : PySem.W.subIn K (.ref E0) (.ref E9) = some true)
    (ep1 : PySem.W.subIn K (.ref E1) (.ref E9) = some true)
    (ep2 : PySem.W.subIn K (.ref E2) (.ref E9) = some true)
    (ep3 : PySem.W.subIn K (.ref E3) (.ref E9) = some true)
    (ep4 : PySem.W.subIn K (.ref E4) (.ref E9) = some true)
    (ep5 : PySem.W.subIn K (.ref E5) (.ref E9) = some true)
    (ep6 : PySem.W.subIn K (.ref E6) (.ref E9) = some true)
    (ep7 : PySem.W.subIn K (.ref E7) (.ref E9) = some true)
    (ep8 : PySem.W.subIn K (.ref E8) (.ref E9) = some true)
    (ep9 : PySem.W.subIn K (.ref E0) (.ref E0) = some true)
    (ep10 : PySem.W.subIn K (.ref E1) (.ref E0) = some false)
    (ep11 : PySem.W.subIn K (.ref E2) (.ref E0) = some false)
    (ep12 : PySem.W.subIn K (.ref E3) (.ref E0) = some false)
    (ep13 : PySem.W.subIn K (.ref E4) (.ref E0) = some false)
    (ep14 : PySem.W.subIn K (.ref E5) (.ref E0) = some false)
    (ep15 : PySem.W.subIn K (.ref E6) (.ref E0) = some false)
    (ep16 : PySem.W.subIn K (.ref E7) (.ref E0) = some false)
    (ep17 : PySem.W.subIn K (.ref E8) (.ref E0) = some false)
    (ep18 : PySem.W.subIn K (.ref E0) (.ref E1) = some false)
    (ep19 : PySem.W.subIn K (.ref E1) (.ref E1) = some true)
    (ep20 : PySem.W.subIn K (.ref E2) (.ref E1) = some false)
    (ep21 : PySem.W.subIn K (.ref E3) (.ref E1) = some false)
    (ep22 : PySem.W.subIn K (.ref E4) (.ref E1) = some false)
    (ep23 : PySem.W.subIn K (.ref E5) (.ref E1) = some false)
    (ep24 : PySem.W.subIn K (.ref E6) (.ref E1) = some false)
    (ep25 : PySem.W.subIn K (.ref E7) (.ref E1) = some false)
    (ep26 : PySem.W.subIn K (.ref E8) (.ref E1) = some false)
    (ep27 : PySem.W.subIn K (.ref E0) (.ref E2) = some false)
    (ep28 : PySem.W.subIn K (.ref E1) (.ref E2) = some false)
    (ep29 : PySem.W.subIn K (.ref E2) (.ref E2) = some true)
    (ep30 : PySem.W.subIn K (.ref E3) (.ref E2) = some false)
    (ep31 : PySem.W.subIn K (.ref E4) (.ref E2) = some false)
    (ep32 : PySem.W.subIn K (.ref E5) (.ref E2) = some false)
    (ep33 : PySem.W.subIn K (.ref E6) (.ref E2) = some false)
    (ep34 : PySem.W.subIn K (.ref E7) (.ref E2) = some false)
    (ep35 : PySem.W.subIn K (.ref E8) (.ref E2) = some false)
    (ep36 : PySem.W.subIn K (.ref E0) (.ref E3) = some false)
    (ep37 : PySem.W.subIn K (.ref E1) (.ref E3) = some false)
    (ep38 : PySem.W.subIn K (.ref E2) (.ref E3) = some false)
    (ep39 : PySem.W.subIn K (.ref E3) (.ref E3) = some true)
    (ep40 : PySem.W.subIn K (.ref E4) (.ref E3) = some false)
    (ep41 : PySem.W.subIn K (.ref E5) (.ref E3) = some false)
    (ep42 : PySem.W.subIn K (.ref E6) (.ref E3) = some false)
    (ep43 : PySem.W.subIn K (.ref E7) (.ref E3) = some false)
    (ep44 : PySem.W.subIn K (.ref E8) (.ref E3) = some false)
    (ep45 : PySem.W.subIn K (.ref E0) (.ref E4) = some false)
    (ep46 : PySem.W.subIn K (.ref E1) (.ref E4) = some false)
    (ep47 : PySem.W.subIn K (.ref E2) (.ref E4) = some false)
    (ep48 : PySem.W.subIn K (.ref E3) (.ref E4) = some false)
    (ep49 : PySem.W.subIn K (.ref E4) (.ref E4) = some true)
    (ep50 : PySem.W.subIn K (.ref E5) (.ref E4) = some false)
    (ep51 : PySem.W.subIn K (.ref E6) (.ref E4) = some false)
    (ep52 : PySem.W.subIn K (.ref E7) (.ref E4) = some false)
    (ep53 : PySem.W.subIn K (.ref E8) (.ref E4) = some false)
    (ep54 : PySem.W.subIn K (.ref E0) (.ref E5) = some false)
    (ep55 : PySem.W.subIn K (.ref E1) (.ref E5) = some false)
    (ep56 : PySem.W.subIn K (.ref E2) (.ref E5) = some false)
    (ep57 : PySem.W.subIn K (.ref E3) (.ref E5) = some false)
    (ep58 : PySem.W.subIn K (.ref E4) (.ref E5) = some false)
    (ep59 : PySem.W.subIn K (.ref E5) (.ref E5) = some true)
    (ep60 : PySem.W.subIn K (.ref E6) (.ref E5) = some false)
    (ep61 : PySem.W.subIn K (.ref E7) (.ref E5) = some false)
    (ep62 : PySem.W.subIn K (.ref E8) (.ref E5) = some false)
    (ep63 : PySem.W.subIn K (.ref E0) (.ref E6) = some false)
    (ep64 : PySem.W.subIn K (.ref E1) (.ref E6) = some false)
    (ep65 : PySem.W.subIn K (.ref E2) (.ref E6) = some false)
    (ep66 : PySem.W.subIn K (.ref E3) (.ref E6) = some false)
    (ep67 : PySem.W.subIn K (.ref E4) (.ref E6) = some false)
    (ep68 : PySem.W.subIn K (.ref E5) (.ref E6) = some false)
    (ep69 : PySem.W.subIn K (.ref E6) (.ref E6) = some true)
    (ep70 : PySem.W.subIn K (.ref E7) (.ref E6) = some false)
    (ep71 : PySem.W.subIn K (.ref E8) (.ref E6) = some false)
    (ep72 : PySem.W.subIn K (.ref E0) (.ref E7) = some false)
    (ep73 : PySem.W.subIn K (.ref E1) (.ref E7) = some false)
    (ep74 : PySem.W.subIn K (.ref E2) (.ref E7) = some false)
    (ep75 : PySem.W.subIn K (.ref E3) (.ref E7) = some false)
    (ep76 : PySem.W.subIn K (.ref E4) (.ref E7) = some false)
    (ep77 : PySem.W.subIn K (.ref E5) (.ref E7) = some false)
    (ep78 : PySem.W.subIn K (.ref E6) (.ref E7) = some false)
    (ep79 : PySem.W.subIn K (.ref E7) (.ref E7) = some true)
    (ep80 : PySem.W.subIn K (.ref E8) (.ref E7) = some false)
    (ep81 : PySem.W.subIn K (.ref E0) (.ref E8) = some false)
    (ep82 : PySem.W.subIn K (.ref E1) (.ref E8) = some false)
    (ep83 : PySem.W.subIn K (.ref E2) (.ref E8) = some false)
    (ep84 : PySem.W.subIn K (.ref E3) (.ref E8) = some false)
    (ep85 : PySem.W.subIn K (.ref E4) (.ref E8) = some false)
    (ep86 : PySem.W.subIn K (.ref E5) (.ref E8) = some false)
    (ep87 : PySem.W.subIn K (.ref E6) (.ref E8) = some false)
    (ep88 : PySem.W.subIn K (.ref E7) (.ref E8) = some false)
    (ep89 : PySem.W.subIn K (.ref E8) (.ref E8) = some true)
    (xa0 : PySem.W.findIn K (.ref E0) "__getattribute__" = some (some (.builtin "BaseException.__getattribute__")))
    (xb0 : PySem.W.findIn K (.ref E0) "__getattr__" = some none)
    (xc0 : PySem.W.hasDictIn K E0 = true)
    (xd0 : PySem.W.findIn K (.ref E0) "first" = some none)
    (xa1 : PySem.W.findIn K (.ref E0) "__getattribute__" = some (some (.builtin "BaseException.__getattribute__")))
    (xb1 : PySem.W.findIn K (.ref E0) "__getattr__" = some none)
    (xc1 : PySem.W.hasDictIn K E0 = true)
    (xd1 : PySem.W.findIn K (.ref E0) "second" = some none)
    (xa2 : PySem.W.findIn K (.ref E4) "__getattribute__" = some (some (.builtin "BaseException.__getattribute__")))
    (xb2 : PySem.W.findIn K (.ref E4) "__getattr__" = some none)
    (xc2 : PySem.W.hasDictIn K E4 = true)
    (xd2 : PySem.W.findIn K (.ref E4) "number" = some none)
    (xa3 : PySem.W.findIn K (.ref E5) "__getattribute__" = some (some (.builtin "BaseException.__getattribute__")))
    (xb3 : PySem.W.findIn K (.ref E5) "__getattr__" = some none)
    (xc3 : PySem.W.hasDictIn K E5 = true)
    (xd3 : PySem.W.findIn K (.ref E5) "number" = some none)
    (xa4 : PySem.W.findIn K (.ref E6) "__getattribute__" = some (some (.builtin "BaseException.__getattribute__")))
    (xb4 : PySem.W.findIn K (.ref E6) "__getattr__" = some none)
    (xc4 : PySem.W.hasDictIn K E6 = true)
    (xd4 : PySem.W.findIn K (.ref E6) "links" = some none)
    (xa5 : PySem.W.findIn K (.ref E7) "__getattribute__" = some (some (.builtin "BaseException.__getattribute__")))
    (xb5 : PySem.W.findIn K (.ref E7) "__getattr__" = some none)
    (xc5 : PySem.W.hasDictIn K E7 = true)
    (xd5 : PySem.W.findIn K (.ref E7) "side" = some none)
    (xa6 : PySem.W.findIn K (.ref E7) "__getattribute__" = some (some (.builtin "BaseException.__getattribute__")))
    (xb6 : PySem.W.findIn K (.ref E7) "__getattr__" = some none)
    (xc6 : PySem.W.hasDictIn K E7 = true)
    (xd6 : PySem.W.findIn K (.ref E7) "some" = some none)
    (xg : PySem.W.specialIn K (.builtin "object.__class__") "__get__" = some (some (.builtin "getset_descriptor.__get__")))
    (xt : PySem.W.takesIn K (.builtin "object.__class__") = some true)
    (yg0 : PySem.W.findIn K (.ref E0) "__getattribute__" = some (some (.builtin "BaseException.__getattribute__")))
    (yk0 : PySem.W.findIn K (.ref E0) "__getattr__" = some none)
    (yd0 : PySem.W.hasDictIn K E0 = true)
    (ya0 : PySem.W.findIn K (.ref E0) "__class__" = some (some (.builtin "object.__class__")))
    (ym0 : PySem.W.mroIn K E0 (.type "object") = some true)
    (ys0 : PySem.W.subIn K (.ref E0) (.ref E0) = some true)
    (yv0 : PySem.W.subIn K (.ref E0) (.type "ValueError") = some true)
    (yg1 : PySem.W.findIn K (.ref E1) "__getattribute__" = some (some (.builtin "BaseException.__getattribute__")))
    (yk1 : PySem.W.findIn K (.ref E1) "__getattr__" = some none)
    (yd1 : PySem.W.hasDictIn K E1 = true)
    (ya1 : PySem.W.findIn K (.ref E1) "__class__" = some (some (.builtin "object.__class__")))
    (ym1 : PySem.W.mroIn K E1 (.type "object") = some true)
    (ys1 : PySem.W.subIn K (.ref E1) (.ref E1) = some true)
    (yv1 : PySem.W.subIn K (.ref E1) (.type "ValueError") = some true)
    (yg2 : PySem.W.findIn K (.ref E2) "__getattribute__" = some (some (.builtin "BaseException.__getattribute__")))
    (yk2 : PySem.W.findIn K (.ref E2) "__getattr__" = some none)
    (yd2 : PySem.W.hasDictIn K E2 = true)
    (ya2 : PySem.W.findIn K (.ref E2) "__class__" = some (some (.builtin "object.__class__")))
    (ym2 : PySem.W.mroIn K E2 (.type "object") = some true)
    (ys2 : PySem.W.subIn K (.ref E2) (.ref E2) = some true)
    (yv2 : PySem.W.subIn K (.ref E2) (.type "ValueError") = some true)
    (yg3 : PySem.W.findIn K (.ref E3) "__getattribute__" = some (some (.builtin "BaseException.__getattribute__")))
    (yk3 : PySem.W.findIn K (.ref E3) "__getattr__" = some none)
    (yd3 : PySem.W.hasDictIn K E3 = true)
    (ya3 : PySem.W.findIn K (.ref E3) "__class__" = some (some (.builtin "object.__class__")))
    (ym3 : PySem.W.mroIn K E3 (.type "object") = some true)
    (ys3 : PySem.W.subIn K (.ref E3) (.ref E3) = some true)
    (yv3 : PySem.W.subIn K (.ref E3) (.type "ValueError") = some true)
    (yg4 : PySem.W.findIn K (.ref E4) "__getattribute__" = some (some (.builtin "BaseException.__getattribute__")))
    (yk4 : PySem.W.findIn K (.ref E4) "__getattr__" = some none)
    (yd4 : PySem.W.hasDictIn K E4 = true)
    (ya4 : PySem.W.findIn K (.ref E4) "__class__" = some (some (.builtin "object.__class__")))
    (ym4 : PySem.W.mroIn K E4 (.type "object") = some true)
    (ys4 : PySem.W.subIn K (.ref E4) (.ref E4) = some true)
    (yv4 : PySem.W.subIn K (.ref E4) (.type "ValueError") = some true)
    (yg5 : PySem.W.findIn K (.ref E5) "__getattribute__" = some (some (.builtin "BaseException.__getattribute__")))
    (yk5 : PySem.W.findIn K (.ref E5) "__getattr__" = some none)
    (yd5 : PySem.W.hasDictIn K E5 = true)
    (ya5 : PySem.W.findIn K (.ref E5) "__class__" = some (some (.builtin "object.__class__")))
    (ym5 : PySem.W.mroIn K E5 (.type "object") = some true)
    (ys5 : PySem.W.subIn K (.ref E5) (.ref E5) = some true)
    (yv5 : PySem.W.subIn K (.ref E5) (.type "ValueError") = some true)
    (yg6 : PySem.W.findIn K (.ref E6) "__getattribute__" = some (some (.builtin "BaseException.__getattribute__")))
    (yk6 : PySem.W.findIn K (.ref E6) "__getattr__" = some none)
    (yd6 : PySem.W.hasDictIn K E6 = true)
    (ya6 : PySem.W.findIn K (.ref E6) "__class__" = some (some (.builtin "object.__class__")))
    (ym6 : PySem.W.mroIn K E6 (.type "object") = some true)
    (ys6 : PySem.W.subIn K (.ref E6) (.ref E6) = some true)
    (yv6 : PySem.W.subIn K (.ref E6) (.type "ValueError") = some true)
    (yg7 : PySem.W.findIn K (.ref E7) "__getattribute__" = some (some (.builtin "BaseException.__getattribute__")))
    (yk7 : PySem.W.findIn K (.ref E7) "__getattr__" = some none)
    (yd7 : PySem.W.hasDictIn K E7 = true)
    (ya7 : PySem.W.findIn K (.ref E7) "__class__" = some (some (.builtin "object.__class__")))
    (ym7 : PySem.W.mroIn K E7 (.type "object") = some true)
    (ys7 : PySem.W.subIn K (.ref E7) (.ref E7) = some true)
    (yv7 : PySem.W.subIn K (.ref E7) (.type "ValueError") = some true)
    (yg8 : PySem.W.findIn K (.ref E8) "__getattribute__" = some (some (.builtin "BaseException.__getattribute__")))
    (yk8 : PySem.W.findIn K (.ref E8) "__getattr__" = some none)
    (yd8 : PySem.W.hasDictIn K E8 = true)
    (ya8 : PySem.W.findIn K (.ref E8) "__class__" = some (some (.builtin "object.__class__")))
    (ym8 : PySem.W.mroIn K E8 (.type "object") = some true)
    (ys8 : PySem.W.subIn K (.ref E8) (.ref E8) = some true)
    (yv8 : PySem.W.subIn K (.ref E8) (.type "ValueError") = some true)
    : ∃ fd : FuncData, (∀ (s : Shared) (v : Value), BindsTo s fd ⟨[v], []⟩ [("_law_script", v)]) ∧ ∀ base : Heap, K.In base → base.Ns mainGlobals mg → FnOk PySem.Challenge.rw_gapcalls_k06_refusals_apart.prog w K mg base (L2.CX PySem.Challenge.rw_gapcalls_k06_refusals_apart.prog w) 63 fa fd ["_law_script"] (spOf K (XRel K) (semK defs 61 6)) := by
  have hbl : ∀ x, x ∈ T.bl → mg x = none := by
    intro x hx
    change x ∈ bl at hx
    simp only [bl, List.mem_cons, List.not_mem_nil, or_false] at hx
    rcases hx with rfl | rfl | rfl | rfl | rfl | rfl | rfl | rfl | rfl | rfl | rfl
    · exact PySem.W.mg_none_of X G z0
    · exact PySem.W.mg_none_of X G z1
    · exact PySem.W.mg_none_of X G z2
    · exact PySem.W.mg_none_of X G z3
    · exact PySem.W.mg_none_of X G z4
    · exact PySem.W.mg_none_of X G z5
    · exact PySem.W.mg_none_of X G z6
    · exact PySem.W.mg_none_of X G z7
    · exact PySem.W.mg_none_of X G z8
    · exact PySem.W.mg_none_of X G z9
    · exact PySem.W.mg_none_of X G z10
  have M : Mods K w mg defs T := by
    refine ⟨fun d hd => ?_, fun x d hx => ?_, fun x kvs hx => ?_, hbl, fun c f hx => ?_, fun c np fs hx => ?_, fun c d b hx => ?_, fun c f hx => ?_, fun d hx => ?_, fun c hx => ?_⟩
    · simp only [defs, List.mem_cons, List.not_mem_nil, or_false] at hd
      rcases hd with rfl | rfl | rfl | rfl | rfl | rfl | rfl
      · exact MP.funAt X G rfl rfl a0 l0 c0 k0 fun F => F.binds (ps := ["_law_cell", "_law_at"]) fun _ _ _ _ _ _ us hl => match us, hl with | [_, _], _ => rfl
      · exact MP.funAt X G rfl rfl a1 l1 c1 k1 fun F => F.binds (ps := ["_law_script"]) fun _ _ _ _ _ _ us hl => match us, hl with | [_], _ => rfl
      · exact MP.funAt X G rfl rfl a2 l2 c2 k2 fun F => F.binds (ps := ["_law_pen", "_law_many"]) fun _ _ _ _ _ _ us hl => match us, hl with | [_, _], _ => rfl
      · exact MP.funAt X G rfl rfl a3 l3 c3 k3 fun F => F.binds (ps := ["_law_pen"]) fun _ _ _ _ _ _ us hl => match us, hl with | [_], _ => rfl
      · exact MP.funAt X G rfl rfl a4 l4 c4 k4 fun F => F.binds (ps := ["_law_found", "_law_due"]) fun _ _ _ _ _ _ us hl => match us, hl with | [_, _], _ => rfl
      · exact MP.funAt X G rfl rfl a5 l5 c5 k5 fun F => F.binds (ps := ["_law_caught"]) fun _ _ _ _ _ _ us hl => match us, hl with | [_], _ => rfl
      · exact MP.funAt X G rfl rfl a6 l6 c6 k6 fun F => F.binds (ps := ["_law_script"]) fun _ _ _ _ _ _ us hl => match us, hl with | [_], _ => rfl
    · change glbs.lookup x = _ at hx
      cases hx
    · change gds.lookup x = _ at hx
      cases hx
    · change _ ∈ clsF at hx
      cases hx
    · change _ ∈ xcls at hx
      simp only [xcls, List.mem_cons, List.not_mem_nil, or_false] at hx
      rcases hx with hx | hx | hx | hx | hx | hx | hx | hx | hx
      · cases hx
        have F := fun_mk (st := e0.st) em0 ec0 eh0
        refine MP.xmk_own (T := T) (d := e0) X G ea0 el0 ev0 ez0 eb0 et0 ek0 ef0 eg0 rfl rfl F (F.binds (ps := ["self", "first", "second"]) fun _ _ _ _ _ _ us hl => match us, hl with | [_, _, _], _ => rfl) s0 i0 (fun f fe hf => ?_) ea9 er9 es9 eu9 hbl
        simp only [List.mem_cons, List.not_mem_nil, or_false] at hf
        rcases hf with hf | hf
        · cases hf; exact en0_0
        · cases hf; exact en0_1
      · cases hx
        exact MP.xmk_plain X G ea1 eb1 et1 ek1 ex1
      · cases hx
        exact MP.xmk_plain X G ea2 eb2 et2 ek2 ex2
      · cases hx
        exact MP.xmk_plain X G ea3 eb3 et3 ek3 ex3
      · cases hx
        have F := fun_mk (st := e1.st) em4 ec4 eh4
        refine MP.xmk_own (T := T) (d := e1) X G ea4 el4 ev4 ez4 eb4 et4 ek4 ef4 eg4 rfl rfl F (F.binds (ps := ["self", "number"]) fun _ _ _ _ _ _ us hl => match us, hl with | [_, _], _ => rfl) s1 i1 (fun f fe hf => ?_) ea9 er9 es9 eu9 hbl
        simp only [List.mem_cons, List.not_mem_nil, or_false] at hf
        · cases hf; exact en4_0
      · cases hx
        have F := fun_mk (st := e2.st) em5 ec5 eh5
        refine MP.xmk_own (T := T) (d := e2) X G ea5 el5 ev5 ez5 eb5 et5 ek5 ef5 eg5 rfl rfl F (F.binds (ps := ["self", "number"]) fun _ _ _ _ _ _ us hl => match us, hl with | [_, _], _ => rfl) s2 i2 (fun f fe hf => ?_) ea9 er9 es9 eu9 hbl
        simp only [List.mem_cons, List.not_mem_nil, or_false] at hf
        · cases hf; exact en5_0
      · cases hx
        have F := fun_mk (st := e3.st) em6 ec6 eh6
        refine MP.xmk_own (T := T) (d := e3) X G ea6 el6 ev6 ez6 eb6 et6 ek6 ef6 eg6 rfl rfl F (F.binds (ps := ["self", "links"]) fun _ _ _ _ _ _ us hl => match us, hl with | [_, _], _ => rfl) s3 i3 (fun f fe hf => ?_) ea9 er9 es9 eu9 hbl
        simp only [List.mem_cons, List.not_mem_nil, or_false] at hf
        · cases hf; exact en6_0
      · cases hx
        have F := fun_mk (st := e4.st) em7 ec7 eh7
        refine MP.xmk_own (T := T) (d := e4) X G ea7 el7 ev7 ez7 eb7 et7 ek7 ef7 eg7 rfl rfl F (F.binds (ps := ["self", "side", "some"]) fun _ _ _ _ _ _ us hl => match us, hl with | [_, _, _], _ => rfl) s4 i4 (fun f fe hf => ?_) ea9 er9 es9 eu9 hbl
        simp only [List.mem_cons, List.not_mem_nil, or_false] at hf
        rcases hf with hf | hf
        · cases hf; exact en7_0
        · cases hf; exact en7_1
      · cases hx
        exact MP.xmk_plain X G ea8 eb8 et8 ek8 ex8
    · change _ ∈ xtab at hx
      simp only [xtab, xtab0, xtab1, xtab2, xtab3, xtab4, xtab5, xtab6, xtab7, List.cons_append, List.nil_append, List.mem_cons, List.not_mem_nil, or_false] at hx
      rcases hx with hx | hx | hx | hx | hx | hx | hx | hx | hx | hx | hx | hx | hx | hx | hx | hx | hx | hx | hx | hx | hx | hx | hx | hx | hx | hx | hx | hx | hx | hx | hx | hx | hx | hx | hx | hx | hx | hx | hx | hx | hx | hx | hx | hx | hx | hx | hx | hx | hx | hx | hx | hx | hx | hx | hx | hx | hx | hx | hx | hx | hx | hx | hx | hx | hx | hx | hx | hx | hx | hx | hx | hx | hx | hx | hx | hx | hx | hx | hx | hx | hx | hx | hx | hx | hx | hx | hx | hx | hx | hx
      · cases hx
        exact MP.xmt_of X G ea0 ea9 eb9 ei9 et9 ep0
      · cases hx
        exact MP.xmt_of X G ea1 ea9 eb9 ei9 et9 ep1
      · cases hx
        exact MP.xmt_of X G ea2 ea9 eb9 ei9 et9 ep2
      · cases hx
        exact MP.xmt_of X G ea3 ea9 eb9 ei9 et9 ep3
      · cases hx
        exact MP.xmt_of X G ea4 ea9 eb9 ei9 et9 ep4
      · cases hx
        exact MP.xmt_of X G ea5 ea9 eb9 ei9 et9 ep5
      · cases hx
        exact MP.xmt_of X G ea6 ea9 eb9 ei9 et9 ep6
      · cases hx
        exact MP.xmt_of X G ea7 ea9 eb9 ei9 et9 ep7
      · cases hx
        exact MP.xmt_of X G ea8 ea9 eb9 ei9 et9 ep8
      · cases hx
        exact MP.xmt_of X G ea0 ea0 eb0 ei0 et0 ep9
      · cases hx
        exact MP.xmt_of X G ea1 ea0 eb0 ei0 et0 ep10
      · cases hx
        exact MP.xmt_of X G ea2 ea0 eb0 ei0 et0 ep11
      · cases hx
        exact MP.xmt_of X G ea3 ea0 eb0 ei0 et0 ep12
      · cases hx
        exact MP.xmt_of X G ea4 ea0 eb0 ei0 et0 ep13
      · cases hx
        exact MP.xmt_of X G ea5 ea0 eb0 ei0 et0 ep14
      · cases hx
        exact MP.xmt_of X G ea6 ea0 eb0 ei0 et0 ep15
      · cases hx
        exact MP.xmt_of X G ea7 ea0 eb0 ei0 et0 ep16
      · cases hx
        exact MP.xmt_of X G ea8 ea0 eb0 ei0 et0 ep17
      · cases hx
        exact MP.xmt_of X G ea0 ea1 eb1 ei1 et1 ep18
      · cases hx
        exact MP.xmt_of X G ea1 ea1 eb1 ei1 et1 ep19
      · cases hx
        exact MP.xmt_of X G ea2 ea1 eb1 ei1 et1 ep20
      · cases hx
        exact MP.xmt_of X G ea3 ea1 eb1 ei1 et1 ep21
      · cases hx
        exact MP.xmt_of X G ea4 ea1 eb1 ei1 et1 ep22
      · cases hx
        exact MP.xmt_of X G ea5 ea1 eb1 ei1 et1 ep23
      · cases hx
        exact MP.xmt_of X G ea6 ea1 eb1 ei1 et1 ep24
      · cases hx
        exact MP.xmt_of X G ea7 ea1 eb1 ei1 et1 ep25
      · cases hx
        exact MP.xmt_of X G ea8 ea1 eb1 ei1 et1 ep26
      · cases hx
        exact MP.xmt_of X G ea0 ea2 eb2 ei2 et2 ep27
      · cases hx
        exact MP.xmt_of X G ea1 ea2 eb2 ei2 et2 ep28
      · cases hx
        exact MP.xmt_of X G ea2 ea2 eb2 ei2 et2 ep29
      · cases hx
        exact MP.xmt_of X G ea3 ea2 eb2 ei2 et2 ep30
      · cases hx
        exact MP.xmt_of X G ea4 ea2 eb2 ei2 et2 ep31
      · cases hx
        exact MP.xmt_of X G ea5 ea2 eb2 ei2 et2 ep32
      · cases hx
        exact MP.xmt_of X G ea6 ea2 eb2 ei2 et2 ep33
      · cases hx
        exact MP.xmt_of X G ea7 ea2 eb2 ei2 et2 ep34
      · cases hx
        exact MP.xmt_of X G ea8 ea2 eb2 ei2 et2 ep35
      · cases hx
        exact MP.xmt_of X G ea0 ea3 eb3 ei3 et3 ep36
      · cases hx
        exact MP.xmt_of X G ea1 ea3 eb3 ei3 et3 ep37
      · cases hx
        exact MP.xmt_of X G ea2 ea3 eb3 ei3 et3 ep38
      · cases hx
        exact MP.xmt_of X G ea3 ea3 eb3 ei3 et3 ep39
      · cases hx
        exact MP.xmt_of X G ea4 ea3 eb3 ei3 et3 ep40
      · cases hx
        exact MP.xmt_of X G ea5 ea3 eb3 ei3 et3 ep41
      · cases hx
        exact MP.xmt_of X G ea6 ea3 eb3 ei3 et3 ep42
      · cases hx
        exact MP.xmt_of X G ea7 ea3 eb3 ei3 et3 ep43
      · cases hx
        exact MP.xmt_of X G ea8 ea3 eb3 ei3 et3 ep44
      · cases hx
        exact MP.xmt_of X G ea0 ea4 eb4 ei4 et4 ep45
      · cases hx
        exact MP.xmt_of X G ea1 ea4 eb4 ei4 et4 ep46
      · cases hx
        exact MP.xmt_of X G ea2 ea4 eb4 ei4 et4 ep47
      · cases hx
        exact MP.xmt_of X G ea3 ea4 eb4 ei4 et4 ep48
      · cases hx
        exact MP.xmt_of X G ea4 ea4 eb4 ei4 et4 ep49
      · cases hx
        exact MP.xmt_of X G ea5 ea4 eb4 ei4 et4 ep50
      · cases hx
        exact MP.xmt_of X G ea6 ea4 eb4 ei4 et4 ep51
      · cases hx
        exact MP.xmt_of X G ea7 ea4 eb4 ei4 et4 ep52
      · cases hx
        exact MP.xmt_of X G ea8 ea4 eb4 ei4 et4 ep53
      · cases hx
        exact MP.xmt_of X G ea0 ea5 eb5 ei5 et5 ep54
      · cases hx
        exact MP.xmt_of X G ea1 ea5 eb5 ei5 et5 ep55
      · cases hx
        exact MP.xmt_of X G ea2 ea5 eb5 ei5 et5 ep56
      · cases hx
        exact MP.xmt_of X G ea3 ea5 eb5 ei5 et5 ep57
      · cases hx
        exact MP.xmt_of X G ea4 ea5 eb5 ei5 et5 ep58
      · cases hx
        exact MP.xmt_of X G ea5 ea5 eb5 ei5 et5 ep59
      · cases hx
        exact MP.xmt_of X G ea6 ea5 eb5 ei5 et5 ep60
      · cases hx
        exact MP.xmt_of X G ea7 ea5 eb5 ei5 et5 ep61
      · cases hx
        exact MP.xmt_of X G ea8 ea5 eb5 ei5 et5 ep62
      · cases hx
        exact MP.xmt_of X G ea0 ea6 eb6 ei6 et6 ep63
      · cases hx
        exact MP.xmt_of X G ea1 ea6 eb6 ei6 et6 ep64
      · cases hx
        exact MP.xmt_of X G ea2 ea6 eb6 ei6 et6 ep65
      · cases hx
        exact MP.xmt_of X G ea3 ea6 eb6 ei6 et6 ep66
      · cases hx
        exact MP.xmt_of X G ea4 ea6 eb6 ei6 et6 ep67
      · cases hx
        exact MP.xmt_of X G ea5 ea6 eb6 ei6 et6 ep68
      · cases hx
        exact MP.xmt_of X G ea6 ea6 eb6 ei6 et6 ep69
      · cases hx
        exact MP.xmt_of X G ea7 ea6 eb6 ei6 et6 ep70
      · cases hx
        exact MP.xmt_of X G ea8 ea6 eb6 ei6 et6 ep71
      · cases hx
        exact MP.xmt_of X G ea0 ea7 eb7 ei7 et7 ep72
      · cases hx
        exact MP.xmt_of X G ea1 ea7 eb7 ei7 et7 ep73
      · cases hx
        exact MP.xmt_of X G ea2 ea7 eb7 ei7 et7 ep74
      · cases hx
        exact MP.xmt_of X G ea3 ea7 eb7 ei7 et7 ep75
      · cases hx
        exact MP.xmt_of X G ea4 ea7 eb7 ei7 et7 ep76
      · cases hx
        exact MP.xmt_of X G ea5 ea7 eb7 ei7 et7 ep77
      · cases hx
        exact MP.xmt_of X G ea6 ea7 eb7 ei7 et7 ep78
      · cases hx
        exact MP.xmt_of X G ea7 ea7 eb7 ei7 et7 ep79
      · cases hx
        exact MP.xmt_of X G ea8 ea7 eb7 ei7 et7 ep80
      · cases hx
        exact MP.xmt_of X G ea0 ea8 eb8 ei8 et8 ep81
      · cases hx
        exact MP.xmt_of X G ea1 ea8 eb8 ei8 et8 ep82
      · cases hx
        exact MP.xmt_of X G ea2 ea8 eb8 ei8 et8 ep83
      · cases hx
        exact MP.xmt_of X G ea3 ea8 eb8 ei8 et8 ep84
      · cases hx
        exact MP.xmt_of X G ea4 ea8 eb8 ei8 et8 ep85
      · cases hx
        exact MP.xmt_of X G ea5 ea8 eb8 ei8 et8 ep86
      · cases hx
        exact MP.xmt_of X G ea6 ea8 eb8 ei8 et8 ep87
      · cases hx
        exact MP.xmt_of X G ea7 ea8 eb8 ei8 et8 ep88
      · cases hx
        exact MP.xmt_of X G ea8 ea8 eb8 ei8 et8 ep89
    · change _ ∈ xfld at hx
      simp only [xfld, List.mem_cons, List.not_mem_nil, or_false] at hx
      rcases hx with hx | hx | hx | hx | hx | hx | hx
      · cases hx
        exact MP.xcf_of ea0 xa0 xb0 eb0 xc0 xd0
      · cases hx
        exact MP.xcf_of ea0 xa1 xb1 eb0 xc1 xd1
      · cases hx
        exact MP.xcf_of ea4 xa2 xb2 eb4 xc2 xd2
      · cases hx
        exact MP.xcf_of ea5 xa3 xb3 eb5 xc3 xd3
      · cases hx
        exact MP.xcf_of ea6 xa4 xb4 eb6 xc4 xd4
      · cases hx
        exact MP.xcf_of ea7 xa5 xb5 eb7 xc5 xd5
      · cases hx
        exact MP.xcf_of ea7 xa6 xb6 eb7 xc6 xd6
    · change _ ∈ hcs at hx
      simp only [hcs, List.mem_cons, List.not_mem_nil, or_false] at hx
      rcases hx with hx | hx | hx | hx | hx | hx | hx | hx | hx | hx
      · cases hx
        exact MP.hcl_of X G ea9
      · cases hx
        exact MP.hcl_of X G ea0
      · cases hx
        exact MP.hcl_of X G ea1
      · cases hx
        exact MP.hcl_of X G ea2
      · cases hx
        exact MP.hcl_of X G ea3
      · cases hx
        exact MP.hcl_of X G ea4
      · cases hx
        exact MP.hcl_of X G ea5
      · cases hx
        exact MP.hcl_of X G ea6
      · cases hx
        exact MP.hcl_of X G ea7
      · cases hx
        exact MP.hcl_of X G ea8
    · change _ ∈ xisc at hx
      simp only [xisc, List.mem_cons, List.not_mem_nil, or_false] at hx
      rcases hx with hx | hx | hx | hx | hx | hx | hx | hx | hx
      · cases hx
        exact ⟨_, ea0, ⟨yg0, yk0, eb0, yd0, ya0, xg, xt, ym0⟩, ys0, yv0⟩
      · cases hx
        exact ⟨_, ea1, ⟨yg1, yk1, eb1, yd1, ya1, xg, xt, ym1⟩, ys1, yv1⟩
      · cases hx
        exact ⟨_, ea2, ⟨yg2, yk2, eb2, yd2, ya2, xg, xt, ym2⟩, ys2, yv2⟩
      · cases hx
        exact ⟨_, ea3, ⟨yg3, yk3, eb3, yd3, ya3, xg, xt, ym3⟩, ys3, yv3⟩
      · cases hx
        exact ⟨_, ea4, ⟨yg4, yk4, eb4, yd4, ya4, xg, xt, ym4⟩, ys4, yv4⟩
      · cases hx
        exact ⟨_, ea5, ⟨yg5, yk5, eb5, yd5, ya5, xg, xt, ym5⟩, ys5, yv5⟩
      · cases hx
        exact ⟨_, ea6, ⟨yg6, yk6, eb6, yd6, ya6, xg, xt, ym6⟩, ys6, yv6⟩
      · cases hx
        exact ⟨_, ea7, ⟨yg7, yk7, eb7, yd7, ya7, xg, xt, ym7⟩, ys7, yv7⟩
      · cases hx
        exact ⟨_, ea8, ⟨yg8, yk8, eb8, yd8, ya8, xg, xt, ym8⟩, ys8, yv8⟩
  have e := hfa.symm.trans (PySem.W.mg_of X G a6)
  cases e
  have F := fun_mk (st := d6.st) l6 c6 k6
  exact ⟨_, fun s v => .of_eq rfl, fun base _ _ => fnOk M hC 61 6 d6 rfl rfl _ _ F⟩
end K06
open PySem PySem.W PyProof.Rows
set_option maxHeartbeats 0 in
theorem PySem.Challenge.cw_gapcalls_k06_refusals_apart_holds : PySem.Challenge.rw_gapcalls_k06_refusals_apart.Holds := by
  w_on; o_law; k_head; (case hw => w_witness2)
  k_fill
  refine L2.walk_of (l := PySem.Challenge.rw_gapcalls_k06_refusals_apart) (n := 63) (k := 63) (x := "_law_script") (CX := fun w => L2.CX PySem.Challenge.rw_gapcalls_k06_refusals_apart.prog w) (sp := fun w => MP.spOf _ (MP.XRel _) (MP.semK K06.defs 61 6)) rfl (by decide) rfl ⟨rfl, by decide, by decide⟩ (fun w h Y => PySem.W.kIn_of Y) ?F (fun w H a ns hl hO hS => K06.sp_law hl hS) (fun w H s e s' h => K06.cx_law h)
  case F =>
    intro w mg fa h KX G hmg
    refine' K06.all_mk KX G hmg ?Za0 ?Zl0 ?Zc0 ?Zk0 ?Za1 ?Zl1 ?Zc1 ?Zk1 ?Za2 ?Zl2 ?Zc2 ?Zk2 ?Za3 ?Zl3 ?Zc3 ?Zk3 ?Za4 ?Zl4 ?Zc4 ?Zk4 ?Za5 ?Zl5 ?Zc5 ?Zk5 ?Za6 ?Zl6 ?Zc6 ?Zk6 ?Zz0 ?Zz1 ?Zz2 ?Zz3 ?Zz4 ?Zz5 ?Zz6 ?Zz7 ?Zz8 ?Zz9 ?Zz10 ?Zea0 ?Zeb0 ?Zet0 ?Zek0 ?Zei0 ?Zel0 ?Zev0 ?Zez0 ?Zef0 ?Zeg0 ?Zem0 ?Zec0 ?Zeh0 ?Zen0_0 ?Zen0_1 ?Zea1 ?Zeb1 ?Zet1 ?Zek1 ?Zex1 ?Zei1 ?Zea2 ?Zeb2 ?Zet2 ?Zek2 ?Zex2 ?Zei2 ?Zea3 ?Zeb3 ?Zet3 ?Zek3 ?Zex3 ?Zei3 ?Zea4 ?Zeb4 ?Zet4 ?Zek4 ?Zei4 ?Zel4 ?Zev4 ?Zez4 ?Zef4 ?Zeg4 ?Zem4 ?Zec4 ?Zeh4 ?Zen4_0 ?Zea5 ?Zeb5 ?Zet5 ?Zek5 ?Zei5 ?Zel5 ?Zev5 ?Zez5 ?Zef5 ?Zeg5 ?Zem5 ?Zec5 ?Zeh5 ?Zen5_0 ?Zea6 ?Zeb6 ?Zet6 ?Zek6 ?Zei6 ?Zel6 ?Zev6 ?Zez6 ?Zef6 ?Zeg6 ?Zem6 ?Zec6 ?Zeh6 ?Zen6_0 ?Zea7 ?Zeb7 ?Zet7 ?Zek7 ?Zei7 ?Zel7 ?Zev7 ?Zez7 ?Zef7 ?Zeg7 ?Zem7 ?Zec7 ?Zeh7 ?Zen7_0 ?Zen7_1 ?Zea8 ?Zeb8 ?Zet8 ?Zek8 ?Zex8 ?Zei8 ?Zea9 ?Zeb9 ?Zet9 ?Zei9 ?Zer9 ?Zes9 ?Zeu9 ?Zep0 ?Zep1 ?Zep2 ?Zep3 ?Zep4 ?Zep5 ?Zep6 ?Zep7 ?Zep8 ?Zep9 ?Zep10 ?Zep11 ?Zep12 ?Zep13 ?Zep14 ?Zep15 ?Zep16 ?Zep17 ?Zep18 ?Zep19 ?Zep20 ?Zep21 ?Zep22 ?Zep23 ?Zep24 ?Zep25 ?Zep26 ?Zep27 ?Zep28 ?Zep29 ?Zep30 ?Zep31 ?Zep32 ?Zep33 ?Zep34 ?Zep35 ?Zep36 ?Zep37 ?Zep38 ?Zep39 ?Zep40 ?Zep41 ?Zep42 ?Zep43 ?Zep44 ?Zep45 ?Zep46 ?Zep47 ?Zep48 ?Zep49 ?Zep50 ?Zep51 ?Zep52 ?Zep53 ?Zep54 ?Zep55 ?Zep56 ?Zep57 ?Zep58 ?Zep59 ?Zep60 ?Zep61 ?Zep62 ?Zep63 ?Zep64 ?Zep65 ?Zep66 ?Zep67 ?Zep68 ?Zep69 ?Zep70 ?Zep71 ?Zep72 ?Zep73 ?Zep74 ?Zep75 ?Zep76 ?Zep77 ?Zep78 ?Zep79 ?Zep80 ?Zep81 ?Zep82 ?Zep83 ?Zep84 ?Zep85 ?Zep86 ?Zep87 ?Zep88 ?Zep89 ?Zxa0 ?Zxb0 ?Zxc0 ?Zxd0 ?Zxa1 ?Zxb1 ?Zxc1 ?Zxd1 ?Zxa2 ?Zxb2 ?Zxc2 ?Zxd2 ?Zxa3 ?Zxb3 ?Zxc3 ?Zxd3 ?Zxa4 ?Zxb4 ?Zxc4 ?Zxd4 ?Zxa5 ?Zxb5 ?Zxc5 ?Zxd5 ?Zxa6 ?Zxb6 ?Zxc6 ?Zxd6 ?Zxg ?Zxt ?Zyg0 ?Zyk0 ?Zyd0 ?Zya0 ?Zym0 ?Zys0 ?Zyv0 ?Zyg1 ?Zyk1 ?Zyd1 ?Zya1 ?Zym1 ?Zys1 ?Zyv1 ?Zyg2 ?Zyk2 ?Zyd2 ?Zya2 ?Zym2 ?Zys2 ?Zyv2 ?Zyg3 ?Zyk3 ?Zyd3 ?Zya3 ?Zym3 ?Zys3 ?Zyv3 ?Zyg4 ?Zyk4 ?Zyd4 ?Zya4 ?Zym4 ?Zys4 ?Zyv4 ?Zyg5 ?Zyk5 ?Zyd5 ?Zya5 ?Zym5 ?Zys5 ?Zyv5 ?Zyg6 ?Zyk6 ?Zyd6 ?Zya6 ?Zym6 ?Zys6 ?Zyv6 ?Zyg7 ?Zyk7 ?Zyd7 ?Zya7 ?Zym7 ?Zys7 ?Zyv7 ?Zyg8 ?Zyk8 ?Zyd8 ?Zya8 ?Zym8 ?Zys8 ?Zyv8
    (case Za0 => k_is)
    (case Zl0 => k_is)
    (case Zc0 => k_is)
    (case Zk0 => k_is)
    (case Za1 => k_is)
    (case Zl1 => k_is)
    (case Zc1 => k_is)
    (case Zk1 => k_is)
    (case Za2 => k_is)
    (case Zl2 => k_is)
    (case Zc2 => k_is)
    (case Zk2 => k_is)
    (case Za3 => k_is)
    (case Zl3 => k_is)
    (case Zc3 => k_is)
    (case Zk3 => k_is)
    (case Za4 => k_is)
    (case Zl4 => k_is)
    (case Zc4 => k_is)
    (case Zk4 => k_is)
    (case Za5 => k_is)
    (case Zl5 => k_is)
    (case Zc5 => k_is)
    (case Zk5 => k_is)
    (case Za6 => k_is)
    (case Zl6 => k_is)
    (case Zc6 => k_is)
    (case Zk6 => k_is)
    (case Zz0 => k_is)
    (case Zz1 => k_is)
    (case Zz2 => k_is)
    (case Zz3 => k_is)
    (case Zz4 => k_is)
    (case Zz5 => k_is)
    (case Zz6 => k_is)
    (case Zz7 => k_is)
    (case Zz8 => k_is)
    (case Zz9 => k_is)
    (case Zz10 => k_is)
    (case Zea0 => k_is)
    (case Zeb0 => k_is)
    (case Zet0 => k_is)
    (case Zek0 => k_is)
    (case Zei0 => k_is)
    (case Zel0 => k_is)
    (case Zev0 => decide +kernel)
    (case Zez0 => k_is)
    (case Zef0 => k_is)
    (case Zeg0 => k_is)
    (case Zem0 => k_is)
    (case Zec0 => k_is)
    (case Zeh0 => k_is)
    (case Zen0_0 => k_is)
    (case Zen0_1 => k_is)
    (case Zea1 => k_is)
    (case Zeb1 => k_is)
    (case Zet1 => k_is)
    (case Zek1 => k_is)
    (case Zex1 => first | rfl | k_exc)
    (case Zei1 => k_is)
    (case Zea2 => k_is)
    (case Zeb2 => k_is)
    (case Zet2 => k_is)
    (case Zek2 => k_is)
    (case Zex2 => first | rfl | k_exc)
    (case Zei2 => k_is)
    (case Zea3 => k_is)
    (case Zeb3 => k_is)
    (case Zet3 => k_is)
    (case Zek3 => k_is)
    (case Zex3 => first | rfl | k_exc)
    (case Zei3 => k_is)
    (case Zea4 => k_is)
    (case Zeb4 => k_is)
    (case Zet4 => k_is)
    (case Zek4 => k_is)
    (case Zei4 => k_is)
    (case Zel4 => k_is)
    (case Zev4 => decide +kernel)
    (case Zez4 => k_is)
    (case Zef4 => k_is)
    (case Zeg4 => k_is)
    (case Zem4 => k_is)
    (case Zec4 => k_is)
    (case Zeh4 => k_is)
    (case Zen4_0 => k_is)
    (case Zea5 => k_is)
    (case Zeb5 => k_is)
    (case Zet5 => k_is)
    (case Zek5 => k_is)
    (case Zei5 => k_is)
    (case Zel5 => k_is)
    (case Zev5 => decide +kernel)
    (case Zez5 => k_is)
    (case Zef5 => k_is)
    (case Zeg5 => k_is)
    (case Zem5 => k_is)
    (case Zec5 => k_is)
    (case Zeh5 => k_is)
    (case Zen5_0 => k_is)
    (case Zea6 => k_is)
    (case Zeb6 => k_is)
    (case Zet6 => k_is)
    (case Zek6 => k_is)
    (case Zei6 => k_is)
    (case Zel6 => k_is)
    (case Zev6 => decide +kernel)
    (case Zez6 => k_is)
    (case Zef6 => k_is)
    (case Zeg6 => k_is)
    (case Zem6 => k_is)
    (case Zec6 => k_is)
    (case Zeh6 => k_is)
    (case Zen6_0 => k_is)
    (case Zea7 => k_is)
    (case Zeb7 => k_is)
    (case Zet7 => k_is)
    (case Zek7 => k_is)
    (case Zei7 => k_is)
    (case Zel7 => k_is)
    (case Zev7 => decide +kernel)
    (case Zez7 => k_is)
    (case Zef7 => k_is)
    (case Zeg7 => k_is)
    (case Zem7 => k_is)
    (case Zec7 => k_is)
    (case Zeh7 => k_is)
    (case Zen7_0 => k_is)
    (case Zen7_1 => k_is)
    (case Zea8 => k_is)
    (case Zeb8 => k_is)
    (case Zet8 => k_is)
    (case Zek8 => k_is)
    (case Zex8 => first | rfl | k_exc)
    (case Zei8 => k_is)
    (case Zea9 => k_is)
    (case Zeb9 => k_is)
    (case Zet9 => k_is)
    (case Zei9 => k_is)
    (case Zer9 => k_is)
    (case Zes9 => k_is)
    (case Zeu9 => k_is)
    (case Zep0 => first | rfl | k_is)
    (case Zep1 => first | rfl | k_is)
    (case Zep2 => first | rfl | k_is)
    (case Zep3 => first | rfl | k_is)
    (case Zep4 => first | rfl | k_is)
    (case Zep5 => first | rfl | k_is)
    (case Zep6 => first | rfl | k_is)
    (case Zep7 => first | rfl | k_is)
    (case Zep8 => first | rfl | k_is)
    (case Zep9 => first | rfl | k_is)
    (case Zep10 => first | rfl | k_is)
    (case Zep11 => first | rfl | k_is)
    (case Zep12 => first | rfl | k_is)
    (case Zep13 => first | rfl | k_is)
    (case Zep14 => first | rfl | k_is)
    (case Zep15 => first | rfl | k_is)
    (case Zep16 => first | rfl | k_is)
    (case Zep17 => first | rfl | k_is)
    (case Zep18 => first | rfl | k_is)
    (case Zep19 => first | rfl | k_is)
    (case Zep20 => first | rfl | k_is)
    (case Zep21 => first | rfl | k_is)
    (case Zep22 => first | rfl | k_is)
    (case Zep23 => first | rfl | k_is)
    (case Zep24 => first | rfl | k_is)
    (case Zep25 => first | rfl | k_is)
    (case Zep26 => first | rfl | k_is)
    (case Zep27 => first | rfl | k_is)
    (case Zep28 => first | rfl | k_is)
    (case Zep29 => first | rfl | k_is)
    (case Zep30 => first | rfl | k_is)
    (case Zep31 => first | rfl | k_is)
    (case Zep32 => first | rfl | k_is)
    (case Zep33 => first | rfl | k_is)
    (case Zep34 => first | rfl | k_is)
    (case Zep35 => first | rfl | k_is)
    (case Zep36 => first | rfl | k_is)
    (case Zep37 => first | rfl | k_is)
    (case Zep38 => first | rfl | k_is)
    (case Zep39 => first | rfl | k_is)
    (case Zep40 => first | rfl | k_is)
    (case Zep41 => first | rfl | k_is)
    (case Zep42 => first | rfl | k_is)
    (case Zep43 => first | rfl | k_is)
    (case Zep44 => first | rfl | k_is)
    (case Zep45 => first | rfl | k_is)
    (case Zep46 => first | rfl | k_is)
    (case Zep47 => first | rfl | k_is)
    (case Zep48 => first | rfl | k_is)
    (case Zep49 => first | rfl | k_is)
    (case Zep50 => first | rfl | k_is)
    (case Zep51 => first | rfl | k_is)
    (case Zep52 => first | rfl | k_is)
    (case Zep53 => first | rfl | k_is)
    (case Zep54 => first | rfl | k_is)
    (case Zep55 => first | rfl | k_is)
    (case Zep56 => first | rfl | k_is)
    (case Zep57 => first | rfl | k_is)
    (case Zep58 => first | rfl | k_is)
    (case Zep59 => first | rfl | k_is)
    (case Zep60 => first | rfl | k_is)
    (case Zep61 => first | rfl | k_is)
    (case Zep62 => first | rfl | k_is)
    (case Zep63 => first | rfl | k_is)
    (case Zep64 => first | rfl | k_is)
    (case Zep65 => first | rfl | k_is)
    (case Zep66 => first | rfl | k_is)
    (case Zep67 => first | rfl | k_is)
    (case Zep68 => first | rfl | k_is)
    (case Zep69 => first | rfl | k_is)
    (case Zep70 => first | rfl | k_is)
    (case Zep71 => first | rfl | k_is)
    (case Zep72 => first | rfl | k_is)
    (case Zep73 => first | rfl | k_is)
    (case Zep74 => first | rfl | k_is)
    (case Zep75 => first | rfl | k_is)
    (case Zep76 => first | rfl | k_is)
    (case Zep77 => first | rfl | k_is)
    (case Zep78 => first | rfl | k_is)
    (case Zep79 => first | rfl | k_is)
    (case Zep80 => first | rfl | k_is)
    (case Zep81 => first | rfl | k_is)
    (case Zep82 => first | rfl | k_is)
    (case Zep83 => first | rfl | k_is)
    (case Zep84 => first | rfl | k_is)
    (case Zep85 => first | rfl | k_is)
    (case Zep86 => first | rfl | k_is)
    (case Zep87 => first | rfl | k_is)
    (case Zep88 => first | rfl | k_is)
    (case Zep89 => first | rfl | k_is)
    (case Zxa0 => k_is)
    (case Zxb0 => k_is)
    (case Zxc0 => k_is)
    (case Zxd0 => k_is)
    (case Zxa1 => k_is)
    (case Zxb1 => k_is)
    (case Zxc1 => k_is)
    (case Zxd1 => k_is)
    (case Zxa2 => k_is)
    (case Zxb2 => k_is)
    (case Zxc2 => k_is)
    (case Zxd2 => k_is)
    (case Zxa3 => k_is)
    (case Zxb3 => k_is)
    (case Zxc3 => k_is)
    (case Zxd3 => k_is)
    (case Zxa4 => k_is)
    (case Zxb4 => k_is)
    (case Zxc4 => k_is)
    (case Zxd4 => k_is)
    (case Zxa5 => k_is)
    (case Zxb5 => k_is)
    (case Zxc5 => k_is)
    (case Zxd5 => k_is)
    (case Zxa6 => k_is)
    (case Zxb6 => k_is)
    (case Zxc6 => k_is)
    (case Zxd6 => k_is)
    (case Zxg => k_is)
    (case Zxt => k_is)
    (case Zyg0 => k_is)
    (case Zyk0 => k_is)
    (case Zyd0 => k_is)
    (case Zya0 => k_is)
    (case Zym0 => k_is)
    (case Zys0 => first | rfl | k_is)
    (case Zyv0 => k_is)
    (case Zyg1 => k_is)
    (case Zyk1 => k_is)
    (case Zyd1 => k_is)
    (case Zya1 => k_is)
    (case Zym1 => k_is)
    (case Zys1 => first | rfl | k_is)
    (case Zyv1 => k_is)
    (case Zyg2 => k_is)
    (case Zyk2 => k_is)
    (case Zyd2 => k_is)
    (case Zya2 => k_is)
    (case Zym2 => k_is)
    (case Zys2 => first | rfl | k_is)
    (case Zyv2 => k_is)
    (case Zyg3 => k_is)
    (case Zyk3 => k_is)
    (case Zyd3 => k_is)
    (case Zya3 => k_is)
    (case Zym3 => k_is)
    (case Zys3 => first | rfl | k_is)
    (case Zyv3 => k_is)
    (case Zyg4 => k_is)
    (case Zyk4 => k_is)
    (case Zyd4 => k_is)
    (case Zya4 => k_is)
    (case Zym4 => k_is)
    (case Zys4 => first | rfl | k_is)
    (case Zyv4 => k_is)
    (case Zyg5 => k_is)
    (case Zyk5 => k_is)
    (case Zyd5 => k_is)
    (case Zya5 => k_is)
    (case Zym5 => k_is)
    (case Zys5 => first | rfl | k_is)
    (case Zyv5 => k_is)
    (case Zyg6 => k_is)
    (case Zyk6 => k_is)
    (case Zyd6 => k_is)
    (case Zya6 => k_is)
    (case Zym6 => k_is)
    (case Zys6 => first | rfl | k_is)
    (case Zyv6 => k_is)
    (case Zyg7 => k_is)
    (case Zyk7 => k_is)
    (case Zyd7 => k_is)
    (case Zya7 => k_is)
    (case Zym7 => k_is)
    (case Zys7 => first | rfl | k_is)
    (case Zyv7 => k_is)
    (case Zyg8 => k_is)
    (case Zyk8 => k_is)
    (case Zyd8 => k_is)
    (case Zya8 => k_is)
    (case Zym8 => k_is)
    (case Zys8 => first | rfl | k_is)
    (case Zyv8 => k_is)


