import PyProof.Rows.All
import Wide.All
import OpenK.AllK
import Wide.FinOn
import HandS.ForMost
import HandS.ForExc
import HandS.IsInst
import HandS.Flow
import HandS.Evl
import HandS.Walk
import HandS.Zip
import HandS.Style
import HandS.NoneIn
import HandS.More
import KE.DataEq
import KE.DataCmp
import KE.SortData
import KE.DataMinMax
import KE.DataAny
import KE.DataFind
import HandS.TupAny
import HandS.Wide
import HandS.Codes
import PySem.Challenge.RW_gapcalls_k03_rows_that_clash
set_option Elab.async false
set_option linter.all false
set_option autoImplicit false
set_option maxRecDepth 100000
/-! A small functional reading of the program's language: pure data, mutable cells; each form of the language is tied to the hand layer's rule of it. -/
namespace MP
open PySem PySem.Spec PyProof.Rows L2

/-! ### values, cells, stores, results -/
inductive D where
  | p (x : PyData)
  | c (n : Nat)
inductive Cell where
  | lst (ds : List D)
  | dead
abbrev Store := List Cell
abbrev Env := List (Option D)
structure Exc where
  cls : Str
  fs : List (Str × PyData)
inductive R (α : Type) where
  | ok (a : α) (st : Store)
  | ex (e : Exc) (st : Store)
  | bad
def R.bind {α β : Type} (r : R α) (k : α → Store → R β) : R β :=
  match r with
  | .ok a st => k a st
  | .ex e st => .ex e st
  | .bad => .bad
@[simp] theorem R.bind_ok {α β : Type} (a : α) (st : Store) (k : α → Store → R β) : (R.ok a st).bind k = k a st := rfl
@[simp] theorem R.bind_ex {α β : Type} (e : Exc) (st : Store) (k : α → Store → R β) : (R.ex e st : R α).bind k = .ex e st := rfl
@[simp] theorem R.bind_bad {α β : Type} (k : α → Store → R β) : (R.bad : R α).bind k = .bad := rfl

abbrev MD := Env → Store → R D

/-! ### what represents what -/
section
variable (K : PySem.W.Frag)
def RD (F : Hp) (φ : List Addr) : V → D → Prop
  | v, .p x => Dp K F v x
  | v, .c n => ∃ a, φ[n]? = some a ∧ v = .ref a
abbrev RDs (F : Hp) (φ : List Addr) : List V → List D → Prop := Paired (RD K F φ)
structure SR (F : Hp) (φ : List Addr) (st : Store) (H : Hp) : Prop where
  sub : Evl.Ex F H
  len : φ.length = st.length
  nd : φ.Nodup
  cell : ∀ (n : Nat) (ds : List D), st[n]? = some (Cell.lst ds) → ∃ a vs, φ[n]? = some a ∧ F a = none ∧ H a = some (.lst vs) ∧ RDs K F φ vs ds
  dead : ∀ (n : Nat), st[n]? = some Cell.dead → ∃ a, φ[n]? = some a ∧ F a ≠ none
structure ER (F : Hp) (φ : List Addr) (env : Env) (σ : L2.St) : Prop where
  len : env.length = σ.length
  val : ∀ (i : Nat) (d : D), env[i]? = some (some d) → ∃ v : V, σ[i]? = some (some v) ∧ RD K F φ v d
end
structure Ext (F : Hp) (φ : List Addr) (F' : Hp) (φ' : List Addr) : Prop where
  sub : Evl.Ex F F'
  pre : φ <+: φ'

section
variable {K : PySem.W.Frag} {F F1 F2 F' H H' : Hp} {φ φ1 φ2 φ' : List Addr} {st st1 st' : Store} {env : Env} {σ : L2.St}
theorem Ext.refl : Ext F φ F φ := ⟨Evl.Ex.refl F, List.prefix_refl φ⟩
theorem Ext.trans (a : Ext F φ F1 φ1) (b : Ext F1 φ1 F2 φ2) : Ext F φ F2 φ2 := ⟨a.sub.trans b.sub, a.pre.trans b.pre⟩
theorem Ext.at (a : Ext F φ F1 φ1) {n : Nat} {x : Addr} (h : φ[n]? = some x) : φ1[n]? = some x := by
  obtain ⟨t, rfl⟩ := a.pre
  rw [List.getElem?_append_left (List.getElem?_eq_some_iff.mp h).1]
  exact h
mutual
theorem dp_mono (e : Evl.Ex F F1) : ∀ {d : PyData} {v : V}, Dp K F v d → Dp K F1 v d
  | .none, _, h => by cases h; exact .non
  | .bool b, _, h => by cases h; exact .bl b
  | .int i, _, h => by cases h; exact .int i
  | .str x, _, h => by cases h; exact .str x
  | .list ds, _, h => by cases h with | lst hs ha => exact .lst (Evl.ex_l e hs) (dpAll_mono e ha)
  | .tuple ds, _, h => by cases h with | tup hs ha => exact .tup (Evl.ex_t e hs) (dpAll_mono e ha)
  | .dict _, _, h => by cases h
theorem dpAll_mono (e : Evl.Ex F F1) : ∀ {ds : List PyData} {vs : List V}, DpAll K F vs ds → DpAll K F1 vs ds
  | [], _, h => by cases h; exact .nil
  | d :: ds, _, h => by cases h with | cons h1 h2 => exact .cons (dp_mono e h1) (dpAll_mono e h2)
end
theorem RD.mono (e : Ext F φ F1 φ1) : ∀ {d : D} {v : V}, RD K F φ v d → RD K F1 φ1 v d
  | .p x, _, h => dp_mono e.sub h
  | .c n, _, ⟨a, h1, h2⟩ => ⟨a, e.at h1, h2⟩
theorem RDs.mono (e : Ext F φ F1 φ1) : ∀ {vs : List V} {ds : List D}, RDs K F φ vs ds → RDs K F1 φ1 vs ds
  | _, _, .nil => .nil
  | _, _, .cons h t => .cons (h.mono e) (RDs.mono e t)
theorem ER.mono (e : Ext F φ F1 φ1) (h : ER K F φ env σ) : ER K F1 φ1 env σ := ⟨h.len, fun i d hi => let ⟨v, h1, h2⟩ := h.val i d hi; ⟨v, h1, h2.mono e⟩⟩
theorem nodup_at {α : Type} {N : List α} (hN : N.Nodup) {i j : Nat} {x : α} (a : N[i]? = some x) (b : N[j]? = some x) : i = j := by
  obtain ⟨h1, e1⟩ := List.getElem?_eq_some_iff.mp a
  obtain ⟨h2, e2⟩ := List.getElem?_eq_some_iff.mp b
  exact (List.getElem_inj hN).mp (e1.trans e2.symm)
theorem SR.dom (h : SR K F φ st H) {a : Addr} (ha : a ∈ φ) : H a ≠ none := by
  obtain ⟨n, hn, e⟩ := List.getElem_of_mem ha
  have hn' : n < st.length := by rw [← h.len]; exact hn
  cases hc : st[n] with
  | lst ds =>
    obtain ⟨b, vs, e1, _, e2, _⟩ := h.cell n ds (by rw [List.getElem?_eq_getElem hn', hc])
    rw [List.getElem?_eq_getElem hn] at e1
    cases Option.some.inj e1
    rw [← e, e2]
    simp
  | dead =>
    obtain ⟨b, e1, e2⟩ := h.dead n (by rw [List.getElem?_eq_getElem hn', hc])
    rw [List.getElem?_eq_getElem hn] at e1
    cases Option.some.inj e1
    cases hF : F φ[n] with
    | none => exact absurd hF e2
    | some o =>
      rw [← e, h.sub _ _ hF]
      simp
/-- a new object laid beside: frozen -/
theorem SR.frz (h : SR K F φ st H) {p : Addr} {o : HO} (hp : H p = none) : SR K (upd F p o) φ st (upd H p o) ∧ Ext F φ (upd F p o) φ := by
  have fp : F p = none := Evl.fresh_back h.sub hp
  have e1 : Evl.Ex F (upd F p o) := Evl.Ex.new fp
  have E : Ext F φ (upd F p o) φ := ⟨e1, List.prefix_refl φ⟩
  have np : ∀ a ∈ φ, a ≠ p := fun a ha z => by subst z; exact h.dom ha hp
  refine ⟨⟨fun a u e => ?_, h.len, h.nd, fun n ds e => ?_, fun n e => ?_⟩, E⟩
  · by_cases ha : a = p
    · subst ha; rw [upd_same] at e ⊢; exact e
    · rw [upd_ne ha] at e ⊢; exact h.sub a u e
  · obtain ⟨a, vs, h1, h2, h3, h4⟩ := h.cell n ds e
    have ne := np a (List.mem_of_getElem? h1)
    exact ⟨a, vs, h1, by rw [upd_ne ne]; exact h2, by rw [upd_ne ne]; exact h3, h4.mono E⟩
  · obtain ⟨a, h1, h2⟩ := h.dead n e
    have ne := np a (List.mem_of_getElem? h1)
    exact ⟨a, h1, by rw [upd_ne ne]; exact h2⟩
/-- a new object laid beside, not tracked by the frozen part (garbage, an iterator's tuple ..) -/
theorem SR.junk (h : SR K F φ st H) {p : Addr} {o : HO} (hp : H p = none) : SR K F φ st (upd H p o) := by
  have np : ∀ a ∈ φ, a ≠ p := fun a ha z => by subst z; exact h.dom ha hp
  refine ⟨fun a u e => ?_, h.len, h.nd, fun n ds e => ?_, h.dead⟩
  · rw [upd_ne (ne_of_none (h.sub a u e) hp)]; exact h.sub a u e
  · obtain ⟨a, vs, h1, h2, h3, h4⟩ := h.cell n ds e
    exact ⟨a, vs, h1, h2, by rw [upd_ne (np a (List.mem_of_getElem? h1))]; exact h3, h4⟩
/-- .. a new cell -/
theorem SR.newCell (h : SR K F φ st H) {p : Addr} {vs : List V} {ds : List D} (hp : H p = none) (r : RDs K F φ vs ds) :
    SR K F (φ ++ [p]) (st ++ [.lst ds]) (upd H p (.lst vs)) ∧ Ext F φ F (φ ++ [p]) ∧ (φ ++ [p])[st.length]? = some p := by
  have fp : F p = none := Evl.fresh_back h.sub hp
  have E : Ext F φ F (φ ++ [p]) := ⟨Evl.Ex.refl F, List.prefix_append φ [p]⟩
  have np : ∀ a ∈ φ, a ≠ p := fun a ha z => by subst z; exact h.dom ha hp
  have hat : (φ ++ [p])[st.length]? = some p := by rw [← h.len, List.getElem?_concat_length]
  refine ⟨⟨fun a u e => ?_, by simp [h.len], ?_, fun n ds' e => ?_, fun n e => ?_⟩, E, hat⟩
  · rw [upd_ne (ne_of_none (h.sub a u e) hp)]; exact h.sub a u e
  · rw [List.nodup_append]
    exact ⟨h.nd, by simp, fun a ha b hb => by simp at hb; subst hb; exact np a ha⟩
  · by_cases hn : n < st.length
    · rw [List.getElem?_append_left hn] at e
      obtain ⟨a, ws, h1, h2, h3, h4⟩ := h.cell n ds' e
      exact ⟨a, ws, E.at h1, h2, by rw [upd_ne (np a (List.mem_of_getElem? h1))]; exact h3, h4.mono E⟩
    · have hn' : n = st.length := by
        have := (List.getElem?_eq_some_iff.mp e).1
        simp at this; omega
      subst hn'
      rw [List.getElem?_concat_length] at e
      cases Option.some.inj e
      exact ⟨p, vs, hat, fp, upd_same, r.mono E⟩
  · by_cases hn : n < st.length
    · rw [List.getElem?_append_left hn] at e
      obtain ⟨a, h1, h2⟩ := h.dead n e
      exact ⟨a, E.at h1, h2⟩
    · have hn' : n = st.length := by
        have := (List.getElem?_eq_some_iff.mp e).1
        simp at this; omega
      subst hn'
      rw [List.getElem?_concat_length] at e
      cases e
/-- a cell written -/
theorem SR.write (h : SR K F φ st H) {n : Nat} {ds0 ds : List D} {a : Addr} {vs : List V} (hn : st[n]? = some (.lst ds0)) (ha : φ[n]? = some a) (r : RDs K F φ vs ds) :
    SR K F φ (st.set n (.lst ds)) (upd H a (.lst vs)) := by
  obtain ⟨a', vs0, e1, e2, e3, _⟩ := h.cell n ds0 hn
  rw [ha] at e1
  cases Option.some.inj e1
  have hl : n < st.length := (List.getElem?_eq_some_iff.mp hn).1
  have other : ∀ m b, m ≠ n → φ[m]? = some b → b ≠ a := fun m b hm hb z => by
    subst z
    exact hm (nodup_at h.nd hb ha)
  refine ⟨fun b u e => ?_, by rw [List.length_set]; exact h.len, h.nd, fun m ds' e => ?_, fun m e => ?_⟩
  · have : b ≠ a := fun z => by subst z; rw [e2] at e; cases e
    rw [upd_ne this]; exact h.sub b u e
  · by_cases hm : m = n
    · subst hm
      rw [List.getElem?_set_self hl] at e
      cases Option.some.inj e
      exact ⟨a, vs, ha, e2, upd_same, r⟩
    · rw [List.getElem?_set_ne (Ne.symm hm)] at e
      obtain ⟨b, ws, h1, h2, h3, h4⟩ := h.cell m ds' e
      exact ⟨b, ws, h1, h2, by rw [upd_ne (other m b hm h1)]; exact h3, h4⟩
  · by_cases hm : m = n
    · subst hm
      rw [List.getElem?_set_self hl] at e
      cases e
    · rw [List.getElem?_set_ne (Ne.symm hm)] at e
      exact h.dead m e
end

/-! ### pure reading of a value -/
def D.pure? : D → Option PyData
  | .p x => some x
  | .c _ => none
def pures : List D → Option (List PyData)
  | [] => some []
  | .p x :: r => (pures r).map (x :: ·)
  | .c _ :: _ => none
@[simp] theorem pures_nil : pures [] = some [] := rfl
@[simp] theorem pures_p (x : PyData) (r : List D) : pures (.p x :: r) = (pures r).map (x :: ·) := rfl
@[simp] theorem pures_map (xs : List PyData) : pures (xs.map D.p) = some xs := by
  induction xs with
  | nil => rfl
  | cons x r ih => simp [ih]
theorem pures_some : ∀ {ds : List D} {xs : List PyData}, pures ds = some xs → ds = xs.map D.p
  | [], _, h => by cases h; rfl
  | .p x :: r, xs, h => by
    simp only [pures_p, Option.map_eq_some_iff] at h
    obtain ⟨ys, h1, rfl⟩ := h
    rw [pures_some h1]; rfl
  | .c _ :: _, _, h => by cases h
/-- the items of a cell -/
def cellL (st : Store) (n : Nat) : Option (List D) :=
  match st[n]? with
  | some (.lst ds) => some ds
  | _ => none
theorem cellL_some {st : Store} {n : Nat} {ds : List D} (h : cellL st n = some ds) : st[n]? = some (Cell.lst ds) := by
  unfold cellL at h
  split at h
  · rename_i es e
    cases Option.some.inj h
    exact e
  · cases h
/-- a value as data, through its cell -/
def toP : D → Store → Option PyData
  | .p x, _ => some x
  | .c n, st => (cellL st n).bind fun ds => (pures ds).map .list
@[simp] theorem toP_p (x : PyData) (st : Store) : toP (.p x) st = some x := rfl
theorem RDs.dpAll {K : PySem.W.Frag} {F : Hp} {φ : List Addr} : ∀ {vs : List V} {xs : List PyData}, RDs K F φ vs (xs.map D.p) → DpAll K F vs xs
  | _, [], h => by cases h; exact .nil
  | _, x :: xs, h => by cases h with | cons a t => exact .cons a (RDs.dpAll t)
theorem dpAll_rds {K : PySem.W.Frag} {F : Hp} {φ : List Addr} : ∀ {vs : List V} {xs : List PyData}, DpAll K F vs xs → RDs K F φ vs (xs.map D.p)
  | _, [], h => by cases h; exact .nil
  | _, x :: xs, h => by cases h with | cons a t => exact .cons a (dpAll_rds t)
theorem toP_ok {K : PySem.W.Frag} {F H : Hp} {φ : List Addr} {st : Store} {d : D} {v : V} {x : PyData} (S : SR K F φ st H) (r : RD K F φ v d) (h : toP d st = some x) : Dp K H v x := by
  cases d with
  | p y => cases Option.some.inj h; exact dp_mono S.sub r
  | c n =>
    obtain ⟨a, h1, rfl⟩ := r
    obtain ⟨ds, hc, h⟩ := Option.bind_eq_some_iff.mp h
    obtain ⟨xs, h2, rfl⟩ := Option.map_eq_some_iff.mp h
    obtain ⟨b, vs, e1, _, e2, e3⟩ := S.cell n ds (cellL_some hc)
    rw [h1] at e1
    cases Option.some.inj e1
    rw [pures_some h2] at e3
    exact .lst (Evl.sq_of e2) (dpAll_mono S.sub e3.dpAll)
/-- a list that is read: its items -/
def items : D → Store → Option (List D)
  | .p (.list xs), _ => some (xs.map .p)
  | .c n, st => cellL st n
  | _, _ => none
theorem items_ok {K : PySem.W.Frag} {F H : Hp} {φ : List Addr} {st : Store} {d : D} {v : V} {ds : List D} (S : SR K F φ st H) (r : RD K F φ v d) (h : items d st = some ds) :
    ∃ a vs, v = .ref a ∧ SqL K H a vs ∧ RDs K F φ vs ds := by
  cases d with
  | p y =>
    cases y with
    | list xs =>
      cases Option.some.inj h
      cases r with
      | lst hs ha => exact ⟨_, _, rfl, Evl.ex_l S.sub hs, dpAll_rds ha⟩
    | _ => cases h
  | c n =>
    obtain ⟨a, h1, rfl⟩ := r
    obtain ⟨b, vs, e1, _, e2, e3⟩ := S.cell n ds (cellL_some h)
    rw [h1] at e1
    cases Option.some.inj e1
    exact ⟨a, vs, rfl, Evl.sq_of e2, e3⟩
theorem tup_ok {K : PySem.W.Frag} {F H : Hp} {φ : List Addr} {st : Store} {v : V} {xs : List PyData} (S : SR K F φ st H) (r : RD K F φ v (.p (.tuple xs))) :
    ∃ a vs, v = .ref a ∧ SqT K H a vs ∧ SqT K F a vs ∧ RDs K F φ vs (xs.map .p) := by
  cases r with
  | tup hs ha => exact ⟨_, _, rfl, Evl.ex_t S.sub hs, hs, dpAll_rds ha⟩

/-! ### the readings -/
section
variable (K : PySem.W.Frag) (XR : Exc → Value → Option Addr → Hp → Prop) (E : XK)
def Sat {α : Type} (Rel : Hp → List Addr → Hp → α → Prop) (F : Hp) (φ : List Addr) (r : R α) : Prop :=
  match r with
  | .ok a st' => ∀ F' φ' H', Ext F φ F' φ' → SR K F' φ' st' H' → Rel F' φ' H' a
  | .ex e st' => ∀ F' φ' H' cls oa, Ext F φ F' φ' → SR K F' φ' st' H' → XR e cls oa H' → E cls oa H'
  | .bad => False
def QE (Q : VK) : Hp → List Addr → Hp → D → Prop := fun F' φ' H' d => ∀ v, RD K F' φ' v d → Q v H'
def QA (Q : List V → Hp → Prop) : Hp → List Addr → Hp → List D → Prop := fun F' φ' H' ds => ∀ vs, RDs K F' φ' vs ds → Q vs H'
def QT (Q : Bool → Hp → Prop) : Hp → List Addr → Hp → Bool → Prop := fun _ _ H' b => Q b H'
/-- a statement's end -/
inductive Fl where
  | nx (env : Env)
  | rt (d : D)
  | bk (env : Env)
  | ct (env : Env)
def QS (De : Ends) : Hp → List Addr → Hp → Fl → Prop := fun F' φ' H' f => match f with
  | .nx env => ∀ σ', ER K F' φ' env σ' → De.nx σ' H'
  | .rt d => ∀ v, RD K F' φ' v d → De.rt v H'
  | .bk env => ∀ σ', ER K F' φ' env σ' → De.bk σ' H'
  | .ct env => ∀ σ', ER K F' φ' env σ' → De.ct σ' H'
def rE (m : Env → Store → R D) : TE := fun σ H Q => ∃ env st F φ, SR K F φ st H ∧ ER K F φ env σ ∧ Sat K XR E (QE K Q) F φ (m env st)
def rA (m : Env → Store → R (List D)) : TA := fun σ H Q => ∃ env st F φ, SR K F φ st H ∧ ER K F φ env σ ∧ Sat K XR E (QA K Q) F φ (m env st)
def rT (m : Env → Store → R Bool) : TT := fun σ H Q => ∃ env st F φ, SR K F φ st H ∧ ER K F φ env σ ∧ Sat K XR E (QT Q) F φ (m env st)
def rS (m : Env → Store → R Fl) : TS := fun De σ H => ∃ env st F φ, SR K F φ st H ∧ ER K F φ env σ ∧ Sat K XR E (QS K De) F φ (m env st)
/-- operations on values -/
def rO (op : D → D → Store → R D) : R2 := fun x y H Q => ∃ a b st F φ, SR K F φ st H ∧ RD K F φ x a ∧ RD K F φ y b ∧ Sat K XR E (QE K Q) F φ (op a b st)
def rU (op : D → Store → R D) : V → Hp → VK → Prop := fun x H Q => ∃ a st F φ, SR K F φ st H ∧ RD K F φ x a ∧ Sat K XR E (QE K Q) F φ (op a st)
def rC (op : List D → Store → R D) : List V → Hp → VK → Prop := fun xs H Q => ∃ ds st F φ, SR K F φ st H ∧ RDs K F φ xs ds ∧ Sat K XR E (QE K Q) F φ (op ds st)
end
section
variable {K : PySem.W.Frag} {XR : Exc → Value → Option Addr → Hp → Prop} {E : XK} {F H : Hp} {φ : List Addr}
theorem Sat.ok {α : Type} {Rel : Hp → List Addr → Hp → α → Prop} {a : α} {st : Store} (h : Sat K XR E Rel F φ (.ok a st)) (S : SR K F φ st H) : Rel F φ H a := h F φ H Ext.refl S
theorem Sat.ext {α : Type} {Rel : Hp → List Addr → Hp → α → Prop} {F1 : Hp} {φ1 : List Addr} {r : R α} (e : Ext F φ F1 φ1) (h : Sat K XR E Rel F φ r) : Sat K XR E Rel F1 φ1 r := by
  cases r with
  | ok a st => exact fun F' φ' H' x S => h F' φ' H' (e.trans x) S
  | ex c st => exact fun F' φ' H' cls oa x S y => h F' φ' H' cls oa (e.trans x) S y
  | bad => exact h
/-- what is bound behind -/
theorem Sat.bind {α β : Type} {Rel : Hp → List Addr → Hp → β → Prop} {Rel' : Hp → List Addr → Hp → α → Prop} {r : R α} {k : α → Store → R β} (h : Sat K XR E Rel F φ (r.bind k))
    (f : ∀ a st F1 φ1 H1, Ext F φ F1 φ1 → SR K F1 φ1 st H1 → Sat K XR E Rel F1 φ1 (k a st) → Rel' F1 φ1 H1 a) : Sat K XR E Rel' F φ r := by
  cases r with
  | ok a st => exact fun F' φ' H' x S => f a st F' φ' H' x S (h.ext x)
  | ex c st => exact h
  | bad => exact h
end
theorem PE.imp {X : Cx} {e : Expr} {t t' : TE} (h : PE X e t) (i : ∀ σ H Q, t' σ H Q → t σ H Q) : PE X e t' := ⟨fun pins s σ H Q I hw => h.run pins s σ H Q I (i σ H Q hw)⟩
theorem PT.imp {X : Cx} {e : Expr} {t t' : TT} (h : PT X e t) (i : ∀ σ H Q, t' σ H Q → t σ H Q) : PT X e t' := ⟨fun pins s σ H Q I hw => h.run pins s σ H Q I (i σ H Q hw)⟩
theorem PW.imp {X : Cx} {e : Expr} {t t' : TT} (h : PW X e t) (i : ∀ σ H Q, t' σ H Q → t σ H Q) : PW X e t' := ⟨fun wh pins s σ H Q I hw => h.run wh pins s σ H Q I (i σ H Q hw)⟩
theorem PA.imp {X : Cx} {es : List Expr} {t t' : TA} (h : PA X es t) (i : ∀ σ H Q, t' σ H Q → t σ H Q) : PA X es t' := ⟨fun pos pins s σ H Q I hw => h.run pos pins s σ H Q I (i σ H Q hw)⟩
theorem PS.imp {X : Cx} {e : Stmt} {t t' : TS} (h : PS X e t) (i : ∀ De σ H, t' De σ H → t De σ H) : PS X e t' := ⟨fun pins s σ H De I hw => h.run pins s σ H De I (i De σ H hw)⟩
theorem PSs.imp {X : Cx} {e : List Stmt} {t t' : TS} (h : PSs X e t) (i : ∀ De σ H, t' De σ H → t De σ H) : PSs X e t' := ⟨fun pins s σ H De I hw => h.run pins s σ H De I (i De σ H hw)⟩
end MP

set_option Elab.async false
set_option linter.all false
set_option autoImplicit false
set_option maxRecDepth 100000
set_option maxHeartbeats 1000000
/-! operations on values -/
namespace MP
open PySem PySem.Spec PyProof.Rows L2

/-- the size below which every text, list and tuple of ours stays -/
def SZ : Nat := 100000
theorem sz_ok {n : Nat} (h : n ≤ SZ) : n ≤ sizeLine := Nat.le_trans h (by decide)

section
variable {K : PySem.W.Frag} {F : Hp} {φ : List Addr}
theorem rd_int {i : Int} : RD K F φ (.int i) (.p (.int i)) := Dp.int i
theorem rd_str {i : Str} : RD K F φ (.str i) (.p (.str i)) := Dp.str i
theorem rd_bl {i : Bool} : RD K F φ (.bl i) (.p (.bool i)) := Dp.bl i
theorem rd_non : RD K F φ .non (.p .none) := Dp.non
end
section
variable {K : PySem.W.Frag} {XR : Exc → Value → Option Addr → Hp → Prop} {E : XK} {F H : Hp} {φ : List Addr} {st : Store} {Q : VK}
theorem sat_val {v : V} {d : D} (S : SR K F φ st H) (r : RD K F φ v d) (h : Sat K XR E (QE K Q) F φ (.ok d st)) : Q v H := h F φ H Ext.refl S v r
theorem sat_newL {p : Addr} {vs : List V} {xs : List PyData} (S : SR K F φ st H) (hp : H p = none) (r : DpAll K F vs xs) (h : Sat K XR E (QE K Q) F φ (.ok (.p (.list xs)) st)) : Q (.ref p) (upd H p (.lst vs)) := by
  obtain ⟨S', e⟩ := S.frz (o := .lst vs) hp
  exact h _ _ _ e S' _ (.lst (Evl.sq_of upd_same) (dpAll_mono e.sub r))
theorem sat_newT {p : Addr} {vs : List V} {xs : List PyData} (S : SR K F φ st H) (hp : H p = none) (r : DpAll K F vs xs) (h : Sat K XR E (QE K Q) F φ (.ok (.p (.tuple xs)) st)) : Q (.ref p) (upd H p (.tup vs)) := by
  obtain ⟨S', e⟩ := S.frz (o := .tup vs) hp
  exact h _ _ _ e S' _ (.tup (Evl.st_of upd_same) (dpAll_mono e.sub r))
theorem sat_newC {p : Addr} {vs : List V} {ds : List D} (S : SR K F φ st H) (hp : H p = none) (r : RDs K F φ vs ds) (h : Sat K XR E (QE K Q) F φ (.ok (.c st.length) (st ++ [.lst ds]))) : Q (.ref p) (upd H p (.lst vs)) := by
  obtain ⟨S', e, ha⟩ := S.newCell hp r
  exact h _ _ _ e S' _ ⟨p, ha, rfl⟩
end
/-- a list made: frozen data, or a cell -/
def mkL (c : Bool) (ds : List D) (st : Store) : R D :=
  match c with
  | true => .ok (.c st.length) (st ++ [.lst ds])
  | false => match pures ds with
    | some xs => .ok (.p (.list xs)) st
    | none => .bad
@[simp] theorem mkL_true (ds : List D) (st : Store) : mkL true ds st = .ok (.c st.length) (st ++ [.lst ds]) := rfl
@[simp] theorem mkL_p (xs : List PyData) (st : Store) : mkL false (xs.map .p) st = .ok (.p (.list xs)) st := by
  unfold mkL; rw [pures_map]
section
variable {K : PySem.W.Frag} {XR : Exc → Value → Option Addr → Hp → Prop} {E : XK} {F H : Hp} {φ : List Addr} {st : Store} {Q : VK}
theorem sat_mkL {c : Bool} {p : Addr} {vs : List V} {ds : List D} (S : SR K F φ st H) (hp : H p = none) (r : RDs K F φ vs ds) (h : Sat K XR E (QE K Q) F φ (mkL c ds st)) : Q (.ref p) (upd H p (.lst vs)) := by
  cases c with
  | true => exact sat_newC S hp r h
  | false =>
    unfold mkL at h
    cases e : pures ds with
    | none => rw [e] at h; exact h.elim
    | some xs =>
      rw [e] at h
      rw [pures_some e] at r
      exact sat_newL S hp r.dpAll h
end

/-! ### + - * // % ** -/
def addD (a b : D) (st : Store) : R D :=
  match a, b with
  | .p (.int i), .p (.int j) => .ok (.p (.int (i + j))) st
  | .p (.str x), .p (.str y) => if x.length + y.length ≤ SZ then .ok (.p (.str (x ++ y))) st else .bad
  | .p (.tuple xs), .p (.tuple ys) => if xs.length + ys.length ≤ SZ then .ok (.p (.tuple (xs ++ ys))) st else .bad
  | a, b => match items a st, items b st with
    | some xs, some ys => if xs.length + ys.length ≤ SZ then mkL false (xs ++ ys) st else .bad
    | _, _ => .bad
def subD (a b : D) (st : Store) : R D :=
  match a, b with
  | .p (.int i), .p (.int j) => .ok (.p (.int (i - j))) st
  | _, _ => .bad
def mulOk (i j : Int) : Bool := decide (i.natAbs < 2 ^ 64) || decide (j.natAbs < 2 ^ 64)
def mulD (a b : D) (st : Store) : R D :=
  match a, b with
  | .p (.int i), .p (.int j) => if mulOk i j then .ok (.p (.int (i * j))) st else .bad
  | _, _ => .bad
def divD (a b : D) (st : Store) : R D :=
  match a, b with
  | .p (.int i), .p (.int j) => if 0 < j ∧ j < 2 ^ 100 then .ok (.p (.int (i / j))) st else .bad
  | _, _ => .bad
def modD (a b : D) (st : Store) : R D :=
  match a, b with
  | .p (.int i), .p (.int j) => if 0 < j then .ok (.p (.int (i % j))) st else .bad
  | _, _ => .bad
def powD (a b : D) (st : Store) : R D :=
  match a, b with
  | .p (.int i), .p (.int j) => if 0 ≤ j ∧ j ≤ 100 ∧ i.natAbs < 2 ^ 64 then .ok (.p (.int (i ^ j.toNat))) st else .bad
  | _, _ => .bad
section
variable {X : Cx} {XR : Exc → Value → Option Addr → Hp → Prop} {E : XK}
theorem RD.int {K : PySem.W.Frag} {F : Hp} {φ : List Addr} {v : V} {i : Int} (r : RD K F φ v (.p (.int i))) : v = .int i := by cases r; rfl
theorem RD.str {K : PySem.W.Frag} {F : Hp} {φ : List Addr} {v : V} {i : Str} (r : RD K F φ v (.p (.str i))) : v = .str i := by cases r; rfl
theorem RD.bl {K : PySem.W.Frag} {F : Hp} {φ : List Addr} {v : V} {i : Bool} (r : RD K F φ v (.p (.bool i))) : v = .bl i := by cases r; rfl
theorem RD.non {K : PySem.W.Frag} {F : Hp} {φ : List Addr} {v : V} (r : RD K F φ v (.p .none)) : v = .non := by cases r; rfl
theorem Vals.map_len {α : Type} : True := trivial

/-- list + list, wherever they stand -/
def rCatL (K : PySem.W.Frag) : R2 := fun x y H Q => ∃ l b xs zs, x = .ref l ∧ y = .ref b ∧ SqL K H l xs ∧ SqL K H b zs ∧ xs.length + zs.length ≤ sizeLine ∧ ∀ p, H p = none → Q (.ref p) (upd H p (.lst (xs ++ zs)))
theorem op_catL : OpR X (binaryOp .Add) (rCatL X.K) := by
  intro pins s σ H x y v u Q I rx ry h
  obtain ⟨l, b, xs, zs, rfl, rfl, hH, hB, hz, q⟩ := h
  cases rx
  cases ry
  obtain ⟨its, r, hl, _⟩ := I.list hH
  obtain ⟨its2, r2, hb, _⟩ := I.list hB
  obtain ⟨⟨cls, dd, data, sl⟩, n, ho, hc, hdd, hd⟩ := id hl
  obtain ⟨⟨cls2, dd2, data2, sl2⟩, n2, ho2, hc2, hdd2, hd2⟩ := id hb
  simp only at hc hd hc2 hd2 hdd hdd2
  subst hc hd hc2 hd2 hdd hdd2
  have e : its.toArray ++ its2.toArray = (its ++ its2).toArray := by simp
  have l1 := r.length
  have l2 := r2.length
  refine concat_meets ⟨_, ho, rfl⟩ ⟨_, ho2, rfl⟩ noFill_list_add seq_list_add PySem.F.slot_list_add PySem.F.entry_list_add (PySem.F.args_list_add_2 _ _) (list_addW l b its.toArray its2.toArray n n2 none none sl sl2 (by simp; omega)) ⟨ho, ho2, ?_⟩
  rw [e]
  exact ⟨.ref _, _, I.lnew (t' := s.toks) (r.append r2) (by rw [List.length_append]; omega), rfl, q _ I.fresh⟩

theorem rds_append {K : PySem.W.Frag} {F : Hp} {φ : List Addr} : ∀ {vs ws : List V} {xs ys : List D}, RDs K F φ vs xs → RDs K F φ ws ys → RDs K F φ (vs ++ ws) (xs ++ ys)
  | _, _, _, _, .nil, h => h
  | _, _, _, _, .cons a t, h => .cons a (rds_append t h)
theorem rds_length {K : PySem.W.Frag} {F : Hp} {φ : List Addr} {vs : List V} {xs : List D} (h : RDs K F φ vs xs) : vs.length = xs.length := Paired.length h
theorem rds_take {K : PySem.W.Frag} {F : Hp} {φ : List Addr} : ∀ {vs : List V} {xs : List D} (n : Nat), RDs K F φ vs xs → RDs K F φ (vs.take n) (xs.take n)
  | _, _, 0, _ => .nil
  | _, _, _ + 1, .nil => .nil
  | _, _, n + 1, .cons a t => .cons a (rds_take n t)
theorem rds_drop {K : PySem.W.Frag} {F : Hp} {φ : List Addr} : ∀ {vs : List V} {xs : List D} (n : Nat), RDs K F φ vs xs → RDs K F φ (vs.drop n) (xs.drop n)
  | _, _, 0, h => h
  | _, _, _ + 1, .nil => .nil
  | _, _, n + 1, .cons a t => rds_drop n t
theorem rds_get {K : PySem.W.Frag} {F : Hp} {φ : List Addr} : ∀ {vs : List V} {xs : List D} {i : Nat} {d : D}, RDs K F φ vs xs → xs[i]? = some d → ∃ v, vs[i]? = some v ∧ RD K F φ v d
  | _, _, 0, _, .cons a t, h => by cases Option.some.inj h; exact ⟨_, rfl, a⟩
  | _, _, i + 1, _, .cons a t, h => rds_get (i := i) t h
  | _, _, _, _, .nil, h => by simp at h
theorem rds_get' {K : PySem.W.Frag} {F : Hp} {φ : List Addr} : ∀ {vs : List V} {xs : List D} {i : Nat} {v : V}, RDs K F φ vs xs → vs[i]? = some v → ∃ d, xs[i]? = some d ∧ RD K F φ v d
  | _, _, 0, _, .cons a t, h => by cases Option.some.inj h; exact ⟨_, rfl, a⟩
  | _, _, i + 1, _, .cons a t, h => rds_get' (i := i) t h
  | _, _, _, _, .nil, h => by simp at h
theorem rds_set {K : PySem.W.Frag} {F : Hp} {φ : List Addr} {v : V} {d : D} (r : RD K F φ v d) : ∀ {vs : List V} {xs : List D} (n : Nat), RDs K F φ vs xs → RDs K F φ (vs.set n v) (xs.set n d)
  | _, _, _, .nil => .nil
  | _, _, 0, .cons _ t => .cons r t
  | _, _, n + 1, .cons a t => .cons a (rds_set r n t)
theorem rds_reverse {K : PySem.W.Frag} {F : Hp} {φ : List Addr} {vs : List V} {xs : List D} (h : RDs K F φ vs xs) : RDs K F φ vs.reverse xs.reverse := by
  induction h with
  | nil => exact .nil
  | cons a t ih => rw [List.reverse_cons, List.reverse_cons]; exact rds_append ih (.cons a .nil)

theorem o_add : OpR X (binaryOp .Add) (rO X.K XR E addD) := by
  intro pins s σ H x y v u Q I rx ry h
  obtain ⟨a, b, st, F, φ, S, ra, rb, h⟩ := h
  have lists : ∀ xs ys, items a st = some xs → items b st = some ys → Sat X.K XR E (QE X.K Q) F φ (if xs.length + ys.length ≤ SZ then mkL false (xs ++ ys) st else .bad) → wpAny (model X.prog X.w) X.A (binaryOp .Add v u) (EP X pins σ Q) X.xe s := by
    intro xs ys ea eb h
    by_cases hz : xs.length + ys.length ≤ SZ
    · rw [if_pos hz] at h
      obtain ⟨l, vs, rfl, hl, r1⟩ := items_ok S ra ea
      obtain ⟨m, ws, rfl, hm, r2⟩ := items_ok S rb eb
      refine op_catL pins s σ H _ _ v u Q I rx ry ⟨l, m, vs, ws, rfl, rfl, hl, hm, ?_, fun p hp => sat_mkL S hp (rds_append r1 r2) h⟩
      rw [rds_length r1, rds_length r2]
      exact sz_ok hz
    · rw [if_neg hz] at h; exact h.elim
  unfold addD at h
  split at h
  · rename_i i j
    exact op_add pins s σ H _ _ v u Q I rx ry ⟨i, j, ra.int, rb.int, sat_val S rd_int h⟩
  · rename_i i j
    split at h
    · rename_i hz
      exact op_add_str pins s σ H _ _ v u Q I rx ry ⟨i, j, ra.str, rb.str, sz_ok hz, sat_val S rd_str h⟩
    · exact h.elim
  · rename_i xs ys
    split at h
    · rename_i hz
      obtain ⟨l, vs, rfl, hl, hlF, r1⟩ := tup_ok S ra
      obtain ⟨m, ws, rfl, hm, hmF, r2⟩ := tup_ok S rb
      have l1 := rds_length r1
      have l2 := rds_length r2
      rw [List.length_map] at l1 l2
      have rr := rds_append r1 r2
      rw [← List.map_append] at rr
      refine op_catA pins s σ H _ _ v u Q I rx ry ⟨l, m, vs, ws, rfl, rfl, hl, hm, ?_, fun e => ?_, fun _ e => ?_, fun _ _ p hp => sat_newT S hp rr.dpAll h⟩
      · rw [l1, l2]; exact sz_ok hz
      · subst e
        have : xs = [] := by rw [← List.length_eq_zero_iff]; exact l1.symm
        subst this
        exact sat_val S (show RD X.K F φ _ (.p _) from Dp.tup hmF r2.dpAll) h
      · subst e
        have : ys = [] := by rw [← List.length_eq_zero_iff]; exact l2.symm
        subst this
        rw [List.append_nil] at h
        exact sat_val S (show RD X.K F φ _ (.p _) from Dp.tup hlF r1.dpAll) h
    · exact h.elim
  · split at h
    · rename_i xs ys e1 e2
      exact lists xs ys e1 e2 h
    · exact h.elim
theorem o_sub : OpR X (binaryOp .Sub) (rO X.K XR E subD) := by
  intro pins s σ H x y v u Q I rx ry h
  obtain ⟨a, b, st, F, φ, S, ra, rb, h⟩ := h
  unfold subD at h
  split at h
  · rename_i i j
    exact op_sub pins s σ H _ _ v u Q I rx ry ⟨i, j, ra.int, rb.int, sat_val S rd_int h⟩
  · exact h.elim
theorem o_mul : OpR X (binaryOp .Mult) (rO X.K XR E mulD) := by
  intro pins s σ H x y v u Q I rx ry h
  obtain ⟨a, b, st, F, φ, S, ra, rb, h⟩ := h
  unfold mulD at h
  split at h
  · rename_i i j
    split at h
    · rename_i hz
      refine op_mul pins s σ H _ _ v u Q I rx ry ⟨i, j, ra.int, rb.int, ?_, sat_val S rd_int h⟩
      unfold mulOk at hz
      rw [Bool.or_eq_true, decide_eq_true_eq, decide_eq_true_eq] at hz
      rcases hz with hz | hz
      · exact .inl (by omega)
      · exact .inr (by omega)
    · exact h.elim
  · exact h.elim
theorem o_div : OpR X (binaryOp .FloorDiv) (rO X.K XR E divD) := by
  intro pins s σ H x y v u Q I rx ry h
  obtain ⟨a, b, st, F, φ, S, ra, rb, h⟩ := h
  unfold divD at h
  split at h
  · rename_i i j
    split at h
    · rename_i hz
      exact op_fdivW pins s σ H _ _ v u Q I rx ry ⟨i, j, ra.int, rb.int, wide_div (b := 100) hz.1 (by omega) (by decide) (by decide), sat_val S rd_int h⟩
    · exact h.elim
  · exact h.elim
theorem o_mod : OpR X (binaryOp .Mod) (rO X.K XR E modD) := by
  intro pins s σ H x y v u Q I rx ry h
  obtain ⟨a, b, st, F, φ, S, ra, rb, h⟩ := h
  unfold modD at h
  split at h
  · rename_i i j
    split at h
    · rename_i hz
      exact op_mod pins s σ H _ _ v u Q I rx ry ⟨i, j, ra.int, rb.int, hz, sat_val S rd_int h⟩
    · exact h.elim
  · exact h.elim
theorem o_pow : OpR X (binaryOp .Pow) (rO X.K XR E powD) := by
  intro pins s σ H x y v u Q I rx ry h
  obtain ⟨a, b, st, F, φ, S, ra, rb, h⟩ := h
  unfold powD at h
  split at h
  · rename_i i j
    split at h
    · rename_i hz
      exact op_pow pins s σ H _ _ v u Q I rx ry ⟨i, j, ra.int, rb.int, ⟨hz.1, by omega, hz.2.2⟩, sat_val S rd_int h⟩
    · exact h.elim
  · exact h.elim
end
def binD : Operator → D → D → Store → R D
  | .Add => addD
  | .Sub => subD
  | .Mult => mulD
  | .FloorDiv => divD
  | .Mod => modD
  | .Pow => powD
  | _ => fun _ _ _ => .bad
theorem o_bin {X : Cx} {XR : Exc → Value → Option Addr → Hp → Prop} {E : XK} (op : Operator) : OpR X (binaryOp op) (rO X.K XR E (binD op)) := by
  have no : OpR X (binaryOp op) (rO X.K XR E fun _ _ _ => .bad) := by
    intro pins s σ H x y v u Q I rx ry h
    obtain ⟨a, b, st, F, φ, S, ra, rb, h⟩ := h
    exact h.elim
  cases op <;> first | exact o_add | exact o_sub | exact o_mul | exact o_div | exact o_mod | exact o_pow | exact no

/-! ### comparisons -/
theorem dp_plain {K : PySem.W.Frag} {H : Hp} : ∀ {d : PyData} {v : V}, Dp K H v d → d.plain = true := fun {d v} h => by
  refine Dp.rec (motive_1 := fun v d _ => d.plain = true) (motive_2 := fun vs ds _ => PyData.plainAll ds = true) ?_ ?_ ?_ ?_ ?_ ?_ ?_ ?_ h
  · rfl
  · intro b; rfl
  · intro i; rfl
  · intro x; rfl
  · intro a xs ds hs ha ih; exact ih
  · intro a xs ds hs ha ih; exact ih
  · rfl
  · intro v vs d ds h1 h2 i1 i2
    simp [PyData.plainAll, i1, i2]
/-- room enough for a comparison -/
def eqRoom (x y : PyData) : Bool := decide (min x.depth y.depth ≤ 64)
def eqD (neg : Bool) (a b : D) (st : Store) : R D :=
  match toP a st, toP b st with
  | some x, some y => if eqRoom x y = true then .ok (.p (.bool (if neg then !PyData.eqv x y else PyData.eqv x y))) st else .bad
  | _, _ => .bad
def notNone : PyData → Bool
  | .none => false
  | _ => true
/-- an order by Python: ints, texts, else alike data -/
def ltP (x y : PyData) : Option Bool :=
  match x, y with
  | .int i, .int j => some (decide (i < j))
  | .str i, .str j => some (decide (i.cps.toList < j.cps.toList))
  | x, y => if (PySem.W.alike x y && eqRoom x y && notNone x) = true then some (PySem.W.dataLt x y) else none
def ordD (op : CmpOp) (a b : D) (st : Store) : R D :=
  match toP a st, toP b st with
  | some x, some y => match op with
    | .Lt => match ltP x y with | some k => .ok (.p (.bool k)) st | none => .bad
    | .Gt => match ltP y x with | some k => .ok (.p (.bool k)) st | none => .bad
    | .LtE => match ltP y x with | some k => .ok (.p (.bool (!k))) st | none => .bad
    | .GtE => match ltP x y with | some k => .ok (.p (.bool (!k))) st | none => .bad
    | _ => .bad
  | _, _ => .bad
/-- x in xs -/
def inD (neg : Bool) (a b : D) (st : Store) : R D :=
  match b with
  | .p (.str y) => match a with
    | .p (.str x) => .ok (.p (.bool (if neg then !(!(Builtin.Str.occurrences y x 0 y.length 1).isEmpty) else !(Builtin.Str.occurrences y x 0 y.length 1).isEmpty))) st
    | _ => .bad
  | b => match toP a st, toP b st with
    | some x, some (.list ys) => if decide (x.depth ≤ 64) then .ok (.p (.bool (if neg then !(ys.any fun y => PyData.eqv y x) else ys.any fun y => PyData.eqv y x))) st else .bad
    | some x, some (.tuple ys) => if decide (x.depth ≤ 64) then .ok (.p (.bool (if neg then !(ys.any fun y => PyData.eqv y x) else ys.any fun y => PyData.eqv y x))) st else .bad
    | _, _ => .bad
section
variable {X : Cx} {XR : Exc → Value → Option Addr → Hp → Prop} {E : XK}
theorem o_eq (hu : X.A.units + 200 < cLine) : OpR X (compareOp .Eq) (rO X.K XR E (eqD false)) := by
  intro pins s σ H x y v u Q I rx ry h
  obtain ⟨a, b, st, F, φ, S, ra, rb, h⟩ := h
  unfold eqD at h
  split at h
  · rename_i d e e1 e2
    split at h
    · rename_i hz
      have hd := toP_ok S ra e1
      have he := toP_ok S rb e2
      obtain ⟨as, r1⟩ := Dp.reads I d x v hd rx
      obtain ⟨bs, r2⟩ := Dp.reads I e y u he ry
      have hz : min d.depth e.depth ≤ 64 := of_decide_eq_true hz
      exact PySem.SeqAt.eq_plain r1 r2 (dp_plain hd) (dp_plain he) (by omega) ⟨.bl _, H, I, rfl, sat_val S rd_bl h⟩
    · exact h.elim
  · exact h.elim
theorem o_ne (hu : X.A.units + 200 < cLine) : OpR X (compareOp .NotEq) (rO X.K XR E (eqD true)) := by
  intro pins s σ H x y v u Q I rx ry h
  obtain ⟨a, b, st, F, φ, S, ra, rb, h⟩ := h
  unfold eqD at h
  split at h
  · rename_i d e e1 e2
    split at h
    · rename_i hz
      have hd := toP_ok S ra e1
      have he := toP_ok S rb e2
      obtain ⟨as, r1⟩ := Dp.reads I d x v hd rx
      obtain ⟨bs, r2⟩ := Dp.reads I e y u he ry
      have hz : min d.depth e.depth ≤ 64 := of_decide_eq_true hz
      exact PySem.SeqAt.ne_plain r1 r2 (dp_plain hd) (dp_plain he) (by omega) ⟨.bl _, H, I, rfl, sat_val S rd_bl h⟩
    · exact h.elim
  · exact h.elim
theorem notNone_ne {x : PyData} (h : notNone x = true) : x ≠ .none := by
  intro e; subst e; cases h
theorem alike_notNone {x y : PyData} (h : PySem.W.alike x y = true) (n : notNone x = true) : notNone y = true := by
  cases y with
  | none => cases x <;> first | (cases n; done) | (simp [PySem.W.alike] at h)
  | _ => rfl
theorem ltP_data {x y : PyData} {k : Bool} (h : ltP x y = some k) : PySem.W.alike x y = true ∧ x ≠ .none ∧ y ≠ .none ∧ min x.depth y.depth ≤ 64 ∧ PySem.W.dataLt x y = k := by
  unfold ltP at h
  split at h
  · rename_i i j
    exact ⟨rfl, by simp, by simp, by simp [PyData.depth], by rw [PySem.W.dataLt_int]; exact Option.some.inj h⟩
  · rename_i i j
    exact ⟨rfl, by simp, by simp, by simp [PyData.depth], by rw [PySem.W.dataLt_str]; exact Option.some.inj h⟩
  · split at h
    · rename_i hz
      simp only [Bool.and_eq_true] at hz
      obtain ⟨⟨h1, h2⟩, h3⟩ := hz
      exact ⟨h1, notNone_ne h3, notNone_ne (alike_notNone h1 h3), of_decide_eq_true h2, Option.some.inj h⟩
    · cases h
theorem o_ord (hu : X.A.units + 200 < cLine) (op : CmpOp) (h1 : op ≠ .Eq) (h2 : op ≠ .NotEq) : OpR X (compareOp op) (rO X.K XR E (ordD op)) := by
  intro pins s σ H x y v u Q I rx ry h
  obtain ⟨a, b, st, F, φ, S, ra, rb, h⟩ := h
  unfold ordD at h
  split at h
  · rename_i d e e1 e2
    have hd := toP_ok S ra e1
    have he := toP_ok S rb e2
    obtain ⟨as, r1⟩ := Dp.reads I d x v hd rx
    obtain ⟨bs, r2⟩ := Dp.reads I e y u he ry
    split at h
    · split at h
      · rename_i k hk
        obtain ⟨q1, q2, q3, q4, q5⟩ := ltP_data hk
        exact PySem.W.lt_data r1 r2 q1 q2 (by omega) (by rw [q5]; exact ⟨.bl _, H, I, rfl, sat_val S rd_bl h⟩)
      · exact h.elim
    · split at h
      · rename_i k hk
        obtain ⟨q1, q2, q3, q4, q5⟩ := ltP_data hk
        exact PySem.W.gt_data r1 r2 (by rw [PySem.W.alike_comm]; exact q1) q3 (by omega) (by rw [q5]; exact ⟨.bl _, H, I, rfl, sat_val S rd_bl h⟩)
      · exact h.elim
    · split at h
      · rename_i k hk
        obtain ⟨q1, q2, q3, q4, q5⟩ := ltP_data hk
        exact PySem.W.le_data r1 r2 (by rw [PySem.W.alike_comm]; exact q1) q3 (by omega) (by rw [q5]; exact ⟨.bl _, H, I, rfl, sat_val S rd_bl h⟩)
      · exact h.elim
    · split at h
      · rename_i k hk
        obtain ⟨q1, q2, q3, q4, q5⟩ := ltP_data hk
        exact PySem.W.ge_data r1 r2 q1 q2 (by omega) (by rw [q5]; exact ⟨.bl _, H, I, rfl, sat_val S rd_bl h⟩)
      · exact h.elim
    · exact h.elim
  · exact h.elim
theorem plainAll_of_list {ys : List PyData} (h : (PyData.list ys).plain = true) : PyData.plainAll ys = true := h
theorem plainAll_of_tuple {ys : List PyData} (h : (PyData.tuple ys).plain = true) : PyData.plainAll ys = true := h
theorem o_in (hu : X.A.units + 200 < cLine) : OpR X (compareOp .In) (rO X.K XR E (inD false)) := by
  intro pins s σ H x y v u Q I rx ry h
  obtain ⟨a, b, st, F, φ, S, ra, rb, h⟩ := h
  unfold inD at h
  split at h
  · split at h
    · rename_i z w
      exact op_in_str pins s σ H _ _ v u Q I rx ry ⟨_, _, ra.str, rb.str, sat_val S rd_bl h⟩
    · exact h.elim
  · split at h
    · rename_i d ys e1 e2
      split at h
      · rename_i hz
        have hz := of_decide_eq_true hz
        have hd := toP_ok S ra e1
        have he := toP_ok S rb e2
        obtain ⟨as, r1⟩ := Dp.reads I d x v hd rx
        obtain ⟨bs, r2⟩ := Dp.reads I _ y u he ry
        exact PySem.SeqAt.in_list_data r2 r1 (plainAll_of_list (dp_plain he)) (dp_plain hd) (by omega) ⟨.bl _, H, I, rfl, sat_val S rd_bl h⟩
      · exact h.elim
    · rename_i d ys e1 e2
      split at h
      · rename_i hz
        have hz := of_decide_eq_true hz
        have hd := toP_ok S ra e1
        have he := toP_ok S rb e2
        obtain ⟨as, r1⟩ := Dp.reads I d x v hd rx
        obtain ⟨bs, r2⟩ := Dp.reads I _ y u he ry
        exact PySem.SeqAt.in_tuple_data r2 r1 (plainAll_of_tuple (dp_plain he)) (dp_plain hd) (by omega) ⟨.bl _, H, I, rfl, sat_val S rd_bl h⟩
      · exact h.elim
    · exact h.elim
theorem o_notIn (hu : X.A.units + 200 < cLine) : OpR X (compareOp .NotIn) (rO X.K XR E (inD true)) := by
  intro pins s σ H x y v u Q I rx ry h
  obtain ⟨a, b, st, F, φ, S, ra, rb, h⟩ := h
  unfold inD at h
  split at h
  · split at h
    · rename_i z w
      exact op_notin_str pins s σ H _ _ v u Q I rx ry ⟨_, _, ra.str, rb.str, sat_val S rd_bl h⟩
    · exact h.elim
  · split at h
    · rename_i d ys e1 e2
      split at h
      · rename_i hz
        have hz := of_decide_eq_true hz
        have hd := toP_ok S ra e1
        have he := toP_ok S rb e2
        obtain ⟨as, r1⟩ := Dp.reads I d x v hd rx
        obtain ⟨bs, r2⟩ := Dp.reads I _ y u he ry
        exact PySem.SeqAt.notIn_list_data r2 r1 (plainAll_of_list (dp_plain he)) (dp_plain hd) (by omega) ⟨.bl _, H, I, rfl, sat_val S rd_bl h⟩
      · exact h.elim
    · rename_i d ys e1 e2
      split at h
      · rename_i hz
        have hz := of_decide_eq_true hz
        have hd := toP_ok S ra e1
        have he := toP_ok S rb e2
        obtain ⟨as, r1⟩ := Dp.reads I d x v hd rx
        obtain ⟨bs, r2⟩ := Dp.reads I _ y u he ry
        exact PySem.SeqAt.notIn_tuple_data r2 r1 (plainAll_of_tuple (dp_plain he)) (dp_plain hd) (by omega) ⟨.bl _, H, I, rfl, sat_val S rd_bl h⟩
      · exact h.elim
    · exact h.elim
/-- is, is not a constant -/
def isC (k : PyData) (a : D) : Bool :=
  match a, k with
  | .p .none, .none => true
  | .p (.bool j), .bool k => decide (j = k)
  | _, _ => false
def isD (neg : Bool) (a b : D) (st : Store) : R D :=
  match b with
  | .p .none => .ok (.p (.bool (if neg then !isC .none a else isC .none a))) st
  | .p (.bool k) => .ok (.p (.bool (if neg then !isC (.bool k) a else isC (.bool k) a))) st
  | _ => .bad
theorem rel_isC {K : PySem.W.Frag} {F : Hp} {φ : List Addr} {x : V} {v : Value} {a : D} (r : RD K F φ x a) (rx : RelV x v) :
    (plainIs v .none = true ∧ (v == Value.none) = isC .none a) ∧ ∀ k, plainIs v (.bool k) = true ∧ (v == Value.bool k) = isC (.bool k) a := by
  cases a with
  | c n =>
    obtain ⟨a, _, rfl⟩ := r
    cases rx
    exact ⟨⟨rfl, rfl⟩, fun k => ⟨rfl, rfl⟩⟩
  | p y =>
    cases y with
    | none => cases r; cases rx; exact ⟨⟨rfl, rfl⟩, fun k => ⟨rfl, rfl⟩⟩
    | bool j =>
      cases r; cases rx
      refine ⟨⟨rfl, rfl⟩, fun k => ⟨rfl, ?_⟩⟩
      cases j <;> cases k <;> rfl
    | int j => cases r; obtain ⟨t, rfl⟩ := rx; exact ⟨⟨rfl, rfl⟩, fun k => ⟨rfl, rfl⟩⟩
    | str j => cases r; obtain ⟨t, rfl⟩ := rx; exact ⟨⟨rfl, rfl⟩, fun k => ⟨rfl, rfl⟩⟩
    | list j => cases r; cases rx; exact ⟨⟨rfl, rfl⟩, fun k => ⟨rfl, rfl⟩⟩
    | tuple j => cases r; cases rx; exact ⟨⟨rfl, rfl⟩, fun k => ⟨rfl, rfl⟩⟩
    | dict j => cases r
theorem o_is : OpR X (compareOp .Is) (rO X.K XR E (isD false)) := by
  intro pins s σ H x y v u Q I rx ry h
  obtain ⟨a, b, st, F, φ, S, ra, rb, h⟩ := h
  obtain ⟨⟨h1, h2⟩, h3⟩ := rel_isC ra rx
  unfold isD at h
  split at h
  · rw [rb.non] at ry
    cases ry
    exact wpAny_is_plain h1 ⟨.bl _, H, I, by rw [h2]; rfl, sat_val S rd_bl h⟩
  · rename_i k
    rw [rb.bl] at ry
    cases ry
    exact wpAny_is_plain (h3 k).1 ⟨.bl _, H, I, by rw [(h3 k).2]; rfl, sat_val S rd_bl h⟩
  · exact h.elim
theorem o_isNot : OpR X (compareOp .IsNot) (rO X.K XR E (isD true)) := by
  intro pins s σ H x y v u Q I rx ry h
  obtain ⟨a, b, st, F, φ, S, ra, rb, h⟩ := h
  obtain ⟨⟨h1, h2⟩, h3⟩ := rel_isC ra rx
  unfold isD at h
  split at h
  · rw [rb.non] at ry
    cases ry
    exact wpAny_isNot_plain h1 ⟨.bl _, H, I, by rw [h2]; rfl, sat_val S rd_bl h⟩
  · rename_i k
    rw [rb.bl] at ry
    cases ry
    exact wpAny_isNot_plain (h3 k).1 ⟨.bl _, H, I, by rw [(h3 k).2]; rfl, sat_val S rd_bl h⟩
  · exact h.elim
end
def cmpD : CmpOp → D → D → Store → R D
  | .Eq => eqD false
  | .NotEq => eqD true
  | .In => inD false
  | .NotIn => inD true
  | .Is => isD false
  | .IsNot => isD true
  | op => ordD op
section
variable {X : Cx} {XR : Exc → Value → Option Addr → Hp → Prop} {E : XK}
theorem o_cmp (hu : X.A.units + 200 < cLine) (op : CmpOp) : OpR X (compareOp op) (rO X.K XR E (cmpD op)) := by
  cases op with
  | Eq => exact o_eq hu
  | NotEq => exact o_ne hu
  | In => exact o_in hu
  | NotIn => exact o_notIn hu
  | Is => exact o_is
  | IsNot => exact o_isNot
  | Lt => exact o_ord hu .Lt (by decide) (by decide)
  | LtE => exact o_ord hu .LtE (by decide) (by decide)
  | Gt => exact o_ord hu .Gt (by decide) (by decide)
  | GtE => exact o_ord hu .GtE (by decide) (by decide)
end

/-! ### truth, -x -/
def tru (a : D) (st : Store) : Option Bool :=
  match a with
  | .p .none => some false
  | .p (.bool b) => some b
  | .p (.int i) => some (i != 0)
  | .p (.str x) => if x.length ≤ SZ then some ((x.length : Int) != 0) else none
  | .p (.tuple xs) => some (!xs.isEmpty)
  | a => (items a st).map fun xs => !xs.isEmpty
theorem rds_isEmpty {K : PySem.W.Frag} {F : Hp} {φ : List Addr} {vs : List V} {xs : List D} (h : RDs K F φ vs xs) : vs.isEmpty = xs.isEmpty := by cases h <;> rfl
theorem map_isEmpty {α β : Type} (f : α → β) (xs : List α) : (xs.map f).isEmpty = xs.isEmpty := by cases xs <;> rfl
theorem tru_ok {K : PySem.W.Frag} {F H : Hp} {φ : List Addr} {st : Store} {a : D} {x : V} {k : Bool} (S : SR K F φ st H) (r : RD K F φ x a) (h : tru a st = some k) : TruV K x H k := by
  have lists : (items a st).map (fun xs => !xs.isEmpty) = some k → TruV K x H k := fun h => by
    obtain ⟨ds, e, rfl⟩ := Option.map_eq_some_iff.mp h
    obtain ⟨l, vs, rfl, hl, r1⟩ := items_ok S r e
    exact .inl ⟨vs, hl, by rw [rds_isEmpty r1]⟩
  cases a with
  | c n => exact lists h
  | p y =>
    cases y with
    | none => cases r; exact (Option.some.inj h).symm
    | bool j => cases r; exact (Option.some.inj h).symm
    | int j => cases r; exact (Option.some.inj h).symm
    | str j =>
      cases r
      have h : (if j.length ≤ SZ then some ((j.length : Int) != 0) else none) = some k := h
      split at h
      · rename_i hz
        exact ⟨sz_ok hz, (Option.some.inj h).symm⟩
      · cases h
    | list j => exact lists h
    | tuple xs =>
      obtain ⟨l, vs, rfl, hl, _, r1⟩ := tup_ok S r
      exact .inr (.inl ⟨vs, hl, by rw [rds_isEmpty r1, map_isEmpty]; exact (Option.some.inj h).symm⟩)
    | dict j => cases r
def negD (a : D) (st : Store) : R D :=
  match a with
  | .p (.int i) => .ok (.p (.int (-i))) st
  | _ => .bad
theorem o_neg {X : Cx} {XR : Exc → Value → Option Addr → Hp → Prop} {E : XK} : UnR X (unaryOp .USub) (rU X.K XR E negD) := by
  intro pins s σ H x v Q I rx h
  obtain ⟨a, st, F, φ, S, ra, h⟩ := h
  unfold negD at h
  split at h
  · rename_i i
    exact un_neg pins s σ H _ v Q I rx ⟨i, ra.int, sat_val S rd_int h⟩
  · exact h.elim

/-! ### items, parts -/
def ixD (a b : D) (st : Store) : R D :=
  match a, b with
  | .p (.tuple xs), .p (.int i) => match atI xs i with
    | some x => .ok (.p x) st
    | none => .bad
  | .p (.str z), .p (.int i) => if z.length ≤ SZ then match atI z.cps.toList i with
      | some c => .ok (.p (.str ⟨#[c]⟩)) st
      | none => .bad
    else .bad
  | a, .p (.int i) => match items a st with
    | some xs => match atI xs i with
      | some d => .ok d st
      | none => .bad
    | none => .bad
  | _, _ => .bad
theorem rds_atI {K : PySem.W.Frag} {F : Hp} {φ : List Addr} {vs : List V} {xs : List D} {i : Int} {d : D} (h : RDs K F φ vs xs) (e : atI xs i = some d) : ∃ v, atI vs i = some v ∧ RD K F φ v d := by
  unfold atI at e ⊢
  rw [rds_length h]
  obtain ⟨j, e1, e2⟩ := Option.bind_eq_some_iff.mp e
  obtain ⟨v, h1, h2⟩ := rds_get h e2
  exact ⟨v, by rw [e1]; exact h1, h2⟩
theorem atI_map {α β : Type} {f : α → β} {xs : List α} {i : Int} {x : α} (e : atI xs i = some x) : atI (xs.map f) i = some (f x) := by
  unfold atI at e ⊢
  obtain ⟨j, e1, e2⟩ := Option.bind_eq_some_iff.mp e
  rw [List.length_map, e1]
  show (xs.map f)[j]? = _
  rw [List.getElem?_map, e2]
  rfl
theorem ix_D {X : Cx} {XR : Exc → Value → Option Addr → Hp → Prop} {E : XK} : IxR X (rO X.K XR E ixD) := by
  intro a' b' pins s σ H x y v u Q I rx ry h hs
  obtain ⟨a, b, st, F, φ, S, ra, rb, h⟩ := h
  unfold ixD at h
  split at h
  · rename_i xs i
    split at h
    · rename_i d e
      obtain ⟨l, vs, rfl, hl, _, r1⟩ := tup_ok S ra
      obtain ⟨w, h1, h2⟩ := rds_atI r1 (atI_map (f := D.p) e)
      exact ix_tup a' b' pins s σ H _ _ v u Q I rx ry ⟨l, vs, i, w, rfl, rb.int, hl, h1, sat_val S h2 h⟩ hs
    · exact h.elim
  · rename_i z i
    split at h
    · rename_i hz
      split at h
      · rename_i c e
        exact ix_str a' b' pins s σ H _ _ v u Q I rx ry ⟨z, i, c, ra.str, rb.int, sz_ok hz, e, sat_val S rd_str h⟩ hs
      · exact h.elim
    · exact h.elim
  · rename_i i _ _
    split at h
    · rename_i xs e0
      split at h
      · rename_i d e
        obtain ⟨l, vs, rfl, hl, r1⟩ := items_ok S ra e0
        obtain ⟨w, h1, h2⟩ := rds_atI r1 e
        exact ix_list a' b' pins s σ H _ _ v u Q I rx ry ⟨l, vs, i, w, rfl, rb.int, hl, h1, sat_val S h2 h⟩ hs
      · exact h.elim
    · exact h.elim
  · exact h.elim
/-- the part of a list -/
def cut {α : Type} (xs : List α) (lo hi : Option Int) : List α := (xs.drop (HT.sIx xs.length 0 lo)).take (HT.sIx xs.length xs.length hi - HT.sIx xs.length 0 lo)
def slD (a : D) (lo hi : Option Int) (st : Store) : R D :=
  match a with
  | .p (.tuple xs) => .ok (.p (.tuple (cut xs lo hi))) st
  | .p (.str z) => if z.length ≤ SZ then .ok (.p (.str (cutS z lo hi))) st else .bad
  | a => match items a st with
    | some xs => mkL false (cut xs lo hi) st
    | none => .bad
def rSl (K : PySem.W.Frag) (XR : Exc → Value → Option Addr → Hp → Prop) (E : XK) (c : Bool) : V → Option Int → Option Int → Hp → VK → Prop := fun x lo hi H Q => ∃ a st F φ, SR K F φ st H ∧ RD K F φ x a ∧ Sat K XR E (QE K Q) F φ (slD a lo hi st)
theorem rds_cut {K : PySem.W.Frag} {F : Hp} {φ : List Addr} {vs : List V} {xs : List D} (h : RDs K F φ vs xs) (lo hi : Option Int) : RDs K F φ (cutV vs lo hi) (cut xs lo hi) := by
  unfold cutV cut
  rw [rds_length h]
  exact rds_take _ (rds_drop _ h)
theorem cut_map {α β : Type} (f : α → β) (xs : List α) (lo hi : Option Int) : cut (xs.map f) lo hi = (cut xs lo hi).map f := by
  unfold cut
  rw [List.length_map, ← List.map_drop, ← List.map_take]
theorem cut_all {α : Type} {xs : List α} {lo hi : Option Int} (h : HT.sIx xs.length 0 lo = 0 ∧ HT.sIx xs.length xs.length hi = xs.length) : cut xs lo hi = xs := by
  unfold cut
  rw [h.1, h.2, List.drop_zero, Nat.sub_zero, List.take_length]
theorem sl_D {X : Cx} {XR : Exc → Value → Option Addr → Hp → Prop} {E : XK} {c : Bool} : SlR X (rSl X.K XR E c) := by
  intro pins s σ H x v vl vu lo hi sl Q I rx hs pl pu h
  obtain ⟨a, st, F, φ, S, ra, h⟩ := h
  unfold slD at h
  split at h
  · rename_i xs
    obtain ⟨l, vs, rfl, hl, hlF, r1⟩ := tup_ok S ra
    have e := rds_length r1
    rw [List.length_map] at e
    refine sl_tupA pins s σ H _ v vl vu lo hi sl Q I rx hs pl pu ⟨l, vs, rfl, hl, fun hw => ?_, fun _ p hp => ?_⟩
    · rw [e] at hw
      rw [cut_all hw] at h
      exact sat_val S ra h
    · have rr := rds_cut r1 lo hi
      rw [cut_map] at rr
      exact sat_newT S hp rr.dpAll h
  · rename_i z
    split at h
    · rename_i hz
      exact sl_str pins s σ H _ v vl vu lo hi sl Q I rx hs pl pu ⟨z, ra.str, sz_ok hz, sat_val S rd_str h⟩
    · exact h.elim
  · split at h
    · rename_i xs e0
      obtain ⟨l, vs, rfl, hl, r1⟩ := items_ok S ra e0
      exact sl_list pins s σ H _ v vl vu lo hi sl Q I rx hs pl pu ⟨l, vs, rfl, hl, fun p hp => sat_mkL S hp (rds_cut r1 lo hi) h⟩
    · exact h.elim
end MP

set_option Elab.async false
set_option linter.all false
set_option autoImplicit false
set_option maxRecDepth 100000
set_option maxHeartbeats 1000000
/-! sorting tuples whose first places that differ are alike -/
namespace MP
open PySem PySem.Spec PyProof.Rows L2 PySem.W

def lexOk : List PyData → List PyData → Bool
  | x :: xs, y :: ys => alike x y && (!PyData.eqv x y || lexOk xs ys)
  | _, _ => true
section
variable {prog : Program} {w : World} {A : Around} {s : Shared}
theorem katLex_mix {b fin : Bool} {Q : Bool → Shared → Prop} : ∀ (xs ys : List PyData) (i : Nat) (vs ws : List Value) (as bs : List Addr), ReadsAll s.heap vs xs as → ReadsAll s.heap ws ys bs → lexOk xs ys = true →
    A.units + min (PyData.depthAll xs) (PyData.depthAll ys) < cLine → (b = true → i = 0 → ∀ x r t, xs = x :: r → x ≠ .tuple t) → fin = decide (xs.length < ys.length) → Q (PyProof.Rows.lexLt itemOrd (keyToksAll xs) (keyToksAll ys)) s → KatLex prog w A b fin Q (vs.zip ws) i s
  | [], [], i, _, _, _, _, ra, rb, _, _, _, hf, hq => by
    cases ra
    cases rb
    have e : fin = false := by rw [hf]; rfl
    subst e
    rw [lex_irrefl] at hq
    exact kat_nil hq
  | [], y :: ys, i, _, _, _, _, ra, rb, _, _, _, hf, hq => by
    cases ra
    have e : fin = true := by rw [hf]; exact decide_eq_true (Nat.succ_pos _)
    subst e
    rw [toks_all_cons] at hq
    simp only [keyToksAll] at hq
    rw [lex_diff (O := itemOrd) (by simp)] at hq
    rw [List.zip_nil_left]
    exact kat_nil (by simpa [itemLt] using hq)
  | x :: xs, [], i, _, _, _, _, ra, rb, _, _, _, hf, hq => by
    cases rb
    have e : fin = false := by rw [hf]; exact decide_eq_false (Nat.not_lt_zero _)
    subst e
    rw [toks_all_cons] at hq
    simp only [keyToksAll] at hq
    rw [lex_diff (O := itemOrd) (by simp)] at hq
    rw [List.zip_nil_right]
    exact kat_nil (by simpa [itemLt] using hq)
  | x :: xs, y :: ys, i, _, _, _, _, ra, rb, h, hu, hb, hf, hq => by
    unfold lexOk at h
    rw [Bool.and_eq_true] at h
    obtain ⟨h1, h2⟩ := h
    have hf' : fin = decide (xs.length < ys.length) := by
      rw [hf]
      simp only [List.length_cons, Nat.add_lt_add_iff_right]
    cases ra with
    | cons r rs =>
      cases rb with
      | cons r' rs' =>
        rw [List.zip_cons_cons]
        refine kat_cons (eqAt_alike x y A s _ _ _ _ r r' h1 (SeqAt.room_head hu) prog w _ _ ?_)
        cases hx : PyData.eqv x y with
        | true =>
          rw [dataLt_all_yes h1 hx] at hq
          exact kat_yes (katLex_mix xs ys (i + 1) _ _ _ _ rs rs' (by simpa [hx] using h2) (SeqAt.room_tail hu) (fun _ hi => absurd hi (Nat.succ_ne_zero i)) hf' hq)
        | false =>
          rw [dataLt_all_no h1 hx] at hq
          refine kat_no (oneLt_alike (fun hbi t => ?_) r r' h1 (ne_none_of h1 hx) (SeqAt.room_head hu) hq)
          rw [Bool.and_eq_true] at hbi
          exact hb hbi.1 (by simpa using hbi.2) x xs t rfl
theorem dataKind_plain {h : Heap} {ds : List PyData} (hp : ∀ d ∈ ds, d.plain = true) {v : Value} {d : PyData} {as : List Addr} (hd : d ∈ ds) (r : Reads h v d as) : (dataKind h ds).keyOf v = some (keyToks d) := by
  have q : ∃ d, d ∈ ds ∧ ∃ as, Reads h v d as := ⟨d, hd, as, r⟩
  have e : (dataKind h ds).keyOf v = some (keyToks q.choose) := by
    show (open Classical in if q : ∃ d, d ∈ ds ∧ ∃ as, Reads h v d as then some (keyToks q.choose) else none) = _
    rw [dif_pos q]
  obtain ⟨h1, as', h2⟩ := q.choose_spec
  rw [e, SeqAt.plain_unique _ _ _ _ _ (hp _ h1) h2 r]
/-- tuples that may be sorted, the first places that differ being alike -/
def mixTs (ds : List PyData) : Prop := (∀ d ∈ ds, d.plain = true ∧ ∃ x r, d = .tuple (x :: r)) ∧ (∀ x r x' r', PyData.tuple (x :: r) ∈ ds → PyData.tuple (x' :: r') ∈ ds → lexOk (x :: r) (x' :: r') = true)
theorem sortsMix {vs : List Value} {ds : List PyData} (e : EachIs (fun v d => ∃ as, Reads s.heap v d as) vs ds) (hm : mixTs ds) (hu : ∀ d, d ∈ ds → A.units + d.depth < cLine) : SortsAt prog w A s (dataKind s.heap ds) vs := by
  have room : ∀ {d d' : PyData}, d ∈ ds → A.units + min d.depth d'.depth < cLine := fun {d d'} hd => Nat.lt_of_le_of_lt (Nat.add_le_add_left (Nat.min_le_left _ _) _) (hu d hd)
  have ht : ∀ d ∈ ds, ∃ x r, d = .tuple (x :: r) := fun d hd => (hm.1 d hd).2
  refine ⟨fun v hv => ?_, ?_⟩
  · obtain ⟨d, hd, as, r⟩ := e.left v hv
    exact ⟨_, dataKind_plain (fun d hd => (hm.1 d hd).1) hd r⟩
  · cases ds with
    | nil =>
      cases e
      exact ⟨general', fun E x y a b Q ha _ _ => (by
        obtain ⟨d, _, hd, _⟩ := dataKind_inv ha
        exact absurd hd (by simp)), fun h2 => absurd h2 (by simp)⟩
    | cons d₀ ds₀ =>
      obtain ⟨x₀, r₀, e₀⟩ := ht d₀ (List.mem_cons_self ..)
      have hfirst : ∀ x r, PyData.tuple (x :: r) ∈ d₀ :: ds₀ → alike x x₀ = true := by
        intro x r h
        have q := hm.2 x r x₀ r₀ h (e₀ ▸ List.mem_cons_self ..)
        unfold lexOk at q
        rw [Bool.and_eq_true] at q
        exact q.1
      refine ⟨tuples' (dataType x₀ != Value.type "tuple"), ?_, fun h2 E Q hq => ?_⟩
      · intro E x y a b Q ha hb hq
        obtain ⟨d, as, hd, ra, rfl⟩ := dataKind_inv ha
        obtain ⟨d', as', hd', rb, rfl⟩ := dataKind_inv hb
        have hroom := room (d' := d') hd
        obtain ⟨x1, r1, rfl⟩ := ht d hd
        obtain ⟨x2, r2, rfl⟩ := ht d' hd'
        have hdd := hm.2 _ _ _ _ hd hd'
        have hq' : Q (dataLt (.tuple (x1 :: r1)) (.tuple (x2 :: r2))) s := hq
        rw [dataLt_tuple] at hq'
        cases ra with
        | @tuple l o xs n _ _ h1 h2 h3 h4 =>
          cases rb with
          | @tuple l' o' xs' n' _ _ k1 k2 k3 k4 =>
            have n1 : xs.size = (x1 :: r1).length := by simpa using SeqAt.ReadsAll.length _ _ _ h4
            have n2 : xs'.size = (x2 :: r2).length := by simpa using SeqAt.ReadsAll.length _ _ _ k4
            refine kat_lt h1 h3 k1 k3 (katLex_mix (x1 :: r1) (x2 :: r2) 0 _ _ _ _ h4 k4 hdd (by have q := SeqAt.room_in hroom; omega) (fun hb _ x r t ex => ?_) (by rw [n1, n2]) hq')
            obtain ⟨rfl, rfl⟩ := List.cons.inj ex
            have q := dataType_alike (hfirst _ _ hd)
            rw [← q] at hb
            exact dataType_tuple hb t
      · obtain ⟨fs, t1, t2, t3⟩ := each_katTups e ht
        refine kat_kind (T := dataType x₀) t1 (by omega) (fun f hf => ?_) (beq_self_eq_true _) hq
        obtain ⟨x, r, as, m1, m2⟩ := t3 f hf
        rw [← dataType_alike (hfirst x r m1)]
        exact looks_reads m2
theorem each_keysP {h : Heap} {ds : List PyData} (hp : ∀ d ∈ ds, d.plain = true) {vs : List Value} (e : EachIs (fun v d => ∃ as, Reads h v d as) vs ds) : EachIs (fun v d => (dataKind h ds).keyOf v = some (keyToks d)) vs ds :=
  (each_mem e).mono fun _ _ ⟨⟨_, r⟩, hd⟩ => dataKind_plain hp hd r
theorem sortedMix {β : Type} {R : Value → β → Prop} {enc : β → PyData} {vs : List Value} {bs : List β} {E : Value → Shared → Prop} {l : Addr} {Q : Value → Shared → Prop} (hl : s.heap.IsList l vs.toArray) (e : EachIs R vs bs) (er : EachIs (fun v b => ∃ as, Reads s.heap v (enc b) as) vs bs) (hm : mixTs (bs.map enc)) (hL : bs.length ≤ sizeLine)
    (hu : ∀ b, b ∈ bs → A.units + 2 + (enc b).depth < cLine) (h : ∀ out, out.length = bs.length → EachIs R out (bs.mergeSort (dataLe false enc)) → Q (.ref (s.heap.objs.size + 1)) { s with heap := sortedAll s.heap vs (List.toArray out) }) :
    wpAny (model prog w) A (call (.builtin "sorted") [.ref l]) Q E s := by
  have er' : EachIs (fun v b => ∃ as, Reads (sortingHeap (copyHeap s.heap vs) (s.heap.objs.size + 1) vs) v (enc b) as) vs bs := er.mono fun _ _ ⟨as, r⟩ => ⟨as, PyProof.Rows.Reads.keeps (fun _ _ => sorting_copy_old) r⟩
  refine sorted_vals hl (sortsMix (s := { s with heap := sortingHeap (copyHeap s.heap vs) (s.heap.objs.size + 1) vs }) (each_map (R := fun v d => ∃ as, Reads (sortingHeap (copyHeap s.heap vs) (s.heap.objs.size + 1) vs) v d as) enc er') hm (bound_map hu)) (by rw [e.length]; exact hL)
    (h _ (by rw [sortVals_length false rfl]; exact e.length) ?_)
  exact sortVals_each (κ := dataKind _ (bs.map enc)) (fun b => keyToks (enc b)) e (each_of_map enc (each_keysP (fun d hd => (hm.1 d hd).1) (each_map (R := fun v d => ∃ as, Reads _ v d as) enc er')))
end
end MP

set_option Elab.async false
set_option linter.all false
set_option autoImplicit false
set_option maxRecDepth 100000
set_option maxHeartbeats 1000000
/-! built-in calls on values -/
namespace MP
open PySem PySem.Spec PyProof.Rows L2

/-! ### built-in functions -/
def tyName (d : D) (st : Store) : Option String :=
  match d with
  | .p .none => some "NoneType"
  | .p (.bool _) => some "bool"
  | .p (.int _) => some "int"
  | .p (.str _) => some "str"
  | .p (.tuple _) => some "tuple"
  | d => (items d st).map fun _ => "list"
def isiB (t c : String) : Bool := t == c || (t == "bool" && c == "int")
def isiOk (c : String) : Bool := c == "int" || c == "bool" || c == "str" || c == "list" || c == "tuple"
def isiD (c : String) (d : D) (st : Store) : R D :=
  match tyName d st with
  | some t => .ok (.p (.bool (isiB t c))) st
  | none => .bad
inductive Bi where
  | len | all | any | sorted (c : Bool) | tuple | list (c : Bool) | max | min | sum | int
def lenD (a : D) (st : Store) : R D :=
  match a with
  | .p (.str x) => if x.length ≤ SZ then .ok (.p (.int x.length)) st else .bad
  | .p (.tuple xs) => .ok (.p (.int xs.length)) st
  | a => match items a st with
    | some xs => .ok (.p (.int xs.length)) st
    | none => .bad
def bools : List D → Option (List Bool)
  | [] => some []
  | .p (.bool b) :: r => (bools r).map (b :: ·)
  | _ => none
theorem bools_some : ∀ {ds : List D} {bs : List Bool}, bools ds = some bs → ds = bs.map fun b => D.p (.bool b)
  | [], _, h => by cases h; rfl
  | .p (.bool b) :: r, _, h => by
    obtain ⟨cs, h1, rfl⟩ := Option.map_eq_some_iff.mp (show (bools r).map (b :: ·) = some _ from h)
    rw [bools_some h1]; rfl
  | .p .none :: _, _, h => by cases h
  | .p (.int _) :: _, _, h => by cases h
  | .p (.str _) :: _, _, h => by cases h
  | .p (.list _) :: _, _, h => by cases h
  | .p (.tuple _) :: _, _, h => by cases h
  | .p (.dict _) :: _, _, h => by cases h
  | .c _ :: _, _, h => by cases h
@[simp] theorem bools_map {α : Type} (f : α → Bool) (xs : List α) : bools (xs.map fun x => D.p (.bool (f x))) = some (xs.map f) := by
  induction xs with
  | nil => rfl
  | cons x r ih => show (bools (r.map _)).map (f x :: ·) = _; rw [ih]; rfl
def allD (isAll : Bool) (a : D) (st : Store) : R D :=
  match items a st with
  | some xs => match bools xs with
    | some bs => .ok (.p (.bool (if isAll then bs.all id else bs.any id))) st
    | none => .bad
  | none => .bad
theorem rds_bools {K : PySem.W.Frag} {F : Hp} {φ : List Addr} : ∀ {vs : List V} {bs : List Bool}, RDs K F φ vs (bs.map fun b => D.p (.bool b)) → vs = bs.map V.bl
  | _, [], h => by cases h; rfl
  | _, b :: bs, h => by
    cases h with
    | cons a t =>
      rw [rds_bools t, a.bl]; rfl
def tupleD (a : D) (st : Store) : R D :=
  match a with
  | .p (.tuple xs) => .ok (.p (.tuple xs)) st
  | a => match items a st with
    | some xs => match pures xs with
      | some ys => .ok (.p (.tuple ys)) st
      | none => .bad
    | none => .bad
def listD (c : Bool) (a : D) (st : Store) : R D :=
  match a with
  | .p (.tuple xs) => mkL c (xs.map .p) st
  | a => match items a st with
    | some xs => mkL c xs st
    | none => .bad
def intsP : List PyData → Option (List Int)
  | [] => some []
  | .int i :: r => (intsP r).map (i :: ·)
  | _ => none
def strsP : List PyData → Option (List Str)
  | [] => some []
  | .str i :: r => (strsP r).map (i :: ·)
  | _ => none
theorem ints_some : ∀ {ds : List PyData} {bs : List Int}, intsP ds = some bs → ds = bs.map .int
  | [], _, h => by cases h; rfl
  | .int b :: r, _, h => by
    obtain ⟨cs, h1, rfl⟩ := Option.map_eq_some_iff.mp (show (intsP r).map (b :: ·) = some _ from h)
    rw [ints_some h1]; rfl
  | .none :: _, _, h => by cases h
  | .bool _ :: _, _, h => by cases h
  | .str _ :: _, _, h => by cases h
  | .list _ :: _, _, h => by cases h
  | .tuple _ :: _, _, h => by cases h
  | .dict _ :: _, _, h => by cases h
theorem strs_some : ∀ {ds : List PyData} {bs : List Str}, strsP ds = some bs → ds = bs.map .str
  | [], _, h => by cases h; rfl
  | .str b :: r, _, h => by
    obtain ⟨cs, h1, rfl⟩ := Option.map_eq_some_iff.mp (show (strsP r).map (b :: ·) = some _ from h)
    rw [strs_some h1]; rfl
  | .none :: _, _, h => by cases h
  | .bool _ :: _, _, h => by cases h
  | .int _ :: _, _, h => by cases h
  | .list _ :: _, _, h => by cases h
  | .tuple _ :: _, _, h => by cases h
  | .dict _ :: _, _, h => by cases h
@[simp] theorem ints_map (xs : List Int) : intsP (xs.map .int) = some xs := by
  induction xs with
  | nil => rfl
  | cons x r ih => show (intsP (r.map _)).map (x :: ·) = _; rw [ih]; rfl
@[simp] theorem strs_map (xs : List Str) : strsP (xs.map .str) = some xs := by
  induction xs with
  | nil => rfl
  | cons x r ih => show (strsP (r.map _)).map (x :: ·) = _; rw [ih]; rfl
theorem dp_ints {K : PySem.W.Frag} {F : Hp} : ∀ {vs : List V} {ns : List Int}, DpAll K F vs (ns.map .int) → vs = ns.map V.int
  | _, [], h => by cases h; rfl
  | _, n :: ns, h => by cases h with | cons a t => cases a; rw [dp_ints t]; rfl
theorem dp_strs {K : PySem.W.Frag} {F : Hp} : ∀ {vs : List V} {ns : List Str}, DpAll K F vs (ns.map .str) → vs = ns.map V.str
  | _, [], h => by cases h; rfl
  | _, n :: ns, h => by cases h with | cons a t => cases a; rw [dp_strs t]; rfl
/-- data that may be sorted -/
def sortOk (xs : List PyData) : Bool :=
  (xs.all fun x => xs.all fun y => PySem.W.alike x y) && ((xs.all fun x => match x with | .tuple (_ :: _) => true | _ => false) || (xs.all fun x => match x with | .tuple _ => false | .none => false | _ => true)) &&
    (xs.all fun x => decide (x.depth ≤ 64)) && decide (xs.length ≤ SZ)
def sortP (xs : List PyData) : List PyData := xs.mergeSort (PySem.W.dataLe false fun x => x)
def mixB (xs : List PyData) : Bool :=
  (xs.all fun x => match x with | .tuple (_ :: _) => x.plain | _ => false) && (xs.all fun x => xs.all fun y => match x, y with | .tuple a, .tuple b => lexOk a b | _, _ => false) && (xs.all fun x => decide (x.depth ≤ 64)) && decide (xs.length ≤ SZ)
def sortedD (c : Bool) (a : D) (st : Store) : R D :=
  match items a st with
  | some xs => match pures xs with
    | some ys => if (sortOk ys || mixB ys) = true then mkL c ((sortP ys).map .p) st else .bad
    | none => .bad
  | none => .bad
def allAlikeB (xs : List PyData) : Bool := (xs.all fun x => notNone x && xs.all fun y => PySem.W.alike x y) && decide (PyData.depthAll xs ≤ 64)
def maxD (mx : Bool) (a : D) (st : Store) : R D :=
  match a with
  | .p (.tuple _) => .bad
  | a => match items a st with
    | some xs => match pures xs with
      | some (y :: ys) => if allAlikeB (y :: ys) = true then .ok (.p (if mx then PySem.W.maxD y ys else PySem.W.minD y ys)) st else .bad
      | _ => .bad
    | none => .bad
def max2D (mx : Bool) (a b : D) (st : Store) : R D :=
  match a, b with
  | .p (.int i), .p (.int j) => .ok (.p (.int (if mx then (if j > i then j else i) else (if j < i then j else i)))) st
  | _, _ => .bad
def sumD (a : D) (st : Store) : R D :=
  match items a st with
  | some xs => match pures xs with
    | some ys => match intsP ys with
      | some ns => .ok (.p (.int ns.sum)) st
      | none => .bad
    | none => .bad
  | none => .bad
def intD (a : D) (st : Store) : R D :=
  match a with
  | .p (.bool b) => .ok (.p (.int (if b then 1 else 0))) st
  | .p (.int i) => .ok (.p (.int i)) st
  | _ => .bad
def bi1D : Bi → D → Store → R D
  | .len => lenD
  | .all => allD true
  | .any => allD false
  | .sorted c => sortedD c
  | .tuple => tupleD
  | .list c => listD c
  | .max => maxD true
  | .min => maxD false
  | .sum => sumD
  | .int => intD
/-- the name, and what stands behind it -/
def bi1N : Bi → Str
  | .len => "len"
  | .all => "all"
  | .any => "any"
  | .sorted _ => "sorted"
  | .tuple => "tuple"
  | .list _ => "list"
  | .max => "max"
  | .min => "min"
  | .sum => "sum"
  | .int => "int"
def bi1T : Bi → Bool
  | .int => true
  | .tuple => true
  | .list _ => true
  | _ => false
def r1 (r : V → Hp → VK → Prop) : List V → Hp → VK → Prop := fun xs H Q => ∃ x, xs = [x] ∧ r x H Q
def r2 (r : R2) : List V → Hp → VK → Prop := fun xs H Q => ∃ x y, xs = [x, y] ∧ r x y H Q
section
variable {X : Cx} {XR : Exc → Value → Option Addr → Hp → Prop} {E : XK}
theorem c_len : CallR X (.builtin "len") (r1 (rU X.K XR E lenD)) := by
  intro pins s σ H xs us Q I r h
  obtain ⟨x, rfl, a, st, F, φ, S, ra, h⟩ := h
  unfold lenD at h
  split at h
  · rename_i z
    split at h
    · rename_i hz
      exact call_len_str pins s σ H _ us Q I r ⟨z, by rw [ra.str], sz_ok hz, sat_val S rd_int h⟩
    · exact h.elim
  · obtain ⟨l, vs, rfl, hl, _, r1⟩ := tup_ok S ra
    have e := rds_length r1
    rw [List.length_map] at e
    exact call_len_seq pins s σ H _ us Q I r ⟨l, vs, rfl, .inr hl, by rw [e]; exact sat_val S rd_int h⟩
  · split at h
    · rename_i ys e0
      obtain ⟨l, vs, rfl, hl, r1⟩ := items_ok S ra e0
      exact call_len_seq pins s σ H _ us Q I r ⟨l, vs, rfl, .inl hl, by rw [rds_length r1]; exact sat_val S rd_int h⟩
    · exact h.elim
theorem c_all (hc : X.calm = true) : CallR X (.builtin "all") (r1 (rU X.K XR E (allD true))) := by
  intro pins s σ H xs us Q I r h
  obtain ⟨x, rfl, a, st, F, φ, S, ra, h⟩ := h
  unfold allD at h
  split at h
  · rename_i ys e0
    split at h
    · rename_i bs e1
      obtain ⟨l, vs, rfl, hl, r1⟩ := items_ok S ra e0
      rw [bools_some e1] at r1
      rw [rds_bools r1] at hl
      exact cr_all hc pins s σ H _ us Q I r ⟨l, bs, rfl, hl, sat_val S rd_bl h⟩
    · exact h.elim
  · exact h.elim
theorem c_any (hc : X.calm = true) : CallR X (.builtin "any") (r1 (rU X.K XR E (allD false))) := by
  intro pins s σ H xs us Q I r h
  obtain ⟨x, rfl, a, st, F, φ, S, ra, h⟩ := h
  unfold allD at h
  split at h
  · rename_i ys e0
    split at h
    · rename_i bs e1
      obtain ⟨l, vs, rfl, hl, r1⟩ := items_ok S ra e0
      rw [bools_some e1] at r1
      rw [rds_bools r1] at hl
      exact cr_any hc pins s σ H _ us Q I r ⟨l, bs, rfl, hl, sat_val S rd_bl h⟩
    · exact h.elim
  · exact h.elim
theorem c_tuple : CallR X (.type "tuple") (r1 (rU X.K XR E tupleD)) := by
  intro pins s σ H xs us Q I r h
  obtain ⟨x, rfl, a, st, F, φ, S, ra, h⟩ := h
  unfold tupleD at h
  split at h
  · obtain ⟨l, vs, rfl, hl, _, r1⟩ := tup_ok S ra
    exact call_tuple_of pins s σ H _ us Q I r ⟨l, vs, rfl, .inr ⟨hl, sat_val S ra h⟩⟩
  · split at h
    · rename_i ys e0
      split at h
      · rename_i zs e1
        obtain ⟨l, vs, rfl, hl, r1⟩ := items_ok S ra e0
        rw [pures_some e1] at r1
        exact call_tuple_of pins s σ H _ us Q I r ⟨l, vs, rfl, .inl ⟨hl, fun p hp => sat_newT S hp r1.dpAll h⟩⟩
      · exact h.elim
    · exact h.elim
theorem c_list {c : Bool} : CallR X (.type "list") (r1 (rU X.K XR E (listD c))) := by
  intro pins s σ H xs us Q I r h
  obtain ⟨x, rfl, a, st, F, φ, S, ra, h⟩ := h
  unfold listD at h
  split at h
  · obtain ⟨l, vs, rfl, hl, _, r1⟩ := tup_ok S ra
    exact call_list_of pins s σ H _ us Q I r ⟨l, vs, rfl, .inr hl, fun p hp => sat_mkL S hp r1 h⟩
  · split at h
    · rename_i ys e0
      obtain ⟨l, vs, rfl, hl, r1⟩ := items_ok S ra e0
      exact call_list_of pins s σ H _ us Q I r ⟨l, vs, rfl, .inl hl, fun p hp => sat_mkL S hp r1 h⟩
    · exact h.elim
theorem c_sum (hc : X.calm = true) : CallR X (.builtin "sum") (r1 (rU X.K XR E sumD)) := by
  intro pins s σ H xs us Q I r h
  obtain ⟨x, rfl, a, st, F, φ, S, ra, h⟩ := h
  unfold sumD at h
  split at h
  · rename_i ys e0
    split at h
    · rename_i zs e1
      split at h
      · rename_i ns e2
        obtain ⟨l, vs, rfl, hl, r1⟩ := items_ok S ra e0
        rw [pures_some e1] at r1
        have q := r1.dpAll
        rw [ints_some e2] at q
        rw [dp_ints q] at hl
        exact cr_sum hc pins s σ H _ us Q I r ⟨l, ns, rfl, hl, sat_val S rd_int h⟩
      · exact h.elim
    · exact h.elim
  · exact h.elim
theorem c_max2 (hc : X.calm = true) : CallR X (.builtin "max") (r2 (rO X.K XR E (max2D true))) := by
  intro pins s σ H xs us Q I r h
  obtain ⟨x, y, rfl, a, b, st, F, φ, S, ra, rb, h⟩ := h
  unfold max2D at h
  split at h
  · rename_i i j
    exact call_max2 hc pins s σ H _ us Q I r ⟨i, j, by rw [ra.int, rb.int], sat_val S rd_int h⟩
  · exact h.elim
theorem c_min2 (hc : X.calm = true) : CallR X (.builtin "min") (r2 (rO X.K XR E (max2D false))) := by
  intro pins s σ H xs us Q I r h
  obtain ⟨x, y, rfl, a, b, st, F, φ, S, ra, rb, h⟩ := h
  unfold max2D at h
  split at h
  · rename_i i j
    exact call_min2 hc pins s σ H _ us Q I r ⟨i, j, by rw [ra.int, rb.int], sat_val S rd_int h⟩
  · exact h.elim

theorem eachIs_of {K : PySem.W.Frag} {F : Hp} : ∀ {its : List Value} {vs : List V} {xs : List PyData}, Vals vs its → DpAll K F vs xs →
    PySem.W.EachIs (fun (v : Value) (b : V × PyData) => RelV b.1 v ∧ Dp K F b.1 b.2) its (vs.zip xs)
  | _, _, _, .nil, .nil => .nil
  | _, _, _, .cons r t, .cons a b => .cons ⟨r, a⟩ (eachIs_of t b)
theorem of_eachIs {K : PySem.W.Frag} {F : Hp} : ∀ {its : List Value} {bs : List (V × PyData)}, PySem.W.EachIs (fun (v : Value) (b : V × PyData) => RelV b.1 v ∧ Dp K F b.1 b.2) its bs →
    Vals (bs.map (·.1)) its ∧ DpAll K F (bs.map (·.1)) (bs.map (·.2))
  | _, _, .nil => ⟨.nil, .nil⟩
  | _, _, .cons r t => let ⟨a, b⟩ := of_eachIs t; ⟨.cons r.1 a, .cons r.2 b⟩
theorem eachIs_reads {X : Cx} {pins : List (Addr × Obj)} {σ : L2.St} {H : Hp} {s : Shared} (I : Inv X pins σ H s) : ∀ {its : List Value} {bs : List (V × PyData)}, PySem.W.EachIs (fun (v : Value) (b : V × PyData) => RelV b.1 v ∧ Dp X.K H b.1 b.2) its bs →
    PySem.W.EachIs (fun (v : Value) (b : V × PyData) => ∃ as, Reads s.heap v b.2 as) its bs
  | _, _, .nil => .nil
  | _, _, .cons r t => .cons (Dp.reads I _ _ _ r.2 r.1) (eachIs_reads I t)
theorem eachIs_mono {K : PySem.W.Frag} {F H : Hp} (e : Evl.Ex F H) : ∀ {its : List Value} {bs : List (V × PyData)}, PySem.W.EachIs (fun (v : Value) (b : V × PyData) => RelV b.1 v ∧ Dp K F b.1 b.2) its bs → PySem.W.EachIs (fun (v : Value) (b : V × PyData) => RelV b.1 v ∧ Dp K H b.1 b.2) its bs
  | _, _, .nil => .nil
  | _, _, .cons r t => .cons ⟨r.1, dp_mono e r.2⟩ (eachIs_mono e t)
theorem zip_snd {α β : Type} : ∀ {xs : List α} {ys : List β}, xs.length = ys.length → (xs.zip ys).map (·.2) = ys
  | [], [], _ => rfl
  | x :: xs, y :: ys, h => by simp [zip_snd (xs := xs) (ys := ys) (by simpa using h)]
theorem sortOk_of {xs : List PyData} (h : sortOk xs = true) : PySem.W.AllAlike xs ∧ PySem.W.Sortable xs ∧ (∀ x ∈ xs, x.depth ≤ 64) ∧ xs.length ≤ SZ := by
  unfold sortOk at h
  simp only [Bool.and_eq_true, List.all_eq_true, Bool.or_eq_true, decide_eq_true_eq] at h
  obtain ⟨⟨⟨h1, h2⟩, h3⟩, h4⟩ := h
  refine ⟨fun d hd e he => h1 d hd e he, ?_, h3, h4⟩
  rcases h2 with h2 | h2
  · refine .inl fun d hd => ?_
    have := h2 d hd
    split at this
    · exact ⟨_, _, rfl⟩
    · cases this
  · refine .inr fun d hd => ?_
    have := h2 d hd
    split at this
    · cases this
    · cases this
    · rename_i q1 q2
      exact ⟨q2, q1⟩
theorem mixB_of {xs : List PyData} (h : mixB xs = true) : mixTs xs ∧ (∀ x ∈ xs, x.depth ≤ 64) ∧ xs.length ≤ SZ := by
  unfold mixB at h
  simp only [Bool.and_eq_true, List.all_eq_true, decide_eq_true_eq] at h
  obtain ⟨⟨⟨h1, h2⟩, h3⟩, h4⟩ := h
  refine ⟨⟨fun d hd => ?_, fun x r x' r' hx hy => h2 _ hx _ hy⟩, h3, h4⟩
  have := h1 d hd
  split at this
  · exact ⟨this, _, _, rfl⟩
  · cases this
theorem c_int : CallR X (.type "int") (r1 (rU X.K XR E intD)) := by
  intro pins s σ H xs us Q I r h
  obtain ⟨x, rfl, a, st, F, φ, S, ra, h⟩ := h
  unfold intD at h
  split at h
  · rename_i b
    exact call_int1 pins s σ H _ us Q I r (.inr ⟨b, by rw [ra.bl], sat_val S rd_int h⟩)
  · rename_i i
    exact call_int1 pins s σ H _ us Q I r (.inl ⟨i, by rw [ra.int], sat_val S rd_int h⟩)
  · exact h.elim
theorem c_sorted (hu : X.A.units + 200 < cLine) {c : Bool} : CallR X (.builtin "sorted") (r1 (rU X.K XR E (sortedD c))) := by
  intro pins s σ H xs us Q I r h
  obtain ⟨x, rfl, a, st, F, φ, S, ra, h⟩ := h
  unfold sortedD at h
  split at h
  · rename_i ys e0
    split at h
    · rename_i zs e1
      split at h
      · rename_i hok
        obtain ⟨l, vs, rfl, hl, rr⟩ := items_ok S ra e0
        rw [pures_some e1] at rr
        have rd := rr.dpAll
        have hlen := rds_length rr
        rw [List.length_map] at hlen
        obtain ⟨its, rv, pl, _⟩ := I.list hl
        obtain ⟨u, rfl, ru⟩ := Vals.one r
        cases ru
        have ei := eachIs_of rv rd
        have hz := zip_snd hlen
        have h4 : zs.length ≤ SZ := by
          rcases Bool.or_eq_true _ _ ▸ hok with hok | hok
          · exact (sortOk_of hok).2.2.2
          · exact (mixB_of hok).2.2
        have h3 : ∀ x ∈ zs, x.depth ≤ 64 := by
          rcases Bool.or_eq_true _ _ ▸ hok with hok | hok
          · exact (sortOk_of hok).2.2.1
          · exact (mixB_of hok).2.1
        have g1 : (vs.zip zs).length ≤ sizeLine := by rw [List.length_zip, hlen, Nat.min_self]; exact sz_ok h4
        have g2 : ∀ b ∈ vs.zip zs, X.A.units + 2 + b.2.depth < cLine := by
          intro b hb
          have : b.2 ∈ (vs.zip zs).map (·.2) := List.mem_map_of_mem hb
          rw [hz] at this
          have := h3 _ this
          omega
        have fin : ∀ out : List Value, out.length = (vs.zip zs).length → PySem.W.EachIs (fun (v : Value) (b : V × PyData) => RelV b.1 v ∧ Dp X.K F b.1 b.2) out ((vs.zip zs).mergeSort (PySem.W.dataLe false fun b => b.2)) →
            EP X pins σ Q (.ref (s.heap.objs.size + 1)) { s with heap := PyProof.Rows.sortedAll s.heap its (List.toArray out) } := fun out ho eo => by
          obtain ⟨ep, he'⟩ := PyProof.Rows.sortedAll_at s.heap its out.toArray
          obtain ⟨k1, k2⟩ := of_eachIs eo
          have hmap : ((vs.zip zs).mergeSort (PySem.W.dataLe false fun b => b.2)).map (·.2) = sortP zs := by
            unfold sortP
            have e := List.map_mergeSort (r := PySem.W.dataLe false fun b : V × PyData => b.2) (s := PySem.W.dataLe false fun x : PyData => x) (f := fun b : V × PyData => b.2) (l := vs.zip zs) (fun a _ b _ => rfl)
            rw [hz] at e
            exact e
          rw [hmap] at k2
          have kl := k1.length
          have hlen2 : out.length ≤ sizeLine := by rw [ho, List.length_zip, hlen, Nat.min_self]; exact sz_ok h4
          have hf : H (s.heap.objs.size + 1) = none := I.hok.fresh (Nat.le_succ _)
          refine ⟨.ref _, upd H (s.heap.objs.size + 1) (.lst _), I.laid (t' := s.toks) (fun _ _ => PyProof.Rows.sortedAll_old) (Nat.le_succ _) ⟨by rw [kl]; exact hlen2, out, ep, k1, he'⟩, rfl, ?_⟩
          exact sat_mkL S hf (dpAll_rds k2) h
        rcases Bool.or_eq_true _ _ ▸ hok with hok | hok
        · obtain ⟨h1, h2, _, _⟩ := sortOk_of hok
          exact PySem.W.sorted_data (bs := vs.zip zs) (enc := fun b => b.2) pl.isList ei (eachIs_reads I (eachIs_mono S.sub ei)) (by rw [hz]; exact h1) (by rw [hz]; exact h2) g1 g2 fin
        · obtain ⟨h1, _, _⟩ := mixB_of hok
          exact sortedMix (bs := vs.zip zs) (enc := fun b => b.2) pl.isList ei (eachIs_reads I (eachIs_mono S.sub ei)) (by rw [hz]; exact h1) g1 g2 fin
      · exact h.elim
    · exact h.elim
  · exact h.elim
theorem allAlikeB_of {xs : List PyData} (h : allAlikeB xs = true) : PySem.W.AlikeAll xs ∧ PyData.depthAll xs ≤ 64 := by
  unfold allAlikeB at h
  simp only [Bool.and_eq_true, List.all_eq_true, decide_eq_true_eq] at h
  exact ⟨⟨fun x hx y hy => (h.1 x hx).2 y hy, fun x hx => notNone_ne (h.1 x hx).1⟩, h.2⟩
/-- the frozen item that a raw item of a list is, found again by its value -/
theorem reads_back {K : PySem.W.Frag} {F : Hp} : ∀ {its : List Value} {vs : List V} {xs : List PyData} {i : Nat} {v : Value}, Vals vs its → DpAll K F vs xs → its[i]? = some v → ∃ x y, RelV x v ∧ Dp K F x y ∧ y ∈ xs
  | _, _, _, 0, _, .cons r t, .cons a b, e => by cases Option.some.inj e; exact ⟨_, _, r, a, List.mem_cons_self⟩
  | _, _, _, i + 1, _, .cons r t, .cons a b, e => let ⟨x, y, h1, h2, h3⟩ := reads_back (i := i) t b e; ⟨x, y, h1, h2, List.mem_cons_of_mem _ h3⟩
  | _, _, _, _, _, .nil, .nil, e => by simp at e
theorem c_maxmin (hc : X.calm = true) (hu : X.A.units + 200 < cLine) (mx : Bool) : CallR X (.builtin (if mx then "max" else "min")) (r1 (rU X.K XR E (maxD mx))) := by
  intro pins s σ H xs us Q I r h
  obtain ⟨x, rfl, a, st, F, φ, S, ra, h⟩ := h
  unfold maxD at h
  split at h
  · exact h.elim
  · split at h
    · rename_i ys e0
      split at h
      · rename_i y zs e1
        split at h
        · rename_i hok
          obtain ⟨h1, h2⟩ := allAlikeB_of hok
          obtain ⟨l, vs, rfl, hl, rr⟩ := items_ok S ra e0
          rw [pures_some e1] at rr
          have rd := rr.dpAll
          obtain ⟨its, rv, pl, _⟩ := I.list hl
          obtain ⟨u, rfl, ru⟩ := Vals.one r
          cases ru
          obtain ⟨as, hr⟩ := Dp.readsAll I _ vs its (dpAll_mono S.sub rd) rv
          have fin : ∀ (d : PyData), Sat X.K XR E (QE X.K Q) F φ (.ok (.p d) st) → ∀ (i : Nat) (v : Value) (h' : Heap) (tk : Nat) (bs : List Addr), its.toArray[i]? = some v → Reads h' v d bs → (∀ b o, s.heap.get? b = some o → h'.get? b = some o) →
              EP X pins σ Q v { s with heap := h', toks := tk } := by
            intro d h i v h' tk bs hv hrd hk
            obtain ⟨x, z, q1, q2, q3⟩ := reads_back rv rd (by simpa using hv)
            have I' : Inv X pins σ H { s with heap := h', toks := tk } := I.kept hk
            obtain ⟨bs', hrz⟩ := Dp.reads I' z x v (dp_mono S.sub q2) q1
            have e : z = d := PySem.SeqAt.plain_unique _ _ _ _ _ (dp_plain q2) hrz hrd
            subst e
            exact ⟨x, H, I', q1, sat_val S (show RD X.K F φ x (.p z) from q2) h⟩
          cases mx with
          | true => exact PySem.W.max_list_data (I.ok.hd hc) pl.isList hr h1 (by omega) (fin _ h)
          | false => exact PySem.W.min_list_data (I.ok.hd hc) pl.isList hr h1 (by omega) (fin _ h)
        · exact h.elim
      · exact h.elim
    · exact h.elim
def isiOkT (T : String) : Bool := T == "int" || T == "bool" || T == "str" || T == "list" || T == "tuple"
theorem kit_all (t c : String) (ht : t = "NoneType" ∨ t = "bool" ∨ t = "int" ∨ t = "str" ∨ t = "tuple" ∨ t = "list") (hc : isiOkT c = true) : kitB t c = some (isiB t c) := by
  unfold isiOkT at hc
  simp only [Bool.or_eq_true, beq_iff_eq] at hc
  rcases hc with (((hc | hc) | hc) | hc) | hc <;> subst hc <;> rcases ht with ht | ht | ht | ht | ht | ht <;> subst ht <;> decide +kernel
theorem tyName_ok {F H : Hp} {φ : List Addr} {st : Store} {a : D} {x : V} {t : String} (S : SR X.K F φ st H) (ra : RD X.K F φ x a) (e : tyName a st = some t) :
    TyX X.K H x (.type t) ∧ (t = "NoneType" ∨ t = "bool" ∨ t = "int" ∨ t = "str" ∨ t = "tuple" ∨ t = "list") := by
  have lists : (items a st).map (fun _ => "list") = some t → TyX X.K H x (.type t) ∧ (t = "NoneType" ∨ t = "bool" ∨ t = "int" ∨ t = "str" ∨ t = "tuple" ∨ t = "list") := fun e => by
    obtain ⟨ds, e1, rfl⟩ := Option.map_eq_some_iff.mp e
    obtain ⟨l, vs, rfl, hl, _⟩ := items_ok S ra e1
    refine ⟨?_, by simp⟩
    rcases hl with (hl | ⟨o, hl⟩) | ⟨o, its, n, hk, hc, _⟩
    · exact .base (.lst hl)
    · exact .base (.frz hl)
    · exact .kList hk hc
  cases a with
  | c n => exact lists e
  | p y =>
    cases y with
    | none => cases ra; cases Option.some.inj e; exact ⟨.base .non, by simp⟩
    | bool b => cases ra; cases Option.some.inj e; exact ⟨.base (.bl _), by simp⟩
    | int b => cases ra; cases Option.some.inj e; exact ⟨.base (.int _), by simp⟩
    | str b => cases ra; cases Option.some.inj e; exact ⟨.base (.str _), by simp⟩
    | list b => exact lists e
    | tuple b =>
      cases Option.some.inj e
      obtain ⟨l, vs, rfl, hl, _⟩ := tup_ok S ra
      refine ⟨?_, by simp⟩
      rcases hl with (hl | ⟨o, hl⟩) | ⟨o, its, n, hk, hc, _⟩
      · exact .base (.tup hl)
      · exact .fTuple hl
      · exact .kTuple hk hc
    | dict b => cases ra
/-- isinstance(x, T) -/
theorem c_isi {T : String} (hT : isiOkT T = true) : CallR X (.builtin "isinstance") (fun xs H Q => ∃ x, xs = [x, .ty T] ∧ rU X.K XR E (isiD T) x H Q) := by
  intro pins s σ H xs us Q I r h
  obtain ⟨x, rfl, a, st, F, φ, S, ra, h⟩ := h
  unfold isiD at h
  split at h
  · rename_i t e
    obtain ⟨h1, h2⟩ := tyName_ok S ra e
    exact call_isi pins s σ H _ us Q I r ⟨x, .ty T, .type t, .type T, isiB t T, rfl, .ty T, h1, kit_ty (kit_all t T h2 hT), sat_val S rd_bl h⟩
  · exact h.elim
end
end MP

set_option Elab.async false
set_option linter.all false
set_option autoImplicit false
set_option maxRecDepth 100000
set_option maxHeartbeats 1000000
/-! the mirrored syntax, its meaning, what it is checked against -/
namespace MP
open PySem PySem.Spec PyProof.Rows L2

/-! ### syntax -/
mutual
inductive MT where
  | nm (i : Nat)
  | tup (l : MTs)
inductive MTs where
  | nil
  | cons (t : MT) (r : MTs)
end
mutual
inductive ME where
  | var (i : Nat)
  | lit (x : PyData)
  | glb (x : PyData)
  | gix (kvs : List (Str × PyData)) (e : ME)
  | bin (o : Operator) (a b : ME)
  | neg (a : ME)
  | not (a : ME)
  | and (a b : ME)
  | or (a b : ME)
  | one (a : ME)
  | cmp (o : CmpOp) (a b : ME)
  | cmp2 (o o2 : CmpOp) (a b c : ME)
  | ife (c a b : ME)
  | tup (es : MEs)
  | lst (c : Bool) (es : MEs)
  | ix (a b : ME)
  | sl (a : ME) (lo hi : MO)
  | bi (f : Bi) (a : ME)
  | mx2 (mx : Bool) (a b : ME)
  | isi (T : String) (a : ME)
  | call (f : Nat) (es : MEs)
  | join (a b : ME)
  | lc (c : Bool) (own : List Nat) (tg : MT) (it : MI) (cond : MO) (elt : ME)
inductive MEs where
  | nil
  | cons (e : ME) (r : MEs)
inductive MO where
  | none
  | some (e : ME)
inductive MI where
  | seq (e : ME)
  | rng1 (a : ME)
  | rng2 (a b : ME)
  | enum (a : ME)
  | zip (a b : ME)
end

/-! ### meaning -/
inductive Itm where
  | one (d : D)
  | two (a b : D)
mutual
def bindD : MT → D → Env → Option Env
  | .nm i, d, env => some (env.set i (some d))
  | .tup ts, .p (.tuple xs), env => bindDs ts (xs.map .p) env
  | .tup ts, .p (.list xs), env => bindDs ts (xs.map .p) env
  | .tup _, _, _ => none
def bindDs : MTs → List D → Env → Option Env
  | .nil, [], env => some env
  | .cons t r, d :: ds, env => (bindD t d env).bind fun env => bindDs r ds env
  | _, _, _ => none
end
def bindI : MT → Itm → Env → Option Env
  | t, .one d, env => bindD t d env
  | .tup ts, .two a b, env => bindDs ts [a, b] env
  | .nm _, .two _ _, _ => none
def dBelow (n : Nat) : D → Bool
  | .p _ => true
  | .c m => decide (m < n)
def cellBelow (n : Nat) : Cell → Bool
  | .lst ds => ds.all (dBelow n)
  | .dead => true
/-- the cells from n on dropped, where nothing before holds one -/
def gc (n : Nat) (st : Store) : Store := if (st.take n).all (cellBelow n) = true then st.take n else st
def wipeE (env : Env) : List Nat → Env
  | [] => env
  | v :: vs => (wipeE env vs).set v none
def varD (env : Env) (i : Nat) (st : Store) : R D :=
  match env[i]? with
  | some (some d) => .ok d st
  | _ => .bad
def truR (r : R D) : R Bool := r.bind fun d st => match tru d st with
  | some k => .ok k st
  | none => .bad
/-- no exception leaves a comprehension -/
def noEx {α : Type} (r : R α) : R α :=
  match r with
  | .ex _ _ => .bad
  | r => r
open Classical in
/-- the turns of a comprehension, its list in the cell n -/
noncomputable def lcL (gd : Store → Prop) (n : Nat) (tg : MT) (cond : MD) (elt : MD) (env0 : Env) : List Itm → Store → R Unit
  | [], st => if gd st then .ok () st else .bad
  | it :: r, st => if gd st then match bindI tg it env0 with
      | none => .bad
      | some env1 => (noEx (truR (cond env1 st))).bind fun b st1 =>
          if b = true then (noEx (elt env1 st1)).bind fun d st2 => match cellL st2 n with
            | some acc => if acc.length < SZ then lcL gd n tg cond elt env0 r (st2.set n (.lst (acc ++ [d]))) else .bad
            | none => .bad
          else lcL gd n tg cond elt env0 r st1
    else .bad
def lcEnd (c : Bool) (n : Nat) (st : Store) : R D :=
  match c with
  | true => .ok (.c n) st
  | false => match cellL st n with
    | some ds => match pures ds with
      | some xs => .ok (.p (.list xs)) (gc n (st.set n .dead))
      | none => .bad
    | none => .bad
def ofOpt {α : Type} (o : Option α) (st : Store) : R α :=
  match o with
  | some a => .ok a st
  | none => .bad
def joinD (x : Str) (b : D) (st : Store) : R D :=
  match (match b with | .p (.tuple ys) => some ys | b => (items b st).bind pures) with
  | some ys => match strsP ys with
    | some zs => if (zs.map (·.length)).sum + zs.length * x.length ≤ SZ then .ok (.p (.str (Txt.join x zs))) st else .bad
    | none => .bad
  | none => .bad
def seqI (d : D) (st : Store) : R (List Itm × (Store → Prop)) :=
  match d with
  | .p (.list xs) => .ok (xs.map fun x => .one (.p x), fun _ => True) st
  | .p (.tuple xs) => .ok (xs.map fun x => .one (.p x), fun _ => True) st
  | .p (.str z) => .ok (z.cps.toList.map fun c => .one (.p (.str ⟨#[c]⟩)), fun _ => True) st
  | .c n => match cellL st n with
    | some ds => .ok (ds.map .one, fun st' => cellL st' n = some ds) st
    | none => .bad
  | _ => .bad
def rngI (lo hi : Int) (st : Store) : R (List Itm × (Store → Prop)) :=
  if -(2 ^ 62) ≤ lo ∧ lo < 2 ^ 62 ∧ -(2 ^ 62) ≤ hi ∧ hi < 2 ^ 62 then .ok ((List.range (hi - lo).toNat).map fun (i : Nat) => .one (.p (.int (lo + (i : Int)))), fun _ => True) st else .bad
/-- a list and while it stands -/
def gdOf (d : D) (ds : List D) : Store → Prop := fun st => items d st = some ds
def enumI (d : D) (st : Store) : R (List Itm × (Store → Prop)) :=
  match items d st with
  | some ds => .ok (ds.mapIdx fun i d => .two (.p (.int (i : Nat))) d, gdOf d ds) st
  | none => .bad
def zipI (a b : D) (st : Store) : R (List Itm × (Store → Prop)) :=
  match a, b with
  | .p (.tuple xs), .p (.tuple ys) => .ok ((xs.zip ys).map fun p => .two (.p p.1) (.p p.2), fun _ => True) st
  | a, b => match items a st, items b st with
    | some xs, some ys => .ok ((xs.zip ys).map fun p => .two p.1 p.2, fun st => gdOf a xs st ∧ gdOf b ys st) st
    | _, _ => .bad
/-- a constant dict of the module, its texts looked up -/
def gixD (kvs : List (Str × PyData)) (x : D) (st : Store) : R D :=
  match x with
  | .p (.str z) => match kvs.lookup z with
    | some v => .ok (.p v) st
    | none => .bad
  | _ => .bad
abbrev Sem1 := Nat → List D → Store → R D
mutual
noncomputable def ev (G : Sem1) : ME → Env → Store → R D
  | .var i, env, st => varD env i st
  | .lit x, _, st => .ok (.p x) st
  | .glb x, _, st => .ok (.p x) st
  | .gix kvs e, env, st => (ev G e env st).bind fun x st => gixD kvs x st
  | .bin o a b, env, st => (ev G a env st).bind fun x st => (ev G b env st).bind fun y st => binD o x y st
  | .neg a, env, st => (ev G a env st).bind fun x st => negD x st
  | .not a, env, st => (truR (ev G a env st)).bind fun k st => .ok (.p (.bool (!k))) st
  | .and a b, env, st => (ev G a env st).bind fun x st => match tru x st with
    | some true => ev G b env st
    | some false => .ok x st
    | none => .bad
  | .or a b, env, st => (ev G a env st).bind fun x st => match tru x st with
    | some true => .ok x st
    | some false => ev G b env st
    | none => .bad
  | .one a, env, st => ev G a env st
  | .cmp o a b, env, st => (ev G a env st).bind fun x st => (ev G b env st).bind fun y st => cmpD o x y st
  | .cmp2 o o2 a b c, env, st => (ev G a env st).bind fun x st => (ev G b env st).bind fun y st => (cmpD o x y st).bind fun k st => match k with
    | .p (.bool true) => (ev G c env st).bind fun z st => cmpD o2 y z st
    | .p (.bool false) => .ok (.p (.bool false)) st
    | _ => .bad
  | .ife c a b, env, st => (truR (ev G c env st)).bind fun k st => if k = true then ev G a env st else ev G b env st
  | .tup es, env, st => (evs G es env st).bind fun ds st => if ds.length ≤ SZ then match pures ds with
    | some xs => .ok (.p (.tuple xs)) st
    | none => .bad
    else .bad
  | .lst c es, env, st => (evs G es env st).bind fun ds st => if ds.length ≤ SZ then mkL c ds st else .bad
  | .ix a b, env, st => (ev G a env st).bind fun x st => (ev G b env st).bind fun y st => ixD x y st
  | .sl a lo hi, env, st => (ev G a env st).bind fun x st => (evo G lo env st).bind fun l st => (evo G hi env st).bind fun h st => slD x l h st
  | .bi f a, env, st => (ev G a env st).bind fun x st => bi1D f x st
  | .mx2 m a b, env, st => (ev G a env st).bind fun x st => (ev G b env st).bind fun y st => max2D m x y st
  | .isi T a, env, st => (ev G a env st).bind fun x st => isiD T x st
  | .call f es, env, st => (evs G es env st).bind fun ds st => G f ds st
  | .join a b, env, st => (ev G a env st).bind fun x st => match x with
    | .p (.str z) => (ev G b env st).bind fun y st => joinD z y st
    | _ => .bad
  | .lc c own tg it cond elt, env, st => (evi G it env st).bind fun p st1 =>
      (lcL p.2 st1.length tg (evc G cond) (ev G elt) (wipeE env own) p.1 (st1 ++ [.lst []])).bind fun _ st2 => lcEnd c st1.length st2
noncomputable def evs (G : Sem1) : MEs → Env → Store → R (List D)
  | .nil, _, st => .ok [] st
  | .cons e r, env, st => (ev G e env st).bind fun x st => (evs G r env st).bind fun xs st => .ok (x :: xs) st
/-- an optional part of a slice -/
noncomputable def evo (G : Sem1) : MO → Env → Store → R (Option Int)
  | .none, _, st => .ok none st
  | .some e, env, st => (ev G e env st).bind fun x st => match x with
    | .p (.int i) => .ok (some i) st
    | _ => .bad
/-- an optional test -/
noncomputable def evc (G : Sem1) : MO → Env → Store → R D
  | .none, _, st => .ok (.p (.bool true)) st
  | .some e, env, st => ev G e env st
noncomputable def evi (G : Sem1) : MI → Env → Store → R (List Itm × (Store → Prop))
  | .seq e, env, st => (ev G e env st).bind fun x st => seqI x st
  | .rng1 a, env, st => (ev G a env st).bind fun x st => match x with
    | .p (.int i) => rngI 0 i st
    | _ => .bad
  | .rng2 a b, env, st => (ev G a env st).bind fun x st => (ev G b env st).bind fun y st => match x, y with
    | .p (.int i), .p (.int j) => rngI i j st
    | _, _ => .bad
  | .enum a, env, st => (ev G a env st).bind fun x st => enumI x st
  | .zip a b, env, st => (ev G a env st).bind fun x st => (ev G b env st).bind fun y st => zipI x y st
end

/-! ### the text that a mirrored term is of -/
structure Ctx where
  N : List Str
  sc : Scope
  fnC : Bool
  glbs : List (Str × PyData)
  gds : List (Str × List (Str × PyData))
  fns : List Str
  bl : List Str
def Ctx.isVis (C : Ctx) (x : Str) : Bool := match C.sc.names.lookup x with
  | some .local => true
  | some .cell => true
  | some .free => true
  | _ => false
def okName (x : Str) : Bool := !(x == ("__debug__" : Str)) && !(x == ("__classdict__" : Str)) && !(x == ("__name__" : Str))
def Ctx.isGl (C : Ctx) (x : Str) : Bool := okName x && decide (C.sc.names.lookup x = some .globalImplicit)
def Ctx.isBl (C : Ctx) (x : Str) : Bool := C.isGl x && C.bl.contains x
def Ctx.slot (C : Ctx) (i : Nat) (x : Str) : Bool := okName x && decide (C.N[i]? = some x)
def litC : Const → PyData → Bool
  | .none, .none => true
  | .bool b, .bool c => b == c
  | .int i, .int j => i == j
  | .str x, .str y => x == y
  | _, _ => false
def dataEq : PyData → PyData → Bool
  | .int i, .int j => i == j
  | .str x, .str y => x == y
  | .bool x, .bool y => x == y
  | .none, .none => true
  | _, _ => false
def kvEq : List (Str × PyData) → List (Str × PyData) → Bool
  | [], [] => true
  | (a, x) :: r, (b, y) :: r' => a == b && dataEq x y && kvEq r r'
  | _, _ => false
def notIn (o : CmpOp) : Bool := match o with
  | .In => false
  | .NotIn => false
  | _ => true
def notSet : Expr → Bool
  | .Set .. => false
  | _ => true
mutual
def chkT (C : Ctx) : MT → Expr → Bool
  | .nm i, .Name x _ => C.slot i x && decide (C.sc.names.lookup x = some .local ∨ (C.fnC = true ∧ C.sc.names.lookup x = some .cell))
  | .tup ts, .Tuple es _ _ => chkTs C ts es
  | _, _ => false
def chkTs (C : Ctx) : MTs → List Expr → Bool
  | .nil, [] => true
  | .cons t r, e :: es => chkT C t e && chkTs C r es
  | _, _ => false
end
mutual
def tgVars : MT → List Nat
  | .nm i => [i]
  | .tup ts => tgVarss ts
def tgVarss : MTs → List Nat
  | .nil => []
  | .cons t r => tgVars t ++ tgVarss r
end
def notStar : Expr → Bool
  | .Starred .. => false
  | _ => true
def notSlice : Expr → Bool
  | .Slice .. => false
  | _ => true
def notSuper : Expr → Bool
  | .Call (.Name _ _) [] [] _ => false
  | _ => true
def isTup : Expr → Bool
  | .Tuple .. => true
  | _ => false
mutual
def chk (C : Ctx) : ME → Expr → Bool
  | .var i, py => match py with
    | .Name x _ => C.slot i x && C.isVis x
    | _ => false
  | .lit v, py => match py with
    | .Constant c _ _ => litC c v
    | _ => false
  | .glb v, py => match py with
    | .Name x _ => C.isGl x && (match C.glbs.lookup x with | some w => dataEq v w | none => false)
    | _ => false
  | .gix kvs e, py => match py with
    | .Subscript (.Name x _) y _ => notSlice y && C.isGl x && (match C.gds.lookup x with | some w => kvEq kvs w | none => false) && chk C e y
    | _ => false
  | .bin o a b, py => match py with
    | .BinOp x o2 y _ => decide (o = o2) && chk C a x && chk C b y
    | _ => false
  | .neg a, py => match py with
    | .UnaryOp .USub x _ => chk C a x
    | _ => false
  | .not a, py => match py with
    | .UnaryOp .Not x _ => chk C a x
    | _ => false
  | .and a b, py => match py with
    | .BoolOp .And (x :: y :: r) p => chk C a x && chk C b (.BoolOp .And (y :: r) p)
    | _ => false
  | .or a b, py => match py with
    | .BoolOp .Or (x :: y :: r) p => chk C a x && chk C b (.BoolOp .Or (y :: r) p)
    | _ => false
  | .one a, py => match py with
    | .BoolOp _ [x] _ => chk C a x
    | _ => false
  | .cmp o a b, py => match py with
    | .Compare x [o2] [y] _ => decide (o = o2) && notSet y && chk C a x && chk C b y
    | _ => false
  | .cmp2 o o' a b c, py => match py with
    | .Compare x [o2, o2'] [y, z] _ => decide (o = o2) && decide (o' = o2') && notSet y && notSet z && chk C a x && chk C b y && chk C c z
    | _ => false
  | .ife c a b, py => match py with
    | .IfExp t x y _ => chk C c t && chk C a x && chk C b y
    | _ => false
  | .tup es, py => match py with
    | .Tuple xs _ _ => chks C es xs
    | _ => false
  | .lst _ es, py => match py with
    | .List xs _ => chks C es xs
    | _ => false
  | .ix a b, py => match py with
    | .Subscript x y _ => notSlice y && chk C a x && chk C b y
    | _ => false
  | .sl a lo hi, py => match py with
    | .Subscript x (.Slice l h none _) _ => chk C a x && chko C lo l && chko C hi h
    | _ => false
  | .bi f a, py => match py with
    | .Call (.Name x _) [y] [] _ => decide (x = bi1N f) && C.isBl x && notStar y && chk C a y
    | _ => false
  | .mx2 m a b, py => match py with
    | .Call (.Name x _) [y, z] [] _ => decide (x = if m then ("max" : Str) else "min") && C.isBl x && notStar y && notStar z && chk C a y && chk C b z
    | _ => false
  | .isi T a, py => match py with
    | .Call (.Name x _) [y, .Name t _] [] _ => decide (x = ("isinstance" : Str)) && C.isBl x && decide (t = Str.ofString T) && C.isBl t && isiOkT T && notStar y && chk C a y
    | _ => false
  | .call f es, py => match py with
    | .Call (.Name x _) (y :: ys) [] _ => C.isGl x && decide (C.fns[f]? = some x) && chks C es (y :: ys)
    | _ => false
  | .join a b, py => match py with
    | .Call (.Attribute x m q) [y] [] p => decide (m = ("join" : Str)) && (q.endLine == p.line) && notSuper x && notStar y && chk C a x && chk C b y
    | _ => false
  | .lc _ own tg it cond elt, py => match py with
    | .ListComp x [⟨t, i, ifs, 0⟩] scope _ => 
      blkC C.N C.sc scope (own.map fun j => ((C.N[j]?).getD "", j)) && (tgVars tg).all (fun j => own.contains j) &&
      (let C' : Ctx := { C with sc := relS scope C.sc, fnC := false }
       chkT C' tg t && chki C it i t && chkc C' cond ifs && chk C' elt x)
    | _ => false
def chks (C : Ctx) : MEs → List Expr → Bool
  | .nil, [] => true
  | .cons e r, x :: xs => notStar x && chk C e x && chks C r xs
  | _, _ => false
def chko (C : Ctx) : MO → Option Expr → Bool
  | .none, none => true
  | .some e, some x => chk C e x
  | _, _ => false
def chkc (C : Ctx) : MO → List Expr → Bool
  | .none, [] => true
  | .some e, [x] => chk C e x
  | _, _ => false
def chki (C : Ctx) : MI → Expr → Expr → Bool
  | .seq e, x, _ => notSet x && chk C e x
  | .rng1 a, py, _ => match py with
    | .Call (.Name f _) [x] [] _ => decide (f = ("range" : Str)) && C.isBl f && notStar x && chk C a x
    | _ => false
  | .rng2 a b, py, _ => match py with
    | .Call (.Name f _) [x, y] [] _ => decide (f = ("range" : Str)) && C.isBl f && notStar x && notStar y && chk C a x && chk C b y
    | _ => false
  | .enum a, py, t => match py with
    | .Call (.Name f _) [x] [] _ => decide (f = ("enumerate" : Str)) && C.isBl f && isTup t && notStar x && chk C a x
    | _ => false
  | .zip a b, py, t => match py with
    | .Call (.Name f _) [x, y] [] _ => decide (f = ("zip" : Str)) && C.isBl f && isTup t && notStar x && notStar y && chk C a x && chk C b y
    | _ => false
end
end MP

set_option Elab.async false
set_option linter.all false
set_option autoImplicit false
set_option maxRecDepth 100000
set_option maxHeartbeats 2000000
/-! the meaning is right: expressions -/
namespace MP
open PySem PySem.Spec PyProof.Rows L2

def spOf (K : PySem.W.Frag) (XR : Exc → Value → Option Addr → Hp → Prop) (sem : List D → Store → R D) : Sp := fun vs H Q E => ∃ ds st F φ, SR K F φ st H ∧ RDs K F φ vs ds ∧ Sat K XR E (QE K Q) F φ (sem ds st)
def FnE (X : Cx) (XR : Exc → Value → Option Addr → Hp → Prop) (E : XK) (f : Str) (sem : List D → Store → R D) : Prop :=
  ∃ k fa fd ps, FnOk X.prog X.w X.K X.mg X.base (L2.CX X.prog X.w) k fa fd ps (spOf X.K XR sem) ∧ Room k X.A ∧ X.mg f = some (.ref fa) ∧ PySem.W.keepIn X.K (.ref fa) = true ∧ Binds X.K fd ps []
structure WF (X : Cx) (C : Ctx) (G : Sem1) (XR : Exc → Value → Option Addr → Hp → Prop) (E : XK) : Prop where
  N : X.N = C.N
  sc : X.env.scope = C.sc
  nd : X.N.Nodup
  calm : X.calm = true
  fn : C.fnC = true → ∀ x, X.fn x = true
  glb : ∀ x d, C.glbs.lookup x = some d → ∃ u v, X.mg x = some u ∧ RelV v u ∧ Dp X.K (fun _ => none) v d
  gds : ∀ x kvs, C.gds.lookup x = some kvs → ∃ p, X.mg x = some (.ref p) ∧ ∀ z d, kvs.lookup z = some d → ∃ v, KDct X.K X.w p z v ∧ Dp X.K (fun _ => none) v d
  bl : ∀ x, x ∈ C.bl → X.mg x = none
  fns : ∀ (i : Nat) (f : Str), C.fns[i]? = some f → FnE X XR E f (G i)
  px : Passes (L2.CX X.prog X.w) X E
  un : X.A.units + 200 < cLine

section
variable {X : Cx} {C : Ctx} {G : Sem1} {XR : Exc → Value → Option Addr → Hp → Prop} {E : XK}
theorem WF.blk (h : WF X C G XR E) (s : Shared) (H : Hp) (scope : Scope) (cl : List (Str × Addr)) (Ca : Addr) (fp : List Addr) :
    WF (X.blk s H scope (compEnvC scope cl Ca X.env) fp) { C with sc := relS scope C.sc, fnC := false } G XR E0 :=
  ⟨h.N, (by rw [← h.sc]; rfl), h.nd, h.calm, (fun z => nomatch z), h.glb, h.gds, h.bl, (fun i f hf => h.fns i f hf), passL, h.un⟩
theorem okName_of {x : Str} (h : okName x = true) : (x == ("__debug__" : Str)) = false ∧ (x == ("__classdict__" : Str)) = false ∧ x ≠ "__name__" := by
  unfold okName at h
  simp only [Bool.and_eq_true, Bool.not_eq_true'] at h
  exact ⟨h.1.1, h.1.2, fun e => by have := h.2; rw [e] at this; simp at this⟩
theorem slot_of {i : Nat} {x : Str} (h : C.slot i x = true) : okName x = true ∧ C.N[i]? = some x := by
  unfold Ctx.slot at h
  simp only [Bool.and_eq_true, decide_eq_true_eq] at h
  exact h
theorem vis_of {x : Str} (h : C.isVis x = true) : Vis C.sc x := by
  unfold Ctx.isVis at h
  split at h
  · rename_i e; exact .inl e
  · rename_i e; exact .inr (.inl e)
  · rename_i e; exact .inr (.inr e)
  · cases h
theorem gl_of (w : WF X C G XR E) {x : Str} (h : C.isGl x = true) : okName x = true ∧ Gl X x := by
  unfold Ctx.isGl at h
  simp only [Bool.and_eq_true, decide_eq_true_eq] at h
  refine ⟨h.1, ?_⟩
  show X.env.scope.names.lookup x = some .globalImplicit
  rw [w.sc]
  exact h.2
theorem bl_of (w : WF X C G XR E) {x : Str} (h : C.isBl x = true) : okName x = true ∧ Gl X x ∧ X.mg x = none := by
  unfold Ctx.isBl at h
  simp only [Bool.and_eq_true] at h
  obtain ⟨h1, h2⟩ := gl_of w h.1
  exact ⟨h1, h2, w.bl x (by simpa using h.2)⟩
theorem star1 {e : Expr} {es : List Expr} {env : PySem.Env} (h : notStar e = true) : starEach (e :: es) env = (false, eval e env) :: starEach es env := by
  cases e <;> first | rfl | cases h
theorem chks_plain {pos : Pos} {env : PySem.Env} : ∀ {es : MEs} {xs : List Expr}, chks C es xs = true → (backTo pos (starEach xs env)).any (·.1) = false
  | .nil, [], _ => rfl
  | .cons e r, x :: xs, h => by
    simp only [chks, Bool.and_eq_true] at h
    rw [star1 h.1.1]
    show (false || (backTo pos (starEach xs env)).any (·.1)) = false
    rw [chks_plain h.2]
    rfl
  | .nil, _ :: _, h => by simp [chks] at h
  | .cons _ _, [], h => by simp [chks] at h

/-! ### chains of readings -/
theorem rE_bind {m : Env → Store → R D} {k : Env → D → Store → R D} {σ : L2.St} {H : Hp} {Q R' : VK} (h : rE X.K XR E (fun env st => (m env st).bind (k env)) σ H Q)
    (f : ∀ env st F φ H v d, SR X.K F φ st H → ER X.K F φ env σ → RD X.K F φ v d → Sat X.K XR E (QE X.K Q) F φ (k env d st) → R' v H) : rE X.K XR E m σ H R' := by
  obtain ⟨env, st, F, φ, S, r, h⟩ := h
  exact ⟨env, st, F, φ, S, r, Sat.bind h fun a st1 F1 φ1 H1 e1 S1 h1 v rv => f env st1 F1 φ1 H1 v a S1 (r.mono e1) rv h1⟩
theorem pt_of_pe {py : Expr} {m : MD} (h : PE X py (rE X.K XR E m)) (he : ∀ whole, isTrue py X.env whole = (do let v ← whole; standAt py.pos; holding [v] (truthy v))) :
    PT X py (rT X.K XR E fun env st => truR (m env st)) := by
  refine PT.imp (pt_truth h he) fun σ H Q hq => ?_
  obtain ⟨env, st, F, φ, S, r, hq⟩ := hq
  refine ⟨env, st, F, φ, S, r, Sat.bind hq fun a st1 F1 φ1 H1 e1 S1 h1 v rv => ?_⟩
  cases e : tru a st1 with
  | none => rw [e] at h1; exact h1.elim
  | some k =>
    rw [e] at h1
    exact ⟨k, MP.tru_ok S1 rv e, h1.ok S1⟩
/-- what is shown of an expression -/
structure OkP (X : Cx) (XR : Exc → Value → Option Addr → Hp → Prop) (E : XK) (py : Expr) (m : MD) : Prop where
  pe : PE X py (rE X.K XR E m)
  pt : PT X py (rT X.K XR E fun env st => truR (m env st))
  pw : ∀ op vs pos, py = .BoolOp op vs pos → PW X py (rT X.K XR E fun env st => truR (m env st))
theorem OkP.plain {py : Expr} {m : MD} (h : PE X py (rE X.K XR E m)) (he : ∀ whole, isTrue py X.env whole = (do let v ← whole; standAt py.pos; holding [v] (truthy v))) (hn : ∀ op vs pos, py ≠ .BoolOp op vs pos) : OkP X XR E py m :=
  ⟨h, pt_of_pe h he, fun op vs pos e => absurd e (hn op vs pos)⟩
theorem truR_bind {α : Type} (r : R α) (k : α → Store → R D) : truR (r.bind k) = r.bind fun a st => truR (k a st) := by
  cases r <;> rfl

theorem ok_var (w : WF X C G XR E) {i : Nat} {x : Str} {pos : Pos} (h : (C.slot i x && C.isVis x) = true) : OkP X XR E (.Name x pos) (ev G (.var i)) := by
  simp only [Bool.and_eq_true] at h
  obtain ⟨h1, h2⟩ := slot_of h.1
  obtain ⟨d1, d2, _⟩ := okName_of h1
  refine .plain (PE.imp (pe_var (i := i) (by rw [w.N]; exact h2) (by rw [w.sc]; exact vis_of h.2) d1 d2) fun σ H Q hq => ?_) (fun _ => rfl) (fun _ _ _ e => nomatch e)
  obtain ⟨env, st, F, φ, S, r, hq⟩ := hq
  simp only [ev, varD] at hq
  split at hq
  · rename_i d e
    obtain ⟨v, h1, h2⟩ := r.val i d e
    exact ⟨v, h1, sat_val S h2 hq⟩
  · exact hq.elim
theorem ok_lit {v : PyData} {c : Const} {j : Nat} {pos : Pos} (h : litC c v = true) : OkP X XR E (.Constant c j pos) (ev G (.lit v)) := by
  refine .plain ?_ (fun _ => rfl) (fun _ _ _ e => nomatch e)
  unfold litC at h
  split at h
  · refine PE.imp pe_non fun σ H Q hq => ?_
    obtain ⟨env, st, F, φ, S, r, hq⟩ := hq
    simp only [ev] at hq
    exact sat_val S rd_non hq
  · cases eq_of_beq h
    refine PE.imp pe_bl fun σ H Q hq => ?_
    obtain ⟨env, st, F, φ, S, r, hq⟩ := hq
    simp only [ev] at hq
    exact sat_val S rd_bl hq
  · cases eq_of_beq h
    refine PE.imp pe_int fun σ H Q hq => ?_
    obtain ⟨env, st, F, φ, S, r, hq⟩ := hq
    simp only [ev] at hq
    exact sat_val S rd_int hq
  · cases eq_of_beq h
    refine PE.imp pe_str fun σ H Q hq => ?_
    obtain ⟨env, st, F, φ, S, r, hq⟩ := hq
    simp only [ev] at hq
    exact sat_val S rd_str hq
  · cases h
theorem dataEq_eq {x y : PyData} (h : dataEq x y = true) : x = y := by
  unfold dataEq at h
  split at h <;> first | (rw [eq_of_beq h]) | rfl | cases h
theorem ok_glb (w : WF X C G XR E) {v : PyData} {x : Str} {pos : Pos} (h : (C.isGl x && (match C.glbs.lookup x with | some w => dataEq v w | none => false)) = true) : OkP X XR E (.Name x pos) (ev G (.glb v)) := by
  rw [Bool.and_eq_true] at h
  obtain ⟨h1, h2⟩ := gl_of w h.1
  have h3 := h.2
  split at h3
  · rename_i d e
    cases dataEq_eq h3
    obtain ⟨u, z, hm, hr, hd⟩ := w.glb x _ e
    refine .plain (PE.imp (pe_glob h2 hm hr (okName_of h1).1) fun σ H Q hq => ?_) (fun _ => rfl) (fun _ _ _ e => nomatch e)
    obtain ⟨env, st, F, φ, S, r, hq⟩ := hq
    simp only [ev] at hq
    exact sat_val S (show RD X.K F φ z (.p v) from dp_mono (fun _ _ q => (by cases q)) hd) hq
  · cases h3
theorem kvEq_eq : ∀ {a b : List (Str × PyData)}, kvEq a b = true → a = b
  | [], [], _ => rfl
  | (x, u) :: r, (y, v) :: r', h => by
    simp only [kvEq, Bool.and_eq_true] at h
    rw [eq_of_beq h.1.1, dataEq_eq h.1.2, kvEq_eq h.2]
  | [], _ :: _, h => by cases h
  | _ :: _, [], h => by cases h
theorem ok_bin {o : Operator} {a b : ME} {x y : Expr} {pos : Pos} (ha : OkP X XR E x (ev G a)) (hb : OkP X XR E y (ev G b)) : OkP X XR E (.BinOp x o y pos) (ev G (.bin o a b)) := by
  refine .plain (PE.imp (pe_op (o_bin (XR := XR) (E := E) o) ha.pe hb.pe) fun σ H Q hq => ?_) (fun _ => rfl) (fun _ _ _ e => nomatch e)
  obtain ⟨env, st, F, φ, S, r, hq⟩ := hq
  simp only [ev] at hq
  exact ⟨env, st, F, φ, S, r, Sat.bind hq fun a st1 F1 φ1 H1 e1 S1 h1 x rx => ⟨env, st1, F1, φ1, S1, r.mono e1, Sat.bind h1 fun b st2 F2 φ2 H2 e2 S2 h2 y ry => ⟨a, b, st2, F2, φ2, S2, rx.mono e2, ry, h2⟩⟩⟩
theorem ok_neg {a : ME} {x : Expr} {pos : Pos} (ha : OkP X XR E x (ev G a)) : OkP X XR E (.UnaryOp .USub x pos) (ev G (.neg a)) := by
  refine .plain (PE.imp (pe_un (o_neg (XR := XR) (E := E)) ha.pe) fun σ H Q hq => ?_) (fun _ => rfl) (fun _ _ _ e => nomatch e)
  obtain ⟨env, st, F, φ, S, r, hq⟩ := hq
  simp only [ev] at hq
  exact ⟨env, st, F, φ, S, r, Sat.bind hq fun a st1 F1 φ1 H1 e1 S1 h1 x rx => ⟨a, st1, F1, φ1, S1, rx, h1⟩⟩
theorem ok_not {a : ME} {x : Expr} {pos : Pos} (ha : OkP X XR E x (ev G a)) : OkP X XR E (.UnaryOp .Not x pos) (ev G (.not a)) := by
  refine ⟨PE.imp (pe_notT ha.pe) fun σ H Q hq => ?_, PT.imp (pt_not ha.pt) fun σ H Q hq => ?_, fun _ _ _ e => nomatch e⟩
  · obtain ⟨env, st, F, φ, S, r, hq⟩ := hq
    simp only [ev] at hq
    unfold truR at hq
    refine ⟨env, st, F, φ, S, r, ?_⟩
    cases hm : ev G a env st with
    | bad => rw [hm] at hq; exact hq.elim
    | ex c st1 => rw [hm] at hq; exact hq
    | ok d st1 =>
      rw [hm] at hq
      simp only [R.bind_ok] at hq
      intro F1 φ1 H1 e1 S1 v rv
      cases e : tru d st1 with
      | none => rw [e] at hq; exact hq.elim
      | some k =>
        rw [e] at hq
        exact ⟨k, MP.tru_ok S1 rv e, sat_val S1 rd_bl (hq.ext e1)⟩
  · obtain ⟨env, st, F, φ, S, r, hq⟩ := hq
    simp only [ev, truR_bind] at hq
    exact ⟨env, st, F, φ, S, r, Sat.bind hq fun k st1 F1 φ1 H1 e1 S1 h1 => h1.ok S1⟩
theorem truR_and (r : R D) (k : Store → R D) : (r.bind fun x st => truR (match tru x st with | some true => k st | some false => .ok x st | none => .bad)) = (truR r).bind fun b st => if b = true then truR (k st) else .ok false st := by
  cases r with
  | bad => rfl
  | ex c st => rfl
  | ok d st =>
    unfold truR
    simp only [R.bind_ok]
    cases e : tru d st with
    | none => rfl
    | some b => cases b <;> simp [e]
theorem truR_or (r : R D) (k : Store → R D) : (r.bind fun x st => truR (match tru x st with | some true => .ok x st | some false => k st | none => .bad)) = (truR r).bind fun b st => if b = true then .ok true st else truR (k st) := by
  cases r with
  | bad => rfl
  | ex c st => rfl
  | ok d st =>
    unfold truR
    simp only [R.bind_ok]
    cases e : tru d st with
    | none => rfl
    | some b => cases b <;> simp [e]
theorem ok_one {a : ME} {x : Expr} {op : PySem.BoolOp} {pos : Pos} (ha : OkP X XR E x (ev G a)) : OkP X XR E (.BoolOp op [x] pos) (ev G (.one a)) := by
  have hw : PW X (.BoolOp op [x] pos) (rT X.K XR E fun env st => truR (ev G a env st)) := by
    cases op with
    | And => exact pw_and1 ha.pt
    | Or => exact pw_or1 ha.pt
  refine ⟨PE.imp (pe_one ha.pe) fun σ H Q hq => ?_, PT.imp hw.pt fun σ H Q hq => ?_, fun op' vs pos' e => ?_⟩
  · simpa only [rE, ev] using hq
  · simpa only [rT, ev] using hq
  · cases e
    refine PW.imp hw fun σ H Q hq => ?_
    simpa only [rT, ev] using hq
theorem ok_and {a b : ME} {x y : Expr} {r : List Expr} {pos : Pos} (ha : OkP X XR E x (ev G a)) (hb : OkP X XR E (.BoolOp .And (y :: r) pos) (ev G b)) : OkP X XR E (.BoolOp .And (x :: y :: r) pos) (ev G (.and a b)) := by
  have hw : PW X (.BoolOp .And (x :: y :: r) pos) (rT X.K XR E fun env st => truR (ev G (.and a b) env st)) := by
    refine PW.imp (pw_and ha.pt (hb.pw _ _ _ rfl)) fun σ H Q hq => ?_
    obtain ⟨env, st, F, φ, S, r, hq⟩ := hq
    simp only [ev, truR_bind] at hq
    refine ⟨env, st, F, φ, S, r, ?_⟩
    have hq2 : Sat X.K XR E (QT Q) F φ ((truR (ev G a env st)).bind fun b' st => if b' = true then truR (ev G b env st) else .ok false st) := by
      rw [← truR_and (ev G a env st) (ev G b env)]
      exact hq
    refine Sat.bind hq2 fun k st1 F1 φ1 H1 e1 S1 h1 => ?_
    cases k with
    | true => exact ⟨env, st1, F1, φ1, S1, r.mono e1, h1⟩
    | false => exact h1.ok S1
  refine ⟨PE.imp (pe_andT ha.pe hb.pe) fun σ H Q hq => ?_, hw.pt, fun op' vs pos' e => by cases e; exact hw⟩
  obtain ⟨env, st, F, φ, S, r, hq⟩ := hq
  simp only [ev] at hq
  refine ⟨env, st, F, φ, S, r, Sat.bind hq fun d st1 F1 φ1 H1 e1 S1 h1 v rv => ?_⟩
  cases e : tru d st1 with
  | none => rw [e] at h1; exact h1.elim
  | some k =>
    rw [e] at h1
    refine ⟨k, MP.tru_ok S1 rv e, ?_⟩
    cases k with
    | true => exact ⟨env, st1, F1, φ1, S1, r.mono e1, h1⟩
    | false => exact sat_val S1 rv h1
theorem ok_or {a b : ME} {x y : Expr} {r : List Expr} {pos : Pos} (ha : OkP X XR E x (ev G a)) (hb : OkP X XR E (.BoolOp .Or (y :: r) pos) (ev G b)) : OkP X XR E (.BoolOp .Or (x :: y :: r) pos) (ev G (.or a b)) := by
  have hw : PW X (.BoolOp .Or (x :: y :: r) pos) (rT X.K XR E fun env st => truR (ev G (.or a b) env st)) := by
    refine PW.imp (pw_or ha.pt (hb.pw _ _ _ rfl)) fun σ H Q hq => ?_
    obtain ⟨env, st, F, φ, S, r, hq⟩ := hq
    simp only [ev, truR_bind] at hq
    refine ⟨env, st, F, φ, S, r, ?_⟩
    have hq2 : Sat X.K XR E (QT Q) F φ ((truR (ev G a env st)).bind fun b' st => if b' = true then .ok true st else truR (ev G b env st)) := by
      rw [← truR_or (ev G a env st) (ev G b env)]
      exact hq
    refine Sat.bind hq2 fun k st1 F1 φ1 H1 e1 S1 h1 => ?_
    cases k with
    | true => exact h1.ok S1
    | false => exact ⟨env, st1, F1, φ1, S1, r.mono e1, h1⟩
  refine ⟨PE.imp (pe_orT ha.pe hb.pe) fun σ H Q hq => ?_, hw.pt, fun op' vs pos' e => by cases e; exact hw⟩
  obtain ⟨env, st, F, φ, S, r, hq⟩ := hq
  simp only [ev] at hq
  refine ⟨env, st, F, φ, S, r, Sat.bind hq fun d st1 F1 φ1 H1 e1 S1 h1 v rv => ?_⟩
  cases e : tru d st1 with
  | none => rw [e] at h1; exact h1.elim
  | some k =>
    rw [e] at h1
    refine ⟨k, MP.tru_ok S1 rv e, ?_⟩
    cases k with
    | true => exact sat_val S1 rv h1
    | false => exact ⟨env, st1, F1, φ1, S1, r.mono e1, h1⟩
theorem nomarkS {b : Expr} (h : notSet b = true) (op : CmpOp) : behindInMarks op b = false := by
  cases b <;> first | rfl | cases h
/-- a comparison gives a truth -/
theorem cmpD_bool {o : CmpOp} {x y d : D} {st st' : Store} (h : cmpD o x y st = .ok d st') : ∃ k, d = .p (.bool k) ∧ st' = st := by
  have ord : ∀ op, ordD op x y st = .ok d st' → ∃ k, d = .p (.bool k) ∧ st' = st := by
    intro op h
    unfold ordD at h
    repeat' split at h
    all_goals first | (cases h; done) | (cases h; exact ⟨_, rfl, rfl⟩)
  have eqs : ∀ n, eqD n x y st = .ok d st' → ∃ k, d = .p (.bool k) ∧ st' = st := by
    intro n h
    unfold eqD at h
    repeat' split at h
    all_goals first | (cases h; done) | (cases h; exact ⟨_, rfl, rfl⟩)
  have ins : ∀ n, inD n x y st = .ok d st' → ∃ k, d = .p (.bool k) ∧ st' = st := by
    intro n h
    unfold inD at h
    split at h
    · split at h
      · cases h; exact ⟨_, rfl, rfl⟩
      · cases h
    · split at h
      · split at h
        · cases h; exact ⟨_, rfl, rfl⟩
        · cases h
      · split at h
        · cases h; exact ⟨_, rfl, rfl⟩
        · cases h
      · cases h
  have iss : ∀ n, isD n x y st = .ok d st' → ∃ k, d = .p (.bool k) ∧ st' = st := by
    intro n h
    unfold isD at h
    repeat' split at h
    all_goals first | (cases h; done) | (cases h; exact ⟨_, rfl, rfl⟩)
  cases o with
  | Eq => exact eqs _ h
  | NotEq => exact eqs _ h
  | In => exact ins _ h
  | NotIn => exact ins _ h
  | Is => exact iss _ h
  | IsNot => exact iss _ h
  | Lt => exact ord .Lt h
  | LtE => exact ord .LtE h
  | Gt => exact ord .Gt h
  | GtE => exact ord .GtE h
theorem sat_cmp {o : CmpOp} {x y : D} {st : Store} {F : Hp} {φ : List Addr} {Q : Bool → Hp → Prop} (h : Sat X.K XR E (QT Q) F φ (truR (cmpD o x y st))) : Sat X.K XR E (QE X.K fun v H1 => ∃ k, v = .bl k ∧ Q k H1) F φ (cmpD o x y st) := by
  cases hm : cmpD o x y st with
  | bad => rw [hm] at h; exact h.elim
  | ex c st1 => rw [hm] at h; exact h
  | ok d st1 =>
    obtain ⟨k, rfl, rfl⟩ := cmpD_bool hm
    rw [hm] at h
    intro F1 φ1 H1 e1 S1 v rv
    exact ⟨k, rv.bl, h F1 φ1 H1 e1 S1⟩
theorem ok_cmp (w : WF X C G XR E) {o : CmpOp} {a b : ME} {x y : Expr} {pos : Pos} (hs : notSet y = true) (ha : OkP X XR E x (ev G a)) (hb : OkP X XR E y (ev G b)) : OkP X XR E (.Compare x [o] [y] pos) (ev G (.cmp o a b)) := by
  have hu := w.un
  refine ⟨PE.imp (pe_cmpR (o_cmp (XR := XR) (E := E) hu o) ha.pe hb.pe (nomarkS hs o)) fun σ H Q hq => ?_, PT.imp (pt_cmpR (o_cmp (XR := XR) (E := E) hu o) ha.pe hb.pe (nomarkS hs o)) fun σ H Q hq => ?_, fun _ _ _ e => nomatch e⟩
  · obtain ⟨env, st, F, φ, S, r, hq⟩ := hq
    simp only [ev] at hq
    exact ⟨env, st, F, φ, S, r, Sat.bind hq fun a st1 F1 φ1 H1 e1 S1 h1 x rx => ⟨env, st1, F1, φ1, S1, r.mono e1, Sat.bind h1 fun b st2 F2 φ2 H2 e2 S2 h2 y ry => ⟨a, b, st2, F2, φ2, S2, rx.mono e2, ry, h2⟩⟩⟩
  · obtain ⟨env, st, F, φ, S, r, hq⟩ := hq
    simp only [ev, truR_bind] at hq
    exact ⟨env, st, F, φ, S, r, Sat.bind hq fun a st1 F1 φ1 H1 e1 S1 h1 x rx => ⟨env, st1, F1, φ1, S1, r.mono e1, Sat.bind h1 fun b st2 F2 φ2 H2 e2 S2 h2 y ry => ⟨a, b, st2, F2, φ2, S2, rx.mono e2, ry, sat_cmp h2⟩⟩⟩
theorem ok_cmp2 (w : WF X C G XR E) {o o2 : CmpOp} {a b c : ME} {x y z : Expr} {pos : Pos} (hs : notSet y = true) (hs2 : notSet z = true) (ha : OkP X XR E x (ev G a)) (hb : OkP X XR E y (ev G b)) (hc : OkP X XR E z (ev G c)) :
    OkP X XR E (.Compare x [o, o2] [y, z] pos) (ev G (.cmp2 o o2 a b c)) := by
  have hu := w.un
  refine ⟨PE.imp (pe_chain (o_cmp (XR := XR) (E := E) hu o) (o_cmp (XR := XR) (E := E) hu o2) ha.pe hb.pe hc.pe (nomarkS hs2 o2)) fun σ H Q hq => ?_,
    PT.imp (pt_chain (o_cmp (XR := XR) (E := E) hu o) (o_cmp (XR := XR) (E := E) hu o2) ha.pe hb.pe hc.pe (nomarkS hs2 o2)) fun σ H Q hq => ?_, fun _ _ _ e => nomatch e⟩
  · obtain ⟨env, st, F, φ, S, r, hq⟩ := hq
    simp only [ev] at hq
    refine ⟨env, st, F, φ, S, r, Sat.bind hq fun a st1 F1 φ1 H1 e1 S1 h1 x rx => ⟨env, st1, F1, φ1, S1, r.mono e1, Sat.bind h1 fun b st2 F2 φ2 H2 e2 S2 h2 y ry => ⟨a, b, st2, F2, φ2, S2, rx.mono e2, ry, ?_⟩⟩⟩
    cases hm : cmpD o a b st2 with
    | bad => rw [hm] at h2; exact h2.elim
    | ex c st1 => rw [hm] at h2; exact h2
    | ok d st3 =>
      obtain ⟨k, rfl, rfl⟩ := cmpD_bool hm
      rw [hm] at h2
      simp only [R.bind_ok] at h2
      intro F3 φ3 H3 e3 S3 v rv
      refine ⟨k, rv.bl, ?_⟩
      cases k with
      | true => exact ⟨env, _, F3, φ3, S3, ((r.mono e1).mono e2).mono e3, Sat.bind (h2.ext e3) fun e st4 F4 φ4 H4 e4 S4 h4 z rz => ⟨b, e, st4, F4, φ4, S4, (ry.mono e3).mono e4, rz, h4⟩⟩
      | false => exact sat_val S3 rd_bl (h2.ext e3)
  · obtain ⟨env, st, F, φ, S, r, hq⟩ := hq
    simp only [ev, truR_bind] at hq
    refine ⟨env, st, F, φ, S, r, Sat.bind hq fun a st1 F1 φ1 H1 e1 S1 h1 x rx => ⟨env, st1, F1, φ1, S1, r.mono e1, Sat.bind h1 fun b st2 F2 φ2 H2 e2 S2 h2 y ry => ⟨a, b, st2, F2, φ2, S2, rx.mono e2, ry, ?_⟩⟩⟩
    cases hm : cmpD o a b st2 with
    | bad => rw [hm] at h2; exact h2.elim
    | ex c st1 => rw [hm] at h2; exact h2
    | ok d st3 =>
      obtain ⟨k, rfl, rfl⟩ := cmpD_bool hm
      rw [hm] at h2
      simp only [R.bind_ok] at h2
      intro F3 φ3 H3 e3 S3 v rv
      refine ⟨k, rv.bl, ?_⟩
      cases k with
      | true =>
        simp only [truR_bind] at h2
        exact ⟨env, _, F3, φ3, S3, ((r.mono e1).mono e2).mono e3, Sat.bind (h2.ext e3) fun e st4 F4 φ4 H4 e4 S4 h4 z rz => ⟨b, e, st4, F4, φ4, S4, (ry.mono e3).mono e4, rz, sat_cmp h4⟩⟩
      | false =>
        have h3 := (h2.ext e3).ok S3
        exact ⟨false, rfl, h3⟩

theorem truR_ite {c : Bool} {a b : R D} : truR (if c = true then a else b) = if c = true then truR a else truR b := by cases c <;> rfl
theorem ok_ife {c a b : ME} {t x y : Expr} {pos : Pos} (hc : OkP X XR E t (ev G c)) (ha : OkP X XR E x (ev G a)) (hb : OkP X XR E y (ev G b)) : OkP X XR E (.IfExp t x y pos) (ev G (.ife c a b)) := by
  refine ⟨PE.imp (pe_ifExp hc.pt ha.pe hb.pe) fun σ H Q hq => ?_, ⟨fun pins s σ H Q I hq => ?_⟩, fun _ _ _ e => nomatch e⟩
  · obtain ⟨env, st, F, φ, S, r, hq⟩ := hq
    simp only [ev] at hq
    refine ⟨env, st, F, φ, S, r, Sat.bind hq fun k st1 F1 φ1 H1 e1 S1 h1 => ?_⟩
    cases k with
    | true => exact ⟨env, st1, F1, φ1, S1, r.mono e1, h1⟩
    | false => exact ⟨env, st1, F1, φ1, S1, r.mono e1, h1⟩
  · obtain ⟨env, st, F, φ, S, r, hq⟩ := hq
    simp only [ev, truR_bind, truR_ite] at hq
    unfold PySem.isTrue
    refine wpAny_bind (thn (hc.pt.run pins s σ H (fun k H1 => if k = true then rT X.K XR E (fun env st => truR (ev G a env st)) σ H1 Q else rT X.K XR E (fun env st => truR (ev G b env st)) σ H1 Q) I ⟨env, st, F, φ, S, r, Sat.bind hq fun k st1 F1 φ1 H1 e1 S1 h1 => ?_⟩) fun k s1 ⟨H1, I1, q1⟩ => ?_)
    · cases k with
      | true => exact ⟨env, st1, F1, φ1, S1, r.mono e1, h1⟩
      | false => exact ⟨env, st1, F1, φ1, S1, r.mono e1, h1⟩
    · cases k with
      | true => exact ha.pt.run pins s1 σ H1 Q I1 q1
      | false => exact hb.pt.run pins s1 σ H1 Q I1 q1
/-- an argument list -/
def OkA (X : Cx) (XR : Exc → Value → Option Addr → Hp → Prop) (E : XK) (es : List Expr) (m : Env → Store → R (List D)) : Prop := PA X es (rA X.K XR E m)
theorem oka_nil : OkA X XR E [] (evs G .nil) := PA.imp pa_nil fun σ H Q hq => by
  obtain ⟨env, st, F, φ, S, r, hq⟩ := hq
  simp only [evs] at hq
  exact hq.ok S [] .nil
theorem oka_cons {e : ME} {r : MEs} {x : Expr} {xs : List Expr} (hn : notStar x = true) (h : OkP X XR E x (ev G e)) (hr : OkA X XR E xs (evs G r)) : OkA X XR E (x :: xs) (evs G (.cons e r)) := by
  refine PA.imp (pa_cons h.pe hr (star1 hn)) fun σ H Q hq => ?_
  obtain ⟨env, st, F, φ, S, r, hq⟩ := hq
  simp only [evs] at hq
  exact ⟨env, st, F, φ, S, r, Sat.bind hq fun d st1 F1 φ1 H1 e1 S1 h1 v rv => ⟨env, st1, F1, φ1, S1, r.mono e1, Sat.bind h1 fun ds st2 F2 φ2 H2 e2 S2 h2 vs rvs => h2.ok S2 _ (.cons (rv.mono e2) rvs)⟩⟩
theorem ok_tup {es : MEs} {xs : List Expr} {k : Nat} {pos : Pos} (h : OkA X XR E xs (evs G es)) : OkP X XR E (.Tuple xs k pos) (ev G (.tup es)) := by
  refine .plain (PE.imp (pe_tup h) fun σ H Q hq => ?_) (fun _ => rfl) (fun _ _ _ e => nomatch e)
  obtain ⟨env, st, F, φ, S, r, hq⟩ := hq
  simp only [ev] at hq
  refine ⟨env, st, F, φ, S, r, Sat.bind hq fun ds st1 F1 φ1 H1 e1 S1 h1 vs rvs => ?_⟩
  split at h1
  · rename_i hz
    split at h1
    · rename_i ys ey
      rw [pures_some ey] at rvs
      refine ⟨?_, fun p hp => sat_newT S1 hp rvs.dpAll h1⟩
      rw [rds_length rvs, ← pures_some ey]
      exact sz_ok hz
    · exact h1.elim
  · exact h1.elim
theorem ok_lst {c : Bool} {es : MEs} {xs : List Expr} {pos : Pos} (h : OkA X XR E xs (evs G es)) : OkP X XR E (.List xs pos) (ev G (.lst c es)) := by
  refine .plain (PE.imp (pe_lst h) fun σ H Q hq => ?_) (fun _ => rfl) (fun _ _ _ e => nomatch e)
  obtain ⟨env, st, F, φ, S, r, hq⟩ := hq
  simp only [ev] at hq
  refine ⟨env, st, F, φ, S, r, Sat.bind hq fun ds st1 F1 φ1 H1 e1 S1 h1 vs rvs => ?_⟩
  split at h1
  · rename_i hz
    exact ⟨by rw [rds_length rvs]; exact sz_ok hz, fun p hp => sat_mkL S1 hp rvs h1⟩
  · exact h1.elim
theorem plainIx {b : Expr} (h : notSlice b = true) : PlainIx b := by
  intro o i
  cases b <;> first | rfl | cases h
theorem ok_ix {a b : ME} {x y : Expr} {pos : Pos} (hn : notSlice y = true) (ha : OkP X XR E x (ev G a)) (hb : OkP X XR E y (ev G b)) : OkP X XR E (.Subscript x y pos) (ev G (.ix a b)) := by
  refine .plain (PE.imp (pe_ix (ix_D (XR := XR) (E := E)) ha.pe hb.pe (plainIx hn)) fun σ H Q hq => ?_) (fun _ => rfl) (fun _ _ _ e => nomatch e)
  obtain ⟨env, st, F, φ, S, r, hq⟩ := hq
  simp only [ev] at hq
  exact ⟨env, st, F, φ, S, r, Sat.bind hq fun a st1 F1 φ1 H1 e1 S1 h1 x rx => ⟨env, st1, F1, φ1, S1, r.mono e1, Sat.bind h1 fun b st2 F2 φ2 H2 e2 S2 h2 y ry => ⟨a, b, st2, F2, φ2, S2, rx.mono e2, ry, h2⟩⟩⟩
theorem ok_gix (w : WF X C G XR E) {kvs : List (Str × PyData)} {a : ME} {x : Str} {y : Expr} {p pos : Pos} (hn : notSlice y = true) (hg : C.isGl x = true) (hk : (match C.gds.lookup x with | some w => kvEq kvs w | none => false) = true) (ha : OkP X XR E y (ev G a)) : OkP X XR E (.Subscript (.Name x p) y pos) (ev G (.gix kvs a)) := by
  obtain ⟨h1, h2⟩ := gl_of w hg
  split at hk
  · rename_i d e
    cases kvEq_eq hk
    obtain ⟨q, hm, hd⟩ := w.gds x _ e
    refine .plain (PE.imp (pe_ix ix_kdict (pe_glob h2 hm (v := .ref q) rfl (okName_of h1).1) ha.pe (plainIx hn)) fun σ H Q hq => ?_) (fun _ => rfl) (fun _ _ _ e => nomatch e)
    obtain ⟨env, st, F, φ, S, r, hq⟩ := hq
    simp only [ev] at hq
    refine ⟨env, st, F, φ, S, r, Sat.bind hq fun a st1 F1 φ1 H1 e1 S1 h1 x rx => ?_⟩
    unfold gixD at h1
    split at h1
    · rename_i z
      split at h1
      · rename_i v ev
        obtain ⟨u, k1, k2⟩ := hd z v ev
        exact ⟨q, z, u, rfl, rx.str, k1, sat_val S1 (show RD X.K F1 φ1 u (.p v) from dp_mono (fun _ _ q => (by cases q)) k2) h1⟩
      · exact h1.elim
    · exact h1.elim
  · cases hk
def QO (Q : Option Int → Hp → Prop) : Hp → List Addr → Hp → Option Int → Prop := fun _ _ H' o => Q o H'
def rO' (K : PySem.W.Frag) (XR : Exc → Value → Option Addr → Hp → Prop) (E : XK) (m : Env → Store → R (Option Int)) : TO := fun σ H Q => ∃ env st F φ, SR K F φ st H ∧ ER K F φ env σ ∧ Sat K XR E (QO Q) F φ (m env st)
theorem PO.imp {e : Option Expr} {t t' : TO} (h : PO X e t) (i : ∀ σ H Q, t' σ H Q → t σ H Q) : PO X e t' := ⟨fun pins s σ H Q I hw => h.run pins s σ H Q I (i σ H Q hw)⟩
theorem oko_none : PO X none (rO' X.K XR E (evo G .none)) := PO.imp po_none fun σ H Q hq => by
  obtain ⟨env, st, F, φ, S, r, hq⟩ := hq
  simp only [evo] at hq
  exact hq.ok S
theorem oko_some {a : ME} {x : Expr} (ha : OkP X XR E x (ev G a)) : PO X (some x) (rO' X.K XR E (evo G (.some a))) := PO.imp (po_some ha.pe) fun σ H Q hq => by
  obtain ⟨env, st, F, φ, S, r, hq⟩ := hq
  simp only [evo] at hq
  refine ⟨env, st, F, φ, S, r, Sat.bind hq fun d st1 F1 φ1 H1 e1 S1 h1 v rv => ?_⟩
  split at h1
  · rename_i i
    exact ⟨i, rv.int, h1.ok S1⟩
  · exact h1.elim
theorem ok_sl {a : ME} {lo hi : MO} {x : Expr} {l h : Option Expr} {p2 pos : Pos} (ha : OkP X XR E x (ev G a)) (hl : PO X l (rO' X.K XR E (evo G lo))) (hh : PO X h (rO' X.K XR E (evo G hi))) : OkP X XR E (.Subscript x (.Slice l h none p2) pos) (ev G (.sl a lo hi)) := by
  refine .plain (PE.imp (pe_slice (sl_D (XR := XR) (E := E) (c := false)) ha.pe hl hh) fun σ H Q hq => ?_) (fun _ => rfl) (fun _ _ _ e => nomatch e)
  obtain ⟨env, st, F, φ, S, r, hq⟩ := hq
  simp only [ev] at hq
  exact ⟨env, st, F, φ, S, r, Sat.bind hq fun a st1 F1 φ1 H1 e1 S1 h1 x rx => ⟨env, st1, F1, φ1, S1, r.mono e1, Sat.bind h1 fun l st2 F2 φ2 H2 e2 S2 h2 => ⟨env, st2, F2, φ2, S2, (r.mono e1).mono e2, Sat.bind h2 fun h st3 F3 φ3 H3 e3 S3 h3 => ⟨a, st3, F3, φ3, S3, (rx.mono e2).mono e3, h3⟩⟩⟩⟩
theorem ok_callB1 {id : String} {op : D → Store → R D} {a : ME} {x : Str} {y : Expr} {p pos : Pos} (w : WF X C G XR E) (hc : CallR X (.builtin id) (r1 (rU X.K XR E op))) (hv : bootBuiltins x = some (.builtin id)) (hb : C.isBl x = true) (hn : notStar y = true) (ha : OkP X XR E y (ev G a)) :
    PE X (.Call (.Name x p) [y] [] pos) (rE X.K XR E fun env st => (ev G a env st).bind fun x st => op x st) := by
  obtain ⟨h1, h2, h3⟩ := bl_of w hb
  obtain ⟨d1, _, d3⟩ := okName_of h1
  refine PE.imp (pe_callB hc h2 h3 hv (pa_cons ha.pe pa_nil (star1 hn)) d3 d1 (star1 hn)) fun σ H Q hq => ?_
  obtain ⟨env, st, F, φ, S, r, hq⟩ := hq
  exact ⟨env, st, F, φ, S, r, Sat.bind hq fun a st1 F1 φ1 H1 e1 S1 h1 x rx => ⟨x, rfl, a, st1, F1, φ1, S1, rx, h1⟩⟩
theorem ok_callT1 {id : String} {op : D → Store → R D} {a : ME} {x : Str} {y : Expr} {p pos : Pos} (w : WF X C G XR E) (hc : CallR X (.type id) (r1 (rU X.K XR E op))) (hv : bootBuiltins x = some (.type id)) (hb : C.isBl x = true) (hn : notStar y = true) (ha : OkP X XR E y (ev G a)) :
    PE X (.Call (.Name x p) [y] [] pos) (rE X.K XR E fun env st => (ev G a env st).bind fun x st => op x st) := by
  obtain ⟨h1, h2, h3⟩ := bl_of w hb
  obtain ⟨d1, _, d3⟩ := okName_of h1
  refine PE.imp (pe_callTy hc h2 h3 hv (pa_cons ha.pe pa_nil (star1 hn)) d3 d1 (star1 hn)) fun σ H Q hq => ?_
  obtain ⟨env, st, F, φ, S, r, hq⟩ := hq
  exact ⟨env, st, F, φ, S, r, Sat.bind hq fun a st1 F1 φ1 H1 e1 S1 h1 x rx => ⟨x, rfl, a, st1, F1, φ1, S1, rx, h1⟩⟩
theorem boot_all' : bootBuiltins "all" = some (.builtin "all") := by decide +kernel
theorem boot_any' : bootBuiltins "any" = some (.builtin "any") := by decide +kernel
theorem boot_sum' : bootBuiltins "sum" = some (.builtin "sum") := by decide +kernel
theorem boot_max' : bootBuiltins "max" = some (.builtin "max") := by decide +kernel
theorem boot_min' : bootBuiltins "min" = some (.builtin "min") := by decide +kernel
theorem boot_sorted' : bootBuiltins "sorted" = some (.builtin "sorted") := by decide +kernel
theorem boot_isi' : bootBuiltins "isinstance" = some (.builtin "isinstance") := by decide +kernel
theorem boot_tuple' : bootBuiltins "tuple" = some (.type "tuple") := by decide +kernel
theorem boot_int' : bootBuiltins "int" = some (.type "int") := by decide +kernel
theorem boot_list' : bootBuiltins "list" = some (.type "list") := by decide +kernel
theorem ok_bi (w : WF X C G XR E) {f : Bi} {a : ME} {x : Str} {y : Expr} {p pos : Pos} (hx : x = bi1N f) (hb : C.isBl x = true) (hn : notStar y = true) (ha : OkP X XR E y (ev G a)) : OkP X XR E (.Call (.Name x p) [y] [] pos) (ev G (.bi f a)) := by
  refine .plain ?_ (fun _ => rfl) (fun _ _ _ e => nomatch e)
  subst hx
  have e : ev G (.bi f a) = fun env st => (ev G a env st).bind fun x st => bi1D f x st := by
    funext env st
    simp only [ev]
  rw [e]
  have hu := w.un
  have hc := w.calm
  cases f with
  | len => exact ok_callB1 w c_len PySem.boot_len hb hn ha
  | all => exact ok_callB1 w (c_all hc) boot_all' hb hn ha
  | any => exact ok_callB1 w (c_any hc) boot_any' hb hn ha
  | sorted c => exact ok_callB1 w (c_sorted hu) boot_sorted' hb hn ha
  | tuple => exact ok_callT1 w c_tuple boot_tuple' hb hn ha
  | list c => exact ok_callT1 w c_list boot_list' hb hn ha
  | max => exact ok_callB1 w (c_maxmin hc hu true) boot_max' hb hn ha
  | min => exact ok_callB1 w (c_maxmin hc hu false) boot_min' hb hn ha
  | sum => exact ok_callB1 w (c_sum hc) boot_sum' hb hn ha
  | int => exact ok_callT1 w c_int boot_int' hb hn ha
theorem ok_mx2 (w : WF X C G XR E) {m : Bool} {a b : ME} {x : Str} {y z : Expr} {p pos : Pos} (hx : x = if m then ("max" : Str) else "min") (hb : C.isBl x = true) (hn : notStar y = true) (hn2 : notStar z = true) (ha : OkP X XR E y (ev G a)) (hbb : OkP X XR E z (ev G b)) : OkP X XR E (.Call (.Name x p) [y, z] [] pos) (ev G (.mx2 m a b)) := by
  refine .plain ?_ (fun _ => rfl) (fun _ _ _ e => nomatch e)
  obtain ⟨h1, h2, h3⟩ := bl_of w hb
  obtain ⟨d1, _, d3⟩ := okName_of h1
  have hc := w.calm
  have key : ∀ id, CallR X (.builtin id) (r2 (rO X.K XR E (max2D m))) → bootBuiltins x = some (.builtin id) → PE X (.Call (.Name x p) [y, z] [] pos) (rE X.K XR E (ev G (.mx2 m a b))) := by
    intro id hcr hv
    refine PE.imp (pe_callB hcr h2 h3 hv (pa_cons ha.pe (pa_cons hbb.pe pa_nil (star1 hn2)) (star1 hn)) d3 d1 (star1 hn) (by rw [star1 hn2]; rfl)) fun σ H Q hq => ?_
    obtain ⟨env, st, F, φ, S, r, hq⟩ := hq
    simp only [ev] at hq
    exact ⟨env, st, F, φ, S, r, Sat.bind hq fun a st1 F1 φ1 H1 e1 S1 h1 x rx => ⟨env, st1, F1, φ1, S1, r.mono e1, Sat.bind h1 fun b st2 F2 φ2 H2 e2 S2 h2 y ry => ⟨x, y, rfl, a, b, st2, F2, φ2, S2, rx.mono e2, ry, h2⟩⟩⟩
  cases m with
  | true => exact key "max" (c_max2 hc) (by rw [hx]; exact boot_max')
  | false => exact key "min" (c_min2 hc) (by rw [hx]; exact boot_min')
theorem boot_isiT {T : String} (h : isiOkT T = true) : bootBuiltins (Str.ofString T) = some (.type T) := by
  unfold isiOkT at h
  simp only [Bool.or_eq_true, beq_iff_eq] at h
  rcases h with (((h | h) | h) | h) | h <;> subst h <;> decide +kernel
theorem ok_isi (w : WF X C G XR E) {T : String} {a : ME} {x t : Str} {y : Expr} {p p2 pos : Pos} (hx : x = ("isinstance" : Str)) (hb : C.isBl x = true) (ht : t = Str.ofString T) (hbt : C.isBl t = true) (hT : isiOkT T = true) (hn : notStar y = true) (ha : OkP X XR E y (ev G a)) :
    OkP X XR E (.Call (.Name x p) [y, .Name t p2] [] pos) (ev G (.isi T a)) := by
  refine .plain ?_ (fun _ => rfl) (fun _ _ _ e => nomatch e)
  obtain ⟨h1, h2, h3⟩ := bl_of w hb
  obtain ⟨d1, _, d3⟩ := okName_of h1
  obtain ⟨k1, k2, k3⟩ := bl_of w hbt
  obtain ⟨t1, _, t3⟩ := okName_of k1
  have hT2 : PE X (.Name t p2) (tC (.ty T)) := pe_bltn k2 k3 (by rw [ht]; exact boot_isiT hT) rfl t3 t1
  refine PE.imp (pe_callB (c_isi (XR := XR) (E := E) hT) h2 h3 (by rw [hx]; exact boot_isi') (pa_cons ha.pe (pa_cons hT2 pa_nil) (star1 hn)) d3 d1 (star1 hn)) fun σ H Q hq => ?_
  obtain ⟨env, st, F, φ, S, r, hq⟩ := hq
  simp only [ev] at hq
  exact ⟨env, st, F, φ, S, r, Sat.bind hq fun a st1 F1 φ1 H1 e1 S1 h1 x rx => ⟨x, rfl, a, st1, F1, φ1, S1, rx, h1⟩⟩
theorem ok_call (w : WF X C G XR E) {i : Nat} {f : Str} {es : MEs} {y : Expr} {ys : List Expr} {p pos : Pos} (hg : C.isGl f = true) (hf : C.fns[i]? = some f) (hc : chks C es (y :: ys) = true) (ha : OkA X XR E (y :: ys) (evs G es)) : OkP X XR E (.Call (.Name f p) (y :: ys) [] pos) (ev G (.call i es)) := by
  refine .plain ?_ (fun _ => rfl) (fun _ _ _ e => nomatch e)
  obtain ⟨h1, h2⟩ := gl_of w hg
  obtain ⟨d1, _, _⟩ := okName_of h1
  obtain ⟨k, fa, fd, ps, F, hr, hm, hk, hb⟩ := w.fns i f hf
  have hs : starEach (y :: ys) X.env = (false, eval y X.env) :: starEach ys X.env ∧ (backTo pos (starEach ys X.env)).any (·.1) = false := by
    cases es with
    | nil => simp [chks] at hc
    | cons e r =>
      simp only [chks, Bool.and_eq_true] at hc
      exact ⟨star1 hc.1.1, chks_plain hc.2⟩
  refine PE.imp (pe_call F hr h2 hm hk hb .nil w.px ha d1 hs.1 hs.2) fun σ H Q hq => ?_
  obtain ⟨env, st, F, φ, S, r, hq⟩ := hq
  simp only [ev] at hq
  refine ⟨env, st, F, φ, S, r, Sat.bind hq fun ds st1 F1 φ1 H1 e1 S1 h1 vs rvs => ?_⟩
  show spOf X.K XR (G i) (vs ++ []) H1 Q E
  rw [List.append_nil]
  exact ⟨ds, st1, F1, φ1, S1, rvs, h1⟩
end
end MP

set_option Elab.async false
set_option linter.all false
set_option autoImplicit false
set_option maxRecDepth 100000
set_option maxHeartbeats 2000000
/-! the meaning is right: targets, what is walked, comprehensions -/
namespace MP
open PySem PySem.Spec PyProof.Rows L2

/-! ### targets -/
section
variable {K : PySem.W.Frag} {F : Hp} {φ : List Addr} {env : Env} {σ : L2.St}
theorem ER.set {i : Nat} {d : D} {v : V} (r : ER K F φ env σ) (h : RD K F φ v d) : ER K F φ (env.set i (some d)) (σ.set i (some v)) := by
  refine ⟨by rw [List.length_set, List.length_set]; exact r.len, fun j e hj => ?_⟩
  by_cases hij : i = j
  · subst hij
    have hl : i < env.length := by
      have := (List.getElem?_eq_some_iff.mp hj).1
      rwa [List.length_set] at this
    rw [List.getElem?_set_self hl] at hj
    cases Option.some.inj (Option.some.inj hj)
    exact ⟨v, by rw [List.getElem?_set_self (by rw [← r.len]; exact hl)], h⟩
  · rw [List.getElem?_set_ne hij] at hj ⊢
    exact r.val j e hj
theorem ER.wipe (r : ER K F φ env σ) : ∀ vs : List Nat, ER K F φ (wipeE env vs) (L2.wipe σ vs)
  | [] => r
  | v :: vs => by
    have ih := ER.wipe r vs
    unfold wipeE L2.wipe
    refine ⟨by rw [List.length_set, List.length_set]; exact ih.len, fun j e hj => ?_⟩
    by_cases hij : v = j
    · subst hij
      have hl : v < (wipeE env vs).length := by
        have := (List.getElem?_eq_some_iff.mp hj).1
        rwa [List.length_set] at this
      rw [List.getElem?_set_self hl] at hj
      cases hj
    · rw [List.getElem?_set_ne hij] at hj ⊢
      exact ih.val j e hj
/-- the slots that a target may change -/
def OnlyAt (vs : List Nat) (σ σ' : L2.St) : Prop := σ'.length = σ.length ∧ ∀ j, j ∉ vs → σ'[j]? = σ[j]?
end
def gD (K : PySem.W.Frag) (tg : MT) : TG := fun v σ H Q => ∃ env F φ d, ER K F φ env σ ∧ Evl.Ex F H ∧ RD K F φ v d ∧ ∃ env', bindD tg d env = some env' ∧ ∀ σ', ER K F φ env' σ' → OnlyAt (tgVars tg) σ σ' → Q σ' H
def gDs (K : PySem.W.Frag) (tg : MTs) : TGs := fun vs σ H Q => ∃ env F φ ds, ER K F φ env σ ∧ Evl.Ex F H ∧ RDs K F φ vs ds ∧ ∃ env', bindDs tg ds env = some env' ∧ ∀ σ', ER K F φ env' σ' → OnlyAt (tgVarss tg) σ σ' → Q σ' H
theorem PG.imp {X : Cx} {e : Expr} {t t' : TG} (h : PG X e t) (i : ∀ v σ H Q, t' v σ H Q → t v σ H Q) : PG X e t' := ⟨fun pins s σ H v u Q I r hw => h.run pins s σ H v u Q I r (i v σ H Q hw)⟩
theorem PGs.imp {X : Cx} {e : List Expr} {t t' : TGs} (h : PGs X e t) (i : ∀ v σ H Q, t' v σ H Q → t v σ H Q) : PGs X e t' := ⟨fun pins s σ H v u Q I r hw => h.run pins s σ H v u Q I r (i v σ H Q hw)⟩
theorem dpAll_len {K : PySem.W.Frag} {F : Hp} : ∀ {vs : List V} {xs : List PyData}, DpAll K F vs xs → vs.length = xs.length
  | _, _, .nil => rfl
  | _, _, .cons _ t => by simp [dpAll_len t]
section
variable {X : Cx} {C : Ctx} {G : Sem1} {XR : Exc → Value → Option Addr → Hp → Prop} {E : XK}
theorem bindDs_len : ∀ {ts : MTs} {ds : List D} {env env' : Env} {es : List Expr} {en : PySem.Env}, bindDs ts ds env = some env' → chkTs C ts es = true → ds.length = es.length ∧ (assignEach es en).length = es.length ∧ (assignEach es en).findIdx? (·.1) = none
  | .nil, [], env, env', [], en, _, _ => ⟨rfl, rfl, rfl⟩
  | .cons t r, d :: ds, env, env', e :: es, en, h, hc => by
    simp only [bindDs] at h
    obtain ⟨env1, h1, h2⟩ := Option.bind_eq_some_iff.mp h
    simp only [chkTs, Bool.and_eq_true] at hc
    obtain ⟨q1, q2, q3⟩ := bindDs_len (en := en) h2 hc.2
    have hne : assignEach (e :: es) en = (false, assign e en) :: assignEach es en := by
      cases e <;> first | rfl | (cases t <;> simp [chkT] at hc)
    rw [hne]
    refine ⟨by simp [q1], by simp [q2], ?_⟩
    rw [List.findIdx?_cons, if_neg (by simp), q3]
    rfl
  | .nil, _ :: _, _, _, _, _, h, _ => by simp [bindDs] at h
  | .cons _ _, [], _, _, _, _, h, _ => by simp [bindDs] at h
  | .nil, [], _, _, _ :: _, _, _, h => by simp [chkTs] at h
  | .cons _ _, _ :: _, _, _, [], _, _, h => by simp [chkTs] at h
mutual
theorem ok_tg (w : WF X C G XR E) (hf : C.fnC = true ∨ C.fnC = false) : ∀ {t : MT} {py : Expr}, chkT C t py = true → PG X py (gD X.K t)
  | .nm i, .Name x pos, h => by
    simp only [chkT, Bool.and_eq_true, decide_eq_true_eq] at h
    obtain ⟨h1, h2⟩ := slot_of h.1
    have hl : Loc X.env.scope x ∧ (X.fn x = true ∨ X.env.scope.names.lookup x = some .local) := by
      rcases h.2 with e | ⟨e1, e2⟩
      · exact ⟨.inl (by rw [w.sc]; exact e), .inr (by rw [w.sc]; exact e)⟩
      · exact ⟨.inr (by rw [w.sc]; exact e2), .inl (w.fn e1 x)⟩
    refine PG.imp (pg_name (i := i) w.nd (by rw [w.N]; exact h2) hl.1 hl.2) fun v σ H Q hq => ?_
    obtain ⟨env, F, φ, d, r, _, rv, env', e, q⟩ := hq
    cases Option.some.inj (show some (env.set i (some d)) = some env' from e)
    refine q _ (r.set rv) ⟨by rw [List.length_set], fun j hj => ?_⟩
    rw [List.getElem?_set_ne]
    intro e; subst e; simp [tgVars] at hj
  | .tup ts, .Tuple es k pos, h => by
    have h : chkTs C ts es = true := h
    have hs := ok_tgs w hf h
    refine ⟨fun pins s σ H v u Q I r hq => ?_⟩
    obtain ⟨env, F, φ, d, r0, ex, rv, env', e, q⟩ := hq
    cases d with
    | c n => simp [bindD] at e
    | p y =>
      cases y with
      | tuple xs =>
        have e : bindDs ts (xs.map .p) env = some env' := e
        obtain ⟨l1, l2, l3⟩ := bindDs_len (en := X.env) e h
        rw [List.length_map] at l1
        cases rv with
        | tup hS hA =>
          have hlen := dpAll_len hA
          refine (pg_tup (n := es.length) w.calm hs l2 l3).run pins s σ H _ u Q I r ⟨_, _, rfl, Evl.ex_t ex hS, by rw [hlen, l1], env, F, φ, xs.map .p, r0, ex, dpAll_rds hA, env', e, q⟩
      | list xs =>
        have e : bindDs ts (xs.map .p) env = some env' := e
        obtain ⟨l1, l2, l3⟩ := bindDs_len (en := X.env) e h
        rw [List.length_map] at l1
        cases rv with
        | lst hS hA =>
          have hlen := dpAll_len hA
          refine (pg_unl (n := es.length) w.calm hs l2 l3).run pins s σ H _ u Q I r ⟨_, _, rfl, Evl.ex_l ex hS, by rw [hlen, l1], env, F, φ, xs.map .p, r0, ex, dpAll_rds hA, env', e, q⟩
      | _ => simp [bindD] at e
  | .nm _, .Tuple .., h => by simp [chkT] at h
  | .nm _, .BoolOp .., h => by simp [chkT] at h
  | .nm _, .NamedExpr .., h => by simp [chkT] at h
  | .nm _, .BinOp .., h => by simp [chkT] at h
  | .nm _, .UnaryOp .., h => by simp [chkT] at h
  | .nm _, .Lambda .., h => by simp [chkT] at h
  | .nm _, .IfExp .., h => by simp [chkT] at h
  | .nm _, .Dict .., h => by simp [chkT] at h
  | .nm _, .Set .., h => by simp [chkT] at h
  | .nm _, .ListComp .., h => by simp [chkT] at h
  | .nm _, .SetComp .., h => by simp [chkT] at h
  | .nm _, .DictComp .., h => by simp [chkT] at h
  | .nm _, .GeneratorExp .., h => by simp [chkT] at h
  | .nm _, .Await .., h => by simp [chkT] at h
  | .nm _, .Yield .., h => by simp [chkT] at h
  | .nm _, .YieldFrom .., h => by simp [chkT] at h
  | .nm _, .Compare .., h => by simp [chkT] at h
  | .nm _, .Call .., h => by simp [chkT] at h
  | .nm _, .FormattedValue .., h => by simp [chkT] at h
  | .nm _, .JoinedStr .., h => by simp [chkT] at h
  | .nm _, .Constant .., h => by simp [chkT] at h
  | .nm _, .Attribute .., h => by simp [chkT] at h
  | .nm _, .Subscript .., h => by simp [chkT] at h
  | .nm _, .Starred .., h => by simp [chkT] at h
  | .nm _, .List .., h => by simp [chkT] at h
  | .nm _, .Slice .., h => by simp [chkT] at h
  | .tup _, .Name .., h => by simp [chkT] at h
  | .tup _, .BoolOp .., h => by simp [chkT] at h
  | .tup _, .NamedExpr .., h => by simp [chkT] at h
  | .tup _, .BinOp .., h => by simp [chkT] at h
  | .tup _, .UnaryOp .., h => by simp [chkT] at h
  | .tup _, .Lambda .., h => by simp [chkT] at h
  | .tup _, .IfExp .., h => by simp [chkT] at h
  | .tup _, .Dict .., h => by simp [chkT] at h
  | .tup _, .Set .., h => by simp [chkT] at h
  | .tup _, .ListComp .., h => by simp [chkT] at h
  | .tup _, .SetComp .., h => by simp [chkT] at h
  | .tup _, .DictComp .., h => by simp [chkT] at h
  | .tup _, .GeneratorExp .., h => by simp [chkT] at h
  | .tup _, .Await .., h => by simp [chkT] at h
  | .tup _, .Yield .., h => by simp [chkT] at h
  | .tup _, .YieldFrom .., h => by simp [chkT] at h
  | .tup _, .Compare .., h => by simp [chkT] at h
  | .tup _, .Call .., h => by simp [chkT] at h
  | .tup _, .FormattedValue .., h => by simp [chkT] at h
  | .tup _, .JoinedStr .., h => by simp [chkT] at h
  | .tup _, .Constant .., h => by simp [chkT] at h
  | .tup _, .Attribute .., h => by simp [chkT] at h
  | .tup _, .Subscript .., h => by simp [chkT] at h
  | .tup _, .Starred .., h => by simp [chkT] at h
  | .tup _, .List .., h => by simp [chkT] at h
  | .tup _, .Slice .., h => by simp [chkT] at h
theorem ok_tgs (w : WF X C G XR E) (hf : C.fnC = true ∨ C.fnC = false) : ∀ {ts : MTs} {es : List Expr}, chkTs C ts es = true → PGs X es (gDs X.K ts)
  | .nil, [], h => by
    refine PGs.imp pgs_nil fun vs σ H Q hq => ?_
    obtain ⟨env, F, φ, ds, r, _, rv, env', e, q⟩ := hq
    cases ds with
    | nil =>
      cases rv
      cases Option.some.inj (show some env = some env' from e)
      exact ⟨rfl, q σ r ⟨rfl, fun _ _ => rfl⟩⟩
    | cons d ds => simp [bindDs] at e
  | .cons t r, x :: xs, h => by
    simp only [chkTs, Bool.and_eq_true] at h
    have h1 := ok_tg w hf h.1
    have h2 := ok_tgs w hf h.2
    have hne : (assignEach (x :: xs) X.env).map (·.2) = assign x X.env :: (assignEach xs X.env).map (·.2) := by
      have h3 := h.1
      cases x <;> first | rfl | (cases t <;> simp [chkT] at h3)
    refine PGs.imp (pgs_cons h1 h2 hne) fun vs σ H Q hq => ?_
    obtain ⟨env, F, φ, ds, r0, ex, rv, env', e, q⟩ := hq
    cases ds with
    | nil => simp [bindDs] at e
    | cons d ds =>
      cases rv with
      | cons rv rvs =>
        obtain ⟨env1, e1, e2⟩ := Option.bind_eq_some_iff.mp (show (bindD t d env).bind (fun env => bindDs r ds env) = some env' from e)
        refine ⟨_, _, rfl, env, F, φ, d, r0, ex, rv, env1, e1, fun σ1 r1 o1 => ⟨env1, F, φ, ds, r1, ex, rvs, env', e2, fun σ2 r2 o2 => q σ2 r2 ⟨o2.1.trans o1.1, fun j hj => ?_⟩⟩⟩
        simp only [tgVarss, List.mem_append, not_or] at hj
        rw [o2.2 j hj.2, o1.2 j hj.1]
  | .nil, _ :: _, h => by simp [chkTs] at h
  | .cons _ _, [], h => by simp [chkTs] at h
end
end
end MP

set_option Elab.async false
set_option linter.all false
set_option autoImplicit false
set_option maxRecDepth 100000
set_option maxHeartbeats 2000000
/-! the meaning is right: what is walked, comprehensions, the whole of expressions -/
namespace MP
open PySem PySem.Spec PyProof.Rows L2

def RItm (K : PySem.W.Frag) (F : Hp) (φ : List Addr) (x : V) : Itm → Prop
  | .one d => RD K F φ x d
  | .two a b => ∃ T y z, x = .ref T ∧ F T = some (.tup [y, z]) ∧ RD K F φ y a ∧ RD K F φ z b
theorem RItm.mono {K : PySem.W.Frag} {F F1 : Hp} {φ φ1 : List Addr} (e : Ext F φ F1 φ1) {x : V} : ∀ {it : Itm}, RItm K F φ x it → RItm K F1 φ1 x it
  | .one d, h => RD.mono e h
  | .two a b, ⟨T, y, z, h1, h2, h3, h4⟩ => ⟨T, y, z, h1, e.sub _ _ h2, h3.mono e, h4.mono e⟩
def gI (K : PySem.W.Frag) (tg : MT) : TG := fun v σ H Q => ∃ env F φ it, ER K F φ env σ ∧ Evl.Ex F H ∧ RItm K F φ v it ∧ ∃ env', bindI tg it env = some env' ∧ ∀ σ', ER K F φ env' σ' → OnlyAt (tgVars tg) σ σ' → Q σ' H
section
variable {X : Cx} {C : Ctx} {G : Sem1} {XR : Exc → Value → Option Addr → Hp → Prop} {E : XK}
theorem ok_tgI (w : WF X C G XR E) {t : MT} {py : Expr} (h : chkT C t py = true) : PG X py (gI X.K t) := by
  have hb : C.fnC = true ∨ C.fnC = false := by cases C.fnC <;> simp
  refine ⟨fun pins s σ H v u Q I r hq => ?_⟩
  obtain ⟨env, F, φ, it, r0, ex, ri, env', e, q⟩ := hq
  cases it with
  | one d => exact (ok_tg w hb h).run pins s σ H v u Q I r ⟨env, F, φ, d, r0, ex, ri, env', e, q⟩
  | two a b =>
    cases t with
    | nm i => cases e
    | tup ts =>
      cases py with
      | Tuple es k pos =>
        have h : chkTs C ts es = true := h
        have e : bindDs ts [a, b] env = some env' := e
        obtain ⟨l1, l2, l3⟩ := bindDs_len (en := X.env) e h
        obtain ⟨T, y, z, rfl, hT, ra, rb⟩ := ri
        exact (pg_tup (n := es.length) w.calm (ok_tgs w hb h) l2 l3).run pins s σ H _ u Q I r ⟨T, [y, z], rfl, Evl.st_of (ex T _ hT), l1, env, F, φ, [a, b], r0, ex, .cons ra (.cons rb .nil), env', e, q⟩
      | _ => simp [chkT] at h

/-! ### what is walked -/
/-- J walks the items while gd stands -/
def WalkOk (K : PySem.W.Frag) (J : It) (its : List Itm) (gd : Store → Prop) (F : Hp) (φ : List Addr) : Prop :=
  ∃ (Gd : Hp → Prop) (Y : Nat → Hp → V → Hp → Prop), Walk J its.length Gd Y ∧ (∀ F2 φ2 st2 H2, Ext F φ F2 φ2 → SR K F2 φ2 st2 H2 → gd st2 → Gd H2) ∧
    ∀ F2 φ2 st2 H2 i x H3, Ext F φ F2 φ2 → SR K F2 φ2 st2 H2 → gd st2 → i < its.length → Y i H2 x H3 → ∃ F3, Ext F2 φ2 F3 φ2 ∧ SR K F3 φ2 st2 H3 ∧ ∃ it, its[i]? = some it ∧ RItm K F3 φ2 x it
theorem WalkOk.ext {K : PySem.W.Frag} {J : It} {its : List Itm} {gd : Store → Prop} {F F1 : Hp} {φ φ1 : List Addr} (h : WalkOk K J its gd F φ) (e : Ext F φ F1 φ1) : WalkOk K J its gd F1 φ1 := by
  obtain ⟨Gd, Y, h1, h2, h3⟩ := h
  exact ⟨Gd, Y, h1, fun F2 φ2 st2 H2 x S g => h2 F2 φ2 st2 H2 (e.trans x) S g, fun F2 φ2 st2 H2 i x H3 y S g hi z => h3 F2 φ2 st2 H2 i x H3 (e.trans y) S g hi z⟩
def QI (K : PySem.W.Frag) (Rk : It → Hp → Prop) : Hp → List Addr → Hp → (List Itm × (Store → Prop)) → Prop := fun F' φ' H' p => ∀ J, WalkOk K J p.1 p.2 F' φ' → Rk J H'
def rI (K : PySem.W.Frag) (XR : Exc → Value → Option Addr → Hp → Prop) (E : XK) (m : Env → Store → R (List Itm × (Store → Prop))) : TI := fun σ H Rk => ∃ env st F φ, SR K F φ st H ∧ ER K F φ env σ ∧ Sat K XR E (QI K Rk) F φ (m env st)
theorem PI.imp {tg l : Expr} {t t' : TI} (h : PI X tg l t) (i : ∀ σ H Q, t' σ H Q → t σ H Q) : PI X tg l t' := ⟨fun pins s σ H Q I hw => h.run pins s σ H Q I (i σ H Q hw)⟩
def iSeq (K : PySem.W.Frag) (tl : TE) : TI := fun σ H R => tl σ H fun x H1 => (∃ a, x = .ref a ∧ (∃ xs, SqL K H1 a xs) ∧ R (Itl K a) H1) ∨ (∃ a, x = .ref a ∧ (∃ xs, SqT K H1 a xs) ∧ R (Itt K a) H1) ∨ ∃ z, x = .str z ∧ R (Its z) H1
theorem pi_seq {tg l : Expr} {tl : TE} (hl : PE X l tl) : PI X tg l (iSeq X.K tl) := by
  refine ⟨fun pins s σ H R I h => ?_⟩
  refine thn (hl.run pins s σ H _ I h) fun v s1 ⟨x, H1, I1, r1, q1⟩ => ?_
  rcases q1 with ⟨a, e, ⟨xs, hq⟩, q⟩ | ⟨a, e, ⟨xs, hq⟩, q⟩ | ⟨z, e, q⟩
  · subst e
    cases r1
    obtain ⟨its, rv, p, hz⟩ := I1.list hq
    refine wpAny_pyIter_list p.isList ?_
    refine ⟨s1.heap.objs.size, [s1.heap.objs.size], _, _, H1, rfl, I1.kept (t' := s1.toks) fun b o e => Heap.get?_push_of_some _ e, turn_list a _, ⟨_, Heap.get?_push_size _ rfl, rfl, rfl⟩, fun b hb => ?_, q⟩
    have e : b = s1.heap.objs.size := by simpa using hb
    subst e
    exact I1.fpOk (Nat.le_refl _) (I1.hok.fresh (Nat.le_refl _))
  · subst e
    cases r1
    obtain ⟨its, rv, p, hz⟩ := I1.tuple hq
    refine wpAny_pyIter_tuple (show s1.heap.IsTuple a its.toArray from p) ?_
    refine ⟨s1.heap.objs.size, [s1.heap.objs.size], _, _, H1, rfl, I1.kept (t' := s1.toks) fun b o e => Heap.get?_push_of_some _ e, turn_tuple a _, ⟨_, Heap.get?_push_size _ rfl, rfl, rfl⟩, fun b hb => ?_, q⟩
    have e : b = s1.heap.objs.size := by simpa using hb
    subst e
    exact I1.fpOk (Nat.le_refl _) (I1.hok.fresh (Nat.le_refl _))
  · subst e
    obtain ⟨t, rfl⟩ := r1
    cases ha : z.cps.all (· < 128)
    · exact wpAny_pyIter_wide ha (pi_one (tk := s1.toks) I1 _ (turn_str _ z t "str_iterator" (.inr rfl)) ⟨_, Heap.get?_push_size _ rfl, rfl, rfl⟩ q)
    · exact wpAny_pyIter_ascii ha (pi_one (tk := s1.toks) I1 _ (turn_str _ z t "str_ascii_iterator" (.inl rfl)) ⟨_, Heap.get?_push_size _ rfl, rfl, rfl⟩ q)
theorem walkL {K : PySem.W.Frag} {F : Hp} {φ : List Addr} {a : Addr} {d : D} {ds : List D} {gd : Store → Prop} (r : RD K F φ (.ref a) d) (hg : ∀ st, gd st → items d st = some ds) : WalkOk K (Itl K a) (ds.map .one) gd F φ := by
  have at_ : ∀ F2 φ2 st2 H2, Ext F φ F2 φ2 → SR K F2 φ2 st2 H2 → gd st2 → ∃ vs, SqL K H2 a vs ∧ RDs K F2 φ2 vs ds := fun F2 φ2 st2 H2 x S g => by
    obtain ⟨b, vs, e, h1, h2⟩ := items_ok S (r.mono x) (hg st2 g)
    cases e
    exact ⟨vs, h1, h2⟩
  refine ⟨fun H => ∃ vs, SqL K H a vs ∧ vs.length = ds.length, fun i H x H' => H' = H ∧ ∀ xs, SqL K H a xs → xs[i]? = some x, ⟨fun i H hi q => ?_, fun H q => ?_, fun i H x H' hi q y => y⟩, fun F2 φ2 st2 H2 x S g => ?_, fun F2 φ2 st2 H2 i x H3 e S g hi y => ?_⟩
  · obtain ⟨vs, h1, h2⟩ := q
    rw [List.length_map, ← h2] at hi
    exact ⟨vs, vs[i], h1, by simp [hi]⟩
  · obtain ⟨vs, h1, h2⟩ := q
    exact ⟨vs, h1, by rw [List.length_map, h2]; exact Nat.le_refl _⟩
  · obtain ⟨vs, h1, h2⟩ := at_ F2 φ2 st2 H2 x S g
    exact ⟨vs, h1, rds_length h2⟩
  · obtain ⟨rfl, y⟩ := y
    obtain ⟨vs, h1, h2⟩ := at_ F2 φ2 st2 _ e S g
    obtain ⟨d', h3, h4⟩ := rds_get' h2 (y vs h1)
    exact ⟨F2, Ext.refl, S, .one d', by rw [List.getElem?_map, h3]; rfl, h4⟩
theorem walkT {K : PySem.W.Frag} {F : Hp} {φ : List Addr} {a : Addr} {xs : List PyData} {gd : Store → Prop} (r : RD K F φ (.ref a) (.p (.tuple xs))) : WalkOk K (Itt K a) (xs.map fun x => .one (.p x)) gd F φ := by
  cases r with
  | tup hS hA =>
    rename_i vs
    have hl := dpAll_len hA
    refine ⟨fun H => SqT K H a vs, YAt vs, ?_, fun F2 φ2 st2 H2 x S g => Evl.ex_t S.sub (Evl.ex_t x.sub hS), fun F2 φ2 st2 H2 i x H3 e S g hi y => ?_⟩
    · rw [List.length_map, ← hl]; exact walk_tup
    · obtain ⟨rfl, y⟩ := y
      obtain ⟨d', h3, h4⟩ := rds_get' (dpAll_rds (φ := φ2) (dpAll_mono e.sub hA)) y
      rw [List.getElem?_map] at h3
      obtain ⟨x', h5, rfl⟩ := Option.map_eq_some_iff.mp h3
      exact ⟨F2, Ext.refl, S, .one (.p x'), by rw [List.getElem?_map, h5]; rfl, h4⟩
theorem walkS {K : PySem.W.Frag} {F : Hp} {φ : List Addr} {z : Str} {gd : Store → Prop} : WalkOk K (Its z) (z.cps.toList.map fun c => .one (.p (.str ⟨#[c]⟩))) gd F φ := by
  refine ⟨fun _ => True, fun i H v H' => H' = H ∧ ∃ c, z.cps[i]? = some c ∧ v = .str ⟨#[c]⟩, ?_, fun _ _ _ _ _ _ _ => trivial, fun F2 φ2 st2 H2 i x H3 e S g hi y => ?_⟩
  · rw [List.length_map, Array.length_toList]; exact walk_str
  · obtain ⟨rfl, c, h1, rfl⟩ := y
    exact ⟨F2, Ext.refl, S, .one (.p (.str ⟨#[c]⟩)), by rw [List.getElem?_map, Array.getElem?_toList, h1]; rfl, rd_str (φ := φ2)⟩
theorem walkR {K : PySem.W.Frag} {F : Hp} {φ : List Addr} {lo : Int} {n : Nat} {gd : Store → Prop} : WalkOk K (Itr lo n) ((List.range n).map fun (i : Nat) => .one (.p (.int (lo + (i : Int))))) gd F φ := by
  refine ⟨fun _ => True, YFn fun i => .int (lo + i), ?_, fun _ _ _ _ _ _ _ => trivial, fun F2 φ2 st2 H2 i x H3 e S g hi y => ?_⟩
  · rw [List.length_map, List.length_range]; exact walk_range
  · obtain ⟨rfl, rfl⟩ := y
    rw [List.length_map, List.length_range] at hi
    exact ⟨F2, Ext.refl, S, .one (.p (.int (lo + (i : Int)))), by rw [List.getElem?_map, List.getElem?_range hi]; rfl, rd_int (φ := φ2)⟩
theorem ok_seq {tg l : Expr} {a : ME} (h : OkP X XR E l (ev G a)) : PI X tg l (rI X.K XR E (evi G (.seq a))) := by
  refine PI.imp (pi_seq h.pe) fun σ H Rk hq => ?_
  obtain ⟨env, st, F, φ, S, r, hq⟩ := hq
  simp only [evi] at hq
  refine ⟨env, st, F, φ, S, r, Sat.bind hq fun d st1 F1 φ1 H1 e1 S1 h1 v rv => ?_⟩
  unfold seqI at h1
  split at h1
  · rename_i xs
    have rv' := rv
    cases rv with
    | lst hS hA =>
      refine .inl ⟨_, rfl, ⟨_, Evl.ex_l S1.sub hS⟩, h1.ok S1 _ ?_⟩
      have := walkL (ds := xs.map D.p) (gd := fun _ => True) rv' (fun _ _ => rfl)
      rwa [List.map_map] at this
  · rename_i xs
    have rv' := rv
    cases rv with
    | tup hS hA => exact .inr (.inl ⟨_, rfl, ⟨_, Evl.ex_t S1.sub hS⟩, h1.ok S1 _ (walkT rv')⟩)
  · exact .inr (.inr ⟨_, rv.str, h1.ok S1 _ walkS⟩)
  · rename_i n
    split at h1
    · rename_i ds e
      have rv' := rv
      obtain ⟨b, vs, rfl, hS, _⟩ := items_ok S1 rv (show items (.c n) st1 = some ds from e)
      exact .inl ⟨b, rfl, ⟨vs, hS⟩, h1.ok S1 _ (walkL rv' (fun st' g => g))⟩
    · exact h1.elim
  · exact h1.elim
theorem ok_rng1 (w : WF X C G XR E) {tg : Expr} {a : ME} {f : Str} {x : Expr} {p pos : Pos} (hf : f = ("range" : Str)) (hb : C.isBl f = true) (hn : notStar x = true) (h : OkP X XR E x (ev G a)) : PI X tg (.Call (.Name f p) [x] [] pos) (rI X.K XR E (evi G (.rng1 a))) := by
  subst hf
  obtain ⟨h1, h2, h3⟩ := bl_of w hb
  refine PI.imp (pi_range1 h2 h3 (pa_cons h.pe pa_nil (star1 hn)) (star1 hn)) fun σ H Rk hq => ?_
  obtain ⟨env, st, F, φ, S, r, hq⟩ := hq
  simp only [evi] at hq
  refine ⟨env, st, F, φ, S, r, Sat.bind hq fun d st1 F1 φ1 H1 e1 S1 h1 v rv => ?_⟩
  split at h1
  · rename_i i
    unfold rngI at h1
    split at h1
    · rename_i hz
      have h4 := h1.ok S1 (Itr 0 i.toNat)
      simp only [Int.sub_zero] at h4
      exact ⟨i, by rw [rv.int], hz.2.2.1, hz.2.2.2, h4 walkR⟩
    · exact h1.elim
  · exact h1.elim
theorem ok_rng2 (w : WF X C G XR E) {tg : Expr} {a b : ME} {f : Str} {x y : Expr} {p pos : Pos} (hf : f = ("range" : Str)) (hb : C.isBl f = true) (hn : notStar x = true) (hn2 : notStar y = true) (h : OkP X XR E x (ev G a)) (hh : OkP X XR E y (ev G b)) : PI X tg (.Call (.Name f p) [x, y] [] pos) (rI X.K XR E (evi G (.rng2 a b))) := by
  subst hf
  obtain ⟨h1, h2, h3⟩ := bl_of w hb
  refine PI.imp (pi_range2 h2 h3 (pa_cons h.pe (pa_cons hh.pe pa_nil (star1 hn2)) (star1 hn)) (by rw [star1 hn, star1 hn2]; rfl) (star1 hn2)) fun σ H Rk hq => ?_
  obtain ⟨env, st, F, φ, S, r, hq⟩ := hq
  simp only [evi] at hq
  refine ⟨env, st, F, φ, S, r, Sat.bind hq fun d st1 F1 φ1 H1 e1 S1 h1 v rv => ⟨env, st1, F1, φ1, S1, r.mono e1, Sat.bind h1 fun d2 st2 F2 φ2 H2 e2 S2 h2 v2 rv2 => ?_⟩⟩
  split at h2
  · rename_i i j
    unfold rngI at h2
    split at h2
    · rename_i hz
      exact ⟨i, j, by rw [rv.int, rv2.int], hz, h2.ok S2 _ walkR⟩
    · exact h2.elim
  · exact h2.elim
theorem tup_of {t : Expr} (h : isTup t = true) : ∃ es k p, t = .Tuple es k p := by
  cases t <;> first | exact ⟨_, _, _, rfl⟩ | cases h
theorem ok_enum (w : WF X C G XR E) {tg : Expr} {a : ME} {f : Str} {x : Expr} {p pos : Pos} (hf : f = ("enumerate" : Str)) (hb : C.isBl f = true) (ht : isTup tg = true) (hn : notStar x = true) (h : OkP X XR E x (ev G a)) : PI X tg (.Call (.Name f p) [x] [] pos) (rI X.K XR E (evi G (.enum a))) := by
  subst hf
  obtain ⟨es, k, tp, rfl⟩ := tup_of ht
  obtain ⟨h1, h2, h3⟩ := bl_of w hb
  refine PI.imp (pi_enum h2 h3 (pa_cons h.pe pa_nil (star1 hn)) (star1 hn)) fun σ H Rk hq => ?_
  obtain ⟨env, st, F, φ, S, r, hq⟩ := hq
  simp only [evi] at hq
  refine ⟨env, st, F, φ, S, r, Sat.bind hq fun d st1 F1 φ1 H1 e1 S1 h1 v rv => ?_⟩
  unfold enumI at h1
  split at h1
  · rename_i ds e
    obtain ⟨a, vs, rfl, hS, _⟩ := items_ok S1 rv e
    refine ⟨a, vs, rfl, hS, h1.ok S1 _ ?_⟩
    have at_ : ∀ F2 φ2 st2 H2, Ext F1 φ1 F2 φ2 → SR X.K F2 φ2 st2 H2 → gdOf d ds st2 → ∃ vs, SqL X.K H2 a vs ∧ RDs X.K F2 φ2 vs ds := fun F2 φ2 st2 H2 x S g => by
      obtain ⟨b, vs, e, h1, h2⟩ := items_ok S (rv.mono x) g
      cases e
      exact ⟨vs, h1, h2⟩
    refine ⟨fun H => ∃ vs, SqL X.K H a vs ∧ vs.length = ds.length, fun i H v H' => ∃ T x, v = .ref T ∧ H T = none ∧ H' = upd H T (.tup [.int (i : Nat), x]) ∧ ∀ xs, SqL X.K H a xs → xs[i]? = some x, ⟨fun i H hi q => ?_, fun H q => ?_, fun i H x H' hi q y => y⟩, fun F2 φ2 st2 H2 x S g => ?_, fun F2 φ2 st2 H2 i x H3 e S g hi y => ?_⟩
    · obtain ⟨vs, h1, h2⟩ := q
      rw [List.length_mapIdx, ← h2] at hi
      exact ⟨vs, vs[i], h1, by simp [hi]⟩
    · obtain ⟨vs, h1, h2⟩ := q
      exact ⟨vs, h1, by rw [List.length_mapIdx, h2]; exact Nat.le_refl _⟩
    · obtain ⟨vs, h1, h2⟩ := at_ F2 φ2 st2 H2 x S g
      exact ⟨vs, h1, rds_length h2⟩
    · obtain ⟨T, x', rfl, hT, rfl, y⟩ := y
      obtain ⟨vs, h1, h2⟩ := at_ F2 φ2 st2 _ e S g
      obtain ⟨d', h3, h4⟩ := rds_get' h2 (y vs h1)
      obtain ⟨S3, e3⟩ := S.frz (o := .tup [.int (i : Nat), x']) hT
      exact ⟨_, e3, S3, .two (.p (.int (i : Nat))) d', by rw [List.getElem?_mapIdx, h3]; rfl, T, _, _, rfl, upd_same, rd_int, h4.mono e3⟩
  · exact h1.elim
theorem ok_zip (w : WF X C G XR E) {tg : Expr} {a b : ME} {f : Str} {x y : Expr} {p pos : Pos} (hf : f = ("zip" : Str)) (hb : C.isBl f = true) (ht : isTup tg = true) (hn : notStar x = true) (hn2 : notStar y = true) (h : OkP X XR E x (ev G a)) (hh : OkP X XR E y (ev G b)) :
    PI X tg (.Call (.Name f p) [x, y] [] pos) (rI X.K XR E (evi G (.zip a b))) := by
  subst hf
  obtain ⟨es, k, tp, rfl⟩ := tup_of ht
  obtain ⟨h1, h2, h3⟩ := bl_of w hb
  refine PI.imp (RZ.pi_zipA h2 h3 (pa_cons h.pe (pa_cons hh.pe pa_nil (star1 hn2)) (star1 hn)) (star1 hn) (by rw [star1 hn2]; rfl)) fun σ H Rk hq => ?_
  obtain ⟨env, st, F, φ, S, r, hq⟩ := hq
  simp only [evi] at hq
  refine ⟨env, st, F, φ, S, r, Sat.bind hq fun d st1 F1 φ1 H1 e1 S1 h1 v rv => ⟨env, st1, F1, φ1, S1, r.mono e1, Sat.bind h1 fun d2 st2 F2 φ2 H2 e2 S2 h2 v2 rv2 => ?_⟩⟩
  have rv := rv.mono e2
  unfold zipI at h2
  split at h2
  · rename_i xs ys
    have q1 := rv
    have q2 := rv2
    cases q1 with
    | tup hS hA =>
      cases q2 with
      | tup hS2 hA2 =>
        rename_i a vs b ws
        have l1 := dpAll_len hA
        have l2 := dpAll_len hA2
        refine ⟨a, b, vs, ws, rfl, .inr ⟨Evl.ex_t S2.sub hS, Evl.ex_t S2.sub hS2, h2.ok S2 _ ?_⟩⟩
        refine ⟨fun H => SqT X.K H a vs ∧ SqT X.K H b ws, fun i H v H' => ∃ T x y, v = .ref T ∧ H T = none ∧ H' = upd H T (.tup [x, y]) ∧ vs[i]? = some x ∧ ws[i]? = some y, ⟨fun i H hi q => ?_, fun H q => ?_, fun i H x H' hi q y => ?_⟩, fun F3 φ3 st3 H3 x S g => ⟨Evl.ex_t S.sub (Evl.ex_t x.sub hS), Evl.ex_t S.sub (Evl.ex_t x.sub hS2)⟩, fun F3 φ3 st3 H3 i x H4 e S g hi y => ?_⟩
        · rw [List.length_map, List.length_zip] at hi
          have k1 : i < vs.length := by omega
          have k2 : i < ws.length := by omega
          exact ⟨vs, ws, vs[i], ws[i], q.1, q.2, by simp [k1], by simp [k2]⟩
        · refine ⟨vs, ws, q.1, q.2, ?_⟩
          rw [List.length_map, List.length_zip]
          omega
        · obtain ⟨T, x, z, h1, h2, h3, h4, h5⟩ := y
          exact ⟨T, x, z, h1, h2, h3, h4 vs q.1, h5 ws q.2⟩
        · obtain ⟨T, x', y', rfl, hT, rfl, k1, k2⟩ := y
          obtain ⟨c1, c2, c3⟩ := rds_get' (dpAll_rds (φ := φ3) (dpAll_mono e.sub hA)) k1
          obtain ⟨f1, f2, f3⟩ := rds_get' (dpAll_rds (φ := φ3) (dpAll_mono e.sub hA2)) k2
          rw [List.getElem?_map] at c2 f2
          obtain ⟨c4, c5, rfl⟩ := Option.map_eq_some_iff.mp c2
          obtain ⟨f4, f5, rfl⟩ := Option.map_eq_some_iff.mp f2
          obtain ⟨S4, e4⟩ := S.frz (o := .tup [x', y']) hT
          refine ⟨_, e4, S4, .two (.p c4) (.p f4), ?_, T, _, _, rfl, upd_same, c3.mono e4, f3.mono e4⟩
          rw [List.getElem?_map, show (List.zip _ _)[i]? = some (c4, f4) from List.getElem?_zip_eq_some.mpr ⟨c5, f5⟩]
          rfl
  · split at h2
    · rename_i xs ys ex ey
      obtain ⟨a, vs, rfl, hS, k1⟩ := items_ok S2 rv ex
      obtain ⟨b, ws, rfl, hS2, k2⟩ := items_ok S2 rv2 ey
      refine ⟨a, b, vs, ws, rfl, .inl ⟨hS, hS2, h2.ok S2 _ ?_⟩⟩
      have at1 : ∀ F3 φ3 st3 H3, Ext F2 φ2 F3 φ3 → SR X.K F3 φ3 st3 H3 → gdOf d xs st3 → ∃ vs, SqL X.K H3 a vs ∧ RDs X.K F3 φ3 vs xs := fun F2 φ2 st2 H2 x S g => by
        obtain ⟨b, vs, e, h1, h2⟩ := items_ok S (rv.mono x) g
        cases e
        exact ⟨vs, h1, h2⟩
      have at2 : ∀ F3 φ3 st3 H3, Ext F2 φ2 F3 φ3 → SR X.K F3 φ3 st3 H3 → gdOf d2 ys st3 → ∃ vs, SqL X.K H3 b vs ∧ RDs X.K F3 φ3 vs ys := fun F2 φ2 st2 H2 x S g => by
        obtain ⟨b, vs, e, h1, h2⟩ := items_ok S (rv2.mono x) g
        cases e
        exact ⟨vs, h1, h2⟩
      refine ⟨fun H => (∃ vs, SqL X.K H a vs ∧ vs.length = xs.length) ∧ ∃ ws, SqL X.K H b ws ∧ ws.length = ys.length,
        fun i H v H' => ∃ T x y, v = .ref T ∧ H T = none ∧ H' = upd H T (.tup [x, y]) ∧ (∀ xs, SqL X.K H a xs → xs[i]? = some x) ∧ ∀ ys, SqL X.K H b ys → ys[i]? = some y, ⟨fun i H hi q => ?_, fun H q => ?_, fun i H x H' hi q y => y⟩, fun F3 φ3 st3 H3 x S g => ?_, fun F3 φ3 st3 H3 i x H4 e S g hi y => ?_⟩
      · obtain ⟨⟨vs, q1, q2⟩, ws, q3, q4⟩ := q
        rw [List.length_map, List.length_zip] at hi
        have k1 : i < vs.length := by omega
        have k2 : i < ws.length := by omega
        exact ⟨vs, ws, vs[i], ws[i], q1, q3, by simp [k1], by simp [k2]⟩
      · obtain ⟨⟨vs, q1, q2⟩, ws, q3, q4⟩ := q
        refine ⟨vs, ws, q1, q3, ?_⟩
        rw [List.length_map, List.length_zip]
        omega
      · obtain ⟨vs, q1, q2⟩ := at1 F3 φ3 st3 H3 x S g.1
        obtain ⟨ws, q3, q4⟩ := at2 F3 φ3 st3 H3 x S g.2
        exact ⟨⟨vs, q1, rds_length q2⟩, ws, q3, rds_length q4⟩
      · obtain ⟨T, x', y', rfl, hT, rfl, y1, y2⟩ := y
        obtain ⟨vs, q1, q2⟩ := at1 F3 φ3 st3 H3 e S g.1
        obtain ⟨ws, q3, q4⟩ := at2 F3 φ3 st3 H3 e S g.2
        obtain ⟨c1, c2, c3⟩ := rds_get' q2 (y1 vs q1)
        obtain ⟨f1, f2, f3⟩ := rds_get' q4 (y2 ws q3)
        obtain ⟨S4, e4⟩ := S.frz (o := .tup [x', y']) hT
        refine ⟨_, e4, S4, .two c1 f1, ?_, T, _, _, rfl, upd_same, c3.mono e4, f3.mono e4⟩
        rw [List.getElem?_map, show (List.zip _ _)[i]? = some (c1, f1) from List.getElem?_zip_eq_some.mpr ⟨c2, f2⟩]
        rfl
    · exact h2.elim
end
end MP

set_option Elab.async false
set_option linter.all false
set_option autoImplicit false
set_option maxRecDepth 100000
set_option maxHeartbeats 2000000
/-! the meaning is right: comprehensions, the whole of expressions -/
namespace MP
open PySem PySem.Spec PyProof.Rows L2

theorem wipe_get {σ : L2.St} {j : Nat} : ∀ {vs : List Nat}, (L2.wipe σ vs)[j]? = if j ∈ vs ∧ j < σ.length then some none else σ[j]?
  | [] => by simp [L2.wipe]
  | v :: vs => by
    unfold L2.wipe
    by_cases hv : v = j
    · subst hv
      by_cases hl : v < σ.length
      · rw [List.getElem?_set_self (by rw [wipe_length]; exact hl), if_pos ⟨List.mem_cons_self, hl⟩]
      · rw [List.getElem?_eq_none (by rw [List.length_set, wipe_length]; omega), if_neg (fun z => hl z.2), List.getElem?_eq_none (by omega)]
    · rw [List.getElem?_set_ne hv, wipe_get]
      by_cases hj : j ∈ vs
      · simp [hj]
      · have : ¬ j = v := fun e => hv e.symm
        simp [hj, this]
/-- the block's own slots changed alone -/
theorem wipe_only {σ σ' : L2.St} {vs ts : List Nat} (h : OnlyAt ts (L2.wipe σ vs) σ') (hs : ∀ j ∈ ts, j ∈ vs) : L2.wipe σ' vs = L2.wipe σ vs := by
  apply List.ext_getElem?
  intro j
  have hl : σ'.length = σ.length := by rw [h.1, wipe_length]
  rw [wipe_get, wipe_get, hl]
  by_cases hj : j ∈ vs
  · by_cases hz : j < σ.length
    · rw [if_pos ⟨hj, hz⟩, if_pos ⟨hj, hz⟩]
    · rw [if_neg (fun z => hz z.2), if_neg (fun z => hz z.2), List.getElem?_eq_none (by omega), List.getElem?_eq_none (by omega)]
  · rw [if_neg (fun z => hj z.1), if_neg (fun z => hj z.1), h.2 j (fun z => hj (hs j z)), wipe_get, if_neg (fun z => hj z.1)]
section
variable {K : PySem.W.Frag} {F H : Hp} {φ : List Addr} {st : Store}
theorem rds_low {φ' : List Addr} {n : Nat} (low : ∀ v d, RD K F φ v d → dBelow n d = true → RD K F φ' v d) : ∀ {ds : List D} {vs : List V}, cellBelow n (.lst ds) = true → RDs K F φ vs ds → RDs K F φ' vs ds
  | _, _, _, .nil => .nil
  | d :: ds, _, hb, .cons r t => by
    have hb : (dBelow n d && ds.all (dBelow n)) = true := hb
    rw [Bool.and_eq_true] at hb
    exact .cons (low _ _ r hb.1) (rds_low low hb.2 t)
/-- cells dropped at the end -/
theorem SR.gc (S : SR K F φ st H) (n : Nat) : ∃ φ', SR K F φ' (gc n st) H ∧ ((φ' = φ) ∨ (φ' = φ.take n)) ∧ ∀ v d, RD K F φ v d → dBelow n d = true → RD K F φ' v d := by
  unfold MP.gc
  split
  · rename_i hc
    have low : ∀ v d, RD K F φ v d → dBelow n d = true → RD K F (φ.take n) v d := by
      intro v d r h
      cases d with
      | p x => exact r
      | c m =>
        obtain ⟨a, h1, rfl⟩ := r
        have hm : m < n := of_decide_eq_true h
        exact ⟨a, by rw [List.getElem?_take_of_lt hm]; exact h1, rfl⟩
    refine ⟨φ.take n, ⟨S.sub, by simp [S.len], S.nd.sublist (List.take_sublist _ _), fun m ds e => ?_, fun m e => ?_⟩, .inr rfl, low⟩
    · have hm : m < n := by
        have := (List.getElem?_eq_some_iff.mp e).1
        rw [List.length_take] at this; omega
      have e' := e
      rw [List.getElem?_take_of_lt hm] at e'
      obtain ⟨a, vs, h1, h2, h3, h4⟩ := S.cell m ds e'
      refine ⟨a, vs, by rw [List.getElem?_take_of_lt hm]; exact h1, h2, h3, ?_⟩
      exact rds_low low (List.all_eq_true.mp hc _ (List.mem_of_getElem? e)) h4
    · have hm : m < n := by
        have := (List.getElem?_eq_some_iff.mp e).1
        rw [List.length_take] at this; omega
      rw [List.getElem?_take_of_lt hm] at e
      obtain ⟨a, h1, h2⟩ := S.dead m e
      exact ⟨a, by rw [List.getElem?_take_of_lt hm]; exact h1, h2⟩
  · exact ⟨φ, S, .inl rfl, fun _ _ r _ => r⟩
theorem pre_take {φ φ' : List Addr} (h : φ <+: φ') : φ <+: φ'.take φ.length := by
  obtain ⟨t, rfl⟩ := h
  rw [List.take_left' rfl]
  exact List.prefix_refl _
/-- a cell's list frozen -/
theorem SR.freeze (S : SR K F φ st H) {n : Nat} {ds : List D} {a : Addr} {vs : List V} (hn : st[n]? = some (.lst ds)) (ha : φ[n]? = some a) (hH : H a = some (.lst vs)) : SR K (upd F a (.lst vs)) φ (st.set n .dead) H ∧ Ext F φ (upd F a (.lst vs)) φ := by
  obtain ⟨a', vs', e1, e2, e3, e4⟩ := S.cell n ds hn
  rw [ha] at e1
  cases Option.some.inj e1
  have hl : n < st.length := (List.getElem?_eq_some_iff.mp hn).1
  have ex : Ext F φ (upd F a (.lst vs)) φ := ⟨Evl.Ex.new e2, List.prefix_refl φ⟩
  have other : ∀ m b, m ≠ n → φ[m]? = some b → b ≠ a := fun m b hm hb z => by
    subst z
    exact hm (nodup_at S.nd hb ha)
  refine ⟨⟨fun b u e => ?_, by rw [List.length_set]; exact S.len, S.nd, fun m ds' e => ?_, fun m e => ?_⟩, ex⟩
  · by_cases hb : b = a
    · subst hb; rw [upd_same] at e; rw [← e]; exact hH
    · rw [upd_ne hb] at e; exact S.sub b u e
  · by_cases hm : m = n
    · subst hm; rw [List.getElem?_set_self hl] at e; cases e
    · rw [List.getElem?_set_ne (Ne.symm hm)] at e
      obtain ⟨b, ws, h1, h2, h3, h4⟩ := S.cell m ds' e
      exact ⟨b, ws, h1, by rw [upd_ne (other m b hm h1)]; exact h2, h3, h4.mono ex⟩
  · by_cases hm : m = n
    · subst hm
      exact ⟨a, ha, by rw [upd_same]; simp⟩
    · rw [List.getElem?_set_ne (Ne.symm hm)] at e
      obtain ⟨b, h1, h2⟩ := S.dead m e
      exact ⟨b, h1, by rw [upd_ne (other m b hm h1)]; exact h2⟩
end
section
variable {X : Cx} {C : Ctx} {G : Sem1} {XR : Exc → Value → Option Addr → Hp → Prop} {E : XK}
theorem sat_noEx {α : Type} {K : PySem.W.Frag} {Rel : Hp → List Addr → Hp → α → Prop} {F : Hp} {φ : List Addr} {r : R α} (h : Sat K XR E Rel F φ (noEx r)) : Sat K XR E0 Rel F φ r := by
  cases r with
  | ok a st => exact h
  | ex c st => exact h.elim
  | bad => exact h.elim
theorem sat_noEx_bind {α β : Type} {K : PySem.W.Frag} {Rel : Hp → List Addr → Hp → β → Prop} {Rel' : Hp → List Addr → Hp → α → Prop} {F0 F : Hp} {φ0 φ : List Addr} {r : R α} {k : α → Store → R β} (h : Sat K XR E Rel F0 φ0 ((noEx r).bind k))
    (f : ∀ a st F1 φ1 H1, Ext F φ F1 φ1 → SR K F1 φ1 st H1 → Sat K XR E Rel F0 φ0 (k a st) → Rel' F1 φ1 H1 a) : Sat K XR E0 Rel' F φ r := by
  cases r with
  | ok a st => exact fun F' φ' H' x S => f a st F' φ' H' x S h
  | ex c st => exact h.elim
  | bad => exact h.elim
theorem okc_none : PTs X [] (rT X.K XR E fun env st => truR (evc G .none env st)) := by
  refine ⟨fun pins s σ H Q I hq => pts_nil.run pins s σ H Q I ?_⟩
  obtain ⟨env, st, F, φ, S, r, hq⟩ := hq
  exact hq.ok S
theorem okc_some {a : ME} {x : Expr} (h : OkP X XR E x (ev G a)) : PTs X [x] (rT X.K XR E fun env st => truR (evc G (.some a) env st)) :=
  ⟨fun pins s σ H Q I hq => (pts_one h.pt).run pins s σ H Q I hq⟩

theorem lc_sat {c : Bool} {own : List Nat} {tg : MT} {it : MI} {cond : MO} {elt : ME} {iter t x : Expr} {ifs : List Expr} {σ : L2.St} {H : Hp} {Q : VK}
    (hs : ∀ j ∈ tgVars tg, j ∈ own)
    (hq : rE X.K XR E (ev G (.lc c own tg it cond elt)) σ H Q) :
    tLc (rI X.K XR E (evi G it)) (gI X.K tg) (rT X.K XR E0 fun env st => truR (evc G cond env st)) (rE X.K XR E0 (ev G elt)) own σ H Q := by
  obtain ⟨env, st, F, φ, S, r, hq⟩ := hq
  simp only [ev] at hq
  refine ⟨env, st, F, φ, S, r, Sat.bind hq fun p st1 F1 φ1 H1 e1 S1 h1 J hJ Dl hD => ?_⟩
  have r1 := (r.mono e1).wipe own
  obtain ⟨Gd, Y, hw, hG, hY⟩ := hJ
  obtain ⟨S2, e2, hat⟩ := S1.newCell (vs := []) (ds := []) hD .nil
  -- the rest of the turns, and what follows
  refine lc_it hw (fun i H' => ∃ F' φ' st', Ext F1 (φ1 ++ [Dl]) F' φ' ∧ SR X.K F' φ' st' H' ∧ Sat X.K XR E (QE X.K Q) F1 φ1 ((lcL p.2 st1.length tg (evc G cond) (ev G elt) (wipeE env own) (p.1.drop i) st').bind fun _ st2 => lcEnd c st1.length st2))
    ⟨F1, φ1 ++ [Dl], _, Ext.refl, S2, by rw [List.drop_zero]; exact h1⟩ (fun i H' hi ⟨F', φ', st', e', S', h'⟩ => ?_) (fun i x H' H'' hi ⟨F', φ', st', e', S', h'⟩ hy => ?_) (fun H' ⟨F', φ', st', e', S', h'⟩ => ?_)
  · -- the walk's word stands
    refine hG F' φ' st' H' (e2.trans e') S' ?_
    cases hd : p.1.drop i with
    | nil =>
      rw [hd] at h'
      unfold lcL at h'
      split at h'
      · assumption
      · exact h'.elim
    | cons a b =>
      rw [hd] at h'
      unfold lcL at h'
      split at h'
      · assumption
      · exact h'.elim
  · -- a turn
    have hdr : p.1.drop i = p.1[i] :: p.1.drop (i + 1) := List.drop_eq_getElem_cons hi
    rw [hdr] at h'
    unfold lcL at h'
    split at h'
    · rename_i hg
      split at h'
      · exact h'.elim
      · rename_i env1 hb
        obtain ⟨F3, e3, S3, it, hit, rit⟩ := hY F' φ' st' H' i x H'' (e2.trans e') S' hg hi hy
        rw [List.getElem?_eq_getElem hi] at hit
        cases Option.some.inj hit
        refine ⟨wipeE env own, F3, φ', p.1[i], ((r1.mono e2).mono e').mono e3, S3.sub, rit, env1, hb, fun σ2 r2 o2 => ⟨wipe_only o2 hs, env1, st', F3, φ', S3, r2, ?_⟩⟩
        have h'' := h'
        have h2 : Sat X.K XR E (QE X.K Q) F1 φ1 ((noEx (truR (evc G cond env1 st'))).bind fun b st => (if b = true then (noEx (ev G elt env1 st)).bind fun d st2 => match cellL st2 st1.length with
            | some acc => if acc.length < SZ then lcL p.2 st1.length tg (evc G cond) (ev G elt) (wipeE env own) (p.1.drop (i + 1)) (st2.set st1.length (.lst (acc ++ [d]))) else .bad
            | none => .bad
          else lcL p.2 st1.length tg (evc G cond) (ev G elt) (wipeE env own) (p.1.drop (i + 1)) st).bind fun _ st2 => lcEnd c st1.length st2) := by
          revert h''
          cases (noEx (truR (evc G cond env1 st'))) <;> exact id
        refine sat_noEx_bind h2 fun b st3 F4 φ4 H4 e4 S4 h4 => ?_
        cases b with
        | false =>
          exact ⟨F4, φ4, st3, (e'.trans e3).trans e4, S4, h4⟩
        | true =>
          simp only [if_true] at h4
          have h5 : Sat X.K XR E (QE X.K Q) F1 φ1 ((noEx (ev G elt env1 st3)).bind fun d st2 => (match cellL st2 st1.length with
            | some acc => if acc.length < SZ then lcL p.2 st1.length tg (evc G cond) (ev G elt) (wipeE env own) (p.1.drop (i + 1)) (st2.set st1.length (.lst (acc ++ [d]))) else .bad
            | none => .bad).bind fun _ st2 => lcEnd c st1.length st2) := by
            revert h4
            cases (noEx (ev G elt env1 st3)) <;> exact id
          refine ⟨env1, st3, F4, φ4, S4, r2.mono e4, sat_noEx_bind h5 fun d st5 F5 φ5 H5 e5 S5 h6 v rv => ?_⟩
          cases hc : cellL st5 st1.length with
          | none => rw [hc] at h6; exact h6.elim
          | some acc =>
            rw [hc] at h6
            simp only at h6
            split at h6
            · rename_i hz
              obtain ⟨a, vs, c1, c2, c3, c4⟩ := S5.cell _ _ (cellL_some hc)
              have hDa : φ5[st1.length]? = some Dl := ((e'.trans e3).trans (e4.trans e5)).at hat
              rw [hDa] at c1
              cases Option.some.inj c1
              refine ⟨vs, c3, by rw [rds_length c4]; exact Nat.lt_of_lt_of_le hz (sz_ok (Nat.le_refl _)), F5, φ5, _, ((e'.trans e3).trans (e4.trans e5)), S5.write (cellL_some hc) hDa (rds_append c4 (.cons rv .nil)), h6⟩
            · exact h6.elim
    · exact h'.elim
  · -- the end
    rw [List.drop_length] at h'
    unfold lcL at h'
    split at h'
    · simp only [R.bind_ok] at h'
      have hDa : φ'[st1.length]? = some Dl := e'.at hat
      unfold lcEnd at h'
      cases c with
      | true => exact h' _ _ _ (e2.trans e') S' _ ⟨Dl, hDa, rfl⟩
      | false =>
        simp only at h'
        split at h'
        · rename_i ds hc
          split at h'
          · rename_i xs hp
            obtain ⟨a, vs, c1, c2, c3, c4⟩ := S'.cell _ _ (cellL_some hc)
            rw [hDa] at c1
            cases Option.some.inj c1
            obtain ⟨S6, e6⟩ := S'.freeze (cellL_some hc) hDa c3
            obtain ⟨φ7, S7, hφ, _⟩ := S6.gc st1.length
            rw [pures_some hp] at c4
            have e7 : Ext F1 φ1 (upd F' Dl (.lst vs)) φ7 := by
              refine ⟨(e2.trans (e'.trans e6)).sub, ?_⟩
              have pre := (e2.trans e').pre
              rcases hφ with rfl | rfl
              · exact pre
              · rw [← S1.len]; exact pre_take pre
            exact h' _ _ _ e7 S7 _ (show RD X.K _ φ7 _ (.p _) from Dp.lst (Evl.sq_of upd_same) (dpAll_mono e6.sub c4.dpAll))
          · exact h'.elim
        · exact h'.elim
    · exact h'.elim
end
end MP

set_option Elab.async false
set_option linter.all false
set_option autoImplicit false
set_option maxRecDepth 100000
set_option maxHeartbeats 4000000
/-! the meaning is right: the whole of expressions -/
namespace MP
open PySem PySem.Spec PyProof.Rows L2
section
variable {G : Sem1} {XR : Exc → Value → Option Addr → Hp → Prop}
theorem folded {e : Expr} (h : notSet e = true) (env : PySem.Env) (x : Value) : foldedSetIterable e env x = pure x := by
  cases e <;> first | rfl | cases h
theorem base_of {o : Expr} {f : Str} {env : PySem.Env} (h : notSuper o = true) : attributeBase o f env (eval o env) = eval o env := by
  cases o with
  | Call fn args kws p =>
    cases fn with
    | Name x q =>
      cases args with
      | nil =>
        cases kws with
        | nil => cases h
        | cons a b => rfl
      | cons a b => rfl
    | _ => rfl
  | _ => rfl
theorem ok_join {X : Cx} {C : Ctx} {E : XK} (w : WF X C G XR E) {a b : ME} {x y : Expr} {m : Str} {q p : Pos} (hm : m = ("join" : Str)) (hl : (q.endLine == p.line) = true) (hsu : notSuper x = true) (hn : notStar y = true) (ha : OkP X XR E x (ev G a)) (hb : OkP X XR E y (ev G b)) :
    OkP X XR E (.Call (.Attribute x m q) [y] [] p) (ev G (.join a b)) := by
  subst hm
  refine .plain (PE.imp (pe_bm (X := X) PySem.F.plainAttrs_str PySem.F.slot_str_join PySem.F.type_str_join mt_join ha.pe (pa_cons hb.pe pa_nil (star1 hn)) (base_of hsu) (by rw [star1 hn]; rfl) hl (star1 hn) rfl) fun σ H Q hq => ?_) (fun _ => rfl) (fun _ _ _ e => nomatch e)
  obtain ⟨env, st, F, φ, S, r, hq⟩ := hq
  simp only [ev] at hq
  refine ⟨env, st, F, φ, S, r, Sat.bind hq fun d st1 F1 φ1 H1 e1 S1 h1 v rv => ?_⟩
  split at h1
  · rename_i z
    rw [rv.str]
    refine ⟨rfl, env, st1, F1, φ1, S1, r.mono e1, Sat.bind h1 fun d2 st2 F2 φ2 H2 e2 S2 h2 v2 rv2 => ?_⟩
    unfold joinD at h2
    split at h2
    · rename_i ys e0
      split at h2
      · rename_i zs e3
        split at h2
        · rename_i hz
          have hz' : (zs.map (·.length)).sum + zs.length * z.length ≤ 16777216 := Nat.le_trans hz (by decide)
          split at e0
          · rename_i ws
            cases Option.some.inj e0
            obtain ⟨l, vs, rfl, hl2, _, r1⟩ := tup_ok S2 rv2
            have q := r1.dpAll
            rw [strs_some e3] at q
            rw [dp_strs q] at hl2
            exact ⟨z, l, zs, rfl, rfl, .inr hl2, hz', sat_val S2 rd_str h2⟩
          · obtain ⟨ds, e4, e5⟩ := Option.bind_eq_some_iff.mp e0
            obtain ⟨l, vs, rfl, hl2, r1⟩ := items_ok S2 rv2 e4
            rw [pures_some e5] at r1
            have q := r1.dpAll
            rw [strs_some e3] at q
            rw [dp_strs q] at hl2
            exact ⟨z, l, zs, rfl, rfl, .inl hl2, hz', sat_val S2 rd_str h2⟩
        · exact h2.elim
      · exact h2.elim
    · exact h2.elim
  · exact h1.elim
theorem own_map (N : List Str) : ∀ (own : List Nat), (own.map fun j => ((N[j]?).getD ("" : Str), j)).map (·.2) = own
  | [] => rfl
  | a :: r => by rw [List.map_cons, List.map_cons, own_map N r]
theorem chki_folded {C : Ctx} {it : MI} {i t : Expr} (h : chki C it i t = true) : ∀ (env : PySem.Env) (x : Value), foldedSetIterable i env x = pure x := by
  have : notSet i = true := by
    cases it with
    | seq e => simp only [chki, Bool.and_eq_true] at h; exact h.1
    | _ => (simp only [chki] at h; split at h <;> first | rfl | cases h)
  exact folded this
mutual
theorem snd : ∀ (e : ME) {X : Cx} {C : Ctx} {E : XK} {py : Expr}, WF X C G XR E → chk C e py = true → OkP X XR E py (ev G e)
  | .var i, X, C, E, py, w, h => by
    unfold chk at h
    split at h
    · exact ok_var w h
    · cases h
  | .lit v, X, C, E, py, w, h => by
    unfold chk at h
    split at h
    · exact ok_lit h
    · cases h
  | .glb v, X, C, E, py, w, h => by
    unfold chk at h
    split at h
    · exact ok_glb w h
    · cases h
  | .gix kvs a, X, C, E, py, w, h => by
    unfold chk at h
    split at h
    · simp only [Bool.and_eq_true] at h
      exact ok_gix w h.1.1.1 h.1.1.2 h.1.2 (snd a w h.2)
    · cases h
  | .bin o a b, X, C, E, py, w, h => by
    unfold chk at h
    split at h
    · simp only [Bool.and_eq_true, decide_eq_true_eq] at h
      obtain ⟨⟨rfl, h1⟩, h2⟩ := h
      exact ok_bin (snd a w h1) (snd b w h2)
    · cases h
  | .neg a, X, C, E, py, w, h => by
    unfold chk at h
    split at h
    · exact ok_neg (snd a w h)
    · cases h
  | .not a, X, C, E, py, w, h => by
    unfold chk at h
    split at h
    · exact ok_not (snd a w h)
    · cases h
  | .and a b, X, C, E, py, w, h => by
    unfold chk at h
    split at h
    · simp only [Bool.and_eq_true] at h
      exact ok_and (snd a w h.1) (snd b w h.2)
    · cases h
  | .or a b, X, C, E, py, w, h => by
    unfold chk at h
    split at h
    · simp only [Bool.and_eq_true] at h
      exact ok_or (snd a w h.1) (snd b w h.2)
    · cases h
  | .one a, X, C, E, py, w, h => by
    unfold chk at h
    split at h
    · exact ok_one (snd a w h)
    · cases h
  | .cmp o a b, X, C, E, py, w, h => by
    unfold chk at h
    split at h
    · simp only [Bool.and_eq_true, decide_eq_true_eq] at h
      obtain ⟨⟨⟨rfl, h0⟩, h1⟩, h2⟩ := h
      exact ok_cmp w h0 (snd a w h1) (snd b w h2)
    · cases h
  | .cmp2 o o' a b c, X, C, E, py, w, h => by
    unfold chk at h
    split at h
    · simp only [Bool.and_eq_true, decide_eq_true_eq] at h
      obtain ⟨⟨⟨⟨⟨⟨rfl, rfl⟩, h0⟩, h1⟩, h2⟩, h3⟩, h4⟩ := h
      exact ok_cmp2 w h0 h1 (snd a w h2) (snd b w h3) (snd c w h4)
    · cases h
  | .ife c a b, X, C, E, py, w, h => by
    unfold chk at h
    split at h
    · simp only [Bool.and_eq_true] at h
      exact ok_ife (snd c w h.1.1) (snd a w h.1.2) (snd b w h.2)
    · cases h
  | .tup es, X, C, E, py, w, h => by
    unfold chk at h
    split at h
    · exact ok_tup (snds es w h)
    · cases h
  | .lst c es, X, C, E, py, w, h => by
    unfold chk at h
    split at h
    · exact ok_lst (snds es w h)
    · cases h
  | .ix a b, X, C, E, py, w, h => by
    unfold chk at h
    split at h
    · simp only [Bool.and_eq_true] at h
      exact ok_ix h.1.1 (snd a w h.1.2) (snd b w h.2)
    · cases h
  | .sl a lo hi, X, C, E, py, w, h => by
    unfold chk at h
    split at h
    · simp only [Bool.and_eq_true] at h
      exact ok_sl (snd a w h.1.1) (sndo lo w h.1.2) (sndo hi w h.2)
    · cases h
  | .bi f a, X, C, E, py, w, h => by
    unfold chk at h
    split at h
    · simp only [Bool.and_eq_true, decide_eq_true_eq] at h
      exact ok_bi w h.1.1.1 h.1.1.2 h.1.2 (snd a w h.2)
    · cases h
  | .mx2 m a b, X, C, E, py, w, h => by
    unfold chk at h
    split at h
    · simp only [Bool.and_eq_true, decide_eq_true_eq] at h
      obtain ⟨⟨⟨⟨⟨h1, h2⟩, h3⟩, h4⟩, h5⟩, h6⟩ := h
      exact ok_mx2 w h1 h2 h3 h4 (snd a w h5) (snd b w h6)
    · cases h
  | .isi T a, X, C, E, py, w, h => by
    unfold chk at h
    split at h
    · simp only [Bool.and_eq_true, decide_eq_true_eq] at h
      obtain ⟨⟨⟨⟨⟨⟨h1, h2⟩, h3⟩, h4⟩, h5⟩, h6⟩, h7⟩ := h
      exact ok_isi w h1 h2 h3 h4 h5 h6 (snd a w h7)
    · cases h
  | .call f es, X, C, E, py, w, h => by
    unfold chk at h
    split at h
    · simp only [Bool.and_eq_true, decide_eq_true_eq] at h
      exact ok_call w h.1.1 h.1.2 h.2 (snds es w h.2)
    · cases h
  | .join a b, X, C, E, py, w, h => by
    unfold chk at h
    split at h
    · simp only [Bool.and_eq_true, decide_eq_true_eq] at h
      obtain ⟨⟨⟨⟨⟨h1, h2⟩, h3⟩, h4⟩, h5⟩, h6⟩ := h
      exact ok_join w h1 h2 h3 h4 (snd a w h5) (snd b w h6)
    · cases h
  | .lc c own tg it cond elt, X, C, E, py, w, h => by
    unfold chk at h
    split at h
    · simp only [Bool.and_eq_true] at h
      obtain ⟨⟨h1, h2⟩, ⟨⟨h3, h4⟩, h5⟩, h6⟩ := h
      have hb := blkOk_by h1
      rw [← w.N, ← w.sc] at hb
      refine .plain (PE.imp (pe_lc (g := gI X.K tg) (tt := rT X.K XR E0 fun env st => truR (evc G cond env st)) (te := rE X.K XR E0 (ev G elt)) w.calm w.nd (sndi it w h4) hb (fun s H Ca cl fp => ok_tgI (w.blk s H _ cl Ca fp) h3)
        (fun s H Ca cl fp => sndc cond (w.blk s H _ cl Ca fp) h5) (fun s H Ca cl fp => (snd elt (w.blk s H _ cl Ca fp) h6).pe) (chki_folded h4 X.env)) fun σ H Q hq => ?_) (fun _ => rfl) (fun _ _ _ e => nomatch e)
      rw [w.N, own_map]
      exact lc_sat (iter := default) (t := default) (x := default) (ifs := []) (fun j hj => by simpa using List.all_eq_true.mp h2 j hj) hq
    · cases h
theorem snds : ∀ (es : MEs) {X : Cx} {C : Ctx} {E : XK} {xs : List Expr}, WF X C G XR E → chks C es xs = true → OkA X XR E xs (evs G es)
  | .nil, X, C, E, [], w, h => oka_nil
  | .cons e r, X, C, E, x :: xs, w, h => by
    simp only [chks, Bool.and_eq_true] at h
    exact oka_cons h.1.1 (snd e w h.1.2) (snds r w h.2)
  | .nil, X, C, E, _ :: _, w, h => by simp [chks] at h
  | .cons _ _, X, C, E, [], w, h => by simp [chks] at h
theorem sndo : ∀ (o : MO) {X : Cx} {C : Ctx} {E : XK} {x : Option Expr}, WF X C G XR E → chko C o x = true → PO X x (rO' X.K XR E (evo G o))
  | .none, X, C, E, none, w, h => oko_none
  | .some e, X, C, E, some x, w, h => by
    simp only [chko] at h
    exact oko_some (snd e w h)
  | .none, X, C, E, some _, w, h => by simp [chko] at h
  | .some _, X, C, E, none, w, h => by simp [chko] at h
theorem sndc : ∀ (o : MO) {X : Cx} {C : Ctx} {E : XK} {xs : List Expr}, WF X C G XR E → chkc C o xs = true → PTs X xs (rT X.K XR E fun env st => truR (evc G o env st))
  | .none, X, C, E, [], w, h => okc_none
  | .some e, X, C, E, [x], w, h => by
    simp only [chkc] at h
    exact okc_some (snd e w h)
  | .none, X, C, E, _ :: _, w, h => by simp [chkc] at h
  | .some _, X, C, E, [], w, h => by simp [chkc] at h
  | .some _, X, C, E, _ :: _ :: _, w, h => by simp [chkc] at h
theorem sndi : ∀ (it : MI) {X : Cx} {C : Ctx} {E : XK} {i t : Expr}, WF X C G XR E → chki C it i t = true → PI X t i (rI X.K XR E (evi G it))
  | .seq e, X, C, E, i, t, w, h => by
    simp only [chki, Bool.and_eq_true] at h
    exact ok_seq (snd e w h.2)
  | .rng1 a, X, C, E, i, t, w, h => by
    unfold chki at h
    split at h
    · simp only [Bool.and_eq_true, decide_eq_true_eq] at h
      exact ok_rng1 w h.1.1.1 h.1.1.2 h.1.2 (snd a w h.2)
    · cases h
  | .rng2 a b, X, C, E, i, t, w, h => by
    unfold chki at h
    split at h
    · simp only [Bool.and_eq_true, decide_eq_true_eq] at h
      obtain ⟨⟨⟨⟨⟨h1, h2⟩, h3⟩, h4⟩, h5⟩, h6⟩ := h
      exact ok_rng2 w h1 h2 h3 h4 (snd a w h5) (snd b w h6)
    · cases h
  | .enum a, X, C, E, i, t, w, h => by
    unfold chki at h
    split at h
    · simp only [Bool.and_eq_true, decide_eq_true_eq] at h
      obtain ⟨⟨⟨⟨h1, h2⟩, h3⟩, h4⟩, h5⟩ := h
      exact ok_enum w h1 h2 h3 h4 (snd a w h5)
    · cases h
  | .zip a b, X, C, E, i, t, w, h => by
    unfold chki at h
    split at h
    · simp only [Bool.and_eq_true, decide_eq_true_eq] at h
      obtain ⟨⟨⟨⟨⟨⟨h1, h2⟩, h3⟩, h4⟩, h5⟩, h6⟩, h7⟩ := h
      exact ok_zip w h1 h2 h3 h4 h5 (snd a w h6) (snd b w h7)
    · cases h
end
end
end MP

set_option Elab.async false
set_option linter.all false
set_option autoImplicit false
set_option maxRecDepth 100000
set_option maxHeartbeats 2000000
/-! statements -/
namespace MP
open PySem PySem.Spec PyProof.Rows L2

mutual
inductive MS where
  | set (t : MT) (e : ME)
  | setLc (i : Nat) (e : ME)
  | setIx (o i v : ME)
  | app (o e : ME)
  | ex (e : ME)
  | ret (e : ME)
  | retN
  | ife (c : ME) (a b : MSs)
  | loop (t : MT) (it : MI) (b : MSs)
  | pass
  | brk
  | cont
inductive MSs where
  | nil
  | cons (s : MS) (r : MSs)
end

/-! ### meaning -/
def thenR (r : R Fl) (k : Env → Store → R Fl) : R Fl :=
  match r with
  | .ok (.nx env) st => k env st
  | r => r
@[simp] theorem thenR_nx (env : Env) (st : Store) (k : Env → Store → R Fl) : thenR (.ok (.nx env) st) k = k env st := rfl
@[simp] theorem thenR_rt (d : D) (st : Store) (k : Env → Store → R Fl) : thenR (.ok (.rt d) st) k = .ok (.rt d) st := rfl
@[simp] theorem thenR_bk (env : Env) (st : Store) (k : Env → Store → R Fl) : thenR (.ok (.bk env) st) k = .ok (.bk env) st := rfl
@[simp] theorem thenR_ct (env : Env) (st : Store) (k : Env → Store → R Fl) : thenR (.ok (.ct env) st) k = .ok (.ct env) st := rfl
@[simp] theorem thenR_ex (e : Exc) (st : Store) (k : Env → Store → R Fl) : thenR (.ex e st) k = .ex e st := rfl
@[simp] theorem thenR_bad (k : Env → Store → R Fl) : thenR .bad k = .bad := rfl
/-- the turns of a loop -/
def nextR (r : R Fl) (k : Env → Store → R Fl) : R Fl :=
  match r with
  | .ok (.nx env) st => k env st
  | .ok (.ct env) st => k env st
  | .ok (.bk env) st => .ok (.nx env) st
  | r => r
@[simp] theorem nextR_nx (env : Env) (st : Store) (k : Env → Store → R Fl) : nextR (.ok (.nx env) st) k = k env st := rfl
@[simp] theorem nextR_ct (env : Env) (st : Store) (k : Env → Store → R Fl) : nextR (.ok (.ct env) st) k = k env st := rfl
@[simp] theorem nextR_rt (d : D) (st : Store) (k : Env → Store → R Fl) : nextR (.ok (.rt d) st) k = .ok (.rt d) st := rfl
@[simp] theorem nextR_bk (env : Env) (st : Store) (k : Env → Store → R Fl) : nextR (.ok (.bk env) st) k = .ok (.nx env) st := rfl
@[simp] theorem nextR_ex (e : Exc) (st : Store) (k : Env → Store → R Fl) : nextR (.ex e st) k = .ex e st := rfl
@[simp] theorem nextR_bad (k : Env → Store → R Fl) : nextR .bad k = .bad := rfl
open Classical in
noncomputable def forL (gd : Store → Prop) (tg : MT) (body : Env → Store → R Fl) : List Itm → Env → Store → R Fl
  | [], env, st => if gd st then .ok (.nx env) st else .bad
  | it :: r, env, st => if gd st then match bindI tg it env with
      | none => .bad
      | some env1 => nextR (body env1 st) (forL gd tg body r)
    else .bad
def setIxD (o i x : D) (env : Env) (st : Store) : R Fl :=
  match o, i with
  | .c n, .p (.int k) => match cellL st n with
    | some ds => match ixN ds.length k with
      | some j => .ok (.nx env) (st.set n (.lst (ds.set j x)))
      | none => .bad
    | none => .bad
  | _, _ => .bad
mutual
noncomputable def sv (G : Sem1) : MS → Env → Store → R Fl
  | .set t e, env, st => (ev G e env st).bind fun d st => match bindD t d env with
    | some env => .ok (.nx env) st
    | none => .bad
  | .setLc i e, env, st => (ev G e env st).bind fun d st => .ok (.nx (env.set i (some d))) st
  | .setIx o i v, env, st => (ev G v env st).bind fun x st => (ev G o env st).bind fun o st => (ev G i env st).bind fun i st => setIxD o i x env st
  | .app o e, env, st => (ev G o env st).bind fun o st => match o with
    | .c n => match cellL st n with
      | some _ => (ev G e env st).bind fun x st => match cellL st n with
        | some ds => if ds.length < SZ then .ok (.nx env) (st.set n (.lst (ds ++ [x]))) else .bad
        | none => .bad
      | none => .bad
    | _ => .bad
  | .ex e, env, st => (ev G e env st).bind fun _ st => .ok (.nx env) st
  | .ret e, env, st => (ev G e env st).bind fun d st => .ok (.rt d) st
  | .retN, env, st => .ok (.rt (.p .none)) st
  | .ife c a b, env, st => (truR (ev G c env st)).bind fun k st => if k = true then svs G a env st else svs G b env st
  | .loop t it b, env, st => (evi G it env st).bind fun p st => forL p.2 t (svs G b) p.1 env st
  | .pass, env, st => .ok (.nx env) st
  | .brk, env, st => .ok (.bk env) st
  | .cont, env, st => .ok (.ct env) st
noncomputable def svs (G : Sem1) : MSs → Env → Store → R Fl
  | .nil, env, st => .ok (.nx env) st
  | .cons s r, env, st => thenR (sv G s env st) (svs G r)
end

/-! ### the text -/
def isLc : Expr → Bool
  | .ListComp .. => true
  | .SetComp .. => true
  | .DictComp .. => true
  | _ => false
/-- the exchange of stores of a tuple display does not come in -/
def noSwap (t e : Expr) : Bool :=
  match t, e with
  | .Tuple .., .Tuple .. => false
  | .List .., .Tuple .. => false
  | _, _ => true
mutual
def chkS (C : Ctx) : MS → Stmt → Bool
  | .set t e, py => match py with
    | .Assign [tg] x _ => !isLc x && noSwap tg x && notStar tg && chkT C t tg && chk C e x
    | _ => false
  | .setLc i e, py => match py with
    | .Assign [.Name y q] (.ListComp elt gs scope pos) sp => C.slot i y && decide (C.sc.names.lookup y = some .local) && (q.line == pos.line) &&
        !(scope.names.any fun p => p.1 == y && (p.2 == .local || p.2 == .cell)) && (match e with | .lc .. => true | _ => false) && chk C e (.ListComp elt gs scope pos)
    | _ => false
  | .setIx o i v, py => match py with
    | .Assign [.Subscript a b _] x _ => !isLc x && notSlice b && chk C o a && chk C i b && chk C v x
    | _ => false
  | .app o e, py => match py with
    | .Expr (.Call (.Attribute a m q) [b] [] p) _ => decide (m = ("append" : Str)) && (q.endLine == p.line) && notSuper a && notStar b && chk C o a && chk C e b
    | _ => false
  | .ex e, py => match py with
    | .Expr x _ => !isLc x && chk C e x
    | _ => false
  | .ret e, py => match py with
    | .Return (some x) _ => chk C e x
    | _ => false
  | .retN, py => match py with
    | .Return none _ => true
    | _ => false
  | .ife c a b, py => match py with
    | .If t x y _ => chk C c t && chkSs C a x && chkSs C b y
    | _ => false
  | .loop t it b, py => match py with
    | .For tg i x [] _ => chkT C t tg && chki C it i tg && chkSs C b x
    | _ => false
  | .pass, py => match py with
    | .Pass _ => true
    | _ => false
  | .brk, py => match py with
    | .Break _ => true
    | _ => false
  | .cont, py => match py with
    | .Continue _ => true
    | _ => false
def chkSs (C : Ctx) : MSs → List Stmt → Bool
  | .nil, [] => true
  | .cons s r, x :: xs => chkS C s x && chkSs C r xs
  | _, _ => false
end

/-! ### right -/
section
variable {G : Sem1} {XR : Exc → Value → Option Addr → Hp → Prop} {X : Cx} {C : Ctx} {E : XK}
structure WFS (X : Cx) (C : Ctx) (G : Sem1) (XR : Exc → Value → Option Addr → Hp → Prop) (E : XK) : Prop where
  wf : WF X C G XR E
  po : PassesOwn (model X.prog X.w) X.A X.env X.xe
  kind : X.env.scope.kind = .function
theorem sw_no {e : Expr} (h : isLc e = false) (t : Option Expr) (l : Nat) (env : PySem.Env) : swapsWith e t l env = pure false := by
  cases e <;> first | rfl | cases h
theorem sw1_no {e t : Expr} (h : isLc e = false) (l : Nat) (env : PySem.Env) : swapsWithSole [t] e l env = pure false := sw_no h _ _ _
theorem noSwap_of {t e : Expr} (h : noSwap t e = true) (env : PySem.Env) : swappedStores [t] e env = pure none := by
  cases t with
  | Tuple a b c => cases e <;> first | rfl | cases h
  | List a b => cases e <;> first | rfl | cases h
  | _ => rfl
theorem oks_nil : PSs X [] (rS X.K XR E (svs G .nil)) := PSs.imp pss_nil fun De σ H hq => by
  obtain ⟨env, st, F, φ, S, r, hq⟩ := hq
  simp only [svs] at hq
  exact hq.ok S σ r
theorem sat_then {r : R Fl} {k : Env → Store → R Fl} {F : Hp} {φ : List Addr} {De : Ends} {σ : L2.St} (h : Sat X.K XR E (QS X.K De) F φ (thenR r k)) : Sat X.K XR E (QS X.K { De with nx := rS X.K XR E k De }) F φ r := by
  cases r with
  | bad => exact h.elim
  | ex c st => exact h
  | ok f st =>
    cases f with
    | nx env => exact fun F' φ' H' x S σ' r' => ⟨env, st, F', φ', S, r', Sat.ext x h⟩
    | rt d => exact h
    | bk env => exact h
    | ct env => exact h
theorem oks_cons {s : MS} {r : MSs} {x : Stmt} {xs : List Stmt} (h1 : PS X x (rS X.K XR E (sv G s))) (h2 : PSs X xs (rS X.K XR E (svs G r))) : PSs X (x :: xs) (rS X.K XR E (svs G (.cons s r))) := PSs.imp (pss_cons h1 h2) fun De σ H hq => by
  obtain ⟨env, st, F, φ, S, rr, hq⟩ := hq
  simp only [svs] at hq
  exact ⟨env, st, F, φ, S, rr, sat_then (σ := σ) hq⟩
theorem oks_set (w : WFS X C G XR E) {t : MT} {e : ME} {tg x : Expr} {pos : Pos} (hl : isLc x = false) (hn : noSwap tg x = true) (hst : notStar tg = true) (ht : chkT C t tg = true) (he : OkP X XR E x (ev G e)) : PS X (.Assign [tg] x pos) (rS X.K XR E (sv G (.set t e))) := by
  have hb : C.fnC = true ∨ C.fnC = false := by cases C.fnC <;> simp
  have h1 : (assignEach [tg] X.env).map (·.2) = [assign tg X.env] := by cases tg <;> first | rfl | cases hst
  refine PS.imp (ps_asg he.pe (ok_tg w.wf hb ht) (sw1_no hl _ _) (noSwap_of hn _) h1) fun De σ H hq => ?_
  obtain ⟨env, st, F, φ, S, r, hq⟩ := hq
  simp only [sv] at hq
  refine ⟨env, st, F, φ, S, r, Sat.bind hq fun d st1 F1 φ1 H1 e1 S1 h1 v rv => ?_⟩
  split at h1
  · rename_i env' eb
    exact ⟨env, F1, φ1, d, r.mono e1, S1.sub, rv, env', eb, fun σ' r' _ => h1.ok S1 σ' r'⟩
  · exact h1.elim
theorem oks_setIx {o i v : ME} {a b x : Expr} {p pos : Pos} (hl : isLc x = false) (hb : notSlice b = true) (ho : OkP X XR E a (ev G o)) (hi : OkP X XR E b (ev G i)) (hv : OkP X XR E x (ev G v)) : PS X (.Assign [.Subscript a b p] x pos) (rS X.K XR E (sv G (.setIx o i v))) := by
  have ha : ∀ u, assign (.Subscript a b p) X.env u = (do
      let ov ← holding [u] (eval a X.env)
      let iv ← holding [u, ov] (eval b X.env)
      standAt p
      holding [u, ov, iv] (setItem ov iv u)
      release [u, ov, iv] []) := by
    intro u
    cases b <;> first | rfl | cases hb
  refine PS.imp (ps_asg hv.pe (pg_sub ho.pe hi.pe set_list ha) (sw1_no hl _ _) (by cases x <;> rfl) rfl) fun De σ H hq => ?_
  obtain ⟨env, st, F, φ, S, r, hq⟩ := hq
  simp only [sv] at hq
  refine ⟨env, st, F, φ, S, r, Sat.bind hq fun d st1 F1 φ1 H1 e1 S1 h1 w rw => ⟨env, st1, F1, φ1, S1, r.mono e1, Sat.bind h1 fun d2 st2 F2 φ2 H2 e2 S2 h2 w2 rw2 => ⟨env, st2, F2, φ2, S2, (r.mono e1).mono e2, Sat.bind h2 fun d3 st3 F3 φ3 H3 e3 S3 h3 w3 rw3 => ?_⟩⟩⟩
  unfold setIxD at h3
  split at h3
  · rename_i n k
    split at h3
    · rename_i ds hc
      split at h3
      · rename_i j hj
        obtain ⟨l, c1, rfl⟩ := rw2.mono e3
        obtain ⟨l', vs, c2, c3, c4, c5⟩ := S3.cell n ds (cellL_some hc)
        rw [c1] at c2
        cases Option.some.inj c2
        refine ⟨l, vs, k, j, rfl, rw3.int, c4, by rw [rds_length c5]; exact hj, ?_⟩
        have S4 := S3.write (cellL_some hc) c1 (rds_set ((rw.mono e2).mono e3) j c5)
        exact h3 F3 φ3 _ Ext.refl S4 σ (((r.mono e1).mono e2).mono e3)
      · exact h3.elim
    · exact h3.elim
  · exact h3.elim
theorem oks_app {o e : ME} {a b : Expr} {m : Str} {q p pos : Pos} (hm : m = ("append" : Str)) (hl : (q.endLine == p.line) = true) (hsu : notSuper a = true) (hn : notStar b = true) (ho : OkP X XR E a (ev G o)) (he : OkP X XR E b (ev G e)) : PS X (.Expr (.Call (.Attribute a m q) [b] [] p) pos) (rS X.K XR E (sv G (.app o e))) := by
  subst hm
  refine PS.imp (ps_expr (pe_bm PySem.F.plainAttrs_list PySem.F.slot_list_append PySem.F.type_list_append mt_append ho.pe (pa_cons he.pe pa_nil (star1 hn)) (base_of hsu) (by rw [star1 hn]; rfl) hl (star1 hn) rfl) (sw_no rfl _ _ _)) fun De σ H hq => ?_
  obtain ⟨env, st, F, φ, S, r, hq⟩ := hq
  simp only [sv] at hq
  refine ⟨env, st, F, φ, S, r, Sat.bind hq fun d st1 F1 φ1 H1 e1 S1 h1 v rv => ?_⟩
  split at h1
  · rename_i n
    split at h1
    · rename_i ds0 hc0
      obtain ⟨l, c1, rfl⟩ := rv
      obtain ⟨l', vs, c2, c3, c4, c5⟩ := S1.cell n _ (cellL_some hc0)
      rw [c1] at c2
      cases Option.some.inj c2
      refine ⟨.inl ⟨rfl, vs, Evl.sq_of c4⟩, env, st1, F1, φ1, S1, r.mono e1, Sat.bind h1 fun d2 st2 F2 φ2 H2 e2 S2 h2 w2 rw2 => ?_⟩
      split at h2
      · rename_i ds hc
        split at h2
        · rename_i hz
          have k1 := e2.at c1
          obtain ⟨l', vs, c2, c3, c4, c5⟩ := S2.cell n ds (cellL_some hc)
          rw [k1] at c2
          cases Option.some.inj c2
          refine ⟨l, vs, w2, rfl, rfl, c4, by rw [rds_length c5]; exact Nat.lt_of_lt_of_le hz (sz_ok (Nat.le_refl _)), ?_⟩
          exact h2 F2 φ2 _ Ext.refl (S2.write (cellL_some hc) k1 (rds_append c5 (.cons rw2 .nil))) σ ((r.mono e1).mono e2)
        · exact h2.elim
      · exact h2.elim
    · exact h1.elim
  · exact h1.elim
theorem oks_ex {e : ME} {x : Expr} {pos : Pos} (hl : isLc x = false) (he : OkP X XR E x (ev G e)) : PS X (.Expr x pos) (rS X.K XR E (sv G (.ex e))) := by
  refine PS.imp (ps_expr he.pe (sw_no hl _ _ _)) fun De σ H hq => ?_
  obtain ⟨env, st, F, φ, S, r, hq⟩ := hq
  simp only [sv] at hq
  exact ⟨env, st, F, φ, S, r, Sat.bind hq fun d st1 F1 φ1 H1 e1 S1 h1 v rv => h1.ok S1 σ (r.mono e1)⟩
theorem oks_ret {e : ME} {x : Expr} {pos : Pos} (he : OkP X XR E x (ev G e)) : PS X (.Return (some x) pos) (rS X.K XR E (sv G (.ret e))) := by
  refine PS.imp (ps_ret he.pe) fun De σ H hq => ?_
  obtain ⟨env, st, F, φ, S, r, hq⟩ := hq
  simp only [sv] at hq
  exact ⟨env, st, F, φ, S, r, Sat.bind hq fun d st1 F1 φ1 H1 e1 S1 h1 v rv => h1.ok S1 v rv⟩
theorem oks_retN {pos : Pos} : PS X (.Return none pos) (rS X.K XR E (sv G .retN)) := by
  refine PS.imp ps_retN fun De σ H hq => ?_
  obtain ⟨env, st, F, φ, S, r, hq⟩ := hq
  simp only [sv] at hq
  exact hq.ok S .non rd_non
theorem oks_pass {pos : Pos} : PS X (.Pass pos) (rS X.K XR E (sv G .pass)) := by
  refine PS.imp ps_pass fun De σ H hq => ?_
  obtain ⟨env, st, F, φ, S, r, hq⟩ := hq
  simp only [sv] at hq
  exact hq.ok S σ r
theorem oks_brk {pos : Pos} : PS X (.Break pos) (rS X.K XR E (sv G .brk)) := by
  refine PS.imp ps_break fun De σ H hq => ?_
  obtain ⟨env, st, F, φ, S, r, hq⟩ := hq
  simp only [sv] at hq
  exact hq.ok S σ r
theorem oks_cont {pos : Pos} : PS X (.Continue pos) (rS X.K XR E (sv G .cont)) := by
  refine PS.imp ps_continue fun De σ H hq => ?_
  obtain ⟨env, st, F, φ, S, r, hq⟩ := hq
  simp only [sv] at hq
  exact hq.ok S σ r
theorem oks_ife {c : ME} {a b : MSs} {t : Expr} {x y : List Stmt} {pos : Pos} (hc : OkP X XR E t (ev G c)) (ha : PSs X x (rS X.K XR E (svs G a))) (hb : PSs X y (rS X.K XR E (svs G b))) : PS X (.If t x y pos) (rS X.K XR E (sv G (.ife c a b))) := by
  refine PS.imp (ps_if hc.pt ha hb) fun De σ H hq => ?_
  obtain ⟨env, st, F, φ, S, r, hq⟩ := hq
  simp only [sv] at hq
  refine ⟨env, st, F, φ, S, r, Sat.bind hq fun k st1 F1 φ1 H1 e1 S1 h1 => ?_⟩
  cases k with
  | true => exact ⟨env, st1, F1, φ1, S1, r.mono e1, h1⟩
  | false => exact ⟨env, st1, F1, φ1, S1, r.mono e1, h1⟩
theorem sat_next {r : R Fl} {k : Env → Store → R Fl} {F0 F : Hp} {φ0 φ : List Addr} {De : Ends} {P : L2.St → Hp → Prop} (x : Ext F0 φ0 F φ) (h : Sat X.K XR E (QS X.K De) F0 φ0 (nextR r k))
    (hP : ∀ env st F' φ' σ' H', Ext F φ F' φ' → SR X.K F' φ' st H' → ER X.K F' φ' env σ' → Sat X.K XR E (QS X.K De) F0 φ0 (k env st) → P σ' H') :
    Sat X.K XR E (QS X.K { De with nx := P, ct := P, bk := De.nx }) F φ r := by
  cases r with
  | bad => exact h.elim
  | ex c st => exact Sat.ext (r := R.ex c st) x h
  | ok f st =>
    cases f with
    | nx env => exact fun F' φ' H' y S σ' r' => hP env st F' φ' σ' H' y S r' h
    | ct env => exact fun F' φ' H' y S σ' r' => hP env st F' φ' σ' H' y S r' h
    | rt d => exact Sat.ext (r := R.ok (Fl.rt d) st) x h
    | bk env => exact fun F' φ' H' y S σ' r' => h F' φ' H' (x.trans y) S σ' r'
theorem oks_loop (w : WFS X C G XR E) {t : MT} {it : MI} {b : MSs} {tg i : Expr} {x : List Stmt} {pos : Pos} (ht : chkT C t tg = true) (hi : chki C it i tg = true) (hb : PSs X x (rS X.K XR E (svs G b))) : PS X (.For tg i x [] pos) (rS X.K XR E (sv G (.loop t it b))) := by
  refine PS.imp (ps_for w.po w.wf.calm (sndi it w.wf hi) (ok_tgI w.wf ht) hb (chki_folded hi X.env)) fun De σ H hq => ?_
  obtain ⟨env, st, F, φ, S, r, hq⟩ := hq
  simp only [sv] at hq
  refine ⟨env, st, F, φ, S, r, Sat.bind hq fun p st1 F1 φ1 H1 e1 S1 h1 J hJ => ?_⟩
  obtain ⟨Gd, Y, hw, hG, hY⟩ := hJ
  refine for_it hw (fun j σ' H' => ∃ F' φ' st' env', Ext F1 φ1 F' φ' ∧ SR X.K F' φ' st' H' ∧ ER X.K F' φ' env' σ' ∧ Sat X.K XR E (QS X.K De) F1 φ1 (forL p.2 t (svs G b) (p.1.drop j) env' st'))
    ⟨F1, φ1, st1, env, Ext.refl, S1, r.mono e1, by rw [List.drop_zero]; exact h1⟩ (fun j σ' H' hj ⟨F', φ', st', env', e', S', r', h'⟩ => ?_) (fun j z σ' H' H'' hj ⟨F', φ', st', env', e', S', r', h'⟩ hy => ?_) (fun σ' H' ⟨F', φ', st', env', e', S', r', h'⟩ => ?_)
  · refine hG F' φ' st' H' e' S' ?_
    cases hd : p.1.drop j with
    | nil =>
      rw [hd] at h'
      unfold forL at h'
      split at h'
      · assumption
      · exact h'.elim
    | cons a b =>
      rw [hd] at h'
      unfold forL at h'
      split at h'
      · assumption
      · exact h'.elim
  · have hdr : p.1.drop j = p.1[j] :: p.1.drop (j + 1) := List.drop_eq_getElem_cons hj
    rw [hdr] at h'
    unfold forL at h'
    split at h'
    · rename_i hg
      split at h'
      · exact h'.elim
      · rename_i env1 hbd
        obtain ⟨F3, e3, S3, itm, hit, rit⟩ := hY F' φ' st' H' j z H'' e' S' hg hj hy
        rw [List.getElem?_eq_getElem hj] at hit
        cases Option.some.inj hit
        refine ⟨env', F3, φ', p.1[j], r'.mono e3, S3.sub, rit, env1, hbd, fun σ2 r2 o2 => ⟨env1, st', F3, φ', S3, r2, sat_next (e'.trans e3) h' fun env5 st5 F5 φ5 σ5 H5 e5 S5 r5 h5 => ?_⟩⟩
        exact ⟨F5, φ5, st5, env5, (e'.trans e3).trans e5, S5, r5, h5⟩
    · exact h'.elim
  · rw [List.drop_length] at h'
    unfold forL at h'
    split at h'
    · exact h' F' φ' H' e' S' σ' r'
    · exact h'.elim

theorem oks_setLc (w : WFS X C G XR E) {i : Nat} {e : ME} {y : Str} {q : Pos} {elt : Expr} {gs : List Comprehension} {scope : Scope} {pos sp : Pos}
    (hs : C.slot i y = true) (hy : C.sc.names.lookup y = some .local) (hl : (q.line == pos.line) = true) (ha : (scope.names.any fun p => p.1 == y && (p.2 == .local || p.2 == .cell)) = false) (he : (match e with | .lc .. => true | _ => false) = true)
    (hc : chk C e (.ListComp elt gs scope pos) = true) : PS X (.Assign [.Name y q] (.ListComp elt gs scope pos) sp) (rS X.K XR E (sv G (.setLc i e))) := by
  cases e with
  | lc c own tg it cond el =>
    unfold chk at hc
    split at hc
    · rename_i x t i' ifs sc' pos' heq
      cases heq
      simp only [Bool.and_eq_true] at hc
      obtain ⟨⟨h1, h2⟩, ⟨⟨h3, h4⟩, h5⟩, h6⟩ := hc
      have hb := blkOk_by h1
      rw [← w.wf.N, ← w.wf.sc] at hb
      have hyl : X.env.scope.names.lookup y = some .local := by rw [w.wf.sc]; exact hy
      obtain ⟨_, hN⟩ := slot_of hs
      refine PS.imp (ps_setLc (i := i) (g := gI X.K tg) (tt := rT X.K XR E0 fun env st => truR (evc G cond env st)) (te := rE X.K XR E0 (ev G el)) w.wf.calm w.wf.nd (by rw [w.wf.N]; exact hN) hyl (sw_true w.kind hyl hl ha) (sndi it w.wf h4) hb
        (fun s H Ca cl fp => ok_tgI (w.wf.blk s H _ cl Ca fp) h3) (fun s H Ca cl fp => sndc cond (w.wf.blk s H _ cl Ca fp) h5) (fun s H Ca cl fp => (snd el (w.wf.blk s H _ cl Ca fp) h6).pe) (chki_folded h4 X.env)) fun De σ H hq => ?_
      rw [w.wf.N, own_map]
      refine lc_sat (c := c) (iter := default) (t := default) (x := default) (ifs := []) (fun j hj => by simpa using List.all_eq_true.mp h2 j hj) ?_
      obtain ⟨env, st, F, φ, S, r, hq⟩ := hq
      simp only [sv] at hq
      exact ⟨env, st, F, φ, S, r, Sat.bind hq fun d st1 F1 φ1 H1 e1 S1 h1 v rv => h1.ok S1 _ ((r.mono e1).set rv)⟩
    · cases hc
  | _ => cases he
mutual
theorem sndS (w : WFS X C G XR E) : ∀ (s : MS) {py : Stmt}, chkS C s py = true → PS X py (rS X.K XR E (sv G s))
  | .set t e, py, h => by
    unfold chkS at h
    split at h
    · simp only [Bool.and_eq_true, Bool.not_eq_true'] at h
      obtain ⟨⟨⟨⟨h1, h2⟩, h3⟩, h4⟩, h5⟩ := h
      exact oks_set w h1 h2 h3 h4 (snd e w.wf h5)
    · cases h
  | .setLc i e, py, h => by
    unfold chkS at h
    split at h
    · simp only [Bool.and_eq_true, decide_eq_true_eq, Bool.not_eq_true'] at h
      obtain ⟨⟨⟨⟨⟨h1, h2⟩, h3⟩, h4⟩, h5⟩, h6⟩ := h
      exact oks_setLc w h1 h2 h3 h4 h5 h6
    · cases h
  | .setIx o i v, py, h => by
    unfold chkS at h
    split at h
    · simp only [Bool.and_eq_true, Bool.not_eq_true'] at h
      obtain ⟨⟨⟨⟨h1, h2⟩, h3⟩, h4⟩, h5⟩ := h
      exact oks_setIx h1 h2 (snd o w.wf h3) (snd i w.wf h4) (snd v w.wf h5)
    · cases h
  | .app o e, py, h => by
    unfold chkS at h
    split at h
    · simp only [Bool.and_eq_true, decide_eq_true_eq] at h
      obtain ⟨⟨⟨⟨⟨h1, h2⟩, h3⟩, h4⟩, h5⟩, h6⟩ := h
      exact oks_app h1 h2 h3 h4 (snd o w.wf h5) (snd e w.wf h6)
    · cases h
  | .ex e, py, h => by
    unfold chkS at h
    split at h
    · simp only [Bool.and_eq_true, Bool.not_eq_true'] at h
      exact oks_ex h.1 (snd e w.wf h.2)
    · cases h
  | .ret e, py, h => by
    unfold chkS at h
    split at h
    · exact oks_ret (snd e w.wf h)
    · cases h
  | .retN, py, h => by
    unfold chkS at h
    split at h
    · exact oks_retN
    · cases h
  | .ife c a b, py, h => by
    unfold chkS at h
    split at h
    · simp only [Bool.and_eq_true] at h
      exact oks_ife (snd c w.wf h.1.1) (sndSs w a h.1.2) (sndSs w b h.2)
    · cases h
  | .loop t it b, py, h => by
    unfold chkS at h
    split at h
    · simp only [Bool.and_eq_true] at h
      exact oks_loop w h.1.1 h.1.2 (sndSs w b h.2)
    · cases h
  | .pass, py, h => by
    unfold chkS at h
    split at h
    · exact oks_pass
    · cases h
  | .brk, py, h => by
    unfold chkS at h
    split at h
    · exact oks_brk
    · cases h
  | .cont, py, h => by
    unfold chkS at h
    split at h
    · exact oks_cont
    · cases h
theorem sndSs (w : WFS X C G XR E) : ∀ (ss : MSs) {py : List Stmt}, chkSs C ss py = true → PSs X py (rS X.K XR E (svs G ss))
  | .nil, [], h => oks_nil
  | .cons s r, x :: xs, h => by
    simp only [chkSs, Bool.and_eq_true] at h
    exact oks_cons (sndS w s h.1) (sndSs w r h.2)
  | .nil, _ :: _, h => by simp [chkSs] at h
  | .cons _ _, [], h => by simp [chkSs] at h
end
end
end MP

set_option Elab.async false
set_option linter.all false
set_option autoImplicit false
set_option maxRecDepth 100000
set_option maxHeartbeats 2000000
/-! defs -/
namespace MP
open PySem PySem.Spec PyProof.Rows L2

structure Def where
  name : Str
  N : List Str
  np : Nat
  body : MSs
  st : Stmt
/-- a call's end: the cells that it made dropped -/
def finD (n : Nat) (d : D) (st : Store) : R D := if dBelow n d = true then .ok d (gc n st) else .ok d st
def finR (n : Nat) (r : R Fl) : R D :=
  match r with
  | .ok (.nx _) st => finD n (.p .none) st
  | .ok (.rt d) st => finD n d st
  | .ex e st => .ex e (gc n st)
  | _ => .bad
/-- the names at the entry -/
def env0 (n : Nat) (ds : List D) : Env := ds.map some ++ List.replicate (n - ds.length) none
noncomputable def fnSem (G : Sem1) (d : Def) (ds : List D) (st : Store) : R D :=
  if ds.length = d.np then finR st.length (svs G d.body (env0 d.N.length ds) st) else .bad
noncomputable def semK (defs : List Def) : Nat → Sem1
  | 0, _, _, _ => .bad
  | k + 1, i, ds, st => match defs[i]? with
    | some d => fnSem (semK defs k) d ds st
    | none => .bad
def scC (d : Def) : Bool :=
  let sc := defScope d.st
  decide (sc.kind = .function) && !sc.isCoroutine && !sc.isGenerator && decide d.N.Nodup && decide (d.N.take (d.N.take d.np).length = d.N.take d.np) && decide (d.np ≤ d.N.length) &&
    (d.N.take d.np).all (fun x => decide (sc.names.lookup x = some .local ∨ sc.names.lookup x = some .cell)) && sc.names.all (fun y => decide (y.2 ≠ .free))
theorem scC_of {d : Def} (h : scC d = true) : FnScope d.N (d.N.take d.np) (defScope d.st) ∧ (d.N.take d.np).length = d.np := by
  unfold scC at h
  simp only [Bool.and_eq_true, decide_eq_true_eq, Bool.not_eq_true', List.all_eq_true] at h
  obtain ⟨⟨⟨⟨⟨⟨⟨h1, h2⟩, h3⟩, h4⟩, h5⟩, h6⟩, h7⟩, h8⟩ := h
  exact ⟨⟨h1, h2, h3, h4, h5, h7, h8⟩, by rw [List.length_take]; omega⟩
/-- what is checked of a def's text -/
def ctxOf (defs : List Def) (glbs : List (Str × PyData)) (gds : List (Str × List (Str × PyData))) (bl : List Str) (d : Def) : Ctx := { N := d.N, sc := defScope d.st, fnC := true, glbs := glbs, gds := gds, fns := defs.map (·.name), bl := bl }
def defC (defs : List Def) (glbs : List (Str × PyData)) (gds : List (Str × List (Str × PyData))) (bl : List Str) (d : Def) : Bool := scC d && chkSs (ctxOf defs glbs gds bl d) d.body (defBody d.st)
/-- where a def stands behind the top -/
def FunAt (K : PySem.W.Frag) (mg : Str → Option Value) (d : Def) : Prop := ∃ fa fd, Fun K d.name d.name d.st fa fd ∧ mg d.name = some (.ref fa) ∧ Binds K fd (d.N.take d.np) []
structure Mods (K : PySem.W.Frag) (w : World) (mg : Str → Option Value) (defs : List Def) (glbs : List (Str × PyData)) (gds : List (Str × List (Str × PyData))) (bl : List Str) : Prop where
  fns : ∀ d ∈ defs, FunAt K mg d
  glb : ∀ x d, glbs.lookup x = some d → ∃ u v, mg x = some u ∧ RelV v u ∧ Dp K (fun _ => none) v d
  gds : ∀ x kvs, gds.lookup x = some kvs → ∃ p, mg x = some (.ref p) ∧ ∀ z d, kvs.lookup z = some d → ∃ v, KDct K w p z v ∧ Dp K (fun _ => none) v d
  bl : ∀ x, x ∈ bl → mg x = none
section
variable {P : Program} {w : World} {K : PySem.W.Frag} {mg : Str → Option Value} {base : Heap} {XR : Exc → Value → Option Addr → Hp → Prop} {E : XK}
theorem er_start {F : Hp} {φ : List Addr} {N : List Str} {vs : List V} {ds : List D} (r : RDs K F φ vs ds) : ER K F φ (env0 N.length ds) (L2.start N vs) := by
  have hl := rds_length r
  unfold env0 L2.start
  refine ⟨by simp [hl], fun i d hi => ?_⟩
  by_cases hz : i < ds.length
  · rw [List.getElem?_append_left (by simpa using hz), List.getElem?_map] at hi
    obtain ⟨e, h1, h2⟩ := Option.map_eq_some_iff.mp hi
    cases h2
    obtain ⟨v, h3, h4⟩ := rds_get r h1
    refine ⟨v, ?_, h4⟩
    rw [List.getElem?_append_left (by simp; omega), List.getElem?_map, h3]
    rfl
  · rw [List.getElem?_append_right (by simp; omega), List.getElem?_replicate] at hi
    split at hi <;> cases hi
theorem sat_fin {r : R Fl} {F H : Hp} {φ : List Addr} {st : Store} {Q : VK} (S : SR K F φ st H) (h : Sat K XR E (QE K Q) F φ (finR st.length r))
    (hx : ∀ e cls oa H', XR e cls oa H' → True := by intros; trivial) : Sat K XR E (QS K { nx := fun _ H' => Q .non H', rt := Q }) F φ r := by
  have back : ∀ {F' H' : Hp} {φ' φ2 : List Addr}, Ext F φ F' φ' → (φ2 = φ' ∨ φ2 = φ'.take st.length) → Ext F φ F' φ2 := by
    intro F' H' φ' φ2 x hφ
    refine ⟨x.sub, ?_⟩
    rcases hφ with rfl | rfl
    · exact x.pre
    · rw [← S.len]; exact pre_take x.pre
  have key : ∀ d st', Sat K XR E (QE K Q) F φ (finD st.length d st') → ∀ F' φ' H', Ext F φ F' φ' → SR K F' φ' st' H' → ∀ v, RD K F' φ' v d → Q v H' := by
    intro d st' h F' φ' H' x S' v rv
    unfold finD at h
    split at h
    · rename_i hb
      obtain ⟨φ2, S2, hφ, low⟩ := S'.gc st.length
      exact h F' φ2 H' (back (H' := H') x hφ) S2 v (low v d rv hb)
    · exact h F' φ' H' x S' v rv
  cases r with
  | bad => exact h.elim
  | ex c st' =>
    intro F' φ' H' cls oa x S' hxr
    obtain ⟨φ2, S2, hφ, _⟩ := S'.gc st.length
    exact h F' φ2 H' cls oa (back (H' := H') x hφ) S2 hxr
  | ok f st' =>
    cases f with
    | nx env => exact fun F' φ' H' x S' σ' _ => key _ _ h F' φ' H' x S' .non rd_non
    | rt d => exact fun F' φ' H' x S' v rv => key _ _ h F' φ' H' x S' v rv
    | bk env => exact h.elim
    | ct env => exact h.elim
theorem dp_of_ints {K : PySem.W.Frag} {F : Hp} : ∀ ns : List Int, DpAll K F (ns.map V.int) (ns.map PyData.int)
  | [] => .nil
  | n :: r => .cons (.int n) (dp_of_ints r)
/-- each def keeps its meaning, k calls deep -/
theorem fnOk {defs : List Def} {glbs : List (Str × PyData)} {gds : List (Str × List (Str × PyData))} {bl : List Str} (M : Mods K w mg defs glbs gds bl) (hc : ∀ d ∈ defs, defC defs glbs gds bl d = true) : ∀ (k : Nat) (i : Nat) (d : Def), defs[i]? = some d → ∀ fa fd, Fun K d.name d.name d.st fa fd →
    FnOk P w K mg base (L2.CX P w) k fa fd (d.N.take d.np) (spOf K XR (semK defs k i))
  | 0, i, d, hd, fa, fd, F => by
    refine ⟨fun vs H Q E h => ?_, fun A outer s H args us vs Q E hr e0 hb r h => ?_⟩
    · obtain ⟨_, _, _, _, _, _, h⟩ := h
      exact h.elim
    · obtain ⟨_, _, _, _, _, _, h⟩ := h
      exact h.elim
  | k + 1, i, d, hd, fa, fd, F => by
    have hdm := List.mem_of_getElem? hd
    have hcd := hc d hdm
    unfold defC at hcd
    rw [Bool.and_eq_true] at hcd
    obtain ⟨hsc, hlen⟩ := scC_of hcd.1
    have sem_eq : ∀ ds st, semK defs (k + 1) i ds st = fnSem (semK defs k) d ds st := fun ds st => by
      show (match defs[i]? with | some d => fnSem (semK defs k) d ds st | none => .bad) = _
      rw [hd]
    refine F.okX hsc (fun vs H Q E h => ?_) (fun cdv A outer s H vs Q E hr h => ?_)
    · obtain ⟨ds, st, F', φ, S, r, h⟩ := h
      rw [sem_eq] at h
      unfold fnSem at h
      split at h
      · rename_i e
        rw [rds_length r, e, hlen]
      · exact h.elim
    · obtain ⟨ds, st, F', φ, S, r, h⟩ := h
      rw [sem_eq] at h
      unfold fnSem at h
      split at h
      · have tk : Takes (cxOf (L2.CX P w) P w K mg base d.N d.name (defScope d.st) fa cdv A outer s H E) fun cls d σ H => E cls d H := takes_of rfl rfl rfl rfl
        have wf : WF (cxOf (L2.CX P w) P w K mg base d.N d.name (defScope d.st) fa cdv A outer s H E) (ctxOf defs glbs gds bl d) (semK defs k) XR E := by
          refine ⟨rfl, rfl, hsc.nd, rfl, fun _ _ => rfl, M.glb, M.gds, M.bl, fun j f hj => ?_, passes_call tk fun cls d σ H h => h, ?_⟩
          · have hj : (defs.map (·.name))[j]? = some f := hj
            rw [List.getElem?_map] at hj
            obtain ⟨d', h1, rfl⟩ := Option.map_eq_some_iff.mp hj
            obtain ⟨fa', fd', F2, hm, hb⟩ := M.fns d' (List.mem_of_getElem? h1)
            exact ⟨k, fa', fd', d'.N.take d'.np, fnOk M hc k j d' h1 fa' fd' F2, hr, hm, F2.kp, hb⟩
          · have := hr.un
            show (A.deeper _).units + 200 < cLine
            omega
        have wfs : WFS (cxOf (L2.CX P w) P w K mg base d.N d.name (defScope d.st) fa cdv A outer s H E) (ctxOf defs glbs gds bl d) (semK defs k) XR E := ⟨wf, passes_of rfl, hsc.kind⟩
        refine ⟨_, sndSs wfs d.body hcd.2, env0 d.N.length ds, st, F', φ, S, er_start r, sat_fin S h⟩
      · exact h.elim
end
end MP

set_option Elab.async false
set_option linter.all false
set_option autoImplicit false
set_option maxRecDepth 100000
set_option maxHeartbeats 1000000
/-! what holds behind a reading: a plain calculus -/
namespace MP
open PySem PySem.Spec PyProof.Rows L2

def wp {α : Type} (r : R α) (Q : α → Store → Prop) : Prop :=
  match r with
  | .ok a st => Q a st
  | _ => False
section
variable {α β : Type} {Q : α → Store → Prop}
@[simp] theorem wp_ok (a : α) (st : Store) : wp (.ok a st) Q = Q a st := Eq.trans rfl rfl
@[simp] theorem wp_bad : wp (.bad : R α) Q = False := Eq.trans rfl rfl
@[simp] theorem wp_ex (e : Exc) (st : Store) : wp (.ex e st : R α) Q = False := Eq.trans rfl rfl
@[simp] theorem wp_bind (r : R α) (k : α → Store → R β) (Q : β → Store → Prop) : wp (r.bind k) Q = wp r fun a st => wp (k a st) Q := by cases r <;> rfl
theorem wp_mono {r : R α} {Q' : α → Store → Prop} (h : wp r Q) (i : ∀ a st, Q a st → Q' a st) : wp r Q' := by
  cases r with
  | ok a st => exact i a st h
  | _ => exact h
theorem wp_elim {r : R α} (h : wp r Q) : ∃ a st, r = .ok a st ∧ Q a st := by
  cases r with
  | ok a st => exact ⟨a, st, rfl, h⟩
  | _ => exact h.elim
@[simp] theorem wp_noEx (r : R α) : wp (noEx r) Q = wp r Q := by cases r <;> rfl
@[simp] theorem wp_ite (c : Prop) [Decidable c] (a b : R α) : wp (if c then a else b) Q = if c then wp a Q else wp b Q := by split <;> rfl
end
def QF (Q : Fl → Store → Prop) (k : Env → Store → Prop) : Fl → Store → Prop
  | .nx env, st => k env st
  | f, st => Q f st
@[simp] theorem QF_nx (Q : Fl → Store → Prop) (k : Env → Store → Prop) (env : Env) (st : Store) : QF Q k (.nx env) st = k env st := Eq.trans rfl rfl
@[simp] theorem QF_rt (Q : Fl → Store → Prop) (k : Env → Store → Prop) (d : D) (st : Store) : QF Q k (.rt d) st = Q (.rt d) st := Eq.trans rfl rfl
@[simp] theorem QF_bk (Q : Fl → Store → Prop) (k : Env → Store → Prop) (env : Env) (st : Store) : QF Q k (.bk env) st = Q (.bk env) st := Eq.trans rfl rfl
@[simp] theorem QF_ct (Q : Fl → Store → Prop) (k : Env → Store → Prop) (env : Env) (st : Store) : QF Q k (.ct env) st = Q (.ct env) st := Eq.trans rfl rfl
@[simp] theorem wp_then (r : R Fl) (k : Env → Store → R Fl) (Q : Fl → Store → Prop) : wp (thenR r k) Q = wp r (QF Q fun env st => wp (k env st) Q) := by
  cases r with
  | ok f st => cases f <;> rfl
  | _ => rfl
/-- a loop's turn -/
def QN (Q : Fl → Store → Prop) (k : Env → Store → Prop) : Fl → Store → Prop
  | .nx env, st => k env st
  | .ct env, st => k env st
  | .bk env, st => Q (.nx env) st
  | .rt d, st => Q (.rt d) st
@[simp] theorem QN_nx (Q : Fl → Store → Prop) (k : Env → Store → Prop) (env : Env) (st : Store) : QN Q k (.nx env) st = k env st := Eq.trans rfl rfl
@[simp] theorem QN_rt (Q : Fl → Store → Prop) (k : Env → Store → Prop) (d : D) (st : Store) : QN Q k (.rt d) st = Q (.rt d) st := Eq.trans rfl rfl
@[simp] theorem QN_bk (Q : Fl → Store → Prop) (k : Env → Store → Prop) (env : Env) (st : Store) : QN Q k (.bk env) st = Q (.nx env) st := Eq.trans rfl rfl
@[simp] theorem QN_ct (Q : Fl → Store → Prop) (k : Env → Store → Prop) (env : Env) (st : Store) : QN Q k (.ct env) st = k env st := Eq.trans rfl rfl
theorem wp_next (r : R Fl) (k : Env → Store → R Fl) (Q : Fl → Store → Prop) : wp (nextR r k) Q = wp r (QN Q fun env st => wp (k env st) Q) := by
  cases r with
  | ok f st => cases f <;> rfl
  | _ => rfl
def QT1 (Q : Bool → Store → Prop) : D → Store → Prop := fun d st => ∃ k, tru d st = some k ∧ Q k st
@[simp] theorem wp_truR (r : R D) (Q : Bool → Store → Prop) : wp (truR r) Q = wp r (QT1 Q) := by
  unfold truR
  rw [wp_bind]
  congr 1
  funext d st
  unfold QT1
  cases tru d st with
  | none => simp
  | some k => simp
@[simp] theorem QT1_bool (Q : Bool → Store → Prop) (b : Bool) (st : Store) : QT1 Q (.p (.bool b)) st = Q b st := by
  unfold QT1; simp [tru]
/-- the end of a call -/
def QE1 (n : Nat) (Q : D → Store → Prop) : Fl → Store → Prop
  | .nx _, st => wp (finD n (.p .none) st) Q
  | .rt d, st => wp (finD n d st) Q
  | _, _ => False
@[simp] theorem wp_fin (n : Nat) (r : R Fl) (Q : D → Store → Prop) : wp (finR n r) Q = wp r (QE1 n Q) := by
  cases r with
  | ok f st => cases f <;> rfl
  | _ => rfl
@[simp] theorem QE1_nx (n : Nat) (Q : D → Store → Prop) (env : Env) (st : Store) : QE1 n Q (.nx env) st = wp (finD n (.p .none) st) Q := Eq.trans rfl rfl
@[simp] theorem QE1_rt (n : Nat) (Q : D → Store → Prop) (d : D) (st : Store) : QE1 n Q (.rt d) st = wp (finD n d st) Q := Eq.trans rfl rfl
theorem wp_finP {n : Nat} {x : PyData} {st : Store} {Q : D → Store → Prop} : wp (finD n (.p x) st) Q = Q (.p x) (gc n st) := Eq.trans rfl rfl
/-- a call -/
theorem wp_sem {defs : List Def} {k i : Nat} {d : Def} (h : defs[i]? = some d) {ds : List D} {st : Store} {Q : D → Store → Prop} (hl : ds.length = d.np)
    (hw : wp (svs (semK defs k) d.body (env0 d.N.length ds) st) (QE1 st.length Q)) : wp (semK defs (k + 1) i ds st) Q := by
  have e : semK defs (k + 1) i ds st = fnSem (semK defs k) d ds st := by
    show (match defs[i]? with | some d => fnSem (semK defs k) d ds st | none => .bad) = _
    rw [h]
  rw [e, fnSem, if_pos hl, wp_fin]
  exact hw
/-- the cells above are dropped -/
theorem gc_app {st ex : Store} (h : st.all (cellBelow st.length) = true) : gc st.length (st ++ ex) = st := by
  unfold gc
  rw [List.take_left, if_pos h]
theorem gc_at {n : Nat} {st ex : Store} (e : n = st.length) (h : st.all (cellBelow n) = true) : gc n (st ++ ex) = st := by
  subst e; exact gc_app h
theorem gc_self {n : Nat} {st : Store} (e : n = st.length) : gc n st = st := by
  subst e; unfold gc; rw [List.take_length]; split <;> rfl
/-- a loop over items, an invariant by the place -/
theorem wp_for {gd : Store → Prop} {tg : MT} {body : Env → Store → R Fl} {Q : Fl → Store → Prop} (I : Nat → Env → Store → Prop) (its : List Itm)
    (hg : ∀ j env st, I j env st → gd st)
    (hb : ∀ j (h : j < its.length) env st, I j env st → ∃ env1, bindI tg its[j] env = some env1 ∧ wp (body env1 st) (QN Q (I (j + 1))))
    (he : ∀ env st, I its.length env st → Q (.nx env) st) : ∀ (n j : Nat) (env : Env) (st : Store), j + n = its.length → I j env st → wp (forL gd tg body (its.drop j) env st) Q
  | 0, j, env, st, e, hi => by
    have : its.drop j = [] := List.drop_of_length_le (by omega)
    rw [this]
    unfold forL
    rw [if_pos (hg j env st hi)]
    have e : j = its.length := by omega
    subst e
    exact he env st hi
  | n + 1, j, env, st, e, hi => by
    have hj : j < its.length := by omega
    have : its.drop j = its[j] :: its.drop (j + 1) := List.drop_eq_getElem_cons hj
    rw [this]
    unfold forL
    rw [if_pos (hg j env st hi)]
    obtain ⟨env1, h1, h2⟩ := hb j hj env st hi
    rw [h1]
    show wp (nextR _ _) Q
    rw [wp_next]
    refine wp_mono h2 fun f st' h => ?_
    have ih := fun env st => wp_for I its hg hb he n (j + 1) env st (by omega)
    cases f with
    | nx env' => exact ih env' st' h
    | ct env' => exact ih env' st' h
    | rt d => exact h
    | bk env' => exact h
theorem wp_for0 {gd : Store → Prop} {tg : MT} {body : Env → Store → R Fl} {Q : Fl → Store → Prop} (I : Nat → Env → Store → Prop) {its : List Itm} {env : Env} {st : Store} (h0 : I 0 env st)
    (hg : ∀ j env st, I j env st → gd st)
    (hb : ∀ j (h : j < its.length) env st, I j env st → ∃ env1, bindI tg its[j] env = some env1 ∧ wp (body env1 st) (QN Q (I (j + 1))))
    (he : ∀ env st, I its.length env st → Q (.nx env) st) : wp (forL gd tg body its env st) Q := by
  have := wp_for I its hg hb he its.length 0 env st (by omega) h0
  rwa [List.drop_zero] at this
/-- .. a comprehension -/
theorem wp_lc {gd : Store → Prop} {n : Nat} {tg : MT} {cond elt : MD} {env0 : Env} {Q : Unit → Store → Prop} (I : Nat → List D → Store → Prop) (its : List Itm)
    (hn : ∀ j acc st, I j acc st → cellL st n = some acc)
    (hg : ∀ j acc st, I j acc st → gd st)
    (hb : ∀ j (h : j < its.length) acc st, I j acc st → ∃ env1, bindI tg its[j] env0 = some env1 ∧ wp (cond env1 st) (QT1 fun b st1 => if b = true then wp (elt env1 st1) fun d st2 => ∃ acc', cellL st2 n = some acc' ∧ acc'.length < SZ ∧ I (j + 1) (acc' ++ [d]) (st2.set n (.lst (acc' ++ [d])))
        else ∃ acc', I (j + 1) acc' st1))
    (he : ∀ acc st, I its.length acc st → Q () st) : ∀ (m j : Nat) (acc : List D) (st : Store), j + m = its.length → I j acc st → wp (lcL gd n tg cond elt env0 (its.drop j) st) Q
  | 0, j, acc, st, e, hi => by
    have : its.drop j = [] := List.drop_of_length_le (by omega)
    rw [this]
    unfold lcL
    rw [if_pos (hg j acc st hi)]
    have e : j = its.length := by omega
    subst e
    exact he acc st hi
  | m + 1, j, acc, st, e, hi => by
    have hj : j < its.length := by omega
    have : its.drop j = its[j] :: its.drop (j + 1) := List.drop_eq_getElem_cons hj
    rw [this]
    unfold lcL
    rw [if_pos (hg j acc st hi)]
    obtain ⟨env1, h1, h2⟩ := hb j hj acc st hi
    rw [h1]
    have ih := fun acc st => wp_lc I its hn hg hb he m (j + 1) acc st (by omega)
    simp only [wp_bind, wp_noEx, wp_truR]
    refine wp_mono h2 fun d st1 ⟨k, hk, h3⟩ => ⟨k, hk, ?_⟩
    cases k with
    | true =>
      simp only [if_true, wp_bind, wp_noEx] at h3 ⊢
      refine wp_mono h3 fun d st2 ⟨acc', h4, h5, h6⟩ => ?_
      rw [h4]
      simp only [wp_ite]
      rw [if_pos h5]
      exact ih _ _ h6
    | false =>
      obtain ⟨acc', h4⟩ := h3
      exact ih acc' st1 h4
/-- a comprehension that changes nothing else: the values are a map of the items that stay -/
theorem wp_lcMap {gd : Store → Prop} {tg : MT} {cond elt : MD} {env0 : Env} {Q : Unit → Store → Prop} {its : List Itm} {base : Store} (f : Itm → D)
    (hg : ∀ acc, gd (base ++ [.lst acc])) (hz : its.length ≤ SZ)
    (hb : ∀ it ∈ its, ∀ acc, ∃ env1, bindI tg it env0 = some env1 ∧ cond env1 (base ++ [.lst acc]) = .ok (.p (.bool true)) (base ++ [.lst acc]) ∧ elt env1 (base ++ [.lst acc]) = .ok (f it) (base ++ [.lst acc]))
    (he : Q () (base ++ [.lst (its.map f)])) : wp (lcL gd base.length tg cond elt env0 its (base ++ [.lst []])) Q := by
  have hc : ∀ acc, cellL (base ++ [Cell.lst acc]) base.length = some acc := fun acc => by
    unfold cellL
    rw [List.getElem?_concat_length]
  have := wp_lc (gd := gd) (n := base.length) (tg := tg) (cond := cond) (elt := elt) (env0 := env0) (Q := Q) (fun j acc st => acc = (its.take j).map f ∧ st = base ++ [.lst acc]) its (fun j acc st h => by rw [h.2]; exact hc acc) (fun j acc st h => by rw [h.2]; exact hg acc)
    (fun j hj acc st h => by
      obtain ⟨h1, rfl⟩ := h
      obtain ⟨env1, q1, q2, q3⟩ := hb its[j] (List.getElem_mem hj) acc
      refine ⟨env1, q1, ?_⟩
      rw [q2, wp_ok, QT1_bool, if_pos rfl, q3, wp_ok]
      refine ⟨acc, hc acc, ?_, ?_, ?_⟩
      · rw [h1, List.length_map, List.length_take]; omega
      · rw [h1, List.take_succ_eq_append_getElem hj, List.map_append]; rfl
      · rw [List.set_append_right _ _ (Nat.le_refl _)]; simp)
    (fun acc st h => by
      obtain ⟨h1, rfl⟩ := h
      rw [List.take_length] at h1
      rw [h1]
      exact he) its.length 0 [] (base ++ [.lst []]) (by omega) ⟨rfl, rfl⟩
  rwa [List.drop_zero] at this
theorem wp_lc0 {gd : Store → Prop} {n : Nat} {tg : MT} {cond elt : MD} {env0 : Env} {Q : Unit → Store → Prop} (I : Nat → List D → Store → Prop) {its : List Itm} {st : Store} (h0 : I 0 [] st)
    (hn : ∀ j acc st, I j acc st → cellL st n = some acc)
    (hg : ∀ j acc st, I j acc st → gd st)
    (hb : ∀ j (h : j < its.length) acc st, I j acc st → ∃ env1, bindI tg its[j] env0 = some env1 ∧ wp (cond env1 st) (QT1 fun b st1 => if b = true then wp (elt env1 st1) fun d st2 => ∃ acc', cellL st2 n = some acc' ∧ acc'.length < SZ ∧ I (j + 1) (acc' ++ [d]) (st2.set n (.lst (acc' ++ [d])))
        else ∃ acc', I (j + 1) acc' st1))
    (he : ∀ acc st, I its.length acc st → Q () st) : wp (lcL gd n tg cond elt env0 its st) Q := by
  have := wp_lc I its hn hg hb he its.length 0 [] st (by omega) h0
  rwa [List.drop_zero] at this

/-! operations on known kinds (as equations that are not unfolded again) -/
section
variable {st : Store}
theorem nr {α : Sort _} {a b : α} (h : a = b) : a = b := Eq.trans h rfl
theorem e_add (i j : Int) : binD .Add (.p (.int i)) (.p (.int j)) st = .ok (.p (.int (i + j))) st := nr rfl
theorem e_sub (i j : Int) : binD .Sub (.p (.int i)) (.p (.int j)) st = .ok (.p (.int (i - j))) st := nr rfl
theorem e_mul (i j : Int) : binD .Mult (.p (.int i)) (.p (.int j)) st = if mulOk i j = true then .ok (.p (.int (i * j))) st else .bad := nr rfl
theorem e_div (i j : Int) : binD .FloorDiv (.p (.int i)) (.p (.int j)) st = if 0 < j ∧ j < 2 ^ 100 then .ok (.p (.int (i / j))) st else .bad := nr rfl
theorem e_mod (i j : Int) : binD .Mod (.p (.int i)) (.p (.int j)) st = if 0 < j then .ok (.p (.int (i % j))) st else .bad := nr rfl
theorem e_pow18 : binD .Pow (.p (.int 10)) (.p (.int 18)) st = .ok (.p (.int 1000000000000000000)) st := by
  simp [binD, powD]
theorem e_pow17 : binD .Pow (.p (.int 10)) (.p (.int 17)) st = .ok (.p (.int 100000000000000000)) st := by
  simp [binD, powD]
theorem e_pow12 : binD .Pow (.p (.int 10)) (.p (.int 12)) st = .ok (.p (.int 1000000000000)) st := by
  simp [binD, powD]
theorem e_lt (i j : Int) : cmpD .Lt (.p (.int i)) (.p (.int j)) st = .ok (.p (.bool (decide (i < j)))) st := nr rfl
theorem e_gt (i j : Int) : cmpD .Gt (.p (.int i)) (.p (.int j)) st = .ok (.p (.bool (decide (j < i)))) st := nr rfl
theorem e_le (i j : Int) : cmpD .LtE (.p (.int i)) (.p (.int j)) st = .ok (.p (.bool (!decide (j < i)))) st := nr rfl
theorem e_ge (i j : Int) : cmpD .GtE (.p (.int i)) (.p (.int j)) st = .ok (.p (.bool (!decide (i < j)))) st := nr rfl
theorem e_eqi (i j : Int) : cmpD .Eq (.p (.int i)) (.p (.int j)) st = .ok (.p (.bool (i == j))) st := nr rfl
theorem e_nei (i j : Int) : cmpD .NotEq (.p (.int i)) (.p (.int j)) st = .ok (.p (.bool (!(i == j)))) st := nr rfl
theorem e_eqs (i j : Str) : cmpD .Eq (.p (.str i)) (.p (.str j)) st = .ok (.p (.bool (i == j))) st := nr rfl
theorem e_nes (i j : Str) : cmpD .NotEq (.p (.str i)) (.p (.str j)) st = .ok (.p (.bool (!(i == j)))) st := nr rfl
theorem mulOk_r {i j : Int} (h : j.natAbs < 18446744073709551616) : mulOk i j = true := by
  unfold mulOk
  rw [Bool.or_eq_true]
  exact .inr (decide_eq_true h)
theorem mulOk_l {i j : Int} (h : i.natAbs < 18446744073709551616) : mulOk i j = true := by
  unfold mulOk
  rw [Bool.or_eq_true]
  exact .inl (decide_eq_true h)
theorem wp_if {α : Type} {c : Prop} [Decidable c] {a b : R α} {Q : α → Store → Prop} (hc : c) (h : wp a Q) : wp (if c then a else b) Q := by rw [if_pos hc]; exact h
end
section
variable {G : Sem1}
theorem e_ev_var (i : Nat) (env : Env) (st : Store) : ev G (ME.var i) env st = (varD env i st) := nr rfl
theorem e_ev_lit (x : PyData) (env : Env) (st : Store) : ev G (ME.lit x) env st = (.ok (.p x) st) := nr rfl
theorem e_ev_glb (x : PyData) (env : Env) (st : Store) : ev G (ME.glb x) env st = (.ok (.p x) st) := nr rfl
theorem e_ev_gix (kvs : List (Str × PyData)) (e : ME) (env : Env) (st : Store) : ev G (ME.gix kvs e) env st = ((ev G e env st).bind fun x st => gixD kvs x st) := nr rfl
theorem e_ev_bin (o : Operator) (a b : ME) (env : Env) (st : Store) : ev G (ME.bin o a b) env st = ((ev G a env st).bind fun x st => (ev G b env st).bind fun y st => binD o x y st) := nr rfl
theorem e_ev_neg (a : ME) (env : Env) (st : Store) : ev G (ME.neg a) env st = ((ev G a env st).bind fun x st => negD x st) := nr rfl
theorem e_ev_not (a : ME) (env : Env) (st : Store) : ev G (ME.not a) env st = ((truR (ev G a env st)).bind fun k st => .ok (.p (.bool (!k))) st) := nr rfl
theorem e_ev_and (a b : ME) (env : Env) (st : Store) : ev G (ME.and a b) env st = ((ev G a env st).bind fun x st => match tru x st with
    | some true => ev G b env st
    | some false => .ok x st
    | none => .bad) := nr rfl
theorem e_ev_or (a b : ME) (env : Env) (st : Store) : ev G (ME.or a b) env st = ((ev G a env st).bind fun x st => match tru x st with
    | some true => .ok x st
    | some false => ev G b env st
    | none => .bad) := nr rfl
theorem e_ev_one (a : ME) (env : Env) (st : Store) : ev G (ME.one a) env st = (ev G a env st) := nr rfl
theorem e_ev_cmp (o : CmpOp) (a b : ME) (env : Env) (st : Store) : ev G (ME.cmp o a b) env st = ((ev G a env st).bind fun x st => (ev G b env st).bind fun y st => cmpD o x y st) := nr rfl
theorem e_ev_cmp2 (o o2 : CmpOp) (a b c : ME) (env : Env) (st : Store) : ev G (ME.cmp2 o o2 a b c) env st = ((ev G a env st).bind fun x st => (ev G b env st).bind fun y st => (cmpD o x y st).bind fun k st => match k with
    | .p (.bool true) => (ev G c env st).bind fun z st => cmpD o2 y z st
    | .p (.bool false) => .ok (.p (.bool false)) st
    | _ => .bad) := nr rfl
theorem e_ev_ife (c a b : ME) (env : Env) (st : Store) : ev G (ME.ife c a b) env st = ((truR (ev G c env st)).bind fun k st => if k = true then ev G a env st else ev G b env st) := nr rfl
theorem e_ev_tup (es : MEs) (env : Env) (st : Store) : ev G (ME.tup es) env st = ((evs G es env st).bind fun ds st => if ds.length ≤ SZ then match pures ds with
    | some xs => .ok (.p (.tuple xs)) st
    | none => .bad
    else .bad) := nr rfl
theorem e_ev_lst (c : Bool) (es : MEs) (env : Env) (st : Store) : ev G (ME.lst c es) env st = ((evs G es env st).bind fun ds st => if ds.length ≤ SZ then mkL c ds st else .bad) := nr rfl
theorem e_ev_ix (a b : ME) (env : Env) (st : Store) : ev G (ME.ix a b) env st = ((ev G a env st).bind fun x st => (ev G b env st).bind fun y st => ixD x y st) := nr rfl
theorem e_ev_sl (a : ME) (lo hi : MO) (env : Env) (st : Store) : ev G (ME.sl a lo hi) env st = ((ev G a env st).bind fun x st => (evo G lo env st).bind fun l st => (evo G hi env st).bind fun h st => slD x l h st) := nr rfl
theorem e_ev_bi (f : Bi) (a : ME) (env : Env) (st : Store) : ev G (ME.bi f a) env st = ((ev G a env st).bind fun x st => bi1D f x st) := nr rfl
theorem e_ev_mx2 (m : Bool) (a b : ME) (env : Env) (st : Store) : ev G (ME.mx2 m a b) env st = ((ev G a env st).bind fun x st => (ev G b env st).bind fun y st => max2D m x y st) := nr rfl
theorem e_ev_isi (T : String) (a : ME) (env : Env) (st : Store) : ev G (ME.isi T a) env st = ((ev G a env st).bind fun x st => isiD T x st) := nr rfl
theorem e_ev_call (f : Nat) (es : MEs) (env : Env) (st : Store) : ev G (ME.call f es) env st = ((evs G es env st).bind fun ds st => G f ds st) := nr rfl
theorem e_ev_join (a b : ME) (env : Env) (st : Store) : ev G (ME.join a b) env st = ((ev G a env st).bind fun x st => match x with
    | .p (.str z) => (ev G b env st).bind fun y st => joinD z y st
    | _ => .bad) := nr rfl
theorem e_ev_lc (c : Bool) (own : List Nat) (tg : MT) (it : MI) (cond : MO) (elt : ME) (env : Env) (st : Store) : ev G (ME.lc c own tg it cond elt) env st = ((evi G it env st).bind fun p st1 =>
      (lcL p.2 st1.length tg (evc G cond) (ev G elt) (wipeE env own) p.1 (st1 ++ [.lst []])).bind fun _ st2 => lcEnd c st1.length st2) := nr rfl
theorem e_evs_nil  (env : Env) (st : Store) : evs G (MEs.nil) env st = (.ok [] st) := nr rfl
theorem e_evs_cons (e : ME) (r : MEs) (env : Env) (st : Store) : evs G (MEs.cons e r) env st = ((ev G e env st).bind fun x st => (evs G r env st).bind fun xs st => .ok (x :: xs) st) := nr rfl
theorem e_evo_none  (env : Env) (st : Store) : evo G (MO.none) env st = (.ok none st) := nr rfl
theorem e_evo_some (e : ME) (env : Env) (st : Store) : evo G (MO.some e) env st = ((ev G e env st).bind fun x st => match x with
    | .p (.int i) => .ok (some i) st
    | _ => .bad) := nr rfl
theorem e_evc_none  (env : Env) (st : Store) : evc G (MO.none) env st = (.ok (.p (.bool true)) st) := nr rfl
theorem e_evc_some (e : ME) (env : Env) (st : Store) : evc G (MO.some e) env st = (ev G e env st) := nr rfl
theorem e_evi_seq (e : ME) (env : Env) (st : Store) : evi G (MI.seq e) env st = ((ev G e env st).bind fun x st => seqI x st) := nr rfl
theorem e_evi_rng1 (a : ME) (env : Env) (st : Store) : evi G (MI.rng1 a) env st = ((ev G a env st).bind fun x st => match x with
    | .p (.int i) => rngI 0 i st
    | _ => .bad) := nr rfl
theorem e_evi_rng2 (a b : ME) (env : Env) (st : Store) : evi G (MI.rng2 a b) env st = ((ev G a env st).bind fun x st => (ev G b env st).bind fun y st => match x, y with
    | .p (.int i), .p (.int j) => rngI i j st
    | _, _ => .bad) := nr rfl
theorem e_evi_enum (a : ME) (env : Env) (st : Store) : evi G (MI.enum a) env st = ((ev G a env st).bind fun x st => enumI x st) := nr rfl
theorem e_evi_zip (a b : ME) (env : Env) (st : Store) : evi G (MI.zip a b) env st = ((ev G a env st).bind fun x st => (ev G b env st).bind fun y st => zipI x y st) := nr rfl
theorem e_sv_set (t : MT) (e : ME) (env : Env) (st : Store) : sv G (MS.set t e) env st = ((ev G e env st).bind fun d st => match bindD t d env with
    | some env => .ok (.nx env) st
    | none => .bad) := nr rfl
theorem e_sv_setLc (i : Nat) (e : ME) (env : Env) (st : Store) : sv G (MS.setLc i e) env st = ((ev G e env st).bind fun d st => .ok (.nx (env.set i (some d))) st) := nr rfl
theorem e_sv_setIx (o i v : ME) (env : Env) (st : Store) : sv G (MS.setIx o i v) env st = ((ev G v env st).bind fun x st => (ev G o env st).bind fun o st => (ev G i env st).bind fun i st => setIxD o i x env st) := nr rfl
theorem e_sv_app (o e : ME) (env : Env) (st : Store) : sv G (MS.app o e) env st = ((ev G o env st).bind fun o st => match o with
    | .c n => match cellL st n with
      | some _ => (ev G e env st).bind fun x st => match cellL st n with
        | some ds => if ds.length < SZ then .ok (.nx env) (st.set n (.lst (ds ++ [x]))) else .bad
        | none => .bad
      | none => .bad
    | _ => .bad) := nr rfl
theorem e_sv_ex (e : ME) (env : Env) (st : Store) : sv G (MS.ex e) env st = ((ev G e env st).bind fun _ st => .ok (.nx env) st) := nr rfl
theorem e_sv_ret (e : ME) (env : Env) (st : Store) : sv G (MS.ret e) env st = ((ev G e env st).bind fun d st => .ok (.rt d) st) := nr rfl
theorem e_sv_retN  (env : Env) (st : Store) : sv G (MS.retN) env st = (.ok (.rt (.p .none)) st) := nr rfl
theorem e_sv_ife (c : ME) (a b : MSs) (env : Env) (st : Store) : sv G (MS.ife c a b) env st = ((truR (ev G c env st)).bind fun k st => if k = true then svs G a env st else svs G b env st) := nr rfl
theorem e_sv_loop (t : MT) (it : MI) (b : MSs) (env : Env) (st : Store) : sv G (MS.loop t it b) env st = ((evi G it env st).bind fun p st => forL p.2 t (svs G b) p.1 env st) := nr rfl
theorem e_sv_pass  (env : Env) (st : Store) : sv G (MS.pass) env st = (.ok (.nx env) st) := nr rfl
theorem e_sv_brk  (env : Env) (st : Store) : sv G (MS.brk) env st = (.ok (.bk env) st) := nr rfl
theorem e_sv_cont  (env : Env) (st : Store) : sv G (MS.cont) env st = (.ok (.ct env) st) := nr rfl
theorem e_svs_nil  (env : Env) (st : Store) : svs G (MSs.nil) env st = (.ok (.nx env) st) := nr rfl
theorem e_svs_cons (s : MS) (r : MSs) (env : Env) (st : Store) : svs G (MSs.cons s r) env st = (thenR (sv G s env st) (svs G r)) := nr rfl
-- e_ev_var, e_ev_lit, e_ev_glb, e_ev_gix, e_ev_bin, e_ev_neg, e_ev_not, e_ev_and, e_ev_or, e_ev_one, e_ev_cmp, e_ev_cmp2, e_ev_ife, e_ev_tup, e_ev_lst, e_ev_ix, e_ev_sl, e_ev_bi, e_ev_mx2, e_ev_isi, e_ev_call, e_ev_join, e_ev_lc, e_evs_nil, e_evs_cons, e_evo_none, e_evo_some, e_evc_none, e_evc_some, e_evi_seq, e_evi_rng1, e_evi_rng2, e_evi_enum, e_evi_zip, e_sv_set, e_sv_setLc, e_sv_setIx, e_sv_app, e_sv_ex, e_sv_ret, e_sv_retN, e_sv_ife, e_sv_loop, e_sv_pass, e_sv_brk, e_sv_cont, e_svs_nil, e_svs_cons
end
theorem if_go {c : Prop} [Decidable c] {p q : Prop} (h : c) (hp : p) : if c then p else q := by rw [if_pos h]; exact hp
theorem abs_mod {x m : Int} (h : 0 < m) (h2 : m < 18446744073709551616) : (x % m).natAbs < 18446744073709551616 := by
  have h3 := Int.emod_nonneg x (Int.ne_of_gt h)
  have h4 := Int.emod_lt_of_pos x h
  omega
section
variable {st : Store}
theorem e_slL (xs : List PyData) (lo hi : Option Int) : slD (.p (.list xs)) lo hi st = .ok (.p (.list (cut xs lo hi))) st := by
  unfold slD items
  simp only [← List.map_map]
  rw [cut_map, mkL_p]
theorem e_slT (xs : List PyData) (lo hi : Option Int) : slD (.p (.tuple xs)) lo hi st = .ok (.p (.tuple (cut xs lo hi))) st := nr rfl
theorem e_slS (z : Str) (lo hi : Option Int) : slD (.p (.str z)) lo hi st = if z.length ≤ SZ then .ok (.p (.str (cutS z lo hi))) st else .bad := nr rfl
theorem e_listCL (xs : List PyData) : bi1D (.list true) (.p (.list xs)) st = .ok (.c st.length) (st ++ [.lst (xs.map .p)]) := nr rfl
theorem e_listPT (xs : List PyData) : bi1D (.list false) (.p (.tuple xs)) st = .ok (.p (.list xs)) st := nr (mkL_p xs st)
theorem e_listPL (xs : List PyData) : bi1D (.list false) (.p (.list xs)) st = .ok (.p (.list xs)) st := nr (mkL_p xs st)
theorem e_tupL (xs : List PyData) : bi1D .tuple (.p (.list xs)) st = .ok (.p (.tuple xs)) st := by
  unfold bi1D tupleD items
  simp only [pures_map]
theorem e_lenT (xs : List PyData) : bi1D .len (.p (.tuple xs)) st = .ok (.p (.int xs.length)) st := nr rfl
theorem e_lenL (xs : List PyData) : bi1D .len (.p (.list xs)) st = .ok (.p (.int xs.length)) st := by
  unfold bi1D lenD items
  simp only [List.length_map]
theorem e_lenS (x : Str) : bi1D .len (.p (.str x)) st = if x.length ≤ SZ then .ok (.p (.int x.length)) st else .bad := nr rfl
theorem e_enumL (xs : List PyData) : enumI (.p (.list xs)) st = .ok ((xs.map D.p).mapIdx fun i d => .two (.p (.int (i : Nat))) d, gdOf (.p (.list xs)) (xs.map D.p)) st := nr rfl
theorem e_rng (lo hi : Int) : rngI lo hi st = if -(2 ^ 62) ≤ lo ∧ lo < 2 ^ 62 ∧ -(2 ^ 62) ≤ hi ∧ hi < 2 ^ 62 then .ok ((List.range (hi - lo).toNat).map fun (i : Nat) => .one (.p (.int (lo + (i : Int)))), fun _ => True) st else .bad := nr rfl
theorem e_rng0 (n : Nat) (h : n ≤ 1000) : rngI 0 (n : Int) st = .ok ((List.range n).map fun (i : Nat) => .one (.p (.int (i : Int))), fun _ => True) st := by
  rw [e_rng, if_pos (by omega)]
  simp
theorem e_ixT (xs : List PyData) (i : Int) : ixD (.p (.tuple xs)) (.p (.int i)) st = match atI xs i with | some x => .ok (.p x) st | none => .bad := nr rfl
theorem e_ixL (xs : List PyData) (i : Int) : ixD (.p (.list xs)) (.p (.int i)) st = match atI xs i with | some x => .ok (.p x) st | none => .bad := by
  unfold ixD items
  simp only
  cases e : atI xs i with
  | none =>
    have : atI (xs.map D.p) i = none := by
      unfold atI at e ⊢
      rw [List.length_map]
      cases e2 : ixN xs.length i with
      | none => rfl
      | some j => rw [e2] at e; simpa using e
    rw [this]
  | some x => rw [atI_map e]
theorem cut_take {α : Type} (xs : List α) (n : Nat) : cut xs none (some (n : Int)) = xs.take n := by
  unfold cut
  rw [HT.sIx_none, HT.sIx_nat, List.drop_zero, Nat.sub_zero]
  by_cases h : n ≤ xs.length
  · rw [Nat.min_eq_left h]
  · rw [Nat.min_eq_right (by omega), List.take_length, List.take_of_length_le (by omega)]
theorem cut_drop {α : Type} (xs : List α) (n : Nat) : cut xs (some (n : Int)) none = xs.drop n := by
  unfold cut
  rw [HT.sIx_none, HT.sIx_nat]
  by_cases h : n ≤ xs.length
  · rw [Nat.min_eq_left h, List.take_of_length_le (by rw [List.length_drop]; omega)]
  · rw [Nat.min_eq_right (by omega), List.drop_length, List.drop_of_length_le (by omega)]; simp
theorem cut_len {α : Type} (xs : List α) (lo hi : Option Int) : (cut xs lo hi).length ≤ xs.length := by
  unfold cut
  rw [List.length_take, List.length_drop]; omega
theorem gd_list (xs : List PyData) (st : Store) : gdOf (.p (.list xs)) (xs.map D.p) st := rfl
end
theorem e_mkLT (ds : List D) (st : Store) : mkL true ds st = .ok (.c st.length) (st ++ [.lst ds]) := nr rfl
theorem e_mkLF (xs : List PyData) (st : Store) : mkL false (xs.map .p) st = .ok (.p (.list xs)) st := nr (mkL_p xs st)
theorem e_mkL1 (x : PyData) (st : Store) : mkL false [.p x] st = .ok (.p (.list [x])) st := e_mkLF [x] st
theorem e_mkL2 (x y : PyData) (st : Store) : mkL false [.p x, .p y] st = .ok (.p (.list [x, y])) st := e_mkLF [x, y] st
theorem e_mkL3 (x y z : PyData) (st : Store) : mkL false [.p x, .p y, .p z] st = .ok (.p (.list [x, y, z])) st := e_mkLF [x, y, z] st
theorem sz_le {n : Nat} (h : n ≤ 1000) : n ≤ SZ := Nat.le_trans h (by decide)
theorem e_adds (x y : Str) (st : Store) : binD .Add (.p (.str x)) (.p (.str y)) st = if x.length + y.length ≤ SZ then .ok (.p (.str (x ++ y))) st else .bad := nr rfl
theorem e_addS (x y : Str) (st : Store) (h : x.length + y.length ≤ 1000) : binD .Add (.p (.str x)) (.p (.str y)) st = .ok (.p (.str (x ++ y))) st := by rw [e_adds, if_pos (sz_le h)]
theorem str_app_len (x y : Str) : (x ++ y).length = x.length + y.length := by
  show (x.cps ++ y.cps).size = _
  rw [Array.size_append]; rfl
theorem str_app_tl (x y : Str) : (x ++ y).cps.toList = x.cps.toList ++ y.cps.toList := by
  show (x.cps ++ y.cps).toList = _
  rw [Array.toList_append]
theorem fin_new {n m : Nat} (h : n ≤ m) (st : Store) : finD n (.c m) st = .ok (.c m) st := by
  unfold finD
  rw [if_neg]
  simp [dBelow]; omega
theorem sz_0 : (0 ≤ SZ) = True := eq_true (by decide)
theorem sz_1 : (1 ≤ SZ) = True := eq_true (by decide)
theorem sz_2 : (2 ≤ SZ) = True := eq_true (by decide)
theorem sz_3 : (3 ≤ SZ) = True := eq_true (by decide)
theorem sz_4 : (4 ≤ SZ) = True := eq_true (by decide)
theorem sz_5 : (5 ≤ SZ) = True := eq_true (by decide)
theorem sz_6 : (6 ≤ SZ) = True := eq_true (by decide)
theorem sz_7 : (7 ≤ SZ) = True := eq_true (by decide)
theorem sz_8 : (8 ≤ SZ) = True := eq_true (by decide)
theorem sz_9 : (9 ≤ SZ) = True := eq_true (by decide)
theorem sz_10 : (10 ≤ SZ) = True := eq_true (by decide)
theorem sz_11 : (11 ≤ SZ) = True := eq_true (by decide)
theorem sz_12 : (12 ≤ SZ) = True := eq_true (by decide)
theorem sz_13 : (13 ≤ SZ) = True := eq_true (by decide)
theorem sz_14 : (14 ≤ SZ) = True := eq_true (by decide)
theorem sz_15 : (15 ≤ SZ) = True := eq_true (by decide)
theorem sz_16 : (16 ≤ SZ) = True := eq_true (by decide)
theorem sz_17 : (17 ≤ SZ) = True := eq_true (by decide)
theorem sz_18 : (18 ≤ SZ) = True := eq_true (by decide)
theorem sz_19 : (19 ≤ SZ) = True := eq_true (by decide)
theorem sz_20 : (20 ≤ SZ) = True := eq_true (by decide)
theorem sz_21 : (21 ≤ SZ) = True := eq_true (by decide)
theorem sz_22 : (22 ≤ SZ) = True := eq_true (by decide)
theorem sz_23 : (23 ≤ SZ) = True := eq_true (by decide)
theorem sz_24 : (24 ≤ SZ) = True := eq_true (by decide)
theorem sz_25 : (25 ≤ SZ) = True := eq_true (by decide)
theorem sz_26 : (26 ≤ SZ) = True := eq_true (by decide)
theorem sz_27 : (27 ≤ SZ) = True := eq_true (by decide)
theorem sz_28 : (28 ≤ SZ) = True := eq_true (by decide)
theorem sz_29 : (29 ≤ SZ) = True := eq_true (by decide)
theorem sz_30 : (30 ≤ SZ) = True := eq_true (by decide)
theorem sz_31 : (31 ≤ SZ) = True := eq_true (by decide)
theorem sz_32 : (32 ≤ SZ) = True := eq_true (by decide)
theorem sz_33 : (33 ≤ SZ) = True := eq_true (by decide)
theorem sz_34 : (34 ≤ SZ) = True := eq_true (by decide)
theorem sz_35 : (35 ≤ SZ) = True := eq_true (by decide)
theorem sz_36 : (36 ≤ SZ) = True := eq_true (by decide)
theorem sz_37 : (37 ≤ SZ) = True := eq_true (by decide)
theorem sz_38 : (38 ≤ SZ) = True := eq_true (by decide)
theorem sz_39 : (39 ≤ SZ) = True := eq_true (by decide)
theorem sz_40 : (40 ≤ SZ) = True := eq_true (by decide)
theorem tru_b (b : Bool) (st : Store) : tru (.p (.bool b)) st = some b := nr rfl
theorem seqI_L (xs : List PyData) (st : Store) : seqI (.p (.list xs)) st = .ok (xs.map fun x => .one (.p x), fun _ => True) st := nr rfl
theorem seqI_T (xs : List PyData) (st : Store) : seqI (.p (.tuple xs)) st = .ok (xs.map fun x => .one (.p x), fun _ => True) st := nr rfl
theorem pures_map' {α : Type} (f : α → PyData) (l : List α) : pures (l.map fun x => D.p (f x)) = some (l.map f) := by
  have := pures_map (l.map f)
  rw [List.map_map] at this
  exact this
theorem atI_0 {α : Type} (a : α) (r : List α) : atI (a :: r) 0 = some a := atI_nat (j := 0) rfl
theorem atI_1 {α : Type} (a b : α) (r : List α) : atI (a :: b :: r) 1 = some b := atI_nat (j := 1) rfl
theorem atI_2 {α : Type} (a b c : α) (r : List α) : atI (a :: b :: c :: r) 2 = some c := atI_nat (j := 2) rfl
theorem atI_3 {α : Type} (a b c d : α) (r : List α) : atI (a :: b :: c :: d :: r) 3 = some d := atI_nat (j := 3) rfl
theorem atI_4 {α : Type} (a b c d e : α) (r : List α) : atI (a :: b :: c :: d :: e :: r) 4 = some e := atI_nat (j := 4) rfl
theorem atI_5 {α : Type} (a b c d e f : α) (r : List α) : atI (a :: b :: c :: d :: e :: f :: r) 5 = some f := atI_nat (j := 5) rfl
theorem atI_6 {α : Type} (a b c d e f g : α) (r : List α) : atI (a :: b :: c :: d :: e :: f :: g :: r) 6 = some g := atI_nat (j := 6) rfl
/-- a place that is in the list -/
theorem atI_in {α : Type} {l : List α} {x : Int} (h0 : 0 ≤ x) (h1 : x < l.length) : ∃ a ∈ l, atI l x = some a := by
  obtain ⟨n, rfl⟩ : ∃ n : Nat, x = n := ⟨x.toNat, by omega⟩
  have hn : n < l.length := by omega
  exact ⟨l[n], List.getElem_mem hn, atI_nat (by simp [hn])⟩
theorem ixL_in {l : List PyData} {x : Int} (st : Store) (h0 : 0 ≤ x) (h1 : x < l.length) : ∃ a ∈ l, ixD (.p (.list l)) (.p (.int x)) st = .ok (.p a) st := by
  obtain ⟨a, h, e⟩ := atI_in h0 h1
  exact ⟨a, h, by rw [e_ixL, e]⟩
theorem ixT_in {l : List PyData} {x : Int} (st : Store) (h0 : 0 ≤ x) (h1 : x < l.length) : ∃ a ∈ l, ixD (.p (.tuple l)) (.p (.int x)) st = .ok (.p a) st := by
  obtain ⟨a, h, e⟩ := atI_in h0 h1
  exact ⟨a, h, by rw [e_ixT, e]⟩
theorem e_sorted2 (a b : Int) (st : Store) : ∃ x y : Int, x ≤ y ∧ (x = a ∨ x = b) ∧ (y = a ∨ y = b) ∧ bi1D (.sorted false) (.p (.list [.int a, .int b])) st = .ok (.p (.list [.int x, .int y])) st := by
  have hok : sortOk [.int a, .int b] = true := by simp [sortOk, PySem.W.alike, PyData.depth, sz_2]
  have hs : sortP [.int a, .int b] = if a ≤ b then [.int a, .int b] else [.int b, .int a] := by
    unfold sortP
    rw [PySem.W.dataLe_eq]
    simp only [List.mergeSort, List.MergeSort.Internal.splitInTwo, List.length, List.splitAt, List.splitAt.go, List.reverse, List.reverseAux, List.merge, PySem.W.dataLt_int, cond]
    simp
  have h : bi1D (.sorted false) (.p (.list [.int a, .int b])) st = .ok (.p (.list (sortP [.int a, .int b]))) st := by
    unfold bi1D sortedD
    simp only [items, pures_map, hok, Bool.true_or, if_true, mkL_p]
  rw [h, hs]
  split
  · exact ⟨a, b, by assumption, .inl rfl, .inr rfl, rfl⟩
  · exact ⟨b, a, by omega, .inr rfl, .inl rfl, rfl⟩
theorem e_b_nm (i : Nat) (d : D) (env : Env) : bindD (.nm i) d env = some (env.set i (some d)) := nr rfl
theorem e_b_tT (ts : MTs) (xs : List PyData) (env : Env) : bindD (.tup ts) (.p (.tuple xs)) env = bindDs ts (xs.map .p) env := nr rfl
theorem e_b_tL (ts : MTs) (xs : List PyData) (env : Env) : bindD (.tup ts) (.p (.list xs)) env = bindDs ts (xs.map .p) env := nr rfl
theorem e_b_nil (env : Env) : bindDs .nil [] env = some env := nr rfl
theorem e_b_cons (t : MT) (r : MTs) (d : D) (ds : List D) (env : Env) : bindDs (.cons t r) (d :: ds) env = (bindD t d env).bind fun env => bindDs r ds env := nr rfl
/-- a test's outcome, its value at hand -/
def QT2 (P : Bool → D → Store → Prop) : D → Store → Prop := fun d st => ∃ k, tru d st = some k ∧ P k d st
theorem QT2_bool (P : Bool → D → Store → Prop) (b : Bool) (st : Store) : QT2 P (.p (.bool b)) st = P b (.p (.bool b)) st := by
  unfold QT2; simp [tru]
def QB (P : Bool → Store → Prop) : D → Store → Prop
  | .p (.bool k), st => P k st
  | _, _ => False
theorem QB_bool (P : Bool → Store → Prop) (b : Bool) (st : Store) : QB P (.p (.bool b)) st = P b st := nr rfl
section
variable {G : Sem1} {Q : D → Store → Prop}
theorem w_and (a b : ME) (env : Env) (st : Store) : wp (ev G (.and a b) env st) Q = wp (ev G a env st) (QT2 fun k x st => if k = true then wp (ev G b env st) Q else Q x st) := by
  rw [e_ev_and, wp_bind]
  congr 1
  funext d st
  unfold QT2
  cases tru d st with
  | none => simp
  | some k => cases k <;> simp
theorem w_or (a b : ME) (env : Env) (st : Store) : wp (ev G (.or a b) env st) Q = wp (ev G a env st) (QT2 fun k x st => if k = true then Q x st else wp (ev G b env st) Q) := by
  rw [e_ev_or, wp_bind]
  congr 1
  funext d st
  unfold QT2
  cases tru d st with
  | none => simp
  | some k => cases k <;> simp
theorem w_cmp2 (o o2 : CmpOp) (a b c : ME) (env : Env) (st : Store) : wp (ev G (.cmp2 o o2 a b c) env st) Q = wp (ev G a env st) fun x st => wp (ev G b env st) fun y st => wp (cmpD o x y st) (QB fun k st => if k = true then wp (ev G c env st) fun z st => wp (cmpD o2 y z st) Q else Q (.p (.bool false)) st) := by
  rw [e_ev_cmp2]
  simp only [wp_bind]
  congr 1
  funext x st
  congr 1
  funext y st
  congr 1
  funext d st
  unfold QB
  cases d with
  | c n => rfl
  | p z =>
    cases z with
    | bool k => cases k <;> simp
    | _ => rfl
end
theorem e_eqX {x y : PyData} (h : min x.depth y.depth ≤ 64) (st : Store) : cmpD .Eq (.p x) (.p y) st = .ok (.p (.bool (PyData.eqv x y))) st := by
  unfold cmpD eqD
  simp only [toP_p]
  rw [if_pos]
  · rfl
  · unfold eqRoom
    exact decide_eq_true h
theorem e_gix (kvs : List (Str × PyData)) (z : Str) (v : PyData) (h : kvs.lookup z = some v) (st : Store) : gixD kvs (.p (.str z)) st = .ok (.p v) st := by
  unfold gixD
  simp only [h]
theorem sort_two (x y : PyData) (h : mixB [x, y] = true) (st : Store) : bi1D (.sorted false) (.p (.list [x, y])) st = .ok (.p (.list (if PySem.W.dataLt y x = true then [y, x] else [x, y]))) st := by
  have hs : sortP [x, y] = if PySem.W.dataLt y x = true then [y, x] else [x, y] := by
    unfold sortP
    rw [PySem.W.dataLe_eq]
    simp only [List.mergeSort, List.MergeSort.Internal.splitInTwo, List.length, List.splitAt, List.splitAt.go, List.reverse, List.reverseAux, List.merge, cond]
    cases PySem.W.dataLt y x <;> simp
  unfold bi1D sortedD
  simp only [items, pures_map, h, Bool.or_true, if_true, mkL_p, hs]
theorem sem_eq {defs : List Def} {k i : Nat} {d : Def} (h : defs[i]? = some d) {ds : List D} {st : Store} (hl : ds.length = d.np) : semK defs (k + 1) i ds st = finR st.length (svs (semK defs k) d.body (env0 d.N.length ds) st) := by
  have e : semK defs (k + 1) i ds st = fnSem (semK defs k) d ds st := by
    show (match defs[i]? with | some d => fnSem (semK defs k) d ds st | none => .bad) = _
    rw [h]
  rw [e, fnSem, if_pos hl]
theorem gc_st (st : Store) : gc st.length st = st := gc_self rfl
theorem wp_for_cons {gd : Store → Prop} {tg : MT} {body : Env → Store → R Fl} {it : Itm} {r : List Itm} {env env1 : Env} {st : Store} {Q : Fl → Store → Prop} (hg : gd st) (hb : bindI tg it env = some env1)
    (h : wp (body env1 st) (QN Q fun env st => wp (forL gd tg body r env st) Q)) : wp (forL gd tg body (it :: r) env st) Q := by
  unfold forL
  rw [if_pos hg, hb]
  show wp (nextR _ _) Q
  rw [wp_next]
  exact h
theorem wp_for_nil {gd : Store → Prop} {tg : MT} {body : Env → Store → R Fl} {env : Env} {st : Store} {Q : Fl → Store → Prop} (hg : gd st) (h : Q (.nx env) st) : wp (forL gd tg body [] env st) Q := by
  unfold forL
  rw [if_pos hg]
  exact h
theorem seqI_C {n : Nat} {st : Store} {ds : List D} (h : cellL st n = some ds) : seqI (.c n) st = .ok (ds.map .one, fun st' => cellL st' n = some ds) st := by
  unfold seqI
  simp only [h]
theorem e_isi_bb (b : Bool) (st : Store) : isiD "bool" (.p (.bool b)) st = .ok (.p (.bool true)) st := nr rfl
theorem e_neb (a b : Bool) (st : Store) : cmpD .NotEq (.p (.bool a)) (.p (.bool b)) st = .ok (.p (.bool (!(a == b)))) st := by
  cases a <;> cases b <;> exact nr rfl
theorem not_true_false : (!true) = false := rfl
end MP
set_option Elab.async false
set_option linter.all false
set_option autoImplicit false
set_option maxRecDepth 100000
set_option maxHeartbeats 2000000
namespace L03
open PySem PySem.Spec PyProof.Rows L2 MP
def tS (i : Nat) : Stmt := PySem.Challenge.pw_gapcalls_k03_rows_that_clash.main.body.getD i (.Pass ⟨0, 0, 0, 0⟩)
/-- do_like_clash -/
def b0 : MSs :=
    (.cons (.ife (.or (.cmp .Eq (.ix (.var 0) (.lit (.int 0))) (.lit (.str "all"))) (.one (.cmp .Eq (.ix (.var 0) (.lit (.int 2))) (.ix (.var 1) (.lit
    (.int 2)))))) (.cons (.ret (.lit (.bool true))) .nil) .nil) (.cons (.set (.nm 2) (.gix [("ask", (.int 5)), ("job", (.int 3))] (.ix (.var 0) (.lit
    (.int 0))))) (.cons (.ife (.cmp .Lt (.ix (.var 0) (.lit (.int 2))) (.ix (.var 1) (.lit (.int 2)))) (.cons (.ret (.cmp .Gt (.ix (.var 0) (.var 2)) (.ix
    (.var 1) (.var 2)))) .nil) .nil) (.cons (.ret (.cmp .Gt (.ix (.var 1) (.var 2)) (.ix (.var 0) (.var 2)))) .nil))))
def d0 : Def := { name := "do_like_clash", N := ["one", "other", "at"], np := 2, body := b0, st := tS 2 }
/-- is_beyond -/
def b1 : MSs :=
    (.cons (.ife (.cmp .Eq (.ix (.var 1) (.lit (.int 0))) (.lit (.str "job"))) (.cons (.ret (.cmp .GtE (.ix (.var 1) (.lit (.int 2))) (.ix (.var 0) (.lit
    (.int 3))))) .nil) .nil) (.cons (.ret (.or (.cmp .GtE (.ix (.var 1) (.lit (.int 2))) (.ix (.var 0) (.lit (.int 2)))) (.one (.cmp .GtE (.ix (.var 1)
    (.lit (.int 3))) (.ix (.var 0) (.lit (.int 3))))))) .nil))
def d1 : Def := { name := "is_beyond", N := ["counts", "row"], np := 2, body := b1, st := tS 3 }
/-- do_job_and_ask_clash -/
def b2 : MSs :=
    (.cons (.ife (.and (.cmp .LtE (.ix (.var 0) (.lit (.int 2))) (.ix (.var 1) (.lit (.int 3)))) (.one (.cmp .GtE (.ix (.var 0) (.lit (.int 3))) (.ix
    (.var 1) (.lit (.int 5)))))) (.cons (.ret (.lit (.bool true))) .nil) .nil) (.cons (.ret (.and (.cmp .Eq (.ix (.var 0) (.lit (.int 2))) (.ix (.var 1)
    (.lit (.int 3)))) (.one (.cmp .LtE (.ix (.var 0) (.lit (.int 4))) (.ix (.var 1) (.lit (.int 6))))))) .nil))
def d2 : Def := { name := "do_job_and_ask_clash", N := ["job", "ask"], np := 2, body := b2, st := tS 4 }
/-- do_clash -/
def b3 : MSs :=
    (.cons (.ife (.or (.cmp .Eq (.var 0) (.var 1)) (.one (.cmp .NotEq (.ix (.var 0) (.lit (.int 1))) (.ix (.var 1) (.lit (.int 1)))))) (.cons (.ret (.lit
    (.bool false))) .nil) .nil) (.cons (.ife (.cmp .Eq (.ix (.var 0) (.lit (.int 0))) (.ix (.var 1) (.lit (.int 0)))) (.cons (.ret (.call 0 (.cons (.var
    0) (.cons (.var 1) .nil)))) .nil) .nil) (.cons (.ife (.cmp .Eq (.ix (.var 0) (.lit (.int 0))) (.lit (.str "all"))) (.cons (.ret (.call 1 (.cons (.var
    0) (.cons (.var 1) .nil)))) .nil) .nil) (.cons (.ife (.cmp .Eq (.ix (.var 1) (.lit (.int 0))) (.lit (.str "all"))) (.cons (.ret (.call 1 (.cons (.var
    1) (.cons (.var 0) .nil)))) .nil) .nil) (.cons (.ife (.cmp .Eq (.ix (.var 0) (.lit (.int 0))) (.lit (.str "job"))) (.cons (.ret (.call 2 (.cons (.var
    0) (.cons (.var 1) .nil)))) .nil) .nil) (.cons (.ret (.call 2 (.cons (.var 1) (.cons (.var 0) .nil)))) .nil))))))
def d3 : Def := { name := "do_clash", N := ["one", "other"], np := 2, body := b3, st := tS 5 }
/-- _law_spread -/
def b4 : MSs :=
    (.cons (.ife (.cmp .GtE (.var 0) (.bin .Pow (.lit (.int 10)) (.lit (.int 18)))) (.cons (.ret (.var 0)) .nil) .nil) (.cons (.set (.nm 2) (.bin .Mod
    (.bin .Add (.bin .Add (.bin .Mult (.bin .Mod (.var 0) (.lit (.int 1000000007))) (.lit (.int 69069))) (.bin .Mult (.var 1) (.lit (.int 40503)))) (.lit
    (.int 977))) (.lit (.int 2147483629)))) (.cons (.set (.nm 3) (.bin .Mod (.bin .Add (.bin .Add (.bin .Mult (.var 2) (.var 2)) (.bin .Mult (.var 1)
    (.lit (.int 7919)))) (.bin .Mod (.var 0) (.lit (.int 65537)))) (.lit (.int 2147483587)))) (.cons (.set (.nm 4) (.bin .Mod (.bin .Add (.bin .Add (.bin
    .Mult (.var 3) (.var 3)) (.bin .Mult (.var 2) (.lit (.int 31)))) (.lit (.int 5))) (.lit (.int 2147483563)))) (.cons (.ret (.bin .Add (.bin .Mult (.bin
    .Add (.bin .Mult (.var 2) (.lit (.int 2147483659))) (.var 3)) (.lit (.int 2147483693))) (.var 4))) .nil)))))
def d4 : Def := { name := "_law_spread", N := ["_law_cell", "_law_at", "_law_one", "_law_two", "_law_three"], np := 2, body := b4, st := tS 7 }
/-- _law_open -/
def b5 : MSs :=
    (.cons (.set (.nm 1) (.bi (.list true) (.sl (.var 0) .none (.some (.lit (.int 12)))))) (.cons (.loop (.tup (.cons (.nm 2) (.cons (.nm 3) .nil)))
    (.enum (.sl (.var 0) (.some (.lit (.int 12))) (.some (.lit (.int 63))))) (.cons (.setIx (.var 1) (.bin .Mod (.var 2) (.lit (.int 12))) (.bin .Add (.ix
    (.var 1) (.bin .Mod (.var 2) (.lit (.int 12)))) (.var 3))) .nil)) (.cons (.ret (.lst true (.cons (.var 1) (.cons (.lit (.int 0)) (.cons (.lit (.int
    0)) .nil))))) .nil)))
def d5 : Def := { name := "_law_open", N := ["_law_script", "_law_cells", "_law_k", "_law_cell"], np := 1, body := b5, st := tS 8 }
/-- _law_anew -/
def b6 : MSs :=
    (.cons (.setIx (.var 0) (.lit (.int 2)) (.lit (.int 0))) (.cons (.ret (.var 0)) .nil))
def d6 : Def := { name := "_law_anew", N := ["_law_pen"], np := 1, body := b6, st := tS 9 }
/-- _law_take -/
def b7 : MSs :=
    (.cons (.ife (.cmp .Lt (.ix (.var 0) (.lit (.int 2))) (.var 1)) (.cons (.set (.nm 3) (.ix (.var 0) (.lit (.int 1)))) (.cons (.set (.nm 4) (.lit (.int
    0))) (.cons (.ife (.cmp .Lt (.var 3) (.bi .len (.ix (.var 0) (.lit (.int 0))))) (.cons (.set (.nm 4) (.ix (.ix (.var 0) (.lit (.int 0))) (.var 3)))
    .nil) (.cons (.ife (.cmp .Gt (.bi .len (.ix (.var 0) (.lit (.int 0)))) (.lit (.int 0))) (.cons (.set (.nm 4) (.bin .Mod (.ix (.ix (.var 0) (.lit (.int
    0))) (.bin .Mod (.bin .Add (.bin .Mult (.var 3) (.lit (.int 5))) (.lit (.int 3))) (.bi .len (.ix (.var 0) (.lit (.int 0)))))) (.bin .Add (.bin .Pow
    (.lit (.int 10)) (.lit (.int 17))) (.var 3)))) .nil) .nil) .nil)) (.cons (.setIx (.var 0) (.lit (.int 1)) (.bin .Add (.var 3) (.lit (.int 1)))) (.cons
    (.setIx (.var 0) (.lit (.int 2)) (.call 4 (.cons (.var 4) (.cons (.var 3) .nil)))) .nil))))) .nil) (.cons (.set (.nm 2) (.bin .Mod (.ix (.var 0) (.lit
    (.int 2))) (.var 1))) (.cons (.setIx (.var 0) (.lit (.int 2)) (.bin .FloorDiv (.ix (.var 0) (.lit (.int 2))) (.var 1))) (.cons (.ret (.var 2))
    .nil))))
def d7 : Def := { name := "_law_take", N := ["_law_pen", "_law_many", "_law_found", "_law_at", "_law_cell"], np := 2, body := b7, st := tS 10 }
/-- _law_names -/
def b8 : MSs :=
    (.cons (.set (.nm 2) (.lit (.str "abcdefghijklmnopqrstuvwxyz"))) (.cons (.set (.nm 3) (.join (.lit (.str "")) (.lc false [8] (.nm 8) (.rng1 (.lit
    (.int 7))) .none (.ix (.var 2) (.call 7 (.cons (.var 0) (.cons (.lit (.int 26)) .nil))))))) (.cons (.set (.nm 4) (.call 7 (.cons (.var 0) (.cons (.lit
    (.int 3)) .nil)))) (.cons (.set (.nm 5) (.call 7 (.cons (.var 0) (.cons (.lit (.int 26)) .nil)))) (.cons (.set (.nm 6) (.call 7 (.cons (.var 0) (.cons
    (.lit (.int 8)) .nil)))) (.cons (.set (.nm 7) (.lst true .nil)) (.cons (.loop (.nm 8) (.rng1 (.var 1)) (.cons (.set (.nm 9) (.ix (.var 2) (.bin .Mod
    (.bin .Add (.var 5) (.bin .Mult (.lit (.int 3)) (.var 8))) (.lit (.int 26))))) (.cons (.set (.nm 10) (.sl (.var 3) .none (.some (.bin .Mod (.bin .Add
    (.var 6) (.bin .Mult (.var 8) (.bin .Mod (.var 4) (.lit (.int 2))))) (.lit (.int 8)))))) (.cons (.set (.nm 11) (.ix (.lst false (.cons (.lit (.int 0))
    (.cons (.bi .len (.var 10)) (.cons (.bin .FloorDiv (.bi .len (.var 10)) (.lit (.int 2))) .nil)))) (.var 4))) (.cons (.app (.var 7) (.bin .Add (.bin
    .Add (.sl (.var 10) .none (.some (.var 11))) (.var 9)) (.sl (.var 10) (.some (.var 11)) .none))) .nil))))) (.cons (.ret (.var 7)) .nil))))))))
def d8 : Def := { name := "_law_names", N := ["_law_pen", "_law_many", "_law_letters", "_law_base", "_law_way", "_law_turn", "_law_size", "_law_found", "_law_k", "_law_sign", "_law_part", "_law_at"], np := 2, body := b8, st := tS 11 }
/-- _law_town -/
def b9 : MSs :=
    (.cons (.set (.nm 2) (.bi (.sorted false) (.call 8 (.cons (.var 0) (.cons (.bin .Add (.lit (.int 1)) (.call 7 (.cons (.var 0) (.cons (.var 1) .nil))))
    .nil))))) (.cons (.setLc 3 (.lc false [4] (.nm 4) (.seq (.var 2)) (.some (.cmp .Gt (.call 7 (.cons (.var 0) (.cons (.lit (.int 3)) .nil))) (.lit (.int
    0)))) (.var 4))) (.cons (.ife (.and (.cmp .Eq (.var 3) (.lst false .nil)) (.one (.cmp .Gt (.call 7 (.cons (.var 0) (.cons (.lit (.int 4)) .nil)))
    (.lit (.int 0))))) (.cons (.set (.nm 3) (.sl (.var 2) .none (.some (.lit (.int 1))))) .nil) .nil) (.cons (.ret (.tup (.cons (.bi .tuple (.var 2))
    (.cons (.bi .tuple (.var 3)) .nil)))) .nil))))
def d9 : Def := { name := "_law_town", N := ["_law_pen", "_law_most", "_law_houses", "_law_gates", "_law_house"], np := 2, body := b9, st := tS 12 }
/-- _law_do_clash -/
def b10 : MSs :=
    (.cons (.ife (.or (.cmp .NotEq (.ix (.var 0) (.lit (.int 1))) (.ix (.var 1) (.lit (.int 1)))) (.one (.cmp .Eq (.var 0) (.var 1)))) (.cons (.ret (.lit
    (.bool false))) .nil) .nil) (.cons (.set (.tup (.cons (.nm 3) (.cons (.nm 4) .nil))) (.bi (.sorted false) (.lst false (.cons (.var 0) (.cons (.var 1)
    .nil))))) (.cons (.set (.nm 2) (.bin .Add (.ix (.var 3) (.lit (.int 0))) (.ix (.var 4) (.lit (.int 0))))) (.cons (.ife (.cmp .In (.var 2) (.tup (.cons
    (.lit (.str "askask")) (.cons (.lit (.str "jobjob")) .nil)))) (.cons (.set (.nm 5) (.ix (.lst false (.cons (.lit (.int 3)) (.cons (.lit (.int 5))
    .nil))) (.bi .int (.cmp .Eq (.var 2) (.lit (.str "askask")))))) (.cons (.ret (.or (.cmp .Eq (.ix (.var 3) (.lit (.int 2))) (.ix (.var 4) (.lit (.int
    2)))) (.one (.cmp .Lt (.bin .Mult (.bin .Sub (.ix (.var 3) (.lit (.int 2))) (.ix (.var 4) (.lit (.int 2)))) (.bin .Sub (.ix (.var 3) (.var 5)) (.ix
    (.var 4) (.var 5)))) (.lit (.int 0)))))) .nil)) .nil) (.cons (.ife (.cmp .Eq (.var 2) (.lit (.str "allask"))) (.cons (.ret (.or (.cmp .GtE (.ix (.var
    4) (.lit (.int 2))) (.ix (.var 3) (.lit (.int 2)))) (.one (.cmp .GtE (.ix (.var 4) (.lit (.int 3))) (.ix (.var 3) (.lit (.int 3))))))) .nil) .nil)
    (.cons (.ife (.cmp .Eq (.var 2) (.lit (.str "alljob"))) (.cons (.ret (.cmp .GtE (.ix (.var 4) (.lit (.int 2))) (.ix (.var 3) (.lit (.int 3))))) .nil)
    .nil) (.cons (.ife (.and (.cmp .Eq (.var 2) (.lit (.str "askjob"))) (.and (.cmp .Eq (.ix (.var 4) (.lit (.int 2))) (.ix (.var 3) (.lit (.int 3))))
    (.one (.cmp .LtE (.ix (.var 4) (.lit (.int 4))) (.ix (.var 3) (.lit (.int 6))))))) (.cons (.ret (.lit (.bool true))) .nil) .nil) (.cons (.ret (.or
    (.cmp .Eq (.var 2) (.lit (.str "allall"))) (.one (.and (.cmp .LtE (.ix (.var 4) (.lit (.int 2))) (.ix (.var 3) (.lit (.int 3)))) (.one (.cmp .GtE (.ix
    (.var 4) (.lit (.int 3))) (.ix (.var 3) (.lit (.int 5))))))))) .nil))))))))
def d10 : Def := { name := "_law_do_clash", N := ["_law_one", "_law_other", "_law_words", "_law_first", "_law_second", "_law_at"], np := 2, body := b10, st := tS 13 }
/-- _law_number -/
def b11 : MSs :=
    (.cons (.ret (.ix (.lst false (.cons (.lit (.int 0)) (.cons (.lit (.int 14)) (.cons (.call 7 (.cons (.var 0) (.cons (.lit (.int 15)) .nil))) .nil))))
    (.call 7 (.cons (.var 0) (.cons (.lit (.int 3)) .nil))))) .nil)
def d11 : Def := { name := "_law_number", N := ["_law_pen"], np := 1, body := b11, st := tS 14 }
/-- _law_two_times -/
def b12 : MSs :=
    (.cons (.set (.nm 1) (.lst false (.cons (.bin .Sub (.call 7 (.cons (.var 0) (.cons (.bin .Add (.bin .Mult (.lit (.int 2)) (.bin .Pow (.lit (.int 10))
    (.lit (.int 12)))) (.lit (.int 1))) .nil))) (.bin .Pow (.lit (.int 10)) (.lit (.int 12)))) (.cons (.call 7 (.cons (.var 0) (.cons (.lit (.int 9))
    .nil))) (.cons (.bin .Pow (.lit (.int 10)) (.lit (.int 12))) (.cons (.bin .Sub (.lit (.int 0)) (.bin .Pow (.lit (.int 10)) (.lit (.int 12))))
    .nil)))))) (.cons (.ret (.bi (.sorted false) (.lst false (.cons (.ix (.var 1) (.call 7 (.cons (.var 0) (.cons (.lit (.int 4)) .nil)))) (.cons (.ix
    (.var 1) (.call 7 (.cons (.var 0) (.cons (.lit (.int 4)) .nil)))) .nil))))) .nil))
def d12 : Def := { name := "_law_two_times", N := ["_law_pen", "_law_some"], np := 1, body := b12, st := tS 15 }
/-- _law_any_row -/
def b13 : MSs :=
    (.cons (.set (.nm 2) (.ix (.ix (.var 1) (.lit (.int 0))) (.call 7 (.cons (.var 0) (.cons (.bi .len (.ix (.var 1) (.lit (.int 0)))) .nil))))) (.cons
    (.set (.nm 3) (.call 7 (.cons (.var 0) (.cons (.lit (.int 3)) .nil)))) (.cons (.set (.tup (.cons (.nm 4) (.cons (.nm 5) .nil))) (.call 12 (.cons (.var
    0) .nil))) (.cons (.ife (.cmp .Eq (.var 3) (.lit (.int 0))) (.cons (.set (.nm 6) (.ix (.ix (.var 1) (.lit (.int 0))) (.call 7 (.cons (.var 0) (.cons
    (.bi .len (.ix (.var 1) (.lit (.int 0)))) .nil))))) (.cons (.ret (.tup (.cons (.lit (.str "ask")) (.cons (.var 2) (.cons (.call 11 (.cons (.var 0)
    .nil)) (.cons (.call 11 (.cons (.var 0) .nil)) (.cons (.var 6) (.cons (.var 4) (.cons (.var 5) .nil))))))))) .nil)) .nil) (.cons (.ife (.cmp .Eq (.var
    3) (.lit (.int 1))) (.cons (.ret (.tup (.cons (.lit (.str "job")) (.cons (.var 2) (.cons (.call 11 (.cons (.var 0) .nil)) (.cons (.var 4) (.cons (.var
    5) .nil))))))) .nil) .nil) (.cons (.ret (.tup (.cons (.lit (.str "all")) (.cons (.var 2) (.cons (.bin .Add (.call 11 (.cons (.var 0) .nil)) (.call 7
    (.cons (.var 0) (.cons (.lit (.int 2)) .nil)))) (.cons (.bin .Add (.call 11 (.cons (.var 0) .nil)) (.call 7 (.cons (.var 0) (.cons (.lit (.int 2))
    .nil)))) .nil)))))) .nil))))))
def d13 : Def := { name := "_law_any_row", N := ["_law_pen", "_law_town_here", "_law_house", "_law_way", "_law_out", "_law_back", "_law_goal"], np := 2, body := b13, st := tS 16 }
/-- _law_few_row -/
def b14 : MSs :=
    (.cons (.set (.nm 2) (.ix (.ix (.var 1) (.lit (.int 0))) (.call 7 (.cons (.var 0) (.cons (.bi .len (.ix (.var 1) (.lit (.int 0)))) .nil))))) (.cons
    (.set (.nm 3) (.call 7 (.cons (.var 0) (.cons (.lit (.int 7)) .nil)))) (.cons (.set (.nm 4) (.call 7 (.cons (.var 0) (.cons (.lit (.int 6)) .nil))))
    (.cons (.set (.nm 5) (.bin .Add (.var 4) (.call 7 (.cons (.var 0) (.cons (.lit (.int 4)) .nil))))) (.cons (.ife (.cmp .Lt (.var 3) (.lit (.int 3)))
    (.cons (.set (.nm 6) (.ix (.ix (.var 1) (.lit (.int 0))) (.call 7 (.cons (.var 0) (.cons (.bi .len (.ix (.var 1) (.lit (.int 0)))) .nil))))) (.cons
    (.ret (.tup (.cons (.lit (.str "ask")) (.cons (.var 2) (.cons (.call 7 (.cons (.var 0) (.cons (.lit (.int 3)) .nil))) (.cons (.call 7 (.cons (.var 0)
    (.cons (.lit (.int 3)) .nil))) (.cons (.var 6) (.cons (.var 4) (.cons (.var 5) .nil))))))))) .nil)) .nil) (.cons (.ife (.cmp .Lt (.var 3) (.lit (.int
    6))) (.cons (.ret (.tup (.cons (.lit (.str "job")) (.cons (.var 2) (.cons (.call 7 (.cons (.var 0) (.cons (.lit (.int 3)) .nil))) (.cons (.var 4)
    (.cons (.var 5) .nil))))))) .nil) .nil) (.cons (.ret (.tup (.cons (.lit (.str "all")) (.cons (.var 2) (.cons (.call 7 (.cons (.var 0) (.cons (.lit
    (.int 5)) .nil))) (.cons (.call 7 (.cons (.var 0) (.cons (.lit (.int 5)) .nil))) .nil)))))) .nil)))))))
def d14 : Def := { name := "_law_few_row", N := ["_law_pen", "_law_town_here", "_law_house", "_law_way", "_law_out", "_law_back", "_law_goal"], np := 2, body := b14, st := tS 17 }
/-- _law_right -/
def b15 : MSs :=
    (.cons (.set (.nm 2) (.call 10 (.cons (.var 0) (.cons (.var 1) .nil)))) (.cons (.loop (.nm 3) (.seq (.lst false (.cons (.call 3 (.cons (.var 0) (.cons
    (.var 1) .nil))) (.cons (.call 3 (.cons (.var 1) (.cons (.var 0) .nil))) .nil)))) (.cons (.ife (.or (.not (.isi "bool" (.var 3))) (.one (.cmp .NotEq
    (.var 3) (.var 2)))) (.cons (.ret (.lit (.bool false))) .nil) .nil) .nil)) (.cons (.ret (.lit (.bool true))) .nil)))
def d15 : Def := { name := "_law_right", N := ["_law_one", "_law_other", "_law_due", "_law_found"], np := 2, body := b15, st := tS 18 }
/-- law -/
def b16 : MSs :=
    (.cons (.set (.nm 1) (.call 5 (.cons (.var 0) .nil))) (.cons (.set (.nm 2) (.call 9 (.cons (.var 1) (.cons (.lit (.int 3)) .nil)))) (.cons (.loop (.nm
    3) (.rng1 (.lit (.int 12))) (.cons (.setLc 4 (.lc true [7] (.nm 7) (.rng1 (.lit (.int 4))) .none (.call 14 (.cons (.call 6 (.cons (.var 1) .nil))
    (.cons (.var 2) .nil))))) (.cons (.app (.var 4) (.call 13 (.cons (.var 1) (.cons (.var 2) .nil)))) (.cons (.loop (.nm 5) (.seq (.var 4)) (.cons (.loop
    (.nm 6) (.seq (.var 4)) (.cons (.ife (.not (.call 15 (.cons (.var 5) (.cons (.var 6) .nil)))) (.cons (.ret (.lit (.bool false))) .nil) .nil) .nil))
    .nil)) .nil)))) (.cons (.ret (.lit (.bool true))) .nil))))
def d16 : Def := { name := "law", N := ["_law_script", "_law_pen", "_law_town_here", "_law_turn", "_law_rows", "_law_one", "_law_other", "_law_k"], np := 1, body := b16, st := tS 19 }
def defs : List Def := [d0, d1, d2, d3, d4, d5, d6, d7, d8, d9, d10, d11, d12, d13, d14, d15, d16]
def glbs : List (Str × PyData) := []
def gds : List (Str × List (Str × PyData)) := [("TIMES", [("ask", (.int 5)), ("job", (.int 3))])]
def bl : List Str := ["len", "sorted", "tuple", "list", "int", "isinstance", "range", "enumerate", "bool"]
theorem k0 : defC defs glbs gds bl d0 = true := by decide +kernel
theorem k1 : defC defs glbs gds bl d1 = true := by decide +kernel
theorem k2 : defC defs glbs gds bl d2 = true := by decide +kernel
theorem k3 : defC defs glbs gds bl d3 = true := by decide +kernel
theorem k4 : defC defs glbs gds bl d4 = true := by decide +kernel
theorem k5 : defC defs glbs gds bl d5 = true := by decide +kernel
theorem k6 : defC defs glbs gds bl d6 = true := by decide +kernel
theorem k7 : defC defs glbs gds bl d7 = true := by decide +kernel
theorem k8 : defC defs glbs gds bl d8 = true := by decide +kernel
theorem k9 : defC defs glbs gds bl d9 = true := by decide +kernel
theorem k10 : defC defs glbs gds bl d10 = true := by decide +kernel
theorem k11 : defC defs glbs gds bl d11 = true := by decide +kernel
theorem k12 : defC defs glbs gds bl d12 = true := by decide +kernel
theorem k13 : defC defs glbs gds bl d13 = true := by decide +kernel
theorem k14 : defC defs glbs gds bl d14 = true := by decide +kernel
theorem k15 : defC defs glbs gds bl d15 = true := by decide +kernel
theorem k16 : defC defs glbs gds bl d16 = true := by decide +kernel

/-- nothing is raised -/
def XR : Exc → Value → Option Addr → Hp → Prop := fun _ _ _ _ => False
/-! the pen: it draws numbers -/
def pen (cs : List Int) (i : Nat) (v : Int) : Store := [.lst (cs.map fun c => .p (.int c)), .lst [.c 0, .p (.int i), .p (.int v)]]
def OkEx (ex : Store) : Prop := ex.all (cellBelow (2 + ex.length)) = true
theorem gc_pen {cs : List Int} {i : Nat} {v : Int} {ex more : Store} {n : Nat} (h : OkEx ex) (e : n = 2 + ex.length) : gc n (pen cs i v ++ ex ++ more) = pen cs i v ++ ex := by
  refine gc_at (by rw [e]; simp [pen]; omega) ?_
  rw [List.all_append, Bool.and_eq_true]
  refine ⟨?_, by rw [e]; exact h⟩
  have : 0 < 2 + ex.length := by omega
  simp [pen, cellBelow, dBelow, e, this]
theorem gc_pen0 {cs : List Int} {i : Nat} {v : Int} {ex : Store} {n : Nat} (e : n = 2 + ex.length) : gc n (pen cs i v ++ ex) = pen cs i v ++ ex := gc_self (by rw [e]; simp [pen]; omega)
theorem spread_ok (k : Nat) (c a : Int) (st : Store) : wp (semK defs (k + 1) 4 [.p (.int c), .p (.int a)] st) fun d st' => ∃ x : Int, d = .p (.int x) ∧ st' = st := by
  refine wp_sem (d := d4) rfl rfl ?_
  simp only [d4, b4, e_svs_cons, e_svs_nil, e_sv_ife, e_sv_ret, e_sv_retN, e_sv_set, e_sv_setIx, e_sv_setLc, e_sv_app, e_sv_ex, e_sv_loop, e_sv_pass, e_ev_var, e_ev_lit, e_ev_glb, e_ev_gix, e_ev_bin, e_ev_neg, e_ev_not, w_and, w_or, QT2_bool, QB_bool, e_ev_one, e_ev_cmp, w_cmp2, e_ev_ife, e_ev_tup, e_ev_lst, e_ev_ix, e_ev_sl, e_ev_bi, e_ev_mx2, e_ev_isi, e_ev_call, e_ev_join, e_ev_lc, e_evs_nil, e_evs_cons, e_evo_none, e_evo_some, e_evi_seq, e_evi_rng1, e_evi_rng2, e_evi_enum, e_evi_zip, env0, varD, e_b_nm, e_b_tT, e_b_tL, e_b_nil, e_b_cons, wp_bind, wp_then, wp_ok, wp_truR, wp_finP, QF_nx, QF_rt, QE1_rt, QE1_nx, QT1_bool, List.map, List.length, List.replicate, List.getElem?_cons_zero, List.getElem?_cons_succ, List.set, Nat.reduceSub, List.cons_append, List.nil_append, Nat.reduceAdd, wp_ite, e_mkLT, tru_b, seqI_L, seqI_T, pures_p, pures_nil, Option.map_some, Option.bind_some, if_true, sz_0, sz_1, sz_2, sz_3, sz_4, sz_5, sz_6, sz_7, sz_8, sz_9, sz_10, sz_11, sz_12, sz_13, sz_14, sz_15, sz_16, sz_17, sz_18, sz_19, sz_20, sz_21, sz_22, sz_23, sz_24, sz_25, sz_26, sz_27, sz_28, sz_29, sz_30, sz_31, sz_32, sz_33, sz_34, sz_35, sz_36, sz_37, sz_38, sz_39, sz_40, e_pow18, e_ge]
  split
  · exact ⟨c, rfl, gc_self rfl⟩
  · simp only [e_svs_cons, e_svs_nil, e_sv_ife, e_sv_ret, e_sv_retN, e_sv_set, e_sv_setIx, e_sv_setLc, e_sv_app, e_sv_ex, e_sv_loop, e_sv_pass, e_ev_var, e_ev_lit, e_ev_glb, e_ev_gix, e_ev_bin, e_ev_neg, e_ev_not, w_and, w_or, QT2_bool, QB_bool, e_ev_one, e_ev_cmp, w_cmp2, e_ev_ife, e_ev_tup, e_ev_lst, e_ev_ix, e_ev_sl, e_ev_bi, e_ev_mx2, e_ev_isi, e_ev_call, e_ev_join, e_ev_lc, e_evs_nil, e_evs_cons, e_evo_none, e_evo_some, e_evi_seq, e_evi_rng1, e_evi_rng2, e_evi_enum, e_evi_zip, env0, varD, e_b_nm, e_b_tT, e_b_tL, e_b_nil, e_b_cons, wp_bind, wp_then, wp_ok, wp_truR, wp_finP, QF_nx, QF_rt, QE1_rt, QE1_nx, QT1_bool, List.map, List.length, List.replicate, List.getElem?_cons_zero, List.getElem?_cons_succ, List.set, Nat.reduceSub, List.cons_append, List.nil_append, Nat.reduceAdd, wp_ite, e_mkLT, tru_b, seqI_L, seqI_T, pures_p, pures_nil, Option.map_some, Option.bind_some, if_true, sz_0, sz_1, sz_2, sz_3, sz_4, sz_5, sz_6, sz_7, sz_8, sz_9, sz_10, sz_11, sz_12, sz_13, sz_14, sz_15, sz_16, sz_17, sz_18, sz_19, sz_20, sz_21, sz_22, sz_23, sz_24, sz_25, sz_26, sz_27, sz_28, sz_29, sz_30, sz_31, sz_32, sz_33, sz_34, sz_35, sz_36, sz_37, sz_38, sz_39, sz_40, e_mod, e_mul, e_add, Int.reduceLT, if_true]
    refine if_go (mulOk_r (by decide)) (if_go (mulOk_r (by decide)) (if_go (mulOk_r (abs_mod (by decide) (by decide))) (if_go (mulOk_r (by decide)) (if_go (mulOk_r (abs_mod (by decide) (by decide))) (if_go (mulOk_r (by decide)) (if_go (mulOk_r (by decide)) (if_go (mulOk_r (by decide)) ?_)))))))
    exact ⟨_, rfl, gc_self rfl⟩
theorem pen_len (cs : List Int) (i : Nat) (v : Int) (ex : Store) : (pen cs i v ++ ex).length = 2 + ex.length := by simp [pen]; omega
theorem pen_1 (cs : List Int) (i : Nat) (v : Int) (ex : Store) : cellL (pen cs i v ++ ex) 1 = some [.c 0, .p (.int i), .p (.int v)] := rfl
theorem pen_0 (cs : List Int) (i : Nat) (v : Int) (ex : Store) : cellL (pen cs i v ++ ex) 0 = some (cs.map fun c => .p (.int c)) := rfl
theorem pen_set (cs : List Int) (i j : Nat) (v u : Int) (ex : Store) : (pen cs i v ++ ex).set 1 (.lst [.c 0, .p (.int j), .p (.int u)]) = pen cs j u ++ ex := rfl
theorem ix_c {n : Nat} {st : Store} {ds : List D} (h : cellL st n = some ds) (i : Int) : ixD (.c n) (.p (.int i)) st = match atI ds i with | some d => .ok d st | none => .bad := by
  have : items (.c n) st = some ds := h
  unfold ixD
  simp only [this] <;> (cases atI ds i <;> rfl)
theorem len_c {n : Nat} {st : Store} {ds : List D} (h : cellL st n = some ds) : bi1D .len (.c n) st = .ok (.p (.int ds.length)) st := by
  have : items (.c n) st = some ds := h
  unfold bi1D lenD
  simp only [this]
theorem setIx_c {n : Nat} {st : Store} {ds : List D} (h : cellL st n = some ds) (j : Nat) (hj : j < ds.length) (x : D) (env : MP.Env) : setIxD (.c n) (.p (.int (j : Int))) x env st = .ok (.nx env) (st.set n (.lst (ds.set j x))) := by
  unfold setIxD
  simp only [h]
  have : ixN ds.length (j : Int) = some j := by unfold ixN; simp [hj]
  rw [this]
section
variable {cs : List Int} {i : Nat} {v m : Int} {ex : Store}
theorem p_ix0 : ixD (.c 1) (.p (.int 0)) (pen cs i v ++ ex) = .ok (.c 0) (pen cs i v ++ ex) := nr rfl
theorem p_ix1 : ixD (.c 1) (.p (.int 1)) (pen cs i v ++ ex) = .ok (.p (.int i)) (pen cs i v ++ ex) := nr rfl
theorem p_ix2 : ixD (.c 1) (.p (.int 2)) (pen cs i v ++ ex) = .ok (.p (.int v)) (pen cs i v ++ ex) := nr rfl
theorem p_len : bi1D .len (.c 0) (pen cs i v ++ ex) = .ok (.p (.int cs.length)) (pen cs i v ++ ex) := by
  rw [len_c (pen_0 cs i v ex), List.length_map]
theorem p_cell {j : Nat} (hj : j < cs.length) : ixD (.c 0) (.p (.int j)) (pen cs i v ++ ex) = .ok (.p (.int cs[j])) (pen cs i v ++ ex) := by
  rw [ix_c (pen_0 cs i v ex)]
  have : atI (cs.map fun c => D.p (.int c)) (j : Int) = some (.p (.int cs[j])) := by
    exact atI_nat (by simp [hj])
  rw [this]
theorem p_set1 (env : MP.Env) (u : Int) (j : Nat) (hu : u = j) : setIxD (.c 1) (.p (.int 1)) (.p (.int u)) env (pen cs i v ++ ex) = .ok (.nx env) (pen cs j v ++ ex) := by
  subst hu; exact nr rfl
theorem p_set2 (env : MP.Env) (u : Int) : setIxD (.c 1) (.p (.int 2)) (.p (.int u)) env (pen cs i v ++ ex) = .ok (.nx env) (pen cs i u ++ ex) := nr rfl
end
theorem take_ok (k : Nat) {cs : List Int} {i : Nat} {v m : Int} {ex : Store} (hm : 0 < m) (hm2 : m < 2 ^ 100) :
    wp (semK defs (k + 2) 7 [.c 1, .p (.int m)] (pen cs i v ++ ex)) fun d st' => ∃ (x : Int) (j : Nat) (u : Int), 0 ≤ x ∧ x < m ∧ d = .p (.int x) ∧ st' = pen cs j u ++ ex := by
  refine wp_sem (d := d7) rfl rfl ?_
  have hg : ∀ (j : Nat) (u : Int), gc (pen cs i v ++ ex).length (pen cs j u ++ ex) = pen cs j u ++ ex := fun j u => gc_pen0 (pen_len cs i v ex)
  have h1 := Int.emod_nonneg
  have h2 := fun x : Int => Int.emod_lt_of_pos x hm
  simp only [d7, b7, e_svs_cons, e_svs_nil, e_sv_ife, e_sv_ret, e_sv_retN, e_sv_set, e_sv_setIx, e_sv_setLc, e_sv_app, e_sv_ex, e_sv_loop, e_sv_pass, e_ev_var, e_ev_lit, e_ev_glb, e_ev_gix, e_ev_bin, e_ev_neg, e_ev_not, w_and, w_or, QT2_bool, QB_bool, e_ev_one, e_ev_cmp, w_cmp2, e_ev_ife, e_ev_tup, e_ev_lst, e_ev_ix, e_ev_sl, e_ev_bi, e_ev_mx2, e_ev_isi, e_ev_call, e_ev_join, e_ev_lc, e_evs_nil, e_evs_cons, e_evo_none, e_evo_some, e_evi_seq, e_evi_rng1, e_evi_rng2, e_evi_enum, e_evi_zip, env0, varD, e_b_nm, e_b_tT, e_b_tL, e_b_nil, e_b_cons, wp_bind, wp_then, wp_ok, wp_truR, wp_finP, QF_nx, QF_rt, QE1_rt, QE1_nx, QT1_bool, List.map, List.length, List.replicate, List.getElem?_cons_zero, List.getElem?_cons_succ, List.set, Nat.reduceSub, List.cons_append, List.nil_append, Nat.reduceAdd, wp_ite, e_mkLT, tru_b, seqI_L, seqI_T, pures_p, pures_nil, Option.map_some, Option.bind_some, if_true, sz_0, sz_1, sz_2, sz_3, sz_4, sz_5, sz_6, sz_7, sz_8, sz_9, sz_10, sz_11, sz_12, sz_13, sz_14, sz_15, sz_16, sz_17, sz_18, sz_19, sz_20, sz_21, sz_22, sz_23, sz_24, sz_25, sz_26, sz_27, sz_28, sz_29, sz_30, sz_31, sz_32, sz_33, sz_34, sz_35, sz_36, sz_37, sz_38, sz_39, sz_40, p_ix2, e_lt]
  split
  · simp only [e_svs_cons, e_svs_nil, e_sv_ife, e_sv_ret, e_sv_retN, e_sv_set, e_sv_setIx, e_sv_setLc, e_sv_app, e_sv_ex, e_sv_loop, e_sv_pass, e_ev_var, e_ev_lit, e_ev_glb, e_ev_gix, e_ev_bin, e_ev_neg, e_ev_not, w_and, w_or, QT2_bool, QB_bool, e_ev_one, e_ev_cmp, w_cmp2, e_ev_ife, e_ev_tup, e_ev_lst, e_ev_ix, e_ev_sl, e_ev_bi, e_ev_mx2, e_ev_isi, e_ev_call, e_ev_join, e_ev_lc, e_evs_nil, e_evs_cons, e_evo_none, e_evo_some, e_evi_seq, e_evi_rng1, e_evi_rng2, e_evi_enum, e_evi_zip, env0, varD, e_b_nm, e_b_tT, e_b_tL, e_b_nil, e_b_cons, wp_bind, wp_then, wp_ok, wp_truR, wp_finP, QF_nx, QF_rt, QE1_rt, QE1_nx, QT1_bool, List.map, List.length, List.replicate, List.getElem?_cons_zero, List.getElem?_cons_succ, List.set, Nat.reduceSub, List.cons_append, List.nil_append, Nat.reduceAdd, wp_ite, e_mkLT, tru_b, seqI_L, seqI_T, pures_p, pures_nil, Option.map_some, Option.bind_some, if_true, sz_0, sz_1, sz_2, sz_3, sz_4, sz_5, sz_6, sz_7, sz_8, sz_9, sz_10, sz_11, sz_12, sz_13, sz_14, sz_15, sz_16, sz_17, sz_18, sz_19, sz_20, sz_21, sz_22, sz_23, sz_24, sz_25, sz_26, sz_27, sz_28, sz_29, sz_30, sz_31, sz_32, sz_33, sz_34, sz_35, sz_36, sz_37, sz_38, sz_39, sz_40, p_ix1, p_ix0, p_len, e_lt]
    have fin : ∀ (c : Int), True := fun _ => trivial
    split
    · rename_i hlt
      have hlt : i < cs.length := by simpa using hlt
      simp only [e_svs_cons, e_svs_nil, e_sv_ife, e_sv_ret, e_sv_retN, e_sv_set, e_sv_setIx, e_sv_setLc, e_sv_app, e_sv_ex, e_sv_loop, e_sv_pass, e_ev_var, e_ev_lit, e_ev_glb, e_ev_gix, e_ev_bin, e_ev_neg, e_ev_not, w_and, w_or, QT2_bool, QB_bool, e_ev_one, e_ev_cmp, w_cmp2, e_ev_ife, e_ev_tup, e_ev_lst, e_ev_ix, e_ev_sl, e_ev_bi, e_ev_mx2, e_ev_isi, e_ev_call, e_ev_join, e_ev_lc, e_evs_nil, e_evs_cons, e_evo_none, e_evo_some, e_evi_seq, e_evi_rng1, e_evi_rng2, e_evi_enum, e_evi_zip, env0, varD, e_b_nm, e_b_tT, e_b_tL, e_b_nil, e_b_cons, wp_bind, wp_then, wp_ok, wp_truR, wp_finP, QF_nx, QF_rt, QE1_rt, QE1_nx, QT1_bool, List.map, List.length, List.replicate, List.getElem?_cons_zero, List.getElem?_cons_succ, List.set, Nat.reduceSub, List.cons_append, List.nil_append, Nat.reduceAdd, wp_ite, e_mkLT, tru_b, seqI_L, seqI_T, pures_p, pures_nil, Option.map_some, Option.bind_some, if_true, sz_0, sz_1, sz_2, sz_3, sz_4, sz_5, sz_6, sz_7, sz_8, sz_9, sz_10, sz_11, sz_12, sz_13, sz_14, sz_15, sz_16, sz_17, sz_18, sz_19, sz_20, sz_21, sz_22, sz_23, sz_24, sz_25, sz_26, sz_27, sz_28, sz_29, sz_30, sz_31, sz_32, sz_33, sz_34, sz_35, sz_36, sz_37, sz_38, sz_39, sz_40, p_ix0, p_cell hlt, e_add, p_set1 (cs := cs) _ ((i : Int) + 1) (i + 1) (by simp)]
      refine wp_mono (spread_ok k _ _ _) ?_
      rintro _ _ ⟨x, rfl, rfl⟩
      simp only [e_svs_cons, e_svs_nil, e_sv_ife, e_sv_ret, e_sv_retN, e_sv_set, e_sv_setIx, e_sv_setLc, e_sv_app, e_sv_ex, e_sv_loop, e_sv_pass, e_ev_var, e_ev_lit, e_ev_glb, e_ev_gix, e_ev_bin, e_ev_neg, e_ev_not, w_and, w_or, QT2_bool, QB_bool, e_ev_one, e_ev_cmp, w_cmp2, e_ev_ife, e_ev_tup, e_ev_lst, e_ev_ix, e_ev_sl, e_ev_bi, e_ev_mx2, e_ev_isi, e_ev_call, e_ev_join, e_ev_lc, e_evs_nil, e_evs_cons, e_evo_none, e_evo_some, e_evi_seq, e_evi_rng1, e_evi_rng2, e_evi_enum, e_evi_zip, env0, varD, e_b_nm, e_b_tT, e_b_tL, e_b_nil, e_b_cons, wp_bind, wp_then, wp_ok, wp_truR, wp_finP, QF_nx, QF_rt, QE1_rt, QE1_nx, QT1_bool, List.map, List.length, List.replicate, List.getElem?_cons_zero, List.getElem?_cons_succ, List.set, Nat.reduceSub, List.cons_append, List.nil_append, Nat.reduceAdd, wp_ite, e_mkLT, tru_b, seqI_L, seqI_T, pures_p, pures_nil, Option.map_some, Option.bind_some, if_true, sz_0, sz_1, sz_2, sz_3, sz_4, sz_5, sz_6, sz_7, sz_8, sz_9, sz_10, sz_11, sz_12, sz_13, sz_14, sz_15, sz_16, sz_17, sz_18, sz_19, sz_20, sz_21, sz_22, sz_23, sz_24, sz_25, sz_26, sz_27, sz_28, sz_29, sz_30, sz_31, sz_32, sz_33, sz_34, sz_35, sz_36, sz_37, sz_38, sz_39, sz_40, p_set2, p_ix2, e_mod, e_div]
      rw [if_pos hm, if_pos ⟨hm, hm2⟩]
      exact ⟨_, _, _, h1 _ (Int.ne_of_gt hm), h2 _, rfl, hg _ _⟩
    · simp only [e_svs_cons, e_svs_nil, e_sv_ife, e_sv_ret, e_sv_retN, e_sv_set, e_sv_setIx, e_sv_setLc, e_sv_app, e_sv_ex, e_sv_loop, e_sv_pass, e_ev_var, e_ev_lit, e_ev_glb, e_ev_gix, e_ev_bin, e_ev_neg, e_ev_not, w_and, w_or, QT2_bool, QB_bool, e_ev_one, e_ev_cmp, w_cmp2, e_ev_ife, e_ev_tup, e_ev_lst, e_ev_ix, e_ev_sl, e_ev_bi, e_ev_mx2, e_ev_isi, e_ev_call, e_ev_join, e_ev_lc, e_evs_nil, e_evs_cons, e_evo_none, e_evo_some, e_evi_seq, e_evi_rng1, e_evi_rng2, e_evi_enum, e_evi_zip, env0, varD, e_b_nm, e_b_tT, e_b_tL, e_b_nil, e_b_cons, wp_bind, wp_then, wp_ok, wp_truR, wp_finP, QF_nx, QF_rt, QE1_rt, QE1_nx, QT1_bool, List.map, List.length, List.replicate, List.getElem?_cons_zero, List.getElem?_cons_succ, List.set, Nat.reduceSub, List.cons_append, List.nil_append, Nat.reduceAdd, wp_ite, e_mkLT, tru_b, seqI_L, seqI_T, pures_p, pures_nil, Option.map_some, Option.bind_some, if_true, sz_0, sz_1, sz_2, sz_3, sz_4, sz_5, sz_6, sz_7, sz_8, sz_9, sz_10, sz_11, sz_12, sz_13, sz_14, sz_15, sz_16, sz_17, sz_18, sz_19, sz_20, sz_21, sz_22, sz_23, sz_24, sz_25, sz_26, sz_27, sz_28, sz_29, sz_30, sz_31, sz_32, sz_33, sz_34, sz_35, sz_36, sz_37, sz_38, sz_39, sz_40, p_ix0, p_len, e_gt]
      split
      · rename_i hlt
        have hlt : 0 < cs.length := by simpa using hlt
        simp only [e_svs_cons, e_svs_nil, e_sv_ife, e_sv_ret, e_sv_retN, e_sv_set, e_sv_setIx, e_sv_setLc, e_sv_app, e_sv_ex, e_sv_loop, e_sv_pass, e_ev_var, e_ev_lit, e_ev_glb, e_ev_gix, e_ev_bin, e_ev_neg, e_ev_not, w_and, w_or, QT2_bool, QB_bool, e_ev_one, e_ev_cmp, w_cmp2, e_ev_ife, e_ev_tup, e_ev_lst, e_ev_ix, e_ev_sl, e_ev_bi, e_ev_mx2, e_ev_isi, e_ev_call, e_ev_join, e_ev_lc, e_evs_nil, e_evs_cons, e_evo_none, e_evo_some, e_evi_seq, e_evi_rng1, e_evi_rng2, e_evi_enum, e_evi_zip, env0, varD, e_b_nm, e_b_tT, e_b_tL, e_b_nil, e_b_cons, wp_bind, wp_then, wp_ok, wp_truR, wp_finP, QF_nx, QF_rt, QE1_rt, QE1_nx, QT1_bool, List.map, List.length, List.replicate, List.getElem?_cons_zero, List.getElem?_cons_succ, List.set, Nat.reduceSub, List.cons_append, List.nil_append, Nat.reduceAdd, wp_ite, e_mkLT, tru_b, seqI_L, seqI_T, pures_p, pures_nil, Option.map_some, Option.bind_some, if_true, sz_0, sz_1, sz_2, sz_3, sz_4, sz_5, sz_6, sz_7, sz_8, sz_9, sz_10, sz_11, sz_12, sz_13, sz_14, sz_15, sz_16, sz_17, sz_18, sz_19, sz_20, sz_21, sz_22, sz_23, sz_24, sz_25, sz_26, sz_27, sz_28, sz_29, sz_30, sz_31, sz_32, sz_33, sz_34, sz_35, sz_36, sz_37, sz_38, sz_39, sz_40, p_ix0, p_len, e_mul, e_add, e_mod, e_pow17]
        rw [if_pos (mulOk_r (by decide))]
        rw [if_pos (by omega)]
        obtain ⟨q, hq⟩ : ∃ q : Nat, ((i : Int) * 5 + 3) % (cs.length : Int) = q := ⟨((i * 5 + 3) % cs.length : Nat), by simp⟩
        have hq2 : q < cs.length := by
          have := Int.emod_lt_of_pos ((i : Int) * 5 + 3) (show (0 : Int) < cs.length by omega)
          omega
        rw [hq]
        simp only [e_svs_cons, e_svs_nil, e_sv_ife, e_sv_ret, e_sv_retN, e_sv_set, e_sv_setIx, e_sv_setLc, e_sv_app, e_sv_ex, e_sv_loop, e_sv_pass, e_ev_var, e_ev_lit, e_ev_glb, e_ev_gix, e_ev_bin, e_ev_neg, e_ev_not, w_and, w_or, QT2_bool, QB_bool, e_ev_one, e_ev_cmp, w_cmp2, e_ev_ife, e_ev_tup, e_ev_lst, e_ev_ix, e_ev_sl, e_ev_bi, e_ev_mx2, e_ev_isi, e_ev_call, e_ev_join, e_ev_lc, e_evs_nil, e_evs_cons, e_evo_none, e_evo_some, e_evi_seq, e_evi_rng1, e_evi_rng2, e_evi_enum, e_evi_zip, env0, varD, e_b_nm, e_b_tT, e_b_tL, e_b_nil, e_b_cons, wp_bind, wp_then, wp_ok, wp_truR, wp_finP, QF_nx, QF_rt, QE1_rt, QE1_nx, QT1_bool, List.map, List.length, List.replicate, List.getElem?_cons_zero, List.getElem?_cons_succ, List.set, Nat.reduceSub, List.cons_append, List.nil_append, Nat.reduceAdd, wp_ite, e_mkLT, tru_b, seqI_L, seqI_T, pures_p, pures_nil, Option.map_some, Option.bind_some, if_true, sz_0, sz_1, sz_2, sz_3, sz_4, sz_5, sz_6, sz_7, sz_8, sz_9, sz_10, sz_11, sz_12, sz_13, sz_14, sz_15, sz_16, sz_17, sz_18, sz_19, sz_20, sz_21, sz_22, sz_23, sz_24, sz_25, sz_26, sz_27, sz_28, sz_29, sz_30, sz_31, sz_32, sz_33, sz_34, sz_35, sz_36, sz_37, sz_38, sz_39, sz_40, p_cell hq2, e_add, e_mod, p_set1 (cs := cs) _ ((i : Int) + 1) (i + 1) (by simp)]
        rw [if_pos (by omega)]
        refine wp_mono (spread_ok k _ _ _) ?_
        rintro _ _ ⟨x, rfl, rfl⟩
        simp only [e_svs_cons, e_svs_nil, e_sv_ife, e_sv_ret, e_sv_retN, e_sv_set, e_sv_setIx, e_sv_setLc, e_sv_app, e_sv_ex, e_sv_loop, e_sv_pass, e_ev_var, e_ev_lit, e_ev_glb, e_ev_gix, e_ev_bin, e_ev_neg, e_ev_not, w_and, w_or, QT2_bool, QB_bool, e_ev_one, e_ev_cmp, w_cmp2, e_ev_ife, e_ev_tup, e_ev_lst, e_ev_ix, e_ev_sl, e_ev_bi, e_ev_mx2, e_ev_isi, e_ev_call, e_ev_join, e_ev_lc, e_evs_nil, e_evs_cons, e_evo_none, e_evo_some, e_evi_seq, e_evi_rng1, e_evi_rng2, e_evi_enum, e_evi_zip, env0, varD, e_b_nm, e_b_tT, e_b_tL, e_b_nil, e_b_cons, wp_bind, wp_then, wp_ok, wp_truR, wp_finP, QF_nx, QF_rt, QE1_rt, QE1_nx, QT1_bool, List.map, List.length, List.replicate, List.getElem?_cons_zero, List.getElem?_cons_succ, List.set, Nat.reduceSub, List.cons_append, List.nil_append, Nat.reduceAdd, wp_ite, e_mkLT, tru_b, seqI_L, seqI_T, pures_p, pures_nil, Option.map_some, Option.bind_some, if_true, sz_0, sz_1, sz_2, sz_3, sz_4, sz_5, sz_6, sz_7, sz_8, sz_9, sz_10, sz_11, sz_12, sz_13, sz_14, sz_15, sz_16, sz_17, sz_18, sz_19, sz_20, sz_21, sz_22, sz_23, sz_24, sz_25, sz_26, sz_27, sz_28, sz_29, sz_30, sz_31, sz_32, sz_33, sz_34, sz_35, sz_36, sz_37, sz_38, sz_39, sz_40, p_set2, p_ix2, e_mod, e_div]
        rw [if_pos hm, if_pos ⟨hm, hm2⟩]
        exact ⟨_, _, _, h1 _ (Int.ne_of_gt hm), h2 _, rfl, hg _ _⟩
      · simp only [e_svs_cons, e_svs_nil, e_sv_ife, e_sv_ret, e_sv_retN, e_sv_set, e_sv_setIx, e_sv_setLc, e_sv_app, e_sv_ex, e_sv_loop, e_sv_pass, e_ev_var, e_ev_lit, e_ev_glb, e_ev_gix, e_ev_bin, e_ev_neg, e_ev_not, w_and, w_or, QT2_bool, QB_bool, e_ev_one, e_ev_cmp, w_cmp2, e_ev_ife, e_ev_tup, e_ev_lst, e_ev_ix, e_ev_sl, e_ev_bi, e_ev_mx2, e_ev_isi, e_ev_call, e_ev_join, e_ev_lc, e_evs_nil, e_evs_cons, e_evo_none, e_evo_some, e_evi_seq, e_evi_rng1, e_evi_rng2, e_evi_enum, e_evi_zip, env0, varD, e_b_nm, e_b_tT, e_b_tL, e_b_nil, e_b_cons, wp_bind, wp_then, wp_ok, wp_truR, wp_finP, QF_nx, QF_rt, QE1_rt, QE1_nx, QT1_bool, List.map, List.length, List.replicate, List.getElem?_cons_zero, List.getElem?_cons_succ, List.set, Nat.reduceSub, List.cons_append, List.nil_append, Nat.reduceAdd, wp_ite, e_mkLT, tru_b, seqI_L, seqI_T, pures_p, pures_nil, Option.map_some, Option.bind_some, if_true, sz_0, sz_1, sz_2, sz_3, sz_4, sz_5, sz_6, sz_7, sz_8, sz_9, sz_10, sz_11, sz_12, sz_13, sz_14, sz_15, sz_16, sz_17, sz_18, sz_19, sz_20, sz_21, sz_22, sz_23, sz_24, sz_25, sz_26, sz_27, sz_28, sz_29, sz_30, sz_31, sz_32, sz_33, sz_34, sz_35, sz_36, sz_37, sz_38, sz_39, sz_40, e_add, p_set1 (cs := cs) _ ((i : Int) + 1) (i + 1) (by simp)]
        refine wp_mono (spread_ok k _ _ _) ?_
        rintro _ _ ⟨x, rfl, rfl⟩
        simp only [e_svs_cons, e_svs_nil, e_sv_ife, e_sv_ret, e_sv_retN, e_sv_set, e_sv_setIx, e_sv_setLc, e_sv_app, e_sv_ex, e_sv_loop, e_sv_pass, e_ev_var, e_ev_lit, e_ev_glb, e_ev_gix, e_ev_bin, e_ev_neg, e_ev_not, w_and, w_or, QT2_bool, QB_bool, e_ev_one, e_ev_cmp, w_cmp2, e_ev_ife, e_ev_tup, e_ev_lst, e_ev_ix, e_ev_sl, e_ev_bi, e_ev_mx2, e_ev_isi, e_ev_call, e_ev_join, e_ev_lc, e_evs_nil, e_evs_cons, e_evo_none, e_evo_some, e_evi_seq, e_evi_rng1, e_evi_rng2, e_evi_enum, e_evi_zip, env0, varD, e_b_nm, e_b_tT, e_b_tL, e_b_nil, e_b_cons, wp_bind, wp_then, wp_ok, wp_truR, wp_finP, QF_nx, QF_rt, QE1_rt, QE1_nx, QT1_bool, List.map, List.length, List.replicate, List.getElem?_cons_zero, List.getElem?_cons_succ, List.set, Nat.reduceSub, List.cons_append, List.nil_append, Nat.reduceAdd, wp_ite, e_mkLT, tru_b, seqI_L, seqI_T, pures_p, pures_nil, Option.map_some, Option.bind_some, if_true, sz_0, sz_1, sz_2, sz_3, sz_4, sz_5, sz_6, sz_7, sz_8, sz_9, sz_10, sz_11, sz_12, sz_13, sz_14, sz_15, sz_16, sz_17, sz_18, sz_19, sz_20, sz_21, sz_22, sz_23, sz_24, sz_25, sz_26, sz_27, sz_28, sz_29, sz_30, sz_31, sz_32, sz_33, sz_34, sz_35, sz_36, sz_37, sz_38, sz_39, sz_40, p_set2, p_ix2, e_mod, e_div]
        rw [if_pos hm, if_pos ⟨hm, hm2⟩]
        exact ⟨_, _, _, h1 _ (Int.ne_of_gt hm), h2 _, rfl, hg _ _⟩
  · simp only [e_svs_cons, e_svs_nil, e_sv_ife, e_sv_ret, e_sv_retN, e_sv_set, e_sv_setIx, e_sv_setLc, e_sv_app, e_sv_ex, e_sv_loop, e_sv_pass, e_ev_var, e_ev_lit, e_ev_glb, e_ev_gix, e_ev_bin, e_ev_neg, e_ev_not, w_and, w_or, QT2_bool, QB_bool, e_ev_one, e_ev_cmp, w_cmp2, e_ev_ife, e_ev_tup, e_ev_lst, e_ev_ix, e_ev_sl, e_ev_bi, e_ev_mx2, e_ev_isi, e_ev_call, e_ev_join, e_ev_lc, e_evs_nil, e_evs_cons, e_evo_none, e_evo_some, e_evi_seq, e_evi_rng1, e_evi_rng2, e_evi_enum, e_evi_zip, env0, varD, e_b_nm, e_b_tT, e_b_tL, e_b_nil, e_b_cons, wp_bind, wp_then, wp_ok, wp_truR, wp_finP, QF_nx, QF_rt, QE1_rt, QE1_nx, QT1_bool, List.map, List.length, List.replicate, List.getElem?_cons_zero, List.getElem?_cons_succ, List.set, Nat.reduceSub, List.cons_append, List.nil_append, Nat.reduceAdd, wp_ite, e_mkLT, tru_b, seqI_L, seqI_T, pures_p, pures_nil, Option.map_some, Option.bind_some, if_true, sz_0, sz_1, sz_2, sz_3, sz_4, sz_5, sz_6, sz_7, sz_8, sz_9, sz_10, sz_11, sz_12, sz_13, sz_14, sz_15, sz_16, sz_17, sz_18, sz_19, sz_20, sz_21, sz_22, sz_23, sz_24, sz_25, sz_26, sz_27, sz_28, sz_29, sz_30, sz_31, sz_32, sz_33, sz_34, sz_35, sz_36, sz_37, sz_38, sz_39, sz_40, p_ix2, p_set2, e_mod, e_div]
    rw [if_pos hm, if_pos ⟨hm, hm2⟩]
    exact ⟨_, _, _, h1 _ (Int.ne_of_gt hm), h2 _, rfl, hg _ _⟩
theorem take_then (k : Nat) {cs : List Int} {i : Nat} {v m : Int} {ex : Store} (hm : 0 < m) (hm2 : m < 2 ^ 100) {Q : D → Store → Prop} (h : ∀ (x : Int) (j : Nat) (u : Int), 0 ≤ x → x < m → Q (.p (.int x)) (pen cs j u ++ ex)) :
    wp (semK defs (k + 2) 7 [.c 1, .p (.int m)] (pen cs i v ++ ex)) Q :=
  wp_mono (take_ok k hm hm2) (by rintro _ _ ⟨x, j, u, h0, h1, rfl, rfl⟩; exact h x j u h0 h1)
theorem anew_ok (k : Nat) {cs : List Int} {i : Nat} {v : Int} {ex : Store} : wp (semK defs (k + 1) 6 [.c 1] (pen cs i v ++ ex)) fun d st' => d = .c 1 ∧ st' = pen cs i 0 ++ ex := by
  refine wp_sem (d := d6) rfl rfl ?_
  simp only [d6, b6, e_svs_cons, e_svs_nil, e_sv_ife, e_sv_ret, e_sv_retN, e_sv_set, e_sv_setIx, e_sv_setLc, e_sv_app, e_sv_ex, e_sv_loop, e_sv_pass, e_ev_var, e_ev_lit, e_ev_glb, e_ev_gix, e_ev_bin, e_ev_neg, e_ev_not, w_and, w_or, QT2_bool, QB_bool, e_ev_one, e_ev_cmp, w_cmp2, e_ev_ife, e_ev_tup, e_ev_lst, e_ev_ix, e_ev_sl, e_ev_bi, e_ev_mx2, e_ev_isi, e_ev_call, e_ev_join, e_ev_lc, e_evs_nil, e_evs_cons, e_evo_none, e_evo_some, e_evi_seq, e_evi_rng1, e_evi_rng2, e_evi_enum, e_evi_zip, env0, varD, e_b_nm, e_b_tT, e_b_tL, e_b_nil, e_b_cons, wp_bind, wp_then, wp_ok, wp_truR, wp_finP, QF_nx, QF_rt, QE1_rt, QE1_nx, QT1_bool, List.map, List.length, List.replicate, List.getElem?_cons_zero, List.getElem?_cons_succ, List.set, Nat.reduceSub, List.cons_append, List.nil_append, Nat.reduceAdd, wp_ite, e_mkLT, tru_b, seqI_L, seqI_T, pures_p, pures_nil, Option.map_some, Option.bind_some, if_true, sz_0, sz_1, sz_2, sz_3, sz_4, sz_5, sz_6, sz_7, sz_8, sz_9, sz_10, sz_11, sz_12, sz_13, sz_14, sz_15, sz_16, sz_17, sz_18, sz_19, sz_20, sz_21, sz_22, sz_23, sz_24, sz_25, sz_26, sz_27, sz_28, sz_29, sz_30, sz_31, sz_32, sz_33, sz_34, sz_35, sz_36, sz_37, sz_38, sz_39, sz_40, p_set2]
  have h : dBelow (pen cs i v ++ ex).length (.c 1) = true := by rw [pen_len]; simp [dBelow]; omega
  unfold finD
  rw [if_pos h]
  exact ⟨rfl, gc_pen0 (pen_len cs i v ex)⟩
theorem open_ok (k : Nat) (ns : List Int) : wp (semK defs (k + 1) 5 [.p (.list (ns.map .int))] []) fun d st' => ∃ cs : List Int, d = .c 1 ∧ st' = pen cs 0 0 := by
  refine wp_sem (d := d5) rfl rfl ?_
  simp only [d5, b5, e_svs_cons, e_svs_nil, e_sv_ife, e_sv_ret, e_sv_retN, e_sv_set, e_sv_setIx, e_sv_setLc, e_sv_app, e_sv_ex, e_sv_loop, e_sv_pass, e_ev_var, e_ev_lit, e_ev_glb, e_ev_gix, e_ev_bin, e_ev_neg, e_ev_not, w_and, w_or, QT2_bool, QB_bool, e_ev_one, e_ev_cmp, w_cmp2, e_ev_ife, e_ev_tup, e_ev_lst, e_ev_ix, e_ev_sl, e_ev_bi, e_ev_mx2, e_ev_isi, e_ev_call, e_ev_join, e_ev_lc, e_evs_nil, e_evs_cons, e_evo_none, e_evo_some, e_evi_seq, e_evi_rng1, e_evi_rng2, e_evi_enum, e_evi_zip, env0, varD, e_b_nm, e_b_tT, e_b_tL, e_b_nil, e_b_cons, wp_bind, wp_then, wp_ok, wp_truR, wp_finP, QF_nx, QF_rt, QE1_rt, QE1_nx, QT1_bool, List.map, List.length, List.replicate, List.getElem?_cons_zero, List.getElem?_cons_succ, List.set, Nat.reduceSub, List.cons_append, List.nil_append, Nat.reduceAdd, wp_ite, e_mkLT, tru_b, seqI_L, seqI_T, pures_p, pures_nil, Option.map_some, Option.bind_some, if_true, sz_0, sz_1, sz_2, sz_3, sz_4, sz_5, sz_6, sz_7, sz_8, sz_9, sz_10, sz_11, sz_12, sz_13, sz_14, sz_15, sz_16, sz_17, sz_18, sz_19, sz_20, sz_21, sz_22, sz_23, sz_24, sz_25, sz_26, sz_27, sz_28, sz_29, sz_30, sz_31, sz_32, sz_33, sz_34, sz_35, sz_36, sz_37, sz_38, sz_39, sz_40, e_slL, e_listCL, e_enumL]
  have c1 : cut (ns.map PyData.int) none (some 12) = (ns.take 12).map PyData.int := by rw [show (12 : Int) = ((12 : Nat) : Int) from rfl, cut_take, List.map_take]
  obtain ⟨r, c2, hr⟩ : ∃ r : List Int, cut (ns.map PyData.int) (some 12) (some 63) = r.map PyData.int ∧ (r ≠ [] → 12 < ns.length) := by
    refine ⟨cut ns (some 12) (some 63), cut_map _ _ _ _, fun h => ?_⟩
    by_cases hl : 12 < ns.length
    · exact hl
    · refine absurd ?_ h
      unfold cut
      rw [show (12 : Int) = ((12 : Nat) : Int) from rfl, HT.sIx_nat, Nat.min_eq_right (by omega), List.drop_length, List.take_nil]
  rw [c1, c2]
  refine wp_for0 (fun _ env st => ∃ (cs : List Int) (x y : Option D), cs.length = (ns.take 12).length ∧ env = [some (.p (.list (ns.map .int))), some (.c 0), x, y] ∧ st = [.lst (cs.map fun c => .p (.int c))])
    ⟨ns.take 12, _, _, rfl, rfl, by simp; rfl⟩ (fun j env st h => gd_list _ _) (fun j hj env st h => ?_) (fun env st h => ?_)
  · obtain ⟨cs, x, y, h1, rfl, rfl⟩ := h
    simp only [List.length_mapIdx, List.length_map] at hj
    have h12 : 12 < ns.length := hr (by intro e; rw [e] at hj; simp at hj)
    have hcs : cs.length = 12 := by rw [h1, List.length_take]; omega
    refine ⟨[some (.p (.list (ns.map .int))), some (.c 0), some (.p (.int (j : Nat))), some (.p (.int r[j]))], ?_, ?_⟩
    · simp [bindI, bindDs, bindD]
    · have hc0 : cellL [Cell.lst (cs.map fun c => D.p (.int c))] 0 = some (cs.map fun c => D.p (.int c)) := rfl
      obtain ⟨q, hq⟩ : ∃ q : Nat, (j : Int) % 12 = q := ⟨j % 12, by simp⟩
      have hq2 : q < cs.length := by omega
      have hat : atI (cs.map fun c => D.p (.int c)) (q : Int) = some (.p (.int cs[q])) := atI_nat (by simp [hq2])
      simp only [e_svs_cons, e_svs_nil, e_sv_ife, e_sv_ret, e_sv_retN, e_sv_set, e_sv_setIx, e_sv_setLc, e_sv_app, e_sv_ex, e_sv_loop, e_sv_pass, e_ev_var, e_ev_lit, e_ev_glb, e_ev_gix, e_ev_bin, e_ev_neg, e_ev_not, w_and, w_or, QT2_bool, QB_bool, e_ev_one, e_ev_cmp, w_cmp2, e_ev_ife, e_ev_tup, e_ev_lst, e_ev_ix, e_ev_sl, e_ev_bi, e_ev_mx2, e_ev_isi, e_ev_call, e_ev_join, e_ev_lc, e_evs_nil, e_evs_cons, e_evo_none, e_evo_some, e_evi_seq, e_evi_rng1, e_evi_rng2, e_evi_enum, e_evi_zip, env0, varD, e_b_nm, e_b_tT, e_b_tL, e_b_nil, e_b_cons, wp_bind, wp_then, wp_ok, wp_truR, wp_finP, QF_nx, QF_rt, QE1_rt, QE1_nx, QT1_bool, List.map, List.length, List.replicate, List.getElem?_cons_zero, List.getElem?_cons_succ, List.set, Nat.reduceSub, List.cons_append, List.nil_append, Nat.reduceAdd, wp_ite, e_mkLT, tru_b, seqI_L, seqI_T, pures_p, pures_nil, Option.map_some, Option.bind_some, if_true, sz_0, sz_1, sz_2, sz_3, sz_4, sz_5, sz_6, sz_7, sz_8, sz_9, sz_10, sz_11, sz_12, sz_13, sz_14, sz_15, sz_16, sz_17, sz_18, sz_19, sz_20, sz_21, sz_22, sz_23, sz_24, sz_25, sz_26, sz_27, sz_28, sz_29, sz_30, sz_31, sz_32, sz_33, sz_34, sz_35, sz_36, sz_37, sz_38, sz_39, sz_40, e_mod, Int.reduceLT, if_true, hq, ix_c hc0, hat, e_add, setIx_c hc0 q (by simpa using hq2), QN_nx]
      refine ⟨cs.set q (cs[q] + r[j]), _, _, by rw [List.length_set]; exact h1, rfl, ?_⟩
      simp [List.map_set]
  · obtain ⟨cs, x, y, h1, rfl, rfl⟩ := h
    simp only [e_svs_cons, e_svs_nil, e_sv_ife, e_sv_ret, e_sv_retN, e_sv_set, e_sv_setIx, e_sv_setLc, e_sv_app, e_sv_ex, e_sv_loop, e_sv_pass, e_ev_var, e_ev_lit, e_ev_glb, e_ev_gix, e_ev_bin, e_ev_neg, e_ev_not, w_and, w_or, QT2_bool, QB_bool, e_ev_one, e_ev_cmp, w_cmp2, e_ev_ife, e_ev_tup, e_ev_lst, e_ev_ix, e_ev_sl, e_ev_bi, e_ev_mx2, e_ev_isi, e_ev_call, e_ev_join, e_ev_lc, e_evs_nil, e_evs_cons, e_evo_none, e_evo_some, e_evi_seq, e_evi_rng1, e_evi_rng2, e_evi_enum, e_evi_zip, env0, varD, e_b_nm, e_b_tT, e_b_tL, e_b_nil, e_b_cons, wp_bind, wp_then, wp_ok, wp_truR, wp_finP, QF_nx, QF_rt, QE1_rt, QE1_nx, QT1_bool, List.map, List.length, List.replicate, List.getElem?_cons_zero, List.getElem?_cons_succ, List.set, Nat.reduceSub, List.cons_append, List.nil_append, Nat.reduceAdd, wp_ite, e_mkLT, tru_b, seqI_L, seqI_T, pures_p, pures_nil, Option.map_some, Option.bind_some, if_true, sz_0, sz_1, sz_2, sz_3, sz_4, sz_5, sz_6, sz_7, sz_8, sz_9, sz_10, sz_11, sz_12, sz_13, sz_14, sz_15, sz_16, sz_17, sz_18, sz_19, sz_20, sz_21, sz_22, sz_23, sz_24, sz_25, sz_26, sz_27, sz_28, sz_29, sz_30, sz_31, sz_32, sz_33, sz_34, sz_35, sz_36, sz_37, sz_38, sz_39, sz_40]
    exact ⟨cs, rfl, rfl⟩
/-! comprehensions while the pen draws -/
theorem pen_app (cs : List Int) (i : Nat) (v : Int) (ex : Store) (c : Cell) : pen cs i v ++ ex ++ [c] = pen cs i v ++ (ex ++ [c]) := List.append_assoc _ _ _
theorem pen_last (cs : List Int) (i : Nat) (v : Int) (ex : Store) (acc : List D) : cellL (pen cs i v ++ (ex ++ [.lst acc])) (2 + ex.length) = some acc := by
  rw [← pen_app, ← pen_len cs i v ex]
  unfold cellL
  rw [List.getElem?_concat_length]
theorem pen_setLast (cs : List Int) (i : Nat) (v : Int) (ex : Store) (c c' : Cell) : (pen cs i v ++ (ex ++ [c])).set (2 + ex.length) c' = pen cs i v ++ (ex ++ [c']) := by
  rw [← pen_app, ← pen_app, ← pen_len cs i v ex, List.set_append_right _ _ (Nat.le_refl _)]
  simp
theorem lc_core {cs : List Int} {i : Nat} {v : Int} {ex : Store} {tg : MT} {cond elt : MD} {env0 : MP.Env} {its : List Itm} (P : Nat → PyData → Prop) (full : Bool) (hz : its.length ≤ 1000)
    (hb : ∀ j (h : j < its.length) acc i' u', ∃ env1, bindI tg its[j] env0 = some env1 ∧ wp (cond env1 (pen cs i' u' ++ (ex ++ [.lst acc]))) (QT1 fun b st1 => ∃ i2 u2, st1 = pen cs i2 u2 ++ (ex ++ [.lst acc]) ∧ (full = true → b = true) ∧
      (b = true → wp (elt env1 st1) fun d st2 => ∃ x i3 u3, d = .p x ∧ P j x ∧ st2 = pen cs i3 u3 ++ (ex ++ [.lst acc])))) :
    wp (lcL (fun _ => True) (pen cs i v ++ ex).length tg cond elt env0 its (pen cs i v ++ ex ++ [.lst []])) fun _ st => ∃ (xs : List PyData) (i' : Nat) (u' : Int), st = pen cs i' u' ++ (ex ++ [.lst (xs.map .p)]) ∧ (∀ x ∈ xs, ∃ j, j < its.length ∧ P j x) ∧ xs.length ≤ its.length ∧
      (full = true → xs.length = its.length ∧ ∀ j (h : j < xs.length), P j xs[j]) := by
  rw [pen_len, pen_app]
  refine wp_lc0 (fun j acc st => ∃ (xs : List PyData) (i' : Nat) (u' : Int), acc = xs.map D.p ∧ st = pen cs i' u' ++ (ex ++ [.lst acc]) ∧ (∀ x ∈ xs, ∃ j, j < its.length ∧ P j x) ∧ xs.length ≤ j ∧ (full = true → xs.length = j ∧ ∀ j (h : j < xs.length), P j xs[j]))
    ⟨[], i, v, rfl, rfl, (by simp), Nat.le_refl _, fun _ => ⟨rfl, fun j h => absurd h (Nat.not_lt_zero _)⟩⟩ (fun j acc st h => ?_) (fun _ _ _ _ => trivial) (fun j hj acc st h => ?_) (fun acc st h => ?_)
  · obtain ⟨xs, i', u', rfl, rfl, _⟩ := h
    exact pen_last _ _ _ _ _
  · obtain ⟨xs, i', u', rfl, rfl, h1, h2, h3⟩ := h
    obtain ⟨env1, e1, hw⟩ := hb j hj (xs.map .p) i' u'
    refine ⟨env1, e1, wp_mono hw fun d st1 ⟨b, hb1, i2, u2, es, hfull, h4⟩ => ⟨b, hb1, ?_⟩⟩
    subst es
    cases b with
    | true =>
      rw [if_pos rfl]
      refine wp_mono (h4 rfl) fun d st2 ⟨x, i3, u3, ed, hP, es⟩ => ?_
      subst ed es
      refine ⟨_, pen_last _ _ _ _ _, by rw [List.length_map]; exact Nat.lt_of_le_of_lt h2 (Nat.lt_of_lt_of_le hj (Nat.le_trans hz (by decide))), xs ++ [x], i3, u3, by simp, by rw [pen_setLast], ?_, by simp; omega, fun hf => ?_⟩
      · intro y hy
        rcases List.mem_append.mp hy with hy | hy
        · exact h1 y hy
        · rw [List.mem_singleton.mp hy]; exact ⟨j, hj, hP⟩
      · obtain ⟨q1, q2⟩ := h3 hf
        refine ⟨by simp [q1], fun m hm => ?_⟩
        by_cases hl : m < xs.length
        · rw [List.getElem_append_left hl]; exact q2 m hl
        · have : m = xs.length := by simp at hm; omega
          subst this
          rw [List.getElem_append_right (Nat.le_refl _)]
          simp only [Nat.sub_self, List.getElem_cons_zero]
          rw [q1]; exact hP
    | false =>
      rw [if_neg (by simp)]
      refine ⟨xs.map .p, xs, i2, u2, rfl, rfl, h1, by omega, fun hf => absurd (hfull hf) (by simp)⟩
  · obtain ⟨xs, i', u', rfl, rfl, h1, h2, h3⟩ := h
    exact ⟨xs, i', u', rfl, h1, h2, h3⟩
theorem lcEnd_pen {cs : List Int} {i : Nat} {v : Int} {ex : Store} {xs : List PyData} {n : Nat} (hn : n = 2 + ex.length) (hx : OkEx ex) : lcEnd false n (pen cs i v ++ (ex ++ [.lst (xs.map .p)])) = .ok (.p (.list xs)) (pen cs i v ++ ex) := by
  subst hn
  unfold lcEnd
  simp only [pen_last, pures_map, pen_setLast]
  rw [← pen_app, gc_pen hx rfl]
theorem lcEnd_penC {cs : List Int} {i : Nat} {v : Int} {ex : Store} {n : Nat} {st : Store} : lcEnd true n st = .ok (.c n) st := rfl
/-! names -/
def isL (c : Nat) : Prop := 97 ≤ c ∧ c ≤ 122
def abc : Str := "abcdefghijklmnopqrstuvwxyz"
theorem abc_len : abc.length = 26 := by decide +kernel
theorem abc_at (x : Int) (h0 : 0 ≤ x) (h1 : x < 26) : atI abc.cps.toList x = some (97 + x.toNat) := by
  have key : ∀ n : Fin 26, abc.cps.toList[n.val]? = some (97 + n.val) := by decide +kernel
  obtain ⟨n, rfl⟩ : ∃ n : Nat, x = n := ⟨x.toNat, by omega⟩
  have hn : n < 26 := by omega
  rw [atI_nat (key ⟨n, hn⟩)]
  simp
theorem abc_ix (x : Int) (h0 : 0 ≤ x) (h1 : x < 26) (st : Store) : ixD (.p (.str abc)) (.p (.int x)) st = .ok (.p (.str ⟨#[97 + x.toNat]⟩)) st := by
  unfold ixD
  simp only
  rw [if_pos (by rw [abc_len]; decide), abc_at x h0 h1]
def atOf (w : Int) (n : Nat) : Int := if w = 0 then 0 else if w = 1 then n else (n : Int) / 2
def partOf (b : Str) (w s : Int) (k : Nat) : Str := cutS b none (some ((s + k * (w % 2)) % 8))
def nameAt (b : Str) (w t s : Int) (k : Nat) : Str :=
  cutS (partOf b w s k) none (some (atOf w (partOf b w s k).length)) ++ (⟨#[97 + ((t + 3 * (k : Int)) % 26).toNat]⟩ : Str) ++ cutS (partOf b w s k) (some (atOf w (partOf b w s k).length)) none
theorem joinL_nil : ∀ l : List (List Nat), TL.joinL [] l = l.flatten
  | [] => rfl
  | [x] => by simp [TL.joinL]
  | x :: y :: r => by
    have := joinL_nil (y :: r)
    simp [TL.joinL] at this ⊢
    rw [this]
theorem tl_join0 (zs : List Str) : (Txt.join "" zs).cps.toList = (zs.map fun z => z.cps.toList).flatten := by
  rw [TL.join_eq]
  have := TL.tl_join "" zs
  rw [show TL.tl "" = [] from rfl, joinL_nil] at this
  exact this
theorem ones_join (zs : List Nat) : (Txt.join "" (zs.map fun c => (⟨#[c]⟩ : Str))).cps.toList = zs := by
  rw [tl_join0]
  induction zs with
  | nil => rfl
  | cons c r ih => simpa using ih
theorem strs_of : ∀ {xs : List PyData} {P : Nat → Prop}, (∀ x ∈ xs, ∃ c, P c ∧ x = .str ⟨#[c]⟩) → ∃ zs : List Nat, xs = zs.map (fun c => PyData.str ⟨#[c]⟩) ∧ ∀ c ∈ zs, P c
  | [], _, _ => ⟨[], rfl, by simp⟩
  | x :: r, P, h => by
    obtain ⟨c, hc, rfl⟩ := h _ List.mem_cons_self
    obtain ⟨zs, rfl, h2⟩ := strs_of (xs := r) fun x hx => h x (List.mem_cons_of_mem _ hx)
    exact ⟨c :: zs, rfl, by simpa using ⟨hc, h2⟩⟩
theorem join_ones (zs : List Nat) (hz : zs.length ≤ 1000) (st : Store) : joinD "" (.p (.list (zs.map fun c => PyData.str ⟨#[c]⟩))) st = .ok (.p (.str (Txt.join "" (zs.map fun c => (⟨#[c]⟩ : Str))))) st := by
  have h1 : pures ((zs.map fun c => PyData.str ⟨#[c]⟩).map D.p) = some (zs.map fun c => PyData.str ⟨#[c]⟩) := pures_map _
  have h2 : strsP (zs.map fun c => PyData.str ⟨#[c]⟩) = some (zs.map fun c => (⟨#[c]⟩ : Str)) := by
    have := MP.strs_map (zs.map fun c => (⟨#[c]⟩ : Str))
    rw [List.map_map] at this
    exact this
  have h3 : ((zs.map fun c => (⟨#[c]⟩ : Str)).map (·.length)).sum = zs.length := by
    rw [List.map_map]
    clear h1 h2 hz
    induction zs with
    | nil => rfl
    | cons c r ih => rw [List.map_cons, List.sum_cons, ih]; show 1 + r.length = r.length + 1; omega
  unfold joinD
  simp only [items, Option.bind_some, h1, h2]
  rw [if_pos (by rw [h3]; show zs.length + _ * 0 ≤ 100000; omega)]
theorem cutS_le (z : Str) (lo hi : Option Int) : (cutS z lo hi).length ≤ z.length := cutS_length z lo hi
theorem names_ok (k : Nat) {cs : List Int} {i : Nat} {v : Int} {ex : Store} (m : Nat) (hm : m ≤ 10) (hx : OkEx ex) :
    wp (semK defs (k + 3) 8 [.c 1, .p (.int (m : Nat))] (pen cs i v ++ ex)) fun d st' => ∃ (b : Str) (w t s : Int) (j : Nat) (u : Int), (∀ c ∈ b.cps.toList, isL c) ∧ b.length = 7 ∧ 0 ≤ w ∧ w < 3 ∧ 0 ≤ t ∧ t < 26 ∧ 0 ≤ s ∧ s < 8 ∧
      d = .c (2 + ex.length) ∧ st' = pen cs j u ++ (ex ++ [.lst (((List.range m).map (nameAt b w t s)).map fun x => .p (.str x))]) := by
  refine wp_sem (d := d8) rfl rfl ?_
  have e0 : (0 : Int) = ((0 : Nat) : Int) := rfl
  simp only [d8, b8, e_svs_cons, e_svs_nil, e_sv_ife, e_sv_ret, e_sv_retN, e_sv_set, e_sv_setIx, e_sv_setLc, e_sv_app, e_sv_ex, e_sv_loop, e_sv_pass, e_ev_var, e_ev_lit, e_ev_glb, e_ev_gix, e_ev_bin, e_ev_neg, e_ev_not, w_and, w_or, QT2_bool, QB_bool, e_ev_one, e_ev_cmp, w_cmp2, e_ev_ife, e_ev_tup, e_ev_lst, e_ev_ix, e_ev_sl, e_ev_bi, e_ev_mx2, e_ev_isi, e_ev_call, e_ev_join, e_ev_lc, e_evs_nil, e_evs_cons, e_evo_none, e_evo_some, e_evi_seq, e_evi_rng1, e_evi_rng2, e_evi_enum, e_evi_zip, env0, varD, e_b_nm, e_b_tT, e_b_tL, e_b_nil, e_b_cons, wp_bind, wp_then, wp_ok, wp_truR, wp_finP, QF_nx, QF_rt, QE1_rt, QE1_nx, QT1_bool, List.map, List.length, List.replicate, List.getElem?_cons_zero, List.getElem?_cons_succ, List.set, Nat.reduceSub, List.cons_append, List.nil_append, Nat.reduceAdd, wp_ite, e_mkLT, tru_b, seqI_L, seqI_T, pures_p, pures_nil, Option.map_some, Option.bind_some, if_true, sz_0, sz_1, sz_2, sz_3, sz_4, sz_5, sz_6, sz_7, sz_8, sz_9, sz_10, sz_11, sz_12, sz_13, sz_14, sz_15, sz_16, sz_17, sz_18, sz_19, sz_20, sz_21, sz_22, sz_23, sz_24, sz_25, sz_26, sz_27, sz_28, sz_29, sz_30, sz_31, sz_32, sz_33, sz_34, sz_35, sz_36, sz_37, sz_38, sz_39, sz_40, Nat.zero_le, if_true, e_mkLT, show (7 : Int) = ((7 : Nat) : Int) from rfl, e_rng0 7 (by decide)]
  have habc : ("abcdefghijklmnopqrstuvwxyz" : Str) = abc := rfl
  rw [habc]
  refine wp_mono (lc_core (fun _ x => ∃ c, isL c ∧ x = .str ⟨#[c]⟩) true (by simp) fun j hj acc i' u' => ?_) ?_
  · simp only [List.length_map, List.length_range] at hj
    refine ⟨_, by rw [List.getElem_map]; rfl, ?_⟩
    rw [e_evc_none, wp_ok, QT1_bool]
    refine ⟨i', u', rfl, fun _ => rfl, fun _ => ?_⟩
    simp only [e_svs_cons, e_svs_nil, e_sv_ife, e_sv_ret, e_sv_retN, e_sv_set, e_sv_setIx, e_sv_setLc, e_sv_app, e_sv_ex, e_sv_loop, e_sv_pass, e_ev_var, e_ev_lit, e_ev_glb, e_ev_gix, e_ev_bin, e_ev_neg, e_ev_not, w_and, w_or, QT2_bool, QB_bool, e_ev_one, e_ev_cmp, w_cmp2, e_ev_ife, e_ev_tup, e_ev_lst, e_ev_ix, e_ev_sl, e_ev_bi, e_ev_mx2, e_ev_isi, e_ev_call, e_ev_join, e_ev_lc, e_evs_nil, e_evs_cons, e_evo_none, e_evo_some, e_evi_seq, e_evi_rng1, e_evi_rng2, e_evi_enum, e_evi_zip, env0, varD, e_b_nm, e_b_tT, e_b_tL, e_b_nil, e_b_cons, wp_bind, wp_then, wp_ok, wp_truR, wp_finP, QF_nx, QF_rt, QE1_rt, QE1_nx, QT1_bool, List.map, List.length, List.replicate, List.getElem?_cons_zero, List.getElem?_cons_succ, List.set, Nat.reduceSub, List.cons_append, List.nil_append, Nat.reduceAdd, wp_ite, e_mkLT, tru_b, seqI_L, seqI_T, pures_p, pures_nil, Option.map_some, Option.bind_some, if_true, sz_0, sz_1, sz_2, sz_3, sz_4, sz_5, sz_6, sz_7, sz_8, sz_9, sz_10, sz_11, sz_12, sz_13, sz_14, sz_15, sz_16, sz_17, sz_18, sz_19, sz_20, sz_21, sz_22, sz_23, sz_24, sz_25, sz_26, sz_27, sz_28, sz_29, sz_30, sz_31, sz_32, sz_33, sz_34, sz_35, sz_36, sz_37, sz_38, sz_39, sz_40, wipeE]
    refine wp_mono (take_ok k (by decide) (by decide)) ?_
    rintro _ _ ⟨x, j', u', h0, h1, rfl, rfl⟩
    rw [abc_ix x h0 h1]
    exact ⟨_, _, _, rfl, ⟨_, ⟨by omega, by omega⟩, rfl⟩, rfl⟩
  · rintro _ _ ⟨xs, i1, u1, rfl, h1, h2, h3⟩
    obtain ⟨hl, -⟩ := h3 rfl
    obtain ⟨zs, rfl, hzs⟩ := strs_of (P := isL) (fun x hx => let ⟨_, _, h⟩ := h1 x hx; h)
    simp only [List.length_map, List.length_range] at hl
    rw [lcEnd_pen (pen_len cs i v ex) hx, wp_ok, join_ones zs (by omega), wp_ok]
    obtain ⟨b, hb⟩ : ∃ b, b = Txt.join "" (zs.map fun c => (⟨#[c]⟩ : Str)) := ⟨_, rfl⟩
    have hbl : b.cps.toList = zs := by rw [hb, ones_join]
    have hb7 : b.length = 7 := by rw [← hl, ← hbl]; simp [Str.length]
    rw [← hb]
    refine wp_mono (take_ok k (by decide) (by decide)) ?_
    rintro _ _ ⟨w, i2, u2, w0, w1, rfl, rfl⟩
    refine wp_mono (take_ok k (by decide) (by decide)) ?_
    rintro _ _ ⟨t, i3, u3, t0, t1, rfl, rfl⟩
    refine take_then k (by decide) (by decide) fun s i4 u4 s0 s1 => ?_
    rw [e_rng0 m (by omega), wp_ok, pen_len, pen_app]
    refine wp_for0 (fun j env st => ∃ x8 x9 x10 x11, env = [some (.c 1), some (.p (.int (m : Nat))), some (.p (.str abc)), some (.p (.str b)), some (.p (.int w)), some (.p (.int t)), some (.p (.int s)), some (.c (2 + ex.length)), x8, x9, x10, x11] ∧
        st = pen cs i4 u4 ++ (ex ++ [.lst (((List.range j).map (nameAt b w t s)).map fun x => .p (.str x))]))
      ⟨_, _, _, _, rfl, rfl⟩ (fun _ _ _ _ => trivial) (fun j hj env st h => ?_) (fun env st h => ?_)
    · obtain ⟨x8, x9, x10, x11, rfl, rfl⟩ := h
      simp only [List.length_map, List.length_range] at hj
      refine ⟨_, by rw [List.getElem_map]; rfl, ?_⟩
      have hlen : (partOf b w s j).length ≤ 7 := by rw [← hb7]; exact cutS_le _ _ _
      have hsl : ∀ (z : Str) (lo hi : Option Int) (st : Store), z.length ≤ 7 → slD (.p (.str z)) lo hi st = .ok (.p (.str (cutS z lo hi))) st := fun z lo hi st h => by rw [e_slS, if_pos (Nat.le_trans h (by decide))]
      have hlen2 : ∀ (z : Str) (st : Store), z.length ≤ 7 → bi1D .len (.p (.str z)) st = .ok (.p (.int z.length)) st := fun z st h => by rw [e_lenS, if_pos (Nat.le_trans h (by decide))]
      have hpart : cutS b none (some ((s + (j : Int) * (w % 2)) % 8)) = partOf b w s j := rfl
      have hsign := abc_ix ((t + 3 * (j : Int)) % 26) (Int.emod_nonneg _ (by decide)) (Int.emod_lt_of_pos _ (by decide))
      have hat : ∀ st, ixD (.p (.list [.int 0, .int (partOf b w s j).length, .int ((partOf b w s j).length / 2)])) (.p (.int w)) st = .ok (.p (.int (atOf w (partOf b w s j).length))) st := fun st => by
        rw [e_ixL]
        have : w = 0 ∨ w = 1 ∨ w = 2 := by omega
        rcases this with rfl | rfl | rfl <;> rfl
      have hmk : ∀ (x y z : PyData) (st : Store), mkL false [.p x, .p y, .p z] st = .ok (.p (.list [x, y, z])) st := fun x y z st => mkL_p [x, y, z] st
      simp only [List.getElem_range, e_svs_cons, e_svs_nil, e_sv_ife, e_sv_ret, e_sv_retN, e_sv_set, e_sv_setIx, e_sv_setLc, e_sv_app, e_sv_ex, e_sv_loop, e_sv_pass, e_ev_var, e_ev_lit, e_ev_glb, e_ev_gix, e_ev_bin, e_ev_neg, e_ev_not, w_and, w_or, QT2_bool, QB_bool, e_ev_one, e_ev_cmp, w_cmp2, e_ev_ife, e_ev_tup, e_ev_lst, e_ev_ix, e_ev_sl, e_ev_bi, e_ev_mx2, e_ev_isi, e_ev_call, e_ev_join, e_ev_lc, e_evs_nil, e_evs_cons, e_evo_none, e_evo_some, e_evi_seq, e_evi_rng1, e_evi_rng2, e_evi_enum, e_evi_zip, env0, varD, e_b_nm, e_b_tT, e_b_tL, e_b_nil, e_b_cons, wp_bind, wp_then, wp_ok, wp_truR, wp_finP, QF_nx, QF_rt, QE1_rt, QE1_nx, QT1_bool, List.map, List.length, List.replicate, List.getElem?_cons_zero, List.getElem?_cons_succ, List.set, Nat.reduceSub, List.cons_append, List.nil_append, Nat.reduceAdd, wp_ite, e_mkLT, tru_b, seqI_L, seqI_T, pures_p, pures_nil, Option.map_some, Option.bind_some, if_true, sz_0, sz_1, sz_2, sz_3, sz_4, sz_5, sz_6, sz_7, sz_8, sz_9, sz_10, sz_11, sz_12, sz_13, sz_14, sz_15, sz_16, sz_17, sz_18, sz_19, sz_20, sz_21, sz_22, sz_23, sz_24, sz_25, sz_26, sz_27, sz_28, sz_29, sz_30, sz_31, sz_32, sz_33, sz_34, sz_35, sz_36, sz_37, sz_38, sz_39, sz_40, e_mul, mulOk_l (i := 3) (show (3 : Int).natAbs < _ by decide), mulOk_r (abs_mod (x := w) (m := 2) (by decide) (by decide)), e_add, e_mod, e_div, Int.reduceLT, Int.reducePow, and_self, if_true, hsign, hsl b _ _ _ (Nat.le_of_eq hb7), hpart, hlen2 _ _ hlen, hmk, hat, pen_last]
      have hp : nameAt b w t s j = cutS (partOf b w s j) none (some (atOf w (partOf b w s j).length)) ++ (⟨#[97 + ((t + 3 * (j : Int)) % 26).toNat]⟩ : Str) ++ cutS (partOf b w s j) (some (atOf w (partOf b w s j).length)) none := rfl
      have l1 := Nat.le_trans (cutS_le (partOf b w s j) none (some (atOf w (partOf b w s j).length))) hlen
      have l2 := Nat.le_trans (cutS_le (partOf b w s j) (some (atOf w (partOf b w s j).length)) none) hlen
      have l3 : (⟨#[97 + ((t + 3 * (j : Int)) % 26).toNat]⟩ : Str).length = 1 := rfl
      rw [hsl _ _ _ _ hlen, wp_ok, e_addS _ _ _ (by omega), wp_ok, hsl _ _ _ _ hlen, wp_ok, e_addS _ _ _ (by rw [str_app_len]; omega), wp_ok, ← hp, pen_last]
      simp only [List.length_map, List.length_range, if_pos (show j < SZ from Nat.lt_of_lt_of_le hj (sz_le (by omega))), wp_ok, QF_nx, QN_nx, pen_setLast]
      exact ⟨_, _, _, _, rfl, by simp [List.range_succ]⟩
    · obtain ⟨x8, x9, x10, x11, rfl, rfl⟩ := h
      simp only [List.length_map, List.length_range, e_svs_cons, e_svs_nil, e_sv_ife, e_sv_ret, e_sv_retN, e_sv_set, e_sv_setIx, e_sv_setLc, e_sv_app, e_sv_ex, e_sv_loop, e_sv_pass, e_ev_var, e_ev_lit, e_ev_glb, e_ev_gix, e_ev_bin, e_ev_neg, e_ev_not, w_and, w_or, QT2_bool, QB_bool, e_ev_one, e_ev_cmp, w_cmp2, e_ev_ife, e_ev_tup, e_ev_lst, e_ev_ix, e_ev_sl, e_ev_bi, e_ev_mx2, e_ev_isi, e_ev_call, e_ev_join, e_ev_lc, e_evs_nil, e_evs_cons, e_evo_none, e_evo_some, e_evi_seq, e_evi_rng1, e_evi_rng2, e_evi_enum, e_evi_zip, env0, varD, e_b_nm, e_b_tT, e_b_tL, e_b_nil, e_b_cons, wp_bind, wp_then, wp_ok, wp_truR, wp_finP, QF_nx, QF_rt, QE1_rt, QE1_nx, QT1_bool, List.map, List.length, List.replicate, List.getElem?_cons_zero, List.getElem?_cons_succ, List.set, Nat.reduceSub, List.cons_append, List.nil_append, Nat.reduceAdd, wp_ite, e_mkLT, tru_b, seqI_L, seqI_T, pures_p, pures_nil, Option.map_some, Option.bind_some, if_true, sz_0, sz_1, sz_2, sz_3, sz_4, sz_5, sz_6, sz_7, sz_8, sz_9, sz_10, sz_11, sz_12, sz_13, sz_14, sz_15, sz_16, sz_17, sz_18, sz_19, sz_20, sz_21, sz_22, sz_23, sz_24, sz_25, sz_26, sz_27, sz_28, sz_29, sz_30, sz_31, sz_32, sz_33, sz_34, sz_35, sz_36, sz_37, sz_38, sz_39, sz_40]
      rw [fin_new (Nat.le_of_eq (pen_len _ _ _ _)), wp_ok]
      exact ⟨b, w, t, s, i4, u4, fun c hc => hzs c (hbl ▸ hc), hb7, w0, w1, t0, t1, s0, s1, rfl, rfl⟩
/-! a town -/
def sLe (a b : Str) : Bool := decide (a.cps.toList ≤ b.cps.toList)
def sortS (l : List Str) : List Str := l.mergeSort sLe
theorem sort_strs (l : List Str) : sortP (l.map .str) = (sortS l).map .str := by
  unfold sortP sortS
  rw [List.map_mergeSort (r := sLe) (s := PySem.W.dataLe false fun x : PyData => x) (f := PyData.str)]
  intro a _ b _
  exact (congrFun (congrFun (PySem.W.dataLe_str (fun x : Str => x)) a) b).symm
theorem sortOk_strs (l : List Str) (h : l.length ≤ 1000) : sortOk (l.map .str) = true := by
  unfold sortOk
  simp only [Bool.and_eq_true, List.all_eq_true, Bool.or_eq_true, decide_eq_true_eq, List.length_map, List.mem_map]
  refine ⟨⟨⟨?_, .inr ?_⟩, ?_⟩, sz_le h⟩
  · rintro _ ⟨a, _, rfl⟩ _ ⟨b, _, rfl⟩; rfl
  · rintro _ ⟨a, _, rfl⟩; rfl
  · rintro _ ⟨a, _, rfl⟩; exact Nat.zero_le _
theorem sorted_c {n : Nat} {st : Store} {l : List Str} (h : cellL st n = some (l.map fun x => .p (.str x))) (hl : l.length ≤ 1000) : bi1D (.sorted false) (.c n) st = .ok (.p (.list ((sortS l).map .str))) st := by
  have h1 : items (.c n) st = some (l.map fun x => .p (.str x)) := h
  have h2 : pures (l.map fun x => D.p (.str x)) = some (l.map .str) := by
    exact pures_map' PyData.str l
  show sortedD false (.c n) st = _
  unfold sortedD
  simp only [h1, h2, sortOk_strs l hl, Bool.true_or, if_true, sort_strs]
  exact mkL_p _ _
theorem sortS_len (l : List Str) : (sortS l).length = l.length := List.length_mergeSort l
theorem sortS_mem {l : List Str} {x : Str} : x ∈ sortS l ↔ x ∈ l := List.mem_mergeSort
theorem okEx_snoc {ex : Store} {ds : List D} (h : OkEx ex) (hd : ∀ d ∈ ds, ∃ x, d = .p x) : OkEx (ex ++ [.lst ds]) := by
  unfold OkEx at h ⊢
  rw [List.all_eq_true] at h ⊢
  intro c hc
  rw [List.length_append, List.length_singleton]
  rcases List.mem_append.mp hc with hc | hc
  · have := h c hc
    cases c with
    | dead => rfl
    | lst es =>
      simp only [cellBelow, List.all_eq_true] at this ⊢
      intro d hd
      have := this d hd
      cases d with
      | p x => rfl
      | c n => simp only [dBelow, decide_eq_true_eq] at this ⊢; omega
  · rw [List.mem_singleton.mp hc]
    simp only [cellBelow, List.all_eq_true]
    intro d hd'
    obtain ⟨x, rfl⟩ := hd d hd'
    rfl
def townD (hs gs : List Str) : PyData := .tuple [.tuple (hs.map .str), .tuple (gs.map .str)]
structure Town (m : Nat) (hs gs : List Str) : Prop where
  names : ∃ (b : Str) (w t s : Int) (n : Nat), (∀ c ∈ b.cps.toList, isL c) ∧ b.length = 7 ∧ 0 ≤ w ∧ w < 3 ∧ 0 ≤ t ∧ t < 26 ∧ 0 ≤ s ∧ s < 8 ∧ 1 ≤ n ∧ n ≤ m ∧ hs = sortS ((List.range n).map (nameAt b w t s))
  gates : ∀ g ∈ gs, g ∈ hs
theorem Town.ne {m : Nat} {hs gs : List Str} (h : Town m hs gs) : 1 ≤ hs.length ∧ hs.length ≤ m := by
  obtain ⟨b, w, t, s, n, _, _, _, _, _, _, _, _, h1, h2, rfl⟩ := h.names
  rw [sortS_len, List.length_map, List.length_range]
  exact ⟨h1, h2⟩
theorem strs_in : ∀ {xs : List PyData} {hs : List Str}, (∀ x ∈ xs, ∃ h ∈ hs, x = .str h) → ∃ gs : List Str, xs = gs.map .str ∧ ∀ g ∈ gs, g ∈ hs
  | [], _, _ => ⟨[], rfl, by simp⟩
  | x :: r, hs, h => by
    obtain ⟨g, hg, rfl⟩ := h _ List.mem_cons_self
    obtain ⟨gs, rfl, h2⟩ := strs_in (xs := r) fun x hx => h x (List.mem_cons_of_mem _ hx)
    exact ⟨g :: gs, rfl, by simpa using ⟨hg, h2⟩⟩
theorem e_eqEmpty (xs : List PyData) (st : Store) : cmpD .Eq (.p (.list xs)) (.p (.list [])) st = .ok (.p (.bool xs.isEmpty)) st := by
  unfold cmpD eqD
  simp only [toP_p]
  rw [if_pos]
  · cases xs with
    | nil => rfl
    | cons x r => rfl
  · unfold eqRoom
    rw [decide_eq_true_eq]
    exact Nat.le_trans (Nat.min_le_right _ _) (by decide)
theorem town_ok (k : Nat) {cs : List Int} {i : Nat} {v : Int} {ex : Store} (m : Nat) (h1 : 1 ≤ m) (hm : m ≤ 10) (hx : OkEx ex) :
    wp (semK defs (k + 4) 9 [.c 1, .p (.int (m : Nat))] (pen cs i v ++ ex)) fun d st' => ∃ (hs gs : List Str) (j : Nat) (u : Int), Town m hs gs ∧ d = .p (townD hs gs) ∧ st' = pen cs j u ++ ex := by
  refine wp_sem (d := d9) rfl rfl ?_
  simp only [d9, b9, e_svs_cons, e_svs_nil, e_sv_ife, e_sv_ret, e_sv_retN, e_sv_set, e_sv_setIx, e_sv_setLc, e_sv_app, e_sv_ex, e_sv_loop, e_sv_pass, e_ev_var, e_ev_lit, e_ev_glb, e_ev_gix, e_ev_bin, e_ev_neg, e_ev_not, w_and, w_or, QT2_bool, QB_bool, e_ev_one, e_ev_cmp, w_cmp2, e_ev_ife, e_ev_tup, e_ev_lst, e_ev_ix, e_ev_sl, e_ev_bi, e_ev_mx2, e_ev_isi, e_ev_call, e_ev_join, e_ev_lc, e_evs_nil, e_evs_cons, e_evo_none, e_evo_some, e_evi_seq, e_evi_rng1, e_evi_rng2, e_evi_enum, e_evi_zip, env0, varD, e_b_nm, e_b_tT, e_b_tL, e_b_nil, e_b_cons, wp_bind, wp_then, wp_ok, wp_truR, wp_finP, QF_nx, QF_rt, QE1_rt, QE1_nx, QT1_bool, List.map, List.length, List.replicate, List.getElem?_cons_zero, List.getElem?_cons_succ, List.set, Nat.reduceSub, List.cons_append, List.nil_append, Nat.reduceAdd, wp_ite, e_mkLT, tru_b, seqI_L, seqI_T, pures_p, pures_nil, Option.map_some, Option.bind_some, if_true, sz_0, sz_1, sz_2, sz_3, sz_4, sz_5, sz_6, sz_7, sz_8, sz_9, sz_10, sz_11, sz_12, sz_13, sz_14, sz_15, sz_16, sz_17, sz_18, sz_19, sz_20, sz_21, sz_22, sz_23, sz_24, sz_25, sz_26, sz_27, sz_28, sz_29, sz_30, sz_31, sz_32, sz_33, sz_34, sz_35, sz_36, sz_37, sz_38, sz_39, sz_40]
  refine take_then (k + 1) (by omega) (by omega) fun x i1 u1 x0 x1 => ?_
  obtain ⟨n, rfl⟩ : ∃ n : Nat, x = n := ⟨x.toNat, by omega⟩
  rw [e_add, wp_ok, show (1 : Int) + (n : Int) = ((n + 1 : Nat) : Int) by omega]
  refine wp_mono (names_ok k (n + 1) (by omega) hx) ?_
  rintro _ _ ⟨b, w, t, s, i2, u2, hb, hb7, w0, w1, t0, t1, s0, s1, rfl, rfl⟩
  obtain ⟨hs, ehs⟩ : ∃ hs, hs = sortS ((List.range (n + 1)).map (nameAt b w t s)) := ⟨_, rfl⟩
  have hlen : hs.length = n + 1 := by rw [ehs, sortS_len, List.length_map, List.length_range]
  rw [sorted_c (pen_last _ _ _ _ _) (by rw [List.length_map, List.length_range]; omega), wp_ok, ← ehs]
  rw [seqI_L, wp_ok]
  have hx2 : OkEx (ex ++ [.lst (((List.range (n + 1)).map (nameAt b w t s)).map fun x => .p (.str x))]) := okEx_snoc hx (by
    intro d hd
    obtain ⟨x, _, rfl⟩ := List.mem_map.mp hd
    exact ⟨_, rfl⟩)
  obtain ⟨ex2, eex2⟩ : ∃ ex2 : Store, ex2 = ex ++ [.lst (((List.range (n + 1)).map (nameAt b w t s)).map fun x => .p (.str x))] := ⟨_, rfl⟩
  rw [← eex2] at hx2 ⊢
  refine wp_mono (lc_core (fun _ x => ∃ h ∈ hs, x = .str h) false (by rw [List.length_map, List.length_map, hlen]; omega) fun j hj acc i' u' => ?_) ?_
  · simp only [List.length_map] at hj
    refine ⟨_, by rw [List.getElem_map]; rfl, ?_⟩
    simp only [e_evc_some, e_svs_cons, e_svs_nil, e_sv_ife, e_sv_ret, e_sv_retN, e_sv_set, e_sv_setIx, e_sv_setLc, e_sv_app, e_sv_ex, e_sv_loop, e_sv_pass, e_ev_var, e_ev_lit, e_ev_glb, e_ev_gix, e_ev_bin, e_ev_neg, e_ev_not, w_and, w_or, QT2_bool, QB_bool, e_ev_one, e_ev_cmp, w_cmp2, e_ev_ife, e_ev_tup, e_ev_lst, e_ev_ix, e_ev_sl, e_ev_bi, e_ev_mx2, e_ev_isi, e_ev_call, e_ev_join, e_ev_lc, e_evs_nil, e_evs_cons, e_evo_none, e_evo_some, e_evi_seq, e_evi_rng1, e_evi_rng2, e_evi_enum, e_evi_zip, env0, varD, e_b_nm, e_b_tT, e_b_tL, e_b_nil, e_b_cons, wp_bind, wp_then, wp_ok, wp_truR, wp_finP, QF_nx, QF_rt, QE1_rt, QE1_nx, QT1_bool, List.map, List.length, List.replicate, List.getElem?_cons_zero, List.getElem?_cons_succ, List.set, Nat.reduceSub, List.cons_append, List.nil_append, Nat.reduceAdd, wp_ite, e_mkLT, tru_b, seqI_L, seqI_T, pures_p, pures_nil, Option.map_some, Option.bind_some, if_true, sz_0, sz_1, sz_2, sz_3, sz_4, sz_5, sz_6, sz_7, sz_8, sz_9, sz_10, sz_11, sz_12, sz_13, sz_14, sz_15, sz_16, sz_17, sz_18, sz_19, sz_20, sz_21, sz_22, sz_23, sz_24, sz_25, sz_26, sz_27, sz_28, sz_29, sz_30, sz_31, sz_32, sz_33, sz_34, sz_35, sz_36, sz_37, sz_38, sz_39, sz_40, wipeE]
    refine take_then (k + 1) (by decide) (by decide) fun x i3 u3 x0 x1 => ?_
    rw [e_gt, wp_ok, QT1_bool]
    refine ⟨i3, u3, rfl, fun h => (nomatch h), fun _ => ?_⟩
    try simp only [e_svs_cons, e_svs_nil, e_sv_ife, e_sv_ret, e_sv_retN, e_sv_set, e_sv_setIx, e_sv_setLc, e_sv_app, e_sv_ex, e_sv_loop, e_sv_pass, e_ev_var, e_ev_lit, e_ev_glb, e_ev_gix, e_ev_bin, e_ev_neg, e_ev_not, w_and, w_or, QT2_bool, QB_bool, e_ev_one, e_ev_cmp, w_cmp2, e_ev_ife, e_ev_tup, e_ev_lst, e_ev_ix, e_ev_sl, e_ev_bi, e_ev_mx2, e_ev_isi, e_ev_call, e_ev_join, e_ev_lc, e_evs_nil, e_evs_cons, e_evo_none, e_evo_some, e_evi_seq, e_evi_rng1, e_evi_rng2, e_evi_enum, e_evi_zip, env0, varD, e_b_nm, e_b_tT, e_b_tL, e_b_nil, e_b_cons, wp_bind, wp_then, wp_ok, wp_truR, wp_finP, QF_nx, QF_rt, QE1_rt, QE1_nx, QT1_bool, List.map, List.length, List.replicate, List.getElem?_cons_zero, List.getElem?_cons_succ, List.set, Nat.reduceSub, List.cons_append, List.nil_append, Nat.reduceAdd, wp_ite, e_mkLT, tru_b, seqI_L, seqI_T, pures_p, pures_nil, Option.map_some, Option.bind_some, if_true, sz_0, sz_1, sz_2, sz_3, sz_4, sz_5, sz_6, sz_7, sz_8, sz_9, sz_10, sz_11, sz_12, sz_13, sz_14, sz_15, sz_16, sz_17, sz_18, sz_19, sz_20, sz_21, sz_22, sz_23, sz_24, sz_25, sz_26, sz_27, sz_28, sz_29, sz_30, sz_31, sz_32, sz_33, sz_34, sz_35, sz_36, sz_37, sz_38, sz_39, sz_40]
    exact ⟨_, i3, u3, rfl, ⟨hs[j], List.getElem_mem hj, by rw [List.getElem_map]⟩, rfl⟩
  · rintro _ _ ⟨xs, i3, u3, rfl, g1, g2, -⟩
    obtain ⟨gs, rfl, hgs⟩ := strs_in (fun x hx => let ⟨_, _, h⟩ := g1 x hx; h)
    rw [lcEnd_pen (pen_len _ _ _ _) hx2, wp_ok]
    have hT : Town m hs gs := ⟨⟨b, w, t, s, n + 1, hb, hb7, w0, w1, t0, t1, s0, s1, by omega, by omega, ehs⟩, hgs⟩
    have hg : ∀ (j : Nat) (u : Int), gc (pen cs i v ++ ex).length (pen cs j u ++ ex2) = pen cs j u ++ ex := fun j u => by
      rw [eex2, ← List.append_assoc]
      exact gc_pen hx (pen_len cs i v ex)
    simp only [mkL, e_svs_cons, e_svs_nil, e_sv_ife, e_sv_ret, e_sv_retN, e_sv_set, e_sv_setIx, e_sv_setLc, e_sv_app, e_sv_ex, e_sv_loop, e_sv_pass, e_ev_var, e_ev_lit, e_ev_glb, e_ev_gix, e_ev_bin, e_ev_neg, e_ev_not, w_and, w_or, QT2_bool, QB_bool, e_ev_one, e_ev_cmp, w_cmp2, e_ev_ife, e_ev_tup, e_ev_lst, e_ev_ix, e_ev_sl, e_ev_bi, e_ev_mx2, e_ev_isi, e_ev_call, e_ev_join, e_ev_lc, e_evs_nil, e_evs_cons, e_evo_none, e_evo_some, e_evi_seq, e_evi_rng1, e_evi_rng2, e_evi_enum, e_evi_zip, env0, varD, e_b_nm, e_b_tT, e_b_tL, e_b_nil, e_b_cons, wp_bind, wp_then, wp_ok, wp_truR, wp_finP, QF_nx, QF_rt, QE1_rt, QE1_nx, QT1_bool, List.map, List.length, List.replicate, List.getElem?_cons_zero, List.getElem?_cons_succ, List.set, Nat.reduceSub, List.cons_append, List.nil_append, Nat.reduceAdd, wp_ite, e_mkLT, tru_b, seqI_L, seqI_T, pures_p, pures_nil, Option.map_some, Option.bind_some, if_true, sz_0, sz_1, sz_2, sz_3, sz_4, sz_5, sz_6, sz_7, sz_8, sz_9, sz_10, sz_11, sz_12, sz_13, sz_14, sz_15, sz_16, sz_17, sz_18, sz_19, sz_20, sz_21, sz_22, sz_23, sz_24, sz_25, sz_26, sz_27, sz_28, sz_29, sz_30, sz_31, sz_32, sz_33, sz_34, sz_35, sz_36, sz_37, sz_38, sz_39, sz_40, e_eqEmpty, e_tupL]
    cases gs with
    | nil =>
      simp only [List.map_nil, List.isEmpty_nil, e_svs_cons, e_svs_nil, e_sv_ife, e_sv_ret, e_sv_retN, e_sv_set, e_sv_setIx, e_sv_setLc, e_sv_app, e_sv_ex, e_sv_loop, e_sv_pass, e_ev_var, e_ev_lit, e_ev_glb, e_ev_gix, e_ev_bin, e_ev_neg, e_ev_not, w_and, w_or, QT2_bool, QB_bool, e_ev_one, e_ev_cmp, w_cmp2, e_ev_ife, e_ev_tup, e_ev_lst, e_ev_ix, e_ev_sl, e_ev_bi, e_ev_mx2, e_ev_isi, e_ev_call, e_ev_join, e_ev_lc, e_evs_nil, e_evs_cons, e_evo_none, e_evo_some, e_evi_seq, e_evi_rng1, e_evi_rng2, e_evi_enum, e_evi_zip, env0, varD, e_b_nm, e_b_tT, e_b_tL, e_b_nil, e_b_cons, wp_bind, wp_then, wp_ok, wp_truR, wp_finP, QF_nx, QF_rt, QE1_rt, QE1_nx, QT1_bool, List.map, List.length, List.replicate, List.getElem?_cons_zero, List.getElem?_cons_succ, List.set, Nat.reduceSub, List.cons_append, List.nil_append, Nat.reduceAdd, wp_ite, e_mkLT, tru_b, seqI_L, seqI_T, pures_p, pures_nil, Option.map_some, Option.bind_some, if_true, sz_0, sz_1, sz_2, sz_3, sz_4, sz_5, sz_6, sz_7, sz_8, sz_9, sz_10, sz_11, sz_12, sz_13, sz_14, sz_15, sz_16, sz_17, sz_18, sz_19, sz_20, sz_21, sz_22, sz_23, sz_24, sz_25, sz_26, sz_27, sz_28, sz_29, sz_30, sz_31, sz_32, sz_33, sz_34, sz_35, sz_36, sz_37, sz_38, sz_39, sz_40]
      refine take_then (k + 1) (by decide) (by decide) fun x i4 u4 x0 x1 => ?_
      simp only [e_svs_cons, e_svs_nil, e_sv_ife, e_sv_ret, e_sv_retN, e_sv_set, e_sv_setIx, e_sv_setLc, e_sv_app, e_sv_ex, e_sv_loop, e_sv_pass, e_ev_var, e_ev_lit, e_ev_glb, e_ev_gix, e_ev_bin, e_ev_neg, e_ev_not, w_and, w_or, QT2_bool, QB_bool, e_ev_one, e_ev_cmp, w_cmp2, e_ev_ife, e_ev_tup, e_ev_lst, e_ev_ix, e_ev_sl, e_ev_bi, e_ev_mx2, e_ev_isi, e_ev_call, e_ev_join, e_ev_lc, e_evs_nil, e_evs_cons, e_evo_none, e_evo_some, e_evi_seq, e_evi_rng1, e_evi_rng2, e_evi_enum, e_evi_zip, env0, varD, e_b_nm, e_b_tT, e_b_tL, e_b_nil, e_b_cons, wp_bind, wp_then, wp_ok, wp_truR, wp_finP, QF_nx, QF_rt, QE1_rt, QE1_nx, QT1_bool, List.map, List.length, List.replicate, List.getElem?_cons_zero, List.getElem?_cons_succ, List.set, Nat.reduceSub, List.cons_append, List.nil_append, Nat.reduceAdd, wp_ite, e_mkLT, tru_b, seqI_L, seqI_T, pures_p, pures_nil, Option.map_some, Option.bind_some, if_true, sz_0, sz_1, sz_2, sz_3, sz_4, sz_5, sz_6, sz_7, sz_8, sz_9, sz_10, sz_11, sz_12, sz_13, sz_14, sz_15, sz_16, sz_17, sz_18, sz_19, sz_20, sz_21, sz_22, sz_23, sz_24, sz_25, sz_26, sz_27, sz_28, sz_29, sz_30, sz_31, sz_32, sz_33, sz_34, sz_35, sz_36, sz_37, sz_38, sz_39, sz_40, e_gt]
      split
      · try simp only [e_svs_cons, e_svs_nil, e_sv_ife, e_sv_ret, e_sv_retN, e_sv_set, e_sv_setIx, e_sv_setLc, e_sv_app, e_sv_ex, e_sv_loop, e_sv_pass, e_ev_var, e_ev_lit, e_ev_glb, e_ev_gix, e_ev_bin, e_ev_neg, e_ev_not, w_and, w_or, QT2_bool, QB_bool, e_ev_one, e_ev_cmp, w_cmp2, e_ev_ife, e_ev_tup, e_ev_lst, e_ev_ix, e_ev_sl, e_ev_bi, e_ev_mx2, e_ev_isi, e_ev_call, e_ev_join, e_ev_lc, e_evs_nil, e_evs_cons, e_evo_none, e_evo_some, e_evi_seq, e_evi_rng1, e_evi_rng2, e_evi_enum, e_evi_zip, env0, varD, e_b_nm, e_b_tT, e_b_tL, e_b_nil, e_b_cons, wp_bind, wp_then, wp_ok, wp_truR, wp_finP, QF_nx, QF_rt, QE1_rt, QE1_nx, QT1_bool, List.map, List.length, List.replicate, List.getElem?_cons_zero, List.getElem?_cons_succ, List.set, Nat.reduceSub, List.cons_append, List.nil_append, Nat.reduceAdd, wp_ite, e_mkLT, tru_b, seqI_L, seqI_T, pures_p, pures_nil, Option.map_some, Option.bind_some, if_true, sz_0, sz_1, sz_2, sz_3, sz_4, sz_5, sz_6, sz_7, sz_8, sz_9, sz_10, sz_11, sz_12, sz_13, sz_14, sz_15, sz_16, sz_17, sz_18, sz_19, sz_20, sz_21, sz_22, sz_23, sz_24, sz_25, sz_26, sz_27, sz_28, sz_29, sz_30, sz_31, sz_32, sz_33, sz_34, sz_35, sz_36, sz_37, sz_38, sz_39, sz_40, e_slL, e_tupL]
        rw [show (1 : Int) = ((1 : Nat) : Int) from rfl, cut_take, ← List.map_take, hg]
        exact ⟨hs, hs.take 1, i4, u4, ⟨hT.names, fun g hg => List.mem_of_mem_take hg⟩, rfl, rfl⟩
      · try simp only [e_svs_cons, e_svs_nil, e_sv_ife, e_sv_ret, e_sv_retN, e_sv_set, e_sv_setIx, e_sv_setLc, e_sv_app, e_sv_ex, e_sv_loop, e_sv_pass, e_ev_var, e_ev_lit, e_ev_glb, e_ev_gix, e_ev_bin, e_ev_neg, e_ev_not, w_and, w_or, QT2_bool, QB_bool, e_ev_one, e_ev_cmp, w_cmp2, e_ev_ife, e_ev_tup, e_ev_lst, e_ev_ix, e_ev_sl, e_ev_bi, e_ev_mx2, e_ev_isi, e_ev_call, e_ev_join, e_ev_lc, e_evs_nil, e_evs_cons, e_evo_none, e_evo_some, e_evi_seq, e_evi_rng1, e_evi_rng2, e_evi_enum, e_evi_zip, env0, varD, e_b_nm, e_b_tT, e_b_tL, e_b_nil, e_b_cons, wp_bind, wp_then, wp_ok, wp_truR, wp_finP, QF_nx, QF_rt, QE1_rt, QE1_nx, QT1_bool, List.map, List.length, List.replicate, List.getElem?_cons_zero, List.getElem?_cons_succ, List.set, Nat.reduceSub, List.cons_append, List.nil_append, Nat.reduceAdd, wp_ite, e_mkLT, tru_b, seqI_L, seqI_T, pures_p, pures_nil, Option.map_some, Option.bind_some, if_true, sz_0, sz_1, sz_2, sz_3, sz_4, sz_5, sz_6, sz_7, sz_8, sz_9, sz_10, sz_11, sz_12, sz_13, sz_14, sz_15, sz_16, sz_17, sz_18, sz_19, sz_20, sz_21, sz_22, sz_23, sz_24, sz_25, sz_26, sz_27, sz_28, sz_29, sz_30, sz_31, sz_32, sz_33, sz_34, sz_35, sz_36, sz_37, sz_38, sz_39, sz_40, e_tupL, List.map_nil]
        rw [hg]
        exact ⟨hs, [], i4, u4, hT, rfl, rfl⟩
    | cons g r =>
      simp only [List.map_cons, List.isEmpty_cons, e_svs_cons, e_svs_nil, e_sv_ife, e_sv_ret, e_sv_retN, e_sv_set, e_sv_setIx, e_sv_setLc, e_sv_app, e_sv_ex, e_sv_loop, e_sv_pass, e_ev_var, e_ev_lit, e_ev_glb, e_ev_gix, e_ev_bin, e_ev_neg, e_ev_not, w_and, w_or, QT2_bool, QB_bool, e_ev_one, e_ev_cmp, w_cmp2, e_ev_ife, e_ev_tup, e_ev_lst, e_ev_ix, e_ev_sl, e_ev_bi, e_ev_mx2, e_ev_isi, e_ev_call, e_ev_join, e_ev_lc, e_evs_nil, e_evs_cons, e_evo_none, e_evo_some, e_evi_seq, e_evi_rng1, e_evi_rng2, e_evi_enum, e_evi_zip, env0, varD, e_b_nm, e_b_tT, e_b_tL, e_b_nil, e_b_cons, wp_bind, wp_then, wp_ok, wp_truR, wp_finP, QF_nx, QF_rt, QE1_rt, QE1_nx, QT1_bool, List.map, List.length, List.replicate, List.getElem?_cons_zero, List.getElem?_cons_succ, List.set, Nat.reduceSub, List.cons_append, List.nil_append, Nat.reduceAdd, wp_ite, e_mkLT, tru_b, seqI_L, seqI_T, pures_p, pures_nil, Option.map_some, Option.bind_some, if_true, sz_0, sz_1, sz_2, sz_3, sz_4, sz_5, sz_6, sz_7, sz_8, sz_9, sz_10, sz_11, sz_12, sz_13, sz_14, sz_15, sz_16, sz_17, sz_18, sz_19, sz_20, sz_21, sz_22, sz_23, sz_24, sz_25, sz_26, sz_27, sz_28, sz_29, sz_30, sz_31, sz_32, sz_33, sz_34, sz_35, sz_36, sz_37, sz_38, sz_39, sz_40, Bool.false_eq_true, if_false]
      rw [hg]
      exact ⟨hs, g :: r, i3, u3, hT, rfl, rfl⟩
/-! rows -/
inductive Row (hs : List Str) : PyData → Prop
  | ask (h g : Str) (n1 n2 o b : Int) (hh : h ∈ hs) (hg : g ∈ hs) (h1 : 0 ≤ n1 ∧ n1 ≤ 14) (h2 : 0 ≤ n2 ∧ n2 ≤ 14) (ho : -1000000000000 ≤ o) (hob : o ≤ b) (hb : b ≤ 1000000000000) : Row hs (.tuple [.str "ask", .str h, .int n1, .int n2, .str g, .int o, .int b])
  | job (h : Str) (n o b : Int) (hh : h ∈ hs) (h1 : 0 ≤ n ∧ n ≤ 14) (ho : -1000000000000 ≤ o) (hob : o ≤ b) (hb : b ≤ 1000000000000) : Row hs (.tuple [.str "job", .str h, .int n, .int o, .int b])
  | all (h : Str) (c1 c2 : Int) (hh : h ∈ hs) (h1 : 0 ≤ c1 ∧ c1 ≤ 15) (h2 : 0 ≤ c2 ∧ c2 ≤ 15) : Row hs (.tuple [.str "all", .str h, .int c1, .int c2])
section
variable {cs : List Int} {i : Nat} {v : Int} {ex : Store}
theorem gc_p (cs' : List Int) (j : Nat) (u : Int) : gc (pen cs i v ++ ex).length (pen cs' j u ++ ex) = pen cs' j u ++ ex := gc_pen0 (pen_len cs i v ex)
theorem town_ix (hs gs : List Str) (st : Store) : ixD (.p (townD hs gs)) (.p (.int 0)) st = .ok (.p (.tuple (hs.map .str))) st := nr rfl
theorem house_ix {hs : List Str} {x : Int} (st : Store) (h0 : 0 ≤ x) (h1 : x < (hs.map PyData.str).length) : ∃ h ∈ hs, ixD (.p (.tuple (hs.map .str))) (.p (.int x)) st = .ok (.p (.str h)) st := by
  obtain ⟨a, h, e⟩ := ixT_in st h0 h1
  obtain ⟨y, hy, rfl⟩ := List.mem_map.mp h
  exact ⟨y, hy, e⟩
theorem number_ok (k : Nat) : wp (semK defs (k + 3) 11 [.c 1] (pen cs i v ++ ex)) fun d st' => ∃ (x : Int) (j : Nat) (u : Int), 0 ≤ x ∧ x ≤ 14 ∧ d = .p (.int x) ∧ st' = pen cs j u ++ ex := by
  refine wp_sem (d := d11) rfl rfl ?_
  simp only [d11, b11, e_svs_cons, e_svs_nil, e_sv_ife, e_sv_ret, e_sv_retN, e_sv_set, e_sv_setIx, e_sv_setLc, e_sv_app, e_sv_ex, e_sv_loop, e_sv_pass, e_ev_var, e_ev_lit, e_ev_glb, e_ev_gix, e_ev_bin, e_ev_neg, e_ev_not, w_and, w_or, QT2_bool, QB_bool, e_ev_one, e_ev_cmp, w_cmp2, e_ev_ife, e_ev_tup, e_ev_lst, e_ev_ix, e_ev_sl, e_ev_bi, e_ev_mx2, e_ev_isi, e_ev_call, e_ev_join, e_ev_lc, e_evs_nil, e_evs_cons, e_evo_none, e_evo_some, e_evi_seq, e_evi_rng1, e_evi_rng2, e_evi_enum, e_evi_zip, env0, varD, e_b_nm, e_b_tT, e_b_tL, e_b_nil, e_b_cons, wp_bind, wp_then, wp_ok, wp_truR, wp_finP, QF_nx, QF_rt, QE1_rt, QE1_nx, QT1_bool, List.map, List.length, List.replicate, List.getElem?_cons_zero, List.getElem?_cons_succ, List.set, Nat.reduceSub, List.cons_append, List.nil_append, Nat.reduceAdd, wp_ite, e_mkLT, tru_b, seqI_L, seqI_T, pures_p, pures_nil, Option.map_some, Option.bind_some, if_true, sz_0, sz_1, sz_2, sz_3, sz_4, sz_5, sz_6, sz_7, sz_8, sz_9, sz_10, sz_11, sz_12, sz_13, sz_14, sz_15, sz_16, sz_17, sz_18, sz_19, sz_20, sz_21, sz_22, sz_23, sz_24, sz_25, sz_26, sz_27, sz_28, sz_29, sz_30, sz_31, sz_32, sz_33, sz_34, sz_35, sz_36, sz_37, sz_38, sz_39, sz_40]
  refine take_then k (by decide) (by decide) fun x i1 u1 x0 x1 => ?_
  simp only [e_mkL3, e_svs_cons, e_svs_nil, e_sv_ife, e_sv_ret, e_sv_retN, e_sv_set, e_sv_setIx, e_sv_setLc, e_sv_app, e_sv_ex, e_sv_loop, e_sv_pass, e_ev_var, e_ev_lit, e_ev_glb, e_ev_gix, e_ev_bin, e_ev_neg, e_ev_not, w_and, w_or, QT2_bool, QB_bool, e_ev_one, e_ev_cmp, w_cmp2, e_ev_ife, e_ev_tup, e_ev_lst, e_ev_ix, e_ev_sl, e_ev_bi, e_ev_mx2, e_ev_isi, e_ev_call, e_ev_join, e_ev_lc, e_evs_nil, e_evs_cons, e_evo_none, e_evo_some, e_evi_seq, e_evi_rng1, e_evi_rng2, e_evi_enum, e_evi_zip, env0, varD, e_b_nm, e_b_tT, e_b_tL, e_b_nil, e_b_cons, wp_bind, wp_then, wp_ok, wp_truR, wp_finP, QF_nx, QF_rt, QE1_rt, QE1_nx, QT1_bool, List.map, List.length, List.replicate, List.getElem?_cons_zero, List.getElem?_cons_succ, List.set, Nat.reduceSub, List.cons_append, List.nil_append, Nat.reduceAdd, wp_ite, e_mkLT, tru_b, seqI_L, seqI_T, pures_p, pures_nil, Option.map_some, Option.bind_some, if_true, sz_0, sz_1, sz_2, sz_3, sz_4, sz_5, sz_6, sz_7, sz_8, sz_9, sz_10, sz_11, sz_12, sz_13, sz_14, sz_15, sz_16, sz_17, sz_18, sz_19, sz_20, sz_21, sz_22, sz_23, sz_24, sz_25, sz_26, sz_27, sz_28, sz_29, sz_30, sz_31, sz_32, sz_33, sz_34, sz_35, sz_36, sz_37, sz_38, sz_39, sz_40]
  refine take_then k (by decide) (by decide) fun y i2 u2 y0 y1 => ?_
  obtain ⟨a, ha, e⟩ := ixL_in (l := [.int 0, .int 14, .int x]) (pen cs i2 u2 ++ ex) y0 y1
  rw [e, wp_ok]
  try simp only [e_svs_cons, e_svs_nil, e_sv_ife, e_sv_ret, e_sv_retN, e_sv_set, e_sv_setIx, e_sv_setLc, e_sv_app, e_sv_ex, e_sv_loop, e_sv_pass, e_ev_var, e_ev_lit, e_ev_glb, e_ev_gix, e_ev_bin, e_ev_neg, e_ev_not, w_and, w_or, QT2_bool, QB_bool, e_ev_one, e_ev_cmp, w_cmp2, e_ev_ife, e_ev_tup, e_ev_lst, e_ev_ix, e_ev_sl, e_ev_bi, e_ev_mx2, e_ev_isi, e_ev_call, e_ev_join, e_ev_lc, e_evs_nil, e_evs_cons, e_evo_none, e_evo_some, e_evi_seq, e_evi_rng1, e_evi_rng2, e_evi_enum, e_evi_zip, env0, varD, e_b_nm, e_b_tT, e_b_tL, e_b_nil, e_b_cons, wp_bind, wp_then, wp_ok, wp_truR, wp_finP, QF_nx, QF_rt, QE1_rt, QE1_nx, QT1_bool, List.map, List.length, List.replicate, List.getElem?_cons_zero, List.getElem?_cons_succ, List.set, Nat.reduceSub, List.cons_append, List.nil_append, Nat.reduceAdd, wp_ite, e_mkLT, tru_b, seqI_L, seqI_T, pures_p, pures_nil, Option.map_some, Option.bind_some, if_true, sz_0, sz_1, sz_2, sz_3, sz_4, sz_5, sz_6, sz_7, sz_8, sz_9, sz_10, sz_11, sz_12, sz_13, sz_14, sz_15, sz_16, sz_17, sz_18, sz_19, sz_20, sz_21, sz_22, sz_23, sz_24, sz_25, sz_26, sz_27, sz_28, sz_29, sz_30, sz_31, sz_32, sz_33, sz_34, sz_35, sz_36, sz_37, sz_38, sz_39, sz_40]
  rw [gc_p]
  simp only [List.mem_cons, List.not_mem_nil, or_false] at ha
  rcases ha with rfl | rfl | rfl
  · exact ⟨_, _, _, by decide, by decide, rfl, rfl⟩
  · exact ⟨_, _, _, by decide, by decide, rfl, rfl⟩
  · exact ⟨_, _, _, x0, by omega, rfl, rfl⟩
theorem number_then (k : Nat) {Q : D → Store → Prop} (h : ∀ (x : Int) (j : Nat) (u : Int), 0 ≤ x → x ≤ 14 → Q (.p (.int x)) (pen cs j u ++ ex)) : wp (semK defs (k + 3) 11 [.c 1] (pen cs i v ++ ex)) Q :=
  wp_mono (number_ok k) (by rintro _ _ ⟨x, j, u, h0, h1, rfl, rfl⟩; exact h x j u h0 h1)
theorem times_then (k : Nat) {Q : D → Store → Prop} (h : ∀ (x y : Int) (j : Nat) (u : Int), -1000000000000 ≤ x → x ≤ y → y ≤ 1000000000000 → Q (.p (.list [.int x, .int y])) (pen cs j u ++ ex)) :
    wp (semK defs (k + 3) 12 [.c 1] (pen cs i v ++ ex)) Q := by
  refine wp_sem (d := d12) rfl rfl ?_
  simp only [d12, b12, e_svs_cons, e_svs_nil, e_sv_ife, e_sv_ret, e_sv_retN, e_sv_set, e_sv_setIx, e_sv_setLc, e_sv_app, e_sv_ex, e_sv_loop, e_sv_pass, e_ev_var, e_ev_lit, e_ev_glb, e_ev_gix, e_ev_bin, e_ev_neg, e_ev_not, w_and, w_or, QT2_bool, QB_bool, e_ev_one, e_ev_cmp, w_cmp2, e_ev_ife, e_ev_tup, e_ev_lst, e_ev_ix, e_ev_sl, e_ev_bi, e_ev_mx2, e_ev_isi, e_ev_call, e_ev_join, e_ev_lc, e_evs_nil, e_evs_cons, e_evo_none, e_evo_some, e_evi_seq, e_evi_rng1, e_evi_rng2, e_evi_enum, e_evi_zip, env0, varD, e_b_nm, e_b_tT, e_b_tL, e_b_nil, e_b_cons, wp_bind, wp_then, wp_ok, wp_truR, wp_finP, QF_nx, QF_rt, QE1_rt, QE1_nx, QT1_bool, List.map, List.length, List.replicate, List.getElem?_cons_zero, List.getElem?_cons_succ, List.set, Nat.reduceSub, List.cons_append, List.nil_append, Nat.reduceAdd, wp_ite, e_mkLT, tru_b, seqI_L, seqI_T, pures_p, pures_nil, Option.map_some, Option.bind_some, if_true, sz_0, sz_1, sz_2, sz_3, sz_4, sz_5, sz_6, sz_7, sz_8, sz_9, sz_10, sz_11, sz_12, sz_13, sz_14, sz_15, sz_16, sz_17, sz_18, sz_19, sz_20, sz_21, sz_22, sz_23, sz_24, sz_25, sz_26, sz_27, sz_28, sz_29, sz_30, sz_31, sz_32, sz_33, sz_34, sz_35, sz_36, sz_37, sz_38, sz_39, sz_40, e_pow12, e_mul, e_add, e_sub]
  rw [if_pos (mulOk_l (by decide))]
  refine take_then k (by decide) (by decide) fun x1 i1 u1 a0 a1 => ?_
  try simp only [e_svs_cons, e_svs_nil, e_sv_ife, e_sv_ret, e_sv_retN, e_sv_set, e_sv_setIx, e_sv_setLc, e_sv_app, e_sv_ex, e_sv_loop, e_sv_pass, e_ev_var, e_ev_lit, e_ev_glb, e_ev_gix, e_ev_bin, e_ev_neg, e_ev_not, w_and, w_or, QT2_bool, QB_bool, e_ev_one, e_ev_cmp, w_cmp2, e_ev_ife, e_ev_tup, e_ev_lst, e_ev_ix, e_ev_sl, e_ev_bi, e_ev_mx2, e_ev_isi, e_ev_call, e_ev_join, e_ev_lc, e_evs_nil, e_evs_cons, e_evo_none, e_evo_some, e_evi_seq, e_evi_rng1, e_evi_rng2, e_evi_enum, e_evi_zip, env0, varD, e_b_nm, e_b_tT, e_b_tL, e_b_nil, e_b_cons, wp_bind, wp_then, wp_ok, wp_truR, wp_finP, QF_nx, QF_rt, QE1_rt, QE1_nx, QT1_bool, List.map, List.length, List.replicate, List.getElem?_cons_zero, List.getElem?_cons_succ, List.set, Nat.reduceSub, List.cons_append, List.nil_append, Nat.reduceAdd, wp_ite, e_mkLT, tru_b, seqI_L, seqI_T, pures_p, pures_nil, Option.map_some, Option.bind_some, if_true, sz_0, sz_1, sz_2, sz_3, sz_4, sz_5, sz_6, sz_7, sz_8, sz_9, sz_10, sz_11, sz_12, sz_13, sz_14, sz_15, sz_16, sz_17, sz_18, sz_19, sz_20, sz_21, sz_22, sz_23, sz_24, sz_25, sz_26, sz_27, sz_28, sz_29, sz_30, sz_31, sz_32, sz_33, sz_34, sz_35, sz_36, sz_37, sz_38, sz_39, sz_40, e_sub]
  refine take_then k (by decide) (by decide) fun x2 i2 u2 b0 b1 => ?_
  have hm : ∀ (st : Store), mkL false [.p (.int (x1 - 1000000000000)), .p (.int x2), .p (.int 1000000000000), .p (.int (0 - 1000000000000))] st = .ok (.p (.list [.int (x1 - 1000000000000), .int x2, .int 1000000000000, .int (0 - 1000000000000)])) st := fun st => e_mkLF [_, _, _, _] st
  try simp only [e_svs_cons, e_svs_nil, e_sv_ife, e_sv_ret, e_sv_retN, e_sv_set, e_sv_setIx, e_sv_setLc, e_sv_app, e_sv_ex, e_sv_loop, e_sv_pass, e_ev_var, e_ev_lit, e_ev_glb, e_ev_gix, e_ev_bin, e_ev_neg, e_ev_not, w_and, w_or, QT2_bool, QB_bool, e_ev_one, e_ev_cmp, w_cmp2, e_ev_ife, e_ev_tup, e_ev_lst, e_ev_ix, e_ev_sl, e_ev_bi, e_ev_mx2, e_ev_isi, e_ev_call, e_ev_join, e_ev_lc, e_evs_nil, e_evs_cons, e_evo_none, e_evo_some, e_evi_seq, e_evi_rng1, e_evi_rng2, e_evi_enum, e_evi_zip, env0, varD, e_b_nm, e_b_tT, e_b_tL, e_b_nil, e_b_cons, wp_bind, wp_then, wp_ok, wp_truR, wp_finP, QF_nx, QF_rt, QE1_rt, QE1_nx, QT1_bool, List.map, List.length, List.replicate, List.getElem?_cons_zero, List.getElem?_cons_succ, List.set, Nat.reduceSub, List.cons_append, List.nil_append, Nat.reduceAdd, wp_ite, e_mkLT, tru_b, seqI_L, seqI_T, pures_p, pures_nil, Option.map_some, Option.bind_some, if_true, sz_0, sz_1, sz_2, sz_3, sz_4, sz_5, sz_6, sz_7, sz_8, sz_9, sz_10, sz_11, sz_12, sz_13, sz_14, sz_15, sz_16, sz_17, sz_18, sz_19, sz_20, sz_21, sz_22, sz_23, sz_24, sz_25, sz_26, sz_27, sz_28, sz_29, sz_30, sz_31, sz_32, sz_33, sz_34, sz_35, sz_36, sz_37, sz_38, sz_39, sz_40, hm]
  have bd : ∀ a ∈ [PyData.int (x1 - 1000000000000), .int x2, .int 1000000000000, .int (0 - 1000000000000)], ∃ z : Int, a = .int z ∧ -1000000000000 ≤ z ∧ z ≤ 1000000000000 := by
    intro a ha
    simp only [List.mem_cons, List.not_mem_nil, or_false] at ha
    rcases ha with rfl | rfl | rfl | rfl
    · exact ⟨_, rfl, by omega, by omega⟩
    · exact ⟨_, rfl, by omega, by omega⟩
    · exact ⟨_, rfl, by omega, by omega⟩
    · exact ⟨_, rfl, by omega, by omega⟩
  refine take_then k (by decide) (by decide) fun p i3 u3 p0 p1 => ?_
  obtain ⟨a, ha, ea⟩ := ixL_in (l := [.int (x1 - 1000000000000), .int x2, .int 1000000000000, .int (0 - 1000000000000)]) (pen cs i3 u3 ++ ex) p0 p1
  rw [ea, wp_ok]
  refine take_then k (by decide) (by decide) fun q i4 u4 q0 q1 => ?_
  obtain ⟨b, hb, eb⟩ := ixL_in (l := [.int (x1 - 1000000000000), .int x2, .int 1000000000000, .int (0 - 1000000000000)]) (pen cs i4 u4 ++ ex) q0 q1
  rw [eb, wp_ok]
  obtain ⟨z1, rfl, z2, z3⟩ := bd a ha
  obtain ⟨z4, rfl, z5, z6⟩ := bd b hb
  obtain ⟨x, y, hxy, hx, hy, e⟩ := e_sorted2 z1 z4 (pen cs i4 u4 ++ ex)
  try simp only [e_svs_cons, e_svs_nil, e_sv_ife, e_sv_ret, e_sv_retN, e_sv_set, e_sv_setIx, e_sv_setLc, e_sv_app, e_sv_ex, e_sv_loop, e_sv_pass, e_ev_var, e_ev_lit, e_ev_glb, e_ev_gix, e_ev_bin, e_ev_neg, e_ev_not, w_and, w_or, QT2_bool, QB_bool, e_ev_one, e_ev_cmp, w_cmp2, e_ev_ife, e_ev_tup, e_ev_lst, e_ev_ix, e_ev_sl, e_ev_bi, e_ev_mx2, e_ev_isi, e_ev_call, e_ev_join, e_ev_lc, e_evs_nil, e_evs_cons, e_evo_none, e_evo_some, e_evi_seq, e_evi_rng1, e_evi_rng2, e_evi_enum, e_evi_zip, env0, varD, e_b_nm, e_b_tT, e_b_tL, e_b_nil, e_b_cons, wp_bind, wp_then, wp_ok, wp_truR, wp_finP, QF_nx, QF_rt, QE1_rt, QE1_nx, QT1_bool, List.map, List.length, List.replicate, List.getElem?_cons_zero, List.getElem?_cons_succ, List.set, Nat.reduceSub, List.cons_append, List.nil_append, Nat.reduceAdd, wp_ite, e_mkLT, tru_b, seqI_L, seqI_T, pures_p, pures_nil, Option.map_some, Option.bind_some, if_true, sz_0, sz_1, sz_2, sz_3, sz_4, sz_5, sz_6, sz_7, sz_8, sz_9, sz_10, sz_11, sz_12, sz_13, sz_14, sz_15, sz_16, sz_17, sz_18, sz_19, sz_20, sz_21, sz_22, sz_23, sz_24, sz_25, sz_26, sz_27, sz_28, sz_29, sz_30, sz_31, sz_32, sz_33, sz_34, sz_35, sz_36, sz_37, sz_38, sz_39, sz_40, e_mkL2, e]
  rw [gc_p]
  exact h x y i4 u4 (by rcases hx with rfl | rfl <;> assumption) hxy (by rcases hy with rfl | rfl <;> assumption)
end
section
variable {cs : List Int} {i : Nat} {v : Int} {ex : Store}
theorem any_then (k : Nat) {m : Nat} {hs gs : List Str} (T : Town m hs gs) (hm : m ≤ 10) {Q : D → Store → Prop} (h : ∀ (x : PyData) (j : Nat) (u : Int), Row hs x → Q (.p x) (pen cs j u ++ ex)) :
    wp (semK defs (k + 4) 13 [.c 1, .p (townD hs gs)] (pen cs i v ++ ex)) Q := by
  refine wp_sem (d := d13) rfl rfl ?_
  have hl := T.ne
  have hlm : (hs.map PyData.str).length = hs.length := List.length_map _
  simp only [d13, b13, e_svs_cons, e_svs_nil, e_sv_ife, e_sv_ret, e_sv_retN, e_sv_set, e_sv_setIx, e_sv_setLc, e_sv_app, e_sv_ex, e_sv_loop, e_sv_pass, e_ev_var, e_ev_lit, e_ev_glb, e_ev_gix, e_ev_bin, e_ev_neg, e_ev_not, w_and, w_or, QT2_bool, QB_bool, e_ev_one, e_ev_cmp, w_cmp2, e_ev_ife, e_ev_tup, e_ev_lst, e_ev_ix, e_ev_sl, e_ev_bi, e_ev_mx2, e_ev_isi, e_ev_call, e_ev_join, e_ev_lc, e_evs_nil, e_evs_cons, e_evo_none, e_evo_some, e_evi_seq, e_evi_rng1, e_evi_rng2, e_evi_enum, e_evi_zip, env0, varD, e_b_nm, e_b_tT, e_b_tL, e_b_nil, e_b_cons, wp_bind, wp_then, wp_ok, wp_truR, wp_finP, QF_nx, QF_rt, QE1_rt, QE1_nx, QT1_bool, List.map, List.length, List.replicate, List.getElem?_cons_zero, List.getElem?_cons_succ, List.set, Nat.reduceSub, List.cons_append, List.nil_append, Nat.reduceAdd, wp_ite, e_mkLT, tru_b, seqI_L, seqI_T, pures_p, pures_nil, Option.map_some, Option.bind_some, if_true, sz_0, sz_1, sz_2, sz_3, sz_4, sz_5, sz_6, sz_7, sz_8, sz_9, sz_10, sz_11, sz_12, sz_13, sz_14, sz_15, sz_16, sz_17, sz_18, sz_19, sz_20, sz_21, sz_22, sz_23, sz_24, sz_25, sz_26, sz_27, sz_28, sz_29, sz_30, sz_31, sz_32, sz_33, sz_34, sz_35, sz_36, sz_37, sz_38, sz_39, sz_40, town_ix, e_lenT]
  refine take_then (k + 1) (by omega) (by omega) fun x i1 u1 x0 x1 => ?_
  obtain ⟨h1, hh1, e1⟩ := house_ix (pen cs i1 u1 ++ ex) x0 x1
  rw [e1, wp_ok]
  refine take_then (k + 1) (by decide) (by decide) fun w i2 u2 w0 w1 => ?_
  try simp only [e_svs_cons, e_svs_nil, e_sv_ife, e_sv_ret, e_sv_retN, e_sv_set, e_sv_setIx, e_sv_setLc, e_sv_app, e_sv_ex, e_sv_loop, e_sv_pass, e_ev_var, e_ev_lit, e_ev_glb, e_ev_gix, e_ev_bin, e_ev_neg, e_ev_not, w_and, w_or, QT2_bool, QB_bool, e_ev_one, e_ev_cmp, w_cmp2, e_ev_ife, e_ev_tup, e_ev_lst, e_ev_ix, e_ev_sl, e_ev_bi, e_ev_mx2, e_ev_isi, e_ev_call, e_ev_join, e_ev_lc, e_evs_nil, e_evs_cons, e_evo_none, e_evo_some, e_evi_seq, e_evi_rng1, e_evi_rng2, e_evi_enum, e_evi_zip, env0, varD, e_b_nm, e_b_tT, e_b_tL, e_b_nil, e_b_cons, wp_bind, wp_then, wp_ok, wp_truR, wp_finP, QF_nx, QF_rt, QE1_rt, QE1_nx, QT1_bool, List.map, List.length, List.replicate, List.getElem?_cons_zero, List.getElem?_cons_succ, List.set, Nat.reduceSub, List.cons_append, List.nil_append, Nat.reduceAdd, wp_ite, e_mkLT, tru_b, seqI_L, seqI_T, pures_p, pures_nil, Option.map_some, Option.bind_some, if_true, sz_0, sz_1, sz_2, sz_3, sz_4, sz_5, sz_6, sz_7, sz_8, sz_9, sz_10, sz_11, sz_12, sz_13, sz_14, sz_15, sz_16, sz_17, sz_18, sz_19, sz_20, sz_21, sz_22, sz_23, sz_24, sz_25, sz_26, sz_27, sz_28, sz_29, sz_30, sz_31, sz_32, sz_33, sz_34, sz_35, sz_36, sz_37, sz_38, sz_39, sz_40]
  refine times_then k fun o b i3 u3 ho hob hb => ?_
  try simp only [e_svs_cons, e_svs_nil, e_sv_ife, e_sv_ret, e_sv_retN, e_sv_set, e_sv_setIx, e_sv_setLc, e_sv_app, e_sv_ex, e_sv_loop, e_sv_pass, e_ev_var, e_ev_lit, e_ev_glb, e_ev_gix, e_ev_bin, e_ev_neg, e_ev_not, w_and, w_or, QT2_bool, QB_bool, e_ev_one, e_ev_cmp, w_cmp2, e_ev_ife, e_ev_tup, e_ev_lst, e_ev_ix, e_ev_sl, e_ev_bi, e_ev_mx2, e_ev_isi, e_ev_call, e_ev_join, e_ev_lc, e_evs_nil, e_evs_cons, e_evo_none, e_evo_some, e_evi_seq, e_evi_rng1, e_evi_rng2, e_evi_enum, e_evi_zip, env0, varD, e_b_nm, e_b_tT, e_b_tL, e_b_nil, e_b_cons, wp_bind, wp_then, wp_ok, wp_truR, wp_finP, QF_nx, QF_rt, QE1_rt, QE1_nx, QT1_bool, List.map, List.length, List.replicate, List.getElem?_cons_zero, List.getElem?_cons_succ, List.set, Nat.reduceSub, List.cons_append, List.nil_append, Nat.reduceAdd, wp_ite, e_mkLT, tru_b, seqI_L, seqI_T, pures_p, pures_nil, Option.map_some, Option.bind_some, if_true, sz_0, sz_1, sz_2, sz_3, sz_4, sz_5, sz_6, sz_7, sz_8, sz_9, sz_10, sz_11, sz_12, sz_13, sz_14, sz_15, sz_16, sz_17, sz_18, sz_19, sz_20, sz_21, sz_22, sz_23, sz_24, sz_25, sz_26, sz_27, sz_28, sz_29, sz_30, sz_31, sz_32, sz_33, sz_34, sz_35, sz_36, sz_37, sz_38, sz_39, sz_40, e_eqi, town_ix, e_lenT, e_add]
  split
  · refine take_then (k + 1) (by omega) (by omega) fun x i1 u1 x0 x1 => ?_
    obtain ⟨h2, hh2, e2⟩ := house_ix (pen cs i1 u1 ++ ex) x0 x1
    rw [e2, wp_ok]
    try simp only [e_svs_cons, e_svs_nil, e_sv_ife, e_sv_ret, e_sv_retN, e_sv_set, e_sv_setIx, e_sv_setLc, e_sv_app, e_sv_ex, e_sv_loop, e_sv_pass, e_ev_var, e_ev_lit, e_ev_glb, e_ev_gix, e_ev_bin, e_ev_neg, e_ev_not, w_and, w_or, QT2_bool, QB_bool, e_ev_one, e_ev_cmp, w_cmp2, e_ev_ife, e_ev_tup, e_ev_lst, e_ev_ix, e_ev_sl, e_ev_bi, e_ev_mx2, e_ev_isi, e_ev_call, e_ev_join, e_ev_lc, e_evs_nil, e_evs_cons, e_evo_none, e_evo_some, e_evi_seq, e_evi_rng1, e_evi_rng2, e_evi_enum, e_evi_zip, env0, varD, e_b_nm, e_b_tT, e_b_tL, e_b_nil, e_b_cons, wp_bind, wp_then, wp_ok, wp_truR, wp_finP, QF_nx, QF_rt, QE1_rt, QE1_nx, QT1_bool, List.map, List.length, List.replicate, List.getElem?_cons_zero, List.getElem?_cons_succ, List.set, Nat.reduceSub, List.cons_append, List.nil_append, Nat.reduceAdd, wp_ite, e_mkLT, tru_b, seqI_L, seqI_T, pures_p, pures_nil, Option.map_some, Option.bind_some, if_true, sz_0, sz_1, sz_2, sz_3, sz_4, sz_5, sz_6, sz_7, sz_8, sz_9, sz_10, sz_11, sz_12, sz_13, sz_14, sz_15, sz_16, sz_17, sz_18, sz_19, sz_20, sz_21, sz_22, sz_23, sz_24, sz_25, sz_26, sz_27, sz_28, sz_29, sz_30, sz_31, sz_32, sz_33, sz_34, sz_35, sz_36, sz_37, sz_38, sz_39, sz_40]
    refine number_then k fun n1 i4 u4 a0 a1 => ?_
    refine number_then k fun n2 i5 u5 b0 b1 => ?_
    try simp only [e_svs_cons, e_svs_nil, e_sv_ife, e_sv_ret, e_sv_retN, e_sv_set, e_sv_setIx, e_sv_setLc, e_sv_app, e_sv_ex, e_sv_loop, e_sv_pass, e_ev_var, e_ev_lit, e_ev_glb, e_ev_gix, e_ev_bin, e_ev_neg, e_ev_not, w_and, w_or, QT2_bool, QB_bool, e_ev_one, e_ev_cmp, w_cmp2, e_ev_ife, e_ev_tup, e_ev_lst, e_ev_ix, e_ev_sl, e_ev_bi, e_ev_mx2, e_ev_isi, e_ev_call, e_ev_join, e_ev_lc, e_evs_nil, e_evs_cons, e_evo_none, e_evo_some, e_evi_seq, e_evi_rng1, e_evi_rng2, e_evi_enum, e_evi_zip, env0, varD, e_b_nm, e_b_tT, e_b_tL, e_b_nil, e_b_cons, wp_bind, wp_then, wp_ok, wp_truR, wp_finP, QF_nx, QF_rt, QE1_rt, QE1_nx, QT1_bool, List.map, List.length, List.replicate, List.getElem?_cons_zero, List.getElem?_cons_succ, List.set, Nat.reduceSub, List.cons_append, List.nil_append, Nat.reduceAdd, wp_ite, e_mkLT, tru_b, seqI_L, seqI_T, pures_p, pures_nil, Option.map_some, Option.bind_some, if_true, sz_0, sz_1, sz_2, sz_3, sz_4, sz_5, sz_6, sz_7, sz_8, sz_9, sz_10, sz_11, sz_12, sz_13, sz_14, sz_15, sz_16, sz_17, sz_18, sz_19, sz_20, sz_21, sz_22, sz_23, sz_24, sz_25, sz_26, sz_27, sz_28, sz_29, sz_30, sz_31, sz_32, sz_33, sz_34, sz_35, sz_36, sz_37, sz_38, sz_39, sz_40]
    rw [gc_p]
    exact h _ _ _ (.ask h1 h2 n1 n2 o b hh1 hh2 ⟨a0, a1⟩ ⟨b0, b1⟩ ho hob hb)
  · split
    · refine number_then k fun n1 i4 u4 a0 a1 => ?_
      try simp only [e_svs_cons, e_svs_nil, e_sv_ife, e_sv_ret, e_sv_retN, e_sv_set, e_sv_setIx, e_sv_setLc, e_sv_app, e_sv_ex, e_sv_loop, e_sv_pass, e_ev_var, e_ev_lit, e_ev_glb, e_ev_gix, e_ev_bin, e_ev_neg, e_ev_not, w_and, w_or, QT2_bool, QB_bool, e_ev_one, e_ev_cmp, w_cmp2, e_ev_ife, e_ev_tup, e_ev_lst, e_ev_ix, e_ev_sl, e_ev_bi, e_ev_mx2, e_ev_isi, e_ev_call, e_ev_join, e_ev_lc, e_evs_nil, e_evs_cons, e_evo_none, e_evo_some, e_evi_seq, e_evi_rng1, e_evi_rng2, e_evi_enum, e_evi_zip, env0, varD, e_b_nm, e_b_tT, e_b_tL, e_b_nil, e_b_cons, wp_bind, wp_then, wp_ok, wp_truR, wp_finP, QF_nx, QF_rt, QE1_rt, QE1_nx, QT1_bool, List.map, List.length, List.replicate, List.getElem?_cons_zero, List.getElem?_cons_succ, List.set, Nat.reduceSub, List.cons_append, List.nil_append, Nat.reduceAdd, wp_ite, e_mkLT, tru_b, seqI_L, seqI_T, pures_p, pures_nil, Option.map_some, Option.bind_some, if_true, sz_0, sz_1, sz_2, sz_3, sz_4, sz_5, sz_6, sz_7, sz_8, sz_9, sz_10, sz_11, sz_12, sz_13, sz_14, sz_15, sz_16, sz_17, sz_18, sz_19, sz_20, sz_21, sz_22, sz_23, sz_24, sz_25, sz_26, sz_27, sz_28, sz_29, sz_30, sz_31, sz_32, sz_33, sz_34, sz_35, sz_36, sz_37, sz_38, sz_39, sz_40]
      rw [gc_p]
      exact h _ _ _ (.job h1 n1 o b hh1 ⟨a0, a1⟩ ho hob hb)
    · refine number_then k fun n1 i4 u4 a0 a1 => ?_
      refine take_then (k + 1) (by decide) (by decide) fun c1 i5 u5 c0 c1' => ?_
      try simp only [e_svs_cons, e_svs_nil, e_sv_ife, e_sv_ret, e_sv_retN, e_sv_set, e_sv_setIx, e_sv_setLc, e_sv_app, e_sv_ex, e_sv_loop, e_sv_pass, e_ev_var, e_ev_lit, e_ev_glb, e_ev_gix, e_ev_bin, e_ev_neg, e_ev_not, w_and, w_or, QT2_bool, QB_bool, e_ev_one, e_ev_cmp, w_cmp2, e_ev_ife, e_ev_tup, e_ev_lst, e_ev_ix, e_ev_sl, e_ev_bi, e_ev_mx2, e_ev_isi, e_ev_call, e_ev_join, e_ev_lc, e_evs_nil, e_evs_cons, e_evo_none, e_evo_some, e_evi_seq, e_evi_rng1, e_evi_rng2, e_evi_enum, e_evi_zip, env0, varD, e_b_nm, e_b_tT, e_b_tL, e_b_nil, e_b_cons, wp_bind, wp_then, wp_ok, wp_truR, wp_finP, QF_nx, QF_rt, QE1_rt, QE1_nx, QT1_bool, List.map, List.length, List.replicate, List.getElem?_cons_zero, List.getElem?_cons_succ, List.set, Nat.reduceSub, List.cons_append, List.nil_append, Nat.reduceAdd, wp_ite, e_mkLT, tru_b, seqI_L, seqI_T, pures_p, pures_nil, Option.map_some, Option.bind_some, if_true, sz_0, sz_1, sz_2, sz_3, sz_4, sz_5, sz_6, sz_7, sz_8, sz_9, sz_10, sz_11, sz_12, sz_13, sz_14, sz_15, sz_16, sz_17, sz_18, sz_19, sz_20, sz_21, sz_22, sz_23, sz_24, sz_25, sz_26, sz_27, sz_28, sz_29, sz_30, sz_31, sz_32, sz_33, sz_34, sz_35, sz_36, sz_37, sz_38, sz_39, sz_40, e_add]
      refine number_then k fun n2 i6 u6 b0 b1 => ?_
      refine take_then (k + 1) (by decide) (by decide) fun c2 i7 u7 d0 d1 => ?_
      try simp only [e_svs_cons, e_svs_nil, e_sv_ife, e_sv_ret, e_sv_retN, e_sv_set, e_sv_setIx, e_sv_setLc, e_sv_app, e_sv_ex, e_sv_loop, e_sv_pass, e_ev_var, e_ev_lit, e_ev_glb, e_ev_gix, e_ev_bin, e_ev_neg, e_ev_not, w_and, w_or, QT2_bool, QB_bool, e_ev_one, e_ev_cmp, w_cmp2, e_ev_ife, e_ev_tup, e_ev_lst, e_ev_ix, e_ev_sl, e_ev_bi, e_ev_mx2, e_ev_isi, e_ev_call, e_ev_join, e_ev_lc, e_evs_nil, e_evs_cons, e_evo_none, e_evo_some, e_evi_seq, e_evi_rng1, e_evi_rng2, e_evi_enum, e_evi_zip, env0, varD, e_b_nm, e_b_tT, e_b_tL, e_b_nil, e_b_cons, wp_bind, wp_then, wp_ok, wp_truR, wp_finP, QF_nx, QF_rt, QE1_rt, QE1_nx, QT1_bool, List.map, List.length, List.replicate, List.getElem?_cons_zero, List.getElem?_cons_succ, List.set, Nat.reduceSub, List.cons_append, List.nil_append, Nat.reduceAdd, wp_ite, e_mkLT, tru_b, seqI_L, seqI_T, pures_p, pures_nil, Option.map_some, Option.bind_some, if_true, sz_0, sz_1, sz_2, sz_3, sz_4, sz_5, sz_6, sz_7, sz_8, sz_9, sz_10, sz_11, sz_12, sz_13, sz_14, sz_15, sz_16, sz_17, sz_18, sz_19, sz_20, sz_21, sz_22, sz_23, sz_24, sz_25, sz_26, sz_27, sz_28, sz_29, sz_30, sz_31, sz_32, sz_33, sz_34, sz_35, sz_36, sz_37, sz_38, sz_39, sz_40, e_add]
      rw [gc_p]
      exact h _ _ _ (.all h1 (n1 + c1) (n2 + c2) hh1 (by omega) (by omega))
end
section
variable {cs : List Int} {i : Nat} {v : Int} {ex : Store}
theorem few_then (k : Nat) {m : Nat} {hs gs : List Str} (T : Town m hs gs) (hm : m ≤ 10) {Q : D → Store → Prop} (h : ∀ (x : PyData) (j : Nat) (u : Int), Row hs x → Q (.p x) (pen cs j u ++ ex)) :
    wp (semK defs (k + 4) 14 [.c 1, .p (townD hs gs)] (pen cs i v ++ ex)) Q := by
  refine wp_sem (d := d14) rfl rfl ?_
  have hl := T.ne
  have hlm : (hs.map PyData.str).length = hs.length := List.length_map _
  simp only [d14, b14, e_svs_cons, e_svs_nil, e_sv_ife, e_sv_ret, e_sv_retN, e_sv_set, e_sv_setIx, e_sv_setLc, e_sv_app, e_sv_ex, e_sv_loop, e_sv_pass, e_ev_var, e_ev_lit, e_ev_glb, e_ev_gix, e_ev_bin, e_ev_neg, e_ev_not, w_and, w_or, QT2_bool, QB_bool, e_ev_one, e_ev_cmp, w_cmp2, e_ev_ife, e_ev_tup, e_ev_lst, e_ev_ix, e_ev_sl, e_ev_bi, e_ev_mx2, e_ev_isi, e_ev_call, e_ev_join, e_ev_lc, e_evs_nil, e_evs_cons, e_evo_none, e_evo_some, e_evi_seq, e_evi_rng1, e_evi_rng2, e_evi_enum, e_evi_zip, env0, varD, e_b_nm, e_b_tT, e_b_tL, e_b_nil, e_b_cons, wp_bind, wp_then, wp_ok, wp_truR, wp_finP, QF_nx, QF_rt, QE1_rt, QE1_nx, QT1_bool, List.map, List.length, List.replicate, List.getElem?_cons_zero, List.getElem?_cons_succ, List.set, Nat.reduceSub, List.cons_append, List.nil_append, Nat.reduceAdd, wp_ite, e_mkLT, tru_b, seqI_L, seqI_T, pures_p, pures_nil, Option.map_some, Option.bind_some, if_true, sz_0, sz_1, sz_2, sz_3, sz_4, sz_5, sz_6, sz_7, sz_8, sz_9, sz_10, sz_11, sz_12, sz_13, sz_14, sz_15, sz_16, sz_17, sz_18, sz_19, sz_20, sz_21, sz_22, sz_23, sz_24, sz_25, sz_26, sz_27, sz_28, sz_29, sz_30, sz_31, sz_32, sz_33, sz_34, sz_35, sz_36, sz_37, sz_38, sz_39, sz_40, town_ix, e_lenT]
  refine take_then (k + 1) (by omega) (by omega) fun x i1 u1 x0 x1 => ?_
  obtain ⟨h1, hh1, e1⟩ := house_ix (pen cs i1 u1 ++ ex) x0 x1
  rw [e1, wp_ok]
  refine take_then (k + 1) (by decide) (by decide) fun w i2 u2 w0 w1 => ?_
  refine take_then (k + 1) (by decide) (by decide) fun o i3 u3 o0 o1 => ?_
  refine take_then (k + 1) (by decide) (by decide) fun b i4 u4 b0 b1 => ?_
  try simp only [e_svs_cons, e_svs_nil, e_sv_ife, e_sv_ret, e_sv_retN, e_sv_set, e_sv_setIx, e_sv_setLc, e_sv_app, e_sv_ex, e_sv_loop, e_sv_pass, e_ev_var, e_ev_lit, e_ev_glb, e_ev_gix, e_ev_bin, e_ev_neg, e_ev_not, w_and, w_or, QT2_bool, QB_bool, e_ev_one, e_ev_cmp, w_cmp2, e_ev_ife, e_ev_tup, e_ev_lst, e_ev_ix, e_ev_sl, e_ev_bi, e_ev_mx2, e_ev_isi, e_ev_call, e_ev_join, e_ev_lc, e_evs_nil, e_evs_cons, e_evo_none, e_evo_some, e_evi_seq, e_evi_rng1, e_evi_rng2, e_evi_enum, e_evi_zip, env0, varD, e_b_nm, e_b_tT, e_b_tL, e_b_nil, e_b_cons, wp_bind, wp_then, wp_ok, wp_truR, wp_finP, QF_nx, QF_rt, QE1_rt, QE1_nx, QT1_bool, List.map, List.length, List.replicate, List.getElem?_cons_zero, List.getElem?_cons_succ, List.set, Nat.reduceSub, List.cons_append, List.nil_append, Nat.reduceAdd, wp_ite, e_mkLT, tru_b, seqI_L, seqI_T, pures_p, pures_nil, Option.map_some, Option.bind_some, if_true, sz_0, sz_1, sz_2, sz_3, sz_4, sz_5, sz_6, sz_7, sz_8, sz_9, sz_10, sz_11, sz_12, sz_13, sz_14, sz_15, sz_16, sz_17, sz_18, sz_19, sz_20, sz_21, sz_22, sz_23, sz_24, sz_25, sz_26, sz_27, sz_28, sz_29, sz_30, sz_31, sz_32, sz_33, sz_34, sz_35, sz_36, sz_37, sz_38, sz_39, sz_40, e_lt, town_ix, e_lenT, e_add]
  split
  · refine take_then (k + 1) (by omega) (by omega) fun x i1 u1 x0 x1 => ?_
    obtain ⟨h2, hh2, e2⟩ := house_ix (pen cs i1 u1 ++ ex) x0 x1
    rw [e2, wp_ok]
    refine take_then (k + 1) (by decide) (by decide) fun n1 i5 u5 c0 c1 => ?_
    refine take_then (k + 1) (by decide) (by decide) fun n2 i6 u6 d0 d1 => ?_
    try simp only [e_svs_cons, e_svs_nil, e_sv_ife, e_sv_ret, e_sv_retN, e_sv_set, e_sv_setIx, e_sv_setLc, e_sv_app, e_sv_ex, e_sv_loop, e_sv_pass, e_ev_var, e_ev_lit, e_ev_glb, e_ev_gix, e_ev_bin, e_ev_neg, e_ev_not, w_and, w_or, QT2_bool, QB_bool, e_ev_one, e_ev_cmp, w_cmp2, e_ev_ife, e_ev_tup, e_ev_lst, e_ev_ix, e_ev_sl, e_ev_bi, e_ev_mx2, e_ev_isi, e_ev_call, e_ev_join, e_ev_lc, e_evs_nil, e_evs_cons, e_evo_none, e_evo_some, e_evi_seq, e_evi_rng1, e_evi_rng2, e_evi_enum, e_evi_zip, env0, varD, e_b_nm, e_b_tT, e_b_tL, e_b_nil, e_b_cons, wp_bind, wp_then, wp_ok, wp_truR, wp_finP, QF_nx, QF_rt, QE1_rt, QE1_nx, QT1_bool, List.map, List.length, List.replicate, List.getElem?_cons_zero, List.getElem?_cons_succ, List.set, Nat.reduceSub, List.cons_append, List.nil_append, Nat.reduceAdd, wp_ite, e_mkLT, tru_b, seqI_L, seqI_T, pures_p, pures_nil, Option.map_some, Option.bind_some, if_true, sz_0, sz_1, sz_2, sz_3, sz_4, sz_5, sz_6, sz_7, sz_8, sz_9, sz_10, sz_11, sz_12, sz_13, sz_14, sz_15, sz_16, sz_17, sz_18, sz_19, sz_20, sz_21, sz_22, sz_23, sz_24, sz_25, sz_26, sz_27, sz_28, sz_29, sz_30, sz_31, sz_32, sz_33, sz_34, sz_35, sz_36, sz_37, sz_38, sz_39, sz_40]
    rw [gc_p]
    exact h _ _ _ (.ask h1 h2 n1 n2 o (o + b) hh1 hh2 (by omega) (by omega) (by omega) (by omega) (by omega))
  · split
    · refine take_then (k + 1) (by decide) (by decide) fun n1 i5 u5 c0 c1 => ?_
      try simp only [e_svs_cons, e_svs_nil, e_sv_ife, e_sv_ret, e_sv_retN, e_sv_set, e_sv_setIx, e_sv_setLc, e_sv_app, e_sv_ex, e_sv_loop, e_sv_pass, e_ev_var, e_ev_lit, e_ev_glb, e_ev_gix, e_ev_bin, e_ev_neg, e_ev_not, w_and, w_or, QT2_bool, QB_bool, e_ev_one, e_ev_cmp, w_cmp2, e_ev_ife, e_ev_tup, e_ev_lst, e_ev_ix, e_ev_sl, e_ev_bi, e_ev_mx2, e_ev_isi, e_ev_call, e_ev_join, e_ev_lc, e_evs_nil, e_evs_cons, e_evo_none, e_evo_some, e_evi_seq, e_evi_rng1, e_evi_rng2, e_evi_enum, e_evi_zip, env0, varD, e_b_nm, e_b_tT, e_b_tL, e_b_nil, e_b_cons, wp_bind, wp_then, wp_ok, wp_truR, wp_finP, QF_nx, QF_rt, QE1_rt, QE1_nx, QT1_bool, List.map, List.length, List.replicate, List.getElem?_cons_zero, List.getElem?_cons_succ, List.set, Nat.reduceSub, List.cons_append, List.nil_append, Nat.reduceAdd, wp_ite, e_mkLT, tru_b, seqI_L, seqI_T, pures_p, pures_nil, Option.map_some, Option.bind_some, if_true, sz_0, sz_1, sz_2, sz_3, sz_4, sz_5, sz_6, sz_7, sz_8, sz_9, sz_10, sz_11, sz_12, sz_13, sz_14, sz_15, sz_16, sz_17, sz_18, sz_19, sz_20, sz_21, sz_22, sz_23, sz_24, sz_25, sz_26, sz_27, sz_28, sz_29, sz_30, sz_31, sz_32, sz_33, sz_34, sz_35, sz_36, sz_37, sz_38, sz_39, sz_40]
      rw [gc_p]
      exact h _ _ _ (.job h1 n1 o (o + b) hh1 (by omega) (by omega) (by omega) (by omega))
    · refine take_then (k + 1) (by decide) (by decide) fun n1 i5 u5 c0 c1 => ?_
      refine take_then (k + 1) (by decide) (by decide) fun n2 i6 u6 d0 d1 => ?_
      try simp only [e_svs_cons, e_svs_nil, e_sv_ife, e_sv_ret, e_sv_retN, e_sv_set, e_sv_setIx, e_sv_setLc, e_sv_app, e_sv_ex, e_sv_loop, e_sv_pass, e_ev_var, e_ev_lit, e_ev_glb, e_ev_gix, e_ev_bin, e_ev_neg, e_ev_not, w_and, w_or, QT2_bool, QB_bool, e_ev_one, e_ev_cmp, w_cmp2, e_ev_ife, e_ev_tup, e_ev_lst, e_ev_ix, e_ev_sl, e_ev_bi, e_ev_mx2, e_ev_isi, e_ev_call, e_ev_join, e_ev_lc, e_evs_nil, e_evs_cons, e_evo_none, e_evo_some, e_evi_seq, e_evi_rng1, e_evi_rng2, e_evi_enum, e_evi_zip, env0, varD, e_b_nm, e_b_tT, e_b_tL, e_b_nil, e_b_cons, wp_bind, wp_then, wp_ok, wp_truR, wp_finP, QF_nx, QF_rt, QE1_rt, QE1_nx, QT1_bool, List.map, List.length, List.replicate, List.getElem?_cons_zero, List.getElem?_cons_succ, List.set, Nat.reduceSub, List.cons_append, List.nil_append, Nat.reduceAdd, wp_ite, e_mkLT, tru_b, seqI_L, seqI_T, pures_p, pures_nil, Option.map_some, Option.bind_some, if_true, sz_0, sz_1, sz_2, sz_3, sz_4, sz_5, sz_6, sz_7, sz_8, sz_9, sz_10, sz_11, sz_12, sz_13, sz_14, sz_15, sz_16, sz_17, sz_18, sz_19, sz_20, sz_21, sz_22, sz_23, sz_24, sz_25, sz_26, sz_27, sz_28, sz_29, sz_30, sz_31, sz_32, sz_33, sz_34, sz_35, sz_36, sz_37, sz_38, sz_39, sz_40]
      rw [gc_p]
      exact h _ _ _ (.all h1 n1 n2 hh1 (by omega) (by omega))
end
/-! clashes -/
theorem Row.depth {hs : List Str} {x : PyData} (h : Row hs x) : x.depth ≤ 64 := by
  cases h <;> simp [PyData.depth, PyData.depthAll]
def cl (x y : PyData) : Bool :=
  !(PyData.eqv x y) &&
  match x, y with
  | .tuple [_, .str h, .int n, _, _, .int o, _], .tuple [_, .str h', .int n', _, _, .int o', _] => h == h' && (n == n' || (decide (n < n') && decide (o' < o)) || (decide (n' < n) && decide (o < o')))
  | .tuple [_, .str h, .int n, .int o, _], .tuple [_, .str h', .int n', .int o', _] => h == h' && (n == n' || (decide (n < n') && decide (o' < o)) || (decide (n' < n) && decide (o < o')))
  | .tuple [_, .str h, .int _, .int _], .tuple [_, .str h', .int _, .int _] => h == h'
  | .tuple [_, .str h, .int c, .int c'], .tuple [_, .str h', .int n, .int m, _, _, _] => h == h' && (decide (c ≤ n) || decide (c' ≤ m))
  | .tuple [_, .str h', .int n, .int m, _, _, _], .tuple [_, .str h, .int c, .int c'] => h' == h && (decide (c ≤ n) || decide (c' ≤ m))
  | .tuple [_, .str h, .int _, .int c'], .tuple [_, .str h', .int n, .int _, .int _] => h == h' && decide (c' ≤ n)
  | .tuple [_, .str h', .int n, .int _, .int _], .tuple [_, .str h, .int _, .int c'] => h' == h && decide (c' ≤ n)
  | .tuple [_, .str h, .int n, .int o, .int b], .tuple [_, .str h', .int _, .int m, _, .int o', .int b'] => h == h' && ((decide (n ≤ m) && decide (o' ≤ o)) || (n == m && decide (b ≤ b')))
  | .tuple [_, .str h', .int _, .int m, _, .int o', .int b'], .tuple [_, .str h, .int n, .int o, .int b] => h' == h && ((decide (n ≤ m) && decide (o' ≤ o)) || (n == m && decide (b ≤ b')))
  | _, _ => false
theorem w_aj : (("ask" : Str) == ("job" : Str)) = false := by decide +kernel
theorem w_al : (("ask" : Str) == ("all" : Str)) = false := by decide +kernel
theorem w_ja : (("job" : Str) == ("ask" : Str)) = false := by decide +kernel
theorem w_jl : (("job" : Str) == ("all" : Str)) = false := by decide +kernel
theorem w_la : (("all" : Str) == ("ask" : Str)) = false := by decide +kernel
theorem w_lj : (("all" : Str) == ("job" : Str)) = false := by decide +kernel
theorem w_self (x : Str) : (x == x) = true := beq_self_eq_true x
theorem q_like (k : Nat) (a b : D) (st : Store) : semK defs (k + 1) 0 [a, b] st = finR st.length (svs (semK defs k) b0 [some a, some b, none] st) := sem_eq (d := d0) rfl rfl
theorem q_bey (k : Nat) (a b : D) (st : Store) : semK defs (k + 1) 1 [a, b] st = finR st.length (svs (semK defs k) b1 [some a, some b] st) := sem_eq (d := d1) rfl rfl
theorem q_ja (k : Nat) (a b : D) (st : Store) : semK defs (k + 1) 2 [a, b] st = finR st.length (svs (semK defs k) b2 [some a, some b] st) := sem_eq (d := d2) rfl rfl
theorem gix_ask (st : Store) : gixD [("ask", .int 5), ("job", .int 3)] (.p (.str "ask")) st = .ok (.p (.int 5)) st := e_gix _ _ _ (by rw [List.lookup_cons, w_self]) st
theorem gix_job (st : Store) : gixD [("ask", .int 5), ("job", .int 3)] (.p (.str "job")) st = .ok (.p (.int 3)) st := e_gix _ _ _ (by rw [List.lookup_cons, w_ja, List.lookup_cons, w_self]) st
theorem dc_ok (k : Nat) {hs hs' : List Str} {x y : PyData} (hx : Row hs x) (hy : Row hs' y) (st : Store) : wp (semK defs (k + 2) 3 [.p x, .p y] st) fun d st' => d = .p (.bool (cl x y)) ∧ st' = st := by
  refine wp_sem (d := d3) rfl rfl ?_
  have hd : min x.depth y.depth ≤ 64 := Nat.le_trans (Nat.min_le_left _ _) hx.depth
  simp only [d3, b3, e_svs_cons, e_svs_nil, e_sv_ife, e_sv_ret, e_sv_retN, e_sv_set, e_sv_setIx, e_sv_setLc, e_sv_app, e_sv_ex, e_sv_loop, e_sv_pass, e_ev_var, e_ev_lit, e_ev_glb, e_ev_gix, e_ev_bin, e_ev_neg, e_ev_not, w_and, w_or, QT2_bool, QB_bool, e_ev_one, e_ev_cmp, w_cmp2, e_ev_ife, e_ev_tup, e_ev_lst, e_ev_ix, e_ev_sl, e_ev_bi, e_ev_mx2, e_ev_isi, e_ev_call, e_ev_join, e_ev_lc, e_evs_nil, e_evs_cons, e_evo_none, e_evo_some, e_evi_seq, e_evi_rng1, e_evi_rng2, e_evi_enum, e_evi_zip, env0, varD, e_b_nm, e_b_tT, e_b_tL, e_b_nil, e_b_cons, wp_bind, wp_then, wp_ok, wp_truR, wp_finP, QF_nx, QF_rt, QE1_rt, QE1_nx, QT1_bool, List.map, List.length, List.replicate, List.getElem?_cons_zero, List.getElem?_cons_succ, List.set, Nat.reduceSub, List.cons_append, List.nil_append, Nat.reduceAdd, wp_ite, e_mkLT, tru_b, seqI_L, seqI_T, pures_p, pures_nil, Option.map_some, Option.bind_some, if_true, sz_0, sz_1, sz_2, sz_3, sz_4, sz_5, sz_6, sz_7, sz_8, sz_9, sz_10, sz_11, sz_12, sz_13, sz_14, sz_15, sz_16, sz_17, sz_18, sz_19, sz_20, sz_21, sz_22, sz_23, sz_24, sz_25, sz_26, sz_27, sz_28, sz_29, sz_30, sz_31, sz_32, sz_33, sz_34, sz_35, sz_36, sz_37, sz_38, sz_39, sz_40, e_eqX hd, cl]
  generalize PyData.eqv x y = e
  clear hd
  cases e
  case true => simp [gc_st]
  cases hx <;> cases hy <;>
    simp only [e_ixT, atI_0, atI_1, atI_2, atI_3, atI_4, atI_5, atI_6, e_eqs, e_nes, w_self, w_al, w_aj, w_ja, w_jl, w_la, w_lj, e_eqi, q_like, b0, q_bey, b1, q_ja, b2, wp_fin, gix_ask, gix_job, e_lt, e_gt, e_le, e_ge, gc_st, e_svs_cons, e_svs_nil, e_sv_ife, e_sv_ret, e_sv_retN, e_sv_set, e_sv_setIx, e_sv_setLc, e_sv_app, e_sv_ex, e_sv_loop, e_sv_pass, e_ev_var, e_ev_lit, e_ev_glb, e_ev_gix, e_ev_bin, e_ev_neg, e_ev_not, w_and, w_or, QT2_bool, QB_bool, e_ev_one, e_ev_cmp, w_cmp2, e_ev_ife, e_ev_tup, e_ev_lst, e_ev_ix, e_ev_sl, e_ev_bi, e_ev_mx2, e_ev_isi, e_ev_call, e_ev_join, e_ev_lc, e_evs_nil, e_evs_cons, e_evo_none, e_evo_some, e_evi_seq, e_evi_rng1, e_evi_rng2, e_evi_enum, e_evi_zip, env0, varD, e_b_nm, e_b_tT, e_b_tL, e_b_nil, e_b_cons, wp_bind, wp_then, wp_ok, wp_truR, wp_finP, QF_nx, QF_rt, QE1_rt, QE1_nx, QT1_bool, List.map, List.length, List.replicate, List.getElem?_cons_zero, List.getElem?_cons_succ, List.set, Nat.reduceSub, List.cons_append, List.nil_append, Nat.reduceAdd, wp_ite, e_mkLT, tru_b, seqI_L, seqI_T, pures_p, pures_nil, Option.map_some, Option.bind_some, if_true, sz_0, sz_1, sz_2, sz_3, sz_4, sz_5, sz_6, sz_7, sz_8, sz_9, sz_10, sz_11, sz_12, sz_13, sz_14, sz_15, sz_16, sz_17, sz_18, sz_19, sz_20, sz_21, sz_22, sz_23, sz_24, sz_25, sz_26, sz_27, sz_28, sz_29, sz_30, sz_31, sz_32, sz_33, sz_34, sz_35, sz_36, sz_37, sz_38, sz_39, sz_40] <;>
    (repeat' split) <;> simp_all <;> first | (rw [Bool.eq_iff_iff]; simp; done) | (rw [Bool.eq_iff_iff]; simp; omega) | omega
theorem lt_w (a b : Str) (r r' : List PyData) (hne : (a == b) = false) : PySem.W.dataLt (.tuple (.str a :: r)) (.tuple (.str b :: r')) = decide (a.cps.toList < b.cps.toList) := by
  rw [PySem.W.dataLt_tuple, PySem.W.dataLt_cons (by rfl)]
  have : PyData.eqv (.str a) (.str b) = false := by simp only [PyData.eqv]; exact hne
  rw [this, if_neg (by simp), PySem.W.dataLt_str]
theorem in2 (z a b : Str) (st : Store) : cmpD .In (.p (.str z)) (.p (.tuple [.str a, .str b])) st = .ok (.p (.bool (a == z || b == z))) st := by
  unfold cmpD inD
  simp only [toP_p]
  rw [if_pos (by simp [PyData.depth])]
  simp [PyData.eqv]
theorem e_intB (b : Bool) (st : Store) : bi1D .int (.p (.bool b)) st = .ok (.p (.int (if b then 1 else 0))) st := nr rfl
theorem neg_mul' (a b : Int) : decide (a * b < 0) = ((decide (a < 0) && decide (0 < b)) || (decide (0 < a) && decide (b < 0))) := by
  rw [Bool.eq_iff_iff]
  simp only [decide_eq_true_eq, Bool.or_eq_true, Bool.and_eq_true]
  constructor
  · intro h
    rcases Int.lt_trichotomy a 0 with ha | ha | ha
    · rcases Int.lt_trichotomy b 0 with hb | hb | hb
      · have := Int.mul_pos_of_neg_of_neg ha hb; omega
      · subst hb; simp at h
      · exact .inl ⟨ha, hb⟩
    · subst ha; simp at h
    · rcases Int.lt_trichotomy b 0 with hb | hb | hb
      · exact .inr ⟨ha, hb⟩
      · subst hb; simp at h
      · have := Int.mul_pos ha hb; omega
  · rintro (⟨ha, hb⟩ | ⟨ha, hb⟩)
    · exact Int.mul_neg_of_neg_of_pos ha hb
    · exact Int.mul_neg_of_pos_of_neg ha hb
theorem ww_allall_allask : (("allall" : Str) == ("allask" : Str)) = false := by decide +kernel
theorem ww_allall_alljob : (("allall" : Str) == ("alljob" : Str)) = false := by decide +kernel
theorem ww_allall_askask : (("allall" : Str) == ("askask" : Str)) = false := by decide +kernel
theorem ww_allall_askjob : (("allall" : Str) == ("askjob" : Str)) = false := by decide +kernel
theorem ww_allall_jobjob : (("allall" : Str) == ("jobjob" : Str)) = false := by decide +kernel
theorem ww_allask_allall : (("allask" : Str) == ("allall" : Str)) = false := by decide +kernel
theorem ww_allask_alljob : (("allask" : Str) == ("alljob" : Str)) = false := by decide +kernel
theorem ww_allask_askask : (("allask" : Str) == ("askask" : Str)) = false := by decide +kernel
theorem ww_allask_askjob : (("allask" : Str) == ("askjob" : Str)) = false := by decide +kernel
theorem ww_allask_jobjob : (("allask" : Str) == ("jobjob" : Str)) = false := by decide +kernel
theorem ww_alljob_allall : (("alljob" : Str) == ("allall" : Str)) = false := by decide +kernel
theorem ww_alljob_allask : (("alljob" : Str) == ("allask" : Str)) = false := by decide +kernel
theorem ww_alljob_askask : (("alljob" : Str) == ("askask" : Str)) = false := by decide +kernel
theorem ww_alljob_askjob : (("alljob" : Str) == ("askjob" : Str)) = false := by decide +kernel
theorem ww_alljob_jobjob : (("alljob" : Str) == ("jobjob" : Str)) = false := by decide +kernel
theorem ww_askask_allall : (("askask" : Str) == ("allall" : Str)) = false := by decide +kernel
theorem ww_askask_allask : (("askask" : Str) == ("allask" : Str)) = false := by decide +kernel
theorem ww_askask_alljob : (("askask" : Str) == ("alljob" : Str)) = false := by decide +kernel
theorem ww_askask_askjob : (("askask" : Str) == ("askjob" : Str)) = false := by decide +kernel
theorem ww_askask_jobjob : (("askask" : Str) == ("jobjob" : Str)) = false := by decide +kernel
theorem ww_askjob_allall : (("askjob" : Str) == ("allall" : Str)) = false := by decide +kernel
theorem ww_askjob_allask : (("askjob" : Str) == ("allask" : Str)) = false := by decide +kernel
theorem ww_askjob_alljob : (("askjob" : Str) == ("alljob" : Str)) = false := by decide +kernel
theorem ww_askjob_askask : (("askjob" : Str) == ("askask" : Str)) = false := by decide +kernel
theorem ww_askjob_jobjob : (("askjob" : Str) == ("jobjob" : Str)) = false := by decide +kernel
theorem ww_jobjob_allall : (("jobjob" : Str) == ("allall" : Str)) = false := by decide +kernel
theorem ww_jobjob_allask : (("jobjob" : Str) == ("allask" : Str)) = false := by decide +kernel
theorem ww_jobjob_alljob : (("jobjob" : Str) == ("alljob" : Str)) = false := by decide +kernel
theorem ww_jobjob_askask : (("jobjob" : Str) == ("askask" : Str)) = false := by decide +kernel
theorem ww_jobjob_askjob : (("jobjob" : Str) == ("askjob" : Str)) = false := by decide +kernel
theorem wc_all_all (st : Store) : binD .Add (.p (.str "all")) (.p (.str "all")) st = .ok (.p (.str "allall")) st := by rw [e_addS _ _ _ (by decide +kernel), show ("all" : Str) ++ ("all" : Str) = "allall" by decide +kernel]
theorem wc_all_ask (st : Store) : binD .Add (.p (.str "all")) (.p (.str "ask")) st = .ok (.p (.str "allask")) st := by rw [e_addS _ _ _ (by decide +kernel), show ("all" : Str) ++ ("ask" : Str) = "allask" by decide +kernel]
theorem wc_all_job (st : Store) : binD .Add (.p (.str "all")) (.p (.str "job")) st = .ok (.p (.str "alljob")) st := by rw [e_addS _ _ _ (by decide +kernel), show ("all" : Str) ++ ("job" : Str) = "alljob" by decide +kernel]
theorem wc_ask_ask (st : Store) : binD .Add (.p (.str "ask")) (.p (.str "ask")) st = .ok (.p (.str "askask")) st := by rw [e_addS _ _ _ (by decide +kernel), show ("ask" : Str) ++ ("ask" : Str) = "askask" by decide +kernel]
theorem wc_ask_job (st : Store) : binD .Add (.p (.str "ask")) (.p (.str "job")) st = .ok (.p (.str "askjob")) st := by rw [e_addS _ _ _ (by decide +kernel), show ("ask" : Str) ++ ("job" : Str) = "askjob" by decide +kernel]
theorem wc_job_job (st : Store) : binD .Add (.p (.str "job")) (.p (.str "job")) st = .ok (.p (.str "jobjob")) st := by rw [e_addS _ _ _ (by decide +kernel), show ("job" : Str) ++ ("job" : Str) = "jobjob" by decide +kernel]
theorem lt_all_ask (r r' : List PyData) : PySem.W.dataLt (.tuple (.str "all" :: r)) (.tuple (.str "ask" :: r')) = true := by rw [lt_w _ _ _ _ (by decide +kernel)]; decide +kernel
theorem lt_all_job (r r' : List PyData) : PySem.W.dataLt (.tuple (.str "all" :: r)) (.tuple (.str "job" :: r')) = true := by rw [lt_w _ _ _ _ (by decide +kernel)]; decide +kernel
theorem lt_ask_job (r r' : List PyData) : PySem.W.dataLt (.tuple (.str "ask" :: r)) (.tuple (.str "job" :: r')) = true := by rw [lt_w _ _ _ _ (by decide +kernel)]; decide +kernel
theorem lt_ask_all (r r' : List PyData) : PySem.W.dataLt (.tuple (.str "ask" :: r)) (.tuple (.str "all" :: r')) = false := by rw [lt_w _ _ _ _ (by decide +kernel)]; decide +kernel
theorem lt_job_all (r r' : List PyData) : PySem.W.dataLt (.tuple (.str "job" :: r)) (.tuple (.str "all" :: r')) = false := by rw [lt_w _ _ _ _ (by decide +kernel)]; decide +kernel
theorem lt_job_ask (r r' : List PyData) : PySem.W.dataLt (.tuple (.str "job" :: r)) (.tuple (.str "ask" :: r')) = false := by rw [lt_w _ _ _ _ (by decide +kernel)]; decide +kernel
theorem Row.mix {hs hs' : List Str} {x y : PyData} (hx : Row hs x) (hy : Row hs' y) : mixB [x, y] = true := by
  cases hx <;> cases hy <;> simp [mixB, lexOk, PySem.W.alike, PyData.plain, PyData.plainAll, PyData.depth, PyData.depthAll, PyData.eqv, sz_2, w_aj, w_al, w_ja, w_jl, w_la, w_lj]
theorem ld_ok (k : Nat) {hs hs' : List Str} {x y : PyData} (hx : Row hs x) (hy : Row hs' y) (st : Store) : wp (semK defs (k + 1) 10 [.p x, .p y] st) fun d st' => d = .p (.bool (cl x y)) ∧ st' = st := by
  refine wp_sem (d := d10) rfl rfl ?_
  have hd : min x.depth y.depth ≤ 64 := Nat.le_trans (Nat.min_le_left _ _) hx.depth
  have hm := hx.mix hy
  simp only [d10, b10, e_svs_cons, e_svs_nil, e_sv_ife, e_sv_ret, e_sv_retN, e_sv_set, e_sv_setIx, e_sv_setLc, e_sv_app, e_sv_ex, e_sv_loop, e_sv_pass, e_ev_var, e_ev_lit, e_ev_glb, e_ev_gix, e_ev_bin, e_ev_neg, e_ev_not, w_and, w_or, QT2_bool, QB_bool, e_ev_one, e_ev_cmp, w_cmp2, e_ev_ife, e_ev_tup, e_ev_lst, e_ev_ix, e_ev_sl, e_ev_bi, e_ev_mx2, e_ev_isi, e_ev_call, e_ev_join, e_ev_lc, e_evs_nil, e_evs_cons, e_evo_none, e_evo_some, e_evi_seq, e_evi_rng1, e_evi_rng2, e_evi_enum, e_evi_zip, env0, varD, e_b_nm, e_b_tT, e_b_tL, e_b_nil, e_b_cons, wp_bind, wp_then, wp_ok, wp_truR, wp_finP, QF_nx, QF_rt, QE1_rt, QE1_nx, QT1_bool, List.map, List.length, List.replicate, List.getElem?_cons_zero, List.getElem?_cons_succ, List.set, Nat.reduceSub, List.cons_append, List.nil_append, Nat.reduceAdd, wp_ite, e_mkLT, tru_b, seqI_L, seqI_T, pures_p, pures_nil, Option.map_some, Option.bind_some, if_true, sz_0, sz_1, sz_2, sz_3, sz_4, sz_5, sz_6, sz_7, sz_8, sz_9, sz_10, sz_11, sz_12, sz_13, sz_14, sz_15, sz_16, sz_17, sz_18, sz_19, sz_20, sz_21, sz_22, sz_23, sz_24, sz_25, sz_26, sz_27, sz_28, sz_29, sz_30, sz_31, sz_32, sz_33, sz_34, sz_35, sz_36, sz_37, sz_38, sz_39, sz_40, e_eqX hd, e_mkL2, sort_two x y hm, cl]
  generalize PyData.eqv x y = e
  clear hd hm
  obtain ⟨b, hb⟩ : ∃ b, PySem.W.dataLt y x = b := ⟨_, rfl⟩
  rw [hb]
  cases b <;> cases hx <;> cases hy <;>
    first
    | (exfalso; simp only [lt_all_ask, lt_all_job, lt_ask_job, lt_ask_all, lt_job_all, lt_job_ask, Bool.false_eq_true, reduceCtorEq] at hb; done)
    | (clear hb
       simp only [e_svs_cons, e_svs_nil, e_sv_ife, e_sv_ret, e_sv_retN, e_sv_set, e_sv_setIx, e_sv_setLc, e_sv_app, e_sv_ex, e_sv_loop, e_sv_pass, e_ev_var, e_ev_lit, e_ev_glb, e_ev_gix, e_ev_bin, e_ev_neg, e_ev_not, w_and, w_or, QT2_bool, QB_bool, e_ev_one, e_ev_cmp, w_cmp2, e_ev_ife, e_ev_tup, e_ev_lst, e_ev_ix, e_ev_sl, e_ev_bi, e_ev_mx2, e_ev_isi, e_ev_call, e_ev_join, e_ev_lc, e_evs_nil, e_evs_cons, e_evo_none, e_evo_some, e_evi_seq, e_evi_rng1, e_evi_rng2, e_evi_enum, e_evi_zip, env0, varD, e_b_nm, e_b_tT, e_b_tL, e_b_nil, e_b_cons, wp_bind, wp_then, wp_ok, wp_truR, wp_finP, QF_nx, QF_rt, QE1_rt, QE1_nx, QT1_bool, List.map, List.length, List.replicate, List.getElem?_cons_zero, List.getElem?_cons_succ, List.set, Nat.reduceSub, List.cons_append, List.nil_append, Nat.reduceAdd, wp_ite, e_mkLT, tru_b, seqI_L, seqI_T, pures_p, pures_nil, Option.map_some, Option.bind_some, if_true, sz_0, sz_1, sz_2, sz_3, sz_4, sz_5, sz_6, sz_7, sz_8, sz_9, sz_10, sz_11, sz_12, sz_13, sz_14, sz_15, sz_16, sz_17, sz_18, sz_19, sz_20, sz_21, sz_22, sz_23, sz_24, sz_25, sz_26, sz_27, sz_28, sz_29, sz_30, sz_31, sz_32, sz_33, sz_34, sz_35, sz_36, sz_37, sz_38, sz_39, sz_40, Bool.false_eq_true, if_false, e_ixT, e_ixL, atI_0, atI_1, atI_2, atI_3, atI_4, atI_5, atI_6, e_eqs, e_nes, e_eqi, in2, e_intB, ww_allall_allask, ww_allall_alljob, ww_allall_askask, ww_allall_askjob, ww_allall_jobjob, ww_allask_allall, ww_allask_alljob, ww_allask_askask, ww_allask_askjob, ww_allask_jobjob, ww_alljob_allall, ww_alljob_allask, ww_alljob_askask, ww_alljob_askjob, ww_alljob_jobjob, ww_askask_allall, ww_askask_allask, ww_askask_alljob, ww_askask_askjob, ww_askask_jobjob, ww_askjob_allall, ww_askjob_allask, ww_askjob_alljob, ww_askjob_askask, ww_askjob_jobjob, ww_jobjob_allall, ww_jobjob_allask, ww_jobjob_alljob, ww_jobjob_askask, ww_jobjob_askjob, wc_all_all, wc_all_ask, wc_all_job, wc_ask_ask, wc_ask_job, wc_job_job, w_self, w_aj, w_al, w_ja, w_jl, w_la, w_lj, e_lt, e_gt, e_le, e_ge, e_sub, e_mul, e_mkL2, gc_st, Bool.or_false, Bool.or_true, Bool.false_or, Bool.true_or, neg_mul'] 
       split
       · rename_i hc
         try rw [if_pos hc]
         simp at hc
         simp [hc]
       · rename_i hc
         simp at hc
         subst hc
         cases e
         · try simp only [Bool.false_eq_true, if_false]
           (repeat' split) <;> simp_all [mulOk] <;> first | (rw [Bool.eq_iff_iff]; simp; done) | (rw [Bool.eq_iff_iff]; simp; omega) | omega
         · simp)
theorem cl_comm {hs hs' : List Str} {x y : PyData} (hx : Row hs x) (hy : Row hs' y) : cl x y = cl y x := by
  unfold cl
  rw [PySem.W.eqv_comm y x]
  generalize PyData.eqv x y = e
  cases hx <;> cases hy <;> simp only <;> (congr 1) <;> first | exact BEq.comm | (congr 1 <;> first | exact BEq.comm | (rw [Bool.eq_iff_iff]; simp; omega))
theorem right_ok (k : Nat) {hs : List Str} {x y : PyData} (hx : Row hs x) (hy : Row hs y) (st : Store) {Q : D → Store → Prop} (h : Q (.p (.bool true)) st) : wp (semK defs (k + 3) 15 [.p x, .p y] st) Q := by
  refine wp_sem (d := d15) rfl rfl ?_
  simp only [d15, b15, e_svs_cons, e_svs_nil, e_sv_ife, e_sv_ret, e_sv_retN, e_sv_set, e_sv_setIx, e_sv_setLc, e_sv_app, e_sv_ex, e_sv_loop, e_sv_pass, e_ev_var, e_ev_lit, e_ev_glb, e_ev_gix, e_ev_bin, e_ev_neg, e_ev_not, w_and, w_or, QT2_bool, QB_bool, e_ev_one, e_ev_cmp, w_cmp2, e_ev_ife, e_ev_tup, e_ev_lst, e_ev_ix, e_ev_sl, e_ev_bi, e_ev_mx2, e_ev_isi, e_ev_call, e_ev_join, e_ev_lc, e_evs_nil, e_evs_cons, e_evo_none, e_evo_some, e_evi_seq, e_evi_rng1, e_evi_rng2, e_evi_enum, e_evi_zip, env0, varD, e_b_nm, e_b_tT, e_b_tL, e_b_nil, e_b_cons, wp_bind, wp_then, wp_ok, wp_truR, wp_finP, QF_nx, QF_rt, QE1_rt, QE1_nx, QT1_bool, List.map, List.length, List.replicate, List.getElem?_cons_zero, List.getElem?_cons_succ, List.set, Nat.reduceSub, List.cons_append, List.nil_append, Nat.reduceAdd, wp_ite, e_mkLT, tru_b, seqI_L, seqI_T, pures_p, pures_nil, Option.map_some, Option.bind_some, if_true, sz_0, sz_1, sz_2, sz_3, sz_4, sz_5, sz_6, sz_7, sz_8, sz_9, sz_10, sz_11, sz_12, sz_13, sz_14, sz_15, sz_16, sz_17, sz_18, sz_19, sz_20, sz_21, sz_22, sz_23, sz_24, sz_25, sz_26, sz_27, sz_28, sz_29, sz_30, sz_31, sz_32, sz_33, sz_34, sz_35, sz_36, sz_37, sz_38, sz_39, sz_40]
  refine wp_mono (ld_ok (k + 1) hx hy st) ?_
  rintro _ _ ⟨rfl, rfl⟩
  refine wp_mono (dc_ok k hx hy _) ?_
  rintro _ _ ⟨rfl, rfl⟩
  refine wp_mono (dc_ok k hy hx _) ?_
  rintro _ _ ⟨rfl, rfl⟩
  rw [cl_comm hy hx]
  simp only [e_mkL2, e_svs_cons, e_svs_nil, e_sv_ife, e_sv_ret, e_sv_retN, e_sv_set, e_sv_setIx, e_sv_setLc, e_sv_app, e_sv_ex, e_sv_loop, e_sv_pass, e_ev_var, e_ev_lit, e_ev_glb, e_ev_gix, e_ev_bin, e_ev_neg, e_ev_not, w_and, w_or, QT2_bool, QB_bool, e_ev_one, e_ev_cmp, w_cmp2, e_ev_ife, e_ev_tup, e_ev_lst, e_ev_ix, e_ev_sl, e_ev_bi, e_ev_mx2, e_ev_isi, e_ev_call, e_ev_join, e_ev_lc, e_evs_nil, e_evs_cons, e_evo_none, e_evo_some, e_evi_seq, e_evi_rng1, e_evi_rng2, e_evi_enum, e_evi_zip, env0, varD, e_b_nm, e_b_tT, e_b_tL, e_b_nil, e_b_cons, wp_bind, wp_then, wp_ok, wp_truR, wp_finP, QF_nx, QF_rt, QE1_rt, QE1_nx, QT1_bool, List.map, List.length, List.replicate, List.getElem?_cons_zero, List.getElem?_cons_succ, List.set, Nat.reduceSub, List.cons_append, List.nil_append, Nat.reduceAdd, wp_ite, e_mkLT, tru_b, seqI_L, seqI_T, pures_p, pures_nil, Option.map_some, Option.bind_some, if_true, sz_0, sz_1, sz_2, sz_3, sz_4, sz_5, sz_6, sz_7, sz_8, sz_9, sz_10, sz_11, sz_12, sz_13, sz_14, sz_15, sz_16, sz_17, sz_18, sz_19, sz_20, sz_21, sz_22, sz_23, sz_24, sz_25, sz_26, sz_27, sz_28, sz_29, sz_30, sz_31, sz_32, sz_33, sz_34, sz_35, sz_36, sz_37, sz_38, sz_39, sz_40]
  refine wp_for_cons trivial rfl ?_
  generalize cl x y = c
  simp only [e_svs_cons, e_svs_nil, e_sv_ife, e_sv_ret, e_sv_retN, e_sv_set, e_sv_setIx, e_sv_setLc, e_sv_app, e_sv_ex, e_sv_loop, e_sv_pass, e_ev_var, e_ev_lit, e_ev_glb, e_ev_gix, e_ev_bin, e_ev_neg, e_ev_not, w_and, w_or, QT2_bool, QB_bool, e_ev_one, e_ev_cmp, w_cmp2, e_ev_ife, e_ev_tup, e_ev_lst, e_ev_ix, e_ev_sl, e_ev_bi, e_ev_mx2, e_ev_isi, e_ev_call, e_ev_join, e_ev_lc, e_evs_nil, e_evs_cons, e_evo_none, e_evo_some, e_evi_seq, e_evi_rng1, e_evi_rng2, e_evi_enum, e_evi_zip, env0, varD, e_b_nm, e_b_tT, e_b_tL, e_b_nil, e_b_cons, wp_bind, wp_then, wp_ok, wp_truR, wp_finP, QF_nx, QF_rt, QE1_rt, QE1_nx, QT1_bool, List.map, List.length, List.replicate, List.getElem?_cons_zero, List.getElem?_cons_succ, List.set, Nat.reduceSub, List.cons_append, List.nil_append, Nat.reduceAdd, wp_ite, e_mkLT, tru_b, seqI_L, seqI_T, pures_p, pures_nil, Option.map_some, Option.bind_some, if_true, sz_0, sz_1, sz_2, sz_3, sz_4, sz_5, sz_6, sz_7, sz_8, sz_9, sz_10, sz_11, sz_12, sz_13, sz_14, sz_15, sz_16, sz_17, sz_18, sz_19, sz_20, sz_21, sz_22, sz_23, sz_24, sz_25, sz_26, sz_27, sz_28, sz_29, sz_30, sz_31, sz_32, sz_33, sz_34, sz_35, sz_36, sz_37, sz_38, sz_39, sz_40, e_isi_bb, e_neb, beq_self_eq_true, Bool.not_true, Bool.false_eq_true, if_false, QN_nx]
  refine wp_for_cons trivial rfl ?_
  simp only [e_svs_cons, e_svs_nil, e_sv_ife, e_sv_ret, e_sv_retN, e_sv_set, e_sv_setIx, e_sv_setLc, e_sv_app, e_sv_ex, e_sv_loop, e_sv_pass, e_ev_var, e_ev_lit, e_ev_glb, e_ev_gix, e_ev_bin, e_ev_neg, e_ev_not, w_and, w_or, QT2_bool, QB_bool, e_ev_one, e_ev_cmp, w_cmp2, e_ev_ife, e_ev_tup, e_ev_lst, e_ev_ix, e_ev_sl, e_ev_bi, e_ev_mx2, e_ev_isi, e_ev_call, e_ev_join, e_ev_lc, e_evs_nil, e_evs_cons, e_evo_none, e_evo_some, e_evi_seq, e_evi_rng1, e_evi_rng2, e_evi_enum, e_evi_zip, env0, varD, e_b_nm, e_b_tT, e_b_tL, e_b_nil, e_b_cons, wp_bind, wp_then, wp_ok, wp_truR, wp_finP, QF_nx, QF_rt, QE1_rt, QE1_nx, QT1_bool, List.map, List.length, List.replicate, List.getElem?_cons_zero, List.getElem?_cons_succ, List.set, Nat.reduceSub, List.cons_append, List.nil_append, Nat.reduceAdd, wp_ite, e_mkLT, tru_b, seqI_L, seqI_T, pures_p, pures_nil, Option.map_some, Option.bind_some, if_true, sz_0, sz_1, sz_2, sz_3, sz_4, sz_5, sz_6, sz_7, sz_8, sz_9, sz_10, sz_11, sz_12, sz_13, sz_14, sz_15, sz_16, sz_17, sz_18, sz_19, sz_20, sz_21, sz_22, sz_23, sz_24, sz_25, sz_26, sz_27, sz_28, sz_29, sz_30, sz_31, sz_32, sz_33, sz_34, sz_35, sz_36, sz_37, sz_38, sz_39, sz_40, e_isi_bb, e_neb, beq_self_eq_true, Bool.not_true, Bool.false_eq_true, if_false, QN_nx]
  refine wp_for_nil trivial ?_
  simp only [e_svs_cons, e_svs_nil, e_sv_ife, e_sv_ret, e_sv_retN, e_sv_set, e_sv_setIx, e_sv_setLc, e_sv_app, e_sv_ex, e_sv_loop, e_sv_pass, e_ev_var, e_ev_lit, e_ev_glb, e_ev_gix, e_ev_bin, e_ev_neg, e_ev_not, w_and, w_or, QT2_bool, QB_bool, e_ev_one, e_ev_cmp, w_cmp2, e_ev_ife, e_ev_tup, e_ev_lst, e_ev_ix, e_ev_sl, e_ev_bi, e_ev_mx2, e_ev_isi, e_ev_call, e_ev_join, e_ev_lc, e_evs_nil, e_evs_cons, e_evo_none, e_evo_some, e_evi_seq, e_evi_rng1, e_evi_rng2, e_evi_enum, e_evi_zip, env0, varD, e_b_nm, e_b_tT, e_b_tL, e_b_nil, e_b_cons, wp_bind, wp_then, wp_ok, wp_truR, wp_finP, QF_nx, QF_rt, QE1_rt, QE1_nx, QT1_bool, List.map, List.length, List.replicate, List.getElem?_cons_zero, List.getElem?_cons_succ, List.set, Nat.reduceSub, List.cons_append, List.nil_append, Nat.reduceAdd, wp_ite, e_mkLT, tru_b, seqI_L, seqI_T, pures_p, pures_nil, Option.map_some, Option.bind_some, if_true, sz_0, sz_1, sz_2, sz_3, sz_4, sz_5, sz_6, sz_7, sz_8, sz_9, sz_10, sz_11, sz_12, sz_13, sz_14, sz_15, sz_16, sz_17, sz_18, sz_19, sz_20, sz_21, sz_22, sz_23, sz_24, sz_25, sz_26, sz_27, sz_28, sz_29, sz_30, sz_31, sz_32, sz_33, sz_34, sz_35, sz_36, sz_37, sz_38, sz_39, sz_40, gc_st]
  exact h
theorem e_lcT (n : Nat) (st : Store) : lcEnd true n st = .ok (.c n) st := nr rfl
theorem pen_len2 (cs : List Int) (i : Nat) (v : Int) (ex : Store) : (pen cs i v ++ ex).length = 2 + ex.length := pen_len cs i v ex
theorem run_law (ns : List Int) (hl : ns.length ≤ 63) : ∃ st, semK defs 63 16 [.p (.list (ns.map .int))] [] = .ok (.p (.bool true)) st := by
  have key : wp (semK defs 63 16 [.p (.list (ns.map .int))] []) fun d _ => d = .p (.bool true) := by
    refine wp_sem (k := 62) (d := d16) rfl rfl ?_
    simp only [d16, b16, e_svs_cons, e_svs_nil, e_sv_ife, e_sv_ret, e_sv_retN, e_sv_set, e_sv_setIx, e_sv_setLc, e_sv_app, e_sv_ex, e_sv_loop, e_sv_pass, e_ev_var, e_ev_lit, e_ev_glb, e_ev_gix, e_ev_bin, e_ev_neg, e_ev_not, w_and, w_or, QT2_bool, QB_bool, e_ev_one, e_ev_cmp, w_cmp2, e_ev_ife, e_ev_tup, e_ev_lst, e_ev_ix, e_ev_sl, e_ev_bi, e_ev_mx2, e_ev_isi, e_ev_call, e_ev_join, e_ev_lc, e_evs_nil, e_evs_cons, e_evo_none, e_evo_some, e_evi_seq, e_evi_rng1, e_evi_rng2, e_evi_enum, e_evi_zip, env0, varD, e_b_nm, e_b_tT, e_b_tL, e_b_nil, e_b_cons, wp_bind, wp_then, wp_ok, wp_truR, wp_finP, QF_nx, QF_rt, QE1_rt, QE1_nx, QT1_bool, List.map, List.length, List.replicate, List.getElem?_cons_zero, List.getElem?_cons_succ, List.set, Nat.reduceSub, List.cons_append, List.nil_append, Nat.reduceAdd, wp_ite, e_mkLT, tru_b, seqI_L, seqI_T, pures_p, pures_nil, Option.map_some, Option.bind_some, if_true, sz_0, sz_1, sz_2, sz_3, sz_4, sz_5, sz_6, sz_7, sz_8, sz_9, sz_10, sz_11, sz_12, sz_13, sz_14, sz_15, sz_16, sz_17, sz_18, sz_19, sz_20, sz_21, sz_22, sz_23, sz_24, sz_25, sz_26, sz_27, sz_28, sz_29, sz_30, sz_31, sz_32, sz_33, sz_34, sz_35, sz_36, sz_37, sz_38, sz_39, sz_40]
    refine wp_mono (open_ok 61 ns) ?_
    rintro _ _ ⟨cs, rfl, rfl⟩
    refine wp_mono (town_ok (ex := []) 58 3 (by decide) (by decide) rfl) ?_
    rintro _ _ ⟨hs, gs, i1, u1, T, rfl, rfl⟩
    rw [show (12 : Int) = ((12 : Nat) : Int) from rfl, e_rng0 12 (by decide), wp_ok]
    refine wp_for0 (fun j env st => ∃ (ex : Store) (i : Nat) (u : Int) (x3 x4 x5 x6 x7 : Option D), OkEx ex ∧ st = pen cs i u ++ ex ∧ env = [some (.p (.list (ns.map .int))), some (.c 1), some (.p (townD hs gs)), x3, x4, x5, x6, x7])
      ⟨[], i1, u1, none, none, none, none, none, rfl, rfl, rfl⟩ (fun _ _ _ _ => trivial) (fun j hj env st h => ?_) (fun env st h => ?_)
    · obtain ⟨ex, i, u, x3, x4, x5, x6, x7, hx, rfl, rfl⟩ := h
      refine ⟨_, by rw [List.getElem_map]; rfl, ?_⟩
      simp only [e_svs_cons, e_svs_nil, e_sv_ife, e_sv_ret, e_sv_retN, e_sv_set, e_sv_setIx, e_sv_setLc, e_sv_app, e_sv_ex, e_sv_loop, e_sv_pass, e_ev_var, e_ev_lit, e_ev_glb, e_ev_gix, e_ev_bin, e_ev_neg, e_ev_not, w_and, w_or, QT2_bool, QB_bool, e_ev_one, e_ev_cmp, w_cmp2, e_ev_ife, e_ev_tup, e_ev_lst, e_ev_ix, e_ev_sl, e_ev_bi, e_ev_mx2, e_ev_isi, e_ev_call, e_ev_join, e_ev_lc, e_evs_nil, e_evs_cons, e_evo_none, e_evo_some, e_evi_seq, e_evi_rng1, e_evi_rng2, e_evi_enum, e_evi_zip, env0, varD, e_b_nm, e_b_tT, e_b_tL, e_b_nil, e_b_cons, wp_bind, wp_then, wp_ok, wp_truR, wp_finP, QF_nx, QF_rt, QE1_rt, QE1_nx, QT1_bool, List.map, List.length, List.replicate, List.getElem?_cons_zero, List.getElem?_cons_succ, List.set, Nat.reduceSub, List.cons_append, List.nil_append, Nat.reduceAdd, wp_ite, e_mkLT, tru_b, seqI_L, seqI_T, pures_p, pures_nil, Option.map_some, Option.bind_some, if_true, sz_0, sz_1, sz_2, sz_3, sz_4, sz_5, sz_6, sz_7, sz_8, sz_9, sz_10, sz_11, sz_12, sz_13, sz_14, sz_15, sz_16, sz_17, sz_18, sz_19, sz_20, sz_21, sz_22, sz_23, sz_24, sz_25, sz_26, sz_27, sz_28, sz_29, sz_30, sz_31, sz_32, sz_33, sz_34, sz_35, sz_36, sz_37, sz_38, sz_39, sz_40, show (4 : Int) = ((4 : Nat) : Int) from rfl, e_rng0 4 (by decide), e_evc_none]
      refine wp_mono (lc_core (fun _ x => Row hs x) true (by simp) fun j hj acc i' u' => ?_) ?_
      · refine ⟨_, by rw [List.getElem_map]; rfl, ?_⟩
        rw [e_evc_none, wp_ok, QT1_bool]
        refine ⟨i', u', rfl, fun _ => rfl, fun _ => ?_⟩
        simp only [e_svs_cons, e_svs_nil, e_sv_ife, e_sv_ret, e_sv_retN, e_sv_set, e_sv_setIx, e_sv_setLc, e_sv_app, e_sv_ex, e_sv_loop, e_sv_pass, e_ev_var, e_ev_lit, e_ev_glb, e_ev_gix, e_ev_bin, e_ev_neg, e_ev_not, w_and, w_or, QT2_bool, QB_bool, e_ev_one, e_ev_cmp, w_cmp2, e_ev_ife, e_ev_tup, e_ev_lst, e_ev_ix, e_ev_sl, e_ev_bi, e_ev_mx2, e_ev_isi, e_ev_call, e_ev_join, e_ev_lc, e_evs_nil, e_evs_cons, e_evo_none, e_evo_some, e_evi_seq, e_evi_rng1, e_evi_rng2, e_evi_enum, e_evi_zip, env0, varD, e_b_nm, e_b_tT, e_b_tL, e_b_nil, e_b_cons, wp_bind, wp_then, wp_ok, wp_truR, wp_finP, QF_nx, QF_rt, QE1_rt, QE1_nx, QT1_bool, List.map, List.length, List.replicate, List.getElem?_cons_zero, List.getElem?_cons_succ, List.set, Nat.reduceSub, List.cons_append, List.nil_append, Nat.reduceAdd, wp_ite, e_mkLT, tru_b, seqI_L, seqI_T, pures_p, pures_nil, Option.map_some, Option.bind_some, if_true, sz_0, sz_1, sz_2, sz_3, sz_4, sz_5, sz_6, sz_7, sz_8, sz_9, sz_10, sz_11, sz_12, sz_13, sz_14, sz_15, sz_16, sz_17, sz_18, sz_19, sz_20, sz_21, sz_22, sz_23, sz_24, sz_25, sz_26, sz_27, sz_28, sz_29, sz_30, sz_31, sz_32, sz_33, sz_34, sz_35, sz_36, sz_37, sz_38, sz_39, sz_40, wipeE]
        refine wp_mono (anew_ok 61) ?_
        rintro _ _ ⟨rfl, rfl⟩
        refine few_then 58 T (by decide) fun x i2 u2 hr => ?_
        exact ⟨x, i2, u2, rfl, hr, rfl⟩
      · rintro _ _ ⟨xs, i2, u2, rfl, h1, h2, h3⟩
        rw [e_lcT, wp_ok]
        obtain ⟨hlen, -⟩ := h3 rfl
        simp only [List.length_map, List.length_range] at hlen
        rw [pen_len]
        simp only [pen_last, e_svs_cons, e_svs_nil, e_sv_ife, e_sv_ret, e_sv_retN, e_sv_set, e_sv_setIx, e_sv_setLc, e_sv_app, e_sv_ex, e_sv_loop, e_sv_pass, e_ev_var, e_ev_lit, e_ev_glb, e_ev_gix, e_ev_bin, e_ev_neg, e_ev_not, w_and, w_or, QT2_bool, QB_bool, e_ev_one, e_ev_cmp, w_cmp2, e_ev_ife, e_ev_tup, e_ev_lst, e_ev_ix, e_ev_sl, e_ev_bi, e_ev_mx2, e_ev_isi, e_ev_call, e_ev_join, e_ev_lc, e_evs_nil, e_evs_cons, e_evo_none, e_evo_some, e_evi_seq, e_evi_rng1, e_evi_rng2, e_evi_enum, e_evi_zip, env0, varD, e_b_nm, e_b_tT, e_b_tL, e_b_nil, e_b_cons, wp_bind, wp_then, wp_ok, wp_truR, wp_finP, QF_nx, QF_rt, QE1_rt, QE1_nx, QT1_bool, List.map, List.length, List.replicate, List.getElem?_cons_zero, List.getElem?_cons_succ, List.set, Nat.reduceSub, List.cons_append, List.nil_append, Nat.reduceAdd, wp_ite, e_mkLT, tru_b, seqI_L, seqI_T, pures_p, pures_nil, Option.map_some, Option.bind_some, if_true, sz_0, sz_1, sz_2, sz_3, sz_4, sz_5, sz_6, sz_7, sz_8, sz_9, sz_10, sz_11, sz_12, sz_13, sz_14, sz_15, sz_16, sz_17, sz_18, sz_19, sz_20, sz_21, sz_22, sz_23, sz_24, sz_25, sz_26, sz_27, sz_28, sz_29, sz_30, sz_31, sz_32, sz_33, sz_34, sz_35, sz_36, sz_37, sz_38, sz_39, sz_40]
        refine any_then 58 T (by decide) fun x i3 u3 hr => ?_
        simp only [pen_last, List.length_map, if_pos (show xs.length < SZ from Nat.lt_of_lt_of_le (Nat.lt_succ_self _) (sz_le (by omega))), wp_ok, QF_nx, pen_setLast, e_svs_cons, e_svs_nil, e_sv_ife, e_sv_ret, e_sv_retN, e_sv_set, e_sv_setIx, e_sv_setLc, e_sv_app, e_sv_ex, e_sv_loop, e_sv_pass, e_ev_var, e_ev_lit, e_ev_glb, e_ev_gix, e_ev_bin, e_ev_neg, e_ev_not, w_and, w_or, QT2_bool, QB_bool, e_ev_one, e_ev_cmp, w_cmp2, e_ev_ife, e_ev_tup, e_ev_lst, e_ev_ix, e_ev_sl, e_ev_bi, e_ev_mx2, e_ev_isi, e_ev_call, e_ev_join, e_ev_lc, e_evs_nil, e_evs_cons, e_evo_none, e_evo_some, e_evi_seq, e_evi_rng1, e_evi_rng2, e_evi_enum, e_evi_zip, env0, varD, e_b_nm, e_b_tT, e_b_tL, e_b_nil, e_b_cons, wp_bind, wp_then, wp_ok, wp_truR, wp_finP, QF_nx, QF_rt, QE1_rt, QE1_nx, QT1_bool, List.map, List.length, List.replicate, List.getElem?_cons_zero, List.getElem?_cons_succ, List.set, Nat.reduceSub, List.cons_append, List.nil_append, Nat.reduceAdd, wp_ite, e_mkLT, tru_b, seqI_L, seqI_T, pures_p, pures_nil, Option.map_some, Option.bind_some, if_true, sz_0, sz_1, sz_2, sz_3, sz_4, sz_5, sz_6, sz_7, sz_8, sz_9, sz_10, sz_11, sz_12, sz_13, sz_14, sz_15, sz_16, sz_17, sz_18, sz_19, sz_20, sz_21, sz_22, sz_23, sz_24, sz_25, sz_26, sz_27, sz_28, sz_29, sz_30, sz_31, sz_32, sz_33, sz_34, sz_35, sz_36, sz_37, sz_38, sz_39, sz_40]
        obtain ⟨ys, hys⟩ : ∃ ys, ys = xs ++ [x] := ⟨_, rfl⟩
        have e1 : xs.map D.p ++ [.p x] = ys.map D.p := by rw [hys]; simp
        have hrow : ∀ y ∈ ys, Row hs y := fun y hy => by
          rw [hys] at hy
          rcases List.mem_append.mp hy with hy | hy
          · obtain ⟨_, _, h⟩ := h1 y hy; exact h
          · rw [List.mem_singleton.mp hy]; exact hr
        rw [e1, seqI_C (pen_last _ _ _ _ _), wp_ok]
        refine wp_for0 (fun _ env st => st = pen cs i3 u3 ++ (ex ++ [.lst (ys.map .p)]) ∧ ∃ x5 x6 x7, env = [some (.p (.list (ns.map .int))), some (.c 1), some (.p (townD hs gs)), some (.p (.int (List.range 12)[j])), some (.c (2 + ex.length)), x5, x6, x7])
          ⟨rfl, _, _, _, rfl⟩ (fun _ _ st h => by rw [h.1]; exact pen_last _ _ _ _ _) (fun a ha env st h => ?_) (fun env st h => ?_)
        · obtain ⟨rfl, x5, x6, x7, rfl⟩ := h
          simp only [List.length_map] at ha
          refine ⟨_, by rw [List.getElem_map, List.getElem_map]; rfl, ?_⟩
          simp only [e_svs_cons, e_svs_nil, e_sv_ife, e_sv_ret, e_sv_retN, e_sv_set, e_sv_setIx, e_sv_setLc, e_sv_app, e_sv_ex, e_sv_loop, e_sv_pass, e_ev_var, e_ev_lit, e_ev_glb, e_ev_gix, e_ev_bin, e_ev_neg, e_ev_not, w_and, w_or, QT2_bool, QB_bool, e_ev_one, e_ev_cmp, w_cmp2, e_ev_ife, e_ev_tup, e_ev_lst, e_ev_ix, e_ev_sl, e_ev_bi, e_ev_mx2, e_ev_isi, e_ev_call, e_ev_join, e_ev_lc, e_evs_nil, e_evs_cons, e_evo_none, e_evo_some, e_evi_seq, e_evi_rng1, e_evi_rng2, e_evi_enum, e_evi_zip, env0, varD, e_b_nm, e_b_tT, e_b_tL, e_b_nil, e_b_cons, wp_bind, wp_then, wp_ok, wp_truR, wp_finP, QF_nx, QF_rt, QE1_rt, QE1_nx, QT1_bool, List.map, List.length, List.replicate, List.getElem?_cons_zero, List.getElem?_cons_succ, List.set, Nat.reduceSub, List.cons_append, List.nil_append, Nat.reduceAdd, wp_ite, e_mkLT, tru_b, seqI_L, seqI_T, pures_p, pures_nil, Option.map_some, Option.bind_some, if_true, sz_0, sz_1, sz_2, sz_3, sz_4, sz_5, sz_6, sz_7, sz_8, sz_9, sz_10, sz_11, sz_12, sz_13, sz_14, sz_15, sz_16, sz_17, sz_18, sz_19, sz_20, sz_21, sz_22, sz_23, sz_24, sz_25, sz_26, sz_27, sz_28, sz_29, sz_30, sz_31, sz_32, sz_33, sz_34, sz_35, sz_36, sz_37, sz_38, sz_39, sz_40]
          rw [seqI_C (pen_last _ _ _ _ _), wp_ok]
          refine wp_for0 (fun _ env st => st = pen cs i3 u3 ++ (ex ++ [.lst (ys.map .p)]) ∧ ∃ x6 x7, env = [some (.p (.list (ns.map .int))), some (.c 1), some (.p (townD hs gs)), some (.p (.int (List.range 12)[j])), some (.c (2 + ex.length)), some (.p ys[a]), x6, x7])
            ⟨rfl, _, _, rfl⟩ (fun _ _ st h => by rw [h.1]; exact pen_last _ _ _ _ _) (fun b hb env st h => ?_) (fun env st h => ?_)
          · obtain ⟨rfl, x6, x7, rfl⟩ := h
            simp only [List.length_map] at hb
            refine ⟨_, by rw [List.getElem_map, List.getElem_map]; rfl, ?_⟩
            simp only [e_svs_cons, e_svs_nil, e_sv_ife, e_sv_ret, e_sv_retN, e_sv_set, e_sv_setIx, e_sv_setLc, e_sv_app, e_sv_ex, e_sv_loop, e_sv_pass, e_ev_var, e_ev_lit, e_ev_glb, e_ev_gix, e_ev_bin, e_ev_neg, e_ev_not, w_and, w_or, QT2_bool, QB_bool, e_ev_one, e_ev_cmp, w_cmp2, e_ev_ife, e_ev_tup, e_ev_lst, e_ev_ix, e_ev_sl, e_ev_bi, e_ev_mx2, e_ev_isi, e_ev_call, e_ev_join, e_ev_lc, e_evs_nil, e_evs_cons, e_evo_none, e_evo_some, e_evi_seq, e_evi_rng1, e_evi_rng2, e_evi_enum, e_evi_zip, env0, varD, e_b_nm, e_b_tT, e_b_tL, e_b_nil, e_b_cons, wp_bind, wp_then, wp_ok, wp_truR, wp_finP, QF_nx, QF_rt, QE1_rt, QE1_nx, QT1_bool, List.map, List.length, List.replicate, List.getElem?_cons_zero, List.getElem?_cons_succ, List.set, Nat.reduceSub, List.cons_append, List.nil_append, Nat.reduceAdd, wp_ite, e_mkLT, tru_b, seqI_L, seqI_T, pures_p, pures_nil, Option.map_some, Option.bind_some, if_true, sz_0, sz_1, sz_2, sz_3, sz_4, sz_5, sz_6, sz_7, sz_8, sz_9, sz_10, sz_11, sz_12, sz_13, sz_14, sz_15, sz_16, sz_17, sz_18, sz_19, sz_20, sz_21, sz_22, sz_23, sz_24, sz_25, sz_26, sz_27, sz_28, sz_29, sz_30, sz_31, sz_32, sz_33, sz_34, sz_35, sz_36, sz_37, sz_38, sz_39, sz_40]
            refine right_ok 59 (hrow _ (List.getElem_mem ha)) (hrow _ (List.getElem_mem hb)) _ ?_
            simp only [e_svs_cons, e_svs_nil, e_sv_ife, e_sv_ret, e_sv_retN, e_sv_set, e_sv_setIx, e_sv_setLc, e_sv_app, e_sv_ex, e_sv_loop, e_sv_pass, e_ev_var, e_ev_lit, e_ev_glb, e_ev_gix, e_ev_bin, e_ev_neg, e_ev_not, w_and, w_or, QT2_bool, QB_bool, e_ev_one, e_ev_cmp, w_cmp2, e_ev_ife, e_ev_tup, e_ev_lst, e_ev_ix, e_ev_sl, e_ev_bi, e_ev_mx2, e_ev_isi, e_ev_call, e_ev_join, e_ev_lc, e_evs_nil, e_evs_cons, e_evo_none, e_evo_some, e_evi_seq, e_evi_rng1, e_evi_rng2, e_evi_enum, e_evi_zip, env0, varD, e_b_nm, e_b_tT, e_b_tL, e_b_nil, e_b_cons, wp_bind, wp_then, wp_ok, wp_truR, wp_finP, QF_nx, QF_rt, QE1_rt, QE1_nx, QT1_bool, List.map, List.length, List.replicate, List.getElem?_cons_zero, List.getElem?_cons_succ, List.set, Nat.reduceSub, List.cons_append, List.nil_append, Nat.reduceAdd, wp_ite, e_mkLT, tru_b, seqI_L, seqI_T, pures_p, pures_nil, Option.map_some, Option.bind_some, if_true, sz_0, sz_1, sz_2, sz_3, sz_4, sz_5, sz_6, sz_7, sz_8, sz_9, sz_10, sz_11, sz_12, sz_13, sz_14, sz_15, sz_16, sz_17, sz_18, sz_19, sz_20, sz_21, sz_22, sz_23, sz_24, sz_25, sz_26, sz_27, sz_28, sz_29, sz_30, sz_31, sz_32, sz_33, sz_34, sz_35, sz_36, sz_37, sz_38, sz_39, sz_40, Bool.not_true, Bool.false_eq_true, if_false, QN_nx]
            exact ⟨trivial, _, _, rfl⟩
          · obtain ⟨rfl, x6, x7, rfl⟩ := h
            simp only [e_svs_cons, e_svs_nil, e_sv_ife, e_sv_ret, e_sv_retN, e_sv_set, e_sv_setIx, e_sv_setLc, e_sv_app, e_sv_ex, e_sv_loop, e_sv_pass, e_ev_var, e_ev_lit, e_ev_glb, e_ev_gix, e_ev_bin, e_ev_neg, e_ev_not, w_and, w_or, QT2_bool, QB_bool, e_ev_one, e_ev_cmp, w_cmp2, e_ev_ife, e_ev_tup, e_ev_lst, e_ev_ix, e_ev_sl, e_ev_bi, e_ev_mx2, e_ev_isi, e_ev_call, e_ev_join, e_ev_lc, e_evs_nil, e_evs_cons, e_evo_none, e_evo_some, e_evi_seq, e_evi_rng1, e_evi_rng2, e_evi_enum, e_evi_zip, env0, varD, e_b_nm, e_b_tT, e_b_tL, e_b_nil, e_b_cons, wp_bind, wp_then, wp_ok, wp_truR, wp_finP, QF_nx, QF_rt, QE1_rt, QE1_nx, QT1_bool, List.map, List.length, List.replicate, List.getElem?_cons_zero, List.getElem?_cons_succ, List.set, Nat.reduceSub, List.cons_append, List.nil_append, Nat.reduceAdd, wp_ite, e_mkLT, tru_b, seqI_L, seqI_T, pures_p, pures_nil, Option.map_some, Option.bind_some, if_true, sz_0, sz_1, sz_2, sz_3, sz_4, sz_5, sz_6, sz_7, sz_8, sz_9, sz_10, sz_11, sz_12, sz_13, sz_14, sz_15, sz_16, sz_17, sz_18, sz_19, sz_20, sz_21, sz_22, sz_23, sz_24, sz_25, sz_26, sz_27, sz_28, sz_29, sz_30, sz_31, sz_32, sz_33, sz_34, sz_35, sz_36, sz_37, sz_38, sz_39, sz_40, QN_nx]
            exact ⟨trivial, _, _, _, rfl⟩
        · obtain ⟨rfl, x5, x6, x7, rfl⟩ := h
          simp only [e_svs_cons, e_svs_nil, e_sv_ife, e_sv_ret, e_sv_retN, e_sv_set, e_sv_setIx, e_sv_setLc, e_sv_app, e_sv_ex, e_sv_loop, e_sv_pass, e_ev_var, e_ev_lit, e_ev_glb, e_ev_gix, e_ev_bin, e_ev_neg, e_ev_not, w_and, w_or, QT2_bool, QB_bool, e_ev_one, e_ev_cmp, w_cmp2, e_ev_ife, e_ev_tup, e_ev_lst, e_ev_ix, e_ev_sl, e_ev_bi, e_ev_mx2, e_ev_isi, e_ev_call, e_ev_join, e_ev_lc, e_evs_nil, e_evs_cons, e_evo_none, e_evo_some, e_evi_seq, e_evi_rng1, e_evi_rng2, e_evi_enum, e_evi_zip, env0, varD, e_b_nm, e_b_tT, e_b_tL, e_b_nil, e_b_cons, wp_bind, wp_then, wp_ok, wp_truR, wp_finP, QF_nx, QF_rt, QE1_rt, QE1_nx, QT1_bool, List.map, List.length, List.replicate, List.getElem?_cons_zero, List.getElem?_cons_succ, List.set, Nat.reduceSub, List.cons_append, List.nil_append, Nat.reduceAdd, wp_ite, e_mkLT, tru_b, seqI_L, seqI_T, pures_p, pures_nil, Option.map_some, Option.bind_some, if_true, sz_0, sz_1, sz_2, sz_3, sz_4, sz_5, sz_6, sz_7, sz_8, sz_9, sz_10, sz_11, sz_12, sz_13, sz_14, sz_15, sz_16, sz_17, sz_18, sz_19, sz_20, sz_21, sz_22, sz_23, sz_24, sz_25, sz_26, sz_27, sz_28, sz_29, sz_30, sz_31, sz_32, sz_33, sz_34, sz_35, sz_36, sz_37, sz_38, sz_39, sz_40, QN_nx]
          exact ⟨_, i3, u3, _, _, _, _, _, okEx_snoc hx (fun d hd => let ⟨x, _, h⟩ := List.mem_map.mp hd; ⟨x, h.symm⟩), rfl, rfl⟩
    · obtain ⟨ex, i, u, x3, x4, x5, x6, x7, hx, rfl, rfl⟩ := h
      simp only [e_svs_cons, e_svs_nil, e_sv_ife, e_sv_ret, e_sv_retN, e_sv_set, e_sv_setIx, e_sv_setLc, e_sv_app, e_sv_ex, e_sv_loop, e_sv_pass, e_ev_var, e_ev_lit, e_ev_glb, e_ev_gix, e_ev_bin, e_ev_neg, e_ev_not, w_and, w_or, QT2_bool, QB_bool, e_ev_one, e_ev_cmp, w_cmp2, e_ev_ife, e_ev_tup, e_ev_lst, e_ev_ix, e_ev_sl, e_ev_bi, e_ev_mx2, e_ev_isi, e_ev_call, e_ev_join, e_ev_lc, e_evs_nil, e_evs_cons, e_evo_none, e_evo_some, e_evi_seq, e_evi_rng1, e_evi_rng2, e_evi_enum, e_evi_zip, env0, varD, e_b_nm, e_b_tT, e_b_tL, e_b_nil, e_b_cons, wp_bind, wp_then, wp_ok, wp_truR, wp_finP, QF_nx, QF_rt, QE1_rt, QE1_nx, QT1_bool, List.map, List.length, List.replicate, List.getElem?_cons_zero, List.getElem?_cons_succ, List.set, Nat.reduceSub, List.cons_append, List.nil_append, Nat.reduceAdd, wp_ite, e_mkLT, tru_b, seqI_L, seqI_T, pures_p, pures_nil, Option.map_some, Option.bind_some, if_true, sz_0, sz_1, sz_2, sz_3, sz_4, sz_5, sz_6, sz_7, sz_8, sz_9, sz_10, sz_11, sz_12, sz_13, sz_14, sz_15, sz_16, sz_17, sz_18, sz_19, sz_20, sz_21, sz_22, sz_23, sz_24, sz_25, sz_26, sz_27, sz_28, sz_29, sz_30, sz_31, sz_32, sz_33, sz_34, sz_35, sz_36, sz_37, sz_38, sz_39, sz_40]
  obtain ⟨d, st, e, rfl⟩ := wp_elim key
  exact ⟨st, e⟩

theorem sp_law {K : PySem.W.Frag} {H : Hp} {a : Addr} {ns : List Int} (hl : ns.length ≤ 63) (hS : SqL K H a (ns.map V.int)) :
    spOf K XR (semK defs 63 16) [.ref a] H (fun v _ => v = .bl true) fun _ _ _ => False := by
  obtain ⟨st, e⟩ := run_law ns hl
  refine ⟨[.p (.list (ns.map .int))], [], H, [], ⟨Evl.Ex.refl H, rfl, List.nodup_nil, fun n ds h => ?_, fun n h => ?_⟩, .cons (.lst hS (dp_of_ints ns)) .nil, ?_⟩
  · cases h
  · cases h
  · rw [e]
    exact fun F' φ' H' x S v rv => rv.bl
theorem cx_law {P : Program} {w : World} {H : Hp} {s : Shared} {e : Value} {s' : Shared} (h : L2.CX P w [] H s (fun _ _ _ => False) e s') : False := by
  obtain ⟨_, _, _, _, _, _, _, _, _, _, _, _, z⟩ := h
  exact z
theorem hC : ∀ d ∈ defs, defC defs glbs gds bl d = true := by
  intro d hd
  simp only [defs, List.mem_cons, List.not_mem_nil, or_false] at hd
  rcases hd with rfl | rfl | rfl | rfl | rfl | rfl | rfl | rfl | rfl | rfl | rfl | rfl | rfl | rfl | rfl | rfl | rfl
  · exact k0
  · exact k1
  · exact k2
  · exact k3
  · exact k4
  · exact k5
  · exact k6
  · exact k7
  · exact k8
  · exact k9
  · exact k10
  · exact k11
  · exact k12
  · exact k13
  · exact k14
  · exact k15
  · exact k16
theorem funAt {K : PySem.W.Frag} {h : Heap} {mg : Str → Option Value} (X : K.In h) (G : h.Ns mainGlobals mg) {d : Def} {f : Addr} {od an : Option Addr} {sl : Array (Option Value)} {oc kV dc pm cd ct : Value}
    (a : PySem.W.nsIn K mainGlobals d.name = some (some (.ref f))) (l : K.lookup f = some ⟨oc, od, .func (PySem.W.fnOf d.name d.name (defArgs d.st) (defBody d.st) (defScope d.st) .none kV dc pm an cd ct), sl⟩) (c : PySem.W.codeIn K cd d.name = true) (k : PySem.W.keepIn K (.ref f) = true)
    (hb : ∀ F : Fun K d.name d.name d.st f (PySem.W.fnOf d.name d.name (defArgs d.st) (defBody d.st) (defScope d.st) .none kV dc pm an cd ct), Binds K (PySem.W.fnOf d.name d.name (defArgs d.st) (defBody d.st) (defScope d.st) .none kV dc pm an cd ct) (d.N.take d.np) []) : FunAt K mg d :=
  have F := fun_mk (st := d.st) l c k
  ⟨f, _, F, PySem.W.mg_of X G a, hb F⟩
theorem all_mk {w : World} {K : PySem.W.Frag} {h : Heap} {mg : Str → Option Value} {fa f0 f1 f2 f3 f4 f5 f6 f7 f8 f9 f10 f11 f12 f13 f14 f15 f16 : Addr} (X : K.In h) (G : h.Ns mainGlobals mg) (hfa : mg "law" = some (.ref fa))
    {od0 an0 od1 an1 od2 an2 od3 an3 od4 an4 od5 an5 od6 an6 od7 an7 od8 an8 od9 an9 od10 an10 od11 an11 od12 an12 od13 an13 od14 an14 od15 an15 od16 an16 : Option Addr} {sl0 sl1 sl2 sl3 sl4 sl5 sl6 sl7 sl8 sl9 sl10 sl11 sl12 sl13 sl14 sl15 sl16 : Array (Option Value)} {oc0 kV0 dc0 pm0 cd0 ct0 oc1 kV1 dc1 pm1 cd1 ct1 oc2 kV2 dc2 pm2 cd2 ct2 oc3 kV3 dc3 pm3 cd3 ct3 oc4 kV4 dc4 pm4 cd4 ct4 oc5 kV5 dc5 pm5 cd5 ct5 oc6 kV6 dc6 pm6 cd6 ct6 oc7 kV7 dc7 pm7 cd7 ct7 oc8 kV8 dc8 pm8 cd8 ct8 oc9 kV9 dc9 pm9 cd9 ct9 oc10 kV10 dc10 pm10 cd10 ct10 oc11 kV11 dc11 pm11 cd11 ct11 oc12 kV12 dc12 pm12 cd12 ct12 oc13 kV13 dc13 pm13 cd13 ct13 oc14 kV14 dc14 pm14 cd14 ct14 oc15 kV15 dc15 pm15 cd15 ct15 oc16 kV16 dc16 pm16 cd16 ct16 : Value}
    (a0 : PySem.W.nsIn K mainGlobals d0.name = some (some (.ref f0))) (l0 : K.lookup f0 = some ⟨oc0, od0, .func (PySem.W.fnOf d0.name d0.name (defArgs d0.st) (defBody d0.st) (defScope d0.st) .none kV0 dc0 pm0 an0 cd0 ct0), sl0⟩) (c0 : PySem.W.codeIn K cd0 d0.name = true) (k0 : PySem.W.keepIn K (.ref f0) = true)
    (a1 : PySem.W.nsIn K mainGlobals d1.name = some (some (.ref f1))) (l1 : K.lookup f1 = some ⟨oc1, od1, .func (PySem.W.fnOf d1.name d1.name (defArgs d1.st) (defBody d1.st) (defScope d1.st) .none kV1 dc1 pm1 an1 cd1 ct1), sl1⟩) (c1 : PySem.W.codeIn K cd1 d1.name = true) (k1 : PySem.W.keepIn K (.ref f1) = true)
    (a2 : PySem.W.nsIn K mainGlobals d2.name = some (some (.ref f2))) (l2 : K.lookup f2 = some ⟨oc2, od2, .func (PySem.W.fnOf d2.name d2.name (defArgs d2.st) (defBody d2.st) (defScope d2.st) .none kV2 dc2 pm2 an2 cd2 ct2), sl2⟩) (c2 : PySem.W.codeIn K cd2 d2.name = true) (k2 : PySem.W.keepIn K (.ref f2) = true)
    (a3 : PySem.W.nsIn K mainGlobals d3.name = some (some (.ref f3))) (l3 : K.lookup f3 = some ⟨oc3, od3, .func (PySem.W.fnOf d3.name d3.name (defArgs d3.st) (defBody d3.st) (defScope d3.st) .none kV3 dc3 pm3 an3 cd3 ct3), sl3⟩) (c3 : PySem.W.codeIn K cd3 d3.name = true) (k3 : PySem.W.keepIn K (.ref f3) = true)
    (a4 : PySem.W.nsIn K mainGlobals d4.name = some (some (.ref f4))) (l4 : K.lookup f4 = some ⟨oc4, od4, .func (PySem.W.fnOf d4.name d4.name (defArgs d4.st) (defBody d4.st) (defScope d4.st) .none kV4 dc4 pm4 an4 cd4 ct4), sl4⟩) (c4 : PySem.W.codeIn K cd4 d4.name = true) (k4 : PySem.W.keepIn K (.ref f4) = true)
    (a5 : PySem.W.nsIn K mainGlobals d5.name = some (some (.ref f5))) (l5 : K.lookup f5 = some ⟨oc5, od5, .func (PySem.W.fnOf d5.name d5.name (defArgs d5.st) (defBody d5.st) (defScope d5.st) .none kV5 dc5 pm5 an5 cd5 ct5), sl5⟩) (c5 : PySem.W.codeIn K cd5 d5.name = true) (k5 : PySem.W.keepIn K (.ref f5) = true)
    (a6 : PySem.W.nsIn K mainGlobals d6.name = some (some (.ref f6))) (l6 : K.lookup f6 = some ⟨oc6, od6, .func (PySem.W.fnOf d6.name d6.name (defArgs d6.st) (defBody d6.st) (defScope d6.st) .none kV6 dc6 pm6 an6 cd6 ct6), sl6⟩) (c6 : PySem.W.codeIn K cd6 d6.name = true) (k6 : PySem.W.keepIn K (.ref f6) = true)
    (a7 : PySem.W.nsIn K mainGlobals d7.name = some (some (.ref f7))) (l7 : K.lookup f7 = some ⟨oc7, od7, .func (PySem.W.fnOf d7.name d7.name (defArgs d7.st) (defBody d7.st) (defScope d7.st) .none kV7 dc7 pm7 an7 cd7 ct7), sl7⟩) (c7 : PySem.W.codeIn K cd7 d7.name = true) (k7 : PySem.W.keepIn K (.ref f7) = true)
    (a8 : PySem.W.nsIn K mainGlobals d8.name = some (some (.ref f8))) (l8 : K.lookup f8 = some ⟨oc8, od8, .func (PySem.W.fnOf d8.name d8.name (defArgs d8.st) (defBody d8.st) (defScope d8.st) .none kV8 dc8 pm8 an8 cd8 ct8), sl8⟩) (c8 : PySem.W.codeIn K cd8 d8.name = true) (k8 : PySem.W.keepIn K (.ref f8) = true)
    (a9 : PySem.W.nsIn K mainGlobals d9.name = some (some (.ref f9))) (l9 : K.lookup f9 = some ⟨oc9, od9, .func (PySem.W.fnOf d9.name d9.name (defArgs d9.st) (defBody d9.st) (defScope d9.st) .none kV9 dc9 pm9 an9 cd9 ct9), sl9⟩) (c9 : PySem.W.codeIn K cd9 d9.name = true) (k9 : PySem.W.keepIn K (.ref f9) = true)
    (a10 : PySem.W.nsIn K mainGlobals d10.name = some (some (.ref f10))) (l10 : K.lookup f10 = some ⟨oc10, od10, .func (PySem.W.fnOf d10.name d10.name (defArgs d10.st) (defBody d10.st) (defScope d10.st) .none kV10 dc10 pm10 an10 cd10 ct10), sl10⟩) (c10 : PySem.W.codeIn K cd10 d10.name = true) (k10 : PySem.W.keepIn K (.ref f10) = true)
    (a11 : PySem.W.nsIn K mainGlobals d11.name = some (some (.ref f11))) (l11 : K.lookup f11 = some ⟨oc11, od11, .func (PySem.W.fnOf d11.name d11.name (defArgs d11.st) (defBody d11.st) (defScope d11.st) .none kV11 dc11 pm11 an11 cd11 ct11), sl11⟩) (c11 : PySem.W.codeIn K cd11 d11.name = true) (k11 : PySem.W.keepIn K (.ref f11) = true)
    (a12 : PySem.W.nsIn K mainGlobals d12.name = some (some (.ref f12))) (l12 : K.lookup f12 = some ⟨oc12, od12, .func (PySem.W.fnOf d12.name d12.name (defArgs d12.st) (defBody d12.st) (defScope d12.st) .none kV12 dc12 pm12 an12 cd12 ct12), sl12⟩) (c12 : PySem.W.codeIn K cd12 d12.name = true) (k12 : PySem.W.keepIn K (.ref f12) = true)
    (a13 : PySem.W.nsIn K mainGlobals d13.name = some (some (.ref f13))) (l13 : K.lookup f13 = some ⟨oc13, od13, .func (PySem.W.fnOf d13.name d13.name (defArgs d13.st) (defBody d13.st) (defScope d13.st) .none kV13 dc13 pm13 an13 cd13 ct13), sl13⟩) (c13 : PySem.W.codeIn K cd13 d13.name = true) (k13 : PySem.W.keepIn K (.ref f13) = true)
    (a14 : PySem.W.nsIn K mainGlobals d14.name = some (some (.ref f14))) (l14 : K.lookup f14 = some ⟨oc14, od14, .func (PySem.W.fnOf d14.name d14.name (defArgs d14.st) (defBody d14.st) (defScope d14.st) .none kV14 dc14 pm14 an14 cd14 ct14), sl14⟩) (c14 : PySem.W.codeIn K cd14 d14.name = true) (k14 : PySem.W.keepIn K (.ref f14) = true)
    (a15 : PySem.W.nsIn K mainGlobals d15.name = some (some (.ref f15))) (l15 : K.lookup f15 = some ⟨oc15, od15, .func (PySem.W.fnOf d15.name d15.name (defArgs d15.st) (defBody d15.st) (defScope d15.st) .none kV15 dc15 pm15 an15 cd15 ct15), sl15⟩) (c15 : PySem.W.codeIn K cd15 d15.name = true) (k15 : PySem.W.keepIn K (.ref f15) = true)
    (a16 : PySem.W.nsIn K mainGlobals d16.name = some (some (.ref f16))) (l16 : K.lookup f16 = some ⟨oc16, od16, .func (PySem.W.fnOf d16.name d16.name (defArgs d16.st) (defBody d16.st) (defScope d16.st) .none kV16 dc16 pm16 an16 cd16 ct16), sl16⟩) (c16 : PySem.W.codeIn K cd16 d16.name = true) (k16 : PySem.W.keepIn K (.ref f16) = true)
    (z0 : PySem.W.nsIn K mainGlobals "len" = some none)
    (z1 : PySem.W.nsIn K mainGlobals "sorted" = some none)
    (z2 : PySem.W.nsIn K mainGlobals "tuple" = some none)
    (z3 : PySem.W.nsIn K mainGlobals "list" = some none)
    (z4 : PySem.W.nsIn K mainGlobals "int" = some none)
    (z5 : PySem.W.nsIn K mainGlobals "isinstance" = some none)
    (z6 : PySem.W.nsIn K mainGlobals "range" = some none)
    (z7 : PySem.W.nsIn K mainGlobals "enumerate" = some none)
    (z8 : PySem.W.nsIn K mainGlobals "bool" = some none)
    {p0 : Addr} {es0 : Array DictEntry} {n0 : Nat} (x0 : PySem.W.nsIn K mainGlobals "TIMES" = some (some (.ref p0))) (y0 : K.lookup p0 = some ⟨.type "dict", none, .dict es0 n0, #[]⟩) (q0 : PySem.W.KeysLit w.params es0.toList)
    {u0_0 : Tok} (w0_0 : PySem.W.nsIn K p0 "ask" = some (some (Value.int (5) u0_0)))
    {u0_1 : Tok} (w0_1 : PySem.W.nsIn K p0 "job" = some (some (Value.int (3) u0_1)))
    : ∃ fd : FuncData, (∀ (s : Shared) (v : Value), BindsTo s fd ⟨[v], []⟩ [("_law_script", v)]) ∧ ∀ base : Heap, K.In base → base.Ns mainGlobals mg → FnOk PySem.Challenge.rw_gapcalls_k03_rows_that_clash.prog w K mg base (L2.CX PySem.Challenge.rw_gapcalls_k03_rows_that_clash.prog w) 63 fa fd ["_law_script"] (spOf K XR (semK defs 63 16)) := by
  have M : Mods K w mg defs glbs gds bl := by
    refine ⟨fun d hd => ?_, fun x d hx => ?_, fun x kvs hx => ?_, fun x hx => ?_⟩
    · simp only [defs, List.mem_cons, List.not_mem_nil, or_false] at hd
      rcases hd with rfl | rfl | rfl | rfl | rfl | rfl | rfl | rfl | rfl | rfl | rfl | rfl | rfl | rfl | rfl | rfl | rfl
      · exact funAt X G a0 l0 c0 k0 fun F => F.binds (ps := ["one", "other"]) fun _ _ _ _ _ _ us hl => match us, hl with | [_, _], _ => rfl
      · exact funAt X G a1 l1 c1 k1 fun F => F.binds (ps := ["counts", "row"]) fun _ _ _ _ _ _ us hl => match us, hl with | [_, _], _ => rfl
      · exact funAt X G a2 l2 c2 k2 fun F => F.binds (ps := ["job", "ask"]) fun _ _ _ _ _ _ us hl => match us, hl with | [_, _], _ => rfl
      · exact funAt X G a3 l3 c3 k3 fun F => F.binds (ps := ["one", "other"]) fun _ _ _ _ _ _ us hl => match us, hl with | [_, _], _ => rfl
      · exact funAt X G a4 l4 c4 k4 fun F => F.binds (ps := ["_law_cell", "_law_at"]) fun _ _ _ _ _ _ us hl => match us, hl with | [_, _], _ => rfl
      · exact funAt X G a5 l5 c5 k5 fun F => F.binds (ps := ["_law_script"]) fun _ _ _ _ _ _ us hl => match us, hl with | [_], _ => rfl
      · exact funAt X G a6 l6 c6 k6 fun F => F.binds (ps := ["_law_pen"]) fun _ _ _ _ _ _ us hl => match us, hl with | [_], _ => rfl
      · exact funAt X G a7 l7 c7 k7 fun F => F.binds (ps := ["_law_pen", "_law_many"]) fun _ _ _ _ _ _ us hl => match us, hl with | [_, _], _ => rfl
      · exact funAt X G a8 l8 c8 k8 fun F => F.binds (ps := ["_law_pen", "_law_many"]) fun _ _ _ _ _ _ us hl => match us, hl with | [_, _], _ => rfl
      · exact funAt X G a9 l9 c9 k9 fun F => F.binds (ps := ["_law_pen", "_law_most"]) fun _ _ _ _ _ _ us hl => match us, hl with | [_, _], _ => rfl
      · exact funAt X G a10 l10 c10 k10 fun F => F.binds (ps := ["_law_one", "_law_other"]) fun _ _ _ _ _ _ us hl => match us, hl with | [_, _], _ => rfl
      · exact funAt X G a11 l11 c11 k11 fun F => F.binds (ps := ["_law_pen"]) fun _ _ _ _ _ _ us hl => match us, hl with | [_], _ => rfl
      · exact funAt X G a12 l12 c12 k12 fun F => F.binds (ps := ["_law_pen"]) fun _ _ _ _ _ _ us hl => match us, hl with | [_], _ => rfl
      · exact funAt X G a13 l13 c13 k13 fun F => F.binds (ps := ["_law_pen", "_law_town_here"]) fun _ _ _ _ _ _ us hl => match us, hl with | [_, _], _ => rfl
      · exact funAt X G a14 l14 c14 k14 fun F => F.binds (ps := ["_law_pen", "_law_town_here"]) fun _ _ _ _ _ _ us hl => match us, hl with | [_, _], _ => rfl
      · exact funAt X G a15 l15 c15 k15 fun F => F.binds (ps := ["_law_one", "_law_other"]) fun _ _ _ _ _ _ us hl => match us, hl with | [_, _], _ => rfl
      · exact funAt X G a16 l16 c16 k16 fun F => F.binds (ps := ["_law_script"]) fun _ _ _ _ _ _ us hl => match us, hl with | [_], _ => rfl
    · cases hx
    · simp only [gds, List.lookup_cons] at hx
      split at hx
      · rename_i e; cases Option.some.inj hx; rw [eq_of_beq e]; refine ⟨p0, PySem.W.mg_of X G x0, fun z d hz => ?_⟩
        simp only [List.lookup_cons] at hz
        split at hz
        · rename_i e; cases Option.some.inj hz; rw [eq_of_beq e]; exact ⟨.int (5), ⟨es0, n0, _, y0, q0, w0_0, ⟨u0_0, rfl⟩⟩, .int _⟩
        split at hz
        · rename_i e; cases Option.some.inj hz; rw [eq_of_beq e]; exact ⟨.int (3), ⟨es0, n0, _, y0, q0, w0_1, ⟨u0_1, rfl⟩⟩, .int _⟩
        cases hz
      cases hx
    · simp only [bl, List.mem_cons, List.not_mem_nil, or_false] at hx
      rcases hx with rfl | rfl | rfl | rfl | rfl | rfl | rfl | rfl | rfl
      · exact PySem.W.mg_none_of X G z0
      · exact PySem.W.mg_none_of X G z1
      · exact PySem.W.mg_none_of X G z2
      · exact PySem.W.mg_none_of X G z3
      · exact PySem.W.mg_none_of X G z4
      · exact PySem.W.mg_none_of X G z5
      · exact PySem.W.mg_none_of X G z6
      · exact PySem.W.mg_none_of X G z7
      · exact PySem.W.mg_none_of X G z8
  have e := hfa.symm.trans (PySem.W.mg_of X G a16)
  cases e
  have F := fun_mk (st := d16.st) l16 c16 k16
  exact ⟨_, fun s v => .of_eq rfl, fun base _ _ => fnOk M hC 63 16 d16 rfl _ _ F⟩
end L03
open PySem PySem.W PyProof.Rows
set_option maxHeartbeats 0 in
theorem PySem.Challenge.cw_gapcalls_k03_rows_that_clash_holds : PySem.Challenge.rw_gapcalls_k03_rows_that_clash.Holds := by
  w_on; o_law; k_head; (case hw => w_witness2)
  k_fill
  refine L2.walk_of (l := PySem.Challenge.rw_gapcalls_k03_rows_that_clash) (n := 63) (k := 63) (x := "_law_script") (CX := fun w => L2.CX PySem.Challenge.rw_gapcalls_k03_rows_that_clash.prog w) (sp := fun w => MP.spOf _ L03.XR (MP.semK L03.defs 63 16)) rfl (by decide) rfl ⟨rfl, by decide, by decide⟩ (fun w h Y => PySem.W.kIn_of Y) ?F (fun w H a ns hl hO hS => L03.sp_law hl hS) (fun w H s e s' h => L03.cx_law h)
  case F =>
    intro w mg fa h KX G hmg
    refine' L03.all_mk KX G hmg ?a0 ?l0 ?c0 ?k0 ?a1 ?l1 ?c1 ?k1 ?a2 ?l2 ?c2 ?k2 ?a3 ?l3 ?c3 ?k3 ?a4 ?l4 ?c4 ?k4 ?a5 ?l5 ?c5 ?k5 ?a6 ?l6 ?c6 ?k6 ?a7 ?l7 ?c7 ?k7 ?a8 ?l8 ?c8 ?k8 ?a9 ?l9 ?c9 ?k9 ?a10 ?l10 ?c10 ?k10 ?a11 ?l11 ?c11 ?k11 ?a12 ?l12 ?c12 ?k12 ?a13 ?l13 ?c13 ?k13 ?a14 ?l14 ?c14 ?k14 ?a15 ?l15 ?c15 ?k15 ?a16 ?l16 ?c16 ?k16 ?z0 ?z1 ?z2 ?z3 ?z4 ?z5 ?z6 ?z7 ?z8 ?x0 ?y0 ?q0 ?w0_0 ?w0_1
    (case a0 => k_is)
    (case l0 => k_is)
    (case c0 => k_is)
    (case k0 => k_is)
    (case a1 => k_is)
    (case l1 => k_is)
    (case c1 => k_is)
    (case k1 => k_is)
    (case a2 => k_is)
    (case l2 => k_is)
    (case c2 => k_is)
    (case k2 => k_is)
    (case a3 => k_is)
    (case l3 => k_is)
    (case c3 => k_is)
    (case k3 => k_is)
    (case a4 => k_is)
    (case l4 => k_is)
    (case c4 => k_is)
    (case k4 => k_is)
    (case a5 => k_is)
    (case l5 => k_is)
    (case c5 => k_is)
    (case k5 => k_is)
    (case a6 => k_is)
    (case l6 => k_is)
    (case c6 => k_is)
    (case k6 => k_is)
    (case a7 => k_is)
    (case l7 => k_is)
    (case c7 => k_is)
    (case k7 => k_is)
    (case a8 => k_is)
    (case l8 => k_is)
    (case c8 => k_is)
    (case k8 => k_is)
    (case a9 => k_is)
    (case l9 => k_is)
    (case c9 => k_is)
    (case k9 => k_is)
    (case a10 => k_is)
    (case l10 => k_is)
    (case c10 => k_is)
    (case k10 => k_is)
    (case a11 => k_is)
    (case l11 => k_is)
    (case c11 => k_is)
    (case k11 => k_is)
    (case a12 => k_is)
    (case l12 => k_is)
    (case c12 => k_is)
    (case k12 => k_is)
    (case a13 => k_is)
    (case l13 => k_is)
    (case c13 => k_is)
    (case k13 => k_is)
    (case a14 => k_is)
    (case l14 => k_is)
    (case c14 => k_is)
    (case k14 => k_is)
    (case a15 => k_is)
    (case l15 => k_is)
    (case c15 => k_is)
    (case k15 => k_is)
    (case a16 => k_is)
    (case l16 => k_is)
    (case c16 => k_is)
    (case k16 => k_is)
    (case z0 => k_is)
    (case z1 => k_is)
    (case z2 => k_is)
    (case z3 => k_is)
    (case z4 => k_is)
    (case z5 => k_is)
    (case z6 => k_is)
    (case z7 => k_is)
    (case z8 => k_is)
    (case x0 => k_is)
    (case y0 => k_is)
    (case q0 => exact ⟨⟨_, _, rfl, rfl⟩, ⟨⟨_, _, rfl, rfl⟩, trivial⟩⟩)
    (case w0_0 => k_is)
    (case w0_1 => k_is)


