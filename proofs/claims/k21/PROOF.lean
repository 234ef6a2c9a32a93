import PyProof.Rows.All
import Wide.All
import OpenK.AllK
import Wide.FinOn
import HandS.ForMost
import HandS.Wide
import HandS.Style
import HandS.IsInst
import HandS.TupAny
import HandS.Deep
import HandS.Walk
import HandS.Zip
import HandS.Strs
import HandS.SetFor
import HandS.SortRule
import HandS.TupSets
import HandS.TupLen
import HandS.More
import PyProof.Rows.StrCountLaw
import KE.KDictKeyed
import PySem.Challenge.RW_bouncepaths_k21_whole_turned_speeds
set_option Elab.async false
set_option linter.all false
set_option maxRecDepth 100000
set_option maxHeartbeats 4000000
/-! A program logic over data: values are data or raw places, what may change stands in a memory of its own. -/
namespace DL
open PySem PySem.Spec L2

inductive EV where
  | d (p : PyData)
  | o (a : Addr)

inductive MD where
  | lst (xs : List PyData)
  | raw (o : HO)
  | rawK (o : HO) (ks : List (V × PyData))
  | dk (kvs : List (Key × EV))
  | dt (kvs : List (List Key × EV))

abbrev Mem := Addr → Option MD
abbrev Ev := List (Option EV)
def updM (M : Mem) (a : Addr) (m : MD) : Mem := fun b => if b = a then some m else M b
def delM (M : Mem) (a : Addr) : Mem := fun b => if b = a then none else M b
theorem updM_same {M : Mem} {a : Addr} {m : MD} : updM M a m a = some m := by unfold updM; rw [if_pos rfl]
theorem updM_ne {M : Mem} {a b : Addr} {m : MD} (h : b ≠ a) : updM M a m b = M b := by unfold updM; rw [if_neg h]
theorem updM_upd {M : Mem} {a : Addr} {m n : MD} : updM (updM M a m) a n = updM M a n := by
  funext b; unfold updM; split <;> rfl
theorem delM_upd {M : Mem} {a : Addr} {m : MD} (h : M a = none) : delM (updM M a m) a = M := by
  funext b; unfold delM updM; split
  · rename_i e; rw [e, h]
  · rfl
theorem updM_comm {M : Mem} {a b : Addr} {m n : MD} (h : a ≠ b) : updM (updM M a m) b n = updM (updM M b n) a m := by
  funext c; unfold updM
  by_cases h1 : c = b
  · by_cases h2 : c = a
    · exact absurd (h2.symm.trans h1) h
    · simp [h1, h2]
      intro q; exact absurd q.symm h
  · by_cases h2 : c = a <;> simp [h1, h2]
    intro q; exact absurd q h
theorem updM_id {M : Mem} {a : Addr} {m : MD} (h : M a = some m) : updM M a m = M := by
  funext b; unfold updM; split
  · rename_i e; rw [e, h]
  · rfl

section
variable {K : PySem.W.Frag} {F F' H H' : Hp}
theorem rd_mono {a : Addr} {u : HO} (e : Same F F') (h : Rd F a u) : Rd F' a u := by
  rcases h with h | ⟨o, h⟩
  · exact .inl (e _ _ h)
  · exact .inr ⟨o, e _ _ h⟩
theorem sqL_mono {a : Addr} {xs : List V} (e : Same F F') (h : SqL K F a xs) : SqL K F' a xs := h.imp (rd_mono e) id
theorem sqT_mono {a : Addr} {xs : List V} (e : Same F F') (h : SqT K F a xs) : SqT K F' a xs := h.imp (rd_mono e) id
mutual
theorem dp_mono (e : Same F F') : ∀ (v : V) (d : PyData), Dp K F v d → Dp K F' v d
  | _, _, .non => .non
  | _, _, .bl b => .bl b
  | _, _, .int i => .int i
  | _, _, .str x => .str x
  | _, _, .lst h t => .lst (sqL_mono e h) (dps_mono e _ _ t)
  | _, _, .tup h t => .tup (sqT_mono e h) (dps_mono e _ _ t)
theorem dps_mono (e : Same F F') : ∀ (vs : List V) (ds : List PyData), DpAll K F vs ds → DpAll K F' vs ds
  | _, _, .nil => .nil
  | _, _, .cons h t => .cons (dp_mono e _ _ h) (dps_mono e _ _ t)
end
theorem dps_len : ∀ {vs : List V} {ds : List PyData}, DpAll K F vs ds → vs.length = ds.length
  | _, _, .nil => rfl
  | _, _, .cons _ t => congrArg (· + 1) (dps_len t)
theorem dps_get : ∀ {vs : List V} {ds : List PyData} {i : Nat} {d : PyData}, DpAll K F vs ds → ds[i]? = some d → ∃ v, vs[i]? = some v ∧ Dp K F v d
  | _, _, i, d, .nil, h => by simp at h
  | _, _, 0, d, .cons h t, e => by
    simp at e; subst e; exact ⟨_, rfl, h⟩
  | _, _, i + 1, d, .cons h t, e => by
    obtain ⟨v, h1, h2⟩ := dps_get (i := i) (d := d) t (by simpa using e)
    exact ⟨v, by simpa using h1, h2⟩
theorem dps_get' : ∀ {vs : List V} {ds : List PyData} {i : Nat} {v : V}, DpAll K F vs ds → vs[i]? = some v → ∃ d, ds[i]? = some d ∧ Dp K F v d
  | _, _, i, d, .nil, h => by simp at h
  | _, _, 0, d, .cons h t, e => by
    simp at e; subst e; exact ⟨_, rfl, h⟩
  | _, _, i + 1, d, .cons h t, e => by
    obtain ⟨v, h1, h2⟩ := dps_get' (i := i) (v := d) t (by simpa using e)
    exact ⟨v, by simpa using h1, h2⟩
theorem dps_append : ∀ {vs ws : List V} {ds es : List PyData}, DpAll K F vs ds → DpAll K F ws es → DpAll K F (vs ++ ws) (ds ++ es)
  | _, _, _, _, .nil, h => h
  | _, _, _, _, .cons h t, h2 => .cons h (dps_append t h2)
theorem dps_set : ∀ {vs : List V} {ds : List PyData} {v : V} {d : PyData} (i : Nat), DpAll K F vs ds → Dp K F v d → DpAll K F (vs.set i v) (ds.set i d)
  | _, _, _, _, _, .nil, _ => .nil
  | _, _, _, _, 0, .cons _ t, h => .cons h t
  | _, _, _, _, i + 1, .cons h t, h2 => .cons h (dps_set i t h2)
theorem dps_ints : ∀ {vs : List V} {ns : List Int}, DpAll K F vs (ns.map PyData.int) → vs = ns.map V.int
  | _, [], .nil => rfl
  | _, n :: ns, .cons h t => by
    cases h
    rw [dps_ints t]
    rfl
theorem dps_of_ints : ∀ (ns : List Int), DpAll K F (ns.map V.int) (ns.map PyData.int)
  | [] => .nil
  | n :: ns => .cons (.int n) (dps_of_ints ns)

def EvOk (K : PySem.W.Frag) (F : Hp) (v : V) : EV → Prop
  | .d p => Dp K F v p
  | .o a => v = .ref a
theorem EvOk.mono {v : V} {d : EV} (e : Same F F') (h : EvOk K F v d) : EvOk K F' v d := by
  cases d with
  | d p => exact dp_mono e _ _ h
  | o a => exact h
inductive EvsOk (K : PySem.W.Frag) (F : Hp) : List V → List EV → Prop
  | nil : EvsOk K F [] []
  | cons {v : V} {vs : List V} {d : EV} {ds : List EV} : EvOk K F v d → EvsOk K F vs ds → EvsOk K F (v :: vs) (d :: ds)
theorem EvsOk.mono (e : Same F F') : ∀ {vs : List V} {ds : List EV}, EvsOk K F vs ds → EvsOk K F' vs ds
  | _, _, .nil => .nil
  | _, _, .cons h t => .cons (h.mono e) (t.mono e)
theorem EvsOk.len : ∀ {vs : List V} {ds : List EV}, EvsOk K F vs ds → vs.length = ds.length
  | _, _, .nil => rfl
  | _, _, .cons _ t => congrArg (· + 1) t.len
theorem evs_data : ∀ {vs : List V} {ds : List PyData}, EvsOk K F vs (ds.map EV.d) → DpAll K F vs ds
  | _, [], .nil => .nil
  | _, _ :: _, .cons h t => .cons h (evs_data t)
theorem EvsOk.get : ∀ {vs : List V} {ds : List EV} {i : Nat} {d : EV}, EvsOk K F vs ds → ds[i]? = some d → ∃ v, vs[i]? = some v ∧ EvOk K F v d
  | _, _, i, d, .nil, h => by simp at h
  | _, _, 0, d, .cons h t, e => by
    simp at e; subst e; exact ⟨_, rfl, h⟩
  | _, _, i + 1, d, .cons h t, e => by
    obtain ⟨v, h1, h2⟩ := EvsOk.get (i := i) (d := d) t (by simpa using e)
    exact ⟨v, by simpa using h1, h2⟩

structure EnvOk (K : PySem.W.Frag) (F : Hp) (σ : St) (ρ : Ev) : Prop where
  len : σ.length = ρ.length
  at_ : ∀ (i : Nat) (e : EV), ρ[i]? = some (some e) → ∃ v, σ[i]? = some (some v) ∧ EvOk K F v e
theorem EnvOk.mono {σ : St} {ρ : Ev} (e : Same F F') (h : EnvOk K F σ ρ) : EnvOk K F' σ ρ :=
  ⟨h.len, fun i d q => let ⟨v, a, b⟩ := h.at_ i d q; ⟨v, a, b.mono e⟩⟩
theorem EnvOk.set {σ : St} {ρ : Ev} {v : V} {d : EV} (i : Nat) (h : EnvOk K F σ ρ) (hv : EvOk K F v d) : EnvOk K F (σ.set i (some v)) (ρ.set i (some d)) := by
  refine ⟨by rw [List.length_set, List.length_set, h.len], fun j e q => ?_⟩
  by_cases hj : i = j
  · subst hj
    have hl : i < ρ.length := by
      have := (List.getElem?_eq_some_iff.mp q).1
      rwa [List.length_set] at this
    rw [List.getElem?_set_self hl] at q
    cases q
    exact ⟨v, List.getElem?_set_self (by rw [h.len]; exact hl), hv⟩
  · rw [List.getElem?_set_ne hj] at q ⊢
    exact h.at_ j e q
/-- the pairs of a dict -/
def KVok {κ : Type} (K : PySem.W.Frag) (F : Hp) (vs : List (κ × V)) (ds : List (κ × EV)) : Prop := vs.map (·.1) = ds.map (·.1) ∧ EvsOk K F (vs.map (·.2)) (ds.map (·.2))
theorem KVok.mono {κ : Type} {vs : List (κ × V)} {ds : List (κ × EV)} (e : Same F F') (h : KVok K F vs ds) : KVok K F' vs ds := ⟨h.1, h.2.mono e⟩
def MdOk (K : PySem.W.Frag) (F : Hp) (h : Option HO) : MD → Prop
  | .lst ds => ∃ vs, h = some (.lst vs) ∧ DpAll K F vs ds
  | .raw o => h = some o
  | .rawK o ks => h = some o ∧ ∀ x ∈ ks, Dp K F x.1 x.2
  | .dk ds => ∃ vs, h = some (.dK vs) ∧ KVok K F vs ds
  | .dt ds => ∃ vs, h = some (.dT vs) ∧ KVok K F vs ds
structure WD (K : PySem.W.Frag) (F : Hp) (M : Mem) (H : Hp) : Prop where
  ext : Same F H
  mem : ∀ a m, M a = some m → F a = none ∧ MdOk K F (H a) m
theorem MdOk.mono {h : Option HO} {m : MD} (e : Same F F') (x : MdOk K F h m) : MdOk K F' h m := by
  cases m with
  | lst ds => obtain ⟨vs, a, b⟩ := x; exact ⟨vs, a, dps_mono e _ _ b⟩
  | raw o => exact x
  | rawK o ks => exact ⟨x.1, fun y hy => dp_mono e _ _ (x.2 y hy)⟩
  | dk ds => obtain ⟨vs, a, b⟩ := x; exact ⟨vs, a, b.mono e⟩
  | dt ds => obtain ⟨vs, a, b⟩ := x; exact ⟨vs, a, b.mono e⟩
theorem MdOk.some {h : Option HO} {m : MD} (x : MdOk K F h m) : ∃ o, h = some o := by
  cases m with
  | lst ds => obtain ⟨vs, a, _⟩ := x; exact ⟨_, a⟩
  | raw o => exact ⟨o, x⟩
  | rawK o ks => exact ⟨o, x.1⟩
  | dk ds => obtain ⟨vs, a, _⟩ := x; exact ⟨_, a⟩
  | dt ds => obtain ⟨vs, a, _⟩ := x; exact ⟨_, a⟩
theorem WD.fresh {M : Mem} {p : Addr} (w : WD K F M H) (h : H p = none) : F p = none ∧ M p = none := by
  refine ⟨w.ext.free h, ?_⟩
  cases q : M p with
  | none => rfl
  | some m =>
    obtain ⟨o, e⟩ := (w.mem p m q).2.some
    rw [h] at e; cases e
/-- a new thing that stands from now on as it is -/
theorem WD.laid {M : Mem} {p : Addr} {o : HO} (w : WD K F M H) (h : H p = none) : Same F (upd F p o) ∧ WD K (upd F p o) M (upd H p o) := by
  have hF := (w.fresh h).1
  have hM := (w.fresh h).2
  have hs : Same F (upd F p o) := fun a u e => by rw [upd_ne (ne_of_none e hF)]; exact e
  refine ⟨hs, ⟨fun a u e => ?_, fun a m e => ?_⟩⟩
  · by_cases q : a = p
    · rw [q, upd_same] at e ⊢; exact e
    · rw [upd_ne q] at e ⊢; exact w.ext _ _ e
  · have ne : a ≠ p := fun q => by rw [q, hM] at e; cases e
    obtain ⟨m1, m2⟩ := w.mem a m e
    rw [upd_ne ne, upd_ne ne]
    exact ⟨m1, m2.mono hs⟩
/-- a new thing that may change -/
theorem WD.new {M : Mem} {p : Addr} {o : HO} {m : MD} (w : WD K F M H) (h : H p = none) (x : MdOk K F (some o) m) : WD K F (updM M p m) (upd H p o) := by
  have hF := (w.fresh h).1
  refine ⟨fun a u e => by rw [upd_ne (ne_of_none e hF)]; exact w.ext _ _ e, fun a n e => ?_⟩
  by_cases q : a = p
  · subst q
    rw [updM_same] at e; cases e
    rw [upd_same]
    exact ⟨hF, x⟩
  · rw [updM_ne q] at e
    rw [upd_ne q]
    exact w.mem a n e
/-- what may change is changed -/
theorem WD.put {M : Mem} {p : Addr} {o : HO} {m m' : MD} (w : WD K F M H) (h : M p = some m) (x : MdOk K F (some o) m') : WD K F (updM M p m') (upd H p o) := by
  have hF := (w.mem p m h).1
  refine ⟨fun a u e => by rw [upd_ne (ne_of_none e hF)]; exact w.ext _ _ e, fun a n e => ?_⟩
  by_cases q : a = p
  · subst q
    rw [updM_same] at e; cases e
    rw [upd_same]
    exact ⟨hF, x⟩
  · rw [updM_ne q] at e
    rw [upd_ne q]
    exact w.mem a n e
/-- a list that no longer changes is data -/
theorem WD.freeze {M : Mem} {p : Addr} {ds : List PyData} (w : WD K F M H) (h : M p = some (.lst ds)) : ∃ F', Same F F' ∧ WD K F' (delM M p) H ∧ Dp K F' (.ref p) (.list ds) := by
  obtain ⟨hF, vs, e, t⟩ := w.mem p _ h
  have hs : Same F (upd F p (.lst vs)) := fun a u e => by rw [upd_ne (ne_of_none e hF)]; exact e
  refine ⟨upd F p (.lst vs), hs, ⟨fun a u q => ?_, fun a m q => ?_⟩, .lst (SqL.of upd_same) (dps_mono hs _ _ t)⟩
  · by_cases z : a = p
    · rw [z, upd_same] at q; cases q; rw [z]; exact e
    · rw [upd_ne z] at q; exact w.ext _ _ q
  · unfold delM at q
    by_cases z : a = p
    · rw [if_pos z] at q; cases q
    · rw [if_neg z] at q
      obtain ⟨m1, m2⟩ := w.mem a m q
      rw [upd_ne z]
      exact ⟨m1, m2.mono hs⟩
theorem WD.forget {M : Mem} (p : Addr) (w : WD K F M H) : WD K F (delM M p) H := by
  refine ⟨w.ext, fun a m q => ?_⟩
  unfold delM at q
  by_cases z : a = p
  · rw [if_pos z] at q; cases q
  · rw [if_neg z] at q; exact w.mem a m q
end

/-! ### the weakest readings -/
section
variable (X : Cx)
def wpE (e : Expr) : TE := fun σ H Q => ∀ pins s, Inv X pins σ H s → wpAny (model X.prog X.w) X.A (eval e X.env) (EP X pins σ Q) X.xe s
def wpT (e : Expr) : TT := fun σ H Q => ∀ pins s, Inv X pins σ H s → wpAny (model X.prog X.w) X.A (isTrue e X.env (eval e X.env)) (TP X pins σ Q) X.xe s
def wpW (e : Expr) : TT := fun σ H Q => ∀ (whole : Sem Value) pins s, Inv X pins σ H s → wpAny (model X.prog X.w) X.A (isTrue e X.env whole) (TP X pins σ Q) X.xe s
def wpA (es : List Expr) : TA := fun σ H Q => ∀ pos pins s, Inv X pins σ H s → wpAny (model X.prog X.w) X.A (spliced (backTo pos (starEach es X.env))) (AP X pins σ Q) X.xe s
def wpS (st : Stmt) : TS := fun D σ H => ∀ pins s, Inv X pins σ H s → wpAny (model X.prog X.w) X.A (exec st X.env) (SP X pins D) X.xe s
def wpSs (st : List Stmt) : TS := fun D σ H => ∀ pins s, Inv X pins σ H s → wpAny (model X.prog X.w) X.A (execs st X.env) (SP X pins D) X.xe s
def wpG (tg : Expr) : TG := fun v σ H Q => ∀ pins s u, Inv X pins σ H s → RelV v u → wpAny (model X.prog X.w) X.A (assign tg X.env u) (fun _ s' => ∃ σ' H', Inv X pins σ' H' s' ∧ Q σ' H') X.xe s
def wpGs (ts : List Expr) : TGs := fun vs σ H Q => ∀ pins s us, Inv X pins σ H s → Vals vs us → wpAny (model X.prog X.w) X.A (assignInOrder ((assignEach ts X.env).map (·.2)) us) (fun _ s' => ∃ σ' H', Inv X pins σ' H' s' ∧ Q σ' H') X.xe s
end
section
variable {X : Cx} {e : Expr} {es : List Expr} {st : Stmt} {sts : List Stmt}
theorem sE : PE X e (wpE X e) := ⟨fun pins s _ _ _ I h => h pins s I⟩
theorem sT : PT X e (wpT X e) := ⟨fun pins s _ _ _ I h => h pins s I⟩
theorem sW : PW X e (wpW X e) := ⟨fun w pins s _ _ _ I h => h w pins s I⟩
theorem sA : PA X es (wpA X es) := ⟨fun pos pins s _ _ _ I h => h pos pins s I⟩
theorem sS : PS X st (wpS X st) := ⟨fun pins s _ _ _ I h => h pins s I⟩
theorem sSs : PSs X sts (wpSs X sts) := ⟨fun pins s _ _ _ I h => h pins s I⟩
theorem sG : PG X e (wpG X e) := ⟨fun pins s _ _ _ u _ I r h => h pins s u I r⟩
theorem sGs : PGs X es (wpGs X es) := ⟨fun pins s _ _ _ us _ I r h => h pins s us I r⟩
theorem toE {t : TE} {σ : St} {H : Hp} {Q : VK} (h : PE X e t) (q : t σ H Q) : wpE X e σ H Q := fun pins s I => h.run pins s σ H Q I q
theorem toT {t : TT} {σ : St} {H : Hp} {Q : Bool → Hp → Prop} (h : PT X e t) (q : t σ H Q) : wpT X e σ H Q := fun pins s I => h.run pins s σ H Q I q
theorem toW {t : TT} {σ : St} {H : Hp} {Q : Bool → Hp → Prop} (h : PW X e t) (q : t σ H Q) : wpW X e σ H Q := fun w pins s I => h.run w pins s σ H Q I q
theorem toA {t : TA} {σ : St} {H : Hp} {Q : List V → Hp → Prop} (h : PA X es t) (q : t σ H Q) : wpA X es σ H Q := fun pos pins s I => h.run pos pins s σ H Q I q
theorem toS {t : TS} {σ : St} {H : Hp} {D : Ends} (h : PS X st t) (q : t D σ H) : wpS X st D σ H := fun pins s I => h.run pins s σ H D I q
theorem toSs {t : TS} {σ : St} {H : Hp} {D : Ends} (h : PSs X sts t) (q : t D σ H) : wpSs X sts D σ H := fun pins s I => h.run pins s σ H D I q
theorem toG {t : TG} {v : V} {σ : St} {H : Hp} {Q : St → Hp → Prop} (h : PG X e t) (q : t v σ H Q) : wpG X e v σ H Q := fun pins s u I r => h.run pins s σ H v u Q I r q
theorem toGs {t : TGs} {vs : List V} {σ : St} {H : Hp} {Q : St → Hp → Prop} (h : PGs X es t) (q : t vs σ H Q) : wpGs X es vs σ H Q := fun pins s us I r => h.run pins s σ H vs us Q I r q
end

/-! ### the judgements over data -/
abbrev I (i : Int) : EV := .d (.int i)
abbrev B (b : Bool) : EV := .d (.bool b)
abbrev S (s : Str) : EV := .d (.str s)
abbrev N0 : EV := .d .none
abbrev T (ds : List PyData) : EV := .d (.tuple ds)
abbrev L (ds : List PyData) : EV := .d (.list ds)

abbrev QE := EV → Mem → Prop
abbrev QM := Ev → Mem → Prop
section
variable (X : Cx)
/-- R takes what Q says, from F on -/
def Lk (F : Hp) (Q : QE) (R : VK) : Prop := ∀ v d F' M' H', Q d M' → Same F F' → WD X.K F' M' H' → EvOk X.K F' v d → R v H'
def LkT (F : Hp) (Q : Bool → Mem → Prop) (R : Bool → Hp → Prop) : Prop := ∀ b F' M' H', Q b M' → Same F F' → WD X.K F' M' H' → R b H'
def LkA (F : Hp) (Q : List EV → Mem → Prop) (R : List V → Hp → Prop) : Prop := ∀ vs ds F' M' H', Q ds M' → Same F F' → WD X.K F' M' H' → EvsOk X.K F' vs ds → R vs H'
def LkM (F : Hp) (Q : QM) (R : St → Hp → Prop) : Prop := ∀ σ' ρ' F' M' H', Q ρ' M' → Same F F' → WD X.K F' M' H' → EnvOk X.K F' σ' ρ' → R σ' H'
structure DEnds where
  nx : QM
  rt : QE
  bk : QM := fun _ _ => False
  ct : QM := fun _ _ => False
structure LkD (F : Hp) (D : DEnds) (R : Ends) : Prop where
  nx : LkM X F D.nx R.nx
  rt : Lk X F D.rt R.rt
  bk : LkM X F D.bk R.bk
  ct : LkM X F D.ct R.ct
def DE (e : Expr) (ρ : Ev) (M : Mem) (Q : QE) : Prop := ∀ σ H F, EnvOk X.K F σ ρ → WD X.K F M H → ∀ R, Lk X F Q R → wpE X e σ H R
def DT (e : Expr) (ρ : Ev) (M : Mem) (Q : Bool → Mem → Prop) : Prop := ∀ σ H F, EnvOk X.K F σ ρ → WD X.K F M H → ∀ R, LkT X F Q R → wpT X e σ H R
def DW (e : Expr) (ρ : Ev) (M : Mem) (Q : Bool → Mem → Prop) : Prop := ∀ σ H F, EnvOk X.K F σ ρ → WD X.K F M H → ∀ R, LkT X F Q R → wpW X e σ H R
def DA (es : List Expr) (ρ : Ev) (M : Mem) (Q : List EV → Mem → Prop) : Prop := ∀ σ H F, EnvOk X.K F σ ρ → WD X.K F M H → ∀ R, LkA X F Q R → wpA X es σ H R
def DS (st : Stmt) (ρ : Ev) (M : Mem) (D : DEnds) : Prop := ∀ σ H F, EnvOk X.K F σ ρ → WD X.K F M H → ∀ R, LkD X F D R → wpS X st R σ H
def DSs (st : List Stmt) (ρ : Ev) (M : Mem) (D : DEnds) : Prop := ∀ σ H F, EnvOk X.K F σ ρ → WD X.K F M H → ∀ R, LkD X F D R → wpSs X st R σ H
def DG (tg : Expr) (d : EV) (ρ : Ev) (M : Mem) (Q : QM) : Prop := ∀ σ H F v, EnvOk X.K F σ ρ → WD X.K F M H → EvOk X.K F v d → ∀ R, LkM X F Q R → wpG X tg v σ H R
def DGs (tgs : List Expr) (ds : List EV) (ρ : Ev) (M : Mem) (Q : QM) : Prop := ∀ σ H F vs, EnvOk X.K F σ ρ → WD X.K F M H → EvsOk X.K F vs ds → ∀ R, LkM X F Q R → wpGs X tgs vs σ H R
end
section
variable {X : Cx} {F F' : Hp}
theorem Lk.mono {Q : QE} {R : VK} (e : Same F F') (k : Lk X F Q R) : Lk X F' Q R := fun v d F2 M H q s w x => k v d F2 M H q (e.trans s) w x
theorem LkT.mono {Q : Bool → Mem → Prop} {R : Bool → Hp → Prop} (e : Same F F') (k : LkT X F Q R) : LkT X F' Q R := fun v F2 M H q s w => k v F2 M H q (e.trans s) w
theorem LkA.mono {Q : List EV → Mem → Prop} {R : List V → Hp → Prop} (e : Same F F') (k : LkA X F Q R) : LkA X F' Q R := fun v d F2 M H q s w x => k v d F2 M H q (e.trans s) w x
theorem LkM.mono {Q : QM} {R : St → Hp → Prop} (e : Same F F') (k : LkM X F Q R) : LkM X F' Q R := fun v d F2 M H q s w x => k v d F2 M H q (e.trans s) w x
theorem LkD.mono {D : DEnds} {R : Ends} (e : Same F F') (k : LkD X F D R) : LkD X F' D R := ⟨k.nx.mono e, k.rt.mono e, k.bk.mono e, k.ct.mono e⟩
end

/-! ### expressions -/
section
variable {X : Cx} {e a b c : Expr} {es : List Expr} {pos : Pos} {ρ : Ev} {M : Mem} {Q : QE}

theorem de_var (i : Nat) {x : Str} {d : EV} (hd : ρ[i]? = some (some d)) (q : Q d M) (hN : X.N[i]? = some x := by rfl) (hv : Vis X.env.scope x := by first | exact Or.inl rfl | exact Or.inr (Or.inl rfl) | exact Or.inr (Or.inr rfl))
    (h1 : (x == ("__debug__" : Str)) = false := by decide) (h2 : (x == ("__classdict__" : Str)) = false := by decide) : DE X (.Name x pos) ρ M Q := fun σ H F ho hw R k => by
  obtain ⟨v, e1, e2⟩ := ho.at_ i d hd
  exact toE (pe_var hN hv h1 h2) ⟨v, e1, k v d F M H q (Same.refl F) hw e2⟩
theorem de_int {i : Int} {j} (q : Q (I i) M) : DE X (.Constant (.int i) j pos) ρ M Q := fun σ H F ho hw R k => toE pe_int (k _ _ F M H q (Same.refl F) hw (.int i))
theorem de_bl {i : Bool} {j} (q : Q (B i) M) : DE X (.Constant (.bool i) j pos) ρ M Q := fun σ H F ho hw R k => toE pe_bl (k _ _ F M H q (Same.refl F) hw (.bl i))
theorem de_str {i : Str} {j} (q : Q (S i) M) : DE X (.Constant (.str i) j pos) ρ M Q := fun σ H F ho hw R k => toE pe_str (k _ _ F M H q (Same.refl F) hw (.str i))
theorem de_non {j} (q : Q N0 M) : DE X (.Constant .none j pos) ρ M Q := fun σ H F ho hw R k => toE pe_non (k _ _ F M H q (Same.refl F) hw .non)

/-- two values, then an operation on values -/
theorem two {ta : TE} {r : R2} (h : DE X a ρ M fun d1 M1 => DE X b ρ M1 fun d2 M2 => ∀ F H v1 v2, EvOk X.K F v1 d1 → EvOk X.K F v2 d2 → WD X.K F M2 H → ∀ R, Lk X F Q R → r v1 v2 H R)
    (hp : PE X e (tOp r (wpE X a) (wpE X b))) : DE X e ρ M Q := fun σ H F ho hw R k => by
  refine toE hp ?_
  refine h σ H F ho hw _ fun v1 d1 F1 M1 H1 q1 s1 w1 x1 => ?_
  refine q1 σ H1 F1 (ho.mono s1) w1 _ fun v2 d2 F2 M2 H2 q2 s2 w2 x2 => ?_
  exact q2 F2 H2 v1 v2 (x1.mono s2) x2 w2 R (k.mono (s1.trans s2))
theorem de_bin {op : Operator} {r : R2} (ho : OpR X (binaryOp op) r) (h : DE X a ρ M fun d1 M1 => DE X b ρ M1 fun d2 M2 => ∀ F H v1 v2, EvOk X.K F v1 d1 → EvOk X.K F v2 d2 → WD X.K F M2 H → ∀ R, Lk X F Q R → r v1 v2 H R) :
    DE X (.BinOp a op b pos) ρ M Q := two (ta := wpE X a) h (pe_op ho sE sE)
theorem DE.imp {Q' : QE} (h : DE X e ρ M Q) (i : ∀ d M', Q d M' → Q' d M') : DE X e ρ M Q' := fun σ H F ho hw R k => h σ H F ho hw R fun v d F' M' H' q s w x => k v d F' M' H' (i _ _ q) s w x
theorem DT.imp {Q Q' : Bool → Mem → Prop} (h : DT X e ρ M Q) (i : ∀ d M', Q d M' → Q' d M') : DT X e ρ M Q' := fun σ H F ho hw R k => h σ H F ho hw R fun d F' M' H' q s w => k d F' M' H' (i _ _ q) s w
/-- ints, with a condition -/
theorem de_iC {op : Operator} {C : Int → Int → Prop} {g : Int → Int → Int} (ho : OpR X (binaryOp op) (rI C fun i j => .int (g i j)))
    (h : DE X a ρ M fun d1 M1 => DE X b ρ M1 fun d2 M2 => ∃ i j, d1 = I i ∧ d2 = I j ∧ C i j ∧ Q (I (g i j)) M2) : DE X (.BinOp a op b pos) ρ M Q := by
  refine de_bin ho (h.imp fun d1 M1 h1 => h1.imp fun d2 M2 h2 => ?_)
  obtain ⟨i, j, rfl, rfl, hc, q⟩ := h2
  intro F H v1 v2 x1 x2 w R k
  cases x1
  cases x2
  exact ⟨i, j, rfl, rfl, hc, k _ _ F M2 H q (Same.refl F) w (.int _)⟩
theorem de_i0 {op : Operator} {g : Int → Int → Int} (ho : OpR X (binaryOp op) (rI0 fun i j => .int (g i j)))
    (h : DE X a ρ M fun d1 M1 => DE X b ρ M1 fun d2 M2 => ∃ i j, d1 = I i ∧ d2 = I j ∧ Q (I (g i j)) M2) : DE X (.BinOp a op b pos) ρ M Q := by
  refine de_bin ho (h.imp fun d1 M1 h1 => h1.imp fun d2 M2 h2 => ?_)
  obtain ⟨i, j, rfl, rfl, q⟩ := h2
  intro F H v1 v2 x1 x2 w R k
  cases x1
  cases x2
  exact ⟨i, j, rfl, rfl, k _ _ F M2 H q (Same.refl F) w (.int _)⟩
theorem de_add (h : DE X a ρ M fun d1 M1 => DE X b ρ M1 fun d2 M2 => ∃ i j, d1 = I i ∧ d2 = I j ∧ Q (I (i + j)) M2) : DE X (.BinOp a .Add b pos) ρ M Q := de_i0 op_add h
theorem de_sub (h : DE X a ρ M fun d1 M1 => DE X b ρ M1 fun d2 M2 => ∃ i j, d1 = I i ∧ d2 = I j ∧ Q (I (i - j)) M2) : DE X (.BinOp a .Sub b pos) ρ M Q := de_i0 op_sub h
theorem de_mul (h : DE X a ρ M fun d1 M1 => DE X b ρ M1 fun d2 M2 => ∃ i j, d1 = I i ∧ d2 = I j ∧ CMul i j ∧ Q (I (i * j)) M2) : DE X (.BinOp a .Mult b pos) ρ M Q := de_iC op_mul h
theorem de_mulW (h : DE X a ρ M fun d1 M1 => DE X b ρ M1 fun d2 M2 => ∃ i j, d1 = I i ∧ d2 = I j ∧ CMulW i j ∧ Q (I (i * j)) M2) : DE X (.BinOp a .Mult b pos) ρ M Q := de_iC op_mulW h
theorem de_div (h : DE X a ρ M fun d1 M1 => DE X b ρ M1 fun d2 M2 => ∃ i j, d1 = I i ∧ d2 = I j ∧ CDiv i j ∧ Q (I (i / j)) M2) : DE X (.BinOp a .FloorDiv b pos) ρ M Q := de_iC op_fdiv h
theorem de_divW (h : DE X a ρ M fun d1 M1 => DE X b ρ M1 fun d2 M2 => ∃ i j, d1 = I i ∧ d2 = I j ∧ CDivW i j ∧ Q (I (i / j)) M2) : DE X (.BinOp a .FloorDiv b pos) ρ M Q := de_iC op_fdivW h
theorem de_divN (h : DE X a ρ M fun d1 M1 => DE X b ρ M1 fun d2 M2 => ∃ i j, d1 = I i ∧ d2 = I j ∧ CDivN i j ∧ Q (I (i.fdiv j)) M2) : DE X (.BinOp a .FloorDiv b pos) ρ M Q := de_iC op_fdivN h
theorem de_mod (h : DE X a ρ M fun d1 M1 => DE X b ρ M1 fun d2 M2 => ∃ i j, d1 = I i ∧ d2 = I j ∧ 0 < j ∧ Q (I (i % j)) M2) : DE X (.BinOp a .Mod b pos) ρ M Q := de_iC (C := fun _ j => 0 < j) op_mod h
theorem de_pow (h : DE X a ρ M fun d1 M1 => DE X b ρ M1 fun d2 M2 => ∃ i j, d1 = I i ∧ d2 = I j ∧ CPow i j ∧ Q (I (i ^ j.toNat)) M2) : DE X (.BinOp a .Pow b pos) ρ M Q := de_iC op_pow h
/-- texts put together -/
theorem de_cat (h : DE X a ρ M fun d1 M1 => DE X b ρ M1 fun d2 M2 => ∃ i j, d1 = S i ∧ d2 = S j ∧ i.length + j.length ≤ 10000 ∧ Q (S (i ++ j)) M2) : DE X (.BinOp a .Add b pos) ρ M Q := by
  refine de_bin op_add_str (h.imp fun d1 M1 h1 => h1.imp fun d2 M2 h2 => ?_)
  obtain ⟨i, j, rfl, rfl, hl, q⟩ := h2
  intro F H v1 v2 x1 x2 w R k
  cases x1
  cases x2
  exact ⟨i, j, rfl, rfl, Nat.le_trans hl (by decide), k _ _ F M2 H q (Same.refl F) w (.str _)⟩
theorem de_neg (h : DE X a ρ M fun d1 M1 => ∃ i, d1 = I i ∧ Q (I (-i)) M1) : DE X (.UnaryOp .USub a pos) ρ M Q := fun σ H F ho hw R k => by
  refine toE (pe_un un_neg sE) ?_
  refine h σ H F ho hw _ fun v1 d1 F1 M1 H1 q1 s1 w1 x1 => ?_
  obtain ⟨i, rfl, q⟩ := q1
  cases x1
  exact ⟨i, rfl, k _ _ F1 M1 H1 q s1 w1 (.int _)⟩

/-! arguments -/
theorem da_nil {Q : List EV → Mem → Prop} (q : Q [] M) : DA X [] ρ M Q := fun σ H F ho hw R k => toA pa_nil (k _ _ F M H q (Same.refl F) hw .nil)
theorem da_cons {Q : List EV → Mem → Prop} (h : DE X e ρ M fun d M1 => DA X es ρ M1 fun ds M2 => Q (d :: ds) M2) (hs : starEach (e :: es) X.env = (false, eval e X.env) :: starEach es X.env := by rfl) : DA X (e :: es) ρ M Q := fun σ H F ho hw R k => by
  refine toA (pa_cons sE sA hs) ?_
  refine h σ H F ho hw _ fun v1 d1 F1 M1 H1 q1 s1 w1 x1 => ?_
  refine q1 σ H1 F1 (ho.mono s1) w1 _ fun vs ds F2 M2 H2 q2 s2 w2 x2 => ?_
  exact k _ _ F2 M2 H2 q2 (s1.trans s2) w2 (.cons (x1.mono s2) x2)
theorem DA.imp {Q Q' : List EV → Mem → Prop} (h : DA X es ρ M Q) (i : ∀ d M', Q d M' → Q' d M') : DA X es ρ M Q' := fun σ H F ho hw R k => h σ H F ho hw R fun v d F' M' H' q s w x => k v d F' M' H' (i _ _ q) s w x

/-! displays -/
theorem small_line {n : Nat} (h : n ≤ 100000) : n ≤ sizeLine := Nat.le_trans h (by decide)
theorem de_tup {x1} (h : DA X es ρ M fun ds M1 => ∃ ps : List PyData, ds = ps.map EV.d ∧ Nat.ble ps.length 100000 = true ∧ Q (T ps) M1) : DE X (.Tuple es x1 pos) ρ M Q := fun σ H F ho hw R k => by
  refine toE (pe_tup sA) ?_
  refine h σ H F ho hw _ fun vs ds F1 M1 H1 q1 s1 w1 x1 => ?_
  obtain ⟨ps, rfl, hl, q⟩ := q1
  have hd := evs_data x1
  refine ⟨by rw [dps_len hd]; exact small_line (Nat.le_of_ble_eq_true hl), fun p hp => ?_⟩
  obtain ⟨s2, w2⟩ := w1.laid (o := .tup vs) hp
  exact k _ _ _ M1 _ q (s1.trans s2) w2 (.tup (SqT.of upd_same) (dps_mono s2 _ _ hd))
/-- a new list that may change -/
theorem de_lst (h : DA X es ρ M fun ds M1 => ∃ ps : List PyData, ds = ps.map EV.d ∧ Nat.ble ps.length 100000 = true ∧ ∀ a, M1 a = none → Q (.o a) (updM M1 a (.lst ps))) : DE X (.List es pos) ρ M Q := fun σ H F ho hw R k => by
  refine toE (pe_lst sA) ?_
  refine h σ H F ho hw _ fun vs ds F1 M1 H1 q1 s1 w1 x1 => ?_
  obtain ⟨ps, rfl, hl, q⟩ := q1
  have hd := evs_data x1
  refine ⟨by rw [dps_len hd]; exact small_line (Nat.le_of_ble_eq_true hl), fun p hp => ?_⟩
  exact k _ _ F1 _ _ (q p (w1.fresh hp).2) s1 (w1.new hp ⟨vs, rfl, hd⟩) rfl
/-- a new list as data -/
theorem de_lstD (h : DA X es ρ M fun ds M1 => ∃ ps : List PyData, ds = ps.map EV.d ∧ Nat.ble ps.length 100000 = true ∧ Q (L ps) M1) : DE X (.List es pos) ρ M Q := fun σ H F ho hw R k => by
  refine toE (pe_lst sA) ?_
  refine h σ H F ho hw _ fun vs ds F1 M1 H1 q1 s1 w1 x1 => ?_
  obtain ⟨ps, rfl, hl, q⟩ := q1
  have hd := evs_data x1
  refine ⟨by rw [dps_len hd]; exact small_line (Nat.le_of_ble_eq_true hl), fun p hp => ?_⟩
  obtain ⟨s2, w2⟩ := w1.laid (o := .lst vs) hp
  exact k _ _ _ M1 _ q (s1.trans s2) w2 (.lst (SqL.of upd_same) (dps_mono s2 _ _ hd))

/-! items -/
theorem atI_map {α β : Type} (f : α → β → Prop) {xs : List α} {ys : List β} {i : Int} {y : β} (hl : xs.length = ys.length) (hg : ∀ (j : Nat) (y : β), ys[j]? = some y → ∃ x, xs[j]? = some x ∧ f x y) (h : atI ys i = some y) : ∃ x, atI xs i = some x ∧ f x y := by
  unfold atI at h ⊢
  rw [hl]
  cases e : ixN ys.length i with
  | none => rw [e] at h; cases h
  | some j =>
    rw [e] at h
    exact hg j y h
theorem de_ixT (h : DE X a ρ M fun d1 M1 => DE X b ρ M1 fun d2 M2 => ∃ ps i p, d1 = T ps ∧ d2 = I i ∧ atI ps i = some p ∧ Q (.d p) M2) (hb : PlainIx b := by exact fun _ _ => rfl) : DE X (.Subscript a b pos) ρ M Q := by
  refine two (ta := wpE X a) (h.imp fun d1 M1 h1 => h1.imp fun d2 M2 h2 => ?_) (pe_ix ix_tup sE sE hb)
  obtain ⟨ps, i, p, rfl, rfl, hp, q⟩ := h2
  intro F H v1 v2 x1 x2 w R k
  cases x1 with
  | tup hs ht =>
    cases x2
    obtain ⟨v, e1, e2⟩ := atI_map (Dp X.K F) (dps_len ht) (fun j y hy => dps_get ht hy) hp
    exact ⟨_, _, i, v, rfl, rfl, sqT_mono w.ext hs, e1, k _ _ F M2 H q (Same.refl F) w e2⟩
theorem de_ixL (h : DE X a ρ M fun d1 M1 => DE X b ρ M1 fun d2 M2 => ∃ ps i p, d1 = L ps ∧ d2 = I i ∧ atI ps i = some p ∧ Q (.d p) M2) (hb : PlainIx b := by exact fun _ _ => rfl) : DE X (.Subscript a b pos) ρ M Q := by
  refine two (ta := wpE X a) (h.imp fun d1 M1 h1 => h1.imp fun d2 M2 h2 => ?_) (pe_ix ix_list sE sE hb)
  obtain ⟨ps, i, p, rfl, rfl, hp, q⟩ := h2
  intro F H v1 v2 x1 x2 w R k
  cases x1 with
  | lst hs ht =>
    cases x2
    obtain ⟨v, e1, e2⟩ := atI_map (Dp X.K F) (dps_len ht) (fun j y hy => dps_get ht hy) hp
    exact ⟨_, _, i, v, rfl, rfl, sqL_mono w.ext hs, e1, k _ _ F M2 H q (Same.refl F) w e2⟩
theorem de_ixO (h : DE X a ρ M fun d1 M1 => DE X b ρ M1 fun d2 M2 => ∃ l ps i p, d1 = .o l ∧ M2 l = some (.lst ps) ∧ d2 = I i ∧ atI ps i = some p ∧ Q (.d p) M2) (hb : PlainIx b := by exact fun _ _ => rfl) : DE X (.Subscript a b pos) ρ M Q := by
  refine two (ta := wpE X a) (h.imp fun d1 M1 h1 => h1.imp fun d2 M2 h2 => ?_) (pe_ix ix_list sE sE hb)
  obtain ⟨l, ps, i, p, rfl, hl, rfl, hp, q⟩ := h2
  intro F H v1 v2 x1 x2 w R k
  cases (show v1 = V.ref l from x1)
  cases x2
  obtain ⟨hF, vs, e, ht⟩ := w.mem l _ hl
  obtain ⟨v, e1, e2⟩ := atI_map (Dp X.K F) (dps_len ht) (fun j y hy => dps_get ht hy) hp
  exact ⟨_, _, i, v, rfl, rfl, SqL.of e, e1, k _ _ F M2 H q (Same.refl F) w e2⟩

/-! comparisons as values and tests -/
theorem DT.of_val {Q : Bool → Mem → Prop} (h : DE X e ρ M fun d M1 => ∃ k, d = B k ∧ Q k M1) (he : ∀ whole, isTrue e X.env whole = (do let v ← whole; standAt e.pos; holding [v] (truthy v)) := by intro _; rfl) : DT X e ρ M Q := fun σ H F ho hw R k => by
  refine toT (pt_val sE he) ?_
  refine h σ H F ho hw _ fun v1 d1 F1 M1 H1 q1 s1 w1 x1 => ?_
  obtain ⟨c, rfl, q⟩ := q1
  cases x1
  exact ⟨c, rfl, k c F1 M1 H1 q s1 w1⟩
theorem de_cmp {op : CmpOp} {r : R2} (ho : OpR X (compareOp op) r) (h : DE X a ρ M fun d1 M1 => DE X b ρ M1 fun d2 M2 => ∀ F H v1 v2, EvOk X.K F v1 d1 → EvOk X.K F v2 d2 → WD X.K F M2 H → ∀ R, Lk X F Q R → r v1 v2 H R)
    (hm : behindInMarks op b = false) : DE X (.Compare a [op] [b] pos) ρ M Q := two (ta := wpE X a) h (pe_cmpR ho sE sE hm)
theorem dt_cmp {op : CmpOp} {r : R2} {Q : Bool → Mem → Prop} (ho : OpR X (compareOp op) r) (h : DE X a ρ M fun d1 M1 => DE X b ρ M1 fun d2 M2 => ∀ F H v1 v2, EvOk X.K F v1 d1 → EvOk X.K F v2 d2 → WD X.K F M2 H → ∀ R, Lk X F (fun d M' => ∃ k, d = B k ∧ Q k M') R → r v1 v2 H R)
    (hm : behindInMarks op b = false) : DT X (.Compare a [op] [b] pos) ρ M Q := fun σ H F ho' hw R k => by
  refine toT (pt_cmpR ho sE sE hm) ?_
  refine h σ H F ho' hw _ fun v1 d1 F1 M1 H1 q1 s1 w1 x1 => ?_
  refine q1 σ H1 F1 (ho'.mono s1) w1 _ fun v2 d2 F2 M2 H2 q2 s2 w2 x2 => ?_
  refine q2 F2 H2 v1 v2 (x1.mono s2) x2 w2 _ fun v d F3 M3 H3 q3 s3 w3 x3 => ?_
  obtain ⟨c, rfl, q⟩ := q3
  cases x3
  exact ⟨c, rfl, k c F3 M3 H3 q ((s1.trans s2).trans s3) w3⟩
/-- an int comparison's rule, told for both -/
def CmpI (X : Cx) (op : CmpOp) (g : Int → Int → Bool) : Prop := OpR X (compareOp op) (rI0 fun i j => .bl (g i j))
theorem ci_lt : CmpI X .Lt (fun i j => decide (i < j)) := op_lt
theorem ci_le : CmpI X .LtE (fun i j => decide (i ≤ j)) := op_le
theorem ci_gt : CmpI X .Gt (fun i j => decide (j < i)) := op_gt
theorem ci_ge : CmpI X .GtE (fun i j => decide (j ≤ i)) := op_ge
theorem ci_eq : CmpI X .Eq (fun i j => decide (i = j)) := by
  intro pins s σ H x y v u Q I rx ry h
  obtain ⟨i, j, rfl, rfl, q⟩ := h
  refine op_eq pins s σ H _ _ v u Q I rx ry ⟨rfl, ?_⟩
  rw [show decide (V.int i = V.int j) = decide (i = j) by rw [dec_int]; exact Bool.beq_eq_decide_eq i j]
  exact q
theorem ci_ne : CmpI X .NotEq (fun i j => !decide (i = j)) := by
  intro pins s σ H x y v u Q I rx ry h
  obtain ⟨i, j, rfl, rfl, q⟩ := h
  refine op_ne pins s σ H _ _ v u Q I rx ry ⟨rfl, ?_⟩
  rw [show decide (V.int i = V.int j) = decide (i = j) by rw [dec_int]; exact Bool.beq_eq_decide_eq i j]
  exact q
theorem de_cmpI {op : CmpOp} {g : Int → Int → Bool} (hc : CmpI X op g) (h : DE X a ρ M fun d1 M1 => DE X b ρ M1 fun d2 M2 => ∃ i j, d1 = I i ∧ d2 = I j ∧ Q (B (g i j)) M2) (hm : behindInMarks op b = false := by exact nomark _) : DE X (.Compare a [op] [b] pos) ρ M Q := by
  refine de_cmp hc (h.imp fun d1 M1 h1 => h1.imp fun d2 M2 h2 => ?_) hm
  obtain ⟨i, j, rfl, rfl, q⟩ := h2
  intro F H v1 v2 x1 x2 w R k
  cases x1
  cases x2
  exact ⟨i, j, rfl, rfl, k _ _ F M2 H q (Same.refl F) w (.bl _)⟩
theorem dt_cmpI {op : CmpOp} {g : Int → Int → Bool} {Q : Bool → Mem → Prop} (hc : CmpI X op g) (h : DE X a ρ M fun d1 M1 => DE X b ρ M1 fun d2 M2 => ∃ i j, d1 = I i ∧ d2 = I j ∧ Q (g i j) M2) (hm : behindInMarks op b = false := by exact nomark _) : DT X (.Compare a [op] [b] pos) ρ M Q := by
  refine dt_cmp hc (h.imp fun d1 M1 h1 => h1.imp fun d2 M2 h2 => ?_) hm
  obtain ⟨i, j, rfl, rfl, q⟩ := h2
  intro F H v1 v2 x1 x2 w R k
  cases x1
  cases x2
  exact ⟨i, j, rfl, rfl, k _ _ F M2 H ⟨_, rfl, q⟩ (Same.refl F) w (.bl _)⟩
/-- == and != of data -/
theorem de_eqD (hu : X.A.units + 64 < cLine) (h : DE X a ρ M fun d1 M1 => DE X b ρ M1 fun d2 M2 => ∃ p q, d1 = .d p ∧ d2 = .d q ∧ SeqAt.shaped p = true ∧ SeqAt.shaped q = true ∧ Q (B (PyData.eqv p q)) M2) : DE X (.Compare a [.Eq] [b] pos) ρ M Q := by
  refine de_cmp (op_eqD hu) (h.imp fun d1 M1 h1 => h1.imp fun d2 M2 h2 => ?_) (nomark _)
  obtain ⟨p, p', rfl, rfl, s1, s2, q⟩ := h2
  intro F H v1 v2 x1 x2 w R k
  exact ⟨p, p', dp_mono w.ext _ _ x1, dp_mono w.ext _ _ x2, s1, s2, k _ _ F M2 H q (Same.refl F) w (.bl _)⟩
theorem de_neD (hu : X.A.units + 64 < cLine) (h : DE X a ρ M fun d1 M1 => DE X b ρ M1 fun d2 M2 => ∃ p q, d1 = .d p ∧ d2 = .d q ∧ SeqAt.shaped p = true ∧ SeqAt.shaped q = true ∧ Q (B (!PyData.eqv p q)) M2) : DE X (.Compare a [.NotEq] [b] pos) ρ M Q := by
  refine de_cmp (op_neD hu) (h.imp fun d1 M1 h1 => h1.imp fun d2 M2 h2 => ?_) (nomark _)
  obtain ⟨p, p', rfl, rfl, s1, s2, q⟩ := h2
  intro F H v1 v2 x1 x2 w R k
  exact ⟨p, p', dp_mono w.ext _ _ x1, dp_mono w.ext _ _ x2, s1, s2, k _ _ F M2 H q (Same.refl F) w (.bl _)⟩
theorem dt_eqD {Q : Bool → Mem → Prop} (hu : X.A.units + 64 < cLine) (h : DE X a ρ M fun d1 M1 => DE X b ρ M1 fun d2 M2 => ∃ p q, d1 = .d p ∧ d2 = .d q ∧ SeqAt.shaped p = true ∧ SeqAt.shaped q = true ∧ Q (PyData.eqv p q) M2) : DT X (.Compare a [.Eq] [b] pos) ρ M Q := by
  refine dt_cmp (op_eqD hu) (h.imp fun d1 M1 h1 => h1.imp fun d2 M2 h2 => ?_) (nomark _)
  obtain ⟨p, p', rfl, rfl, s1, s2, q⟩ := h2
  intro F H v1 v2 x1 x2 w R k
  exact ⟨p, p', dp_mono w.ext _ _ x1, dp_mono w.ext _ _ x2, s1, s2, k _ _ F M2 H ⟨_, rfl, q⟩ (Same.refl F) w (.bl _)⟩
theorem dt_neD {Q : Bool → Mem → Prop} (hu : X.A.units + 64 < cLine) (h : DE X a ρ M fun d1 M1 => DE X b ρ M1 fun d2 M2 => ∃ p q, d1 = .d p ∧ d2 = .d q ∧ SeqAt.shaped p = true ∧ SeqAt.shaped q = true ∧ Q (!PyData.eqv p q) M2) : DT X (.Compare a [.NotEq] [b] pos) ρ M Q := by
  refine dt_cmp (op_neD hu) (h.imp fun d1 M1 h1 => h1.imp fun d2 M2 h2 => ?_) (nomark _)
  obtain ⟨p, p', rfl, rfl, s1, s2, q⟩ := h2
  intro F H v1 v2 x1 x2 w R k
  exact ⟨p, p', dp_mono w.ext _ _ x1, dp_mono w.ext _ _ x2, s1, s2, k _ _ F M2 H ⟨_, rfl, q⟩ (Same.refl F) w (.bl _)⟩
/-- is None -/
def isNone : PyData → Bool
  | .none => true
  | _ => false
theorem dp_none {K : PySem.W.Frag} {F : Hp} {v : V} {p : PyData} (h : Dp K F v p) : decide (v = .non) = isNone p := by
  cases h <;> simp [isNone]
theorem de_isN {j p'} (h : DE X a ρ M fun d1 M1 => ∃ p, d1 = .d p ∧ Q (B (isNone p)) M1) : DE X (.Compare a [.Is] [.Constant .none j p'] pos) ρ M Q := by
  refine de_cmp op_isN (h.imp fun d1 M1 h1 => de_non ?_) (nomark _)
  obtain ⟨p, rfl, q⟩ := h1
  intro F H v1 v2 x1 x2 w R k
  cases x2
  refine ⟨rfl, ?_⟩
  rw [dp_none x1]
  exact k _ _ F M1 H q (Same.refl F) w (.bl _)
theorem de_isnotN {j p'} (h : DE X a ρ M fun d1 M1 => ∃ p, d1 = .d p ∧ Q (B (!isNone p)) M1) : DE X (.Compare a [.IsNot] [.Constant .none j p'] pos) ρ M Q := by
  refine de_cmp op_notN (h.imp fun d1 M1 h1 => de_non ?_) (nomark _)
  obtain ⟨p, rfl, q⟩ := h1
  intro F H v1 v2 x1 x2 w R k
  cases x2
  refine ⟨rfl, ?_⟩
  rw [dp_none x1]
  exact k _ _ F M1 H q (Same.refl F) w (.bl _)
theorem dt_isN {j p'} {Q : Bool → Mem → Prop} (h : DE X a ρ M fun d1 M1 => ∃ p, d1 = .d p ∧ Q (isNone p) M1) : DT X (.Compare a [.Is] [.Constant .none j p'] pos) ρ M Q := by
  refine dt_cmp op_isN (h.imp fun d1 M1 h1 => de_non ?_) (nomark _)
  obtain ⟨p, rfl, q⟩ := h1
  intro F H v1 v2 x1 x2 w R k
  cases x2
  refine ⟨rfl, ?_⟩
  rw [dp_none x1]
  exact k _ _ F M1 H ⟨_, rfl, q⟩ (Same.refl F) w (.bl _)
theorem dt_isnotN {j p'} {Q : Bool → Mem → Prop} (h : DE X a ρ M fun d1 M1 => ∃ p, d1 = .d p ∧ Q (!isNone p) M1) : DT X (.Compare a [.IsNot] [.Constant .none j p'] pos) ρ M Q := by
  refine dt_cmp op_notN (h.imp fun d1 M1 h1 => de_non ?_) (nomark _)
  obtain ⟨p, rfl, q⟩ := h1
  intro F H v1 v2 x1 x2 w R k
  cases x2
  refine ⟨rfl, ?_⟩
  rw [dp_none x1]
  exact k _ _ F M1 H ⟨_, rfl, q⟩ (Same.refl F) w (.bl _)
/-- is True, is not True .. -/
theorem dt_isB {Q : Bool → Mem → Prop} (h : DE X a ρ M fun d1 M1 => DE X b ρ M1 fun d2 M2 => ∃ i j, d1 = B i ∧ d2 = B j ∧ Q (decide (i = j)) M2) : DT X (.Compare a [.Is] [b] pos) ρ M Q := by
  refine dt_cmp op_isBl (h.imp fun d1 M1 h1 => h1.imp fun d2 M2 h2 => ?_) (nomark _)
  obtain ⟨i, j, rfl, rfl, q⟩ := h2
  intro F H v1 v2 x1 x2 w R k
  cases x1
  cases x2
  exact ⟨i, j, rfl, rfl, k _ _ F M2 H ⟨_, rfl, q⟩ (Same.refl F) w (.bl _)⟩
theorem dt_notB {Q : Bool → Mem → Prop} (h : DE X a ρ M fun d1 M1 => DE X b ρ M1 fun d2 M2 => ∃ i j, d1 = B i ∧ d2 = B j ∧ Q (!decide (i = j)) M2) : DT X (.Compare a [.IsNot] [b] pos) ρ M Q := by
  refine dt_cmp op_notBl (h.imp fun d1 M1 h1 => h1.imp fun d2 M2 h2 => ?_) (nomark _)
  obtain ⟨i, j, rfl, rfl, q⟩ := h2
  intro F H v1 v2 x1 x2 w R k
  cases x1
  cases x2
  exact ⟨i, j, rfl, rfl, k _ _ F M2 H ⟨_, rfl, q⟩ (Same.refl F) w (.bl _)⟩

/-! and, or, not -/
variable {rest : List Expr} {QT : Bool → Mem → Prop}
theorem DW.dt (h : DW X e ρ M QT) : DT X e ρ M QT := fun σ H F ho hw R k pins s I => h σ H F ho hw R k _ pins s I
theorem dw_and1 (h : DT X a ρ M QT) : DW X (.BoolOp .And [a] pos) ρ M QT := fun σ H F ho hw R k => toW (pw_and1 sT) (h σ H F ho hw R k)
theorem dw_or1 (h : DT X a ρ M QT) : DW X (.BoolOp .Or [a] pos) ρ M QT := fun σ H F ho hw R k => toW (pw_or1 sT) (h σ H F ho hw R k)
theorem dw_and (h : DT X a ρ M fun c M1 => if c = true then DW X (.BoolOp .And (b :: rest) pos) ρ M1 QT else QT false M1) : DW X (.BoolOp .And (a :: b :: rest) pos) ρ M QT := fun σ H F ho hw R k => by
  refine toW (pw_and sT sW) ?_
  refine h σ H F ho hw _ fun c F1 M1 H1 q1 s1 w1 => ?_
  cases c with
  | true => exact q1 σ H1 F1 (ho.mono s1) w1 R (k.mono s1)
  | false => exact k false F1 M1 H1 q1 s1 w1
theorem dw_or (h : DT X a ρ M fun c M1 => if c = true then QT true M1 else DW X (.BoolOp .Or (b :: rest) pos) ρ M1 QT) : DW X (.BoolOp .Or (a :: b :: rest) pos) ρ M QT := fun σ H F ho hw R k => by
  refine toW (pw_or sT sW) ?_
  refine h σ H F ho hw _ fun c F1 M1 H1 q1 s1 w1 => ?_
  cases c with
  | true => exact k true F1 M1 H1 q1 s1 w1
  | false => exact q1 σ H1 F1 (ho.mono s1) w1 R (k.mono s1)
theorem dt_not (h : DT X a ρ M fun c M1 => QT (!c) M1) : DT X (.UnaryOp .Not a pos) ρ M QT := fun σ H F ho hw R k => toT (pt_not sT) (h σ H F ho hw _ fun c F1 M1 H1 q1 s1 w1 => k (!c) F1 M1 H1 q1 s1 w1)
theorem de_one {op} (h : DE X a ρ M Q) : DE X (.BoolOp op [a] pos) ρ M Q := fun σ H F ho hw R k => toE (pe_one sE) (h σ H F ho hw R k)
theorem de_and (h : DE X a ρ M fun d M1 => ∃ c, d = B c ∧ if c = true then DE X (.BoolOp .And (b :: rest) pos) ρ M1 Q else Q (B false) M1) : DE X (.BoolOp .And (a :: b :: rest) pos) ρ M Q := fun σ H F ho hw R k => by
  refine toE (pe_and sE sE) ?_
  refine h σ H F ho hw _ fun v1 d1 F1 M1 H1 q1 s1 w1 x1 => ?_
  obtain ⟨c, rfl, q⟩ := q1
  cases x1
  refine ⟨c, rfl, ?_⟩
  cases c with
  | true => exact q σ H1 F1 (ho.mono s1) w1 R (k.mono s1)
  | false => exact k _ _ F1 M1 H1 q s1 w1 (.bl _)
theorem de_or (h : DE X a ρ M fun d M1 => ∃ c, d = B c ∧ if c = true then Q (B true) M1 else DE X (.BoolOp .Or (b :: rest) pos) ρ M1 Q) : DE X (.BoolOp .Or (a :: b :: rest) pos) ρ M Q := fun σ H F ho hw R k => by
  refine toE (pe_or sE sE) ?_
  refine h σ H F ho hw _ fun v1 d1 F1 M1 H1 q1 s1 w1 x1 => ?_
  obtain ⟨c, rfl, q⟩ := q1
  cases x1
  refine ⟨c, rfl, ?_⟩
  cases c with
  | true => exact k _ _ F1 M1 H1 q s1 w1 (.bl _)
  | false => exact q σ H1 F1 (ho.mono s1) w1 R (k.mono s1)
theorem de_not (h : DE X a ρ M fun d M1 => ∃ c, d = B c ∧ Q (B (!c)) M1) : DE X (.UnaryOp .Not a pos) ρ M Q := fun σ H F ho hw R k => by
  refine toE (pe_not sE) ?_
  refine h σ H F ho hw _ fun v1 d1 F1 M1 H1 q1 s1 w1 x1 => ?_
  obtain ⟨c, rfl, q⟩ := q1
  cases x1
  exact ⟨c, rfl, k _ _ F1 M1 H1 q s1 w1 (.bl _)⟩
theorem de_if (h : DT X c ρ M fun k M1 => if k = true then DE X a ρ M1 Q else DE X b ρ M1 Q) : DE X (.IfExp c a b pos) ρ M Q := fun σ H F ho hw R k => by
  refine toE (pe_ifExp sT sE sE) ?_
  refine h σ H F ho hw _ fun c F1 M1 H1 q1 s1 w1 => ?_
  cases c with
  | true => exact q1 σ H1 F1 (ho.mono s1) w1 R (k.mono s1)
  | false => exact q1 σ H1 F1 (ho.mono s1) w1 R (k.mono s1)
/-- a chain a < b < c -/
theorem de_chain {op op' : CmpOp} {g g' : Int → Int → Bool} (hc : CmpI X op g) (hc' : CmpI X op' g')
    (h : DE X a ρ M fun d1 M1 => DE X b ρ M1 fun d2 M2 => ∃ i j, d1 = I i ∧ d2 = I j ∧ if g i j = true then DE X c ρ M2 (fun d3 M3 => ∃ l, d3 = I l ∧ Q (B (g' j l)) M3) else Q (B false) M2)
    (hm : lastMarks [op, op'] [b, c] = false := by with_unfolding_all rfl) : DE X (.Compare a [op, op'] [b, c] pos) ρ M Q := fun σ H F ho hw R k => by
  refine toE (pe_chain hc hc' sE sE sE hm) ?_
  refine h σ H F ho hw _ fun v1 d1 F1 M1 H1 q1 s1 w1 x1 => ?_
  refine q1 σ H1 F1 (ho.mono s1) w1 _ fun v2 d2 F2 M2 H2 q2 s2 w2 x2 => ?_
  obtain ⟨i, j, rfl, rfl, q⟩ := q2
  cases x1
  cases x2
  refine ⟨i, j, rfl, rfl, _, rfl, ?_⟩
  by_cases hg : g i j = true
  · rw [if_pos hg] at q ⊢
    refine q σ H2 F2 (ho.mono (s1.trans s2)) w2 _ fun v3 d3 F3 M3 H3 q3 s3 w3 x3 => ?_
    obtain ⟨l, rfl, q3⟩ := q3
    cases x3
    exact ⟨j, l, rfl, rfl, k _ _ F3 M3 H3 q3 ((s1.trans s2).trans s3) w3 (.bl _)⟩
  · rw [if_neg hg] at q ⊢
    exact k _ _ F2 M2 H2 q (s1.trans s2) w2 (.bl _)
end
end DL
namespace DL
open PySem PySem.Spec L2
section
variable {X : Cx} {e a b c : Expr} {es : List Expr} {st : Stmt} {sts : List Stmt} {pos : Pos} {ρ : Ev} {M : Mem} {Q : QE} {D : DEnds}
/-! ### targets -/
theorem dg_name (i : Nat) {x : Str} {d : EV} {Q : QM} (q : Q (ρ.set i (some d)) M) (hN : X.N.Nodup) (hi : X.N[i]? = some x := by rfl) (hx : Loc X.env.scope x := by first | exact Or.inl rfl | exact Or.inr rfl)
    (hf : X.fn x = true ∨ X.env.scope.names.lookup x = some .local := by first | exact .inl rfl | exact .inr rfl) : DG X (.Name x pos) d ρ M Q := fun σ H F v ho hw hv R k =>
  toG (pg_name hN hi hx hf) (k _ _ F M H q (Same.refl F) hw (ho.set i hv))
theorem dgs_nil {Q : QM} (q : Q ρ M) : DGs X [] [] ρ M Q := fun σ H F vs ho hw hv R k => by
  cases hv
  exact toGs pgs_nil ⟨rfl, k _ _ F M H q (Same.refl F) hw ho⟩
theorem dgs_cons {Q : QM} {d : EV} {ds : List EV} (h : DG X e d ρ M fun ρ1 M1 => DGs X es ds ρ1 M1 Q) (hs : (assignEach (e :: es) X.env).map (·.2) = assign e X.env :: (assignEach es X.env).map (·.2) := by rfl) : DGs X (e :: es) (d :: ds) ρ M Q := fun σ H F vs ho hw hv R k => by
  cases hv with
  | cons h1 h2 =>
    refine toGs (pgs_cons sG sGs hs) ⟨_, _, rfl, ?_⟩
    refine h σ H F _ ho hw h1 _ fun σ' ρ' F' M' H' q s w o => ?_
    exact q σ' H' F' _ o w (h2.mono s) R (k.mono s)
theorem evs_map : ∀ {K : PySem.W.Frag} {F : Hp} {vs : List V} {ps : List PyData}, DpAll K F vs ps → EvsOk K F vs (ps.map EV.d)
  | _, _, _, _, .nil => .nil
  | _, _, _, _, .cons h t => .cons h (evs_map t)
theorem dg_tup {Q : QM} {ps : List PyData} {k n : Nat} (hc : X.calm = true) (h : DGs X es (ps.map EV.d) ρ M Q) (hl : ps.length = n)
    (hn : (assignEach es X.env).length = n := by rfl) (hst : (assignEach es X.env).findIdx? (·.1) = none := by rfl) : DG X (.Tuple es k pos) (T ps) ρ M Q := fun σ H F v ho hw hv R kk => by
  cases hv with
  | tup hs ht =>
    refine toG (pg_tup hc sGs hn hst) ⟨_, _, rfl, sqT_mono hw.ext hs, by rw [dps_len ht, hl], ?_⟩
    exact h σ H F _ ho hw (evs_map ht) R kk
/-- l[i] = .. -/
theorem dg_setO {Q : QM} {p : PyData} (h : DE X a ρ M fun d1 M1 => DE X b ρ M1 fun d2 M2 => ∃ l ps i j, d1 = .o l ∧ M2 l = some (.lst ps) ∧ d2 = I i ∧ ixN ps.length i = some j ∧ Q ρ (updM M2 l (.lst (ps.set j p))))
    (ha : ∀ v, assign (.Subscript a b pos) X.env v = (do
      let ov ← holding [v] (eval a X.env)
      let iv ← holding [v, ov] (eval b X.env)
      standAt pos
      holding [v, ov, iv] (setItem ov iv v)
      release [v, ov, iv] []) := by intro _; rfl) : DG X (.Subscript a b pos) (.d p) ρ M Q := fun σ H F v ho hw hv R k => by
  refine toG (pg_sub sE sE set_list ha) ?_
  refine h σ H F ho hw _ fun v1 d1 F1 M1 H1 q1 s1 w1 x1 => ?_
  refine q1 σ H1 F1 (ho.mono s1) w1 _ fun v2 d2 F2 M2 H2 q2 s2 w2 x2 => ?_
  obtain ⟨l, ps, i, j, rfl, hl, rfl, hj, q⟩ := q2
  cases (show v1 = V.ref l from x1)
  cases x2
  obtain ⟨hF, vs, e, ht⟩ := w2.mem l _ hl
  refine ⟨l, vs, i, j, rfl, rfl, e, by rw [dps_len ht]; exact hj, ?_⟩
  exact k _ _ F2 _ _ q (s1.trans s2) (w2.put hl ⟨_, rfl, dps_set j ht (dp_mono (s1.trans s2) _ _ hv)⟩) (ho.mono (s1.trans s2))

/-! ### statements -/
def sq (D : DEnds) (f : QM) : DEnds := ⟨f, D.rt, D.bk, D.ct⟩
def lp (D : DEnds) (f : QM) : DEnds := ⟨f, D.rt, D.nx, f⟩
theorem dss_nil (q : D.nx ρ M) : DSs X [] ρ M D := fun σ H F ho hw R k => toSs pss_nil (k.nx _ _ F M H q (Same.refl F) hw ho)
theorem dss_cons (h : DS X st ρ M (sq D fun ρ1 M1 => DSs X sts ρ1 M1 D)) : DSs X (st :: sts) ρ M D := fun σ H F ho hw R k => by
  refine toSs (pss_cons sS sSs) ?_
  refine h σ H F ho hw _ ⟨fun σ' ρ' F' M' H' q s w o => ?_, k.rt, k.bk, k.ct⟩
  exact q σ' H' F' o w R (k.mono s)
theorem ds_imp {D' : DEnds} (h : DS X st ρ M D) (h1 : ∀ ρ M, D.nx ρ M → D'.nx ρ M) (h2 : ∀ d M, D.rt d M → D'.rt d M) (h3 : ∀ ρ M, D.bk ρ M → D'.bk ρ M) (h4 : ∀ ρ M, D.ct ρ M → D'.ct ρ M) : DS X st ρ M D' := fun σ H F ho hw R k =>
  h σ H F ho hw R ⟨fun σ' ρ' F' M' H' q s w o => k.nx σ' ρ' F' M' H' (h1 _ _ q) s w o, fun σ' ρ' F' M' H' q s w o => k.rt σ' ρ' F' M' H' (h2 _ _ q) s w o,
    fun σ' ρ' F' M' H' q s w o => k.bk σ' ρ' F' M' H' (h3 _ _ q) s w o, fun σ' ρ' F' M' H' q s w o => k.ct σ' ρ' F' M' H' (h4 _ _ q) s w o⟩
theorem dss_cut (Mid : QM) (h : DS X st ρ M (sq D Mid)) (h2 : ∀ ρ1 M1, Mid ρ1 M1 → DSs X sts ρ1 M1 D) : DSs X (st :: sts) ρ M D :=
  dss_cons (ds_imp h (fun ρ1 M1 q => h2 ρ1 M1 q) (fun _ _ q => q) (fun _ _ q => q) fun _ _ q => q)
/-- a list of the memory is data from here on -/
theorem dss_freeze (i : Nat) {l : Addr} {ps : List PyData} (hi : ρ[i]? = some (some (.o l))) (hl : M l = some (.lst ps)) (h : DSs X sts (ρ.set i (some (L ps))) (delM M l) D) : DSs X sts ρ M D := fun σ H F ho hw R k => by
  obtain ⟨F', s, w, x⟩ := hw.freeze hl
  obtain ⟨v, e1, e2⟩ := ho.at_ i _ hi
  cases (show v = V.ref l from e2)
  have ho' := (ho.mono s).set i (v := .ref l) (d := L ps) x
  have es : σ.set i (some (V.ref l)) = σ := by
    apply List.ext_getElem?
    intro j
    by_cases hj : i = j
    · subst hj
      rw [List.getElem?_set_self (List.getElem?_eq_some_iff.mp e1).1, e1]
    · rw [List.getElem?_set_ne hj]
  rw [es] at ho'
  exact h σ H F' ho' w R (k.mono s)
theorem ds_set (i : Nat) {x : Str} {pos' : Pos} (hN : X.N.Nodup) (h : DE X e ρ M fun d M1 => D.nx (ρ.set i (some d)) M1) (hi : X.N[i]? = some x := by rfl) (hx : Loc X.env.scope x := by first | exact Or.inl rfl | exact Or.inr rfl)
    (hs : swapsWith e (some (.Name x pos')) pos.line X.env = pure false := by rfl) (hf : X.fn x = true ∨ X.env.scope.names.lookup x = some .local := by first | exact .inl rfl | exact .inr rfl) : DS X (.Assign [.Name x pos'] e pos) ρ M D := fun σ H F ho hw R k => by
  refine toS (ps_set hN hi hx sE hs hf) ?_
  exact h σ H F ho hw _ fun v d F1 M1 H1 q s w x => k.nx _ _ F1 M1 H1 q s w ((ho.mono s).set i x)
theorem ds_asg {tg : Expr} (h : DE X e ρ M fun d M1 => DG X tg d ρ M1 D.nx) (hs : swapsWithSole [tg] e pos.line X.env = pure false := by rfl) (hw : swappedStores [tg] e X.env = pure none := by rfl)
    (h1 : (assignEach [tg] X.env).map (·.2) = [assign tg X.env] := by rfl) : DS X (.Assign [tg] e pos) ρ M D := fun σ H F ho hw' R k => by
  refine toS (ps_asg sE sG hs hw h1) ?_
  exact h σ H F ho hw' _ fun v d F1 M1 H1 q s w x => q σ H1 F1 v (ho.mono s) w x _ (k.nx.mono s)
theorem ds_par (i j : Nat) {x y : Str} {px py pt : Pos} {kt k2 pt2} (hN : X.N.Nodup) (h : DA X [a, b] ρ M fun ds M1 => ∃ d1 d2, ds = [d1, d2] ∧ D.nx ((ρ.set i (some d1)).set j (some d2)) M1)
    (hc : X.calm = true := by rfl) (hi : X.N[i]? = some x := by rfl) (hj : X.N[j]? = some y := by rfl) (hij : i ≠ j := by decide)
    (hx : X.env.scope.names.lookup x = some .local := by rfl) (hy : X.env.scope.names.lookup y = some .local := by rfl)
    (hw : swappedStores [.Tuple [.Name x px, .Name y py] kt pt] (.Tuple [a, b] k2 pt2) X.env = pure (some [x, y]) := by rfl)
    (hs : swapsWithSole [.Tuple [.Name x px, .Name y py] kt pt] (.Tuple [a, b] k2 pt2) pos.line X.env = pure false := by rfl) :
    DS X (.Assign [.Tuple [.Name x px, .Name y py] kt pt] (.Tuple [a, b] k2 pt2) pos) ρ M D := fun σ H F ho hw' R k => by
  refine toS (ps_par hc hN hi hj hij hx hy sA hw hs) ?_
  refine h σ H F ho hw' _ fun vs ds F1 M1 H1 q s w x => ?_
  obtain ⟨d1, d2, rfl, q⟩ := q
  cases x with
  | cons x1 t =>
    cases t with
    | cons x2 t =>
      cases t
      exact ⟨_, _, rfl, k.nx _ _ F1 M1 H1 q s w (((ho.mono s).set i x1).set j x2)⟩
theorem ds_par3 (i j l : Nat) {x y z : Str} {px py pz pt : Pos} {kt k2 pt2} (hN : X.N.Nodup) (h : DA X [a, b, c] ρ M fun ds M1 => ∃ d1 d2 d3, ds = [d1, d2, d3] ∧ D.nx (((ρ.set i (some d1)).set j (some d2)).set l (some d3)) M1)
    (hc : X.calm = true := by rfl) (hi : X.N[i]? = some x := by rfl) (hj : X.N[j]? = some y := by rfl) (hl : X.N[l]? = some z := by rfl) (hij : i ≠ j := by decide) (hil : i ≠ l := by decide) (hjl : j ≠ l := by decide)
    (hx : X.env.scope.names.lookup x = some .local := by rfl) (hy : X.env.scope.names.lookup y = some .local := by rfl) (hz : X.env.scope.names.lookup z = some .local := by rfl)
    (hw : swappedStores [.Tuple [.Name x px, .Name y py, .Name z pz] kt pt] (.Tuple [a, b, c] k2 pt2) X.env = pure (some [x, y, z]) := by rfl)
    (hs : swapsWithSole [.Tuple [.Name x px, .Name y py, .Name z pz] kt pt] (.Tuple [a, b, c] k2 pt2) pos.line X.env = pure false := by rfl) :
    DS X (.Assign [.Tuple [.Name x px, .Name y py, .Name z pz] kt pt] (.Tuple [a, b, c] k2 pt2) pos) ρ M D := fun σ H F ho hw' R k => by
  refine toS (ps_par3 hc hN hi hj hl hij hil hjl hx hy hz sA hw hs) ?_
  refine h σ H F ho hw' _ fun vs ds F1 M1 H1 q s w x => ?_
  obtain ⟨d1, d2, d3, rfl, q⟩ := q
  cases x with
  | cons x1 t =>
    cases t with
    | cons x2 t =>
      cases t with
      | cons x3 t =>
        cases t
        exact ⟨_, _, _, rfl, k.nx _ _ F1 M1 H1 q s w ((((ho.mono s).set i x1).set j x2).set l x3)⟩
theorem ds_ret (h : DE X e ρ M D.rt) : DS X (.Return (some e) pos) ρ M D := fun σ H F ho hw R k => toS (ps_ret sE) (h σ H F ho hw _ k.rt)
theorem ds_retN (q : D.rt N0 M) : DS X (.Return none pos) ρ M D := fun σ H F ho hw R k => toS ps_retN (k.rt _ _ F M H q (Same.refl F) hw .non)
theorem ds_pass (q : D.nx ρ M) : DS X (.Pass pos) ρ M D := fun σ H F ho hw R k => toS ps_pass (k.nx _ _ F M H q (Same.refl F) hw ho)
theorem ds_brk (q : D.bk ρ M) : DS X (.Break pos) ρ M D := fun σ H F ho hw R k => toS ps_break (k.bk _ _ F M H q (Same.refl F) hw ho)
theorem ds_cont (q : D.ct ρ M) : DS X (.Continue pos) ρ M D := fun σ H F ho hw R k => toS ps_continue (k.ct _ _ F M H q (Same.refl F) hw ho)
theorem ds_expr (h : DE X e ρ M fun _ M1 => D.nx ρ M1) (hs : swapsWith e none pos.line X.env = pure false := by rfl) : DS X (.Expr e pos) ρ M D := fun σ H F ho hw R k => by
  refine toS (ps_expr sE hs) ?_
  exact h σ H F ho hw _ fun v d F1 M1 H1 q s w x => k.nx _ _ F1 M1 H1 q s w (ho.mono s)
theorem ds_if {A B : List Stmt} (h : DT X c ρ M fun k M1 => if k = true then DSs X A ρ M1 D else DSs X B ρ M1 D) : DS X (.If c A B pos) ρ M D := fun σ H F ho hw R k => by
  refine toS (ps_if sT sSs sSs) ?_
  refine h σ H F ho hw _ fun c F1 M1 H1 q1 s1 w1 => ?_
  cases c with
  | true => exact q1 σ H1 F1 (ho.mono s1) w1 R (k.mono s1)
  | false => exact q1 σ H1 F1 (ho.mono s1) w1 R (k.mono s1)
/-- a test that does not hold here, and what follows -/
theorem dss_guard {A : List Stmt} {sts : List Stmt} (h : DT X c ρ M fun k M1 => k = false ∧ M1 = M) (q : DSs X sts ρ M D) : DSs X (.If c A [] pos :: sts) ρ M D :=
  dss_cons (ds_if fun σ H F ho hw R k => h σ H F ho hw R fun b F' M' H' e s w => k b F' M' H' (by
    obtain ⟨rfl, rfl⟩ := e
    exact iteF (dss_nil q)) s w)
theorem ds_while {body : List Stmt} (W : Nat → QM) (m0 : Nat) (h0 : W m0 ρ M)
    (turn : ∀ m ρ1 M1, W m ρ1 M1 → DT X c ρ1 M1 fun k M2 => if k = true then DSs X body ρ1 M2 (lp D fun ρ' M' => ∃ m', m' < m ∧ W m' ρ' M') else D.nx ρ1 M2)
    (hp : PassesOwn (model X.prog X.w) X.A X.env X.xe := by exact PassesOwn.never) : DS X (.While c body [] pos) ρ M D := fun σ H F ho hw R k => by
  refine toS (ps_while hp sT sSs) ?_
  refine ⟨fun m σ' H' => ∃ ρ' F' M', W m ρ' M' ∧ Same F F' ∧ WD X.K F' M' H' ∧ EnvOk X.K F' σ' ρ', ⟨m0, ρ, F, M, h0, Same.refl F, hw, ho⟩, ?_⟩
  rintro m σ1 H1 ⟨ρ1, F1, M1, hW, s1, w1, o1⟩
  refine turn m ρ1 M1 hW σ1 H1 F1 o1 w1 _ fun b F2 M2 H2 q2 s2 w2 => ?_
  cases b with
  | true =>
    rw [if_pos rfl]
    refine ⟨fun σ' H' => ∃ m', m' < m ∧ ∃ ρ' F' M', W m' ρ' M' ∧ Same F F' ∧ WD X.K F' M' H' ∧ EnvOk X.K F' σ' ρ', fun σ' H' h => h, ?_⟩
    have q2 : DSs X body ρ1 M2 _ := q2
    refine q2 σ1 H2 F2 (o1.mono s2) w2 _ ⟨?_, k.rt.mono (s1.trans s2), k.nx.mono (s1.trans s2), ?_⟩
    · rintro σ' ρ' F' M' H' ⟨m', hm, hW'⟩ s w o
      exact ⟨m', hm, ρ', F', M', hW', (s1.trans s2).trans s, w, o⟩
    · rintro σ' ρ' F' M' H' ⟨m', hm, hW'⟩ s w o
      exact ⟨m', hm, ρ', F', M', hW', (s1.trans s2).trans s, w, o⟩
  | false =>
    rw [if_neg Bool.false_ne_true]
    exact k.nx _ _ F2 M2 H2 q2 (s1.trans s2) w2 (o1.mono s2)

/-! ### for -/
/-- one turn and the end, from an invariant by the turn -/
def Turns (X : Cx) (tg : Expr) (body : List Stmt) (D : DEnds) (n : Nat) (item : Nat → EV → Prop) (W : Nat → QM) : Prop :=
  (∀ i ρ' M' d, i < n → item i d → W i ρ' M' → DG X tg d ρ' M' fun ρ2 M2 => DSs X body ρ2 M2 (lp D (W (i + 1)))) ∧ ∀ ρ' M', W n ρ' M' → D.nx ρ' M'
/-- from a walk's steps -/
theorem turns_range {tg : Expr} {body : List Stmt} {W : Nat → QM} {R : Ends} {lo : Int} {n : Nat} {σ : St} {H : Hp} {F : Hp} (t : Turns X tg body D n (fun i d => d = I (lo + i)) W) (h0 : W 0 ρ M) (ho : EnvOk X.K F σ ρ) (hw : WD X.K F M H) (k : LkD X F D R) :
    ∃ V : Nat → Nat → St → Hp → Prop, (∃ m, V 0 m σ H) ∧ ∀ i m σ H, V i m σ H →
      ((Itr lo n).stop i H ∧ R.nx σ H) ∨ ((Itr lo n).go i H ∧ ∃ N : St → Hp → Prop, (∀ σ' H', N σ' H' → ∃ m', m' < m ∧ V (i + 1) m' σ' H') ∧ ∀ x H', (Itr lo n).yld i H x H' → wpG X tg x σ H' fun σ2 H2 => wpSs X body { R with nx := N, ct := N, bk := R.nx } σ2 H2) := by
  refine for_range (D := R) (g := wpG X tg) (tb := wpSs X body) (fun i σ' H' => ∃ ρ' F' M', W i ρ' M' ∧ Same F F' ∧ WD X.K F' M' H' ∧ EnvOk X.K F' σ' ρ') ⟨ρ, F, M, h0, Same.refl F, hw, ho⟩ ?_ ?_
  · rintro i σ1 H1 hi ⟨ρ1, F1, M1, hW, s1, w1, o1⟩
    refine t.1 i ρ1 M1 _ hi rfl hW σ1 H1 F1 _ o1 w1 (.int _) _ fun σ2 ρ2 F2 M2 H2 q2 s2 w2 o2 => ?_
    refine q2 σ2 H2 F2 o2 w2 _ ⟨?_, k.rt.mono (s1.trans s2), k.nx.mono (s1.trans s2), ?_⟩
    · intro σ' ρ' F' M' H' hW' s w o
      exact ⟨ρ', F', M', hW', (s1.trans s2).trans s, w, o⟩
    · intro σ' ρ' F' M' H' hW' s w o
      exact ⟨ρ', F', M', hW', (s1.trans s2).trans s, w, o⟩
  · rintro σ1 H1 ⟨ρ1, F1, M1, hW, s1, w1, o1⟩
    exact k.nx _ _ F1 M1 H1 (t.2 ρ1 M1 hW) s1 w1 o1
theorem turns_list {tg : Expr} {body : List Stmt} {W : Nat → QM} {R : Ends} {ps : List PyData} {l : Addr} {vs : List V} {σ : St} {H : Hp} {F : Hp} (t : Turns X tg body D ps.length (fun i d => ∃ p, ps[i]? = some p ∧ d = .d p) W) (h0 : W 0 ρ M) (ho : EnvOk X.K F σ ρ) (hw : WD X.K F M H) (k : LkD X F D R)
    (hs : SqL X.K F l vs) (ht : DpAll X.K F vs ps) :
    ∃ V : Nat → Nat → St → Hp → Prop, (∃ m, V 0 m σ H) ∧ ∀ i m σ H, V i m σ H →
      ((Itl X.K l).stop i H ∧ R.nx σ H) ∨ ((Itl X.K l).go i H ∧ ∃ N : St → Hp → Prop, (∀ σ' H', N σ' H' → ∃ m', m' < m ∧ V (i + 1) m' σ' H') ∧ ∀ x H', (Itl X.K l).yld i H x H' → wpG X tg x σ H' fun σ2 H2 => wpSs X body { R with nx := N, ct := N, bk := R.nx } σ2 H2) := by
  refine for_list (D := R) (g := wpG X tg) (tb := wpSs X body) (xs := vs) (fun i σ' H' => ∃ ρ' F' M', W i ρ' M' ∧ Same F F' ∧ WD X.K F' M' H' ∧ EnvOk X.K F' σ' ρ') ⟨ρ, F, M, h0, Same.refl F, hw, ho⟩ ?_ ?_ ?_
  · rintro i σ1 H1 hi ⟨ρ1, F1, M1, hW, s1, w1, o1⟩
    exact sqL_mono w1.ext (sqL_mono s1 hs)
  · rintro i x σ1 H1 hx ⟨ρ1, F1, M1, hW, s1, w1, o1⟩
    obtain ⟨p, hp, hd⟩ := dps_get' ht hx
    refine t.1 i ρ1 M1 (.d p) (List.getElem?_eq_some_iff.mp hp).1 ⟨p, hp, rfl⟩ hW σ1 H1 F1 _ o1 w1 (dp_mono s1 _ _ hd) _ fun σ2 ρ2 F2 M2 H2 q2 s2 w2 o2 => ?_
    refine q2 σ2 H2 F2 o2 w2 _ ⟨?_, k.rt.mono (s1.trans s2), k.nx.mono (s1.trans s2), ?_⟩
    · intro σ' ρ' F' M' H' hW' s w o
      exact ⟨ρ', F', M', hW', (s1.trans s2).trans s, w, o⟩
    · intro σ' ρ' F' M' H' hW' s w o
      exact ⟨ρ', F', M', hW', (s1.trans s2).trans s, w, o⟩
  · rintro σ1 H1 ⟨ρ1, F1, M1, hW, s1, w1, o1⟩
    rw [dps_len ht] at hW
    exact k.nx _ _ F1 M1 H1 (t.2 ρ1 M1 hW) s1 w1 o1
theorem turns_tup {tg : Expr} {body : List Stmt} {W : Nat → QM} {R : Ends} {ps : List PyData} {l : Addr} {vs : List V} {σ : St} {H : Hp} {F : Hp} (t : Turns X tg body D ps.length (fun i d => ∃ p, ps[i]? = some p ∧ d = .d p) W) (h0 : W 0 ρ M) (ho : EnvOk X.K F σ ρ) (hw : WD X.K F M H) (k : LkD X F D R)
    (hs : SqT X.K F l vs) (ht : DpAll X.K F vs ps) :
    ∃ V : Nat → Nat → St → Hp → Prop, (∃ m, V 0 m σ H) ∧ ∀ i m σ H, V i m σ H →
      ((Itt X.K l).stop i H ∧ R.nx σ H) ∨ ((Itt X.K l).go i H ∧ ∃ N : St → Hp → Prop, (∀ σ' H', N σ' H' → ∃ m', m' < m ∧ V (i + 1) m' σ' H') ∧ ∀ x H', (Itt X.K l).yld i H x H' → wpG X tg x σ H' fun σ2 H2 => wpSs X body { R with nx := N, ct := N, bk := R.nx } σ2 H2) := by
  refine for_tup (D := R) (g := wpG X tg) (tb := wpSs X body) (xs := vs) (fun i σ' H' => ∃ ρ' F' M', W i ρ' M' ∧ Same F F' ∧ WD X.K F' M' H' ∧ EnvOk X.K F' σ' ρ') ⟨ρ, F, M, h0, Same.refl F, hw, ho⟩ ?_ ?_ ?_
  · rintro i σ1 H1 hi ⟨ρ1, F1, M1, hW, s1, w1, o1⟩
    exact sqT_mono w1.ext (sqT_mono s1 hs)
  · rintro i x σ1 H1 hx ⟨ρ1, F1, M1, hW, s1, w1, o1⟩
    obtain ⟨p, hp, hd⟩ := dps_get' ht hx
    refine t.1 i ρ1 M1 (.d p) (List.getElem?_eq_some_iff.mp hp).1 ⟨p, hp, rfl⟩ hW σ1 H1 F1 _ o1 w1 (dp_mono s1 _ _ hd) _ fun σ2 ρ2 F2 M2 H2 q2 s2 w2 o2 => ?_
    refine q2 σ2 H2 F2 o2 w2 _ ⟨?_, k.rt.mono (s1.trans s2), k.nx.mono (s1.trans s2), ?_⟩
    · intro σ' ρ' F' M' H' hW' s w o
      exact ⟨ρ', F', M', hW', (s1.trans s2).trans s, w, o⟩
    · intro σ' ρ' F' M' H' hW' s w o
      exact ⟨ρ', F', M', hW', (s1.trans s2).trans s, w, o⟩
  · rintro σ1 H1 ⟨ρ1, F1, M1, hW, s1, w1, o1⟩
    rw [dps_len ht] at hW
    exact k.nx _ _ F1 M1 H1 (t.2 ρ1 M1 hW) s1 w1 o1
theorem ds_forR1 {tg : Expr} {body : List Stmt} {p : Pos} {p2 : Pos} (h : DA X [a] ρ M fun ds M1 => ∃ n : Int, ds = [I n] ∧ -(2 ^ 62) ≤ n ∧ n < 2 ^ 62 ∧ ∃ W : Nat → QM, W 0 ρ M1 ∧ Turns X tg body D n.toNat (fun i d => d = I (0 + (i : Int))) W)
    (hm : X.mg "range" = none) (hg : Gl X "range" := by rfl) (hc : X.calm = true := by rfl) (hp : PassesOwn (model X.prog X.w) X.A X.env X.xe := by exact PassesOwn.never) (hs : starEach [a] X.env = [(false, eval a X.env)] := by rfl)
    (hs2 : ∀ x, foldedSetIterable (.Call (.Name "range" p) [a] [] p2) X.env x = pure x := by intro _; rfl) : DS X (.For tg (.Call (.Name "range" p) [a] [] p2) body [] pos) ρ M D := fun σ H F ho hw R k => by
  refine toS (ps_for hp hc (pi_range1 hg hm sA hs) sG sSs hs2) ?_
  refine h σ H F ho hw _ fun vs ds F1 M1 H1 q s w x => ?_
  obtain ⟨n, rfl, n1, n2, W, w0, t⟩ := q
  cases x with
  | cons x1 t1 =>
    cases t1
    cases x1
    exact ⟨n, rfl, n1, n2, turns_range t w0 (ho.mono s) w (k.mono s)⟩
theorem ds_forR2 {tg : Expr} {body : List Stmt} {p : Pos} {p2 : Pos} (h : DA X [a, b] ρ M fun ds M1 => ∃ i j : Int, ds = [I i, I j] ∧ (-(2 ^ 62) ≤ i ∧ i < 2 ^ 62 ∧ -(2 ^ 62) ≤ j ∧ j < 2 ^ 62) ∧ ∃ W : Nat → QM, W 0 ρ M1 ∧ Turns X tg body D (j - i).toNat (fun n d => d = I (i + (n : Int))) W)
    (hm : X.mg "range" = none) (hg : Gl X "range" := by rfl) (hc : X.calm = true := by rfl) (hp : PassesOwn (model X.prog X.w) X.A X.env X.xe := by exact PassesOwn.never) (hs : starEach [a, b] X.env = [(false, eval a X.env), (false, eval b X.env)] := by rfl) (hs' : starEach [b] X.env = [(false, eval b X.env)] := by rfl)
    (hs2 : ∀ x, foldedSetIterable (.Call (.Name "range" p) [a, b] [] p2) X.env x = pure x := by intro _; rfl) : DS X (.For tg (.Call (.Name "range" p) [a, b] [] p2) body [] pos) ρ M D := fun σ H F ho hw R k => by
  refine toS (ps_for hp hc (pi_range2 hg hm sA hs hs') sG sSs hs2) ?_
  refine h σ H F ho hw _ fun vs ds F1 M1 H1 q s w x => ?_
  obtain ⟨i, j, rfl, hb, W, w0, t⟩ := q
  cases x with
  | cons x1 t1 =>
    cases t1 with
    | cons x2 t2 =>
      cases t2
      cases x1
      cases x2
      exact ⟨i, j, rfl, hb, turns_range t w0 (ho.mono s) w (k.mono s)⟩
theorem ds_forL {tg iter : Expr} {body : List Stmt} (h : DE X iter ρ M fun d M1 => ∃ ps, d = L ps ∧ ∃ W : Nat → QM, W 0 ρ M1 ∧ Turns X tg body D ps.length (fun i d => ∃ p, ps[i]? = some p ∧ d = .d p) W)
    (hc : X.calm = true := by rfl) (hp : PassesOwn (model X.prog X.w) X.A X.env X.xe := by exact PassesOwn.never)
    (hs2 : ∀ x, foldedSetIterable iter X.env x = pure x := by intro _; rfl) : DS X (.For tg iter body [] pos) ρ M D := fun σ H F ho hw R k => by
  refine toS (ps_for hp hc (pi_list sE) sG sSs hs2) ?_
  refine h σ H F ho hw _ fun v d F1 M1 H1 q s w x => ?_
  obtain ⟨ps, rfl, W, w0, t⟩ := q
  cases x with
  | lst hs ht => exact ⟨_, rfl, ⟨_, sqL_mono w.ext hs⟩, turns_list t w0 (ho.mono s) w (k.mono s) hs ht⟩
theorem ds_forT {tg iter : Expr} {body : List Stmt} (h : DE X iter ρ M fun d M1 => ∃ ps, d = T ps ∧ ∃ W : Nat → QM, W 0 ρ M1 ∧ Turns X tg body D ps.length (fun i d => ∃ p, ps[i]? = some p ∧ d = .d p) W)
    (hc : X.calm = true := by rfl) (hp : PassesOwn (model X.prog X.w) X.A X.env X.xe := by exact PassesOwn.never)
    (hs2 : ∀ x, foldedSetIterable iter X.env x = pure x := by intro _; rfl) : DS X (.For tg iter body [] pos) ρ M D := fun σ H F ho hw R k => by
  refine toS (ps_for hp hc (pi_tup sE) sG sSs hs2) ?_
  refine h σ H F ho hw _ fun v d F1 M1 H1 q s w x => ?_
  obtain ⟨ps, rfl, W, w0, t⟩ := q
  cases x with
  | tup hs ht => exact ⟨_, rfl, ⟨_, sqT_mono w.ext hs⟩, turns_tup t w0 (ho.mono s) w (k.mono s) hs ht⟩

/-! ### calls -/
/-- what a def promises, over data -/
structure DSp where
  n : Nat
  wp : List EV → Mem → QE → Prop
  mono : ∀ {ds M Q Q'}, (∀ d M', Q d M' → Q' d M') → wp ds M Q → wp ds M Q'
  len : ∀ {ds M Q}, wp ds M Q → ds.length = n
def toSp (K : PySem.W.Frag) (S : DSp) : Sp := fun vs H Q _ => ∃ F M ds, WD K F M H ∧ EvsOk K F vs ds ∧ S.wp ds M fun d M' => ∀ v F' H', Same F F' → WD K F' M' H' → EvOk K F' v d → Q v H'
structure Def (P : Program) (w : World) (K : PySem.W.Frag) (mg : Str → Option Value) (base : Heap) (x : Str) (k : Nat) (S : DSp) : Prop where
  ex : ∃ f fd ps, mg x = some (.ref f) ∧ PySem.W.keepIn K (.ref f) = true ∧ Binds K fd ps [] ∧ FnOk P w K mg base CX0 k f fd ps (toSp K S)
theorem Def.mono {P : Program} {w : World} {K : PySem.W.Frag} {mg : Str → Option Value} {base : Heap} {x : Str} {j k : Nat} {S : DSp} (d : Def P w K mg base x j S) (h : j ≤ k) : Def P w K mg base x k S :=
  let ⟨f, fd, ps, a, b, c, e⟩ := d.ex
  ⟨f, fd, ps, a, b, c, e.mono h⟩
theorem de_call {x : Str} {p : Pos} {k : Nat} {S : DSp} (d : Def X.prog X.w X.K X.mg X.base x k S) (hr : Room k X.A) (h : DA X (e :: es) ρ M fun ds M1 => S.wp ds M1 Q) (hg : Gl X x := by rfl)
    (hdb : (x == ("__debug__" : Str)) = false := by decide) (he : starEach (e :: es) X.env = (false, eval e X.env) :: starEach es X.env := by rfl) (hpl : (backTo pos (starEach es X.env)).any (·.1) = false := by rfl) :
    DE X (.Call (.Name x p) (e :: es) [] pos) ρ M Q := fun σ H F ho hw R kk => by
  obtain ⟨f, fd, ps, hm, hk, hb, hF⟩ := d.ex
  refine toE (pe_call hF hr hg hm hk hb .nil pass0 sA hdb he hpl) ?_
  refine h σ H F ho hw _ fun vs ds F1 M1 H1 q s w x => ?_
  refine ⟨F1, M1, ds, w, by rw [List.append_nil]; exact x, S.mono (fun d' M' q' v F' H' s' w' x' => ?_) q⟩
  exact kk v d' F' M' H' q' (s.trans s') w' x'
theorem startE_ok {K : PySem.W.Frag} {F : Hp} {N : List Str} : ∀ {vs : List V} {ds : List EV}, EvsOk K F vs ds → EnvOk K F (L2.start N vs) (ds.map some ++ List.replicate (N.length - ds.length) none) := fun {vs ds} h => by
  have hl := h.len
  refine ⟨by unfold L2.start; rw [List.length_append, List.length_append, List.length_map, List.length_map, List.length_replicate, List.length_replicate, hl], fun i e q => ?_⟩
  by_cases hi : i < ds.length
  · rw [List.getElem?_append_left (by rw [List.length_map]; exact hi), List.getElem?_map] at q
    cases q2 : ds[i]? with
    | none => rw [q2] at q; cases q
    | some d =>
      rw [q2] at q
      cases q
      obtain ⟨v, e1, e2⟩ := h.get q2
      refine ⟨v, ?_, e2⟩
      unfold L2.start
      rw [List.getElem?_append_left (by rw [List.length_map, hl]; exact hi), List.getElem?_map, e1]
      rfl
  · rw [List.getElem?_append_right (by rw [List.length_map]; omega), List.getElem?_replicate] at q
    split at q <;> cases q
end
/-- the law's own def: no name leads to it -/
theorem def_okF {P : Program} {w : World} {K : PySem.W.Frag} {mg : Str → Option Value} {base : Heap} {x qual : Str} {st : Stmt} {f : Addr} {fd : FuncData} {N ps : List Str} {k : Nat} {S : DSp} (Fd : Fun K x qual st f fd) (Sc : FnScope N ps (defScope st)) (hn : S.n = ps.length)
    (body : ∀ (cdv : Value) (A : Around) (outer : List Env) (s : Shared) (H : Hp) (E : XK), Room k (A.deeper (PyProof.Rows.envOfC qual (defScope st) s.heap.objs.size f cdv)) → ∀ (ds : List EV) (M : Mem) (Q : QE), S.wp ds M Q →
      DSs (cxOf CX0 P w K mg base N qual (defScope st) f cdv A outer s H E).nox (defBody st) (ds.map some ++ List.replicate (N.length - ds.length) none) M { nx := fun _ M' => Q N0 M', rt := Q }) : FnOk P w K mg base CX0 (k + 1) f fd ps (toSp K S) := by
  refine Fd.ok Sc (fun vs H Q E h => ?_) fun cdv A outer s H vs Q E hr h => ?_
  · obtain ⟨F, M, ds, _, x, q⟩ := h
    rw [x.len, S.len q, hn]
  · obtain ⟨F, M, ds, hw, x, q⟩ := h
    refine ⟨_, sSs, ?_⟩
    refine body cdv A outer s H E hr ds M _ q _ _ F (startE_ok x) hw _ ⟨fun σ' ρ' F' M' H' q' s' w' o' => ?_, fun v d F' M' H' q' s' w' o' => ?_, fun _ _ _ _ _ q' => q'.elim, fun _ _ _ _ _ q' => q'.elim⟩
    · exact q' .non F' H' s' w' .non
    · exact q' v F' H' s' w' o'
theorem def_ok {P : Program} {w : World} {K : PySem.W.Frag} {mg : Str → Option Value} {base : Heap} {x qual : Str} {st : Stmt} {f : Addr} {fd : FuncData} {N ps : List Str} {k : Nat} {S : DSp} (Fd : Fun K x qual st f fd) (Sc : FnScope N ps (defScope st))
    (hm : mg x = some (.ref f)) (hb : Binds K fd ps []) (hn : S.n = ps.length)
    (body : ∀ (cdv : Value) (A : Around) (outer : List Env) (s : Shared) (H : Hp) (E : XK), Room k (A.deeper (PyProof.Rows.envOfC qual (defScope st) s.heap.objs.size f cdv)) → ∀ (ds : List EV) (M : Mem) (Q : QE), S.wp ds M Q →
      DSs (cxOf CX0 P w K mg base N qual (defScope st) f cdv A outer s H E).nox (defBody st) (ds.map some ++ List.replicate (N.length - ds.length) none) M { nx := fun _ M' => Q N0 M', rt := Q }) : Def P w K mg base x (k + 1) S :=
  ⟨f, fd, ps, hm, Fd.kp, hb, def_okF Fd Sc hn body⟩
theorem vals_data {K : PySem.W.Frag} {F : Hp} : ∀ ns : List Int, DpAll K F (ns.map V.int) (ns.map PyData.int)
  | [] => .nil
  | _ :: r => .cons (.int _) (vals_data r)
/-- the promise of the law at the walk's beginning -/
theorem sp_start {K : PySem.W.Frag} {S : DSp} (h : ∀ ns : List Int, ns.length ≤ 63 → S.wp [L (ns.map .int)] (fun _ => none) fun d _ => d = B true) (H : Hp) (a : Addr) (ns : List Int) (hl : ns.length ≤ 63) (hS : SqL K H a (ns.map V.int)) :
    toSp K S [.ref a] H (fun v _ => v = .bl true) fun _ _ _ => False :=
  ⟨H, fun _ => none, _, ⟨Same.refl H, fun _ _ e => by cases e⟩, ⟨.cons (show EvOk K H (.ref a) (.d (.list (ns.map .int))) from Dp.lst hS (vals_data ns)) .nil, S.mono (fun d M' e v F' H' _ _ x => by
    subst e
    cases x
    rfl) (h ns hl)⟩⟩

/-! ### built-ins -/
section
variable {X : Cx} {e a b c : Expr} {es : List Expr} {st : Stmt} {sts : List Stmt} {pos p : Pos} {ρ : Ev} {M : Mem} {Q : QE} {D : DEnds}
theorem de_blt {id : String} {x : Str} {r : List V → Hp → VK → Prop} (hc : CallR X (.builtin id) r) (h : DA X (e :: es) ρ M fun ds M1 => ∀ F H vs, EvsOk X.K F vs ds → WD X.K F M1 H → ∀ R, Lk X F Q R → r vs H R) (hm : X.mg x = none) (hv : bootBuiltins x = some (.builtin id))
    (hg : Gl X x := by rfl) (hn : x ≠ "__name__" := by decide) (hdb : (x == ("__debug__" : Str)) = false := by decide)
    (he : starEach (e :: es) X.env = (false, eval e X.env) :: starEach es X.env := by rfl) (hpl : (backTo pos (starEach es X.env)).any (·.1) = false := by rfl) : DE X (.Call (.Name x p) (e :: es) [] pos) ρ M Q := fun σ H F ho hw R k => by
  refine toE (pe_callB hc hg hm hv sA hn hdb he hpl) ?_
  exact h σ H F ho hw _ fun vs ds F1 M1 H1 q s w x => q F1 H1 vs x w R (k.mono s)
theorem de_bty {id : String} {x : Str} {r : List V → Hp → VK → Prop} (hc : CallR X (.type id) r) (h : DA X (e :: es) ρ M fun ds M1 => ∀ F H vs, EvsOk X.K F vs ds → WD X.K F M1 H → ∀ R, Lk X F Q R → r vs H R) (hm : X.mg x = none) (hv : bootBuiltins x = some (.type id))
    (hg : Gl X x := by rfl) (hn : x ≠ "__name__" := by decide) (hdb : (x == ("__debug__" : Str)) = false := by decide)
    (he : starEach (e :: es) X.env = (false, eval e X.env) :: starEach es X.env := by rfl) (hpl : (backTo pos (starEach es X.env)).any (·.1) = false := by rfl) : DE X (.Call (.Name x p) (e :: es) [] pos) ρ M Q := fun σ H F ho hw R k => by
  refine toE (pe_callTy hc hg hm hv sA hn hdb he hpl) ?_
  exact h σ H F ho hw _ fun vs ds F1 M1 H1 q s w x => q F1 H1 vs x w R (k.mono s)
theorem evs1 {K : PySem.W.Frag} {F : Hp} {vs : List V} {d : EV} (h : EvsOk K F vs [d]) : ∃ v, vs = [v] ∧ EvOk K F v d := by
  cases h with
  | cons h t => cases t; exact ⟨_, rfl, h⟩
theorem evs2 {K : PySem.W.Frag} {F : Hp} {vs : List V} {d e : EV} (h : EvsOk K F vs [d, e]) : ∃ v u, vs = [v, u] ∧ EvOk K F v d ∧ EvOk K F u e := by
  cases h with
  | cons h t =>
    cases t with
    | cons h2 t => cases t; exact ⟨_, _, rfl, h, h2⟩
theorem de_abs (h : DA X (e :: es) ρ M fun ds M1 => ∃ i, ds = [I i] ∧ Q (I (if i < 0 then -i else i)) M1) (hm : X.mg "abs" = none) (hg : Gl X "abs" := by rfl)
    (he : starEach (e :: es) X.env = (false, eval e X.env) :: starEach es X.env := by rfl) (hpl : (backTo pos (starEach es X.env)).any (·.1) = false := by rfl) : DE X (.Call (.Name "abs" p) (e :: es) [] pos) ρ M Q := by
  refine de_blt call_abs (h.imp fun ds M1 q => ?_) hm (by decide +kernel) hg (by decide) (by decide) he hpl
  obtain ⟨i, rfl, q⟩ := q
  intro F H vs x w R k
  obtain ⟨v, rfl, x1⟩ := evs1 x
  cases x1
  exact ⟨i, rfl, k _ _ F M1 H q (Same.refl F) w (.int _)⟩
theorem de_min2 (h : DA X (e :: es) ρ M fun ds M1 => ∃ i j, ds = [I i, I j] ∧ Q (I (if j < i then j else i)) M1) (hm : X.mg "min" = none) (hc : X.calm = true := by rfl) (hg : Gl X "min" := by rfl)
    (he : starEach (e :: es) X.env = (false, eval e X.env) :: starEach es X.env := by rfl) (hpl : (backTo pos (starEach es X.env)).any (·.1) = false := by rfl) : DE X (.Call (.Name "min" p) (e :: es) [] pos) ρ M Q := by
  refine de_blt (call_min2 hc) (h.imp fun ds M1 q => ?_) hm (by decide +kernel) hg (by decide) (by decide) he hpl
  obtain ⟨i, j, rfl, q⟩ := q
  intro F H vs x w R k
  obtain ⟨v, u, rfl, x1, x2⟩ := evs2 x
  cases x1
  cases x2
  exact ⟨i, j, rfl, k _ _ F M1 H q (Same.refl F) w (.int _)⟩
theorem de_max2 (h : DA X (e :: es) ρ M fun ds M1 => ∃ i j, ds = [I i, I j] ∧ Q (I (if j > i then j else i)) M1) (hm : X.mg "max" = none) (hc : X.calm = true := by rfl) (hg : Gl X "max" := by rfl)
    (he : starEach (e :: es) X.env = (false, eval e X.env) :: starEach es X.env := by rfl) (hpl : (backTo pos (starEach es X.env)).any (·.1) = false := by rfl) : DE X (.Call (.Name "max" p) (e :: es) [] pos) ρ M Q := by
  refine de_blt (call_max2 hc) (h.imp fun ds M1 q => ?_) hm (by decide +kernel) hg (by decide) (by decide) he hpl
  obtain ⟨i, j, rfl, q⟩ := q
  intro F H vs x w R k
  obtain ⟨v, u, rfl, x1, x2⟩ := evs2 x
  cases x1
  cases x2
  exact ⟨i, j, rfl, k _ _ F M1 H q (Same.refl F) w (.int _)⟩
/-- the length of data, or of a list of the memory -/
def lenOf (M : Mem) : EV → Option Nat
  | .d (.list ps) => some ps.length
  | .d (.tuple ps) => some ps.length
  | .o l => match M l with
    | some (.lst ps) => some ps.length
    | _ => none
  | _ => none
theorem de_len (h : DA X (e :: es) ρ M fun ds M1 => ∃ d n, ds = [d] ∧ lenOf M1 d = some n ∧ Q (I n) M1) (hm : X.mg "len" = none) (hg : Gl X "len" := by rfl)
    (he : starEach (e :: es) X.env = (false, eval e X.env) :: starEach es X.env := by rfl) (hpl : (backTo pos (starEach es X.env)).any (·.1) = false := by rfl) : DE X (.Call (.Name "len" p) (e :: es) [] pos) ρ M Q := by
  refine de_blt call_len_seq (h.imp fun ds M1 q => ?_) hm (by decide +kernel) hg (by decide) (by decide) he hpl
  obtain ⟨d, n, rfl, hl, q⟩ := q
  intro F H vs x w R k
  obtain ⟨v, rfl, x1⟩ := evs1 x
  have fin : ∀ m : Nat, m = n → R (.int m) H := fun m e => by subst e; exact k _ _ F M1 H q (Same.refl F) w (.int _)
  cases d with
  | o l =>
    cases (show v = V.ref l from x1)
    have hl' : (match M1 l with
      | some (.lst ps) => some ps.length
      | _ => none) = some n := hl
    cases e2 : M1 l with
    | none => rw [e2] at hl'; cases hl'
    | some m =>
      rw [e2] at hl'
      cases m with
      | raw o => cases hl'
      | rawK o ks => cases hl'
      | dk o => cases hl'
      | dt o => cases hl'
      | lst ps =>
        cases hl'
        obtain ⟨hF, vs, e, ht⟩ := w.mem l _ e2
        exact ⟨l, vs, rfl, .inl (SqL.of e), fin _ (dps_len ht)⟩
  | d pd =>
    cases x1 with
    | lst hs ht => cases hl; exact ⟨_, _, rfl, .inl (sqL_mono w.ext hs), fin _ (dps_len ht)⟩
    | tup hs ht => cases hl; exact ⟨_, _, rfl, .inr (sqT_mono w.ext hs), fin _ (dps_len ht)⟩
    | _ => cases hl
theorem de_lenS (h : DA X (e :: es) ρ M fun ds M1 => ∃ z, ds = [S z] ∧ z.length ≤ 10000 ∧ Q (I z.length) M1) (hm : X.mg "len" = none) (hg : Gl X "len" := by rfl)
    (he : starEach (e :: es) X.env = (false, eval e X.env) :: starEach es X.env := by rfl) (hpl : (backTo pos (starEach es X.env)).any (·.1) = false := by rfl) : DE X (.Call (.Name "len" p) (e :: es) [] pos) ρ M Q := by
  refine de_blt call_len_str (h.imp fun ds M1 q => ?_) hm (by decide +kernel) hg (by decide) (by decide) he hpl
  obtain ⟨z, rfl, hl, q⟩ := q
  intro F H vs x w R k
  obtain ⟨v, rfl, x1⟩ := evs1 x
  cases x1
  exact ⟨z, rfl, Nat.le_trans hl (by decide), k _ _ F M1 H q (Same.refl F) w (.int _)⟩
/-- l.append(e) -/
theorem de_append {apos : Pos} (h : DE X a ρ M fun d M1 => ∃ l ps0, d = .o l ∧ M1 l = some (.lst ps0) ∧ DE X b ρ M1 fun d2 M2 => ∃ ps p, M2 l = some (.lst ps) ∧ d2 = .d p ∧ ps.length ≤ 100000 ∧ Q N0 (updM M2 l (.lst (ps ++ [p]))))
    (hbase : attributeBase a "append" X.env (eval a X.env) = eval a X.env := by rfl)
    (hfew : ((backTo pos (starEach [b] X.env)).all (fun x => !x.1) && (backToKw pos (keywordEach [] X.env)).all (fun x => x.1.isSome)
      && decide (([b] : List Expr).length + ([] : List Keyword).length + (if ([] : List Keyword).isEmpty then 0 else 1) < 30)) = true := by rfl)
    (hline : (apos.endLine == pos.line) = true := by rfl) (hs : starEach [b] X.env = (false, eval b X.env) :: starEach [] X.env := by rfl) (hplain : (backTo pos (starEach [] X.env)).any (·.1) = false := by rfl) :
    DE X (.Call (.Attribute a "append" apos) [b] [] pos) ρ M Q := fun σ H F ho hw R k => by
  refine toE (pe_bm PySem.F.plainAttrs_list PySem.F.slot_list_append PySem.F.type_list_append mt_append sE (pa_cons sE pa_nil hs) hbase hfew hline hs hplain) ?_
  refine h σ H F ho hw _ fun v1 d1 F1 M1 H1 q1 s1 w1 x1 => ?_
  obtain ⟨l, ps0, rfl, hl0, q1⟩ := q1
  cases (show v1 = V.ref l from x1)
  obtain ⟨_, vs0, e0, _⟩ := w1.mem l _ hl0
  refine ⟨.inl ⟨rfl, _, SqL.of e0⟩, ?_⟩
  refine q1 σ H1 F1 (ho.mono s1) w1 _ fun v2 d2 F2 M2 H2 q2 s2 w2 x2 => ?_
  obtain ⟨ps, p, hl, rfl, hz, q⟩ := q2
  obtain ⟨hF, vs, e, ht⟩ := w2.mem l _ hl
  refine ⟨l, vs, v2, rfl, rfl, e, by rw [dps_len ht]; exact Nat.lt_of_le_of_lt hz (by decide), ?_⟩
  exact k _ _ F2 _ _ q (s1.trans s2) (w2.put hl ⟨_, rfl, dps_append ht (.cons x2 .nil)⟩) .non
end
end DL
namespace DL
open PySem PySem.Spec L2
theorem iteN {A B : Prop} {b : Bool} (h : b = false) (k : B) : if b = true then A else B := by rw [h]; exact iteF k
theorem iteY {A B : Prop} {b : Bool} (h : b = true) (k : A) : if b = true then A else B := by rw [h]; exact iteT k
section
variable {X : Cx} {e a b c : Expr} {es : List Expr} {st : Stmt} {sts : List Stmt} {pos p : Pos} {ρ : Ev} {M : Mem} {Q : QE} {D : DEnds}
/-! ### globals -/
theorem de_globI {x : Str} {i : Int} {t : Tok} (hm : X.mg x = some (.int i t)) (q : Q (I i) M) (hg : Gl X x := by rfl) (hd : (x == ("__debug__" : Str)) = false := by decide) : DE X (.Name x pos) ρ M Q := fun σ H F ho hw R k =>
  toE (pe_glob hg hm (v := .int i) ⟨_, rfl⟩ hd) (k _ _ F M H q (Same.refl F) hw (.int i))
theorem de_globS {x : Str} {i : Str} {t : Tok} (hm : X.mg x = some (.str i t)) (q : Q (S i) M) (hg : Gl X x := by rfl) (hd : (x == ("__debug__" : Str)) = false := by decide) : DE X (.Name x pos) ρ M Q := fun σ H F ho hw R k =>
  toE (pe_glob hg hm (v := .str i) ⟨_, rfl⟩ hd) (k _ _ F M H q (Same.refl F) hw (.str i))
/-! ### isinstance -/
def kindOf : PyData → String
  | .none => "NoneType"
  | .bool _ => "bool"
  | .int _ => "int"
  | .str _ => "str"
  | .list _ => "list"
  | .tuple _ => "tuple"
  | .dict _ => "dict"
def isTy (T : String) (p : PyData) : Bool := (kitB (kindOf p) T).getD false
theorem tyX_of {K : PySem.W.Frag} {F H : Hp} (s : Same F H) {v : V} {p : PyData} (h : Dp K F v p) : TyX K H v (.type (kindOf p)) := by
  cases h with
  | non => exact .base .non
  | bl b => exact .base (.bl b)
  | int i => exact .base (.int i)
  | str x => exact .base (.str x)
  | lst hs ht =>
    rcases hs with (e | ⟨o, e⟩) | ⟨o, its, n, e, c, _⟩
    · exact .base (.lst (s _ _ e))
    · exact .base (.frz (s _ _ e))
    · exact .kList e c
  | tup hs ht =>
    rcases hs with (e | ⟨o, e⟩) | ⟨o, its, n, e, c, _⟩
    · exact .base (.tup (s _ _ e))
    · exact .fTuple (s _ _ e)
    · exact .kTuple e c
def kitOk (T : String) : Bool := ["NoneType", "bool", "int", "str", "list", "tuple"].all fun a => (kitB a T).isSome
theorem kit_all {T : String} (h : kitOk T = true) {K : PySem.W.Frag} {F : Hp} {v : V} {p : PyData} (hd : Dp K F v p) : kitB (kindOf p) T = some (isTy T p) := by
  unfold kitOk at h
  simp only [List.all_cons, List.all_nil, Bool.and_true, Bool.and_eq_true] at h
  obtain ⟨h1, h2, h3, h4, h5, h6⟩ := h
  have sg : ∀ o : Option Bool, o.isSome = true → o = some (o.getD false) := fun o h => by
    cases o with
    | none => cases h
    | some b => rfl
  cases hd with
  | non => exact sg _ h1
  | bl b => exact sg _ h2
  | int i => exact sg _ h3
  | str x => exact sg _ h4
  | lst hs ht => exact sg _ h5
  | tup hs ht => exact sg _ h6
theorem de_isi {T : Str} {Tn : String} {p2 : Pos} (h : DE X e ρ M fun d M1 => ∃ p, d = .d p ∧ Q (B (isTy Tn p)) M1) (hm : X.mg "isinstance" = none) (hT : X.mg T = none) (hv : bootBuiltins T = some (.type Tn)) (hk : kitOk Tn = true)
    (hg : Gl X "isinstance" := by rfl) (hg2 : Gl X T := by rfl) (hn : T ≠ "__name__" := by decide) (hdb : (T == ("__debug__" : Str)) = false := by decide)
    (he : starEach (e :: [.Name T p2]) X.env = (false, eval e X.env) :: starEach [.Name T p2] X.env := by rfl) (he2 : starEach [.Name T p2] X.env = (false, eval (.Name T p2) X.env) :: starEach [] X.env := by rfl)
    (hpl : (backTo pos (starEach [.Name T p2] X.env)).any (·.1) = false := by rfl) : DE X (.Call (.Name "isinstance" p) (e :: [.Name T p2]) [] pos) ρ M Q := fun σ H F ho hw R k => by
  refine toE (pe_callB call_isi hg hm (by decide +kernel) (pa_cons sE (pa_cons (pe_bltn (v := .ty Tn) hg2 hT hv rfl hn hdb) pa_nil he2) he) (by decide) (by decide) he hpl) ?_
  refine h σ H F ho hw _ fun v1 d1 F1 M1 H1 q1 s1 w1 x1 => ?_
  obtain ⟨pd, rfl, q⟩ := q1
  exact ⟨v1, .ty Tn, _, _, _, rfl, .ty Tn, tyX_of w1.ext x1, kit_ty (kit_all hk x1), k _ _ F1 M1 H1 q s1 w1 (.bl _)⟩
theorem isTy_int (p : PyData) : isTy "int" p = (match p with | .int _ => true | .bool _ => true | _ => false) := by
  cases p with
  | none => exact (by decide +kernel : (kitB "NoneType" "int").getD false = false)
  | bool b => exact (by decide +kernel : (kitB "bool" "int").getD false = true)
  | int i => exact (by decide +kernel : (kitB "int" "int").getD false = true)
  | str x => exact (by decide +kernel : (kitB "str" "int").getD false = false)
  | list x => exact (by decide +kernel : (kitB "list" "int").getD false = false)
  | tuple x => exact (by decide +kernel : (kitB "tuple" "int").getD false = false)
  | dict x => exact (by decide +kernel : (kitB "dict" "int").getD false = false)
theorem isTy_bool (p : PyData) : isTy "bool" p = (match p with | .bool _ => true | _ => false) := by
  cases p with
  | none => exact (by decide +kernel : (kitB "NoneType" "bool").getD false = false)
  | bool b => exact (by decide +kernel : (kitB "bool" "bool").getD false = true)
  | int i => exact (by decide +kernel : (kitB "int" "bool").getD false = false)
  | str x => exact (by decide +kernel : (kitB "str" "bool").getD false = false)
  | list x => exact (by decide +kernel : (kitB "list" "bool").getD false = false)
  | tuple x => exact (by decide +kernel : (kitB "tuple" "bool").getD false = false)
  | dict x => exact (by decide +kernel : (kitB "dict" "bool").getD false = false)
theorem isTy_str (p : PyData) : isTy "str" p = (match p with | .str _ => true | _ => false) := by
  cases p with
  | none => exact (by decide +kernel : (kitB "NoneType" "str").getD false = false)
  | bool b => exact (by decide +kernel : (kitB "bool" "str").getD false = false)
  | int i => exact (by decide +kernel : (kitB "int" "str").getD false = false)
  | str x => exact (by decide +kernel : (kitB "str" "str").getD false = true)
  | list x => exact (by decide +kernel : (kitB "list" "str").getD false = false)
  | tuple x => exact (by decide +kernel : (kitB "tuple" "str").getD false = false)
  | dict x => exact (by decide +kernel : (kitB "dict" "str").getD false = false)
theorem isTy_tuple (p : PyData) : isTy "tuple" p = (match p with | .tuple _ => true | _ => false) := by
  cases p with
  | none => exact (by decide +kernel : (kitB "NoneType" "tuple").getD false = false)
  | bool b => exact (by decide +kernel : (kitB "bool" "tuple").getD false = false)
  | int i => exact (by decide +kernel : (kitB "int" "tuple").getD false = false)
  | str x => exact (by decide +kernel : (kitB "str" "tuple").getD false = false)
  | list x => exact (by decide +kernel : (kitB "list" "tuple").getD false = false)
  | tuple x => exact (by decide +kernel : (kitB "tuple" "tuple").getD false = true)
  | dict x => exact (by decide +kernel : (kitB "dict" "tuple").getD false = false)
/-! ### l[i] op= e -/
def rIxL0 (K : PySem.W.Frag) : R2 := fun x y H Q => ∃ p xs i v, x = .ref p ∧ y = .int i ∧ SqL K H p xs ∧ 0 ≤ i ∧ atI xs i = some v ∧ Q v H
theorem get_list_O : PGet X (rIxL0 X.K) := by
  intro pins s σ H o i ov iv Q I ro ri h
  obtain ⟨p, xs, i, z, rfl, rfl, hq, h0, he, q⟩ := h
  cases ro
  obtain ⟨t, rfl⟩ := ri
  obtain ⟨its, r, pl, hz⟩ := I.list hq
  obtain ⟨j, h1, h2, h3, h4, h5⟩ := atI_get he
  obtain ⟨w, ew, rw'⟩ := r.get h2
  have hl := r.length
  have hn := line63
  have hj : i.toNat = j := by
    rw [PySem.seqIndex_of h0 h5] at h1
    exact Option.some.inj h1
  exact thn (wpAny_getItem_list (Q := fun r s' => r = w ∧ EP X pins σ Q r s') pl.isList h0 (by omega) (by rw [hj]; simpa using ew) ⟨rfl, z, H, I, rw', q⟩) fun _ _ q => q.2
theorem ds_augO {f : Int → Int → Int} {op : Operator} {tpos : Pos} (hop : PIp X op (ipI f)) (h : DE X a ρ M fun d1 M1 => DE X b ρ M1 fun d2 M2 => ∃ l ps i v, d1 = .o l ∧ M2 l = some (.lst ps) ∧ d2 = I i ∧ 0 ≤ i ∧ atI ps i = some (.int v) ∧
      DE X e ρ M2 fun d3 M3 => ∃ ps' w j, M3 l = some (.lst ps') ∧ d3 = I w ∧ ixN ps'.length i = some j ∧ D.nx ρ (updM M3 l (.lst (ps'.set j (.int (f v w))))))
    (ha : ∀ ov iv new, augStore b ov iv new = (do holding [new, ov, iv] (setItem ov iv new); release [new, ov, iv] []; pure .next) := by intros; rfl) : DS X (.AugAssign (.Subscript a b tpos) op e pos) ρ M D := fun σ H F ho hw R k => by
  refine toS (ps_augS sE sE get_list_O sE hop set_list ha) ?_
  refine h σ H F ho hw _ fun v1 d1 F1 M1 H1 q1 s1 w1 x1 => ?_
  refine q1 σ H1 F1 (ho.mono s1) w1 _ fun v2 d2 F2 M2 H2 q2 s2 w2 x2 => ?_
  obtain ⟨l, ps, i, v, rfl, hl, rfl, hi0, hv, q⟩ := q2
  cases (show v1 = V.ref l from x1)
  cases x2
  obtain ⟨hF, vs, e1, ht⟩ := w2.mem l _ hl
  obtain ⟨u, g1, g2⟩ := atI_map (Dp X.K F2) (dps_len ht) (fun j y hy => dps_get ht hy) hv
  cases g2
  refine ⟨l, vs, i, _, rfl, rfl, SqL.of e1, hi0, g1, ?_⟩
  refine q σ H2 F2 (ho.mono (s1.trans s2)) w2 _ fun v3 d3 F3 M3 H3 q3 s3 w3 x3 => ?_
  obtain ⟨ps', w', j, hl', rfl, hj, q3⟩ := q3
  cases x3
  refine ⟨v, w', rfl, rfl, ?_⟩
  obtain ⟨hF', vs', e2, ht'⟩ := w3.mem l _ hl'
  refine ⟨l, vs', i, j, rfl, rfl, e2, by rw [dps_len ht']; exact hj, ?_⟩
  have s13 := (s1.trans s2).trans s3
  exact k.nx _ _ F3 _ _ q3 s13 (w3.put hl' ⟨_, rfl, dps_set j ht' (.int _)⟩) (ho.mono s13)
/-- name op= e -/
theorem ds_aug (i : Nat) {f : Int → Int → Int} {op : Operator} {x : Str} {pos' : Pos} (hop : PIp X op (ipI f)) (hN : X.N.Nodup) {v : Int} (hv : ρ[i]? = some (some (I v))) (h : DE X e ρ M fun d M1 => ∃ w, d = I w ∧ D.nx (ρ.set i (some (I (f v w)))) M1) (hi : X.N[i]? = some x := by rfl) (hx : Loc X.env.scope x := by first | exact Or.inl rfl | exact Or.inr rfl)
    (hf : X.fn x = true ∨ X.env.scope.names.lookup x = some .local := by first | exact .inl rfl | exact .inr rfl) : DS X (.AugAssign (.Name x pos') op e pos) ρ M D := fun σ H F ho hw R k => by
  obtain ⟨u, e1, e2⟩ := ho.at_ i _ hv
  cases e2
  refine toS (ps_aug hN hi hx sE hop hf) ⟨_, e1, ?_⟩
  refine h σ H F ho hw _ fun v d F1 M1 H1 q s w x => ?_
  obtain ⟨w', rfl, q⟩ := q
  cases x
  exact ⟨_, _, rfl, rfl, k.nx _ _ F1 M1 H1 q s w ((ho.mono s).set i (.int _))⟩
/-- name += text -/
theorem ip_addS : PIp X .Add (fun x y H Q => ∃ i j, x = .str i ∧ y = .str j ∧ i.length + j.length ≤ sizeLine ∧ Q (.str (i ++ j)) H) := by
  intro pins s σ H x y v u Q I r1 r2 h
  exact iop_add_str pins s σ H x y v u Q I r1 r2 h
theorem ds_augS (i : Nat) {x : Str} {pos' : Pos} (hN : X.N.Nodup) {v : Str} (hv : ρ[i]? = some (some (S v))) (h : DE X e ρ M fun d M1 => ∃ w, d = S w ∧ v.length + w.length ≤ 10000 ∧ D.nx (ρ.set i (some (S (v ++ w)))) M1) (hi : X.N[i]? = some x := by rfl) (hx : Loc X.env.scope x := by first | exact Or.inl rfl | exact Or.inr rfl)
    (hf : X.fn x = true ∨ X.env.scope.names.lookup x = some .local := by first | exact .inl rfl | exact .inr rfl) : DS X (.AugAssign (.Name x pos') .Add e pos) ρ M D := fun σ H F ho hw R k => by
  obtain ⟨u, e1, e2⟩ := ho.at_ i _ hv
  cases e2
  refine toS (ps_aug hN hi hx sE ip_addS hf) ⟨_, e1, ?_⟩
  refine h σ H F ho hw _ fun v d F1 M1 H1 q s w x => ?_
  obtain ⟨w', rfl, hl, q⟩ := q
  cases x
  exact ⟨_, _, rfl, rfl, Nat.le_trans hl (by decide), k.nx _ _ F1 M1 H1 q s w ((ho.mono s).set i (.str _))⟩

/-! ### comprehensions -/
def wipeE (ρ : Ev) : List Nat → Ev
  | [] => ρ
  | v :: vs => (wipeE ρ vs).set v none
theorem wipe_ok {K : PySem.W.Frag} {F : Hp} {σ : L2.St} : ∀ (vs : List Nat), EnvOk K F σ ρ → EnvOk K F (wipe σ vs) (wipeE ρ vs)
  | [], h => h
  | v :: vs, h => by
    have ih := wipe_ok vs h
    refine ⟨by unfold wipe wipeE; rw [List.length_set, List.length_set, ih.len], fun i d q => ?_⟩
    unfold wipeE at q
    unfold wipe
    by_cases hi : v = i
    · subst hi
      by_cases hl : v < (wipeE ρ vs).length
      · rw [List.getElem?_set_self hl] at q; cases q
      · rw [List.getElem?_eq_none (by rw [List.length_set]; omega)] at q; cases q
    · rw [List.getElem?_set_ne hi] at q ⊢
      exact ih.at_ i d q
/-- two states agree but at the places vs -/
theorem wipe_eq {σ σ' : L2.St} (hl : σ.length = σ'.length) : ∀ (vs : List Nat), (∀ i, i ∉ vs → σ[i]? = σ'[i]?) → wipe σ vs = wipe σ' vs := by
  intro vs h
  have key : ∀ (σ : L2.St) (vs : List Nat) (i : Nat), (wipe σ vs)[i]? = if i ∈ vs ∧ i < σ.length then some none else σ[i]? := by
    intro σ vs i
    induction vs with
    | nil => simp [wipe]
    | cons v vs ih =>
      unfold wipe
      by_cases hv : v = i
      · subst hv
        by_cases hlt : v < σ.length
        · rw [List.getElem?_set_self (by rw [wipe_length]; exact hlt), if_pos ⟨List.mem_cons_self, hlt⟩]
        · rw [List.getElem?_eq_none (by rw [List.length_set, wipe_length]; omega), if_neg (fun z => hlt z.2), List.getElem?_eq_none (by omega)]
      · rw [List.getElem?_set_ne hv, ih]
        have : (i ∈ v :: vs ∧ i < σ.length) ↔ (i ∈ vs ∧ i < σ.length) := by
          simp only [List.mem_cons]
          constructor
          · rintro ⟨h1 | h1, h2⟩
            · exact absurd h1.symm hv
            · exact ⟨h1, h2⟩
          · rintro ⟨h1, h2⟩; exact ⟨.inr h1, h2⟩
        by_cases hm : i ∈ vs ∧ i < σ.length
        · rw [if_pos hm, if_pos (this.mpr hm)]
        · rw [if_neg hm, if_neg (fun z => hm (this.mp z))]
  apply List.ext_getElem?
  intro i
  rw [key, key, hl]
  by_cases hm : i ∈ vs ∧ i < σ'.length
  · rw [if_pos hm, if_pos hm]
  · rw [if_neg hm, if_neg hm]
    by_cases hv : i ∈ vs
    · have : ¬ i < σ'.length := fun z => hm ⟨hv, z⟩
      rw [List.getElem?_eq_none (by omega), List.getElem?_eq_none (by omega)]
    · exact h i hv
/-- what a comprehension's target takes -/
inductive Tgt where
  | one (j : Nat)
  | two (j l : Nat)
def Tgt.slots : Tgt → List Nat
  | .one j => [j]
  | .two j l => [j, l]
def Tgt.put : Tgt → PyData → Ev → Option Ev
  | .one j, p, ρ => some (ρ.set j (some (.d p)))
  | .two j l, .tuple [p, q], ρ => some ((ρ.set j (some (.d p))).set l (some (.d q)))
  | .two _ _, _, _ => none
def Tgt.g (K : PySem.W.Frag) : Tgt → TG
  | .one j => gName j
  | .two j l => gTup K 2 (gCons (gName j) (gCons (gName l) gNil))
theorem Tgt.go {K : PySem.W.Frag} {F : Hp} {M : Mem} {H : Hp} {σ : L2.St} {v : V} {p : PyData} {ρ2 : Ev} {vs : List Nat} {Q : L2.St → Hp → Prop} (t : Tgt) (ht : ∀ j ∈ t.slots, j ∈ vs) (ho : EnvOk K F (wipe σ vs) (wipeE ρ vs)) (hw : WD K F M H) (hv : Dp K F v p) (hp : t.put p (wipeE ρ vs) = some ρ2)
    (q : ∀ σ2, EnvOk K F σ2 ρ2 → wipe σ2 vs = wipe σ vs → Q σ2 H) : t.g K v (wipe σ vs) H Q := by
  have wk : ∀ σ2 : L2.St, σ2.length = σ.length → (∀ i, i ∉ vs → σ2[i]? = (wipe σ vs)[i]?) → wipe σ2 vs = wipe σ vs := fun σ2 hl h => by
    refine wipe_eq hl vs fun i hi => (h i hi).trans ?_
    exact wipe_out hi
  cases t with
  | one j =>
    cases hp
    refine q _ (ho.set j (d := .d p) hv) (wk _ (by rw [List.length_set, wipe_length]) fun i hi => ?_)
    exact List.getElem?_set_ne fun e => hi (by rw [← e]; exact ht j (by simp [Tgt.slots]))
  | two j l =>
    unfold Tgt.put at hp
    split at hp
    · rename_i e1; cases e1
    · rename_i j' l' p1 p2 e1
      cases e1
      cases hp
      cases hv with
      | tup hs ha =>
        cases ha with
        | cons h1 ha =>
          cases ha with
          | cons h2 ha =>
            cases ha
            refine ⟨_, _, rfl, sqT_mono hw.ext hs, rfl, _, _, rfl, _, _, rfl, rfl, ?_⟩
            refine q _ ((ho.set _ (d := .d p1) h1).set _ (d := .d p2) h2) (wk _ (by rw [List.length_set, List.length_set, wipe_length]) fun i hi => ?_)
            rw [List.getElem?_set_ne (fun e : l = i => hi (by rw [← e]; exact ht l (by simp [Tgt.slots]))), List.getElem?_set_ne (fun e : j = i => hi (by rw [← e]; exact ht j (by simp [Tgt.slots])))]
    · cases hp
def wpTs (X : Cx) (ifs : List Expr) : TT := fun σ H Q => ∀ pins s, Inv X pins σ H s →
    wpAny (model X.prog X.w) X.A (forIn ifs true fun c r => if r = true then do let ok ← isTrue c X.env (eval c X.env); pure (ForInStep.yield ok) else pure (ForInStep.yield r)) (TP X pins σ Q) X.xe s
theorem sTs {ifs : List Expr} : PTs X ifs (wpTs X ifs) := ⟨fun pins s _ _ _ I h => h pins s I⟩
def DTs (X : Cx) (ifs : List Expr) (ρ : Ev) (M : Mem) (Q : Bool → Mem → Prop) : Prop := ∀ σ H F, EnvOk X.K F σ ρ → WD X.K F M H → ∀ R, LkT X F Q R → wpTs X ifs σ H R
theorem dts_nil {Q : Bool → Mem → Prop} (q : Q true M) : DTs X [] ρ M Q := fun σ H F ho hw R k pins s I => pts_nil.run pins s σ H R I (k true F M H q (Same.refl F) hw)
theorem dts_one {Q : Bool → Mem → Prop} (q : DT X c ρ M Q) : DTs X [c] ρ M Q := fun σ H F ho hw R k pins s I => (pts_one sT).run pins s σ H R I (q σ H F ho hw R k)
/-- for every block that a comprehension's loop may run in -/
abbrev Blk (X : Cx) (scope : Scope) (φ : Cx → Prop) : Prop := ∀ (s : Shared) (H : Hp) (C : Addr) (cl : List (Str × Addr)) (fp : List Addr), φ (X.blk s H scope (compEnvC scope cl C X.env) fp)
/-- what each item gives: b, whether its tests hold; o, the element -/
def Gives (X : Cx) (scope : Scope) (ifs : List Expr) (elt : Expr) (t : Tgt) (vs : List Nat) (ρ : Ev) (M1 : Mem) (p : PyData) (o : Option PyData) : Prop :=
  ∃ ρ2 b, t.put p (wipeE ρ vs) = some ρ2 ∧ ∀ M2 : Mem, (∀ a m, M1 a = some m → M2 a = some m) → (Blk X scope fun X' => DTs X' ifs ρ2 M2 fun b' M3 => M3 = M2 ∧ b' = b) ∧
    if b = true then (∃ y, o = some y ∧ Blk X scope fun X' => DE X' elt ρ2 M2 fun d M4 => M4 = M2 ∧ d = .d y) else o = none
def teB (X : Cx) (scope : Scope) (elt : Expr) : TE := fun σ H Q => Blk X scope fun X' => wpE X' elt σ H Q
def ttB (X : Cx) (scope : Scope) (ifs : List Expr) : TT := fun σ H Q => Blk X scope fun X' => wpTs X' ifs σ H Q
/-- between two turns -/
def LcW (K : PySem.W.Frag) (F : Hp) (M : Mem) (Dl : Addr) (ys : List PyData) (H' : Hp) : Prop := ∃ F', Same F F' ∧ WD K F' (updM M Dl (.lst ys)) H'
theorem lc_turn {scope : Scope} {ifs : List Expr} {elt : Expr} {t : Tgt} {vs : List Nat} {σ : L2.St} {F H' : Hp} {Dl : Addr} {ys ys' : List PyData} {v : V} {p : PyData} {o : Option PyData} (ht : ∀ j ∈ t.slots, j ∈ vs) (ho : EnvOk X.K F σ ρ) (hD : M Dl = none) (hv : Dp X.K F v p)
    (gv : Gives X scope ifs elt t vs ρ M p o) (w : LcW X.K F M Dl ys H') (hz : ys.length < 100000) (hy : ys' = ys ++ o.toList) :
    t.g X.K v (wipe σ vs) H' fun σ2 H2 => wipe σ2 vs = wipe σ vs ∧ ttB X scope ifs σ2 H2 fun b H3 =>
      if b = true then teB X scope elt σ2 H3 fun y H4 => ∃ acc, H4 Dl = some (.lst acc) ∧ acc.length < sizeLine ∧ LcW X.K F M Dl ys' (upd H4 Dl (.lst (acc ++ [y]))) else LcW X.K F M Dl ys' H3 := by
  obtain ⟨ρ2, b, hp, gv⟩ := gv
  obtain ⟨F1, s1, w1⟩ := w
  refine t.go ht (wipe_ok vs (ho.mono s1)) w1 (dp_mono s1 _ _ hv) hp fun σ2 o2 e2 => ⟨e2, ?_⟩
  have up : ∀ a m, M a = some m → updM M Dl (.lst ys) a = some m := fun a m e => by
    rw [updM_ne (fun q => by rw [q, hD] at e; cases e)]
    exact e
  obtain ⟨gt, ge⟩ := gv _ up
  intro s H0 C cl fp
  refine gt s H0 C cl fp σ2 H' F1 o2 w1 _ fun b' F2 M2 H2 q2 s2 w2 => ?_
  obtain ⟨rfl, rfl⟩ := q2
  cases b' with
  | false =>
    rw [if_neg Bool.false_ne_true] at ge ⊢
    subst ge
    rw [hy]
    simp only [Option.toList, List.append_nil]
    exact ⟨F2, s1.trans s2, w2⟩
  | true =>
    rw [if_pos rfl] at ge ⊢
    obtain ⟨y', rfl, ge⟩ := ge
    intro s' H0' C' cl' fp'
    refine ge s' H0' C' cl' fp' σ2 H2 F2 (o2.mono s2) w2 _ fun y d F3 M3 H3 q4 s3 w3 x3 => ?_
    obtain ⟨rfl, rfl⟩ := q4
    have hl : updM M Dl (.lst ys) Dl = some (.lst ys) := updM_same
    obtain ⟨hF, acc, e, ha⟩ := w3.mem Dl _ hl
    refine ⟨acc, e, by rw [dps_len ha]; exact Nat.lt_of_lt_of_le hz (by decide), F3, (s1.trans s2).trans s3, ?_⟩
    have := w3.put hl (o := .lst (acc ++ [y])) (m' := .lst (ys ++ [y'])) ⟨_, rfl, dps_append ha (.cons x3 .nil)⟩
    rw [updM_upd] at this
    rw [hy]
    exact this
/-- the first i items' elements -/
def upto (ps : List PyData) (out : PyData → Option PyData) (i : Nat) : List PyData := (ps.take i).filterMap out
theorem upto_succ {ps : List PyData} {out : PyData → Option PyData} {i : Nat} {p : PyData} (h : ps[i]? = some p) : upto ps out (i + 1) = upto ps out i ++ (out p).toList := by
  unfold upto
  rw [List.take_add_one, h, List.filterMap_append]
  cases e : out p <;> simp [e]
theorem upto_len (ps : List PyData) (out : PyData → Option PyData) (i : Nat) : (upto ps out i).length ≤ ps.length := by
  unfold upto
  refine Nat.le_trans (List.length_filterMap_le _ _) ?_
  rw [List.length_take]
  exact Nat.min_le_right _ _
theorem lc_end {ps : List PyData} {out : PyData → Option PyData} {F F1 H' : Hp} {Dl : Addr} {R : VK} (hs : Same F F1) (hD : M Dl = none) (w : LcW X.K F1 M Dl (upto ps out ps.length) H') (q : Q (L (ps.filterMap out)) M) (k : Lk X F Q R) : R (.ref Dl) H' := by
  obtain ⟨F2, s2, w2⟩ := w
  obtain ⟨F3, s3, w3, x3⟩ := w2.freeze updM_same
  rw [delM_upd hD] at w3
  unfold upto at x3
  rw [List.take_length] at x3
  exact k _ _ F3 M H' q ((hs.trans s2).trans s3) w3 x3
variable {tg iter elt : Expr} {ifs : List Expr} {scope : Scope}
/-- the reading of a comprehension over a list or a tuple of data -/
theorem lcL_core {t : Tgt} {vs : List Nat} {σ : L2.St} {H F : Hp} {R : VK} (ht : ∀ j ∈ t.slots, j ∈ vs) (ho : EnvOk X.K F σ ρ) (hw : WD X.K F M H) (k : Lk X F Q R)
    (h : DE X iter ρ M fun d M1 => ∃ ps out, d = L ps ∧ ps.length ≤ 50000 ∧ (∀ p ∈ ps, Gives X scope ifs elt t vs ρ M1 p (out p)) ∧ Q (L (ps.filterMap out)) M1) :
    tLc (iList X.K (wpE X iter)) (t.g X.K) (ttB X scope ifs) (teB X scope elt) vs σ H R := by
  refine h σ H F ho hw _ fun v1 d1 F1 M1 H1 q1 s1 w1 x1 => ?_
  obtain ⟨ps, out, rfl, hz, gv, q⟩ := q1
  cases x1 with
  | @lst a1 vs1 _ hq ha =>
    refine ⟨_, rfl, ⟨_, sqL_mono w1.ext hq⟩, fun Dl hD => ?_⟩
    have hM := (w1.fresh hD).2
    refine lc_list (xs := vs1) (fun i H' => LcW X.K F1 M1 Dl (upto ps out i) H') ⟨F1, Same.refl F1, w1.new hD ⟨_, rfl, .nil⟩⟩ (fun i H' _ w => ?_) (fun i v H' hv w => ?_) fun H' w => ?_
    · obtain ⟨F2, s2, w2⟩ := w
      exact sqL_mono w2.ext (sqL_mono s2 hq)
    · obtain ⟨p, hp, hd⟩ := dps_get' ha hv
      exact lc_turn ht (ho.mono s1) hM hd (gv p (List.mem_of_getElem? hp)) w (Nat.lt_of_le_of_lt (upto_len _ _ _) (by omega)) (upto_succ hp)
    · rw [dps_len ha] at w
      exact lc_end s1 hM w q k
theorem lcT_core {t : Tgt} {vs : List Nat} {σ : L2.St} {H F : Hp} {R : VK} (ht : ∀ j ∈ t.slots, j ∈ vs) (ho : EnvOk X.K F σ ρ) (hw : WD X.K F M H) (k : Lk X F Q R)
    (h : DE X iter ρ M fun d M1 => ∃ ps out, d = T ps ∧ ps.length ≤ 50000 ∧ (∀ p ∈ ps, Gives X scope ifs elt t vs ρ M1 p (out p)) ∧ Q (L (ps.filterMap out)) M1) :
    tLc (iTup X.K (wpE X iter)) (t.g X.K) (ttB X scope ifs) (teB X scope elt) vs σ H R := by
  refine h σ H F ho hw _ fun v1 d1 F1 M1 H1 q1 s1 w1 x1 => ?_
  obtain ⟨ps, out, rfl, hz, gv, q⟩ := q1
  cases x1 with
  | @tup a1 vs1 _ hq ha =>
    refine ⟨_, rfl, ⟨_, sqT_mono w1.ext hq⟩, fun Dl hD => ?_⟩
    have hM := (w1.fresh hD).2
    refine lc_tup (xs := vs1) (fun i H' => LcW X.K F1 M1 Dl (upto ps out i) H') ⟨F1, Same.refl F1, w1.new hD ⟨_, rfl, .nil⟩⟩ (fun i H' _ w => ?_) (fun i v H' hv w => ?_) fun H' w => ?_
    · obtain ⟨F2, s2, w2⟩ := w
      exact sqT_mono w2.ext (sqT_mono s2 hq)
    · obtain ⟨p, hp, hd⟩ := dps_get' ha hv
      exact lc_turn ht (ho.mono s1) hM hd (gv p (List.mem_of_getElem? hp)) w (Nat.lt_of_le_of_lt (upto_len _ _ _) (by omega)) (upto_succ hp)
    · rw [dps_len ha] at w
      exact lc_end s1 hM w q k
/-- [elt for tg in iter if ..] over a list of data, as data -/
theorem de_lcL (t : Tgt) (own : List (Str × Nat)) (N : List Str) (sc : Scope) (hN : X.N.Nodup) (ok : blkC N sc scope own = true) (hg : Blk X scope fun X' => PG X' tg (t.g X.K)) (ht : ∀ j ∈ t.slots, j ∈ own.map (·.2))
    (h : DE X iter ρ M fun d M1 => ∃ ps out, d = L ps ∧ ps.length ≤ 50000 ∧ (∀ p ∈ ps, Gives X scope ifs elt t (own.map (·.2)) ρ M1 p (out p)) ∧ Q (L (ps.filterMap out)) M1)
    (h1 : X.N = N := by rfl) (h2 : X.env.scope = sc := by rfl) (hc : X.calm = true := by rfl) (hs : ∀ x, foldedSetIterable iter X.env x = pure x := by intro _; rfl) : DE X (.ListComp elt [⟨tg, iter, ifs, 0⟩] scope pos) ρ M Q := fun σ H F ho hw R k =>
  toE (pe_lc (te := teB X scope elt) (tt := ttB X scope ifs) hc hN (pi_list sE) (blkOk_by (by rw [h1, h2]; exact ok)) hg (fun s H C cl fp => ⟨fun pins s' _ _ _ I h => h s H C cl fp pins s' I⟩) (fun s H C cl fp => ⟨fun pins s' _ _ _ I h => h s H C cl fp pins s' I⟩) hs) (lcL_core ht ho hw k h)
theorem de_lcT (t : Tgt) (own : List (Str × Nat)) (N : List Str) (sc : Scope) (hN : X.N.Nodup) (ok : blkC N sc scope own = true) (hg : Blk X scope fun X' => PG X' tg (t.g X.K)) (ht : ∀ j ∈ t.slots, j ∈ own.map (·.2))
    (h : DE X iter ρ M fun d M1 => ∃ ps out, d = T ps ∧ ps.length ≤ 50000 ∧ (∀ p ∈ ps, Gives X scope ifs elt t (own.map (·.2)) ρ M1 p (out p)) ∧ Q (L (ps.filterMap out)) M1)
    (h1 : X.N = N := by rfl) (h2 : X.env.scope = sc := by rfl) (hc : X.calm = true := by rfl) (hs : ∀ x, foldedSetIterable iter X.env x = pure x := by intro _; rfl) : DE X (.ListComp elt [⟨tg, iter, ifs, 0⟩] scope pos) ρ M Q := fun σ H F ho hw R k =>
  toE (pe_lc (te := teB X scope elt) (tt := ttB X scope ifs) hc hN (pi_tup sE) (blkOk_by (by rw [h1, h2]; exact ok)) hg (fun s H C cl fp => ⟨fun pins s' _ _ _ I h => h s H C cl fp pins s' I⟩) (fun s H C cl fp => ⟨fun pins s' _ _ _ I h => h s H C cl fp pins s' I⟩) hs) (lcT_core ht ho hw k h)
/-- name = [..] on one line, the name a local -/
theorem ds_lcL (i : Nat) (t : Tgt) (own : List (Str × Nat)) (N : List Str) (sc : Scope) {y : Str} {py spos : Pos} (hN : X.N.Nodup) (ok : blkC N sc scope own = true) (hg : Blk X scope fun X' => PG X' tg (t.g X.K)) (ht : ∀ j ∈ t.slots, j ∈ own.map (·.2))
    (h : DE X iter ρ M fun d M1 => ∃ ps out, d = L ps ∧ ps.length ≤ 50000 ∧ (∀ p ∈ ps, Gives X scope ifs elt t (own.map (·.2)) ρ M1 p (out p)) ∧ D.nx (ρ.set i (some (L (ps.filterMap out)))) M1)
    (hl : (py.line == spos.line) = true := by rfl) (ha : (scope.names.any fun (n, k) => n == y && (k == .local || k == .cell)) = false := by decide +kernel)
    (h1 : X.N = N := by rfl) (h2 : X.env.scope = sc := by rfl) (hy : X.N[i]? = some y := by rfl) (hyl : X.env.scope.names.lookup y = some .local := by rfl) (hk : X.env.scope.kind = .function := by rfl)
    (hc : X.calm = true := by rfl) (hs : ∀ x, foldedSetIterable iter X.env x = pure x := by intro _; rfl) (hp : (py.line == pos.line) = true := by rfl) : DS X (.Assign [.Name y py] (.ListComp elt [⟨tg, iter, ifs, 0⟩] scope pos) spos) ρ M D := fun σ H F ho hw R k =>
  toS (ps_setLc (te := teB X scope elt) (tt := ttB X scope ifs) hc hN hy hyl (sw_true hk hyl hp ha) (pi_list sE) (blkOk_by (by rw [h1, h2]; exact ok)) hg (fun s H C cl fp => ⟨fun pins s' _ _ _ I h => h s H C cl fp pins s' I⟩) (fun s H C cl fp => ⟨fun pins s' _ _ _ I h => h s H C cl fp pins s' I⟩) hs)
    (lcL_core (Q := fun d M1 => D.nx (ρ.set i (some d)) M1) ht ho hw (fun v d F' M' H' q s w x => k.nx _ _ F' M' H' q s w ((ho.mono s).set i x)) h)
theorem ds_lcT (i : Nat) (t : Tgt) (own : List (Str × Nat)) (N : List Str) (sc : Scope) {y : Str} {py spos : Pos} (hN : X.N.Nodup) (ok : blkC N sc scope own = true) (hg : Blk X scope fun X' => PG X' tg (t.g X.K)) (ht : ∀ j ∈ t.slots, j ∈ own.map (·.2))
    (h : DE X iter ρ M fun d M1 => ∃ ps out, d = T ps ∧ ps.length ≤ 50000 ∧ (∀ p ∈ ps, Gives X scope ifs elt t (own.map (·.2)) ρ M1 p (out p)) ∧ D.nx (ρ.set i (some (L (ps.filterMap out)))) M1)
    (hl : (py.line == spos.line) = true := by rfl) (ha : (scope.names.any fun (n, k) => n == y && (k == .local || k == .cell)) = false := by decide +kernel)
    (h1 : X.N = N := by rfl) (h2 : X.env.scope = sc := by rfl) (hy : X.N[i]? = some y := by rfl) (hyl : X.env.scope.names.lookup y = some .local := by rfl) (hk : X.env.scope.kind = .function := by rfl)
    (hc : X.calm = true := by rfl) (hs : ∀ x, foldedSetIterable iter X.env x = pure x := by intro _; rfl) (hp : (py.line == pos.line) = true := by rfl) : DS X (.Assign [.Name y py] (.ListComp elt [⟨tg, iter, ifs, 0⟩] scope pos) spos) ρ M D := fun σ H F ho hw R k =>
  toS (ps_setLc (te := teB X scope elt) (tt := ttB X scope ifs) hc hN hy hyl (sw_true hk hyl hp ha) (pi_tup sE) (blkOk_by (by rw [h1, h2]; exact ok)) hg (fun s H C cl fp => ⟨fun pins s' _ _ _ I h => h s H C cl fp pins s' I⟩) (fun s H C cl fp => ⟨fun pins s' _ _ _ I h => h s H C cl fp pins s' I⟩) hs)
    (lcT_core (Q := fun d M1 => D.nx (ρ.set i (some d)) M1) ht ho hw (fun v d F' M' H' q s w x => k.nx _ _ F' M' H' q s w ((ho.mono s).set i x)) h)
/-! ### in -/
theorem inV_ints {i : Int} : ∀ ns : List Int, inV (.int i) (ns.map V.int) = ns.any (fun n => decide (n = i))
  | [] => rfl
  | n :: ns => by
    have ih := inV_ints (i := i) ns
    unfold inV at ih ⊢
    rw [List.map_cons, List.any_cons, List.any_cons, ih]
    rfl
theorem flat_ints : ∀ ns : List Int, (ns.map V.int).all flatV = true
  | [] => rfl
  | _ :: ns => flat_ints ns
theorem dt_inT {QT : Bool → Mem → Prop} (h : DE X a ρ M fun d1 M1 => DE X b ρ M1 fun d2 M2 => ∃ (i : Int) (ns : List Int), d1 = I i ∧ d2 = T (ns.map .int) ∧ QT (ns.any (fun n => decide (n = i))) M2) (hm : behindInMarks .In b = false := by rfl) : DT X (.Compare a [.In] [b] pos) ρ M QT := by
  refine dt_cmp op_in_seq (h.imp fun d1 M1 h1 => h1.imp fun d2 M2 h2 => ?_) hm
  obtain ⟨i, ns, rfl, rfl, q⟩ := h2
  intro F H v1 v2 x1 x2 w R k
  cases x1
  cases x2 with
  | tup hs ht =>
    have e := dps_ints ht
    subst e
    refine ⟨_, _, rfl, .inr (sqT_mono w.ext hs), rfl, flat_ints ns, ?_⟩
    rw [if_neg Bool.false_ne_true, inV_ints]
    exact k _ _ F M2 H ⟨_, rfl, q⟩ (Same.refl F) w (.bl _)
/-! ### texts compared -/
theorem cS_eq : OpR X (compareOp .Eq) (fun x y H Q => ∃ i j, x = .str i ∧ y = .str j ∧ Q (.bl (decide (i = j))) H) := by
  intro pins s σ H x y v u Q I rx ry h
  obtain ⟨i, j, rfl, rfl, q⟩ := h
  refine op_eq pins s σ H _ _ v u Q I rx ry ⟨rfl, ?_⟩
  rw [show decide (V.str i = V.str j) = decide (i = j) by rw [dec_str]; exact Bool.beq_eq_decide_eq i j]
  exact q
theorem cS_ne : OpR X (compareOp .NotEq) (fun x y H Q => ∃ i j, x = .str i ∧ y = .str j ∧ Q (.bl (!decide (i = j))) H) := by
  intro pins s σ H x y v u Q I rx ry h
  obtain ⟨i, j, rfl, rfl, q⟩ := h
  refine op_ne pins s σ H _ _ v u Q I rx ry ⟨rfl, ?_⟩
  rw [show decide (V.str i = V.str j) = decide (i = j) by rw [dec_str]; exact Bool.beq_eq_decide_eq i j]
  exact q
theorem dt_eqS {QT : Bool → Mem → Prop} (h : DE X a ρ M fun d1 M1 => DE X b ρ M1 fun d2 M2 => ∃ i j, d1 = S i ∧ d2 = S j ∧ QT (decide (i = j)) M2) : DT X (.Compare a [.Eq] [b] pos) ρ M QT := by
  refine dt_cmp cS_eq (h.imp fun d1 M1 h1 => h1.imp fun d2 M2 h2 => ?_) (nomark _)
  obtain ⟨i, j, rfl, rfl, q⟩ := h2
  intro F H v1 v2 x1 x2 w R k
  cases x1
  cases x2
  exact ⟨i, j, rfl, rfl, k _ _ F M2 H ⟨_, rfl, q⟩ (Same.refl F) w (.bl _)⟩
theorem dt_neS {QT : Bool → Mem → Prop} (h : DE X a ρ M fun d1 M1 => DE X b ρ M1 fun d2 M2 => ∃ i j, d1 = S i ∧ d2 = S j ∧ QT (!decide (i = j)) M2) : DT X (.Compare a [.NotEq] [b] pos) ρ M QT := by
  refine dt_cmp cS_ne (h.imp fun d1 M1 h1 => h1.imp fun d2 M2 h2 => ?_) (nomark _)
  obtain ⟨i, j, rfl, rfl, q⟩ := h2
  intro F H v1 v2 x1 x2 w R k
  cases x1
  cases x2
  exact ⟨i, j, rfl, rfl, k _ _ F M2 H ⟨_, rfl, q⟩ (Same.refl F) w (.bl _)⟩
/-! ### a memory that is M but at some places -/
theorem delM_ne {M : Mem} {a b : Addr} (h : b ≠ a) : delM M a b = M b := by unfold delM; rw [if_neg h]
theorem delM_same {M : Mem} {a : Addr} : delM M a a = none := by unfold delM; rw [if_pos rfl]
end
end DL
namespace DL
open PySem PySem.Spec L2
/-! ### slices -/
def cutL {α : Type} (xs : List α) (lo hi : Option Int) : List α := (xs.drop (HT.sIx xs.length 0 lo)).take (HT.sIx xs.length xs.length hi - HT.sIx xs.length 0 lo)
theorem cutL_to {α : Type} (xs : List α) (n : Nat) : cutL xs none (some (n : Int)) = xs.take n := by
  unfold cutL
  rw [HT.sIx_none, HT.sIx_nat]
  show (xs.take (min n xs.length)) = xs.take n
  rw [List.take_eq_take_iff]
  omega
theorem cutL_from {α : Type} (xs : List α) (n : Nat) : cutL xs (some (n : Int)) none = xs.drop n := by
  unfold cutL
  rw [HT.sIx_none, HT.sIx_nat]
  by_cases h : n ≤ xs.length
  · rw [Nat.min_eq_left h]
    exact List.take_of_length_le (by rw [List.length_drop]; omega)
  · rw [Nat.min_eq_right (by omega), List.drop_of_length_le (by omega : xs.length ≤ n), List.drop_length, List.take_nil]
theorem cutL_mid {α : Type} (xs : List α) (m n : Nat) : cutL xs (some (m : Int)) (some (n : Int)) = (xs.drop m).take (n - m) := by
  unfold cutL
  rw [HT.sIx_nat, HT.sIx_nat]
  by_cases h : m ≤ xs.length
  · rw [Nat.min_eq_left h, List.take_eq_take_iff, List.length_drop]
    omega
  · rw [show min m xs.length = xs.length by omega, List.drop_of_length_le (by omega : xs.length ≤ m), List.drop_length, List.take_nil, List.take_nil]
theorem cutL_mem {α : Type} {xs : List α} {lo hi : Option Int} {x : α} (h : x ∈ cutL xs lo hi) : x ∈ xs := List.mem_of_mem_drop (List.mem_of_mem_take h)
theorem cutL_all {α : Type} {xs : List α} {lo hi : Option Int} (h : HT.sIx xs.length 0 lo = 0 ∧ HT.sIx xs.length xs.length hi = xs.length) : cutL xs lo hi = xs := by
  unfold cutL
  rw [h.1, h.2]
  exact List.take_of_length_le (by rw [List.length_drop]; omega)
section
variable {K : PySem.W.Frag} {F : Hp}
theorem dps_drop : ∀ {vs : List V} {ps : List PyData} (n : Nat), DpAll K F vs ps → DpAll K F (vs.drop n) (ps.drop n)
  | _, _, 0, h => h
  | _, _, _ + 1, .nil => .nil
  | _, _, n + 1, .cons _ t => dps_drop n t
theorem dps_take : ∀ {vs : List V} {ps : List PyData} (n : Nat), DpAll K F vs ps → DpAll K F (vs.take n) (ps.take n)
  | _, _, 0, _ => .nil
  | _, _, _ + 1, .nil => .nil
  | _, _, n + 1, .cons h t => .cons h (dps_take n t)
theorem dps_cut {vs : List V} {ps : List PyData} (lo hi : Option Int) (h : DpAll K F vs ps) : DpAll K F (cutV vs lo hi) (cutL ps lo hi) := by
  unfold cutV cutL
  rw [dps_len h]
  exact dps_take _ (dps_drop _ h)
end
section
variable {X : Cx} {e a b c : Expr} {es : List Expr} {st : Stmt} {sts : List Stmt} {pos p p2 : Pos} {ρ : Ev} {M : Mem} {Q : QE} {D : DEnds} {lo hi : Option Expr}
def toO (X : Cx) : Option Expr → TO
  | none => tNoPart
  | some e => tPart (wpE X e)
theorem sO : ∀ {o : Option Expr}, PO X o (toO X o)
  | none => po_none
  | some _ => po_some sE
/-- a slice's part -/
def DO (X : Cx) (o : Option Expr) (ρ : Ev) (M : Mem) (Q : Option Int → Mem → Prop) : Prop := match o with
  | none => Q none M
  | some e => DE X e ρ M fun d M1 => ∃ i, d = I i ∧ Q (some i) M1
theorem do_none {Q : Option Int → Mem → Prop} (q : Q none M) : DO X none ρ M Q := q
theorem do_some {Q : Option Int → Mem → Prop} (h : DE X e ρ M fun d M1 => ∃ i, d = I i ∧ Q (some i) M1) : DO X (some e) ρ M Q := h
theorem DO.run {o : Option Expr} {Q : Option Int → Mem → Prop} (h : DO X o ρ M Q) {σ : St} {H F : Hp} (ho : EnvOk X.K F σ ρ) (hw : WD X.K F M H) {R : Option Int → Hp → Prop}
    (k : ∀ i F' M' H', Q i M' → Same F F' → WD X.K F' M' H' → R i H') : toO X o σ H R := by
  cases o with
  | none => exact k none F M H h (Same.refl F) hw
  | some e =>
    refine h σ H F ho hw _ fun v d F1 M1 H1 q s w x => ?_
    obtain ⟨i, rfl, q⟩ := q
    cases x
    exact ⟨i, rfl, k _ F1 M1 H1 q s w⟩
theorem de_slT (h : DE X a ρ M fun d M1 => ∃ ps, d = T ps ∧ DO X lo ρ M1 fun l M2 => DO X hi ρ M2 fun u M3 => Q (T (cutL ps l u)) M3) : DE X (.Subscript a (.Slice lo hi none p2) pos) ρ M Q := fun σ H F ho hw R k => by
  refine toE (pe_slice sl_tupA sE sO sO) ?_
  refine h σ H F ho hw _ fun v d F1 M1 H1 q s w x => ?_
  obtain ⟨ps, rfl, q⟩ := q
  refine q.run (ho.mono s) w fun l F2 M2 H2 q s2 w2 => ?_
  refine DO.run q (ho.mono (s.trans s2)) w2 fun u F3 M3 H3 q s3 w3 => ?_
  have s4 := s.trans (s2.trans s3)
  cases x with
  | tup hs ht =>
    have hs3 := sqT_mono (s2.trans s3) hs
    have ht3 := dps_mono (s2.trans s3) _ _ ht
    refine ⟨_, _, rfl, sqT_mono w3.ext hs3, fun hall => ?_, fun _ p hp => ?_⟩
    · rw [dps_len ht] at hall
      refine k _ _ F3 M3 H3 q s4 w3 ?_
      rw [cutL_all hall]
      exact .tup hs3 ht3
    · obtain ⟨s5, w5⟩ := w3.laid (o := .tup (cutV _ l u)) hp
      exact k _ _ _ M3 _ q (s4.trans s5) w5 (.tup (SqT.of upd_same) (dps_mono s5 _ _ (dps_cut l u ht3)))
theorem de_slL (h : DE X a ρ M fun d M1 => ∃ ps, d = L ps ∧ DO X lo ρ M1 fun l M2 => DO X hi ρ M2 fun u M3 => Q (L (cutL ps l u)) M3) : DE X (.Subscript a (.Slice lo hi none p2) pos) ρ M Q := fun σ H F ho hw R k => by
  refine toE (pe_slice sl_list sE sO sO) ?_
  refine h σ H F ho hw _ fun v d F1 M1 H1 q s w x => ?_
  obtain ⟨ps, rfl, q⟩ := q
  refine q.run (ho.mono s) w fun l F2 M2 H2 q s2 w2 => ?_
  refine DO.run q (ho.mono (s.trans s2)) w2 fun u F3 M3 H3 q s3 w3 => ?_
  have s4 := s.trans (s2.trans s3)
  cases x with
  | lst hs ht =>
    have hs3 := sqL_mono (s2.trans s3) hs
    have ht3 := dps_mono (s2.trans s3) _ _ ht
    refine ⟨_, _, rfl, sqL_mono w3.ext hs3, fun p hp => ?_⟩
    obtain ⟨s5, w5⟩ := w3.laid (o := .lst (cutV _ l u)) hp
    exact k _ _ _ M3 _ q (s4.trans s5) w5 (.lst (SqL.of upd_same) (dps_mono s5 _ _ (dps_cut l u ht3)))
theorem de_slS (h : DE X a ρ M fun d M1 => ∃ z : Str, d = S z ∧ z.length ≤ 10000 ∧ DO X lo ρ M1 fun l M2 => DO X hi ρ M2 fun u M3 => Q (S (cutS z l u)) M3) : DE X (.Subscript a (.Slice lo hi none p2) pos) ρ M Q := fun σ H F ho hw R k => by
  refine toE (pe_slice sl_str sE sO sO) ?_
  refine h σ H F ho hw _ fun v d F1 M1 H1 q s w x => ?_
  obtain ⟨z, rfl, hz, q⟩ := q
  cases x
  refine q.run (ho.mono s) w fun l F2 M2 H2 q s2 w2 => ?_
  refine DO.run q (ho.mono (s.trans s2)) w2 fun u F3 M3 H3 q s3 w3 => ?_
  exact ⟨z, rfl, Nat.le_trans hz (by decide), k _ _ F3 M3 H3 q (s.trans (s2.trans s3)) w3 (.str _)⟩
end
end DL
namespace DL
open PySem PySem.Spec L2
/-! ### dicts with keys ints and texts -/
section
variable {κ : Type} [DecidableEq κ]
def valE (kvs : List (κ × EV)) (k : κ) : Option EV := (kvs.find? fun kv => decide (kv.1 = k)).map (·.2)
def putE (kvs : List (κ × EV)) (k : κ) (v : EV) : List (κ × EV) :=
  if (kvs.any fun kv => decide (kv.1 = k)) = true then kvs.map (fun kv => if kv.1 = k then (kv.1, v) else kv) else kvs ++ [(k, v)]
variable {K : PySem.W.Frag} {F : Hp}
theorem KVok.val {k : κ} : ∀ {vs : List (κ × V)} {ds : List (κ × EV)}, KVok K F vs ds → (∀ e, valE ds k = some e → ∃ v, valV vs k = some v ∧ EvOk K F v e) ∧ (valE ds k = none → valV vs k = none) ∧ (vs.any fun kv => decide (kv.1 = k)) = (ds.any fun kv => decide (kv.1 = k))
  | [], [], _ => ⟨fun e h => (by cases h), fun _ => rfl, rfl⟩
  | [], d :: ds, h => by cases h.1
  | v :: vs, [], h => by cases h.1
  | v :: vs, d :: ds, ⟨h1, h2⟩ => by
    rw [List.map_cons, List.map_cons] at h1
    injection h1 with e1 e2
    cases h2 with
    | cons x xs =>
      have ih := KVok.val (k := k) (vs := vs) (ds := ds) ⟨e2, xs⟩
      by_cases hk : d.1 = k
      · have hv : v.1 = k := e1.trans hk
        have c1 : valE (d :: ds) k = some d.2 := by simp [valE, List.find?_cons, hk]
        rw [c1, valV_pos hv]
        exact ⟨fun e h => (by cases h; exact ⟨_, rfl, x⟩), fun h => (by cases h), by simp [hk, hv]⟩
      · have hv : ¬ v.1 = k := fun z => hk (e1.symm.trans z)
        have c1 : valE (d :: ds) k = valE ds k := by simp [valE, List.find?_cons, hk]
        rw [c1, valV_neg hv]
        exact ⟨ih.1, ih.2.1, by simp only [List.any_cons, hk, hv, decide_false, Bool.false_or]; exact ih.2.2⟩
theorem evs_snoc : ∀ {vs : List V} {ds : List EV} {v : V} {d : EV}, EvsOk K F vs ds → EvOk K F v d → EvsOk K F (vs ++ [v]) (ds ++ [d])
  | _, _, _, _, .nil, h => .cons h .nil
  | _, _, _, _, .cons a t, h => .cons a (evs_snoc t h)
theorem KVok.repl {k : κ} {v : V} {e : EV} (hv : EvOk K F v e) : ∀ {vs : List (κ × V)} {ds : List (κ × EV)}, KVok K F vs ds → KVok K F (vs.map fun kv => if kv.1 = k then (kv.1, v) else kv) (ds.map fun kv => if kv.1 = k then (kv.1, e) else kv)
  | [], [], _ => ⟨rfl, .nil⟩
  | [], d :: ds, h => by cases h.1
  | v :: vs, [], h => by cases h.1
  | v' :: vs, d :: ds, ⟨h1, h2⟩ => by
    rw [List.map_cons, List.map_cons] at h1
    injection h1 with e1 e2
    cases h2 with
    | cons x xs =>
      have ih := KVok.repl (k := k) hv (vs := vs) (ds := ds) ⟨e2, xs⟩
      by_cases hk : d.1 = k
      · have hv' : v'.1 = k := e1.trans hk
        refine ⟨?_, ?_⟩
        · rw [List.map_cons, List.map_cons, List.map_cons, List.map_cons, if_pos hk, if_pos hv', ih.1]; rw [hk, hv']
        · rw [List.map_cons, List.map_cons, List.map_cons, List.map_cons, if_pos hk, if_pos hv']; exact .cons hv ih.2
      · have hv' : ¬ v'.1 = k := fun z => hk (e1.symm.trans z)
        refine ⟨?_, ?_⟩
        · rw [List.map_cons, List.map_cons, List.map_cons, List.map_cons, if_neg hk, if_neg hv', ih.1, e1]
        · rw [List.map_cons, List.map_cons, List.map_cons, List.map_cons, if_neg hk, if_neg hv']; exact .cons x ih.2
theorem KVok.put {k : κ} {v : V} {e : EV} {vs : List (κ × V)} {ds : List (κ × EV)} (h : KVok K F vs ds) (hv : EvOk K F v e) : KVok K F (putK vs k v) (putE ds k e) := by
  unfold putK putE
  rw [(h.val (k := k)).2.2]
  split
  · exact h.repl hv
  · refine ⟨?_, ?_⟩
    · rw [List.map_append, List.map_append, h.1]; rfl
    · rw [List.map_append, List.map_append]; exact evs_snoc h.2 hv
theorem KVok.len {vs : List (κ × V)} {ds : List (κ × EV)} (h : KVok K F vs ds) : vs.length = ds.length := by
  have := congrArg List.length h.1
  rwa [List.length_map, List.length_map] at this
def mergeE (kvs more : List (κ × EV)) : List (κ × EV) := more.foldl (fun acc kv => putE acc kv.1 kv.2) kvs
end
theorem KVok.merge {K : PySem.W.Frag} {F : Hp} : ∀ {more : List (Key × V)} {mds : List (Key × EV)} {vs : List (Key × V)} {ds : List (Key × EV)}, KVok K F more mds → KVok K F vs ds → KVok K F (mergeK vs more) (mergeE ds mds)
  | [], [], _, _, _, h => h
  | [], d :: ds, _, _, h, _ => by cases h.1
  | v :: vs, [], _, _, h, _ => by cases h.1
  | (k, v) :: vs, (k', d) :: ds, ws, es, ⟨h1, h2⟩, h => by
    rw [List.map_cons, List.map_cons] at h1
    injection h1 with e1 e2
    have e1 : k = k' := e1
    subst e1
    cases h2 with
    | cons x xs => exact KVok.merge (more := vs) (mds := ds) ⟨e2, xs⟩ (h.put x)
def keyD : Key → EV
  | .inl i => I i
  | .inr z => S z
theorem keyD_V {K : PySem.W.Frag} {F : Hp} {v : V} : ∀ {k : Key}, EvOk K F v (keyD k) → v = kV k
  | .inl i, h => by cases (show Dp K F v (.int i) from h); rfl
  | .inr z, h => by cases (show Dp K F v (.str z) from h); rfl
section
variable {X : Cx} {e a b c : Expr} {es : List Expr} {st : Stmt} {sts : List Stmt} {pos p p2 : Pos} {ρ : Ev} {M : Mem} {Q : QE} {D : DEnds}
/-- the pairs of a display -/
def DPrs (X : Cx) (ps : List (Expr × Expr)) (ρ : Ev) (M : Mem) (Q : List (Key × EV) → Mem → Prop) : Prop := match ps with
  | [] => Q [] M
  | (k, v) :: r => DE X k ρ M fun d1 M1 => ∃ key, d1 = keyD key ∧ DE X v ρ M1 fun d2 M2 => DPrs X r ρ M2 fun kvs M3 => Q ((key, d2) :: kvs) M3
theorem dprs_nil {Q : List (Key × EV) → Mem → Prop} (q : Q [] M) : DPrs X [] ρ M Q := q
theorem dprs_cons {r : List (Expr × Expr)} {Q : List (Key × EV) → Mem → Prop} (h : DE X a ρ M fun d1 M1 => ∃ key, d1 = keyD key ∧ DE X b ρ M1 fun d2 M2 => DPrs X r ρ M2 fun kvs M3 => Q ((key, d2) :: kvs) M3) : DPrs X ((a, b) :: r) ρ M Q := h
theorem dprs_run : ∀ {ps : List (Expr × Expr)} {M : Mem} {Q : List (Key × EV) → Mem → Prop} {σ : St} {H F : Hp} {R : List (V × V) → Hp → Prop}, DPrs X ps ρ M Q → EnvOk X.K F σ ρ → WD X.K F M H →
    (∀ kvs ds F' M' H', Q ds M' → Same F F' → WD X.K F' M' H' → KVok X.K F' kvs ds → R (kvs.map fun kv => (kV kv.1, kv.2)) H') → tPairs (ps.map fun p => (wpE X p.1, wpE X p.2)) σ H R
  | [], M, Q, σ, H, F, R, h, ho, hw, k => k [] [] F M H h (Same.refl F) hw ⟨rfl, .nil⟩
  | (e1, e2) :: r, M, Q, σ, H, F, R, h, ho, hw, k => by
    show wpE X e1 σ H fun x H1 => wpE X e2 σ H1 fun y H2 => tPairs (r.map fun p => (wpE X p.1, wpE X p.2)) σ H2 fun ps H3 => R ((x, y) :: ps) H3
    refine h σ H F ho hw _ fun v1 d1 F1 M1 H1 q1 s1 w1 x1 => ?_
    obtain ⟨key, rfl, q1⟩ := q1
    refine q1 σ H1 F1 (ho.mono s1) w1 _ fun v2 d2 F2 M2 H2 q2 s2 w2 x2 => ?_
    refine dprs_run (ps := r) q2 (ho.mono (s1.trans s2)) w2 fun kvs ds F3 M3 H3 q3 s3 w3 x3 => ?_
    have e := keyD_V x1
    rw [e]
    exact k ((key, v2) :: kvs) _ F3 M3 H3 q3 (s1.trans (s2.trans s3)) w3 ⟨by rw [List.map_cons, List.map_cons, x3.1], .cons (x2.mono s3) x3.2⟩
/-- {k: v, ..}, a dict that may change -/
theorem de_disp {ks : List (Option Expr)} {vs : List Expr} {ps : List (Expr × Expr)} (h : ∀ l, M l = none → DPrs X ps ρ (updM M l (.dk [])) fun kvs M2 => M2 l = some (.dk []) ∧ Nat.ble kvs.length 15 = true ∧ Q (.o l) (updM M2 l (.dk (mergeE [] kvs))))
    (hp : PPs X pos ks vs (ps.map fun p => (wpE X p.1, wpE X p.2))) (hall : ks.all (·.isSome) = true := by rfl) (hl : ks.length = vs.length := by rfl) (h0 : ks ≠ [] := by exact List.cons_ne_nil _ _) (h15 : ks.length ≤ 15 := by decide) : DE X (.Dict ks vs pos) ρ M Q := fun σ H F ho hw R k => by
  refine toE (pe_disp hp hall hl h0 h15) ?_
  intro l hl'
  refine dprs_run (h l (hw.fresh hl').2) ho (hw.new hl' (m := .dk []) ⟨[], rfl, rfl, .nil⟩) fun kvs ds F2 M2 H2 q s w x => ?_
  obtain ⟨q1, q2, q⟩ := q
  obtain ⟨hF, vs0, e0, y0⟩ := w.mem l _ q1
  have : vs0 = [] := by
    have := y0.len
    cases vs0 with
    | nil => rfl
    | cons a b => cases this
  subst this
  refine ⟨e0, kvs, rfl, by rw [x.len]; exact Nat.le_of_ble_eq_true q2, ?_⟩
  exact k _ _ F2 _ _ q s (w.put q1 ⟨_, rfl, x.merge ⟨rfl, .nil⟩⟩) rfl
/-- d[k], there -/
theorem de_ixK (hu : X.A.units + 64 < cLine) (h : DE X a ρ M fun d1 M1 => DE X b ρ M1 fun d2 M2 => ∃ l kvs key v, d1 = .o l ∧ M2 l = some (.dk kvs) ∧ d2 = keyD key ∧ valE kvs key = some v ∧ Q v M2) (hb : NoSl b := by exact fun _ _ => rfl) : DE X (.Subscript a b pos) ρ M Q := fun σ H F ho hw R k => by
  refine toE (pe_dget (by omega) sE sE hb) ?_
  refine h σ H F ho hw _ fun v1 d1 F1 M1 H1 q1 s1 w1 x1 => ?_
  refine q1 σ H1 F1 (ho.mono s1) w1 _ fun v2 d2 F2 M2 H2 q2 s2 w2 x2 => ?_
  obtain ⟨l, kvs, key, v, rfl, hl, rfl, hv, q⟩ := q2
  cases (show v1 = V.ref l from x1)
  obtain ⟨hF, vs, e, ht⟩ := w2.mem l _ hl
  obtain ⟨v', e2, x3⟩ := (ht.val (k := key)).1 v hv
  refine ⟨l, v', rfl, ?_, k _ _ F2 M2 H2 q (s1.trans s2) w2 x3⟩
  rw [keyD_V x2, ← e2]
  exact DGet.k e
/-! ### a loop over a text -/
theorem ds_forS {tg iter : Expr} {body : List Stmt} (h : DE X iter ρ M fun d M1 => ∃ z : Str, d = S z ∧ ∃ W : Nat → QM, W 0 ρ M1 ∧ Turns X tg body D z.cps.size (fun i d => ∃ c, z.cps[i]? = some c ∧ d = S ⟨#[c]⟩) W)
    (hc : X.calm = true := by rfl) (hp : PassesOwn (model X.prog X.w) X.A X.env X.xe := by exact PassesOwn.never)
    (hs2 : ∀ x, foldedSetIterable iter X.env x = pure x := by intro _; rfl) : DS X (.For tg iter body [] pos) ρ M D := fun σ H F ho hw R k => by
  refine toS (ps_for hp hc (pi_str sE) sG sSs hs2) ?_
  refine h σ H F ho hw _ fun v d F1 M1 H1 q s w x => ?_
  obtain ⟨z, rfl, W, w0, t⟩ := q
  cases x
  refine ⟨z, rfl, fun i m σ' H' => i + m = z.cps.size ∧ ∃ ρ' F' M', W i ρ' M' ∧ Same F1 F' ∧ WD X.K F' M' H' ∧ EnvOk X.K F' σ' ρ', ⟨z.cps.size, by omega, ρ, F1, M1, w0, Same.refl F1, w, ho.mono s⟩, ?_⟩
  rintro i m σ1 H2 ⟨em, ρ1, F2, M2, hW, s1, w1, o1⟩
  by_cases hi : i < z.cps.size
  · refine .inr ⟨hi, fun σ' H' => i + 1 + (m - 1) = z.cps.size ∧ ∃ ρ' F' M', W (i + 1) ρ' M' ∧ Same F1 F' ∧ WD X.K F' M' H' ∧ EnvOk X.K F' σ' ρ', fun σ' H' hN => ⟨m - 1, by omega, hN⟩, fun x H' hy => ?_⟩
    obtain ⟨rfl, c, hc', rfl⟩ := hy
    refine t.1 i ρ1 M2 _ hi ⟨c, hc', rfl⟩ hW σ1 H' F2 _ o1 w1 (.str _) _ fun σ2 ρ2 F3 M3 H3 q2 s2 w2 o2 => ?_
    refine q2 σ2 H3 F3 o2 w2 _ ⟨?_, (k.rt.mono s).mono (s1.trans s2), (k.nx.mono s).mono (s1.trans s2), ?_⟩
    · intro σ' ρ' F' M' H' hW' s' w' o'
      exact ⟨by omega, ρ', F', M', hW', (s1.trans s2).trans s', w', o'⟩
    · intro σ' ρ' F' M' H' hW' s' w' o'
      exact ⟨by omega, ρ', F', M', hW', (s1.trans s2).trans s', w', o'⟩
  · have e : i = z.cps.size := by omega
    subst e
    exact .inl ⟨Nat.le_refl _, k.nx _ _ F2 M2 H2 (t.2 ρ1 M2 hW) (s.trans s1) w1 o1⟩
/-! ### in -/
theorem u65 {k : Nat} {A : Around} (r : Room k A) : A.units + 65 < cLine := by have := r.un; omega
def rInDT (K : PySem.W.Frag) : R2 := fun x y H Q => ∃ d ds, Dp K H x d ∧ Dp K H y (.tuple ds) ∧ SeqAt.shaped d = true ∧ SeqAt.shaped (.tuple ds) = true ∧ Q (.bl (ds.any fun z => PyData.eqv z d)) H
theorem op_inDT (hu : X.A.units + 65 < cLine) : OpR X (compareOp .In) (rInDT X.K) := by
  intro pins s σ H x y v u Q I rx ry h
  obtain ⟨d, ds, hd, he, sd, se, q⟩ := h
  obtain ⟨as, r1⟩ := Dp.reads I d x v hd rx
  obtain ⟨bs, r2⟩ := Dp.reads I (.tuple ds) y u he ry
  exact SeqAt.in_tuple_reads r2 r1 (SeqAt.canLay_of_shaped se) (SeqAt.canLay_of_shaped sd) (PyProof.Rows.room_in_shaped sd hu) ⟨.bl _, H, I, rfl, q⟩
theorem dt_inDT {QT : Bool → Mem → Prop} (hu : X.A.units + 65 < cLine) (h : DE X a ρ M fun d1 M1 => DE X b ρ M1 fun d2 M2 => ∃ p ps, d1 = .d p ∧ d2 = T ps ∧ SeqAt.shaped p = true ∧ SeqAt.shaped (.tuple ps) = true ∧ QT (ps.any fun z => PyData.eqv z p) M2) (hm : behindInMarks .In b = false := by rfl) : DT X (.Compare a [.In] [b] pos) ρ M QT := by
  refine dt_cmp (op_inDT hu) (h.imp fun d1 M1 h1 => h1.imp fun d2 M2 h2 => ?_) hm
  obtain ⟨p, ps, rfl, rfl, s1, s2, q⟩ := h2
  intro F H v1 v2 x1 x2 w R k
  exact ⟨p, ps, dp_mono w.ext _ _ x1, dp_mono w.ext _ _ x2, s1, s2, k _ _ F M2 H ⟨_, rfl, q⟩ (Same.refl F) w (.bl _)⟩
/-- a sign in a text -/
theorem dt_inC {QT : Bool → Mem → Prop} (h : DE X a ρ M fun d1 M1 => DE X b ρ M1 fun d2 M2 => ∃ (c : Nat) (z : Str), d1 = S ⟨#[c]⟩ ∧ d2 = S z ∧ QT (decide (c ∈ z.cps.toList)) M2) (hm : behindInMarks .In b = false := by rfl) : DT X (.Compare a [.In] [b] pos) ρ M QT := by
  refine dt_cmp op_in_sign (h.imp fun d1 M1 h1 => h1.imp fun d2 M2 h2 => ?_) hm
  obtain ⟨c, z, rfl, rfl, q⟩ := h2
  intro F H v1 v2 x1 x2 w R k
  cases x1
  cases x2
  exact ⟨c, z, rfl, rfl, k _ _ F M2 H ⟨_, rfl, q⟩ (Same.refl F) w (.bl _)⟩
theorem dt_notinC {QT : Bool → Mem → Prop} (h : DE X a ρ M fun d1 M1 => DE X b ρ M1 fun d2 M2 => ∃ (c : Nat) (z : Str), d1 = S ⟨#[c]⟩ ∧ d2 = S z ∧ QT (!decide (c ∈ z.cps.toList)) M2) (hm : behindInMarks .NotIn b = false := by rfl) : DT X (.Compare a [.NotIn] [b] pos) ρ M QT := by
  refine dt_cmp op_notIn_sign (h.imp fun d1 M1 h1 => h1.imp fun d2 M2 h2 => ?_) hm
  obtain ⟨c, z, rfl, rfl, q⟩ := h2
  intro F H v1 v2 x1 x2 w R k
  cases x1
  cases x2
  exact ⟨c, z, rfl, rfl, k _ _ F M2 H ⟨_, rfl, q⟩ (Same.refl F) w (.bl _)⟩
end
end DL
namespace DL
open PySem PySem.Spec L2
/-! ### what is walked over, as a list of data -/
structure DWk (K : PySem.W.Frag) (J : It) (F : Hp) (ps : List PyData) : Prop where
  ex : ∃ (G : Hp → Prop) (Y : Nat → Hp → V → Hp → Prop), Walk J ps.length G Y ∧ (∀ F' M H, Same F F' → WD K F' M H → G H) ∧
    ∀ i p F' M H x H', ps[i]? = some p → Same F F' → WD K F' M H → Y i H x H' → ∃ F'', Same F' F'' ∧ WD K F'' M H' ∧ Dp K F'' x p
section
variable {K : PySem.W.Frag} {F : Hp}
theorem dps_at : ∀ {vs : List V} {ps : List PyData} {i : Nat} {p : PyData}, DpAll K F vs ps → ps[i]? = some p → ∃ v, vs[i]? = some v ∧ Dp K F v p
  | _, _, _, _, .nil, h => by simp at h
  | _, _, 0, _, .cons a _, h => by simp at h; subst h; exact ⟨_, rfl, a⟩
  | _, _, i + 1, _, .cons _ t, h => by
    obtain ⟨v, a, b⟩ := dps_at (i := i) t (by simpa using h)
    exact ⟨v, by simpa using a, b⟩
theorem dwk_list {a : Addr} {vs : List V} {ps : List PyData} (hs : SqL K F a vs) (ht : DpAll K F vs ps) : DWk K (Itl K a) F ps := by
  refine ⟨_, _, by rw [← dps_len ht]; exact walk_list (xs := vs), fun F' M H s w => sqL_mono w.ext (sqL_mono s hs), fun i p F' M H x H' hp s w y => ?_⟩
  obtain ⟨rfl, hx⟩ := y
  obtain ⟨v, e, d⟩ := dps_at ht hp
  rw [hx] at e
  cases e
  exact ⟨F', Same.refl F', w, dp_mono s _ _ d⟩
theorem dwk_tup {a : Addr} {vs : List V} {ps : List PyData} (hs : SqT K F a vs) (ht : DpAll K F vs ps) : DWk K (Itt K a) F ps := by
  refine ⟨_, _, by rw [← dps_len ht]; exact walk_tup (xs := vs), fun F' M H s w => sqT_mono w.ext (sqT_mono s hs), fun i p F' M H x H' hp s w y => ?_⟩
  obtain ⟨rfl, hx⟩ := y
  obtain ⟨v, e, d⟩ := dps_at ht hp
  rw [hx] at e
  cases e
  exact ⟨F', Same.refl F', w, dp_mono s _ _ d⟩
def rangeD (lo : Int) (n : Nat) : List PyData := (List.range n).map fun (i : Nat) => .int (lo + (i : Int))
theorem rangeD_len (lo : Int) (n : Nat) : (rangeD lo n).length = n := by unfold rangeD; rw [List.length_map, List.length_range]
theorem rangeD_get {lo : Int} {n i : Nat} (h : i < n) : (rangeD lo n)[i]? = some (.int (lo + (i : Int))) := by
  unfold rangeD
  rw [List.getElem?_map, List.getElem?_range h]
  rfl
theorem dwk_range {lo : Int} {n : Nat} : DWk K (Itr lo n) F (rangeD lo n) := by
  refine ⟨_, _, by rw [rangeD_len]; exact walk_range, fun _ _ _ _ _ => trivial, fun i p F' M H x H' hp s w y => ?_⟩
  obtain ⟨rfl, rfl⟩ := y
  have hi : i < n := by
    have := (List.getElem?_eq_some_iff.mp hp).1
    rwa [rangeD_len] at this
  rw [rangeD_get hi] at hp
  cases hp
  exact ⟨F', Same.refl F', w, .int _⟩
def signsD (z : Str) : List PyData := z.cps.toList.map fun c => .str ⟨#[c]⟩
theorem dwk_str {z : Str} : DWk K (Its z) F (signsD z) := by
  have hl : (signsD z).length = z.cps.size := by unfold signsD; rw [List.length_map, Array.length_toList]
  refine ⟨_, _, by rw [hl]; exact walk_str, fun _ _ _ _ _ => trivial, fun i p F' M H x H' hp s w y => ?_⟩
  obtain ⟨rfl, c, hc, rfl⟩ := y
  unfold signsD at hp
  rw [List.getElem?_map, Array.getElem?_toList, hc] at hp
  cases hp
  exact ⟨F', Same.refl F', w, .str _⟩
theorem pair_new {F' M : _} {H : Hp} {T : Addr} {x y : V} {p q : PyData} (w : WD K F' M H) (hT : H T = none) (h1 : Dp K F' x p) (h2 : Dp K F' y q) :
    ∃ F'', Same F' F'' ∧ WD K F'' M (upd H T (.tup [x, y])) ∧ Dp K F'' (.ref T) (.tuple [p, q]) := by
  obtain ⟨s2, w2⟩ := w.laid (o := .tup [x, y]) hT
  exact ⟨_, s2, w2, .tup (SqT.of upd_same) (.cons (dp_mono s2 _ _ h1) (.cons (dp_mono s2 _ _ h2) .nil))⟩
def enumD (ps : List PyData) : List PyData := ps.mapIdx fun i p => .tuple [.int (i : Int), p]
theorem dwk_enum {a : Addr} {vs : List V} {ps : List PyData} (hs : SqL K F a vs) (ht : DpAll K F vs ps) : DWk K (Ite K a) F (enumD ps) := by
  have hl : (enumD ps).length = vs.length := by unfold enumD; rw [List.length_mapIdx, dps_len ht]
  refine ⟨_, _, by rw [hl]; exact walk_enum (xs := vs), fun F' M H s w => sqL_mono w.ext (sqL_mono s hs), fun i p F' M H x H' hp s w y => ?_⟩
  obtain ⟨T, x1, x2, rfl, hT, rfl, e1, e2⟩ := y
  unfold enumD at hp
  rw [List.getElem?_mapIdx] at hp
  cases hq : ps[i]? with
  | none => rw [hq] at hp; cases hp
  | some q =>
    rw [hq] at hp
    cases hp
    obtain ⟨v, e, d⟩ := dps_at ht hq
    have e2 : vs[i]? = some x2 := e2
    rw [e] at e2
    cases e2
    cases e1
    exact pair_new w hT (.int _) (dp_mono s _ _ d)
def zipD (ps qs : List PyData) : List PyData := List.zipWith (fun p q => .tuple [p, q]) ps qs
theorem zip_turn {vs us : List V} {ps qs : List PyData} (h1 : DpAll K F vs ps) (h2 : DpAll K F us qs) {i : Nat} {p : PyData} {F' : Hp} {M : Mem} {H H' : Hp} {x : V} (hp : (zipD ps qs)[i]? = some p) (s : Same F F') (w : WD K F' M H)
    (y : YPair (fun i => vs[i]?) (fun i => us[i]?) i H x H') : ∃ F'', Same F' F'' ∧ WD K F'' M H' ∧ Dp K F'' x p := by
  obtain ⟨T, x1, x2, rfl, hT, rfl, e1, e2⟩ := y
  unfold zipD at hp
  rw [List.getElem?_zipWith] at hp
  cases hq : ps[i]? with
  | none => rw [hq] at hp; cases hp
  | some a =>
    cases hr : qs[i]? with
    | none => rw [hq, hr] at hp; cases hp
    | some b =>
      rw [hq, hr] at hp
      cases hp
      obtain ⟨v, e, d⟩ := dps_at h1 hq
      obtain ⟨v', e', d'⟩ := dps_at h2 hr
      have e1 : vs[i]? = some x1 := e1
      have e2 : us[i]? = some x2 := e2
      rw [e] at e1
      rw [e'] at e2
      cases e1
      cases e2
      exact pair_new w hT (dp_mono s _ _ d) (dp_mono s _ _ d')
theorem zipD_len {vs us : List V} {ps qs : List PyData} (h1 : DpAll K F vs ps) (h2 : DpAll K F us qs) : (zipD ps qs).length = min vs.length us.length := by
  unfold zipD; rw [List.length_zipWith, dps_len h1, dps_len h2]
theorem dwk_zip {a b : Addr} {vs us : List V} {ps qs : List PyData} (hs : SqL K F a vs) (hs2 : SqL K F b us) (h1 : DpAll K F vs ps) (h2 : DpAll K F us qs) : DWk K (Itz K a b) F (zipD ps qs) :=
  ⟨_, _, walk_zip (xs := vs) (ys := us) (zipD_len h1 h2), fun F' M H s w => ⟨sqL_mono w.ext (sqL_mono s hs), sqL_mono w.ext (sqL_mono s hs2)⟩, fun i p F' M H x H' hp s w y => zip_turn h1 h2 hp s w y⟩
theorem walk_zipT {a b : Addr} {xs ys : List V} {n : Nat} (hn : n = min xs.length ys.length) : Walk (RZ.ItzT K a b) n (fun H => SqT K H a xs ∧ SqT K H b ys) (YPair (fun i => xs[i]?) (fun i => ys[i]?)) := by
  subst hn
  refine ⟨fun i _ hi q => ?_, fun _ q => ⟨xs, ys, q.1, q.2, by omega⟩, fun i H v H' _ q y => ?_⟩
  · have h1 : i < xs.length := by omega
    have h2 : i < ys.length := by omega
    exact ⟨xs, ys, xs[i], ys[i], q.1, q.2, by simp [h1], by simp [h2]⟩
  · obtain ⟨T, x, z, h1, h2, h3, h4, h5⟩ := y
    exact ⟨T, x, z, h1, h2, h3, h4 xs q.1, h5 ys q.2⟩
theorem dwk_zipT {a b : Addr} {vs us : List V} {ps qs : List PyData} (hs : SqT K F a vs) (hs2 : SqT K F b us) (h1 : DpAll K F vs ps) (h2 : DpAll K F us qs) : DWk K (RZ.ItzT K a b) F (zipD ps qs) :=
  ⟨_, _, walk_zipT (xs := vs) (ys := us) (zipD_len h1 h2), fun F' M H s w => ⟨sqT_mono w.ext (sqT_mono s hs), sqT_mono w.ext (sqT_mono s hs2)⟩, fun i p F' M H x H' hp s w y => zip_turn h1 h2 hp s w y⟩
end
section
variable {X : Cx} {e a b c : Expr} {es : List Expr} {st : Stmt} {sts : List Stmt} {pos p p2 : Pos} {ρ : Ev} {M : Mem} {Q : QE} {D : DEnds} {tg iter elt : Expr} {ifs : List Expr} {scope : Scope}
/-- the reading of what a loop walks over -/
def DI (X : Cx) (tg iter : Expr) (ρ : Ev) (M : Mem) (Q : List PyData → Mem → Prop) : Prop := ∃ wi : TI, PI X tg iter wi ∧
  ∀ σ H F, EnvOk X.K F σ ρ → WD X.K F M H → ∀ R : It → Hp → Prop, (∀ J ps F' M' H', Q ps M' → Same F F' → WD X.K F' M' H' → DWk X.K J F' ps → R J H') → wi σ H R
theorem di_list {Q : List PyData → Mem → Prop} (h : DE X iter ρ M fun d M1 => ∃ ps, d = L ps ∧ Q ps M1) : DI X tg iter ρ M Q := ⟨_, pi_list sE, fun σ H F ho hw R k => by
  refine h σ H F ho hw _ fun v d F1 M1 H1 q s w x => ?_
  obtain ⟨ps, rfl, q⟩ := q
  cases x with
  | lst hs ht => exact ⟨_, rfl, ⟨_, sqL_mono w.ext hs⟩, k _ _ F1 M1 H1 q s w (dwk_list hs ht)⟩⟩
theorem di_tup {Q : List PyData → Mem → Prop} (h : DE X iter ρ M fun d M1 => ∃ ps, d = T ps ∧ Q ps M1) : DI X tg iter ρ M Q := ⟨_, pi_tup sE, fun σ H F ho hw R k => by
  refine h σ H F ho hw _ fun v d F1 M1 H1 q s w x => ?_
  obtain ⟨ps, rfl, q⟩ := q
  cases x with
  | tup hs ht => exact ⟨_, rfl, ⟨_, sqT_mono w.ext hs⟩, k _ _ F1 M1 H1 q s w (dwk_tup hs ht)⟩⟩
theorem di_str {Q : List PyData → Mem → Prop} (h : DE X iter ρ M fun d M1 => ∃ z, d = S z ∧ Q (signsD z) M1) : DI X tg iter ρ M Q := ⟨_, pi_str sE, fun σ H F ho hw R k => by
  refine h σ H F ho hw _ fun v d F1 M1 H1 q s w x => ?_
  obtain ⟨z, rfl, q⟩ := q
  cases x
  exact ⟨z, rfl, k _ _ F1 M1 H1 q s w dwk_str⟩⟩
theorem di_range1 {Q : List PyData → Mem → Prop} (h : DA X [a] ρ M fun ds M1 => ∃ n : Int, ds = [I n] ∧ -(2 ^ 62) ≤ n ∧ n < 2 ^ 62 ∧ Q (rangeD 0 n.toNat) M1) (hm : X.mg "range" = none) (hg : Gl X "range" := by rfl) (hs : starEach [a] X.env = [(false, eval a X.env)] := by rfl) :
    DI X tg (.Call (.Name "range" p) [a] [] p2) ρ M Q := ⟨_, pi_range1 hg hm sA hs, fun σ H F ho hw R k => by
  refine h σ H F ho hw _ fun vs ds F1 M1 H1 q s w x => ?_
  obtain ⟨n, rfl, n1, n2, q⟩ := q
  cases x with
  | cons x1 t1 =>
    cases t1
    cases x1
    exact ⟨n, rfl, n1, n2, k _ _ F1 M1 H1 q s w dwk_range⟩⟩
theorem di_range2 {Q : List PyData → Mem → Prop} (h : DA X [a, b] ρ M fun ds M1 => ∃ i j : Int, ds = [I i, I j] ∧ (-(2 ^ 62) ≤ i ∧ i < 2 ^ 62 ∧ -(2 ^ 62) ≤ j ∧ j < 2 ^ 62) ∧ Q (rangeD i (j - i).toNat) M1) (hm : X.mg "range" = none) (hg : Gl X "range" := by rfl)
    (hs : starEach [a, b] X.env = [(false, eval a X.env), (false, eval b X.env)] := by rfl) (hs' : starEach [b] X.env = [(false, eval b X.env)] := by rfl) :
    DI X tg (.Call (.Name "range" p) [a, b] [] p2) ρ M Q := ⟨_, pi_range2 hg hm sA hs hs', fun σ H F ho hw R k => by
  refine h σ H F ho hw _ fun vs ds F1 M1 H1 q s w x => ?_
  obtain ⟨i, j, rfl, hb, q⟩ := q
  cases x with
  | cons x1 t1 =>
    cases t1 with
    | cons x2 t2 =>
      cases t2
      cases x1
      cases x2
      exact ⟨i, j, rfl, hb, k _ _ F1 M1 H1 q s w dwk_range⟩⟩
theorem di_enum {elts : List Expr} {kk : Nat} {tpos : Pos} {Q : List PyData → Mem → Prop} (h : DA X [a] ρ M fun ds M1 => ∃ ps, ds = [L ps] ∧ Q (enumD ps) M1) (hm : X.mg "enumerate" = none) (hg : Gl X "enumerate" := by rfl) (hs : starEach [a] X.env = [(false, eval a X.env)] := by rfl) :
    DI X (.Tuple elts kk tpos) (.Call (.Name "enumerate" p) [a] [] p2) ρ M Q := ⟨_, pi_enum hg hm sA hs, fun σ H F ho hw R k => by
  refine h σ H F ho hw _ fun vs ds F1 M1 H1 q s w x => ?_
  obtain ⟨ps, rfl, q⟩ := q
  cases x with
  | cons x1 t1 =>
    cases t1
    cases x1 with
    | lst hs ht => exact ⟨_, _, rfl, sqL_mono w.ext hs, k _ _ F1 M1 H1 q s w (dwk_enum hs ht)⟩⟩
theorem di_zip {elts : List Expr} {kk : Nat} {tpos : Pos} {Q : List PyData → Mem → Prop} (h : DA X [a, b] ρ M fun ds M1 => ∃ ps qs, (ds = [L ps, L qs] ∨ ds = [T ps, T qs]) ∧ Q (zipD ps qs) M1) (hm : X.mg "zip" = none) (hg : Gl X "zip" := by rfl)
    (hs : starEach [a, b] X.env = (false, eval a X.env) :: starEach [b] X.env := by rfl) (hpl : (backTo p2 (starEach [b] X.env)).any (·.1) = false := by rfl) :
    DI X (.Tuple elts kk tpos) (.Call (.Name "zip" p) [a, b] [] p2) ρ M Q := ⟨_, RZ.pi_zipA hg hm sA hs hpl, fun σ H F ho hw R k => by
  refine h σ H F ho hw _ fun vs ds F1 M1 H1 q s w x => ?_
  obtain ⟨ps, qs, e, q⟩ := q
  rcases e with rfl | rfl
  · cases x with
    | cons x1 t1 =>
      cases t1 with
      | cons x2 t2 =>
        cases t2
        cases x1 with
        | lst hs ht =>
          cases x2 with
          | lst hs2 ht2 => exact ⟨_, _, _, _, rfl, .inl ⟨sqL_mono w.ext hs, sqL_mono w.ext hs2, k _ _ F1 M1 H1 q s w (dwk_zip hs hs2 ht ht2)⟩⟩
  · cases x with
    | cons x1 t1 =>
      cases t1 with
      | cons x2 t2 =>
        cases t2
        cases x1 with
        | tup hs ht =>
          cases x2 with
          | tup hs2 ht2 => exact ⟨_, _, _, _, rfl, .inr ⟨sqT_mono w.ext hs, sqT_mono w.ext hs2, k _ _ F1 M1 H1 q s w (dwk_zipT hs hs2 ht ht2)⟩⟩⟩
/-- for, over anything that DI reads -/
theorem ds_forI {body : List Stmt} (h : DI X tg iter ρ M fun ps M1 => ∃ W : Nat → QM, W 0 ρ M1 ∧ Turns X tg body D ps.length (fun i d => ∃ p, ps[i]? = some p ∧ d = .d p) W)
    (hc : X.calm = true := by rfl) (hp : PassesOwn (model X.prog X.w) X.A X.env X.xe := by exact PassesOwn.never)
    (hs2 : ∀ x, foldedSetIterable iter X.env x = pure x := by intro _; rfl) : DS X (.For tg iter body [] pos) ρ M D := by
  obtain ⟨wi, hi, h⟩ := h
  intro σ H F ho hw R k
  refine toS (ps_for hp hc hi sG sSs hs2) ?_
  refine h σ H F ho hw _ fun J ps F1 M1 H1 q s w dw => ?_
  obtain ⟨W, w0, t⟩ := q
  obtain ⟨G, Y, wk, hG, hY⟩ := dw.ex
  refine for_it wk (g := wpG X tg) (tb := wpSs X body) (D := R) (fun i σ' H' => ∃ ρ' F' M', W i ρ' M' ∧ Same F1 F' ∧ WD X.K F' M' H' ∧ EnvOk X.K F' σ' ρ') ⟨ρ, F1, M1, w0, Same.refl F1, w, ho.mono s⟩ ?_ ?_ ?_
  · rintro i σ1 H1 hi ⟨ρ1, F2, M2, hW, s1, w1, o1⟩
    exact hG F2 M2 H1 s1 w1
  · rintro i x σ1 H2 H3 hi ⟨ρ1, F2, M2, hW, s1, w1, o1⟩ hy
    obtain ⟨F3, s3, w3, x3⟩ := hY i ps[i] F2 M2 H2 x H3 (List.getElem?_eq_getElem hi) s1 w1 hy
    refine t.1 i ρ1 M2 (.d ps[i]) hi ⟨_, List.getElem?_eq_getElem hi, rfl⟩ hW σ1 H3 F3 _ (o1.mono s3) w3 x3 _ fun σ2 ρ2 F4 M4 H4 q2 s4 w4 o4 => ?_
    have s5 : Same F1 F4 := s1.trans (s3.trans s4)
    refine q2 σ2 H4 F4 o4 w4 _ ⟨?_, (k.rt.mono s).mono s5, (k.nx.mono s).mono s5, ?_⟩
    · intro σ' ρ' F' M' H' hW' s' w' o'
      exact ⟨ρ', F', M', hW', s5.trans s', w', o'⟩
    · intro σ' ρ' F' M' H' hW' s' w' o'
      exact ⟨ρ', F', M', hW', s5.trans s', w', o'⟩
  · rintro σ1 H2 ⟨ρ1, F2, M2, hW, s1, w1, o1⟩
    exact k.nx _ _ F2 M2 H2 (t.2 ρ1 M2 hW) (s.trans s1) w1 o1
theorem lc_turnI {t : Tgt} {vs : List Nat} {σ : L2.St} {F H' : Hp} {Dl : Addr} {ys ys' : List PyData} {v : V} {p : PyData} {o : Option PyData} (ht : ∀ j ∈ t.slots, j ∈ vs) (ho : EnvOk X.K F σ ρ) (hD : M Dl = none)
    (gv : Gives X scope ifs elt t vs ρ M p o) {F1 : Hp} (s1 : Same F F1) (w1 : WD X.K F1 (updM M Dl (.lst ys)) H') (hv : Dp X.K F1 v p) (hz : ys.length < 100000) (hy : ys' = ys ++ o.toList) :
    t.g X.K v (wipe σ vs) H' fun σ2 H2 => wipe σ2 vs = wipe σ vs ∧ ttB X scope ifs σ2 H2 fun b H3 =>
      if b = true then teB X scope elt σ2 H3 fun y H4 => ∃ acc, H4 Dl = some (.lst acc) ∧ acc.length < sizeLine ∧ LcW X.K F M Dl ys' (upd H4 Dl (.lst (acc ++ [y]))) else LcW X.K F M Dl ys' H3 := by
  obtain ⟨ρ2, b, hp, gv⟩ := gv
  refine t.go ht (wipe_ok vs (ho.mono s1)) w1 hv hp fun σ2 o2 e2 => ⟨e2, ?_⟩
  have up : ∀ a m, M a = some m → updM M Dl (.lst ys) a = some m := fun a m e => by
    rw [updM_ne (fun q => by rw [q, hD] at e; cases e)]
    exact e
  obtain ⟨gt, ge⟩ := gv _ up
  intro s H0 C cl fp
  refine gt s H0 C cl fp σ2 H' F1 o2 w1 _ fun b' F2 M2 H2 q2 s2 w2 => ?_
  obtain ⟨rfl, rfl⟩ := q2
  cases b' with
  | false =>
    rw [if_neg Bool.false_ne_true] at ge ⊢
    subst ge
    rw [hy]
    simp only [Option.toList, List.append_nil]
    exact ⟨F2, s1.trans s2, w2⟩
  | true =>
    rw [if_pos rfl] at ge ⊢
    obtain ⟨y', rfl, ge⟩ := ge
    intro s' H0' C' cl' fp'
    refine ge s' H0' C' cl' fp' σ2 H2 F2 (o2.mono s2) w2 _ fun y d F3 M3 H3 q4 s3 w3 x3 => ?_
    obtain ⟨rfl, rfl⟩ := q4
    have hl : updM M Dl (.lst ys) Dl = some (.lst ys) := updM_same
    obtain ⟨hF, acc, e, ha⟩ := w3.mem Dl _ hl
    refine ⟨acc, e, by rw [dps_len ha]; exact Nat.lt_of_lt_of_le hz (by decide), F3, (s1.trans s2).trans s3, ?_⟩
    have := w3.put hl (o := .lst (acc ++ [y])) (m' := .lst (ys ++ [y'])) ⟨_, rfl, dps_append ha (.cons x3 .nil)⟩
    rw [updM_upd] at this
    rw [hy]
    exact this
theorem lcI_core {t : Tgt} {vs : List Nat} {σ : L2.St} {H F : Hp} {R : VK} {wi : TI} (ht : ∀ j ∈ t.slots, j ∈ vs) (ho : EnvOk X.K F σ ρ) (hw : WD X.K F M H) (k : Lk X F Q R)
    (h : ∀ σ H F, EnvOk X.K F σ ρ → WD X.K F M H → ∀ R : It → Hp → Prop, (∀ J ps F' M' H', (∃ out, ps.length ≤ 50000 ∧ (∀ p ∈ ps, Gives X scope ifs elt t vs ρ M' p (out p)) ∧ Q (L (ps.filterMap out)) M') → Same F F' → WD X.K F' M' H' → DWk X.K J F' ps → R J H') → wi σ H R) :
    tLc wi (t.g X.K) (ttB X scope ifs) (teB X scope elt) vs σ H R := by
  refine h σ H F ho hw _ fun J ps F1 M1 H1 q1 s1 w1 dw => ?_
  obtain ⟨out, hz, gv, q⟩ := q1
  obtain ⟨G, Y, wk, hG, hY⟩ := dw.ex
  intro Dl hD
  have hM := (w1.fresh hD).2
  refine lc_it wk (fun i H' => LcW X.K F1 M1 Dl (upto ps out i) H') ⟨F1, Same.refl F1, w1.new hD ⟨_, rfl, .nil⟩⟩ (fun i H' _ w => ?_) (fun i x H2 H3 hi w hy => ?_) fun H' w => ?_
  · obtain ⟨F2, s2, w2⟩ := w
    exact hG F2 _ H' s2 w2
  · obtain ⟨F2, s2, w2⟩ := w
    obtain ⟨F3, s3, w3, x3⟩ := hY i ps[i] F2 _ H2 x H3 (List.getElem?_eq_getElem hi) s2 w2 hy
    exact lc_turnI ht (ho.mono s1) hM (gv ps[i] (List.getElem_mem hi)) (s2.trans s3) w3 x3 (Nat.lt_of_le_of_lt (upto_len _ _ _) (by omega)) (upto_succ (List.getElem?_eq_getElem hi))
  · exact lc_end s1 hM w q k
theorem de_lcI (t : Tgt) (own : List (Str × Nat)) (N : List Str) (sc : Scope) (hN : X.N.Nodup) (ok : blkC N sc scope own = true) (hg : Blk X scope fun X' => PG X' tg (t.g X.K)) (ht : ∀ j ∈ t.slots, j ∈ own.map (·.2))
    (h : DI X tg iter ρ M fun ps M1 => ∃ out, ps.length ≤ 50000 ∧ (∀ p ∈ ps, Gives X scope ifs elt t (own.map (·.2)) ρ M1 p (out p)) ∧ Q (L (ps.filterMap out)) M1)
    (h1 : X.N = N := by rfl) (h2 : X.env.scope = sc := by rfl) (hc : X.calm = true := by rfl) (hs : ∀ x, foldedSetIterable iter X.env x = pure x := by intro _; rfl) : DE X (.ListComp elt [⟨tg, iter, ifs, 0⟩] scope pos) ρ M Q := by
  obtain ⟨wi, hi, h⟩ := h
  exact fun σ H F ho hw R k => toE (pe_lc (te := teB X scope elt) (tt := ttB X scope ifs) hc hN hi (blkOk_by (by rw [h1, h2]; exact ok)) hg (fun s H C cl fp => ⟨fun pins s' _ _ _ I h => h s H C cl fp pins s' I⟩) (fun s H C cl fp => ⟨fun pins s' _ _ _ I h => h s H C cl fp pins s' I⟩) hs) (lcI_core ht ho hw k h)
theorem ds_lcI (i : Nat) (t : Tgt) (own : List (Str × Nat)) (N : List Str) (sc : Scope) {y : Str} {py spos : Pos} (hN : X.N.Nodup) (ok : blkC N sc scope own = true) (hg : Blk X scope fun X' => PG X' tg (t.g X.K)) (ht : ∀ j ∈ t.slots, j ∈ own.map (·.2))
    (h : DI X tg iter ρ M fun ps M1 => ∃ out, ps.length ≤ 50000 ∧ (∀ p ∈ ps, Gives X scope ifs elt t (own.map (·.2)) ρ M1 p (out p)) ∧ D.nx (ρ.set i (some (L (ps.filterMap out)))) M1)
    (hl : (py.line == spos.line) = true := by rfl) (ha : (scope.names.any fun (n, k) => n == y && (k == .local || k == .cell)) = false := by decide +kernel)
    (h1 : X.N = N := by rfl) (h2 : X.env.scope = sc := by rfl) (hy : X.N[i]? = some y := by rfl) (hyl : X.env.scope.names.lookup y = some .local := by rfl) (hk : X.env.scope.kind = .function := by rfl)
    (hc : X.calm = true := by rfl) (hs : ∀ x, foldedSetIterable iter X.env x = pure x := by intro _; rfl) (hp : (py.line == pos.line) = true := by rfl) : DS X (.Assign [.Name y py] (.ListComp elt [⟨tg, iter, ifs, 0⟩] scope pos) spos) ρ M D := by
  obtain ⟨wi, hi, h⟩ := h
  exact fun σ H F ho hw R k => toS (ps_setLc (te := teB X scope elt) (tt := ttB X scope ifs) hc hN hy hyl (sw_true hk hyl hp ha) hi (blkOk_by (by rw [h1, h2]; exact ok)) hg (fun s H C cl fp => ⟨fun pins s' _ _ _ I h => h s H C cl fp pins s' I⟩) (fun s H C cl fp => ⟨fun pins s' _ _ _ I h => h s H C cl fp pins s' I⟩) hs)
    (lcI_core (Q := fun d M1 => D.nx (ρ.set i (some d)) M1) ht ho hw (fun v d F' M' H' q s w x => k.nx _ _ F' M' H' q s w ((ho.mono s).set i x)) h)
/-! ### built-ins over lists -/
theorem dps_intsV {K : PySem.W.Frag} {F : Hp} : ∀ {ns : List Int} {vs : List V}, DpAll K F vs (ns.map PyData.int) → vs = ns.map V.int
  | [], _, h => by cases h; rfl
  | n :: ns, _, h => by
    rw [List.map_cons] at h
    cases h with
    | cons x t => cases x; rw [dps_intsV t]; rfl
theorem dps_boolsV {K : PySem.W.Frag} {F : Hp} : ∀ {bs : List Bool} {vs : List V}, DpAll K F vs (bs.map PyData.bool) → vs = bs.map V.bl
  | [], _, h => by cases h; rfl
  | n :: ns, _, h => by
    rw [List.map_cons] at h
    cases h with
    | cons x t => cases x; rw [dps_boolsV t]; rfl
theorem de_sum (h : DA X (e :: es) ρ M fun ds M1 => ∃ ns : List Int, ds = [L (ns.map .int)] ∧ Q (I ns.sum) M1) (hm : X.mg "sum" = none) (hc : X.calm = true := by rfl) (hg : Gl X "sum" := by rfl)
    (he : starEach (e :: es) X.env = (false, eval e X.env) :: starEach es X.env := by rfl) (hpl : (backTo pos (starEach es X.env)).any (·.1) = false := by rfl) : DE X (.Call (.Name "sum" p) (e :: es) [] pos) ρ M Q := by
  refine de_blt (cr_sum hc) (h.imp fun ds M1 q => ?_) hm (by decide +kernel) hg (by decide) (by decide) he hpl
  obtain ⟨ns, rfl, q⟩ := q
  intro F H vs x w R k
  obtain ⟨v, rfl, x1⟩ := evs1 x
  cases x1 with
  | lst hs ht =>
    have e := dps_intsV ht
    subst e
    exact ⟨_, ns, rfl, sqL_mono w.ext hs, k _ _ F M1 H q (Same.refl F) w (.int _)⟩
theorem de_any (h : DA X (e :: es) ρ M fun ds M1 => ∃ bs : List Bool, ds = [L (bs.map .bool)] ∧ Q (B (bs.any id)) M1) (hm : X.mg "any" = none) (hc : X.calm = true := by rfl) (hg : Gl X "any" := by rfl)
    (he : starEach (e :: es) X.env = (false, eval e X.env) :: starEach es X.env := by rfl) (hpl : (backTo pos (starEach es X.env)).any (·.1) = false := by rfl) : DE X (.Call (.Name "any" p) (e :: es) [] pos) ρ M Q := by
  refine de_blt (cr_any hc) (h.imp fun ds M1 q => ?_) hm (by decide +kernel) hg (by decide) (by decide) he hpl
  obtain ⟨ns, rfl, q⟩ := q
  intro F H vs x w R k
  obtain ⟨v, rfl, x1⟩ := evs1 x
  cases x1 with
  | lst hs ht =>
    have e := dps_boolsV ht
    subst e
    exact ⟨_, ns, rfl, sqL_mono w.ext hs, k _ _ F M1 H q (Same.refl F) w (.bl _)⟩
theorem de_all (h : DA X (e :: es) ρ M fun ds M1 => ∃ bs : List Bool, ds = [L (bs.map .bool)] ∧ Q (B (bs.all id)) M1) (hm : X.mg "all" = none) (hc : X.calm = true := by rfl) (hg : Gl X "all" := by rfl)
    (he : starEach (e :: es) X.env = (false, eval e X.env) :: starEach es X.env := by rfl) (hpl : (backTo pos (starEach es X.env)).any (·.1) = false := by rfl) : DE X (.Call (.Name "all" p) (e :: es) [] pos) ρ M Q := by
  refine de_blt (cr_all hc) (h.imp fun ds M1 q => ?_) hm (by decide +kernel) hg (by decide) (by decide) he hpl
  obtain ⟨ns, rfl, q⟩ := q
  intro F H vs x w R k
  obtain ⟨v, rfl, x1⟩ := evs1 x
  cases x1 with
  | lst hs ht =>
    have e := dps_boolsV ht
    subst e
    exact ⟨_, ns, rfl, sqL_mono w.ext hs, k _ _ F M1 H q (Same.refl F) w (.bl _)⟩
end
end DL
namespace DL
open PySem PySem.Spec L2
section
variable {X : Cx} {e a b c : Expr} {es : List Expr} {st : Stmt} {sts : List Stmt} {pos p p2 : Pos} {ρ : Ev} {M : Mem} {Q : QE} {D : DEnds}
/-- the environment told anew -/
theorem dss_as {ρ' : Ev} (e : ρ = ρ') (h : DSs X sts ρ' M D) : DSs X sts ρ M D := e ▸ h
/-- t + u of tuples -/
theorem de_catT (h : DE X a ρ M fun d1 M1 => DE X b ρ M1 fun d2 M2 => ∃ ps qs, d1 = T ps ∧ d2 = T qs ∧ Nat.ble (ps.length + qs.length) 100000 = true ∧ Q (T (ps ++ qs)) M2) : DE X (.BinOp a .Add b pos) ρ M Q := by
  refine de_bin op_catA (h.imp fun d1 M1 h1 => h1.imp fun d2 M2 h2 => ?_)
  obtain ⟨ps, qs, rfl, rfl, hl, q⟩ := h2
  intro F H v1 v2 x1 x2 w R k
  cases x1 with
  | tup hs ht =>
    cases x2 with
    | tup hs2 ht2 =>
      refine ⟨_, _, _, _, rfl, rfl, sqT_mono w.ext hs, sqT_mono w.ext hs2, by rw [dps_len ht, dps_len ht2]; exact small_line (Nat.le_of_ble_eq_true hl), fun z => ?_, fun _ z => ?_, fun _ _ r hr => ?_⟩
      · subst z
        cases ht
        exact k _ _ F M2 H q (Same.refl F) w (.tup hs2 ht2)
      · subst z
        cases ht2
        rw [List.append_nil] at q
        exact k _ _ F M2 H q (Same.refl F) w (.tup hs ht)
      · obtain ⟨s2, w2⟩ := w.laid (o := .tup (_ ++ _)) hr
        exact k _ _ _ M2 _ q s2 w2 (.tup (SqT.of upd_same) (dps_mono s2 _ _ (dps_append ht ht2)))
/-- xs + ys of lists of the memory: a new list -/
theorem de_catO (h : DE X a ρ M fun d1 M1 => DE X b ρ M1 fun d2 M2 => ∃ l1 l2 ps qs, d1 = .o l1 ∧ d2 = .o l2 ∧ M2 l1 = some (.lst ps) ∧ M2 l2 = some (.lst qs) ∧ ps.length + qs.length ≤ 100000 ∧ ∀ l, M2 l = none → Q (.o l) (updM M2 l (.lst (ps ++ qs)))) : DE X (.BinOp a .Add b pos) ρ M Q := by
  refine de_bin op_cat (h.imp fun d1 M1 h1 => h1.imp fun d2 M2 h2 => ?_)
  obtain ⟨l1, l2, ps, qs, rfl, rfl, m1, m2, hl, q⟩ := h2
  intro F H v1 v2 x1 x2 w R k
  cases (show v1 = V.ref l1 from x1)
  cases (show v2 = V.ref l2 from x2)
  obtain ⟨-, vs, e1, t1⟩ := w.mem l1 _ m1
  obtain ⟨-, us, e2, t2⟩ := w.mem l2 _ m2
  refine ⟨l1, l2, vs, us, rfl, rfl, e1, e2, by rw [dps_len t1, dps_len t2]; exact small_line hl, fun r hr => ?_⟩
  exact k _ _ F _ _ (q r (w.fresh hr).2) (Same.refl F) (w.new hr ⟨_, rfl, dps_append t1 t2⟩) rfl
/-- .. as data -/
theorem de_catD (h : DE X a ρ M fun d1 M1 => DE X b ρ M1 fun d2 M2 => ∃ l1 l2 ps qs, d1 = .o l1 ∧ d2 = .o l2 ∧ M2 l1 = some (.lst ps) ∧ M2 l2 = some (.lst qs) ∧ ps.length + qs.length ≤ 100000 ∧ Q (L (ps ++ qs)) M2) : DE X (.BinOp a .Add b pos) ρ M Q := by
  refine de_bin op_cat (h.imp fun d1 M1 h1 => h1.imp fun d2 M2 h2 => ?_)
  obtain ⟨l1, l2, ps, qs, rfl, rfl, m1, m2, hl, q⟩ := h2
  intro F H v1 v2 x1 x2 w R k
  cases (show v1 = V.ref l1 from x1)
  cases (show v2 = V.ref l2 from x2)
  obtain ⟨-, vs, e1, t1⟩ := w.mem l1 _ m1
  obtain ⟨-, us, e2, t2⟩ := w.mem l2 _ m2
  refine ⟨l1, l2, vs, us, rfl, rfl, e1, e2, by rw [dps_len t1, dps_len t2]; exact small_line hl, fun r hr => ?_⟩
  obtain ⟨s2, w2⟩ := w.laid (o := .lst (vs ++ us)) hr
  exact k _ _ _ M2 _ q s2 w2 (.lst (SqL.of upd_same) (dps_mono s2 _ _ (dps_append t1 t2)))
/-- list(x) of a tuple or a list of data: a new list that may change -/
theorem de_listO (h : DA X (e :: es) ρ M fun ds M1 => ∃ ps, (ds = [T ps] ∨ ds = [L ps]) ∧ ∀ l, M1 l = none → Q (.o l) (updM M1 l (.lst ps))) (hm : X.mg "list" = none) (hg : Gl X "list" := by rfl)
    (he : starEach (e :: es) X.env = (false, eval e X.env) :: starEach es X.env := by rfl) (hpl : (backTo pos (starEach es X.env)).any (·.1) = false := by rfl) : DE X (.Call (.Name "list" p) (e :: es) [] pos) ρ M Q := by
  refine de_bty call_list_of (h.imp fun ds M1 q => ?_) hm (by decide +kernel) hg (by decide) (by decide) he hpl
  obtain ⟨ps, e, q⟩ := q
  intro F H vs x w R k
  rcases e with rfl | rfl
  · obtain ⟨v, rfl, x1⟩ := evs1 x
    cases x1 with
    | tup hs ht => exact ⟨_, _, rfl, .inr (sqT_mono w.ext hs), fun r hr => k _ _ F _ _ (q r (w.fresh hr).2) (Same.refl F) (w.new hr ⟨_, rfl, ht⟩) rfl⟩
  · obtain ⟨v, rfl, x1⟩ := evs1 x
    cases x1 with
    | lst hs ht => exact ⟨_, _, rfl, .inl (sqL_mono w.ext hs), fun r hr => k _ _ F _ _ (q r (w.fresh hr).2) (Same.refl F) (w.new hr ⟨_, rfl, ht⟩) rfl⟩
end
end DL
/-! ### set(xs) of a list of ints -/
namespace PySem
open PySem PySem.Spec PyProof.Rows L2
section
variable {P : Program} {w : World} {A : Around} {E : Value → Shared → Prop} {s : Shared}
abbrev nuS (w : World) : Obj :=
  { cls := .type "set", dict := none
    data := .set #[] 0 (.fresh 0 0 (!w.params.followText "set-order")) }
theorem set_of_ints {l : Addr} {xs : Array Value} (ns : List Int) {Q : Value → Shared → Prop}
    (hh : A.handled = none) (hl : s.heap.IsList l xs)
    (hx : PyProof.Rows.IntsAre xs.toList ns) (hb : ns.length + 1 < scanBound)
    (h : ∀ (g : Heap) (tk c : Nat), SetR w g s.heap.objs.size (fun j => decide (j ∈ ns)) c →
      c ≤ ns.length → (∀ b o, s.heap.get? b = some o → g.get? b = some o) →
      Q (.ref s.heap.objs.size) { s with heap := g, toks := tk }) :
    wpAny (model P w) A (call (.type "set") [.ref l]) Q E s := by
  have hsz : xs.size = ns.length := by
    have q := PyProof.Rows.IntsAre.length hx
    rwa [Array.length_toList] at q
  obtain ⟨c0, tl0, hmro⟩ := F.called_set.mro
  have hmade := F.called_set.made
  have hsub := F.called_set.sub
  refine wpAny_call (codeAny_of_tree ?_)
  show wpAny _ _ (callAny (.type "set") _) _ _ _
  refine wpAny_pure ⟨Code.quiet_builtin _ (by decide +kernel),
    codeAny_builtin F.entry_type_call ?_⟩
  rw [Around.under_plain (weight_type_call_type "set" [.ref l] []) rfl]
  have n1 := F.called_set.notType
  have n2 := F.called_set.canCreate
  have n3 := F.typeCall_set_1 (.ref l)
  repeat (any_goals (first | assumption | wp_step))
  refine codeAny_mono (code_set_led1 (.ref l) (E := E)
    (Q₁ := fun z t => z = .ref s.heap.objs.size ∧ t = { s with heap := s.heap.push (nuS w) })
    ⟨rfl, rfl⟩) fun r t hr => ?_
  cases r with
  | error e => exact hr
  | ok fl =>
    cases fl with
    | ret z =>
      obtain ⟨rfl, rfl⟩ := hr
      have g0 : (s.heap.push (nuS w)).get? s.heap.objs.size = some (nuS w) := Heap.get?_push_size _ rfl
      have hT : Shared.TypeIs { s with heap := s.heap.push (nuS w) } (.ref s.heap.objs.size) "set" :=
        ⟨_, g0, rfl⟩
      have i1 := F.called_set.init.lookup
      have i2 := F.called_set.init.bind (.ref s.heap.objs.size)
      repeat (any_goals (first | assumption | wp_step))
      refine codeAny_mono (codeAny_call_builtin (R := wants (fun r t2 => r = .none ∧ ∃ g tk c,
          t2 = { s with heap := g, toks := tk } ∧
          SetR w g s.heap.objs.size (fun j => decide (j ∈ ns)) c ∧ c ≤ ns.length ∧
          (∀ b o, s.heap.get? b = some o → g.get? b = some o)) E)
        F.called_set.init.plain F.entry_set_init (check_set_init_1 hT ?_)) fun r2 t2 hr2 => ?_
      · obtain ⟨ol, hol, hcl, nl, hdl⟩ := hl
        obtain ⟨oc, od, oda, os⟩ := ol
        simp only at hcl hdl
        subst hcl; subst hdl
        have hol2 : (s.heap.push (nuS w)).get? l =
            some { cls := .type "list", dict := od, data := .seq xs nl, slots := os } :=
          Heap.get?_push_of_some _ hol
        have b1 := F.sub_list_set
        have b2 := F.sub_list_frozenset
        have b3 : (Value.type "list" == Value.type "dict") = false := by decide
        have hl1 : (s.heap.push (nuS w)).IsList l xs := ⟨_, hol2, rfl, nl, rfl⟩
        unfold Builtin.«set.__init__» noKeywords Builtin.Frozenset.updateFrom
        generalize hPI : pyIter = PI
        wp_walk
        subst hPI
        refine wpAny_pyIter_list hl1 ?_
        refine wpAny_bind (wpAny_runValue ?_)
        have lS : l < s.heap.objs.size := Heap.lt_size hol
        have h3 : A.in1.in1.in1.handled = none := by simp [hh]
        have neI : l ≠ (s.heap.push (nuS w)).objs.size := by
          rw [Heap.size_push]; exact Nat.ne_of_lt (Nat.lt_succ_of_lt lS)
        have notin : s.heap.objs.size ∉ [(s.heap.push (nuS w)).objs.size, l] := by
          rw [Heap.size_push]
          simp only [List.mem_cons, List.not_mem_nil, or_false, not_or]
          exact ⟨Nat.ne_of_lt (Nat.lt_succ_self _), Nat.ne_of_gt lS⟩
        have vals : ∀ (i : Nat) (v : Value), xs[i]? = some v → ∃ k t, ns[i]? = some k ∧ v = .int k t := fun i v hv => by
          have hi : i < ns.length := by
            rw [← hsz]; exact (Array.getElem?_eq_some_iff.mp hv).1
          obtain ⟨t, e⟩ := PyProof.Rows.IntsAre.int_at hx i v (by rw [Array.getElem?_toList]; exact hv)
          refine ⟨ns[i], t, List.getElem?_eq_getElem hi, ?_⟩
          rw [e, List.getD_eq_getElem?_getD, List.getElem?_eq_getElem hi] <;> rfl
        refine set_update_ints ((Walks.list h3 _ l neI xs).toS) s.heap.objs.size notin ns hsz hb vals
          (xs.size - 0) 0 _ (by omega) (Nat.zero_le _)
          ⟨⟨_, Heap.get?_push_size _ rfl, rfl, rfl⟩, (hl1.push _)⟩ ?start ?ends
        case start => exact ⟨0, Nat.le_refl 0, setR_new_at (Heap.get?_push_of_some _ g0)⟩
        case ends =>
          intro t3 c hm hc hS
          obtain ⟨g, gs, dr, tk, oss⟩ := t3
          have q1 : gs = s.gens := hm.gens
          have q2 : dr = s.drawn := hm.drawn
          have q3 : oss = s.os := hm.os
          subst q1; subst q2; subst q3
          show wpAny _ _ _ _ _ _
          refine wpAny_pure ?_
          show wpAny _ _ (ret Value.none) _ _ _
          refine wpAny_pure ⟨rfl, g, tk, c, rfl, hS, by omega, fun b o e => ?_⟩
          have hb0 : b < s.heap.objs.size := Heap.lt_size e
          refine hm.heap b o ?_ (Heap.get?_push_of_some _ (Heap.get?_push_of_some _ e))
          simp only [List.mem_cons, List.not_mem_nil, or_false, not_or]
          refine ⟨Nat.ne_of_lt hb0, ?_⟩
          rw [Heap.size_push]; exact Nat.ne_of_lt (Nat.lt_succ_of_lt hb0)
      · cases r2 with
        | error e => exact hr2
        | ok fl2 =>
          cases fl2 with
          | ret r =>
            obtain ⟨rfl, g, tk, c, rfl, hS, hc, hk⟩ := hr2
            repeat (any_goals (first | assumption | wp_step))
            exact h _ _ _ hS hc hk
          | _ => exact hr2.elim
    | _ => exact hr.elim
end
end PySem
namespace DL
open PySem PySem.Spec L2
section
variable {X : Cx}
/-- set(xs), xs a list of ints -/
def rSetI (K : PySem.W.Frag) (w : World) : List V → Hp → VK → Prop := fun vs H Q => ∃ (l : Addr) (ns : List Int), vs = [V.ref l] ∧ SqL K H l (ns.map V.int) ∧ ns.length ≤ 60 ∧
  ∀ a c, H a = none → c ≤ ns.length → Q (.ref a) (upd H a (SetO w a (fun j => decide (j ∈ ns)) c))
theorem cr_setI (hc : X.calm = true) : CallR X (.type "set") (rSetI X.K X.w) := by
  intro pins s σ H xs us Q I r h
  obtain ⟨l, ns, rfl, hl, hf, q⟩ := h
  rw [Vals.ref1 r]
  obtain ⟨its, rv, pl, hz⟩ := I.list hl
  have hn : H s.heap.objs.size = none := I.hok.fresh (Nat.le_refl _)
  refine set_of_ints (P := X.prog) (w := X.w) ns (I.ok.hd hc) pl.isList (by simpa using ints_of_vals rv) (by unfold scanBound; omega) fun g tk c R hc' k => ?_
  exact ⟨.ref s.heap.objs.size, upd H s.heap.objs.size (SetO X.w s.heap.objs.size (fun j => decide (j ∈ ns)) c), I.laid (t' := tk) k (Nat.le_refl _) (setO_new R), rfl, q _ c hn hc'⟩
variable {e a b c : Expr} {es : List Expr} {pos p p2 p3 : Pos} {ρ : Ev} {M : Mem} {Q : QE}
theorem delM_upd2 {M : Mem} {a : Addr} {m : MD} (h : M a = none) : delM (updM M a m) a = M := delM_upd h
/-- sorted(set(xs)), xs a list of ints: the ascending list of its members -/
theorem de_sortedSetI (h : DE X e ρ M fun d M1 => ∃ ns : List Int, d = L (ns.map .int) ∧ ns.length ≤ 60 ∧ ∀ ms : List Int, ms.Pairwise (· < ·) → (∀ k, k ∈ ms ↔ k ∈ ns) → Q (L (ms.map .int)) M1) (hs : X.mg "sorted" = none) (hS : X.mg "set" = none) (hc : X.calm = true := by rfl) (hg : Gl X "sorted" := by rfl) (hg2 : Gl X "set" := by rfl)
    (he : starEach [Expr.Call (.Name "set" p2) [e] [] p3] X.env = (false, eval (.Call (.Name "set" p2) [e] [] p3) X.env) :: starEach [] X.env := by rfl) (he2 : starEach [e] X.env = (false, eval e X.env) :: starEach [] X.env := by rfl)
    (hpl : (backTo pos (starEach [] X.env)).any (·.1) = false := by rfl) (hpl2 : (backTo p3 (starEach [] X.env)).any (·.1) = false := by rfl) :
    DE X (.Call (.Name "sorted" p) [.Call (.Name "set" p2) [e] [] p3] [] pos) ρ M Q := by
  refine de_blt (cr_sortedSet hc) (da_cons ?_ he) hs (by decide +kernel) hg (by decide) (by decide) he hpl
  refine de_bty (Q := fun d M2 => ∃ (l : Addr) (ns : List Int) (c : Nat) (M1 : Mem), d = .o l ∧ M1 l = none ∧ M2 = updM M1 l (.raw (SetO X.w l (fun j => decide (j ∈ ns)) c)) ∧ c ≤ ns.length ∧ ns.length ≤ 60 ∧ ∀ ms : List Int, ms.Pairwise (· < ·) → (∀ k, k ∈ ms ↔ k ∈ ns) → Q (L (ms.map .int)) M1) (cr_setI hc) (da_cons (h.imp fun d M1 q => da_nil ?_) he2) hS (by decide +kernel) hg2 (by decide) (by decide) he2 hpl2 |>.imp fun d M2 q => ?_
  · obtain ⟨ns, rfl, hl, q⟩ := q
    intro F H vs x w R k
    obtain ⟨v, rfl, x1⟩ := evs1 x
    cases x1 with
    | lst hs ht =>
      have ev := dps_ints ht
      subst ev
      refine ⟨_, ns, rfl, sqL_mono w.ext hs, hl, fun a c ha hc' => ?_⟩
      exact k _ (.o a) F _ _ ⟨a, ns, c, M1, rfl, (w.fresh ha).2, rfl, hc', hl, q⟩ (Same.refl F) (w.new ha (m := .raw _) rfl) rfl
  · obtain ⟨l, ns, c, M1, rfl, hl, rfl, hc', hn, q⟩ := q
    refine da_nil ?_
    intro F H vs x w R k
    obtain ⟨v, rfl, x1⟩ := evs1 x
    cases (show v = V.ref l from x1)
    obtain ⟨hF, hH⟩ := w.mem l _ updM_same
    refine ⟨l, _, c, rfl, hH, by omega, fun ms r hs hm hlen hr => ?_⟩
    obtain ⟨s2, w2⟩ := w.laid (o := .lst (ms.map V.int)) hr
    have w3 := w2.forget l
    rw [delM_upd hl] at w3
    exact k _ (L (ms.map .int)) _ M1 _ (q ms hs fun k => by rw [hm k, decide_eq_true_eq]) s2 w3 (.lst (SqL.of upd_same) (dps_of_ints ms))
/-- the addresses of a list of pairs of ints -/
theorem dps_pairs {K : PySem.W.Frag} {F : Hp} : ∀ {ts : List (Int × Int)} {vs : List V}, DpAll K F vs (ts.map fun t => .tuple [.int t.1, .int t.2]) → ∃ ks : List (Addr × (Int × Int)), vs = ks.map (fun p => V.ref p.1) ∧ ts = ks.map (·.2) ∧ ∀ p ∈ ks, SqT K F p.1 [V.int p.2.1, V.int p.2.2]
  | [], _, .nil => ⟨[], rfl, rfl, fun p hp => by cases hp⟩
  | t :: ts, _, .cons h r => by
    obtain ⟨ks, e1, e2, e3⟩ := dps_pairs r
    cases h with
    | @tup a vs ds hs ht =>
      have ht' := dps_ints (ns := [t.1, t.2]) ht
      subst ht'
      refine ⟨(_, t) :: ks, by rw [e1]; rfl, by rw [e2]; rfl, fun p hp => ?_⟩
      rcases List.mem_cons.mp hp with z | z
      · rw [z]; exact hs
      · exact e3 p z
theorem dps_of_pairs {K : PySem.W.Frag} {F : Hp} : ∀ (ks : List (Addr × (Int × Int))), (∀ p ∈ ks, SqT K F p.1 [V.int p.2.1, V.int p.2.2]) → DpAll K F (ks.map fun p => V.ref p.1) ((ks.map (·.2)).map fun t => .tuple [.int t.1, .int t.2])
  | [], _ => .nil
  | p :: ks, h => .cons (.tup (h p List.mem_cons_self) (dps_of_ints [p.2.1, p.2.2])) (dps_of_pairs ks fun q hq => h q (List.mem_cons_of_mem _ hq))
/-- sorted(set(xs)), xs a list of pairs of ints that are not negative: its members once each -/
theorem de_sortedSetP (B : Int) (hu : X.A.units + 64 < cLine) (h : DE X e ρ M fun d M1 => ∃ ts : List (Int × Int), d = L (ts.map fun t => .tuple [.int t.1, .int t.2]) ∧ ts.length < 64 ∧ (∀ t ∈ ts, (0 ≤ t.1 ∧ t.1 < B) ∧ (0 ≤ t.2 ∧ t.2 < B)) ∧
      ∀ us : List (Int × Int), us.Nodup → (∀ t, t ∈ us ↔ t ∈ ts) → Q (L (us.map fun t => .tuple [.int t.1, .int t.2])) M1) (hs : X.mg "sorted" = none) (hS : X.mg "set" = none) (hc : X.calm = true := by rfl) (hg : Gl X "sorted" := by rfl) (hg2 : Gl X "set" := by rfl)
    (he : starEach [Expr.Call (.Name "set" p2) [e] [] p3] X.env = (false, eval (.Call (.Name "set" p2) [e] [] p3) X.env) :: starEach [] X.env := by rfl) (he2 : starEach [e] X.env = (false, eval e X.env) :: starEach [] X.env := by rfl)
    (hpl : (backTo pos (starEach [] X.env)).any (·.1) = false := by rfl) (hpl2 : (backTo p3 (starEach [] X.env)).any (·.1) = false := by rfl) :
    DE X (.Call (.Name "sorted" p) [.Call (.Name "set" p2) [e] [] p3] [] pos) ρ M Q := fun σ H F ho hw R k => by
  refine toE (pe_callB (cr_sortedT hc) hg hs (by decide +kernel) (pa_cons (pe_callTy (cr_setOfT hc hu) hg2 hS (by decide +kernel) (pa_cons sE pa_nil he2) (by decide) (by decide) he2 hpl2) pa_nil he) (by decide) (by decide) he hpl) ?_
  refine h σ H F ho hw _ fun v1 d1 F1 M1 H1 q1 s1 w1 x1 => ?_
  obtain ⟨ts, rfl, hl, hB, q⟩ := q1
  cases x1 with
  | lst ha ht =>
    obtain ⟨ks, rfl, rfl, hk⟩ := dps_pairs ht
    rw [List.length_map] at hl
    refine ⟨_, ks.map (fun p => (p.1, [p.2.1, p.2.2])), rfl, by rw [List.map_map]; exact sqL_mono w1.ext ha, fun p hp => ?_, by rw [List.length_map]; exact hl, fun a Ls hn hsub hall => ?_⟩
    · obtain ⟨p', hp', rfl⟩ := List.mem_map.mp hp
      exact sqT_mono w1.ext (hk p' hp')
    · have hF1 := (w1.fresh hn).1
      have at_ : ∀ z ∈ Ls, ∃ p' ∈ ks, z = (p'.1, [p'.2.1, p'.2.2]) := fun z hz => by
        obtain ⟨p', hp', e⟩ := List.mem_map.mp (hsub z hz)
        exact ⟨p', hp', e.symm⟩
      have keep : ∀ {a' : Addr} {xs : List V}, SqT X.K F1 a' xs → SqT X.K (upd H1 a (SetTO X.prog X.w a Ls)) a' xs := fun hq => sqT_mono (fun b u e => by rw [upd_ne (ne_of_none e hF1)]; exact w1.ext _ _ e) hq
      refine ⟨a, Ls, 2, B, rfl, upd_same, fun z hz => ?_, by decide, fun z hz => ?_, fun L' p hp nd few srt hpn => ?_⟩
      · obtain ⟨p', hp', rfl⟩ := at_ z hz
        exact keep (hk p' hp')
      · obtain ⟨p', hp', rfl⟩ := at_ z hz
        have b := hB p'.2 (List.mem_map.mpr ⟨p', hp', rfl⟩)
        refine ⟨rfl, fun m hm => ?_⟩
        simp only [List.mem_cons, List.not_mem_nil, or_false] at hm
        rcases hm with z | z <;> rw [z]
        · exact b.1
        · exact b.2
      · -- the sorted list
        have mem' : ∀ z, z ∈ L' ↔ z ∈ Ls := fun z => hp.mem_iff
        obtain ⟨ks', e1, e2⟩ : ∃ ks' : List (Addr × (Int × Int)), L' = ks'.map (fun p => (p.1, [p.2.1, p.2.2])) ∧ ∀ z ∈ ks', z ∈ ks := by
          have : ∀ (l : List (Addr × List Int)), (∀ z ∈ l, ∃ p' ∈ ks, z = (p'.1, [p'.2.1, p'.2.2])) → ∃ ks' : List (Addr × (Int × Int)), l = ks'.map (fun p => (p.1, [p.2.1, p.2.2])) ∧ ∀ z ∈ ks', z ∈ ks := by
            intro l
            induction l with
            | nil => intro _; exact ⟨[], rfl, fun z hz => by cases hz⟩
            | cons y l ih =>
              intro hy
              obtain ⟨l', f1, f2⟩ := ih fun z hz => hy z (List.mem_cons_of_mem _ hz)
              obtain ⟨p', hp', e⟩ := hy y List.mem_cons_self
              refine ⟨p' :: l', by rw [f1, e]; rfl, fun z hz => ?_⟩
              rcases List.mem_cons.mp hz with z1 | z1
              · rw [z1]; exact hp'
              · exact f2 z z1
          exact this L' fun z hz => at_ z ((mem' z).mp hz)
        have w2 : WD X.K F1 (updM M1 a (.raw (SetTO X.prog X.w a Ls))) (upd H1 a (SetTO X.prog X.w a Ls)) := w1.new hn (m := .raw _) rfl
        obtain ⟨s3, w3⟩ := w2.laid (o := .lst (L'.map fun q => V.ref q.1)) hpn
        have w4 := w3.forget a
        rw [delM_upd (w1.fresh hn).2] at w4
        have eL : (L'.map fun q => V.ref q.1) = ks'.map (fun p => V.ref p.1) := by rw [e1, List.map_map]; rfl
        refine k _ (L ((ks'.map (·.2)).map fun t => .tuple [.int t.1, .int t.2])) _ M1 _ (q (ks'.map (·.2)) ?_ fun t => ?_) (s1.trans s3) w4 ?_
        · rw [e1, List.map_map] at nd
          refine List.Pairwise.of_map (S := (· ≠ ·)) (fun t : Int × Int => [t.1, t.2]) (fun x y h e => h (by rw [e])) ?_
          rw [List.map_map]
          exact nd
        · constructor
          · intro ht'
            obtain ⟨p', hp', rfl⟩ := List.mem_map.mp ht'
            exact List.mem_map.mpr ⟨p', e2 p' hp', rfl⟩
          · intro ht'
            obtain ⟨p', hp', rfl⟩ := List.mem_map.mp ht'
            have := hall (p'.1, [p'.2.1, p'.2.2]) (List.mem_map.mpr ⟨p', hp', rfl⟩)
            obtain ⟨z, hz, ez⟩ := List.mem_map.mp this
            have hz' := (mem' z).mpr hz
            rw [e1] at hz'
            obtain ⟨p2, hp2, rfl⟩ := List.mem_map.mp hz'
            injection ez with ez1 ez2
            injection ez2 with ez2 _
            refine List.mem_map.mpr ⟨p2, hp2, ?_⟩
            exact Prod.ext ez1 ez2
        · rw [eL]
          rw [eL] at s3
          exact .lst (SqL.of upd_same) (dps_mono s3 _ _ (dps_of_pairs ks' fun p hp' => hk p (e2 p hp')))
end
end DL
/-! ### dicts whose keys are tuples, nested -/
namespace DL
open PySem PySem.Spec L2
/-- key, its address, its value; in the order of insertion -/
abbrev Rws := List (NestedKey × Addr × Value)
def DNat (P : Program) (w : World) (a : Addr) (xs : Rws) (h : Heap) : Prop :=
  (a == sysModules) = false ∧ ∃ o es ep, h.get? a = some o ∧ o.ExactDict ∧ o.data = .dict es ep ∧ es.toList = xs.map (entryOfKey (nestedKind P w)) ∧ (xs.map (·.1)).Nodup
def DNO (P : Program) (w : World) (a : Addr) (xs : Rws) : HO := .ext (DNat P w a xs)
theorem dn_new {P : Program} {w : World} {H : Hp} {h : Heap} {a : Addr} {xs : Rws} (R : DNat P w a xs h) : ObjOk P w H h a (DNO P w a xs) := by
  have ⟨e, o, es, ep, ho, r⟩ := R
  refine ⟨R, ⟨o, ho⟩, fun h1 h2 p k => ?_⟩
  have ⟨e', o', es', ep', ho', r'⟩ := p
  exact ⟨e', o', es', ep', k o' ho', r'⟩
/-- the keys of the rows stand as data -/
def NKs (K : PySem.W.Frag) (H : Hp) (xs : Rws) : Prop := ∀ x ∈ xs, Dp K H (V.ref x.2.1) x.1.data ∧ x.1.depth ≤ 8
theorem NKs.mono {K : PySem.W.Frag} {H H' : Hp} {xs : Rws} (s : Same H H') (h : NKs K H xs) : NKs K H' xs := fun x hx => ⟨dp_mono s _ _ (h x hx).1, (h x hx).2⟩
section
variable {X : Cx} {pins : List (Addr × Obj)} {σ : St} {H : Hp} {s : Shared}
mutual
theorem nis (I : Inv X pins σ H s) : ∀ (k : NestedKey) (v : V) (u : Value), Dp X.K H v k.data → RelV v u → NestedIs s.heap k u
  | .none, v, u, d, r => by
    have d : Dp X.K H v .none := d
    cases d
    obtain rfl : u = Value.none := r
    exact .none
  | .num i, v, u, d, r => by
    have d : Dp X.K H v (.int i) := d
    cases d
    obtain ⟨t, rfl⟩ : ∃ t, u = Value.int i t := r
    exact .int i t
  | .text x, v, u, d, r => by
    have d : Dp X.K H v (.str x) := d
    cases d
    obtain ⟨t, rfl⟩ : ∃ t, u = Value.str x t := r
    exact .text x t
  | .tup ks, v, u, d, r => by
    have d : Dp X.K H v (.tuple (NestedKey.datas ks)) := d
    cases d with
    | tup hs ht =>
      obtain rfl := (show u = Value.ref _ from r)
      obtain ⟨its, rv, ⟨o, ho, hc, n, hd⟩, _⟩ := I.tuple hs
      exact .tup ho hc hd (by simpa using nisAll I ks _ _ ht rv)
theorem nisAll (I : Inv X pins σ H s) : ∀ (ks : List NestedKey) (vs : List V) (us : List Value), DpAll X.K H vs (NestedKey.datas ks) → Vals vs us → NestedAll s.heap ks us
  | [], vs, us, d, r => by
    have d : DpAll X.K H vs [] := d
    cases d
    cases r
    exact .nil
  | k :: ks, vs, us, d, r => by
    have d : DpAll X.K H vs (k.data :: NestedKey.datas ks) := d
    cases d with
    | cons h t =>
      cases r with
      | cons rh rt => exact .cons (nis I k _ _ h rh) (nisAll I ks _ _ t rt)
end
theorem dn_get {a : Addr} {xs : Rws} (I : Inv X pins σ H s) (ha : H a = some (DNO X.prog X.w a xs)) (hk : NKs X.K H xs) : (a == sysModules) = false ∧ s.heap.DictOfH (nestedKind X.prog X.w) a xs := by
  obtain ⟨e, o, es, ep, ho, hx, hd, he, hn⟩ : DNat X.prog X.w a xs s.heap := (I.hok a _ ha).1
  exact ⟨e, o, es, ep, ho, hx, hd, he, fun x m => ⟨nis I x.1 _ _ (hk x m).1 rfl, (hk x m).2⟩, hn⟩
theorem dn_of {P : Program} {w : World} {a : Addr} {xs : Rws} {h : Heap} (e : (a == sysModules) = false) (d : h.DictOfH (nestedKind P w) a xs) : DNat P w a xs h := by
  obtain ⟨o, es, ep, ho, hx, hd, he, _, hn⟩ := d
  exact ⟨e, o, es, ep, ho, hx, hd, he, hn⟩
end
/-- a value that is one object, told fully -/
def Exact (v : V) (u : Value) : Prop := ∀ r, RelV v r → r = u
theorem exact_bl (b : Bool) : Exact (.bl b) (.bool b) := fun _ r => r
theorem exact_ref (a : Addr) : Exact (.ref a) (.ref a) := fun _ r => r
/-! ### rules over values -/
section
variable {X : Cx} {pos pos' : Pos} {o i value : Expr} {td ty tv : TE}
theorem pe_dnewN : PE X (.Dict [] [] pos) (fun _ H Q => ∀ p, H p = none → Q (.ref p) (upd H p (DNO X.prog X.w p []))) := ⟨fun pins s σ H Q I h =>
  wpAny_Dict_empty ⟨.ref s.heap.objs.size, _, I.laid (a := s.heap.objs.size) (t' := s.toks) (fun _ _ q => Heap.get?_push_of_some _ q) (Nat.le_refl _)
    (dn_new (xs := []) ⟨beq_eq_false_iff_ne.mpr (Ne.symm (Nat.ne_of_lt I.big)), _, #[], 0, Heap.get?_push_size _ rfl, ⟨rfl, rfl, rfl⟩, rfl, rfl, List.nodup_nil⟩), rfl, h _ (I.hok.fresh (Nat.le_refl _))⟩⟩
def sDPutN (X : Cx) (td ty tv : TE) : TS := fun D σ H => tv σ H fun v H1 => td σ H1 fun x H2 => ty σ H2 fun y H3 => ∃ a xs k b u, x = .ref a ∧ H3 a = some (DNO X.prog X.w a xs) ∧ NKs X.K H3 xs ∧ y = .ref b ∧ Dp X.K H3 (.ref b) k.data ∧ k.depth ≤ 8 ∧ Exact v u ∧ xs.length ≤ 100000 ∧
  D.nx σ (upd H3 a (DNO X.prog X.w a (storedH xs k b u)))
theorem ps_dputN (hu : X.A.units + 64 < cLine) (ho : PE X o td) (hi : PE X i ty) (hv : PE X value tv) (hs : swapsWith value (some (.Subscript o i pos')) pos.line X.env = pure false) :
    PS X (.Assign [.Subscript o i pos'] value pos) (sDPutN X td ty tv) := by
  refine ⟨fun pins s σ H D I h => ?_⟩
  refine wpAny_Assign_Subscript (thn (hv.run pins s σ H _ I h) fun r s1 ⟨v, H1, I1, rv, q1⟩ => thn (ho.run pins s1 σ H1 _ I1 q1) fun u0 s2 ⟨x, H2, I2, rx, q2⟩ => thn (hi.run pins s2 σ H2 _ I2 q2) fun iv s3 ⟨y, H3, I3, ry, a, xs, k, b, u, ex, ha, hk, ey, hb, hd, hx, hl, q3⟩ => ?_) hs
  subst ex ey
  obtain rfl : u0 = Value.ref a := rx
  obtain rfl : iv = Value.ref b := ry
  obtain rfl := hx r rv
  obtain ⟨e, dd⟩ := dn_get I3 ha hk
  refine wpAny_setItem_heap (knd := nestedKind X.prog X.w) (hsz := Nat.le_trans hl (by decide)) (show X.A.in1.units + 8 < cLine by simp; omega) ⟨nis I3 k _ _ hb rfl, hd⟩ dd fun h' dd' hs => ?_
  have dn := dn_of e dd'
  have he : ∃ q, h'.get? a = some q := let ⟨_, q, _, _, hq, _⟩ := dn; ⟨q, hq⟩
  exact ⟨σ, _, d_write I3 (by rw [ha]; trivial) hs he (dn_new dn), q3⟩
def rInN (X : Cx) : R2 := fun x y H Q => ∃ k b a xs, x = .ref b ∧ y = .ref a ∧ H a = some (DNO X.prog X.w a xs) ∧ NKs X.K H xs ∧ Dp X.K H (.ref b) k.data ∧ k.depth ≤ 8 ∧ Q (.bl (atKey xs k).isSome) H
theorem or_inN (hu : X.A.units + 64 < cLine) : OpR X (compareOp .In) (rInN X) := by
  intro pins s σ H x y v u Q I rx ry h
  obtain ⟨k, b, a, xs, rfl, rfl, ha, hk, hb, hd, q⟩ := h
  obtain rfl : v = Value.ref b := rx
  obtain rfl : u = Value.ref a := ry
  obtain ⟨e, dd⟩ := dn_get I ha hk
  exact wpAny_in_heap (knd := nestedKind X.prog X.w) (show X.A.in1.units + 8 < cLine by simp; omega) ⟨nis I k _ _ hb rfl, hd⟩ e dd ⟨.bl (atKey xs k).isSome, H, I.tok _, rfl, q⟩
def rLenN (X : Cx) : List V → Hp → VK → Prop := fun vs H Q => ∃ a xs, vs = [.ref a] ∧ H a = some (DNO X.prog X.w a xs) ∧ NKs X.K H xs ∧ xs.length ≤ 100000 ∧ Q (.int ((xs.length : Nat) : Int)) H
theorem cr_lenN : CallR X (.builtin "len") (rLenN X) := by
  intro pins s σ H vs us Q I r h
  obtain ⟨a, xs, rfl, ha, hk, hl, q⟩ := h
  rw [Vals.ref1 r]
  obtain ⟨e, dd⟩ := dn_get I ha hk
  exact call_len_dictH e dd (by omega) ⟨.int ((xs.length : Nat) : Int), H, I.tok _, ⟨_, rfl⟩, q⟩
/-- sorted(d), the keys pairs of ints -/
def pkey (t : Int × Int) : NestedKey := .tup [.num t.1, .num t.2]
def rSortN (X : Cx) : List V → Hp → VK → Prop := fun vs H Q => ∃ a xs, vs = [.ref a] ∧ H a = some (DNO X.prog X.w a xs) ∧ NKs X.K H xs ∧ xs.length ≤ 100000 ∧ (∀ x ∈ xs, ∃ t, x.1 = pkey t) ∧
  ∀ (ks : List (Addr × (Int × Int))) (p : Addr), (∀ z ∈ ks, ∃ x ∈ xs, x.1 = pkey z.2 ∧ x.2.1 = z.1) → (∀ x ∈ xs, ∃ z ∈ ks, x.1 = pkey z.2) → (ks.map (·.2)).Pairwise (fun t u => SrtO.lexB t u = true) → H p = none → Q (.ref p) (upd H p (.lst (ks.map fun z => V.ref z.1)))
theorem rows_at {xs : Rws} {es : Array DictEntry} {P : Program} {w : World} (he : es.toList = xs.map (entryOfKey (nestedKind P w))) {i : Nat} (hi : i < es.size) : ∃ x, xs[i]? = some x ∧ es[i].key = Value.ref x.2.1 := by
  have e : es.toList[i]? = some es[i] := by rw [Array.getElem?_toList]; simp [hi]
  rw [he, List.getElem?_map] at e
  cases q : xs[i]? with
  | none => rw [q] at e; cases e
  | some x =>
    rw [q] at e
    have e : entryOfKey (nestedKind P w) x = es[i] := Option.some.inj e
    exact ⟨x, rfl, by rw [← e]; rfl⟩
theorem pair_of {X : Cx} {pins : List (Addr × Obj)} {σ : St} {H : Hp} {s : Shared} (I : Inv X pins σ H s) {b : Addr} {t : Int × Int} (h : Dp X.K H (.ref b) (pkey t).data) : Srt.IsPair s.heap (Value.ref b) t.1 t.2 := by
    have h : Dp X.K H (.ref b) (.tuple [.int t.1, .int t.2]) := h
    cases h with
    | tup hs ht =>
      have ht := dps_ints (ns := [t.1, t.2]) ht
      subst ht
      obtain ⟨its, rv, ⟨o', ho', hc', n', hd'⟩, _⟩ := I.tuple hs
      cases rv with
      | cons r1 rv =>
        cases rv with
        | cons r2 rv =>
          cases rv
          obtain ⟨t1, rfl⟩ := r1
          obtain ⟨t2, rfl⟩ := r2
          exact ⟨b, o', t1, t2, n', rfl, ho', hc', hd'⟩
/-- the pair that a value is, by the rows -/
def keyP : NestedKey → Int × Int
  | .tup [.num i, .num j] => (i, j)
  | _ => (0, 0)
def pairAt (xs : Rws) : Value → Int × Int
  | .ref b => ((xs.find? fun x => decide (x.2.1 = b)).map fun x => keyP x.1).getD (0, 0)
  | _ => (0, 0)
def adV : Value → Addr
  | .ref b => b
  | _ => 0
theorem pairAt_mem {X : Cx} {pins : List (Addr × Obj)} {σ : St} {H : Hp} {s : Shared} (I : Inv X pins σ H s) {xs : Rws} (hk : NKs X.K H xs) {x : NestedKey × Addr × Value} (hx : x ∈ xs) {t : Int × Int} (et : x.1 = pkey t) : pairAt xs (Value.ref x.2.1) = t := by
  show ((xs.find? fun y => decide (y.2.1 = x.2.1)).map fun y => keyP y.1).getD (0, 0) = t
  cases e : xs.find? fun y => decide (y.2.1 = x.2.1) with
  | none =>
    have := List.find?_eq_none.mp e x hx
    exact absurd (decide_eq_true rfl) this
  | some y =>
    have hy := List.mem_of_find?_eq_some e
    have ey : y.2.1 = x.2.1 := by have := List.find?_some e; simpa using this
    have n1 := nis I y.1 _ _ (hk y hy).1 rfl
    have n2 := nis I x.1 _ _ (hk x hx).1 rfl
    rw [ey] at n1
    have := NestedIs.inj _ _ _ n1 n2
    show keyP y.1 = t
    rw [this, et]
    rfl
theorem cr_sortN (hc : X.calm = true) : CallR X (.builtin "sorted") (rSortN X) := by
  intro pins s σ H vs us Q I r h
  obtain ⟨a, xs, rfl, ha, hk, hl, hp, q⟩ := h
  rw [Vals.ref1 r]
  obtain ⟨e, o, es, ep, ho, hx, hd, he, hn⟩ : DNat X.prog X.w a xs s.heap := (I.hok a _ ha).1
  have hes : es.size = xs.length := by rw [← Array.length_toList, he, List.length_map]
  have hz : es.size ≤ sizeLine := by rw [hes]; exact Nat.le_trans hl (by decide)
  refine Calls.call_function_entry PyProof.Rows.kind_sorted PyProof.Rows.plain_sorted PyProof.Rows.entry_sorted (PyProof.Rows.args_sorted1 _) ?_
  unfold Builtin.«sorted»
  refine wpAny_bind (m := checkCount "sorted" 1 1 _) (wpAny_pure ?_)
  refine wpAny_bind (PySem.W.kdu_collect (A := X.A.in1) (PySem.KdlSrc.rawDict (es := es) (ep := ep) e) (I.ok.hd hc) ⟨o, ho, hx, hd⟩ hz fun g tk acc kk hacc => ?_)
  have vals : acc.toList = xs.map fun x => Value.ref x.2.1 := by
    apply List.ext_getElem?
    intro i
    rw [List.getElem?_map, Array.getElem?_toList]
    by_cases hi : i < es.size
    · have hi' : i < acc.size := by rw [hacc.1]; exact hi
      obtain ⟨_, ev⟩ := hacc.2 i acc[i] (by simp [hi'])
      obtain ⟨x, ex, ek⟩ := rows_at he hi
      rw [ex]
      simp only [hi', getElem?_pos, Option.map_some, Option.some.injEq]
      rw [ev, ek]
    · have h1 : acc[i]? = none := by simp [hacc.1]; omega
      have h2 : xs[i]? = none := by rw [List.getElem?_eq_none_iff]; omega
      rw [h1, h2]
      rfl
  have I1 : Inv X pins σ H { s with heap := g, toks := tk } := I.kept kk
  have hal : acc.toList.length ≤ sizeLine := by rw [vals, List.length_map, ← hes]; exact hz
  refine wpAny_bind (wpAny_newList ?_ hal)
  have hoL : (g.push (PyProof.Rows.seqObj "list" acc.toList.toArray 0)).get? g.objs.size = some (PyProof.Rows.seqObj "list" acc.toList.toArray 0) := Heap.get?_push_size _ rfl
  have isP : ∀ v ∈ acc.toList, Srt.IsPair (g.push (PyProof.Rows.seqObj "list" acc.toList.toArray 0)) v (pairAt xs v).1 (pairAt xs v).2 := fun v hv => by
    rw [vals] at hv
    obtain ⟨x, hx', rfl⟩ := List.mem_map.mp hv
    obtain ⟨t, et⟩ := hp x hx'
    rw [pairAt_mem I hk hx' et]
    have d := (hk x hx').1
    rw [et] at d
    exact (pair_of I1 d).keeps fun b u hb _ => Heap.get?_push_of_some _ hb
  show wpAny _ _ _ _ _ { s with heap := g.push (PyProof.Rows.seqObj "list" acc.toList.toArray 0), toks := tk }
  refine wpAny_bind (wpAny_holding (wpAny_call_entry PyProof.Rows.slot_list_sort ⟨_, hoL, rfl⟩ PyProof.Rows.entry_list_sort
    (SrtO.list_sort_ord (s := { s with heap := g.push (PyProof.Rows.seqObj "list" acc.toList.toArray 0), toks := tk }) (SrtO.swo_lex (pairAt xs)) hoL hal (fun h2 => SrtO.pairs_sortableO (s := { s with heap := g.push (PyProof.Rows.seqObj "list" acc.toList.toArray 0), toks := tk }) (by omega) isP fun o' e' => ?_) fun out hs hb => ⟨_, rfl, ?_⟩) (PyProof.Rows.args_list_sort _)))
  · have e2 : some o' = some (PyProof.Rows.seqObj "list" acc.toList.toArray 0) := e'.symm.trans hoL
    cases e2
    intro c
    exact absurd (Value.type.inj c) (by decide)
  · have perm : out.Perm (xs.map fun x => Value.ref x.2.1) := by rw [← vals]; exact hb.perm
    have refs : ∀ v ∈ out, ∃ b, v = Value.ref b := fun v hv => by
      obtain ⟨x, _, rfl⟩ := List.mem_map.mp (perm.mem_iff.mp hv)
      exact ⟨_, rfl⟩
    obtain ⟨n, hn'⟩ := PyProof.Rows.sortedHeap_at (vs := acc.toList) (out := out.toArray) hoL
    have eK : (out.map fun v => (adV v, pairAt xs v)).map (fun z => V.ref z.1) = out.map backV := by
      rw [List.map_map]
      refine List.map_congr_left fun v hv => ?_
      obtain ⟨b, rfl⟩ := refs v hv
      rfl
    have hlen : (out.map backV).length ≤ sizeLine := by rw [List.length_map, perm.length_eq, List.length_map, ← hes]; exact hz
    have fin := q (out.map fun v => (adV v, pairAt xs v)) g.objs.size (fun z hz => ?_) (fun x hx' => ?_) ?_ (I1.hok.fresh (Nat.le_refl _))
    · rw [eK] at fin
      refine wpAny_pure ⟨_, rfl, .ref g.objs.size, upd H g.objs.size (.lst (out.map backV)), I1.laid (t' := tk) (fun b u eb => ?_) (Nat.le_refl _) (show ObjOk X.prog X.w _ _ _ (.lst (out.map backV)) from ⟨hlen, out, n, vals_back refs, hn'⟩), rfl, fin⟩
      have hb' : b < g.objs.size := Heap.lt_size eb
      rw [PyProof.Rows.sortedHeap_old (Nat.ne_of_lt hb') (by rw [PyProof.Rows.size_push']; exact Nat.lt_succ_of_lt hb')]
      exact Heap.get?_push_of_some _ eb
    · obtain ⟨v, hv, rfl⟩ := List.mem_map.mp hz
      obtain ⟨x, hx', rfl⟩ := List.mem_map.mp (perm.mem_iff.mp hv)
      obtain ⟨t, et⟩ := hp x hx'
      refine ⟨x, hx', ?_, rfl⟩
      show x.1 = pkey (pairAt xs (Value.ref x.2.1))
      rw [pairAt_mem I hk hx' et, et]
    · obtain ⟨t, et⟩ := hp x hx'
      refine ⟨(x.2.1, t), List.mem_map.mpr ⟨Value.ref x.2.1, perm.mem_iff.mpr (List.mem_map.mpr ⟨x, hx', rfl⟩), ?_⟩, et⟩
      rw [pairAt_mem I hk hx' et]
      rfl
    · -- strictly
      rw [List.map_map]
      have nd : ((xs.map fun x => Value.ref x.2.1).map (pairAt xs)).Nodup := by
        rw [List.map_map]
        have e3 : xs.map (pairAt xs ∘ fun x => Value.ref x.2.1) = (xs.map (·.1)).map keyP := by
          rw [List.map_map]
          refine List.map_congr_left fun x hx' => ?_
          obtain ⟨t, et⟩ := hp x hx'
          show pairAt xs (Value.ref x.2.1) = keyP x.1
          rw [pairAt_mem I hk hx' et, et]
          rfl
        rw [e3]
        refine List.Pairwise.map keyP (R := fun a b => a ∈ xs.map (·.1) ∧ b ∈ xs.map (·.1) ∧ a ≠ b) (fun a b ⟨ma, mb, ne⟩ z => ne ?_) (List.Pairwise.imp_of_mem (fun ma mb ne => ⟨ma, mb, ne⟩) hn)
        obtain ⟨x, hx1, rfl⟩ := List.mem_map.mp ma
        obtain ⟨y, hy1, rfl⟩ := List.mem_map.mp mb
        obtain ⟨t, et⟩ := hp x hx1
        obtain ⟨u, eu⟩ := hp y hy1
        rw [et, eu] at z ⊢
        have z : t = u := z
        rw [z]
      have nd2 : (out.map (pairAt xs)).Nodup := (perm.map (pairAt xs)).nodup_iff.mpr nd
      have nd3 : out.Pairwise fun v u => pairAt xs v ≠ pairAt xs u := List.pairwise_map.mp nd2
      refine List.pairwise_map.mpr (List.Pairwise.imp (fun {v u} ⟨h1, h2⟩ => ?_) (List.Pairwise.and hs nd3))
      have l := SrtO.lexB_no.mp h1
      refine SrtO.lexB_iff.mpr ?_
      show (pairAt xs v).1 < (pairAt xs u).1 ∨ _
      rcases Int.lt_trichotomy (pairAt xs v).1 (pairAt xs u).1 with c | c | c
      · exact .inl c
      · refine .inr ⟨c, ?_⟩
        rcases Int.lt_trichotomy (pairAt xs v).2 (pairAt xs u).2 with c2 | c2 | c2
        · exact c2
        · exact absurd (Prod.ext c c2) h2
        · exact absurd (.inr ⟨c.symm, c2⟩) l
      · exact absurd (.inl c) l
end
end DL
namespace DL
open PySem PySem.Spec L2
/-- such a dict in the memory -/
abbrev ndP (P : Program) (w : World) (a : Addr) (xs : Rws) : MD := .rawK (DNO P w a xs) (xs.map fun x => (V.ref x.2.1, x.1.data))
abbrev ndM (X : Cx) (a : Addr) (xs : Rws) : MD := ndP X.prog X.w a xs
def Kd (xs : Rws) : Prop := ∀ x ∈ xs, x.1.depth ≤ 8
theorem kd_nil : Kd [] := fun x hx => by cases hx
theorem storedH_mem {xs : Rws} {k : NestedKey} {b : Addr} {v : Value} {x : NestedKey × Addr × Value} (h : x ∈ storedH xs k b v) : (∃ y ∈ xs, y.1 = x.1 ∧ y.2.1 = x.2.1) ∨ x = (k, b, v) := by
  unfold storedH at h
  split at h
  · obtain ⟨y, hy, rfl⟩ := List.mem_map.mp h
    refine .inl ⟨y, hy, ?_⟩
    unfold putAt
    split <;> exact ⟨rfl, rfl⟩
  · rcases List.mem_append.mp h with q | q
    · exact .inl ⟨x, q, rfl, rfl⟩
    · exact .inr (List.mem_singleton.mp q)
theorem storedH_keys (xs : Rws) (k : NestedKey) (b : Addr) (v : Value) (j : NestedKey) : (∃ x ∈ storedH xs k b v, x.1 = j) ↔ (∃ x ∈ xs, x.1 = j) ∨ j = k := by
  constructor
  · rintro ⟨x, hx, rfl⟩
    rcases storedH_mem hx with ⟨y, hy, e, _⟩ | e
    · exact .inl ⟨y, hy, e⟩
    · exact .inr (by rw [e])
  · unfold storedH
    rintro (⟨x, hx, rfl⟩ | rfl)
    · split
      · refine ⟨putAt k v x, List.mem_map.mpr ⟨x, hx, rfl⟩, ?_⟩
        unfold putAt
        split <;> rfl
      · exact ⟨x, List.mem_append_left _ hx, rfl⟩
    · split
      · rename_i h
        unfold atKey at h
        rw [Option.isSome_map] at h
        obtain ⟨x, hx⟩ := Option.isSome_iff_exists.mp h
        refine ⟨putAt j v x, List.mem_map.mpr ⟨x, List.mem_of_find?_eq_some hx, rfl⟩, ?_⟩
        have : x.1 = j := of_decide_eq_true (by simpa using List.find?_some hx)
        unfold putAt
        split <;> exact this
      · exact ⟨(j, b, v), List.mem_append_right _ (by simp), rfl⟩
theorem storedH_len (xs : Rws) (k : NestedKey) (b : Addr) (v : Value) : (storedH xs k b v).length ≤ xs.length + 1 := by
  unfold storedH
  split
  · rw [List.length_map]; omega
  · rw [List.length_append, List.length_singleton]; omega
theorem kd_put {xs : Rws} (h : Kd xs) {k : NestedKey} (hk : k.depth ≤ 8) (b : Addr) (v : Value) : Kd (storedH xs k b v) := fun x hx => by
  rcases storedH_mem hx with ⟨y, hy, e, _⟩ | e
  · rw [← e]; exact h y hy
  · rw [e]; exact hk
section
variable {X : Cx} {o i value e a b : Expr} {es : List Expr} {pos pos' p : Pos} {ρ : Ev} {M : Mem} {Q : QE} {D : DEnds} {QT : Bool → Mem → Prop}
theorem nks_of {F : Hp} {M : Mem} {H : Hp} {l : Addr} {xs : Rws} (w : WD X.K F M H) (hl : M l = some (ndM X l xs)) (hk : Kd xs) : NKs X.K H xs ∧ H l = some (DNO X.prog X.w l xs) := by
  obtain ⟨_, h1, h2⟩ := w.mem l _ hl
  exact ⟨fun x hx => ⟨dp_mono w.ext _ _ (h2 _ (List.mem_map.mpr ⟨x, hx, rfl⟩)), hk x hx⟩, h1⟩
theorem de_dnew (h : ∀ l, M l = none → Q (.o l) (updM M l (ndM X l []))) : DE X (.Dict [] [] pos) ρ M Q := fun σ H F ho hw R k => by
  refine toE pe_dnewN fun r hr => ?_
  exact k _ _ F _ _ (h r (hw.fresh hr).2) (Same.refl F) (hw.new hr (m := ndM X r []) ⟨rfl, fun x hx => by cases hx⟩) rfl
theorem ds_putN (hu : X.A.units + 64 < cLine) (h : DE X value ρ M fun d0 M0 => DE X o ρ M0 fun d1 M1 => DE X i ρ M1 fun d2 M2 => ∃ (l : Addr) (xs : Rws) (ks : List NestedKey) (c : Bool), d0 = B c ∧ d1 = .o l ∧ M2 l = some (ndM X l xs) ∧ Kd xs ∧ d2 = .d (NestedKey.tup ks).data ∧ (NestedKey.tup ks).depth ≤ 8 ∧ xs.length ≤ 100000 ∧
      ∀ r, D.nx ρ (updM M2 l (ndM X l (storedH xs (.tup ks) r (.bool c)))))
    (hs : swapsWith value (some (.Subscript o i pos')) pos.line X.env = pure false := by rfl) : DS X (.Assign [.Subscript o i pos'] value pos) ρ M D := fun σ H F ho hw R k => by
  refine toS (ps_dputN hu sE sE sE hs) ?_
  refine h σ H F ho hw _ fun v0 d0 F0 M0 H0 q0 s0 w0 x0 => ?_
  refine q0 σ H0 F0 (ho.mono s0) w0 _ fun v1 d1 F1 M1 H1 q1 s1 w1 x1 => ?_
  refine q1 σ H1 F1 (ho.mono (s0.trans s1)) w1 _ fun v2 d2 F2 M2 H2 q2 s2 w2 x2 => ?_
  obtain ⟨l, xs, ks, c, rfl, rfl, hl, hk, rfl, hd, hz, q⟩ := q2
  cases x0
  cases (show v1 = V.ref l from x1)
  obtain ⟨nk, hH⟩ := nks_of w2 hl hk
  obtain ⟨r, rfl⟩ : ∃ r, v2 = V.ref r := by
    have x2 : Dp X.K F2 v2 (.tuple (NestedKey.datas ks)) := x2
    cases x2 with
    | tup _ _ => exact ⟨_, rfl⟩
  refine ⟨l, xs, .tup ks, r, .bool c, rfl, hH, nk, rfl, dp_mono w2.ext _ _ x2, hd, exact_bl c, hz, ?_⟩
  refine k.nx _ _ F2 _ _ (q r) ((s0.trans s1).trans s2) (w2.put hl (m' := ndM X l _) ⟨rfl, fun z hz' => ?_⟩) (ho.mono ((s0.trans s1).trans s2))
  obtain ⟨x, hx, rfl⟩ := List.mem_map.mp hz'
  rcases storedH_mem hx with ⟨y, hy, e1, e2⟩ | e1
  · rw [← e1, ← e2]
    exact (w2.mem l _ hl).2.2 _ (List.mem_map.mpr ⟨y, hy, rfl⟩)
  · rw [e1]
    exact x2
theorem dt_inN (hu : X.A.units + 64 < cLine) (h : DE X a ρ M fun d1 M1 => DE X b ρ M1 fun d2 M2 => ∃ (l : Addr) (xs : Rws) (ks : List NestedKey), d1 = .d (NestedKey.tup ks).data ∧ d2 = .o l ∧ M2 l = some (ndM X l xs) ∧ Kd xs ∧ (NestedKey.tup ks).depth ≤ 8 ∧ QT (atKey xs (.tup ks)).isSome M2) (hm : behindInMarks .In b = false := by rfl) : DT X (.Compare a [.In] [b] pos) ρ M QT := by
  refine dt_cmp (or_inN hu) (h.imp fun d1 M1 h1 => h1.imp fun d2 M2 h2 => ?_) hm
  obtain ⟨l, xs, ks, rfl, rfl, hl, hk, hd, q⟩ := h2
  intro F H v1 v2 x1 x2 w R k
  cases (show v2 = V.ref l from x2)
  obtain ⟨nk, hH⟩ := nks_of w hl hk
  obtain ⟨r, rfl⟩ : ∃ r, v1 = V.ref r := by
    have x1 : Dp X.K F v1 (.tuple (NestedKey.datas ks)) := x1
    cases x1 with
    | tup _ _ => exact ⟨_, rfl⟩
  exact ⟨.tup ks, r, l, xs, rfl, rfl, hH, nk, dp_mono w.ext _ _ x1, hd, k _ _ F M2 H ⟨_, rfl, q⟩ (Same.refl F) w (.bl _)⟩
theorem de_lenN (h : DA X (e :: es) ρ M fun ds M1 => ∃ (l : Addr) (xs : Rws), ds = [.o l] ∧ M1 l = some (ndM X l xs) ∧ Kd xs ∧ xs.length ≤ 100000 ∧ Q (I ((xs.length : Nat) : Int)) M1) (hm : X.mg "len" = none) (hg : Gl X "len" := by rfl)
    (he : starEach (e :: es) X.env = (false, eval e X.env) :: starEach es X.env := by rfl) (hpl : (backTo pos (starEach es X.env)).any (·.1) = false := by rfl) : DE X (.Call (.Name "len" p) (e :: es) [] pos) ρ M Q := by
  refine de_blt cr_lenN (h.imp fun ds M1 q => ?_) hm (by decide +kernel) hg (by decide) (by decide) he hpl
  obtain ⟨l, xs, rfl, hl, hk, hz, q⟩ := q
  intro F H vs x w R k
  obtain ⟨v, rfl, x1⟩ := evs1 x
  cases (show v = V.ref l from x1)
  obtain ⟨nk, hH⟩ := nks_of w hl hk
  exact ⟨l, xs, rfl, hH, nk, hz, k _ _ F M1 H q (Same.refl F) w (.int _)⟩
abbrev pairD (t : Int × Int) : PyData := .tuple [.int t.1, .int t.2]
theorem de_sortN (h : DA X (e :: es) ρ M fun ds M1 => ∃ (l : Addr) (xs : Rws), ds = [.o l] ∧ M1 l = some (ndM X l xs) ∧ xs.length ≤ 100000 ∧ (∀ x ∈ xs, ∃ t, x.1 = pkey t) ∧ ∀ us : List (Int × Int), us.Pairwise (fun t u => SrtO.lexB t u = true) → (∀ t, t ∈ us ↔ ∃ x ∈ xs, x.1 = pkey t) → Q (L (us.map pairD)) M1)
    (hm : X.mg "sorted" = none) (hc : X.calm = true := by rfl) (hg : Gl X "sorted" := by rfl)
    (he : starEach (e :: es) X.env = (false, eval e X.env) :: starEach es X.env := by rfl) (hpl : (backTo pos (starEach es X.env)).any (·.1) = false := by rfl) : DE X (.Call (.Name "sorted" p) (e :: es) [] pos) ρ M Q := by
  refine de_blt (cr_sortN hc) (h.imp fun ds M1 q => ?_) hm (by decide +kernel) hg (by decide) (by decide) he hpl
  obtain ⟨l, xs, rfl, hl, hz, hp, q⟩ := q
  intro F H vs x w R k
  obtain ⟨v, rfl, x1⟩ := evs1 x
  cases (show v = V.ref l from x1)
  have hk : Kd xs := fun x hx => by
    obtain ⟨t, e⟩ := hp x hx
    rw [e]
    exact Nat.le_of_ble_eq_true rfl
  obtain ⟨nk, hH⟩ := nks_of w hl hk
  refine ⟨l, xs, rfl, hH, nk, hz, hp, fun ks r h1 h2 h3 hr => ?_⟩
  obtain ⟨s2, w2⟩ := w.laid (o := .lst (ks.map fun z => V.ref z.1)) hr
  refine k _ (L ((ks.map (·.2)).map pairD)) _ M1 _ (q (ks.map (·.2)) h3 fun t => ?_) s2 w2 (.lst (SqL.of upd_same) (dps_mono s2 _ _ (dps_of_pairs ks fun z hz' => ?_)))
  · constructor
    · intro ht
      obtain ⟨z, hz', rfl⟩ := List.mem_map.mp ht
      obtain ⟨x, hx, e1, _⟩ := h1 z hz'
      exact ⟨x, hx, e1⟩
    · rintro ⟨x, hx, e1⟩
      obtain ⟨z, hz', e2⟩ := h2 x hx
      refine List.mem_map.mpr ⟨z, hz', ?_⟩
      rw [e1] at e2
      injection e2 with e2
      injection e2 with e3 e4
      injection e4 with e4 _
      injection e3 with e3
      injection e4 with e4
      exact (Prod.ext e3 e4).symm
  · obtain ⟨x, hx, e1, e2⟩ := h1 z hz'
    have d := (w.mem l _ hl).2.2 _ (List.mem_map.mpr ⟨x, hx, rfl⟩)
    rw [e1, e2] at d
    have d : Dp X.K F (V.ref z.1) (.tuple [.int z.2.1, .int z.2.2]) := d
    cases d with
    | tup hs ht =>
      have ht := dps_ints (ns := [z.2.1, z.2.2]) ht
      subst ht
      exact hs
theorem DE.forget (l : Addr) (h : DE X e ρ M fun d M1 => Q d (delM M1 l)) : DE X e ρ M Q := fun σ H F ho hw R k => h σ H F ho hw R fun v d F' M' H' q s w x => k v d F' (delM M' l) H' q s (w.forget l) x
/-- x in xs, xs a list of data -/
theorem de_inLD (hu : X.A.units + 65 < cLine) (h : DE X a ρ M fun d1 M1 => DE X b ρ M1 fun d2 M2 => ∃ p ps, d1 = .d p ∧ d2 = L ps ∧ SeqAt.shaped p = true ∧ SeqAt.shaped (.list ps) = true ∧ Q (B (ps.any fun z => PyData.eqv z p)) M2) (hm : behindInMarks .In b = false := by rfl) : DE X (.Compare a [.In] [b] pos) ρ M Q := by
  refine de_cmp (op_inD hu) (h.imp fun d1 M1 h1 => h1.imp fun d2 M2 h2 => ?_) hm
  obtain ⟨p, ps, rfl, rfl, s1, s2, q⟩ := h2
  intro F H v1 v2 x1 x2 w R k
  exact ⟨p, ps, dp_mono w.ext _ _ x1, dp_mono w.ext _ _ x2, s1, s2, k _ _ F M2 H q (Same.refl F) w (.bl _)⟩
theorem dt_inLD (hu : X.A.units + 65 < cLine) (h : DE X a ρ M fun d1 M1 => DE X b ρ M1 fun d2 M2 => ∃ p ps, d1 = .d p ∧ d2 = L ps ∧ SeqAt.shaped p = true ∧ SeqAt.shaped (.list ps) = true ∧ QT (ps.any fun z => PyData.eqv z p) M2) (hm : behindInMarks .In b = false := by rfl) : DT X (.Compare a [.In] [b] pos) ρ M QT := by
  refine dt_cmp (op_inD hu) (h.imp fun d1 M1 h1 => h1.imp fun d2 M2 h2 => ?_) hm
  obtain ⟨p, ps, rfl, rfl, s1, s2, q⟩ := h2
  intro F H v1 v2 x1 x2 w R k
  exact ⟨p, ps, dp_mono w.ext _ _ x1, dp_mono w.ext _ _ x2, s1, s2, k _ _ F M2 H ⟨_, rfl, q⟩ (Same.refl F) w (.bl _)⟩
theorem dt_notinLD (hu : X.A.units + 65 < cLine) (h : DE X a ρ M fun d1 M1 => DE X b ρ M1 fun d2 M2 => ∃ p ps, d1 = .d p ∧ d2 = L ps ∧ SeqAt.shaped p = true ∧ SeqAt.shaped (.list ps) = true ∧ QT (!ps.any fun z => PyData.eqv z p) M2) (hm : behindInMarks .NotIn b = false := by rfl) : DT X (.Compare a [.NotIn] [b] pos) ρ M QT := by
  refine dt_cmp (op_notInD hu) (h.imp fun d1 M1 h1 => h1.imp fun d2 M2 h2 => ?_) hm
  obtain ⟨p, ps, rfl, rfl, s1, s2, q⟩ := h2
  intro F H v1 v2 x1 x2 w R k
  exact ⟨p, ps, dp_mono w.ext _ _ x1, dp_mono w.ext _ _ x2, s1, s2, k _ _ F M2 H ⟨_, rfl, q⟩ (Same.refl F) w (.bl _)⟩
theorem dss_forget (l : Addr) {sts : List Stmt} (h : DSs X sts ρ (delM M l) D) : DSs X sts ρ M D := fun σ H F ho hw R k => h σ H F ho (hw.forget l) R k
end
end DL
/-! ### texts, lists times a number -/
namespace DL
open PySem PySem.Spec L2
theorem dps_strsV {K : PySem.W.Frag} {F : Hp} : ∀ {ns : List Str} {vs : List V}, DpAll K F vs (ns.map PyData.str) → vs = ns.map V.str
  | [], _, .nil => rfl
  | n :: ns, _, .cons h t => by
    cases h
    rw [dps_strsV t]
    rfl
theorem cnt_nat (c : Nat) : ∀ l : List Nat, PyProof.Rows.cnt c l = ((l.count c : Nat) : Int)
  | [] => rfl
  | n :: r => by
    rw [PyProof.Rows.cnt_cons, cnt_nat c r, List.count_cons]
    by_cases h : n = c
    · rw [if_pos h, if_pos (by simpa using h)]; omega
    · rw [if_neg h, if_neg (by simpa using h)]; omega
theorem count_sign (x : Str) (c : Nat) : Txt.count x ⟨#[c]⟩ = ((x.cps.toList.count c : Nat) : Int) := by
  rw [PyProof.Rows.count_is]
  exact cnt_nat c _
section
variable {X : Cx} {o e a b : Expr} {es : List Expr} {pos p2 apos : Pos} {ρ : Ev} {M : Mem} {Q : QE} {QT : Bool → Mem → Prop}
theorem de_join (h : DE X o ρ M fun d1 M1 => ∃ s : Str, d1 = S s ∧ DE X e ρ M1 fun d2 M2 => ∃ ys : List Str, d2 = L (ys.map .str) ∧ (ys.map (·.length)).sum + ys.length * s.length ≤ 100000 ∧ Q (S (Str.join s ys)) M2)
    (hs : starEach [e] X.env = [(false, eval e X.env)] := by rfl) (hbase : attributeBase o "join" X.env (eval o X.env) = eval o X.env := by rfl) (hline : (apos.endLine == pos.line) = true := by rfl) :
    DE X (.Call (.Attribute o "join" apos) [e] [] pos) ρ M Q := fun σ H F ho hw R k => by
  refine toE (pe_join sE sE hs hbase hline) ?_
  refine h σ H F ho hw _ fun v1 d1 F1 M1 H1 q1 s1 w1 x1 => ?_
  obtain ⟨s, rfl, q1⟩ := q1
  cases x1
  refine ⟨⟨s, rfl⟩, ?_⟩
  refine q1 σ H1 F1 (ho.mono s1) w1 _ fun v2 d2 F2 M2 H2 q2 s2 w2 x2 => ?_
  obtain ⟨ys, rfl, hz, q⟩ := q2
  cases x2 with
  | lst ha ht =>
    have ev := dps_strsV ht
    subst ev
    refine ⟨s, _, ys, rfl, rfl, .inl (sqL_mono w2.ext ha), Nat.le_trans hz (by decide), ?_⟩
    rw [show Txt.join s ys = Str.join s ys from PySem.StrLaws.glued_eq_join s ys]
    exact k _ _ F2 M2 H2 q (s1.trans s2) w2 (.str _)
theorem de_count1 {c : Nat} (h : DE X o ρ M fun d1 M1 => ∃ s : Str, d1 = S s ∧ DE X e ρ M1 fun d2 M2 => d2 = S ⟨#[c]⟩ ∧ Q (I ((s.cps.toList.count c : Nat) : Int)) M2)
    (hs : starEach [e] X.env = [(false, eval e X.env)] := by rfl) (hbase : attributeBase o "count" X.env (eval o X.env) = eval o X.env := by rfl) (hline : (apos.endLine == pos.line) = true := by rfl) :
    DE X (.Call (.Attribute o "count" apos) [e] [] pos) ρ M Q := fun σ H F ho hw R k => by
  refine toE (pe_m1 PySem.F.slot_str_count PySem.F.type_str_count mt_count sE sE hs hbase hline) ?_
  refine h σ H F ho hw _ fun v1 d1 F1 M1 H1 q1 s1 w1 x1 => ?_
  obtain ⟨s, rfl, q1⟩ := q1
  cases x1
  refine ⟨⟨s, rfl⟩, ?_⟩
  refine q1 σ H1 F1 (ho.mono s1) w1 _ fun v2 d2 F2 M2 H2 q2 s2 w2 x2 => ?_
  obtain ⟨rfl, q⟩ := q2
  cases x2
  refine ⟨s, _, rfl, rfl, ?_⟩
  rw [count_sign]
  exact k _ _ F2 M2 H2 q (s1.trans s2) w2 (.int _)
theorem de_ixS (h : DE X a ρ M fun d1 M1 => DE X b ρ M1 fun d2 M2 => ∃ (z : Str) (i : Int) (c : Nat), d1 = S z ∧ d2 = I i ∧ z.length ≤ 100000 ∧ atI z.cps.toList i = some c ∧ Q (S ⟨#[c]⟩) M2) (hb : PlainIx b := by exact fun _ _ => rfl) : DE X (.Subscript a b pos) ρ M Q := by
  refine two (ta := wpE X a) (h.imp fun d1 M1 h1 => h1.imp fun d2 M2 h2 => ?_) (pe_ix ix_str sE sE hb)
  obtain ⟨z, i, c, rfl, rfl, hz, hc, q⟩ := h2
  intro F H v1 v2 x1 x2 w R k
  cases x1
  cases x2
  exact ⟨z, i, c, rfl, rfl, Nat.le_trans hz (by decide), hc, k _ _ F M2 H q (Same.refl F) w (.str _)⟩
theorem de_inC (h : DE X a ρ M fun d1 M1 => DE X b ρ M1 fun d2 M2 => ∃ (c : Nat) (z : Str), d1 = S ⟨#[c]⟩ ∧ d2 = S z ∧ Q (B (decide (c ∈ z.cps.toList))) M2) (hm : behindInMarks .In b = false := by rfl) : DE X (.Compare a [.In] [b] pos) ρ M Q := by
  refine de_cmp op_in_sign (h.imp fun d1 M1 h1 => h1.imp fun d2 M2 h2 => ?_) hm
  obtain ⟨c, z, rfl, rfl, q⟩ := h2
  intro F H v1 v2 x1 x2 w R k
  cases x1
  cases x2
  exact ⟨c, z, rfl, rfl, k _ _ F M2 H q (Same.refl F) w (.bl _)⟩
theorem de_notinC (h : DE X a ρ M fun d1 M1 => DE X b ρ M1 fun d2 M2 => ∃ (c : Nat) (z : Str), d1 = S ⟨#[c]⟩ ∧ d2 = S z ∧ Q (B (!decide (c ∈ z.cps.toList))) M2) (hm : behindInMarks .NotIn b = false := by rfl) : DE X (.Compare a [.NotIn] [b] pos) ρ M Q := by
  refine de_cmp op_notIn_sign (h.imp fun d1 M1 h1 => h1.imp fun d2 M2 h2 => ?_) hm
  obtain ⟨c, z, rfl, rfl, q⟩ := h2
  intro F H v1 v2 x1 x2 w R k
  cases x1
  cases x2
  exact ⟨c, z, rfl, rfl, k _ _ F M2 H q (Same.refl F) w (.bl _)⟩
theorem dps_rep {K : PySem.W.Frag} {F : Hp} {vs : List V} {ps : List PyData} (h : DpAll K F vs ps) : ∀ n : Nat, DpAll K F (List.replicate n vs).flatten (List.replicate n ps).flatten
  | 0 => .nil
  | n + 1 => by
    rw [List.replicate_succ, List.replicate_succ, List.flatten_cons, List.flatten_cons]
    exact dps_append h (dps_rep h n)
/-- xs * n, xs a list of the memory that nobody else has: a new list -/
theorem de_rep (h : DE X a ρ M fun d1 M1 => DE X b ρ M1 fun d2 M2 => ∃ (l : Addr) (ps : List PyData) (n : Nat), d1 = .o l ∧ M2 l = some (.lst ps) ∧ d2 = I n ∧ n ≤ 100000 ∧ ps.length * n ≤ 100000 ∧ ∀ r, delM M2 l r = none → Q (.o r) (updM (delM M2 l) r (.lst (List.replicate n ps).flatten))) : DE X (.BinOp a .Mult b pos) ρ M Q := by
  refine de_bin op_rep (h.imp fun d1 M1 h1 => h1.imp fun d2 M2 h2 => ?_)
  obtain ⟨l, ps, n, rfl, hl, rfl, hn, hz, q⟩ := h2
  intro F H v1 v2 x1 x2 w R k
  cases (show v1 = V.ref l from x1)
  cases x2
  obtain ⟨_, vs, e, ht⟩ := w.mem l _ hl
  have en : ((n : Nat) : Int).toNat = n := Int.toNat_natCast n
  refine ⟨l, n, vs, rfl, rfl, e, by omega, by omega, by rw [en, dps_len ht]; exact small_line hz, fun r hr => ?_⟩
  rw [en]
  have w2 := w.forget l
  exact k _ _ F _ _ (q r (w2.fresh hr).2) (Same.refl F) (w2.new hr ⟨_, rfl, dps_rep ht n⟩) rfl
/-- xs + ys of two lists of the memory that nobody else has: data -/
theorem de_catX (h : DE X a ρ M fun d1 M1 => DE X b ρ M1 fun d2 M2 => ∃ l1 l2 ps qs, d1 = .o l1 ∧ d2 = .o l2 ∧ M2 l1 = some (.lst ps) ∧ M2 l2 = some (.lst qs) ∧ ps.length + qs.length ≤ 100000 ∧ Q (L (ps ++ qs)) (delM (delM M2 l1) l2)) : DE X (.BinOp a .Add b pos) ρ M Q := by
  refine de_bin op_cat (h.imp fun d1 M1 h1 => h1.imp fun d2 M2 h2 => ?_)
  obtain ⟨l1, l2, ps, qs, rfl, rfl, m1, m2, hl, q⟩ := h2
  intro F H v1 v2 x1 x2 w R k
  cases (show v1 = V.ref l1 from x1)
  cases (show v2 = V.ref l2 from x2)
  obtain ⟨-, vs, e1, t1⟩ := w.mem l1 _ m1
  obtain ⟨-, us, e2, t2⟩ := w.mem l2 _ m2
  refine ⟨l1, l2, vs, us, rfl, rfl, e1, e2, by rw [dps_len t1, dps_len t2]; exact small_line hl, fun r hr => ?_⟩
  obtain ⟨s3, w3⟩ := ((w.forget l1).forget l2).laid (o := .lst (vs ++ us)) hr
  exact k _ _ _ _ _ q s3 w3 (.lst (SqL.of upd_same) (dps_mono s3 _ _ (dps_append t1 t2)))
theorem two_gone {M : Mem} {a b : Addr} {x y : MD} (ha : M a = none) (hb : updM M a x b = none) : delM (delM (updM (updM M a x) b y) a) b = M := by
  have ne : b ≠ a := fun z => by rw [z, updM_same] at hb; cases hb
  have hb' : M b = none := by rwa [updM_ne ne] at hb
  funext q
  by_cases h1 : q = b
  · rw [h1, delM_same, hb']
  · rw [delM_ne h1]
    by_cases h2 : q = a
    · rw [h2, delM_same, ha]
    · rw [delM_ne h2, updM_ne h1, updM_ne h2]
/-- == and != of truth values -/
theorem cB_ne : OpR X (compareOp .NotEq) (fun x y H Q => ∃ i j : Bool, x = .bl i ∧ y = .bl j ∧ Q (.bl (!decide (i = j))) H) := by
  intro pins s σ H x y v u Q I rx ry h
  obtain ⟨i, j, rfl, rfl, q⟩ := h
  refine op_ne pins s σ H _ _ v u Q I rx ry ⟨rfl, ?_⟩
  rw [show decide (V.bl i = V.bl j) = decide (i = j) by cases i <;> cases j <;> rfl]
  exact q
theorem cB_eq : OpR X (compareOp .Eq) (fun x y H Q => ∃ i j : Bool, x = .bl i ∧ y = .bl j ∧ Q (.bl (decide (i = j))) H) := by
  intro pins s σ H x y v u Q I rx ry h
  obtain ⟨i, j, rfl, rfl, q⟩ := h
  refine op_eq pins s σ H _ _ v u Q I rx ry ⟨rfl, ?_⟩
  rw [show decide (V.bl i = V.bl j) = decide (i = j) by cases i <;> cases j <;> rfl]
  exact q
theorem dt_neB (h : DE X a ρ M fun d1 M1 => DE X b ρ M1 fun d2 M2 => ∃ i j, d1 = B i ∧ d2 = B j ∧ QT (!decide (i = j)) M2) : DT X (.Compare a [.NotEq] [b] pos) ρ M QT := by
  refine dt_cmp cB_ne (h.imp fun d1 M1 h1 => h1.imp fun d2 M2 h2 => ?_) (nomark _)
  obtain ⟨i, j, rfl, rfl, q⟩ := h2
  intro F H v1 v2 x1 x2 w R k
  cases x1
  cases x2
  exact ⟨i, j, rfl, rfl, k _ _ F M2 H ⟨_, rfl, q⟩ (Same.refl F) w (.bl _)⟩
theorem de_eqB (h : DE X a ρ M fun d1 M1 => DE X b ρ M1 fun d2 M2 => ∃ i j, d1 = B i ∧ d2 = B j ∧ Q (B (decide (i = j))) M2) : DE X (.Compare a [.Eq] [b] pos) ρ M Q := by
  refine de_cmp cB_eq (h.imp fun d1 M1 h1 => h1.imp fun d2 M2 h2 => ?_) (nomark _)
  obtain ⟨i, j, rfl, rfl, q⟩ := h2
  intro F H v1 v2 x1 x2 w R k
  cases x1
  cases x2
  exact ⟨i, j, rfl, rfl, k _ _ F M2 H q (Same.refl F) w (.bl _)⟩
end
end DL
/-! ### lists of the memory that are read in a comprehension, insert -/
namespace DL
open PySem PySem.Spec L2
def pinM (vs : List V) (ps : List PyData) : MD := .rawK (.lst vs) (List.zip vs ps)
theorem dps_zip {K : PySem.W.Frag} {F : Hp} : ∀ {vs : List V} {ps : List PyData}, DpAll K F vs ps → ∀ x ∈ List.zip vs ps, Dp K F x.1 x.2
  | _, _, .nil, x, hx => by cases hx
  | _, _, .cons h t, x, hx => by
    rcases List.mem_cons.mp hx with z | z
    · rw [z]; exact h
    · exact dps_zip t x z
theorem zip_dps {K : PySem.W.Frag} {F : Hp} : ∀ {vs : List V} {ps : List PyData}, vs.length = ps.length → (∀ x ∈ List.zip vs ps, Dp K F x.1 x.2) → DpAll K F vs ps
  | [], [], _, _ => .nil
  | [], _ :: _, h, _ => by cases h
  | _ :: _, [], h, _ => by cases h
  | v :: vs, p :: ps, h, hx => .cons (hx (v, p) List.mem_cons_self) (zip_dps (Nat.succ.inj h) fun x m => hx x (List.mem_cons_of_mem _ m))
section
variable {X : Cx} {o a b iter elt tg e : Expr} {ifs : List Expr} {scope : Scope} {es : List Expr} {sts : List Stmt} {pos p2 apos : Pos} {ρ : Ev} {M : Mem} {Q : QE} {D : DEnds}
theorem WD.same {K : PySem.W.Frag} {F H : Hp} {M : Mem} {l : Addr} {m m' : MD} (w : WD K F M H) (hl : M l = some m) (x : MdOk K F (H l) m') : WD K F (updM M l m') H := by
  refine ⟨w.ext, fun a n e => ?_⟩
  by_cases q : a = l
  · subst q
    rw [updM_same] at e
    cases e
    exact ⟨(w.mem a _ hl).1, x⟩
  · rw [updM_ne q] at e
    exact w.mem a n e
theorem dss_pin (l : Addr) {ps : List PyData} (hl : M l = some (.lst ps)) (h : ∀ vs : List V, vs.length = ps.length → DSs X sts ρ (updM M l (pinM vs ps)) D) : DSs X sts ρ M D := fun σ H F ho hw R k => by
  obtain ⟨_, vs, e, ht⟩ := hw.mem l _ hl
  exact h vs (dps_len ht) σ H F ho (hw.same hl ⟨e, dps_zip ht⟩) R k
theorem dss_unpin (l : Addr) {vs : List V} {ps : List PyData} (hl : M l = some (pinM vs ps)) (hn : vs.length = ps.length) (h : DSs X sts ρ (updM M l (.lst ps)) D) : DSs X sts ρ M D := fun σ H F ho hw R k => by
  obtain ⟨_, e, hx⟩ := hw.mem l _ hl
  exact h σ H F ho (hw.same hl ⟨vs, e, zip_dps hn hx⟩) R k
/-- [elt for tg in xs if ..], xs a pinned list -/
theorem de_lcP (t : Tgt) (own : List (Str × Nat)) (N : List Str) (sc : Scope) (hN : X.N.Nodup) (ok : blkC N sc scope own = true) (hg : Blk X scope fun X' => PG X' tg (t.g X.K)) (ht : ∀ j ∈ t.slots, j ∈ own.map (·.2))
    (h : DE X iter ρ M fun d M1 => ∃ (l : Addr) (vs : List V) (ps : List PyData) (out : PyData → Option PyData), d = .o l ∧ M1 l = some (pinM vs ps) ∧ vs.length = ps.length ∧ ps.length ≤ 50000 ∧ (∀ p ∈ ps, Gives X scope ifs elt t (own.map (·.2)) ρ M1 p (out p)) ∧ Q (L (ps.filterMap out)) M1)
    (h1 : X.N = N := by rfl) (h2 : X.env.scope = sc := by rfl) (hc : X.calm = true := by rfl) (hs : ∀ x, foldedSetIterable iter X.env x = pure x := by intro _; rfl) : DE X (.ListComp elt [⟨tg, iter, ifs, 0⟩] scope pos) ρ M Q := fun σ H F ho hw R k => by
  refine toE (pe_lc (te := teB X scope elt) (tt := ttB X scope ifs) hc hN (pi_list sE) (blkOk_by (by rw [h1, h2]; exact ok)) hg (fun s H C cl fp => ⟨fun pins s' _ _ _ I h => h s H C cl fp pins s' I⟩) (fun s H C cl fp => ⟨fun pins s' _ _ _ I h => h s H C cl fp pins s' I⟩) hs) ?_
  refine h σ H F ho hw _ fun v d F1 M1 H1 q s1 w1 x1 => ?_
  obtain ⟨l, vs, ps, out, rfl, hl, hn, hz, gv, q⟩ := q
  cases (show v = V.ref l from x1)
  obtain ⟨hF, hH, hx⟩ := w1.mem l _ hl
  refine ⟨l, rfl, ⟨vs, SqL.of hH⟩, ?_⟩
  intro Dl hD
  have hM := (w1.fresh hD).2
  have ne : l ≠ Dl := fun z => by rw [z, hM] at hl; cases hl
  refine lc_it (walk_list (xs := vs)) (fun i H' => LcW X.K F1 M1 Dl (upto ps out i) H') ⟨F1, Same.refl F1, w1.new hD ⟨_, rfl, .nil⟩⟩ (fun i H' _ w => ?_) (fun i x H2 H3 hi w hy => ?_) fun H' w => ?_
  · obtain ⟨F2, s2, w2⟩ := w
    exact SqL.of (w2.mem l (pinM vs ps) (by rw [updM_ne ne]; exact hl)).2.1
  · obtain ⟨F2, s2, w2⟩ := w
    obtain ⟨rfl, hy⟩ := hy
    have hi' : i < ps.length := by omega
    have hv : Dp X.K F1 x ps[i] := by
      refine hx (x, ps[i]) (List.mem_iff_getElem?.mpr ⟨i, ?_⟩)
      rw [List.getElem?_zip_eq_some]
      exact ⟨hy, List.getElem?_eq_getElem hi'⟩
    exact lc_turnI ht (ho.mono s1) hM (gv ps[i] (List.getElem_mem hi')) s2 w2 (dp_mono s2 _ _ hv) (Nat.lt_of_le_of_lt (upto_len _ _ _) (by omega)) (upto_succ (List.getElem?_eq_getElem hi'))
  · rw [hn] at w
    exact lc_end s1 hM w q k
/-- xs.insert(i, e) -/
theorem de_insert (h : DE X o ρ M fun d M1 => ∃ l ps0, d = .o l ∧ M1 l = some (.lst ps0) ∧ DA X (a :: es) ρ M1 fun ds M2 => ∃ (ps : List PyData) (i : Nat) (p : PyData), M2 l = some (.lst ps) ∧ ds = [I (i : Int), .d p] ∧ ps.length ≤ 100000 ∧ i ≤ ps.length ∧ Q N0 (updM M2 l (.lst (ps.take i ++ p :: ps.drop i))))
    (hbase : attributeBase o "insert" X.env (eval o X.env) = eval o X.env := by rfl)
    (hfew : ((backTo pos (starEach (a :: es) X.env)).all (fun x => !x.1) && (backToKw pos (keywordEach [] X.env)).all (fun x => x.1.isSome)
      && decide ((a :: es).length + ([] : List Keyword).length + (if ([] : List Keyword).isEmpty then 0 else 1) < 30)) = true := by rfl)
    (hline : (apos.endLine == pos.line) = true := by rfl) (hs : starEach (a :: es) X.env = (false, eval a X.env) :: starEach es X.env := by rfl) (hplain : (backTo pos (starEach es X.env)).any (·.1) = false := by rfl) :
    DE X (.Call (.Attribute o "insert" apos) (a :: es) [] pos) ρ M Q := fun σ H F ho hw R k => by
  refine toE (pe_bm PySem.F.plainAttrs_list PySem.F.slot_list_insert PySem.F.type_list_insert mt_insert sE sA hbase hfew hline hs hplain) ?_
  refine h σ H F ho hw _ fun v1 d1 F1 M1 H1 q1 s1 w1 x1 => ?_
  obtain ⟨l, ps0, rfl, hl0, q1⟩ := q1
  cases (show v1 = V.ref l from x1)
  obtain ⟨_, vs0, e0, _⟩ := w1.mem l _ hl0
  refine ⟨.inl ⟨rfl, _, SqL.of e0⟩, ?_⟩
  refine q1 σ H1 F1 (ho.mono s1) w1 _ fun us ds F2 M2 H2 q2 s2 w2 x2 => ?_
  obtain ⟨ps, i, p, hl, rfl, hz, hi, q⟩ := q2
  obtain ⟨v, u, rfl, y1, y2⟩ := evs2 x2
  cases y1
  obtain ⟨hF, vs, e, ht⟩ := w2.mem l _ hl
  have hvl := dps_len ht
  refine ⟨l, vs, i, u, rfl, rfl, e, by rw [hvl]; exact Nat.lt_of_le_of_lt hz (by decide), by omega, by omega, ?_⟩
  rw [show ps.take i ++ p :: ps.drop i = ps.take i ++ [p] ++ ps.drop i by simp] at q
  rw [Int.toNat_natCast]
  exact k _ _ F2 _ _ q (s1.trans s2) (w2.put hl ⟨_, rfl, dps_append (dps_append (dps_take i ht) (.cons y2 .nil)) (dps_drop i ht)⟩) .non
end
end DL
/-! ### sorted(list of pairs) -/
namespace DL
open PySem PySem.Spec L2
theorem isPair_inj {h : Heap} {v : Value} {a b c d : Int} (x : Srt.IsPair h v a b) (y : Srt.IsPair h v c d) : (a, b) = (c, d) := by
  obtain ⟨t, o, t1, t2, n, e, ho, hc, hd⟩ := x
  obtain ⟨t', o', t1', t2', n', e', ho', hc', hd'⟩ := y
  rw [e] at e'
  cases e'
  rw [ho] at ho'
  cases ho'
  rw [hd] at hd'
  injection hd' with q _
  simp at q
  rw [q.1.1, q.2.1]
theorem pair_ofV {X : Cx} {pins : List (Addr × Obj)} {σ : St} {H : Hp} {s : Shared} (I : Inv X pins σ H s) {x : V} {u : Value} {t : Int × Int} (h : Dp X.K H x (pairD t)) (r : RelV x u) : Srt.IsPair s.heap u t.1 t.2 := by
  cases h with
  | tup hs ht =>
    obtain rfl := (show u = Value.ref _ from r)
    exact pair_of I (t := t) (.tup hs ht)
open Classical in
noncomputable def kOf (h : Heap) (u : Value) : Int × Int := if q : ∃ p : Int × Int, Srt.IsPair h u p.1 p.2 then q.choose else (0, 0)
theorem kOf_eq {h : Heap} {u : Value} {t : Int × Int} (x : Srt.IsPair h u t.1 t.2) : kOf h u = t := by
  have q : ∃ p : Int × Int, Srt.IsPair h u p.1 p.2 := ⟨t, x⟩
  unfold kOf
  rw [dif_pos q]
  exact isPair_inj q.choose_spec x
def rSortD (K : PySem.W.Frag) : List V → Hp → VK → Prop := fun vs H Q => ∃ (a : Addr) (xs : List V) (ts : List (Int × Int)), vs = [V.ref a] ∧ SqL K H a xs ∧ DpAll K H xs (ts.map pairD) ∧
  ∀ (zs : List (V × (Int × Int))) p, (zs.map (·.2)).Pairwise (fun t u => SrtO.lexB u t = false) → zs.Perm (xs.zip ts) → H p = none → Q (.ref p) (upd H p (.lst (zs.map (·.1))))
theorem dps_zs {K : PySem.W.Frag} {F : Hp} {xs : List V} {ts : List (Int × Int)} : ∀ {zs : List (V × (Int × Int))}, (∀ z ∈ zs, Dp K F z.1 (pairD z.2)) → DpAll K F (zs.map (·.1)) ((zs.map (·.2)).map pairD)
  | [], _ => .nil
  | z :: zs, h => .cons (h z List.mem_cons_self) (dps_zs (xs := xs) (ts := ts) fun x hx => h x (List.mem_cons_of_mem _ hx))
theorem dps_zipP {K : PySem.W.Frag} {F : Hp} : ∀ {xs : List V} {ts : List (Int × Int)}, DpAll K F xs (ts.map pairD) → (∀ z ∈ xs.zip ts, Dp K F z.1 (pairD z.2)) ∧ (xs.zip ts).map (·.2) = ts
  | [], [], _ => ⟨fun z hz => (by cases hz), rfl⟩
  | x :: xs, [], d => (by cases d)
  | [], t :: ts, d => (by cases d)
  | x :: xs, t :: ts, d => by
    cases d with
    | cons h r =>
      obtain ⟨i1, i2⟩ := dps_zipP r
      refine ⟨fun z hz => ?_, by rw [List.zip_cons_cons, List.map_cons, i2]⟩
      rcases List.mem_cons.mp hz with q | q
      · rw [q]; exact h
      · exact i1 z q
theorem dps_zipV {X : Cx} {pins : List (Addr × Obj)} {σ : St} {H : Hp} {s : Shared} (I : Inv X pins σ H s) : ∀ {xs : List V} {ts : List (Int × Int)} {its : List Value}, DpAll X.K H xs (ts.map pairD) → Vals xs its → (its.map fun v => (backV v, kOf s.heap v)) = xs.zip ts ∧ ∀ v ∈ its, Srt.IsPair s.heap v (kOf s.heap v).1 (kOf s.heap v).2 ∧ Dp X.K H (backV v) (pairD (kOf s.heap v)) ∧ ∃ b, v = Value.ref b
  | xs, ts, its, d, r => by
    induction r generalizing ts with
    | nil =>
      cases ts with
      | nil => exact ⟨rfl, fun v hv => by cases hv⟩
      | cons _ _ => cases d
    | @cons x u xs its rh rt ih =>
      cases ts with
      | nil => cases d
      | cons t ts =>
        cases d with
        | cons dh dt =>
          have ip := pair_ofV I dh rh
          have ek := kOf_eq ip
          obtain ⟨i1, i2⟩ := ih ts dt
          obtain ⟨b, rfl⟩ : ∃ b, u = Value.ref b := by
            obtain ⟨b, _, _, _, _, e, _⟩ := ip
            exact ⟨b, e⟩
          have ex : x = V.ref b := by
            cases dh with
            | tup hs ht =>
              have e := (show Value.ref b = Value.ref _ from rh)
              cases e
              rfl
          refine ⟨by rw [List.map_cons, ek, i1, ex]; rfl, fun v hv => ?_⟩
          rcases List.mem_cons.mp hv with z | z
          · subst z
            rw [ek]
            exact ⟨ip, by rw [ex] at dh; exact dh, b, rfl⟩
          · exact i2 v z
theorem cr_sortD {X : Cx} : CallR X (.builtin "sorted") (rSortD X.K) := by
  intro pins s σ H vs us Q I r h
  obtain ⟨a, xs, ts, rfl, hs, hd0, q⟩ := h
  obtain ⟨its, rv, hl, hz⟩ := I.list hs
  rw [Vals.ref1 r]
  obtain ⟨em, hm⟩ := dps_zipV I hd0 rv
  refine SrtO.sorted_pairsO (k := kOf s.heap) hl.isList (by rw [← rv.length]; exact hz) (fun v hv => (hm v hv).1) fun h' d out h1 h2 kp hd hn => ?_
  have h3 : ∀ u ∈ out, ∃ a, u = Value.ref a := fun u hu => (hm u (h2.perm.mem_iff.mp hu)).2.2
  obtain ⟨n, hn⟩ := hn
  have perm := h2.perm
  have fin := q (out.map fun v => (backV v, kOf s.heap v)) d ?_ ?_ (I.hok.fresh hd)
  · rw [List.map_map] at fin
    refine ⟨.ref d, upd H d (.lst (out.map backV)), I.laid (t' := s.toks) kp hd ⟨?_, out, n, vals_back h3, hn⟩, rfl, fin⟩
    rw [List.length_map, perm.length_eq, ← rv.length]
    exact hz
  · rw [List.map_map]
    exact List.pairwise_map.mpr h1
  · rw [← em]
    exact perm.map _
section
variable {X : Cx} {e : Expr} {es : List Expr} {pos p : Pos} {ρ : Ev} {M : Mem} {Q : QE}
theorem de_sortP (h : DA X (e :: es) ρ M fun ds M1 => ∃ ts : List (Int × Int), ds = [L (ts.map pairD)] ∧ ∀ us : List (Int × Int), us.Pairwise (fun t u => SrtO.lexB u t = false) → us.Perm ts → Q (L (us.map pairD)) M1)
    (hm : X.mg "sorted" = none) (hg : Gl X "sorted" := by rfl)
    (he : starEach (e :: es) X.env = (false, eval e X.env) :: starEach es X.env := by rfl) (hpl : (backTo pos (starEach es X.env)).any (·.1) = false := by rfl) : DE X (.Call (.Name "sorted" p) (e :: es) [] pos) ρ M Q := by
  refine de_blt cr_sortD (h.imp fun ds M1 q => ?_) hm (by decide +kernel) hg (by decide) (by decide) he hpl
  obtain ⟨ts, rfl, q⟩ := q
  intro F H vs x w R k
  obtain ⟨v, rfl, x1⟩ := evs1 x
  cases x1 with
  | lst hs ht =>
    obtain ⟨z1, z2⟩ := dps_zipP ht
    refine ⟨_, _, ts, rfl, sqL_mono w.ext hs, dps_mono w.ext _ _ ht, fun zs r d1 d2 hr => ?_⟩
    obtain ⟨s2, w2⟩ := w.laid (o := .lst (zs.map (·.1))) hr
    refine k _ _ _ M1 _ (q (zs.map (·.2)) d1 ?_) s2 w2 (.lst (SqL.of upd_same) (dps_mono s2 _ _ (dps_zs (xs := []) (ts := []) fun z hz => z1 z (d2.mem_iff.mp hz))))
    have := d2.map (·.2)
    rwa [z2] at this
end
end DL
/-! ### dicts with int or text keys, filled one by one; % by any number -/
namespace DL
open PySem PySem.Spec L2
theorem valE_put {κ : Type} [DecidableEq κ] (kvs : List (κ × EV)) (k j : κ) (v : EV) : valE (putE kvs k v) j = if j = k then some v else valE kvs j := by
  unfold putE
  split
  · rename_i h
    induction kvs with
    | nil => cases h
    | cons x xs ih =>
      rw [List.map_cons]
      unfold valE
      rw [List.find?_cons, List.find?_cons]
      by_cases e : x.1 = k
      · rw [if_pos e]
        by_cases q : j = k
        · subst q; rw [if_pos rfl, decide_eq_true (show (x.1, v).1 = j from e)]; rfl
        · rw [if_neg q, decide_eq_false (show ¬ (x.1, v).1 = j from fun z => q (z.symm.trans e))]
          have : List.find? (fun kv => decide (kv.1 = j)) (xs.map fun kv => if kv.1 = k then (kv.1, v) else kv) = (List.find? (fun kv => decide (kv.1 = j)) xs).map fun kv => if kv.1 = k then (kv.1, v) else kv := by
            clear ih h
            induction xs with
            | nil => rfl
            | cons y ys ih =>
              rw [List.map_cons, List.find?_cons, List.find?_cons]
              have e1 : (if y.1 = k then (y.1, v) else y).1 = y.1 := by split <;> rfl
              rw [e1]
              by_cases z : y.1 = j
              · rw [decide_eq_true z]; rfl
              · rw [decide_eq_false z]; exact ih
          show Option.map _ (List.find? _ (xs.map _)) = Option.map _ (List.find? _ xs)
          rw [this]
          cases hf : List.find? (fun kv => decide (kv.1 = j)) xs with
          | none => rfl
          | some y =>
            have := List.find?_some hf
            have : y.1 = j := of_decide_eq_true this
            show some (if y.1 = k then (y.1, v) else y).2 = some y.2
            rw [if_neg fun z => q (this.symm.trans z)]
      · rw [if_neg e]
        by_cases q : x.1 = j
        · rw [decide_eq_true q]
          rw [if_neg fun z => e (q.trans z)]
        · rw [decide_eq_false q]
          have h2 : (xs.any fun kv => decide (kv.1 = k)) = true := by
            rw [List.any_cons, decide_eq_false e, Bool.false_or] at h
            exact h
          exact ih h2
  · rename_i h
    unfold valE
    rw [List.find?_append]
    by_cases q : j = k
    · subst q
      rw [if_pos rfl]
      have : List.find? (fun kv => decide (kv.1 = j)) kvs = none := by
        rw [List.find?_eq_none]
        intro x hx z
        exact h (List.any_eq_true.mpr ⟨x, hx, z⟩)
      rw [this]
      rw [Option.none_or, List.find?_cons, decide_eq_true (show (j, v).1 = j from rfl)]; rfl
    · rw [if_neg q]
      have : List.find? (fun kv => decide (kv.1 = j)) [(k, v)] = none := by
        rw [List.find?_cons, decide_eq_false (show ¬ (k, v).1 = j from fun z => q z.symm)]; rfl
      rw [this, Option.or_none]
theorem putE_len {κ : Type} [DecidableEq κ] (kvs : List (κ × EV)) (k : κ) (v : EV) : (putE kvs k v).length ≤ kvs.length + 1 := by
  unfold putE
  split
  · rw [List.length_map]; omega
  · rw [List.length_append]; exact Nat.le_refl _
section
variable {X : Cx} {o i value e a b : Expr} {es : List Expr} {pos pos' p : Pos} {ρ : Ev} {M : Mem} {Q : QE} {D : DEnds} {QT : Bool → Mem → Prop}
theorem de_modN (h : DE X a ρ M fun d1 M1 => DE X b ρ M1 fun d2 M2 => ∃ i j, d1 = I i ∧ d2 = I j ∧ j ≠ 0 ∧ Q (I (i.fmod j)) M2) : DE X (.BinOp a .Mod b pos) ρ M Q := de_iC (C := fun _ j => j ≠ 0) op_modN h
theorem de_dnewK (h : ∀ l, M l = none → Q (.o l) (updM M l (.dk []))) : DE X (.Dict [] [] pos) ρ M Q := fun σ H F ho hw R k => by
  refine toE pe_dnewK fun r hr => ?_
  exact k _ _ F _ _ (h r (hw.fresh hr).2) (Same.refl F) (hw.new hr (m := .dk []) ⟨[], rfl, rfl, .nil⟩) rfl
theorem ds_putK (hu : X.A.units + 64 < cLine) (h : DE X value ρ M fun d0 M0 => DE X o ρ M0 fun d1 M1 => DE X i ρ M1 fun d2 M2 => ∃ (l : Addr) (kvs : List (Key × EV)) (key : Key), d1 = .o l ∧ M2 l = some (.dk kvs) ∧ d2 = keyD key ∧ kvs.length ≤ 100000 ∧ D.nx ρ (updM M2 l (.dk (putE kvs key d0))))
    (hs : swapsWith value (some (.Subscript o i pos')) pos.line X.env = pure false := by rfl) : DS X (.Assign [.Subscript o i pos'] value pos) ρ M D := fun σ H F ho hw R k => by
  refine toS (ps_dput (by omega) sE sE sE hs) ?_
  refine h σ H F ho hw _ fun v0 d0 F0 M0 H0 q0 s0 w0 x0 => ?_
  refine q0 σ H0 F0 (ho.mono s0) w0 _ fun v1 d1 F1 M1 H1 q1 s1 w1 x1 => ?_
  refine q1 σ H1 F1 (ho.mono (s0.trans s1)) w1 _ fun v2 d2 F2 M2 H2 q2 s2 w2 x2 => ?_
  obtain ⟨l, kvs, key, rfl, hl, rfl, hz, q⟩ := q2
  cases (show v1 = V.ref l from x1)
  obtain ⟨hF, vs, e, ht⟩ := w2.mem l _ hl
  rw [keyD_V x2]
  have hsz : kvs.length < sizeLine := Nat.lt_of_le_of_lt hz (Nat.le_of_ble_eq_true rfl)
  refine ⟨l, _, rfl, DPut.k e (by rw [ht.len]; exact hsz), ?_⟩
  exact k.nx _ _ F2 _ _ q ((s0.trans s1).trans s2) (w2.put hl (m' := .dk (putE kvs key d0)) ⟨_, rfl, ht.put ((x0.mono s1).mono s2)⟩) (ho.mono ((s0.trans s1).trans s2))
theorem dt_inK (hu : X.A.units + 64 < cLine) (h : DE X a ρ M fun d1 M1 => DE X b ρ M1 fun d2 M2 => ∃ (l : Addr) (kvs : List (Key × EV)) (key : Key), d1 = keyD key ∧ d2 = .o l ∧ M2 l = some (.dk kvs) ∧ QT (valE kvs key).isSome M2) (hm : behindInMarks .In b = false := by first | exact nobehind _ (by decide) (by decide) | rfl) : DT X (.Compare a [.In] [b] pos) ρ M QT := fun σ H F ho hw R k => by
  refine toT (pt_cmp (pc_din (by omega) sE sE) hm) ?_
  refine h σ H F ho hw _ fun v1 d1 F1 M1 H1 q1 s1 w1 x1 => ?_
  refine q1 σ H1 F1 (ho.mono s1) w1 _ fun v2 d2 F2 M2 H2 q2 s2 w2 x2 => ?_
  obtain ⟨l, kvs, key, rfl, rfl, hl, q⟩ := q2
  cases (show v2 = V.ref l from x2)
  obtain ⟨hF, vs, e, ht⟩ := w2.mem l _ hl
  rw [keyD_V x1]
  refine ⟨l, _, rfl, DGet.k e, _, rfl, ?_⟩
  have es : (valV vs key).isSome = (valE kvs key).isSome := by
    cases hv : valE kvs key with
    | none => rw [(ht.val (k := key)).2.1 hv]; rfl
    | some z =>
      obtain ⟨v, e1, _⟩ := (ht.val (k := key)).1 z hv
      rw [e1]; rfl
  rw [es]
  exact k _ F2 M2 H2 q (s1.trans s2) w2
end
end DL
namespace BP
/-- n / d -/
def rq (n d : Int) : Rat := (n : Rat) / (d : Rat)
theorem rq_div (n d : Int) : rq n d = Rat.divInt n d := (Rat.divInt_eq_div n d).symm
def Fit (i : Int) : Prop := i.natAbs < 2 ^ 2000
def Fit4 (i : Int) : Prop := i.natAbs < 2 ^ 8000
theorem fit_small {i : Int} (h1 : -1000000000000000000 < i) (h2 : i < 1000000000000000000) : Fit i := by
  unfold Fit
  exact Nat.lt_of_lt_of_le (by omega : i.natAbs < 1000000000000000000) (by decide +kernel)
theorem Fit.f4 {i : Int} (h : Fit i) : Fit4 i := Nat.lt_trans h (by decide +kernel)
theorem Fit.mul {i j : Int} (h : Fit i) (g : Fit j) : Fit4 (i * j) := by
  unfold Fit4
  rw [Int.natAbs_mul]
  exact Nat.lt_of_lt_of_le (Nat.mul_lt_mul'' h g) (by decide +kernel)
theorem log_of {n k : Nat} (h : n < 2 ^ k) (hk : 0 < k) : n.log2 < k := by
  by_cases h0 : n = 0
  · subst h0; simpa using hk
  · exact (Nat.log2_lt h0).mpr h
/-! ### lowest terms -/
theorem low_pos {n d : Int} (hd : 0 < d) : n / (Int.gcd n d : Int) = (rq n d).num ∧ d / (Int.gcd n d : Int) = ((rq n d).den : Int) := by
  have h1 := Rat.num_divInt n d
  have h2 := Rat.den_divInt n d
  rw [← rq_div, Int.sign_eq_one_of_pos hd, Int.one_mul, Int.gcd_comm] at h1
  rw [← rq_div, if_neg (by omega), Int.gcd_comm] at h2
  rw [h1, h2]
  refine ⟨rfl, ?_⟩
  rw [Int.natCast_ediv]
  congr 1
  omega
theorem fdiv_neg_gcd {n : Int} {g : Nat} (hg : 0 < g) (h : (g : Int) ∣ n) : n.fdiv (-(g : Int)) = (-n) / (g : Int) := by
  obtain ⟨k, rfl⟩ := h
  have hg' : (g : Int) ≠ 0 := by omega
  have e1 : (g : Int) * k = (-k) * (-(g : Int)) := by rw [Int.neg_mul_neg, Int.mul_comm]
  have e2 : -((g : Int) * k) = (-k) * (g : Int) := by rw [Int.neg_mul, Int.mul_comm]
  rw [e2, Int.mul_ediv_cancel _ hg']
  rw [e1, Int.mul_fdiv_cancel _ (by omega)]
theorem low_neg {n d : Int} (hd : d < 0) : n.fdiv (-(Int.gcd n d : Int)) = (rq n d).num ∧ d.fdiv (-(Int.gcd n d : Int)) = ((rq n d).den : Int) := by
  have h1 := Rat.num_divInt n d
  have h2 := Rat.den_divInt n d
  rw [← rq_div, Int.sign_eq_neg_one_of_neg hd, Int.gcd_comm] at h1
  rw [← rq_div, if_neg (by omega), Int.gcd_comm] at h2
  have hg : 0 < Int.gcd n d := Int.gcd_pos_iff.mpr (.inr (by omega))
  rw [h1, h2, fdiv_neg_gcd hg (Int.gcd_dvd_left ..), fdiv_neg_gcd hg (Int.gcd_dvd_right ..)]
  refine ⟨by congr 1; omega, ?_⟩
  rw [Int.natCast_ediv]
  congr 1
  omega
/-! ### folds -/
def foldI (z m : Int) : Int := if z % (2 * m) ≤ m then z % (2 * m) else 2 * m - z % (2 * m)
def foldQ (z : Rat) (m : Int) : Rat := if z - 2 * m * ((z / (2 * m)).floor : Rat) ≤ m then z - 2 * m * ((z / (2 * m)).floor : Rat) else 2 * m - (z - 2 * m * ((z / (2 * m)).floor : Rat))
theorem floor_rq (n : Int) {d : Int} (hd : 0 < d) : (rq n d).floor = n / d := by
  have h0 : (0 : Rat) < d := Rat.intCast_pos.mpr hd
  apply Int.le_antisymm
  · have h := Rat.floor_le (rq n d)
    have h1 : ((rq n d).floor : Rat) * d ≤ n := by
      have := Rat.mul_le_mul_of_nonneg_right h (Rat.le_of_lt h0)
      unfold rq at this ⊢
      rwa [Rat.div_mul_cancel (Rat.ne_of_gt h0)] at this
    have h2 : (rq n d).floor * d ≤ n := by
      rw [← Rat.intCast_mul] at h1
      exact Rat.intCast_le_intCast.mp h1
    exact (Int.le_ediv_iff_mul_le hd).mpr h2
  · rw [Rat.le_floor_iff]
    have h2 : n / d * d ≤ n := Int.ediv_mul_le n (by omega)
    have h1 : (((n / d : Int)) : Rat) * d ≤ n := by
      rw [← Rat.intCast_mul]
      exact Rat.intCast_le_intCast.mpr h2
    unfold rq
    have h3 : (((n / d : Int)) : Rat) * d ≤ (n : Rat) / d * d := by rwa [Rat.div_mul_cancel (Rat.ne_of_gt h0)]
    exact Rat.le_of_mul_le_mul_right h3 h0
theorem foldQ_rq (n : Int) {d m : Int} (hd : 0 < d) (hm : 0 < m) : foldQ (rq n d) m = rq (foldI n (m * d)) d := by
  have h0 : (0 : Rat) < d := Rat.intCast_pos.mpr hd
  have hm0 : (0 : Rat) < m := Rat.intCast_pos.mpr hm
  have e1 : rq n d / (2 * (m : Rat)) = rq n (2 * (m * d)) := by
    unfold rq
    rw [Rat.intCast_mul, Rat.intCast_mul]
    show (n : Rat) / d / (2 * m) = n / (2 * (m * d))
    grind
  have e2 : rq n d - 2 * (m : Rat) * ((n / (2 * (m * d)) : Int) : Rat) = rq (n % (2 * (m * d))) d := by
    have e3 := Int.emod_def n (2 * (m * d))
    unfold rq
    rw [e3, Rat.intCast_sub, Rat.intCast_mul (2 * (m * d)), Rat.intCast_mul 2, Rat.intCast_mul m]
    show (n : Rat) / d - 2 * m * ((n / (2 * (m * d)) : Int) : Rat) = (n - 2 * (m * d) * ((n / (2 * (m * d)) : Int) : Rat)) / d
    grind
  have hmd : 0 < m * d := Int.mul_pos hm hd
  unfold foldQ
  rw [e1, floor_rq n (by omega), e2]
  unfold foldI
  have e4 : rq (n % (2 * (m * d))) d ≤ m ↔ n % (2 * (m * d)) ≤ m * d := by
    unfold rq
    rw [← Rat.intCast_le_intCast, Rat.intCast_mul]
    constructor
    · intro h
      have := Rat.mul_le_mul_of_nonneg_right h (Rat.le_of_lt h0)
      rwa [Rat.div_mul_cancel (Rat.ne_of_gt h0)] at this
    · intro h
      refine Rat.le_of_mul_le_mul_right ?_ h0
      rwa [Rat.div_mul_cancel (Rat.ne_of_gt h0)]
  by_cases h : n % (2 * (m * d)) ≤ m * d
  · rw [if_pos h, if_pos (e4.mpr h)]
  · rw [if_neg h, if_neg (fun z => h (e4.mp z))]
    unfold rq
    rw [Rat.intCast_sub, Rat.intCast_mul 2, Rat.intCast_mul m]
    show 2 * (m : Rat) - _ = (2 * (m * d) - _) / d
    grind
theorem foldI_min {z m : Int} : (if 2 * m - z % (2 * m) < z % (2 * m) then 2 * m - z % (2 * m) else z % (2 * m)) = foldI z m := by
  unfold foldI
  split <;> split <;> omega
def lcmQ (p q : Rat) : Rat := rq (p.num * q.num / (Int.gcd p.num q.num : Int)) (Int.gcd p.den q.den)
end BP
namespace BP
open PySem PySem.Spec L2 DL
def topS (i : Nat) : Stmt := PySem.Challenge.pw_bouncepaths_k21_whole_turned_speeds.main.body.getD i (.Pass ⟨0, 0, 0, 0⟩)
/-- a fraction -/
def fr (q : Rat) : PyData := .tuple [.int q.num, .int q.den]
/-- whether data is an int within bounds -/
def cnt (p : PyData) (lo hi : Int) : Bool := match p with
  | .int i => decide (lo ≤ i) && decide (i ≤ hi)
  | _ => false
theorem cnt_int {p : PyData} {lo hi : Int} (h : cnt p lo hi = true) : ∃ i, p = .int i ∧ lo ≤ i ∧ i ≤ hi := by
  cases p with
  | int i =>
    unfold cnt at h
    simp only [Bool.and_eq_true, decide_eq_true_eq] at h
    exact ⟨i, rfl, h.1, h.2⟩
  | _ => cases h
def cntP (p q : PyData) : Bool := match q with
  | .int w => cnt p 0 w
  | _ => false
def runOk6 (p1 p2 p3 p4 p5 p6 : PyData) : Bool := cnt p1 1 12 && cnt p2 1 12 && cntP p3 p1 && cntP p4 p2 && cnt p5 (-6) 6 && cnt p6 (-6) 6 && !(PyData.eqv (.tuple [p5, p6]) (.tuple [.int 0, .int 0]))
def runOk : PyData → Bool
  | .tuple [p1, p2, p3, p4, p5, p6] => runOk6 p1 p2 p3 p4 p5 p6
  | _ => false
section
variable {P : Program} {w : World} {K : PySem.W.Frag} {mg : Str → Option Value} {base : Heap}
/-! ### common_of -/
def sp_common_of : DSp where
  n := 2
  wp := fun ds M Q => ∃ a b : Int, ds = [I a, I b] ∧ Q (I (Int.gcd a b)) M
  mono := fun h ⟨a, b, e, q⟩ => ⟨a, b, e, h _ _ q⟩
  len := fun ⟨a, b, e, q⟩ => by rw [e]; rfl
theorem gcd_turn (x y : Int) : Int.gcd y (x % y) = Int.gcd x y := by
  rw [Int.emod_def, Int.sub_eq_add_neg, ← Int.mul_neg, Int.gcd_add_mul_left_right, Int.gcd_comm]
abbrev s_common_of : Stmt := topS 12
abbrev nm_common_of : List Str := ["one", "two"]
theorem sc_common_of : FnScope nm_common_of ["one", "two"] (defScope s_common_of) := ⟨rfl, rfl, rfl, by decide +kernel, rfl, by decide +kernel, by decide +kernel⟩
theorem ok_common_of {f : Addr} {fd : FuncData} (Fd : Fun K "common_of" "common_of" s_common_of f fd) (hm : mg "common_of" = some (.ref f)) (hb : Binds K fd ["one", "two"] []) (z_abs : mg "abs" = none) : Def P w K mg base "common_of" 1 sp_common_of := by
  refine def_ok Fd sc_common_of hm hb rfl fun cdv A outer s H E hr ds M Q h => ?_
  obtain ⟨a, b, rfl, q⟩ := h
  -- one, two = (abs(one), abs(two))
  refine dss_cons ?_
  refine ds_par 0 1 sc_common_of.nd ?_
  refine da_cons ?_
  refine de_abs ?_ z_abs
  refine da_cons ?_
  refine de_var 0 rfl ?_  -- one
  refine da_nil ?_
  refine ⟨_, rfl, ?_⟩
  refine da_cons ?_
  refine de_abs ?_ z_abs
  refine da_cons ?_
  refine de_var 1 rfl ?_  -- two
  refine da_nil ?_
  refine ⟨_, rfl, ?_⟩
  refine da_nil ?_
  refine ⟨_, _, rfl, ?_⟩
  -- while two > 0:
  refine dss_cut (fun ρ' M' => ∃ x y : Int, ρ' = [some (I x), some (I y)] ∧ M' = M ∧ x = Int.gcd a b) ?_ ?_
  · refine ds_while (fun m ρ' M' => ∃ x y : Int, ρ' = [some (I x), some (I y)] ∧ M' = M ∧ 0 ≤ x ∧ 0 ≤ y ∧ Int.gcd x y = Int.gcd a b ∧ m = y.toNat) _ ⟨_, _, rfl, rfl, ?_, ?_, ?_, rfl⟩ fun m ρ' M' hW => ?_
    · split <;> omega
    · split <;> omega
    · rw [show (if a < 0 then -a else a) = (a.natAbs : Int) by split <;> omega, show (if b < 0 then -b else b) = (b.natAbs : Int) by split <;> omega]
      simp [Int.gcd]
    · obtain ⟨x, y, rfl, rfl, hx, hy, hg, rfl⟩ := hW
      refine dt_cmpI ci_gt ?_  -- or dt_neD hr.units: two > 0
      refine de_var 1 rfl ?_  -- two
      refine de_int ?_  -- 0
      refine ⟨_, _, rfl, rfl, ?_⟩
      refine ite2 (fun hI => ?_) (fun hI => ?_)
      · have hI : 0 < y := of_decide_eq_true hI
        -- one, two = (two, one % two)
        refine dss_cons ?_
        refine ds_par 0 1 sc_common_of.nd ?_
        refine da_cons ?_
        refine de_var 1 rfl ?_  -- two
        refine da_cons ?_
        refine de_mod ?_
        refine de_var 0 rfl ?_  -- one
        refine de_var 1 rfl ?_  -- two
        refine ⟨_, _, rfl, rfl, hI, ?_⟩  -- one % two
        refine da_nil ?_
        refine ⟨_, _, rfl, ?_⟩
        refine dss_nil ?_
        have h1 := Int.emod_nonneg x (show y ≠ 0 by omega)
        have h2 := Int.emod_lt_of_pos x hI
        exact ⟨(x % y).toNat, by omega, y, x % y, rfl, rfl, hy, h1, by rw [gcd_turn, hg], rfl⟩
      · have hI : ¬ 0 < y := fun z => hI (decide_eq_true z)
        have e : y = 0 := by omega
        subst e
        refine ⟨x, 0, rfl, rfl, ?_⟩
        rw [← hg, Int.gcd_zero_right]
        omega
  rintro ρ' M' ⟨x, y, rfl, rfl, rfl⟩
  -- return one
  refine dss_cons ?_
  refine ds_ret ?_
  refine de_var 0 rfl ?_  -- one
  exact q
/-! ### is_count -/
def sp_is_count : DSp where
  n := 3
  wp := fun ds M Q => ∃ (p : PyData) (lo hi : Int), ds = [.d p, I lo, I hi] ∧ Q (B (cnt p lo hi)) M
  mono := fun h ⟨a, b, c, e, q⟩ => ⟨a, b, c, e, h _ _ q⟩
  len := fun ⟨a, b, c, e, q⟩ => by rw [e]; rfl
abbrev s_is_count : Stmt := topS 7
abbrev nm_is_count : List Str := ["value", "least", "most"]
theorem sc_is_count : FnScope nm_is_count ["value", "least", "most"] (defScope s_is_count) := ⟨rfl, rfl, rfl, by decide +kernel, rfl, by decide +kernel, by decide +kernel⟩
theorem ok_is_count {f : Addr} {fd : FuncData} (Fd : Fun K "is_count" "is_count" s_is_count f fd) (hm : mg "is_count" = some (.ref f)) (hb : Binds K fd ["value", "least", "most"] []) (z_isinstance : mg "isinstance" = none) (z_int : mg "int" = none) (z_bool : mg "bool" = none) : Def P w K mg base "is_count" 1 sp_is_count := by
  refine def_ok Fd sc_is_count hm hb rfl fun cdv A outer s H E hr ds M Q h => ?_
  obtain ⟨p, lo, hi, rfl, q⟩ := h
  refine dss_cons (ds_ret (de_and ?_))
  refine de_isi (Tn := "int") (de_var 0 rfl ⟨_, rfl, _, rfl, ?_⟩) z_isinstance z_int (by decide +kernel) (by decide +kernel)
  rw [isTy_int]
  have fin : ∀ b, cnt p lo hi = b → Q (B b) M := fun b e => by rw [← e]; exact q
  cases p with
  | int i =>
    refine de_and (de_not (de_isi (Tn := "bool") (de_var 0 rfl ⟨_, rfl, _, rfl, ?_⟩) z_isinstance z_bool (by decide +kernel) (by decide +kernel)))
    rw [isTy_bool]
    refine ⟨_, rfl, ?_⟩
    refine de_one (de_chain ci_le ci_le (de_var 1 rfl (de_var 0 rfl ⟨_, _, rfl, rfl, ite2 (fun hC => ?_) (fun hC => ?_)⟩)))
    · refine de_var 2 rfl ⟨_, rfl, fin _ ?_⟩
      show (decide (lo ≤ i) && decide (i ≤ hi)) = _
      rw [hC]
      rfl
    · refine fin _ ?_
      show (decide (lo ≤ i) && decide (i ≤ hi)) = _
      rw [Bool.eq_false_iff.mpr hC]
      rfl
  | bool b =>
    refine de_and (de_not (de_isi (Tn := "bool") (de_var 0 rfl ⟨_, rfl, _, rfl, ?_⟩) z_isinstance z_bool (by decide +kernel) (by decide +kernel)))
    rw [isTy_bool]
    exact ⟨_, rfl, fin _ rfl⟩
  | _ => exact fin _ rfl
/-! ### is_run -/
def sp_is_run : DSp where
  n := 1
  wp := fun ds M Q => ∃ (p : PyData), ds = [.d p] ∧ SeqAt.shaped p = true ∧ Q (B (runOk p)) M
  mono := fun h ⟨a, e, s, q⟩ => ⟨a, e, s, h _ _ q⟩
  len := fun ⟨a, e, s, q⟩ => by rw [e]; rfl
abbrev s_is_run : Stmt := topS 8
abbrev nm_is_run : List Str := ["value", "w", "h", "x", "y", "a", "b"]
theorem sc_is_run : FnScope nm_is_run ["value"] (defScope s_is_run) := ⟨rfl, rfl, rfl, by decide +kernel, rfl, by decide +kernel, by decide +kernel⟩
theorem ok_is_run {f : Addr} {fd : FuncData} (Fd : Fun K "is_run" "is_run" s_is_run f fd) (hm : mg "is_run" = some (.ref f)) (hb : Binds K fd ["value"] []) (z_isinstance : mg "isinstance" = none) (z_tuple : mg "tuple" = none) (z_len : mg "len" = none)
    {t1 t2 : Tok} (c_SIDE : mg "SIDE" = some (.int 12 t1)) (c_SPEED : mg "SPEED" = some (.int 6 t2)) (d_is_count : Def P w K mg base "is_count" 1 sp_is_count) : Def P w K mg base "is_run" 2 sp_is_run := by
  refine def_ok Fd sc_is_run hm hb rfl fun cdv A outer s H E hr ds M Q h => ?_
  obtain ⟨p, rfl, hs, q⟩ := h
  have fin : ∀ b, runOk p = b → Q (B b) M := fun b e => by rw [← e]; exact q
  -- if not isinstance(value, tuple) or len(value) != 6:
  refine dss_cons (ds_if (DW.dt (dw_or (dt_not (DT.of_val (de_isi (Tn := "tuple") (de_var 0 rfl ⟨_, rfl, _, rfl, ?_⟩) z_isinstance z_tuple (by decide +kernel) (by decide +kernel)))))))
  rw [isTy_tuple]
  cases p with
  | tuple ps =>
    refine dw_or1 (dt_cmpI ci_ne (de_len (da_cons (de_var 0 rfl (da_nil ⟨_, _, rfl, rfl, ?_⟩))) z_len))
    refine de_int ⟨_, _, rfl, rfl, ite2 (fun hI => ?_) (fun hI => ?_)⟩
    · have hl : ps.length ≠ 6 := fun e => by rw [e] at hI; cases hI
      refine dss_cons (ds_ret (de_bl (fin _ ?_)))
      match ps, hl with
      | [], _ => rfl
      | [_], _ => rfl
      | [_, _], _ => rfl
      | [_, _, _], _ => rfl
      | [_, _, _, _], _ => rfl
      | [_, _, _, _, _], _ => rfl
      | [_, _, _, _, _, _], h => exact absurd rfl h
      | _ :: _ :: _ :: _ :: _ :: _ :: _ :: _, _ => rfl
    · have hl : ps.length = 6 := by
        by_cases e : ps.length = 6
        · exact e
        · refine absurd ?_ hI
          simp only [Bool.not_eq_true', decide_eq_false_iff_not]
          omega
      obtain ⟨p1, p2, p3, p4, p5, p6, rfl⟩ : ∃ p1 p2 p3 p4 p5 p6, ps = [p1, p2, p3, p4, p5, p6] := by
        match ps, hl with
        | [p1, p2, p3, p4, p5, p6], _ => exact ⟨_, _, _, _, _, _, rfl⟩
      refine dss_nil ?_
      -- w, h, x, y, a, b = value
      refine dss_cons (ds_asg (de_var 0 rfl (dg_tup rfl (dgs_cons (dg_name 1 (dgs_cons (dg_name 2 (dgs_cons (dg_name 3 (dgs_cons (dg_name 4 (dgs_cons (dg_name 5 (dgs_cons (dg_name 6 (dgs_nil ?_) sc_is_run.nd)) sc_is_run.nd)) sc_is_run.nd)) sc_is_run.nd)) sc_is_run.nd)) sc_is_run.nd)) rfl)))
      -- the ifs
      refine dss_cons (ds_if (DW.dt (dw_or (dt_not (DT.of_val (de_call d_is_count hr (da_cons (de_var 1 rfl (da_cons (de_int (da_cons (de_globI c_SIDE (da_nil ⟨_, _, _, rfl, _, rfl, ?_⟩)))))))))))))
      cases h1 : cnt p1 1 12 with
      | false => exact dss_cons (ds_ret (de_bl (fin _ (by simp [runOk, runOk6, h1]))))
      | true =>
      obtain ⟨w', rfl, hw1, hw2⟩ := cnt_int h1
      refine dw_or (dt_not (DT.of_val (de_call d_is_count hr (da_cons (de_var 2 rfl (da_cons (de_int (da_cons (de_globI c_SIDE (da_nil ⟨_, _, _, rfl, _, rfl, ?_⟩))))))))))
      cases h2 : cnt p2 1 12 with
      | false => exact dss_cons (ds_ret (de_bl (fin _ (by simp [runOk, runOk6, h2]))))
      | true =>
      obtain ⟨h', rfl, hh1, hh2⟩ := cnt_int h2
      refine dw_or (dt_not (DT.of_val (de_call d_is_count hr (da_cons (de_var 3 rfl (da_cons (de_int (da_cons (de_var 1 rfl (da_nil ⟨_, _, _, rfl, _, rfl, ?_⟩))))))))))
      cases h3 : cnt p3 0 w' with
      | false => exact dss_cons (ds_ret (de_bl (fin _ (by simp [runOk, runOk6, cntP, h3]))))
      | true =>
      refine dw_or1 (dt_not (DT.of_val (de_call d_is_count hr (da_cons (de_var 4 rfl (da_cons (de_int (da_cons (de_var 2 rfl (da_nil ⟨_, _, _, rfl, _, rfl, ?_⟩))))))))))
      cases h4 : cnt p4 0 h' with
      | false => exact dss_cons (ds_ret (de_bl (fin _ (by simp [runOk, runOk6, cntP, h4]))))
      | true =>
      refine dss_nil ?_
      -- return ..
      refine dss_cons (ds_ret (de_and (de_call d_is_count hr (da_cons (de_var 5 rfl (da_cons (de_neg (de_globI c_SPEED ⟨_, rfl, da_cons (de_globI c_SPEED (da_nil ⟨_, _, _, rfl, _, rfl, ?_⟩))⟩))))))))
      cases h5 : cnt p5 (-6) 6 with
      | false => exact fin _ (by simp [runOk, runOk6, cntP, h5])
      | true =>
      refine de_and (de_call d_is_count hr (da_cons (de_var 6 rfl (da_cons (de_neg (de_globI c_SPEED ⟨_, rfl, da_cons (de_globI c_SPEED (da_nil ⟨_, _, _, rfl, _, rfl, ?_⟩))⟩))))))
      cases h6 : cnt p6 (-6) 6 with
      | false => exact fin _ (by simp [runOk, runOk6, cntP, h6])
      | true =>
      refine de_one (de_neD hr.units ?_)
      refine de_tup (da_cons (de_var 5 rfl (da_cons (de_var 6 rfl (da_nil ⟨[_, _], rfl, rfl, ?_⟩)))))
      refine de_tup (da_cons (de_int (da_cons (de_int (da_nil ⟨[_, _], rfl, rfl, ?_⟩)))))
      obtain ⟨a', rfl, _⟩ := cnt_int h5
      obtain ⟨b', rfl, _⟩ := cnt_int h6
      exact ⟨_, _, rfl, rfl, rfl, rfl, fin _ (by simp [runOk, runOk6, cntP, h1, h2, h3, h4, h5, h6])⟩
  | _ => exact dss_cons (ds_ret (de_bl (fin _ rfl)))
end
/-! ### need_run, need_time: nothing is raised -/
structure Run where
  w : Int
  h : Int
  x : Int
  y : Int
  a : Int
  b : Int
abbrev Run.data (r : Run) : PyData := .tuple [.int r.w, .int r.h, .int r.x, .int r.y, .int r.a, .int r.b]
structure Run.Ok (r : Run) : Prop where
  w1 : 1 ≤ r.w
  w2 : r.w ≤ 12
  h1 : 1 ≤ r.h
  h2 : r.h ≤ 12
  x1 : 0 ≤ r.x
  x2 : r.x ≤ r.w
  y1 : 0 ≤ r.y
  y2 : r.y ≤ r.h
  a1 : -6 ≤ r.a
  a2 : r.a ≤ 6
  b1 : -6 ≤ r.b
  b2 : r.b ≤ 6
  ab : ¬ (r.a = 0 ∧ r.b = 0)
theorem eqv_int (i j : Int) : PyData.eqv (.int i) (.int j) = decide (i = j) := by
  show (i == j) = _
  exact Bool.beq_eq_decide_eq i j
theorem eqv_pair (p q p' q' : PyData) : PyData.eqv (.tuple [p, q]) (.tuple [p', q']) = (PyData.eqv p p' && PyData.eqv q q') := by
  show (PyData.eqv p p' && (PyData.eqv q q' && true)) = _
  rw [Bool.and_true]
theorem Run.Ok.run {r : Run} (k : r.Ok) : runOk r.data = true := by
  obtain ⟨h1, h2, h3, h4, h5, h6, h7, h8, h9, h10, h11, h12, h13⟩ := k
  show runOk6 _ _ _ _ _ _ = true
  unfold runOk6 cntP cnt
  rw [eqv_pair, eqv_int, eqv_int]
  simp only [Bool.and_eq_true, decide_eq_true_eq, Bool.not_eq_true', Bool.and_eq_false_imp, decide_eq_false_iff_not]
  refine ⟨⟨⟨⟨⟨⟨⟨h1, h2⟩, ⟨h3, h4⟩⟩, ⟨h5, h6⟩⟩, ⟨h7, h8⟩⟩, ⟨h9, h10⟩⟩, ⟨h11, h12⟩⟩, fun e1 e2 => h13 ⟨e1, e2⟩⟩
section
variable {P : Program} {w : World} {K : PySem.W.Frag} {mg : Str → Option Value} {base : Heap}
def sp_need_run : DSp where
  n := 1
  wp := fun ds M Q => ∃ r : Run, ds = [.d r.data] ∧ r.Ok ∧ Q N0 M
  mono := fun h ⟨a, e, s, q⟩ => ⟨a, e, s, h _ _ q⟩
  len := fun ⟨a, e, s, q⟩ => by rw [e]; rfl
def sp_need_time : DSp where
  n := 1
  wp := fun ds M Q => ∃ n d : Int, ds = [T [.int n, .int d]] ∧ (0 ≤ n ∧ n ≤ 1000000 ∧ 1 ≤ d ∧ d ≤ 1000) ∧ Q N0 M
  mono := fun h ⟨n, d, e, s, q⟩ => ⟨n, d, e, s, h _ _ q⟩
  len := fun ⟨n, d, e, s, q⟩ => by rw [e]; rfl
abbrev s_need_run : Stmt := topS 9
abbrev nm_need_run : List Str := ["value"]
theorem sc_need_run : FnScope nm_need_run ["value"] (defScope s_need_run) := ⟨rfl, rfl, rfl, by decide +kernel, rfl, by decide +kernel, by decide +kernel⟩
theorem ok_need_run {f : Addr} {fd : FuncData} (Fd : Fun K "need_run" "need_run" s_need_run f fd) (hm : mg "need_run" = some (.ref f)) (hb : Binds K fd ["value"] []) (d_is_run : Def P w K mg base "is_run" 2 sp_is_run) : Def P w K mg base "need_run" 3 sp_need_run := by
  refine def_ok Fd sc_need_run hm hb rfl fun cdv A outer s H E hr ds M Q h => ?_
  obtain ⟨r, rfl, k, q⟩ := h
  refine dss_cons (ds_if (dt_not (DT.of_val (de_call d_is_run hr (da_cons (de_var 0 rfl (da_nil ⟨_, rfl, rfl, _, rfl, ?_⟩)))))))
  rw [k.run]
  exact dss_nil (dss_nil q)
-- no need_time
/-! ### lowest -/
def sp_lowest : DSp where
  n := 2
  wp := fun ds M Q => ∃ n d : Int, ds = [I n, I d] ∧ (d ≠ 0 ∧ -1000000000 < d ∧ Fit4 d) ∧ Q (.d (fr (rq n d))) M
  mono := fun h ⟨n, d, e, s, q⟩ => ⟨n, d, e, s, h _ _ q⟩
  len := fun ⟨n, d, e, s, q⟩ => by rw [e]; rfl
abbrev s_lowest : Stmt := topS 13
abbrev nm_lowest : List Str := ["numerator", "denominator", "common"]
theorem sc_lowest : FnScope nm_lowest ["numerator", "denominator"] (defScope s_lowest) := ⟨rfl, rfl, rfl, by decide +kernel, rfl, by decide +kernel, by decide +kernel⟩
theorem ok_lowest {f : Addr} {fd : FuncData} (Fd : Fun K "lowest" "lowest" s_lowest f fd) (hm : mg "lowest" = some (.ref f)) (hb : Binds K fd ["numerator", "denominator"] []) (d_common_of : Def P w K mg base "common_of" 1 sp_common_of) : Def P w K mg base "lowest" 2 sp_lowest := by
  refine def_ok Fd sc_lowest hm hb rfl fun cdv A outer s H E hr ds M Q h => ?_
  obtain ⟨n, d, rfl, ⟨h0, h1, h2⟩, q⟩ := h
  have hg : 0 < Int.gcd n d := Int.gcd_pos_iff.mpr (.inr h0)
  have hl : Int.gcd n d ≤ d.natAbs := Nat.le_of_dvd (by omega) (Nat.gcd_dvd_right _ _)
  -- common = common_of(numerator, denominator)
  refine dss_cons (ds_set 2 sc_lowest.nd (de_call d_common_of hr (da_cons (de_var 0 rfl (da_cons (de_var 1 rfl (da_nil ⟨_, _, rfl, ?_⟩)))))))
  -- if denominator < 0:
  refine dss_cons (ds_if (dt_cmpI ci_lt (de_var 1 rfl (de_int (⟨_, _, rfl, rfl, ite2 (fun hi => ?_) (fun hi => ?_)⟩)))))
  · have hi : d < 0 := of_decide_eq_true hi
    -- common = -common
    refine dss_cons (ds_set 2 sc_lowest.nd (de_neg (de_var 2 rfl (⟨_, rfl, ?_⟩))))
    refine dss_nil ?_
    have hc : CDivN n (-(Int.gcd n d : Int)) := by
      unfold CDivN
      omega
    refine dss_cons (ds_ret (de_tup (da_cons (de_divN (de_var 0 rfl (de_var 2 rfl (⟨_, _, rfl, rfl, hc, da_cons (de_divN (de_var 1 rfl (de_var 2 rfl (⟨_, _, rfl, rfl, hc, da_nil (⟨[_, _], rfl, rfl, ?_⟩)⟩))))⟩)))))))
    rw [(low_neg hi).1, (low_neg hi).2]
    exact q
  · have hi : 0 < d := by
      have : ¬ d < 0 := fun z => hi (decide_eq_true z)
      omega
    refine dss_nil ?_
    have hc : ∀ m, CDivW m (Int.gcd n d : Int) := fun m => by
      refine ⟨by omega, ?_⟩
      exact Nat.lt_trans (log_of (n := (Int.gcd n d : Int).natAbs) (Nat.lt_of_le_of_lt (by omega) h2) (by decide)) (by decide)
    -- return (numerator // common, denominator // common)
    refine dss_cons (ds_ret (de_tup (da_cons (de_divW (de_var 0 rfl (de_var 2 rfl (⟨_, _, rfl, rfl, hc _, da_cons (de_divW (de_var 1 rfl (de_var 2 rfl (⟨_, _, rfl, rfl, hc _, da_nil (⟨[_, _], rfl, rfl, ?_⟩)⟩))))⟩)))))))
    rw [(low_pos hi).1, (low_pos hi).2]
    exact q
end
/-! ### data that == tells apart as equality does -/
mutual
def pln : PyData → Bool
  | .none => true
  | .bool _ => false
  | .int _ => true
  | .str x => PyData.canLay0 (.str x)
  | .list xs => plnAll xs
  | .tuple xs => plnAll xs
  | .dict _ => false
def plnAll : List PyData → Bool
  | [] => true
  | x :: xs => pln x && plnAll xs
end
mutual
theorem eqv_self : ∀ d : PyData, pln d = true → PyData.eqv d d = true
  | .none, _ => rfl
  | .bool _, h => by cases h
  | .int i, _ => by show (i == i) = true; exact beq_self_eq_true i
  | .str x, _ => by show (x == x) = true; exact beq_self_eq_true x
  | .list xs, h => eqvAll_self xs h
  | .tuple xs, h => eqvAll_self xs h
  | .dict _, h => by cases h
theorem eqvAll_self : ∀ ds : List PyData, plnAll ds = true → PyData.eqvAll ds ds = true
  | [], _ => rfl
  | x :: xs, h => by
    have h2 : pln x = true ∧ plnAll xs = true := Bool.and_eq_true_iff.mp h
    show (PyData.eqv x x && PyData.eqvAll xs xs) = true
    rw [eqv_self x h2.1, eqvAll_self xs h2.2]
    rfl
end
mutual
theorem eqv_eq : ∀ d e : PyData, pln d = true → pln e = true → PyData.eqv d e = true → d = e
  | .bool _, _, h, _, _ => by cases h
  | .dict _, _, h, _, _ => by cases h
  | d, .bool _, _, h, _ => by cases h
  | d, .dict _, _, h, _ => by cases h
  | .none, .none, _, _, _ => rfl
  | .none, .int _, _, _, h => by cases h
  | .none, .str _, _, _, h => by cases h
  | .none, .list _, _, _, h => by cases h
  | .none, .tuple _, _, _, h => by cases h
  | .int _, .none, _, _, h => by cases h
  | .int i, .int j, _, _, h => by
    have h : (i == j) = true := h
    rw [eq_of_beq h]
  | .int _, .str _, _, _, h => by cases h
  | .int _, .list _, _, _, h => by cases h
  | .int _, .tuple _, _, _, h => by cases h
  | .str _, .none, _, _, h => by cases h
  | .str _, .int _, _, _, h => by cases h
  | .str x, .str y, _, _, h => by
    have h : (x == y) = true := h
    rw [eq_of_beq h]
  | .str _, .list _, _, _, h => by cases h
  | .str _, .tuple _, _, _, h => by cases h
  | .list _, .none, _, _, h => by cases h
  | .list _, .int _, _, _, h => by cases h
  | .list _, .str _, _, _, h => by cases h
  | .list xs, .list ys, h1, h2, h => by
    have h : PyData.eqvAll xs ys = true := h
    rw [eqvAll_eq xs ys h1 h2 h]
  | .list _, .tuple _, _, _, h => by cases h
  | .tuple _, .none, _, _, h => by cases h
  | .tuple _, .int _, _, _, h => by cases h
  | .tuple _, .str _, _, _, h => by cases h
  | .tuple _, .list _, _, _, h => by cases h
  | .tuple xs, .tuple ys, h1, h2, h => by
    have h : PyData.eqvAll xs ys = true := h
    rw [eqvAll_eq xs ys h1 h2 h]
theorem eqvAll_eq : ∀ ds es : List PyData, plnAll ds = true → plnAll es = true → PyData.eqvAll ds es = true → ds = es
  | [], [], _, _, _ => rfl
  | [], _ :: _, _, _, h => by cases h
  | _ :: _, [], _, _, h => by cases h
  | x :: xs, y :: ys, h1, h2, h => by
    have h3 : pln x = true ∧ plnAll xs = true := Bool.and_eq_true_iff.mp h1
    have h4 : pln y = true ∧ plnAll ys = true := Bool.and_eq_true_iff.mp h2
    have h5 : PyData.eqv x y = true ∧ PyData.eqvAll xs ys = true := Bool.and_eq_true_iff.mp h
    rw [eqv_eq x y h3.1 h4.1 h5.1, eqvAll_eq xs ys h3.2 h4.2 h5.2]
end
theorem eqv_dec {d e : PyData} (h1 : pln d = true) (h2 : pln e = true) [Decidable (d = e)] : PyData.eqv d e = decide (d = e) := by
  by_cases h : d = e
  · subst h; rw [decide_eq_true rfl]; exact eqv_self d h1
  · rw [decide_eq_false h]
    cases q : PyData.eqv d e with
    | false => rfl
    | true => exact absurd (eqv_eq d e h1 h2 q) h
/-- plain data, no deeper than k -/
def Shp (k : Nat) (d : PyData) : Prop := pln d = true ∧ d.depth ≤ k
mutual
theorem pln_lay : ∀ d : PyData, pln d = true → d.canLay0 = true
  | .none, _ => rfl
  | .bool _, h => by cases h
  | .int _, _ => rfl
  | .str _, h => h
  | .list xs, h => plnAll_lay xs h
  | .tuple xs, h => plnAll_lay xs h
  | .dict _, h => by cases h
theorem plnAll_lay : ∀ ds : List PyData, plnAll ds = true → PyData.canLayAll0 ds = true
  | [], _ => rfl
  | x :: xs, h => by
    have h2 : pln x = true ∧ plnAll xs = true := Bool.and_eq_true_iff.mp h
    show (PyData.canLay0 x && PyData.canLayAll0 xs) = true
    rw [pln_lay x h2.1, plnAll_lay xs h2.2]
    rfl
end
theorem Shp.shaped {k : Nat} {d : PyData} (h : Shp k d) (hk : k ≤ 64) : SeqAt.shaped d = true := by
  unfold SeqAt.shaped
  rw [pln_lay d h.1, decide_eq_true (Nat.le_trans h.2 hk)]
  rfl
theorem Shp.mono {j k : Nat} {d : PyData} (h : Shp j d) (hk : j ≤ k) : Shp k d := ⟨h.1, Nat.le_trans h.2 hk⟩
theorem shp_all {k : Nat} : ∀ {ds : List PyData}, (∀ d ∈ ds, Shp k d) → plnAll ds = true ∧ PyData.depthAll ds ≤ k
  | [], _ => ⟨rfl, Nat.zero_le _⟩
  | x :: xs, h => by
    have h1 := h x List.mem_cons_self
    have h2 := shp_all (ds := xs) fun d hd => h d (List.mem_cons_of_mem _ hd)
    refine ⟨?_, ?_⟩
    · show (pln x && plnAll xs) = true
      rw [h1.1, h2.1]; rfl
    · show max x.depth (PyData.depthAll xs) ≤ k
      exact Nat.max_le.mpr ⟨h1.2, h2.2⟩
theorem shp_list {k : Nat} {ds : List PyData} (h : ∀ d ∈ ds, Shp k d) : Shp (k + 1) (.list ds) := ⟨(shp_all h).1, Nat.succ_le_succ (shp_all h).2⟩
theorem shp_tup {k : Nat} {ds : List PyData} (h : ∀ d ∈ ds, Shp k d) : Shp (k + 1) (.tuple ds) := ⟨(shp_all h).1, Nat.succ_le_succ (shp_all h).2⟩
theorem shp_int {k : Nat} (i : Int) : Shp k (.int i) := ⟨rfl, Nat.zero_le _⟩
theorem shp_none {k : Nat} : Shp k .none := ⟨rfl, Nat.zero_le _⟩
theorem shp_fr {k : Nat} (q : Rat) : Shp (k + 1) (fr q) := shp_tup fun d hd => by
  rcases List.mem_cons.mp hd with e | hd
  · rw [e]; exact shp_int _
  · rw [List.mem_singleton.mp hd]; exact shp_int _
theorem shp_pair {k : Nat} {p q : PyData} (h1 : Shp k p) (h2 : Shp k q) : Shp (k + 1) (.tuple [p, q]) := shp_tup fun d hd => by
  rcases List.mem_cons.mp hd with e | hd
  · rw [e]; exact h1
  · rw [List.mem_singleton.mp hd]; exact h2
theorem shaped_ints (ns : List Int) : SeqAt.shaped (.list (ns.map .int)) = true := (shp_list (k := 0) fun d hd => by
  obtain ⟨n, _, rfl⟩ := List.mem_map.mp hd
  exact shp_int n).shaped (by decide)
theorem fr_inj {p q : Rat} (h : fr p = fr q) : p = q := by
  unfold fr at h
  injection h with h
  injection h with h1 h2
  injection h2 with h2 _
  injection h1 with h1
  injection h2 with h2
  exact Rat.ext h1 (by omega)
theorem eqv_fr (p q : Rat) : PyData.eqv (fr p) (fr q) = decide (p = q) := by
  cases h : PyData.eqv (fr p) (fr q) with
  | true => rw [fr_inj (eqv_eq _ _ (shp_fr (k := 0) p).1 (shp_fr (k := 0) q).1 h), decide_eq_true rfl]
  | false =>
    refine (decide_eq_false fun e => ?_).symm
    rw [e, eqv_self _ (shp_fr (k := 0) q).1] at h
    cases h
section
variable {P : Program} {w : World} {K : PySem.W.Frag} {mg : Str → Option Value} {base : Heap}
theorem cmul_l {i j : Int} (h1 : -10000000000000000000 < i) (h2 : i < 10000000000000000000) : CMul i j := .inl ⟨by omega, by omega⟩
theorem cmul_r {i j : Int} (h1 : -10000000000000000000 < j) (h2 : j < 10000000000000000000) : CMul i j := .inr ⟨by omega, by omega⟩
/-! ### fold -/
def sp_fold : DSp where
  n := 2
  wp := fun ds M Q => ∃ n d m : Int, ds = [T [.int n, .int d], I m] ∧ (0 < d ∧ Fit d ∧ 0 < m ∧ m < 1000000) ∧ Q (.d (fr (foldQ (rq n d) m))) M
  mono := fun h ⟨n, d, m, e, s, q⟩ => ⟨n, d, m, e, s, h _ _ q⟩
  len := fun ⟨n, d, m, e, s, q⟩ => by rw [e]; rfl
abbrev s_fold : Stmt := topS 17
abbrev nm_fold : List Str := ["value", "side", "rest"]
theorem sc_fold : FnScope nm_fold ["value", "side"] (defScope s_fold) := ⟨rfl, rfl, rfl, by decide +kernel, rfl, by decide +kernel, by decide +kernel⟩
theorem ok_fold {f : Addr} {fd : FuncData} (Fd : Fun K "fold" "fold" s_fold f fd) (hm : mg "fold" = some (.ref f)) (hb : Binds K fd ["value", "side"] []) (d_lowest : Def P w K mg base "lowest" 2 sp_lowest) (z_min : mg "min" = none) : Def P w K mg base "fold" 3 sp_fold := by
  refine def_ok Fd sc_fold hm hb rfl fun cdv A outer s H E hr ds M Q h => ?_
  obtain ⟨n, d, m, rfl, ⟨h1, h2, h3, h4⟩, q⟩ := h
  have p1 : 0 < 2 * m * d := Int.mul_pos (by omega) h1
  have c1 : CMul 2 m := cmul_l (by omega) (by omega)
  have c2 : CMul (2 * m) d := cmul_l (by omega) (by omega)
  -- rest = value[0] % (2 * side * value[1])
  refine dss_cons (ds_set 2 sc_fold.nd (de_mod (de_ixT (de_var 0 rfl (de_int (⟨_, _, _, rfl, rfl, rfl, de_mul (de_mul (de_int (de_var 1 rfl (⟨_, _, rfl, rfl, c1, de_ixT (de_var 0 rfl (de_int (⟨_, _, _, rfl, rfl, rfl, ⟨_, _, rfl, rfl, c2, ⟨_, _, rfl, rfl, p1, ?_⟩⟩⟩)))⟩))))⟩))))))
  -- return lowest(min(rest, 2 * side * value[1] - rest), value[1])
  refine dss_cons (ds_ret (de_call d_lowest (hr.mono (by decide)) (da_cons (de_min2 (da_cons (de_var 2 rfl (da_cons (de_sub (de_mul (de_mul (de_int (de_var 1 rfl (⟨_, _, rfl, rfl, c1, de_ixT (de_var 0 rfl (de_int (⟨_, _, _, rfl, rfl, rfl, ⟨_, _, rfl, rfl, c2, de_var 2 rfl (⟨_, _, rfl, rfl, da_nil (⟨_, _, rfl, da_cons (de_ixT (de_var 0 rfl (de_int (⟨_, _, _, rfl, rfl, rfl, da_nil ⟨_, _, rfl, ⟨by omega, by omega, h2.f4⟩, ?_⟩⟩))))⟩)⟩)⟩⟩)))⟩))))))))) z_min))))
  rw [foldQ_rq n h1 h3] at q
  rw [Int.mul_assoc, foldI_min]
  exact q
/-! ### place_at -/
def posX (r : Run) (t : Rat) : Rat := foldQ (r.x + r.a * t) r.w
def posY (r : Run) (t : Rat) : Rat := foldQ (r.y + r.b * t) r.h
def placeD (r : Run) (t : Rat) : PyData := .tuple [fr (posX r t), fr (posY r t)]
def sp_place_at : DSp where
  n := 2
  wp := fun ds M Q => ∃ (r : Run) (n d : Int), ds = [.d r.data, T [.int n, .int d]] ∧ r.Ok ∧ (0 < d ∧ Fit d) ∧ Q (.d (placeD r (rq n d))) M
  mono := fun h ⟨n, d, m, e, s, s2, q⟩ => ⟨n, d, m, e, s, s2, h _ _ q⟩
  len := fun ⟨n, d, m, e, s, s2, q⟩ => by rw [e]; rfl
theorem lin_rq (x a n : Int) {d : Int} (hd : 0 < d) : rq (x * d + a * n) d = (x : Rat) + a * rq n d := by
  have h0 : (d : Rat) ≠ 0 := Rat.ne_of_gt (Rat.intCast_pos.mpr hd)
  unfold rq
  rw [Rat.intCast_add, Rat.intCast_mul, Rat.intCast_mul]
  grind
abbrev s_place_at : Stmt := topS 18
abbrev nm_place_at : List Str := ["run", "time", "w", "h", "x", "y", "a", "b", "across", "along"]
theorem sc_place_at : FnScope nm_place_at ["run", "time"] (defScope s_place_at) := ⟨rfl, rfl, rfl, by decide +kernel, rfl, by decide +kernel, by decide +kernel⟩
theorem ok_place_at {f : Addr} {fd : FuncData} (Fd : Fun K "place_at" "place_at" s_place_at f fd) (hm : mg "place_at" = some (.ref f)) (hb : Binds K fd ["run", "time"] []) (d_fold : Def P w K mg base "fold" 3 sp_fold) : Def P w K mg base "place_at" 4 sp_place_at := by
  refine def_ok Fd sc_place_at hm hb rfl fun cdv A outer s H E hr ds M Q h => ?_
  obtain ⟨r, n, d, rfl, ⟨w1, w2, h1, h2, x1, x2, y1, y2, a1, a2, b1, b2, ab⟩, ⟨d1, d2⟩, q⟩ := h
  -- w, h, x, y, a, b = run
  refine dss_cons (ds_asg (de_var 0 rfl (dg_tup rfl (dgs_cons (dg_name 2 (dgs_cons (dg_name 3 (dgs_cons (dg_name 4 (dgs_cons (dg_name 5 (dgs_cons (dg_name 6 (dgs_cons (dg_name 7 (dgs_nil (?_)) sc_place_at.nd)) sc_place_at.nd)) sc_place_at.nd)) sc_place_at.nd)) sc_place_at.nd)) sc_place_at.nd)) rfl)))
  -- across = (x * time[1] + a * time[0], time[1])
  refine dss_cons (ds_set 8 sc_place_at.nd (de_tup (da_cons (de_add (de_mul (de_var 4 rfl (de_ixT (de_var 1 rfl (de_int (⟨_, _, _, rfl, rfl, rfl, ⟨_, _, rfl, rfl, ?_, de_mul (de_var 6 rfl (de_ixT (de_var 1 rfl (de_int (⟨_, _, _, rfl, rfl, rfl, ⟨_, _, rfl, rfl, ?_, ⟨_, _, rfl, rfl, da_cons (de_ixT (de_var 1 rfl (de_int (⟨_, _, _, rfl, rfl, rfl, da_nil (⟨[_, _], rfl, rfl, ?_⟩)⟩))))⟩⟩⟩)))))⟩⟩))))))))))
  · exact cmul_l (by omega) (by omega)
  · exact cmul_l (by omega) (by omega)
  -- along = (y * time[1] + b * time[0], time[1])
  refine dss_cons (ds_set 9 sc_place_at.nd (de_tup (da_cons (de_add (de_mul (de_var 5 rfl (de_ixT (de_var 1 rfl (de_int (⟨_, _, _, rfl, rfl, rfl, ⟨_, _, rfl, rfl, ?_, de_mul (de_var 7 rfl (de_ixT (de_var 1 rfl (de_int (⟨_, _, _, rfl, rfl, rfl, ⟨_, _, rfl, rfl, ?_, ⟨_, _, rfl, rfl, da_cons (de_ixT (de_var 1 rfl (de_int (⟨_, _, _, rfl, rfl, rfl, da_nil (⟨[_, _], rfl, rfl, ?_⟩)⟩))))⟩⟩⟩)))))⟩⟩))))))))))
  · exact cmul_l (by omega) (by omega)
  · exact cmul_l (by omega) (by omega)
  -- return (fold(across, w), fold(along, h))
  refine dss_cons (ds_ret (de_tup (da_cons (de_call d_fold (hr.mono (by decide)) (da_cons (de_var 8 rfl (da_cons (de_var 2 rfl (da_nil (⟨_, _, _, rfl, ⟨d1, d2, by omega, by omega⟩, da_cons (de_call d_fold (hr.mono (by decide)) (da_cons (de_var 9 rfl (da_cons (de_var 3 rfl (da_nil (⟨_, _, _, rfl, ⟨d1, d2, by omega, by omega⟩, da_nil (⟨[_, _], rfl, rfl, ?_⟩)⟩)))))))⟩))))))))))
  rw [lin_rq r.x r.a n d1, lin_rq r.y r.b n d1]
  exact q
/-! ### place -/
def sp_place : DSp where
  n := 2
  wp := fun ds M Q => ∃ (r : Run) (n d : Int), ds = [.d r.data, T [.int n, .int d]] ∧ r.Ok ∧ (0 ≤ n ∧ n ≤ 1000000 ∧ 1 ≤ d ∧ d ≤ 1000) ∧ Q (.d (placeD r (rq n d))) M
  mono := fun h ⟨n, d, m, e, s, s2, q⟩ => ⟨n, d, m, e, s, s2, h _ _ q⟩
  len := fun ⟨n, d, m, e, s, s2, q⟩ => by rw [e]; rfl
/-! ### least_multiple -/
def sp_least_multiple : DSp where
  n := 2
  wp := fun ds M Q => ∃ (p q : Rat), ds = [.d (fr p), .d (fr q)] ∧ (0 < p.num ∧ p.num < 1000000 ∧ 0 < q.num ∧ q.num < 1000000 ∧ p.den < 1000000) ∧ Q (.d (fr (lcmQ p q))) M
  mono := fun h ⟨n, m, e, s, q⟩ => ⟨n, m, e, s, h _ _ q⟩
  len := fun ⟨n, m, e, s, q⟩ => by rw [e]; rfl
abbrev s_least_multiple : Stmt := topS 16
abbrev nm_least_multiple : List Str := ["one", "two", "top"]
theorem sc_least_multiple : FnScope nm_least_multiple ["one", "two"] (defScope s_least_multiple) := ⟨rfl, rfl, rfl, by decide +kernel, rfl, by decide +kernel, by decide +kernel⟩
theorem ok_least_multiple {f : Addr} {fd : FuncData} (Fd : Fun K "least_multiple" "least_multiple" s_least_multiple f fd) (hm : mg "least_multiple" = some (.ref f)) (hb : Binds K fd ["one", "two"] []) (d_common_of : Def P w K mg base "common_of" 1 sp_common_of) (d_lowest : Def P w K mg base "lowest" 2 sp_lowest) : Def P w K mg base "least_multiple" 3 sp_least_multiple := by
  refine def_ok Fd sc_least_multiple hm hb rfl fun cdv A outer s H E hr ds M Q h => ?_
  obtain ⟨p, r, rfl, ⟨h1, h2, h3, h4, h5⟩, q⟩ := h
  have g1 : 0 < Int.gcd p.num r.num := Int.gcd_pos_iff.mpr (.inl (by omega))
  have g2 : Int.gcd p.num r.num ≤ p.num.natAbs := Nat.le_of_dvd (by omega) (Nat.gcd_dvd_left _ _)
  have g3 : 0 < Int.gcd p.den r.den := Int.gcd_pos_iff.mpr (.inl (by have := p.den_pos; omega))
  have g4 : Int.gcd p.den r.den ≤ (p.den : Int).natAbs := Nat.le_of_dvd (by have := p.den_pos; omega) (Nat.gcd_dvd_left _ _)
  -- top = one[0] * two[0] // common_of(one[0], two[0])
  refine dss_cons (ds_set 2 sc_least_multiple.nd (de_div (de_mul (de_ixT (de_var 0 rfl (de_int (⟨_, _, _, rfl, rfl, rfl, de_ixT (de_var 1 rfl (de_int (⟨_, _, _, rfl, rfl, rfl, ⟨_, _, rfl, rfl, ?_, de_call d_common_of (hr.mono (by decide)) (da_cons (de_ixT (de_var 0 rfl (de_int (⟨_, _, _, rfl, rfl, rfl, da_cons (de_ixT (de_var 1 rfl (de_int (⟨_, _, _, rfl, rfl, rfl, da_nil ⟨_, _, rfl, ⟨_, _, rfl, rfl, ?_, ?_⟩⟩⟩))))⟩)))))⟩⟩)))⟩)))))))
  · exact cmul_l (by omega) (by omega)
  · exact ⟨by omega, by omega⟩
  -- return lowest(top, common_of(one[1], two[1]))
  refine dss_cons (ds_ret (de_call d_lowest (hr.mono (by decide)) (da_cons (de_var 2 rfl (da_cons (de_call d_common_of (hr.mono (by decide)) (da_cons (de_ixT (de_var 0 rfl (de_int (⟨_, _, _, rfl, rfl, rfl, da_cons (de_ixT (de_var 1 rfl (de_int (⟨_, _, _, rfl, rfl, rfl, da_nil ⟨_, _, rfl, da_nil ⟨_, _, rfl, ⟨by omega, by omega, (fit_small (by omega) (by omega)).f4⟩, ?_⟩⟩⟩))))⟩)))))))))))
  exact q
/-! ### period_of -/
def perX (r : Run) : Rat := rq (2 * r.w) (r.a.natAbs : Int)
def perY (r : Run) : Rat := rq (2 * r.h) (r.b.natAbs : Int)
def perQ (r : Run) : Rat := if r.a = 0 then perY r else if r.b = 0 then perX r else lcmQ (perX r) (perY r)
theorem abs_if (i : Int) : (if i < 0 then -i else i) = (i.natAbs : Int) := by split <;> omega
theorem rq_pos {n d : Int} (hn : 0 < n) (hd : 0 < d) : 0 < (rq n d).num ∧ (rq n d).num ≤ n ∧ ((rq n d).den : Int) ≤ d := by
  have h := low_pos (n := n) hd
  have hg : 0 < Int.gcd n d := Int.gcd_pos_iff.mpr (.inr (by omega))
  have h1 : (Int.gcd n d : Int) ∣ n := Int.gcd_dvd_left ..
  rw [← h.1, ← h.2]
  refine ⟨?_, Int.ediv_le_self _ (by omega), Int.ediv_le_self _ (by omega)⟩
  exact Int.ediv_pos_of_pos_of_dvd hn (by omega) h1
def sp_period_of : DSp where
  n := 1
  wp := fun ds M Q => ∃ (r : Run), ds = [.d r.data] ∧ r.Ok ∧ Q (.d (fr (perQ r))) M
  mono := fun h ⟨n, e, s, q⟩ => ⟨n, e, s, h _ _ q⟩
  len := fun ⟨n, e, s, q⟩ => by rw [e]; rfl
abbrev s_period_of : Stmt := topS 19
abbrev nm_period_of : List Str := ["run", "w", "h", "x", "y", "a", "b", "parts", "side", "speed"]
theorem sc_period_of : FnScope nm_period_of ["run"] (defScope s_period_of) := ⟨rfl, rfl, rfl, by decide +kernel, rfl, by decide +kernel, by decide +kernel⟩
theorem ok_period_of {f : Addr} {fd : FuncData} (Fd : Fun K "period_of" "period_of" s_period_of f fd) (hm : mg "period_of" = some (.ref f)) (hb : Binds K fd ["run"] []) (z_abs : mg "abs" = none) (d_least_multiple : Def P w K mg base "least_multiple" 3 sp_least_multiple) (z_len : mg "len" = none) (d_lowest : Def P w K mg base "lowest" 2 sp_lowest) : Def P w K mg base "period_of" 4 sp_period_of := by
  refine def_ok Fd sc_period_of hm hb rfl fun cdv A outer s H E hr ds M Q h => ?_
  obtain ⟨r, rfl, ⟨w1, w2, h1, h2, x1, x2, y1, y2, a1, a2, b1, b2, ab⟩, q⟩ := h
  -- w, h, x, y, a, b = run
  refine dss_cons (ds_asg (de_var 0 rfl (dg_tup rfl (dgs_cons (dg_name 1 (dgs_cons (dg_name 2 (dgs_cons (dg_name 3 (dgs_cons (dg_name 4 (dgs_cons (dg_name 5 (dgs_cons (dg_name 6 (dgs_nil (?_)) sc_period_of.nd)) sc_period_of.nd)) sc_period_of.nd)) sc_period_of.nd)) sc_period_of.nd)) sc_period_of.nd)) rfl)))
  -- parts = [lowest(2 * side, abs(speed)) for side, speed in ((w, a), (h, b)) if speed != 0]
  refine dss_cons (ds_lcT 7 (.two 8 9) [("side", 8), ("speed", 9)] nm_period_of (defScope s_period_of) sc_period_of.nd (by decide +kernel) (fun _ _ _ _ _ => pg_tup rfl (pgs_cons (pg_name sc_period_of.nd rfl (Or.inl rfl)) (pgs_cons (pg_name sc_period_of.nd rfl (Or.inl rfl)) pgs_nil))) (by decide) (de_tup (da_cons (de_tup (da_cons (de_var 1 rfl (da_cons (de_var 5 rfl (da_nil (⟨[_, _], rfl, rfl, da_cons (de_tup (da_cons (de_var 2 rfl (da_cons (de_var 6 rfl (da_nil (⟨[_, _], rfl, rfl, da_nil (⟨[_, _], rfl, rfl, ⟨_, fun p => match p with
    | .tuple [.int side, .int speed] => if speed = 0 then none else some (fr (rq (2 * side) (speed.natAbs : Int)))
    | _ => none, rfl, Nat.le_of_ble_eq_true rfl, ?_, ?_⟩⟩)⟩)))))))⟩))))))))))
  · intro p hp
    have hb : ∃ side speed : Int, (1 ≤ side ∧ side ≤ 12 ∧ -6 ≤ speed ∧ speed ≤ 6) ∧ p = .tuple [.int side, .int speed] := by
      rcases List.mem_cons.mp hp with e | hp
      · exact ⟨_, _, ⟨w1, w2, a1, a2⟩, e⟩
      · exact ⟨_, _, ⟨h1, h2, b1, b2⟩, List.mem_singleton.mp hp⟩
    obtain ⟨side, speed, hb, rfl⟩ := hb
    · clear hp
      refine ⟨_, !decide (speed = 0), rfl, fun M2 hM2 => ⟨fun _ _ _ _ _ => dts_one (dt_cmpI ci_ne (de_var 9 rfl (de_int (⟨_, _, rfl, rfl, ⟨rfl, rfl⟩⟩)))), ?_⟩⟩
      by_cases h0 : speed = 0
      · rw [decide_eq_true h0]
        exact if_pos h0
      · rw [decide_eq_false h0]
        refine ⟨_, if_neg h0, fun _ _ _ _ _ => de_call d_lowest (hr.mono (by decide)) (da_cons (de_mul (de_int (de_var 8 rfl (⟨_, _, rfl, rfl, cmul_l (by omega) (by omega), da_cons (de_abs (da_cons (de_var 9 rfl (da_nil (⟨_, rfl, da_nil ⟨_, _, rfl, ⟨?_, ?_, ?_⟩, ⟨rfl, ?_⟩⟩⟩)))) z_abs)⟩)))))⟩
        · rw [abs_if]; omega
        · rw [abs_if]; omega
        · rw [abs_if]; exact (fit_small (by omega) (by omega)).f4
        · rw [abs_if]
  -- return parts[0] if len(parts) == 1 else least_multiple(parts[0], parts[1])
  by_cases ha : r.a = 0
  · have hb : r.b ≠ 0 := fun e => ab ⟨ha, e⟩
    have e : [PyData.tuple [.int r.w, .int r.a], .tuple [.int r.h, .int r.b]].filterMap (fun p => match p with
      | .tuple [.int side, .int speed] => if speed = 0 then none else some (fr (rq (2 * side) (speed.natAbs : Int)))
      | _ => none) = [fr (perY r)] := by
      simp [ha, hb, perY]
    rw [e]
    refine dss_cons (ds_ret (de_if (dt_cmpI ci_eq (de_len (da_cons (de_var 7 rfl (da_nil (⟨_, _, rfl, rfl, de_int (⟨_, _, rfl, rfl, ?_⟩)⟩)))) z_len))))
    refine iteT (de_ixL (de_var 7 rfl (de_int (⟨_, _, _, rfl, rfl, rfl, ?_⟩))))
    unfold perQ at q
    rw [if_pos ha] at q
    exact q
  · by_cases hb : r.b = 0
    · have e : [PyData.tuple [.int r.w, .int r.a], .tuple [.int r.h, .int r.b]].filterMap (fun p => match p with
        | .tuple [.int side, .int speed] => if speed = 0 then none else some (fr (rq (2 * side) (speed.natAbs : Int)))
        | _ => none) = [fr (perX r)] := by
        simp [ha, hb, perX]
      rw [e]
      refine dss_cons (ds_ret (de_if (dt_cmpI ci_eq (de_len (da_cons (de_var 7 rfl (da_nil (⟨_, _, rfl, rfl, de_int (⟨_, _, rfl, rfl, ?_⟩)⟩)))) z_len))))
      refine iteT (de_ixL (de_var 7 rfl (de_int (⟨_, _, _, rfl, rfl, rfl, ?_⟩))))
      unfold perQ at q
      rw [if_neg ha, if_pos hb] at q
      exact q
    · have e : [PyData.tuple [.int r.w, .int r.a], .tuple [.int r.h, .int r.b]].filterMap (fun p => match p with
        | .tuple [.int side, .int speed] => if speed = 0 then none else some (fr (rq (2 * side) (speed.natAbs : Int)))
        | _ => none) = [fr (perX r), fr (perY r)] := by
        simp [ha, hb, perX, perY]
      rw [e]
      refine dss_cons (ds_ret (de_if (dt_cmpI ci_eq (de_len (da_cons (de_var 7 rfl (da_nil (⟨_, _, rfl, rfl, de_int (⟨_, _, rfl, rfl, ?_⟩)⟩)))) z_len))))
      have px := rq_pos (n := 2 * r.w) (d := (r.a.natAbs : Int)) (by omega) (by omega)
      have py := rq_pos (n := 2 * r.h) (d := (r.b.natAbs : Int)) (by omega) (by omega)
      refine iteF (de_call d_least_multiple (hr.mono (by decide)) (da_cons (de_ixL (de_var 7 rfl (de_int (⟨_, _, _, rfl, rfl, rfl, da_cons (de_ixL (de_var 7 rfl (de_int (⟨_, _, _, rfl, rfl, rfl, da_nil ⟨_, _, rfl, ?_, ?_⟩⟩))))⟩))))))
      · show 0 < (rq _ _).num ∧ (rq _ _).num < _ ∧ 0 < (rq _ _).num ∧ (rq _ _).num < _ ∧ (rq _ _).den < _
        omega
      · unfold perQ at q
        rw [if_neg ha, if_neg hb] at q
        exact q
def sp_period : DSp where
  n := 1
  wp := fun ds M Q => ∃ (r : Run), ds = [.d r.data] ∧ r.Ok ∧ Q (.d (fr (perQ r))) M
  mono := fun h ⟨n, e, s, q⟩ => ⟨n, e, s, h _ _ q⟩
  len := fun ⟨n, e, s, q⟩ => by rw [e]; rfl
abbrev s_period : Stmt := topS 20
abbrev nm_period : List Str := ["run"]
theorem sc_period : FnScope nm_period ["run"] (defScope s_period) := ⟨rfl, rfl, rfl, by decide +kernel, rfl, by decide +kernel, by decide +kernel⟩
theorem ok_period {f : Addr} {fd : FuncData} (Fd : Fun K "period" "period" s_period f fd) (hm : mg "period" = some (.ref f)) (hb : Binds K fd ["run"] []) (d_need_run : Def P w K mg base "need_run" 3 sp_need_run) (d_period_of : Def P w K mg base "period_of" 4 sp_period_of) : Def P w K mg base "period" 5 sp_period := by
  refine def_ok Fd sc_period hm hb rfl fun cdv A outer s H E hr ds M Q h => ?_
  obtain ⟨r, rfl, k, q⟩ := h
  refine dss_cons (ds_expr (de_call d_need_run (hr.mono (by decide)) (da_cons (de_var 0 rfl (da_nil ⟨_, rfl, k, ?_⟩)))))
  exact dss_cons (ds_ret (de_call d_period_of (hr.mono (by decide)) (da_cons (de_var 0 rfl (da_nil ⟨_, rfl, k, q⟩)))))
end
section
variable {P : Program} {w : World} {K : PySem.W.Frag} {mg : Str → Option Value} {base : Heap}
/-- the town: two numbers that are not negative, at t -/
def Twn (M0 : Mem) (t : Addr) (M : Mem) : Prop := ∃ p r : Int, M = updM M0 t (.lst [.int p, .int r]) ∧ 0 ≤ p ∧ 0 ≤ r
def sp__law_draw : DSp where
  n := 3
  wp := fun ds M Q => ∃ (ns : List Int) (t : Addr) (many : Int) (M0 : Mem), ds = [L (ns.map .int), .o t, I many] ∧ (Twn M0 t M ∧ ns.length ≤ 63 ∧ 0 < many ∧ many < 1000000000) ∧ ∀ v M', Twn M0 t M' → 0 ≤ v → v < many → Q (I v) M'
  mono := fun h ⟨a, b, c, d, e, s, q⟩ => ⟨a, b, c, d, e, s, fun v M' h1 h2 h3 => h _ _ (q v M' h1 h2 h3)⟩
  len := fun ⟨a, b, c, d, e, s, q⟩ => by rw [e]; rfl
theorem at_map {ns : List Int} {i : Int} (h0 : 0 ≤ i) (h1 : i < ns.length) : atI (ns.map PyData.int) i = some (.int (ns.getD i.toNat 0)) := by
  have h : i.toNat < ns.length := by omega
  have e : i = ((i.toNat : Nat) : Int) := by omega
  rw [e]
  refine atI_nat ?_
  simp only [Int.toNat_natCast, List.getElem?_map, List.getD_eq_getElem?_getD]
  rw [List.getElem?_eq_getElem h]
  rfl
theorem eqv_nil (ns : List Int) : PyData.eqv (.list (ns.map .int)) (.list []) = decide (ns = []) := by
  cases ns with
  | nil => rfl
  | cons n ns => rfl
abbrev s__law_draw : Stmt := topS 32
abbrev nm__law_draw : List Str := ["_law_script", "_law_town", "_law_many", "_law_one", "_law_at", "_law_mixed"]
theorem sc__law_draw : FnScope nm__law_draw ["_law_script", "_law_town", "_law_many"] (defScope s__law_draw) := ⟨rfl, rfl, rfl, by decide +kernel, rfl, by decide +kernel, by decide +kernel⟩
theorem ok__law_draw {f : Addr} {fd : FuncData} (Fd : Fun K "_law_draw" "_law_draw" s__law_draw f fd) (hm : mg "_law_draw" = some (.ref f)) (hb : Binds K fd ["_law_script", "_law_town", "_law_many"] []) (z_len : mg "len" = none) : Def P w K mg base "_law_draw" 1 sp__law_draw := by
  refine def_ok Fd sc__law_draw hm hb rfl fun cdv A outer s H E hr ds M Q h => ?_
  obtain ⟨ns, t, many, M0, rfl, ⟨⟨p, r, rfl, hp, hr0⟩, hn, hm1, hm2⟩, q⟩ := h
  have cd : ∀ i : Int, CDiv i many := fun i => ⟨hm1, by omega⟩
  have hM : updM M0 t (.lst [.int p, .int r]) t = some (.lst [.int p, .int r]) := updM_same
  have m1 : ∀ i : Int, 0 ≤ i % many := fun i => Int.emod_nonneg _ (by omega)
  have m2 : ∀ i : Int, i % many < many := fun i => Int.emod_lt_of_pos _ hm1
  -- if _law_town[1] > 0:
  refine dss_cons (ds_if (dt_cmpI ci_gt (de_ixO (de_var 1 rfl (de_int (⟨_, _, _, _, rfl, hM, rfl, rfl, de_int (⟨_, _, rfl, rfl, ite2 (fun hi => ?_) (fun hi => ?_)⟩)⟩))))))
  · have hi : 0 < r := of_decide_eq_true hi
    -- _law_one = _law_town[1] % _law_many
    refine dss_cons (ds_set 3 sc__law_draw.nd (de_mod (de_ixO (de_var 1 rfl (de_int (⟨_, _, _, _, rfl, hM, rfl, rfl, de_var 2 rfl (⟨_, _, rfl, rfl, hm1, ?_⟩)⟩))))))
    -- _law_town[1] = _law_town[1] // _law_many
    refine dss_cons (ds_asg (de_div (de_ixO (de_var 1 rfl (de_int (⟨_, _, _, _, rfl, hM, rfl, rfl, de_var 2 rfl (⟨_, _, rfl, rfl, cd _, dg_setO (de_var 1 rfl (de_int (⟨_, _, _, _, rfl, hM, rfl, rfl, ?_⟩)))⟩)⟩))))))
    -- return _law_one
    refine dss_cons (ds_ret (de_var 3 rfl (q _ _ ?_ (m1 _) (m2 _))))
    exact ⟨p, r / many, updM_upd, hp, Int.ediv_nonneg hr0 (by omega)⟩
  refine dss_nil ?_
  -- _law_at = _law_town[0]
  refine dss_cons (ds_set 4 sc__law_draw.nd (de_ixO (de_var 1 rfl (de_int (⟨_, _, _, _, rfl, hM, rfl, rfl, ?_⟩)))))
  -- _law_town[0] += 1
  refine dss_cons (ds_augO ip_add (de_var 1 rfl (de_int (⟨_, _, _, _, rfl, hM, rfl, by decide, rfl, de_int (⟨_, _, _, hM, rfl, rfl, ?_⟩)⟩))))
  have tw : ∀ r', 0 ≤ r' → Twn M0 t (updM (updM M0 t (.lst [.int p, .int r])) t (.lst [.int (p + 1), .int r'])) := fun r' h => ⟨p + 1, r', updM_upd, by omega, h⟩
  -- if _law_script == []:
  refine dss_cons (ds_if (dt_eqD hr.units (de_var 0 rfl (de_lstD (da_nil (⟨[], rfl, rfl, ⟨_, _, rfl, rfl, shaped_ints ns, rfl, ite2 (fun hi => ?_) (fun hi => ?_)⟩⟩))))))
  · -- return _law_at % _law_many
    refine dss_cons (ds_ret (de_mod (de_var 4 rfl (de_var 2 rfl (⟨_, _, rfl, rfl, hm1, q _ _ (tw r hr0) (m1 _) (m2 _)⟩)))))
  have hne : 0 < ns.length := by
    rw [eqv_nil] at hi
    rcases Nat.eq_zero_or_pos ns.length with e | e
    · exact absurd (decide_eq_true (List.length_eq_zero_iff.mp e)) hi
    · exact e
  refine dss_nil ?_
  have hl : (ns.map PyData.int).length = ns.length := List.length_map _
  -- if _law_at < len(_law_script) and _law_script[_law_at] >= 10 ** 18:
  refine dss_cut (fun ρ' M' => ρ' = [some (L (ns.map .int)), some (.o t), some (I many), none, some (I p), none] ∧ Twn M0 t M') (ds_if (DW.dt (dw_and (dt_cmpI ci_lt (de_var 4 rfl (de_len (da_cons (de_var 0 rfl (da_nil (⟨_, _, rfl, rfl, ⟨_, _, rfl, rfl, ite2 (fun hb => dw_and1 (dt_cmpI ci_ge (de_ixL (de_var 0 rfl (de_var 4 rfl (⟨_, _, _, rfl, rfl, at_map hp ?_, de_pow (de_int (de_int (⟨_, _, rfl, rfl, ?_, ⟨_, _, rfl, rfl, ite2 (fun hi => ?_) (fun hi => ?_)⟩⟩)))⟩)))))) (fun hb => iteF ?_)⟩⟩)))) z_len)))))) ?_
  · have := of_decide_eq_true hb; rw [hl] at this; exact this
  · exact ⟨by decide, by decide, by decide⟩
  · have hb := of_decide_eq_true hb
    rw [hl] at hb
    -- _law_town[1] = _law_script[_law_at] // _law_many % (10 ** 60 * 10 ** 60)
    refine dss_cons (ds_asg (de_mod (de_div (de_ixL (de_var 0 rfl (de_var 4 rfl (⟨_, _, _, rfl, rfl, at_map hp hb, de_var 2 rfl (⟨_, _, rfl, rfl, cd _, de_mulW (de_pow (de_int (de_int (⟨_, _, rfl, rfl, ?_, de_pow (de_int (de_int (⟨_, _, rfl, rfl, ?_, ⟨_, _, rfl, rfl, ?_, ⟨_, _, rfl, rfl, ?_, dg_setO (de_var 1 rfl (de_int (⟨_, _, _, _, rfl, updM_same, rfl, rfl, ?_⟩)))⟩⟩⟩)))⟩))))⟩)⟩)))))))
    · exact ⟨by decide, by decide, by decide⟩
    · exact ⟨by decide, by decide, by decide⟩
    · exact wide_mul (a := 300) (b := 300) (by decide +kernel) (by decide +kernel) (by decide) (by decide) (by decide)
    · decide +kernel
    -- return _law_script[_law_at] % _law_many
    refine dss_cons (ds_ret (de_mod (de_ixL (de_var 0 rfl (de_var 4 rfl (⟨_, _, _, rfl, rfl, at_map hp hb, de_var 2 rfl (⟨_, _, rfl, rfl, hm1, q _ _ ?_ (m1 _) (m2 _)⟩)⟩))))))
    exact ⟨p + 1, _, by rw [updM_upd, updM_upd]; rfl, by omega, Int.emod_nonneg _ (by decide +kernel)⟩
  · exact dss_nil ⟨rfl, tw r hr0⟩
  · exact dss_nil ⟨rfl, tw r hr0⟩
  rintro ρ' M' ⟨rfl, tw⟩
  have i1 := Int.emod_nonneg p (show (ns.length : Int) ≠ 0 by omega)
  have i2 := Int.emod_lt_of_pos p (show (0 : Int) < ns.length by omega)
  have l2 : lenOf M' (L (ns.map .int)) = some ns.length := congrArg some hl
  -- _law_mixed = (_law_script[_law_at % len(_law_script)] * 1103515245 + 7919 * _law_at + 12345) % 2147483647
  refine dss_cons (ds_set 5 sc__law_draw.nd (de_mod (de_add (de_add (de_mul (de_ixL (de_var 0 rfl (de_mod (de_var 4 rfl (de_len (da_cons (de_var 0 rfl (da_nil (⟨_, _, rfl, l2, ⟨_, _, rfl, rfl, ?_, ⟨_, _, _, rfl, rfl, at_map i1 i2, de_int (⟨_, _, rfl, rfl, ?_, de_mul (de_int (de_var 4 rfl (⟨_, _, rfl, rfl, ?_, ⟨_, _, rfl, rfl, de_int (⟨_, _, rfl, rfl, de_int (⟨_, _, rfl, rfl, ?_, ?_⟩)⟩)⟩⟩)))⟩)⟩⟩⟩)))) z_len))))))))))
  · omega
  · exact cmul_r (by decide) (by decide)
  · exact cmul_l (by decide) (by decide)
  · decide
  -- return _law_mixed ** 5 % 2147483647 % 999983 % _law_many
  refine dss_cons (ds_ret (de_mod (de_mod (de_mod (de_pow (de_var 5 rfl (de_int (⟨_, _, rfl, rfl, ?_, de_int (⟨_, _, rfl, rfl, ?_, de_int (⟨_, _, rfl, rfl, ?_, de_var 2 rfl (⟨_, _, rfl, rfl, ?_, ?_⟩)⟩)⟩)⟩))))))))
  · refine ⟨by decide, by decide, ?_⟩
    have h1 := Int.emod_nonneg (ns.getD (p % ↑ns.length).toNat 0 * 1103515245 + 7919 * p + 12345) (show (2147483647 : Int) ≠ 0 by decide)
    have h2 := Int.emod_lt_of_pos (ns.getD (p % ↑ns.length).toNat 0 * 1103515245 + 7919 * p + 12345) (show (0 : Int) < 2147483647 by decide)
    exact Nat.lt_of_lt_of_le (m := 2147483647) (by omega) (by decide)
  · decide
  · decide
  · exact hm1
  · exact q _ _ tw (m1 _) (m2 _)
end
section
variable {P : Program} {w : World} {K : PySem.W.Frag} {mg : Str → Option Value} {base : Heap}
/-! ### _law_gcd, _law_low -/
def sp__law_gcd : DSp := sp_common_of
def sp__law_low : DSp := sp_lowest
abbrev s__law_gcd : Stmt := topS 35
abbrev nm__law_gcd : List Str := ["_law_one", "_law_two"]
theorem sc__law_gcd : FnScope nm__law_gcd ["_law_one", "_law_two"] (defScope s__law_gcd) := ⟨rfl, rfl, rfl, by decide +kernel, rfl, by decide +kernel, by decide +kernel⟩
theorem ok__law_gcd {f : Addr} {fd : FuncData} (Fd : Fun K "_law_gcd" "_law_gcd" s__law_gcd f fd) (hm : mg "_law_gcd" = some (.ref f)) (hb : Binds K fd ["_law_one", "_law_two"] []) (z_abs : mg "abs" = none) : Def P w K mg base "_law_gcd" 1 sp__law_gcd := by
  refine def_ok Fd sc__law_gcd hm hb rfl fun cdv A outer s H E hr ds M Q h => ?_
  obtain ⟨a, b, rfl, q⟩ := h
  -- one, two = (abs(one), abs(two))
  refine dss_cons ?_
  refine ds_par 0 1 sc__law_gcd.nd ?_
  refine da_cons ?_
  refine de_abs ?_ z_abs
  refine da_cons ?_
  refine de_var 0 rfl ?_  -- one
  refine da_nil ?_
  refine ⟨_, rfl, ?_⟩
  refine da_cons ?_
  refine de_abs ?_ z_abs
  refine da_cons ?_
  refine de_var 1 rfl ?_  -- two
  refine da_nil ?_
  refine ⟨_, rfl, ?_⟩
  refine da_nil ?_
  refine ⟨_, _, rfl, ?_⟩
  -- while two > 0:
  refine dss_cut (fun ρ' M' => ∃ x y : Int, ρ' = [some (I x), some (I y)] ∧ M' = M ∧ x = Int.gcd a b) ?_ ?_
  · refine ds_while (fun m ρ' M' => ∃ x y : Int, ρ' = [some (I x), some (I y)] ∧ M' = M ∧ 0 ≤ x ∧ 0 ≤ y ∧ Int.gcd x y = Int.gcd a b ∧ m = y.toNat) _ ⟨_, _, rfl, rfl, ?_, ?_, ?_, rfl⟩ fun m ρ' M' hW => ?_
    · split <;> omega
    · split <;> omega
    · rw [show (if a < 0 then -a else a) = (a.natAbs : Int) by split <;> omega, show (if b < 0 then -b else b) = (b.natAbs : Int) by split <;> omega]
      simp [Int.gcd]
    · obtain ⟨x, y, rfl, rfl, hx, hy, hg, rfl⟩ := hW
      refine dt_cmpI ci_gt ?_  -- or dt_neD hr.units: two > 0
      refine de_var 1 rfl ?_  -- two
      refine de_int ?_  -- 0
      refine ⟨_, _, rfl, rfl, ?_⟩
      refine ite2 (fun hI => ?_) (fun hI => ?_)
      · have hI : 0 < y := of_decide_eq_true hI
        -- one, two = (two, one % two)
        refine dss_cons ?_
        refine ds_par 0 1 sc__law_gcd.nd ?_
        refine da_cons ?_
        refine de_var 1 rfl ?_  -- two
        refine da_cons ?_
        refine de_mod ?_
        refine de_var 0 rfl ?_  -- one
        refine de_var 1 rfl ?_  -- two
        refine ⟨_, _, rfl, rfl, hI, ?_⟩  -- one % two
        refine da_nil ?_
        refine ⟨_, _, rfl, ?_⟩
        refine dss_nil ?_
        have h1 := Int.emod_nonneg x (show y ≠ 0 by omega)
        have h2 := Int.emod_lt_of_pos x hI
        exact ⟨(x % y).toNat, by omega, y, x % y, rfl, rfl, hy, h1, by rw [gcd_turn, hg], rfl⟩
      · have hI : ¬ 0 < y := fun z => hI (decide_eq_true z)
        have e : y = 0 := by omega
        subst e
        refine ⟨x, 0, rfl, rfl, ?_⟩
        rw [← hg, Int.gcd_zero_right]
        omega
  rintro ρ' M' ⟨x, y, rfl, rfl, rfl⟩
  -- return one
  refine dss_cons ?_
  refine ds_ret ?_
  refine de_var 0 rfl ?_  -- one
  exact q
abbrev s__law_low : Stmt := topS 36
abbrev nm__law_low : List Str := ["_law_top", "_law_bottom", "_law_common"]
theorem sc__law_low : FnScope nm__law_low ["_law_top", "_law_bottom"] (defScope s__law_low) := ⟨rfl, rfl, rfl, by decide +kernel, rfl, by decide +kernel, by decide +kernel⟩
theorem ok__law_low {f : Addr} {fd : FuncData} (Fd : Fun K "_law_low" "_law_low" s__law_low f fd) (hm : mg "_law_low" = some (.ref f)) (hb : Binds K fd ["_law_top", "_law_bottom"] []) (d__law_gcd : Def P w K mg base "_law_gcd" 1 sp__law_gcd) : Def P w K mg base "_law_low" 2 sp__law_low := by
  refine def_ok Fd sc__law_low hm hb rfl fun cdv A outer s H E hr ds M Q h => ?_
  obtain ⟨n, d, rfl, ⟨h0, h1, h2⟩, q⟩ := h
  have hg : 0 < Int.gcd n d := Int.gcd_pos_iff.mpr (.inr h0)
  have hl : Int.gcd n d ≤ d.natAbs := Nat.le_of_dvd (by omega) (Nat.gcd_dvd_right _ _)
  -- common = _law_gcd(numerator, denominator)
  refine dss_cons (ds_set 2 sc__law_low.nd (de_call d__law_gcd hr (da_cons (de_var 0 rfl (da_cons (de_var 1 rfl (da_nil ⟨_, _, rfl, ?_⟩)))))))
  -- if denominator < 0:
  refine dss_cons (ds_if (dt_cmpI ci_lt (de_var 1 rfl (de_int (⟨_, _, rfl, rfl, ite2 (fun hi => ?_) (fun hi => ?_)⟩)))))
  · have hi : d < 0 := of_decide_eq_true hi
    -- common = -common
    refine dss_cons (ds_set 2 sc__law_low.nd (de_neg (de_var 2 rfl (⟨_, rfl, ?_⟩))))
    refine dss_nil ?_
    have hc : CDivN n (-(Int.gcd n d : Int)) := by
      unfold CDivN
      omega
    refine dss_cons (ds_ret (de_tup (da_cons (de_divN (de_var 0 rfl (de_var 2 rfl (⟨_, _, rfl, rfl, hc, da_cons (de_divN (de_var 1 rfl (de_var 2 rfl (⟨_, _, rfl, rfl, hc, da_nil (⟨[_, _], rfl, rfl, ?_⟩)⟩))))⟩)))))))
    rw [(low_neg hi).1, (low_neg hi).2]
    exact q
  · have hi : 0 < d := by
      have : ¬ d < 0 := fun z => hi (decide_eq_true z)
      omega
    refine dss_nil ?_
    have hc : ∀ m, CDivW m (Int.gcd n d : Int) := fun m => by
      refine ⟨by omega, ?_⟩
      exact Nat.lt_trans (log_of (n := (Int.gcd n d : Int).natAbs) (Nat.lt_of_le_of_lt (by omega) h2) (by decide)) (by decide)
    -- return (numerator // common, denominator // common)
    refine dss_cons (ds_ret (de_tup (da_cons (de_divW (de_var 0 rfl (de_var 2 rfl (⟨_, _, rfl, rfl, hc _, da_cons (de_divW (de_var 1 rfl (de_var 2 rfl (⟨_, _, rfl, rfl, hc _, da_nil (⟨[_, _], rfl, rfl, ?_⟩)⟩))))⟩)))))))
    rw [(low_pos hi).1, (low_pos hi).2]
    exact q
/-! ### _law_run -/
def sp__law_run : DSp where
  n := 4
  wp := fun ds M Q => ∃ (ns : List Int) (t : Addr) (side speed : Int) (M0 : Mem), ds = [L (ns.map .int), .o t, I side, I speed] ∧ (Twn M0 t M ∧ ns.length ≤ 63 ∧ 0 < side ∧ side ≤ 12 ∧ 0 < speed ∧ speed ≤ 6) ∧
    ∀ (r : Run) M', Twn M0 t M' → r.Ok → (r.w ≤ side ∧ r.h ≤ side ∧ -speed ≤ r.a ∧ r.a ≤ speed ∧ -speed ≤ r.b ∧ r.b ≤ speed) → Q (.d r.data) M'
  mono := fun h ⟨a, b, c, d, f, e, s, q⟩ => ⟨a, b, c, d, f, e, s, fun v M' h1 h2 h3 => h _ _ (q v M' h1 h2 h3)⟩
  len := fun ⟨a, b, c, d, f, e, s, q⟩ => by rw [e]; rfl
abbrev s__law_run : Stmt := topS 34
abbrev nm__law_run : List Str := ["_law_script", "_law_town", "_law_side", "_law_speed", "_law_w", "_law_h", "_law_a", "_law_b"]
theorem sc__law_run : FnScope nm__law_run ["_law_script", "_law_town", "_law_side", "_law_speed"] (defScope s__law_run) := ⟨rfl, rfl, rfl, by decide +kernel, rfl, by decide +kernel, by decide +kernel⟩
theorem ok__law_run {f : Addr} {fd : FuncData} (Fd : Fun K "_law_run" "_law_run" s__law_run f fd) (hm : mg "_law_run" = some (.ref f)) (hb : Binds K fd ["_law_script", "_law_town", "_law_side", "_law_speed"] []) (d__law_draw : Def P w K mg base "_law_draw" 1 sp__law_draw) : Def P w K mg base "_law_run" 2 sp__law_run := by
  refine def_ok Fd sc__law_run hm hb rfl fun cdv A outer s H E hr ds M Q h => ?_
  obtain ⟨ns, t, side, speed, M0, rfl, ⟨tw, hn, h1, h2, h3, h4⟩, q⟩ := h
  -- _law_w, _law_h
  refine dss_cons (ds_par 4 5 sc__law_run.nd (da_cons (de_add (de_int (de_call d__law_draw (hr.mono (by decide)) (da_cons (de_var 0 rfl (da_cons (de_var 1 rfl (da_cons (de_var 2 rfl (da_nil (⟨_, _, _, M0, rfl, ⟨by assumption, hn, by omega, by omega⟩, fun v1 M1 tw1 v10 v11 => ⟨_, _, rfl, rfl, da_cons (de_add (de_int (de_call d__law_draw (hr.mono (by decide)) (da_cons (de_var 0 rfl (da_cons (de_var 1 rfl (da_cons (de_var 2 rfl (da_nil (⟨_, _, _, M0, rfl, ⟨by assumption, hn, by omega, by omega⟩, fun v2 M2 tw2 v20 v21 => ⟨_, _, rfl, rfl, da_nil (⟨_, _, rfl, ?_⟩)⟩⟩)))))))))))⟩⟩)))))))))))))
  -- _law_a, _law_b
  refine dss_cons (ds_par 6 7 sc__law_run.nd (da_cons (de_sub (de_call d__law_draw (hr.mono (by decide)) (da_cons (de_var 0 rfl (da_cons (de_var 1 rfl (da_cons (de_add (de_mul (de_int (de_var 3 rfl (⟨_, _, rfl, rfl, cmul_l (by omega) (by omega), de_int (⟨_, _, rfl, rfl, da_nil (⟨_, _, _, M0, rfl, ⟨by assumption, hn, by omega, by omega⟩, fun v3 M3 tw3 v30 v31 => de_var 3 rfl (⟨_, _, rfl, rfl, da_cons (de_sub (de_call d__law_draw (hr.mono (by decide)) (da_cons (de_var 0 rfl (da_cons (de_var 1 rfl (da_cons (de_add (de_mul (de_int (de_var 3 rfl (⟨_, _, rfl, rfl, cmul_l (by omega) (by omega), de_int (⟨_, _, rfl, rfl, da_nil (⟨_, _, _, M0, rfl, ⟨by assumption, hn, by omega, by omega⟩, fun v4 M4 tw4 v40 v41 => de_var 3 rfl (⟨_, _, rfl, rfl, da_nil (⟨_, _, rfl, ?_⟩)⟩)⟩)⟩)⟩))))))))))))⟩)⟩)⟩)⟩))))))))))))))
  -- if _law_a == 0 and _law_b == 0:
  refine dss_cut (fun ρ' M' => M' = M4 ∧ ∃ b : Int, (-speed ≤ b ∧ b ≤ speed) ∧ ¬ (v3 - speed = 0 ∧ b = 0) ∧ ρ' = [some (L (ns.map .int)), some (.o t), some (I side), some (I speed), some (I (1 + v1)), some (I (1 + v2)), some (I (v3 - speed)), some (I b)]) (ds_if (DW.dt (dw_and (dt_cmpI ci_eq (de_var 6 rfl (de_int (⟨_, _, rfl, rfl, ite2 (fun hb => dw_and1 (dt_cmpI ci_eq (de_var 7 rfl (de_int (⟨_, _, rfl, rfl, ite2 (fun hi => ?_) (fun hi => ?_)⟩))))) (fun hb => iteF ?_)⟩))))))) ?_
  · -- _law_b = 1
    refine dss_cons (ds_set 7 sc__law_run.nd (de_int (dss_nil ⟨rfl, 1, by omega, by omega, rfl⟩)))
  · exact dss_nil ⟨rfl, v4 - speed, by omega, fun z => hi (decide_eq_true z.2), rfl⟩
  · exact dss_nil ⟨rfl, v4 - speed, by omega, fun z => hb (decide_eq_true z.1), rfl⟩
  rintro ρ' M' ⟨rfl, b, hb, hab, rfl⟩
  -- return ..
  refine dss_cons (ds_ret (de_tup (da_cons (de_var 4 rfl (da_cons (de_var 5 rfl (da_cons (de_call d__law_draw (hr.mono (by decide)) (da_cons (de_var 0 rfl (da_cons (de_var 1 rfl (da_cons (de_add (de_var 4 rfl (de_int (⟨_, _, rfl, rfl, da_nil (⟨_, _, _, M0, rfl, ⟨by assumption, hn, by omega, by omega⟩, fun v5 M5 tw5 v50 v51 => da_cons (de_call d__law_draw (hr.mono (by decide)) (da_cons (de_var 0 rfl (da_cons (de_var 1 rfl (da_cons (de_add (de_var 5 rfl (de_int (⟨_, _, rfl, rfl, da_nil (⟨_, _, _, M0, rfl, ⟨by assumption, hn, by omega, by omega⟩, fun v6 M6 tw6 v60 v61 => da_cons (de_var 6 rfl (da_cons (de_var 7 rfl (da_nil (⟨[_, _, _, _, _, _], rfl, rfl, ?_⟩)))))⟩)⟩))))))))))⟩)⟩)))))))))))))))))
  exact q ⟨1 + v1, 1 + v2, v5, v6, v3 - speed, b⟩ M6 tw6 ⟨by show 1 ≤ 1 + v1; omega, by show 1 + v1 ≤ 12; omega, by show 1 ≤ 1 + v2; omega, by show 1 + v2 ≤ 12; omega, v50, by show v5 ≤ 1 + v1; omega, v60, by show v6 ≤ 1 + v2; omega, by show -6 ≤ v3 - speed; omega, by show v3 - speed ≤ 6; omega, by show -6 ≤ b; omega, by show b ≤ 6; omega, hab⟩ ⟨by show 1 + v1 ≤ side; omega, by show 1 + v2 ≤ side; omega, by show -speed ≤ v3 - speed; omega, by show v3 - speed ≤ speed; omega, hb.1, hb.2⟩
/-! ### _law_unit -/
def unitN (ns : List Int) : Nat := ns.foldl (fun u n => if n = 0 then u else Nat.lcm u n.natAbs) 1
def sp__law_unit : DSp where
  n := 1
  wp := fun ds M Q => ∃ (ns : List Int), ds = [T (ns.map .int)] ∧ (∀ n ∈ ns, -1000000 < n ∧ n < 1000000) ∧ Q (I (unitN ns)) M
  mono := fun h ⟨a, e, s, q⟩ => ⟨a, e, s, h _ _ q⟩
  len := fun ⟨a, e, s, q⟩ => by rw [e]; rfl
theorem unit_step (u : Nat) {n : Int} (h : n ≠ 0) : (u : Int) * (n.natAbs : Int) / (Int.gcd u n : Int) = ((Nat.lcm u n.natAbs : Nat) : Int) := by
  unfold Nat.lcm
  rw [Int.natCast_ediv, Int.natCast_mul]
  rfl
end
/-! ### _law_walk -/
def axStep (W : Int) (s : Int × Int) : Int × Int := (s.1 + s.2, if s.2 ≠ 0 ∧ (s.1 + s.2 = 0 ∨ s.1 + s.2 = W) then (if s.1 + s.2 = 0 then (s.2.natAbs : Int) else -(s.2.natAbs : Int)) else s.2)
def axName (W : Int) (s : Int × Int) (l r : Str) : Str := if s.2 ≠ 0 ∧ (s.1 + s.2 = 0 ∨ s.1 + s.2 = W) then (if s.1 + s.2 = 0 then l else r) else ""
def axInit (W X A : Int) : Int × Int := (X, if X = 0 then (A.natAbs : Int) else if X = W then -(A.natAbs : Int) else A)
def axAt (W X A : Int) : Nat → Int × Int
  | 0 => axInit W X A
  | k + 1 => axStep W (axAt W X A k)
def wX (r : Run) (u : Int) (k : Nat) : Int × Int := axAt (r.w * u) (r.x * u) r.a k
def wY (r : Run) (u : Int) (k : Nat) : Int × Int := axAt (r.h * u) (r.y * u) r.b k
/-- the walls hit at tick k + 1 -/
def wName (r : Run) (u : Int) (k : Nat) : Str := axName (r.w * u) (wX r u k) "L" "R" ++ axName (r.h * u) (wY r u k) "B" "T"
def wSpot (r : Run) (u : Int) (k : Nat) : PyData := .tuple [.int (wX r u k).1, .int (wY r u k).1]
def wWay (r : Run) (u : Int) (k : Nat) : PyData := .tuple [.int (wX r u k).2, .int (wY r u k).2]
def wShut (r : Run) (u : Int) (k : Nat) : Option PyData := if wName r u k = "" then none else some (.tuple [.int (1 + (k : Int)), .str (wName r u k)])
def wSpots (r : Run) (u : Int) (n : Nat) : List PyData := (List.range (n + 1)).map (wSpot r u)
def wWays (r : Run) (u : Int) (n : Nat) : List PyData := (List.range (n + 1)).map (wWay r u)
def wShuts (r : Run) (u : Int) (n : Nat) : List PyData := (List.range n).filterMap (wShut r u)
def walkD (r : Run) (u : Int) (n : Nat) : PyData := .tuple [.list (wSpots r u n), .list (wWays r u n), .list (wShuts r u n)]
theorem wSpots_succ (r : Run) (u : Int) (n : Nat) : wSpots r u (n + 1) = wSpots r u n ++ [wSpot r u (n + 1)] := by
  unfold wSpots; rw [List.range_succ (n := n + 1), List.map_append]; rfl
theorem wWays_succ (r : Run) (u : Int) (n : Nat) : wWays r u (n + 1) = wWays r u n ++ [wWay r u (n + 1)] := by
  unfold wWays; rw [List.range_succ (n := n + 1), List.map_append]; rfl
theorem wShuts_succ (r : Run) (u : Int) (n : Nat) : wShuts r u (n + 1) = wShuts r u n ++ (wShut r u n).toList := by
  unfold wShuts; rw [List.range_succ, List.filterMap_append]
  cases e : wShut r u n <;> simp [e]
theorem wShuts_len (r : Run) (u : Int) (n : Nat) : (wShuts r u n).length ≤ n := by
  unfold wShuts
  refine Nat.le_trans (List.length_filterMap_le _ _) ?_
  rw [List.length_range]
  exact Nat.le_refl _
theorem wSpots_len (r : Run) (u : Int) (n : Nat) : (wSpots r u n).length = n + 1 := by unfold wSpots; rw [List.length_map, List.length_range]
theorem wWays_len (r : Run) (u : Int) (n : Nat) : (wWays r u n).length = n + 1 := by unfold wWays; rw [List.length_map, List.length_range]
theorem str_nil (x : Str) : ("" : Str) ++ x = x := by
  cases x with
  | mk c => show (⟨#[] ++ c⟩ : Str) = ⟨c⟩; rw [Array.empty_append]
theorem str_nil' (x : Str) : x ++ ("" : Str) = x := by
  cases x with
  | mk c => show (⟨c ++ #[]⟩ : Str) = ⟨c⟩; rw [Array.append_empty]
/-- three lists of the memory -/
structure Tri (l1 l2 l3 : Addr) (a b c : List PyData) (M M' : Mem) : Prop where
  e1 : M' l1 = some (.lst a)
  e2 : M' l2 = some (.lst b)
  e3 : M' l3 = some (.lst c)
  rest : ∀ q, q ≠ l1 → q ≠ l2 → q ≠ l3 → M' q = M q
  n12 : l1 ≠ l2
  n13 : l1 ≠ l3
  n23 : l2 ≠ l3
section
variable {l1 l2 l3 : Addr} {a b c x : List PyData} {M M' : Mem}
theorem Tri.p1 (t : Tri l1 l2 l3 a b c M M') : Tri l1 l2 l3 x b c M (updM M' l1 (.lst x)) :=
  ⟨updM_same, by rw [updM_ne t.n12.symm]; exact t.e2, by rw [updM_ne t.n13.symm]; exact t.e3, fun q h1 h2 h3 => by rw [updM_ne h1]; exact t.rest q h1 h2 h3, t.n12, t.n13, t.n23⟩
theorem Tri.p2 (t : Tri l1 l2 l3 a b c M M') : Tri l1 l2 l3 a x c M (updM M' l2 (.lst x)) :=
  ⟨by rw [updM_ne t.n12]; exact t.e1, updM_same, by rw [updM_ne t.n23.symm]; exact t.e3, fun q h1 h2 h3 => by rw [updM_ne h2]; exact t.rest q h1 h2 h3, t.n12, t.n13, t.n23⟩
theorem Tri.p3 (t : Tri l1 l2 l3 a b c M M') : Tri l1 l2 l3 a b x M (updM M' l3 (.lst x)) :=
  ⟨by rw [updM_ne t.n13]; exact t.e1, by rw [updM_ne t.n23]; exact t.e2, updM_same, fun q h1 h2 h3 => by rw [updM_ne h3]; exact t.rest q h1 h2 h3, t.n12, t.n13, t.n23⟩
theorem Tri.out (t : Tri l1 l2 l3 a b c M M') (h1 : M l1 = none) (h2 : M l2 = none) (h3 : M l3 = none) : delM (delM (delM M' l1) l2) l3 = M := by
  funext q
  by_cases q3 : q = l3
  · rw [q3, delM_same, h3]
  · rw [delM_ne q3]
    by_cases q2 : q = l2
    · rw [q2, delM_same, h2]
    · rw [delM_ne q2]
      by_cases q1 : q = l1
      · rw [q1, delM_same, h1]
      · rw [delM_ne q1]; exact t.rest q q1 q2 q3
end
section
variable {P : Program} {w : World} {K : PySem.W.Frag} {mg : Str → Option Value} {base : Heap}
def sp__law_walk : DSp where
  n := 3
  wp := fun ds M Q => ∃ (r : Run) (u n : Int), ds = [.d r.data, I u, I n] ∧ r.Ok ∧ (0 < u ∧ u < 100000000 ∧ 0 ≤ n ∧ n ≤ 90000) ∧ Q (.d (walkD r u n.toNat)) M
  mono := fun h ⟨a, b, c, e, s, t, q⟩ => ⟨a, b, c, e, s, t, h _ _ q⟩
  len := fun ⟨a, b, c, e, s, t, q⟩ => by rw [e]; rfl
end
/-! ### the walk in closed form -/
def dirI (z W A : Int) : Int := if z % (2 * W) = 0 then (A.natAbs : Int) else if z % (2 * W) = W then -(A.natAbs : Int) else if z % (2 * W) < W then A else -A
theorem gap {g a b : Int} (h1 : g ∣ a) (h2 : g ∣ b) (h : a < b) : a + g ≤ b := by
  have := Int.le_of_dvd (by omega : 0 < b - a) (Int.dvd_sub h2 h1)
  omega
theorem emod_step {z g m : Int} (hm : 0 < m) (h0 : 0 ≤ z % m + g) (h1 : z % m + g ≤ m) : (z + g) % m = if z % m + g = m then 0 else z % m + g := by
  have e : (z + g) % m = (z % m + g) % m := by rw [Int.emod_add_emod]
  rw [e]
  split
  · rename_i h; rw [h, Int.emod_self]
  · exact Int.emod_eq_of_lt h0 (by omega)
theorem emod_back {z g m : Int} (hm : 0 < m) (hg : 0 < g) (hgm : g ≤ m) (h1 : z % m = 0 ∨ g ≤ z % m) : (z + -g) % m = if z % m = 0 then m - g else z % m - g := by
  have h2 := Int.emod_lt_of_pos z hm
  have e : (z + -g) % m = (z % m + -g) % m := by rw [Int.emod_add_emod]
  rw [e]
  split
  · rename_i h
    rw [h, Int.zero_add, ← Int.add_emod_right]
    rw [show -g + m = m - g by omega]
    by_cases hh : g = m
    · subst hh; rw [Int.sub_self]; rfl
    · exact Int.emod_eq_of_lt (by omega) (by omega)
  · rw [show z % m + -g = z % m - g by omega]
    exact Int.emod_eq_of_lt (by omega) (by omega)
theorem axAt_fold {W X A : Int} (hW : 0 < W) (h0 : 0 ≤ X) (h1 : X ≤ W) (hd : A ≠ 0 → A ∣ X ∧ A ∣ W) : ∀ k : Nat, (axAt W X A k).1 = foldI (X + A * k) W ∧ (axAt W X A k).2 = dirI (X + A * k) W A
  | 0 => by
    have e : X + A * ((0 : Nat) : Int) = X := by simp
    rw [e]
    have hm : X % (2 * W) = X := Int.emod_eq_of_lt h0 (by omega)
    show X = foldI X W ∧ (if X = 0 then (A.natAbs : Int) else if X = W then -(A.natAbs : Int) else A) = dirI X W A
    unfold foldI dirI
    rw [hm]
    refine ⟨by rw [if_pos h1], ?_⟩
    by_cases hx : X = 0
    · rw [if_pos hx, if_pos hx]
    · rw [if_neg hx, if_neg hx]
      by_cases hx2 : X = W
      · rw [if_pos hx2, if_pos hx2]
      · rw [if_neg hx2, if_neg hx2, if_pos (by omega)]
  | k + 1 => by
    obtain ⟨ih1, ih2⟩ := axAt_fold hW h0 h1 hd k
    have ez : X + A * ((k + 1 : Nat) : Int) = (X + A * k) + A := by
      rw [Int.natCast_add, Int.mul_add, Int.natCast_one, Int.mul_one, Int.add_assoc]
    rw [ez]
    show (axStep W (axAt W X A k)).1 = _ ∧ (axStep W (axAt W X A k)).2 = _
    unfold axStep
    simp only []
    rw [ih1, ih2]
    generalize hz : X + A * (k : Int) = z
    by_cases hA : A = 0
    · subst hA
      have : dirI z W 0 = 0 := by unfold dirI; simp
      rw [this, Int.add_zero, Int.add_zero]
      exact ⟨rfl, by simp [this]⟩
    · obtain ⟨d1, d2⟩ := hd hA
      have dz : A ∣ z := by rw [← hz]; exact Int.dvd_add d1 (Int.dvd_mul_right _ _)
      have d2W : A ∣ 2 * W := Int.dvd_mul_of_dvd_right d2
      have dr : A ∣ z % (2 * W) := by
        rw [Int.emod_def]
        exact Int.dvd_sub dz (Int.dvd_mul_of_dvd_left d2W)
      have r0 := Int.emod_nonneg z (show 2 * W ≠ 0 by omega)
      have r1 := Int.emod_lt_of_pos z (show 0 < 2 * W by omega)
      have hm : 0 < 2 * W := by omega
      rcases Int.lt_or_gt_of_ne hA with hn | hp
      · -- falling
        obtain ⟨g, rfl⟩ : ∃ g, A = -g := ⟨-A, by omega⟩
        have hg : 0 < g := by omega
        have dr' : g ∣ z % (2 * W) := Int.neg_dvd.mp dr
        have d2' : g ∣ W := Int.neg_dvd.mp d2
        have d0 : g ∣ (0 : Int) := Int.dvd_zero _
        have gW := gap d0 d2' hW
        have g0 : z % (2 * W) = 0 ∨ g ≤ z % (2 * W) := by
          rcases Int.lt_or_eq_of_le r0 with h | h
          · have := gap d0 dr' h; omega
          · exact .inl h.symm
        have gl : z % (2 * W) < W → z % (2 * W) + g ≤ W := fun h => gap dr' d2' h
        have gu : W < z % (2 * W) → W + g ≤ z % (2 * W) := fun h => gap d2' dr' h
        have em := emod_back (z := z) hm hg (by omega) g0
        have en : ((-g).natAbs : Int) = g := by omega
        unfold foldI dirI
        rw [em, en]
        generalize z % (2 * W) = r at *
        constructor <;> (repeat' split) <;> omega
      · -- rising
        have hg : 0 < A := hp
        have d0 : A ∣ (0 : Int) := Int.dvd_zero _
        have gW := gap d0 d2 hW
        have g2 := gap dr d2W r1
        have gl : z % (2 * W) < W → z % (2 * W) + A ≤ W := fun h => gap dr d2 h
        have gu : W < z % (2 * W) → W + A ≤ z % (2 * W) := fun h => gap d2 dr h
        have em := emod_step (z := z) (g := A) hm (by omega) g2
        have en : (A.natAbs : Int) = A := by omega
        unfold foldI dirI
        rw [em, en]
        generalize z % (2 * W) = r at *
        constructor <;> (repeat' split) <;> omega
/-! ### the unit -/
theorem unitN_step (u : Nat) (ns : List Int) : ∀ n ∈ ns, n ≠ 0 → n.natAbs ∣ ns.foldl (fun u n => if n = 0 then u else Nat.lcm u n.natAbs) u := by
  have base : ∀ (ns : List Int) (u : Nat), u ∣ ns.foldl (fun u n => if n = 0 then u else Nat.lcm u n.natAbs) u := by
    intro ns
    induction ns with
    | nil => intro u; exact Nat.dvd_refl u
    | cons x xs ih =>
      intro u
      rw [List.foldl_cons]
      refine Nat.dvd_trans ?_ (ih _)
      split
      · exact Nat.dvd_refl u
      · exact Nat.dvd_lcm_left ..
  induction ns generalizing u with
  | nil => intro n hn; cases hn
  | cons x xs ih =>
    intro n hn h0
    rw [List.foldl_cons]
    rcases List.mem_cons.mp hn with e | hn
    · subst e
      rw [if_neg h0]
      exact Nat.dvd_trans (Nat.dvd_lcm_right ..) (base xs _)
    · exact ih _ n hn h0
theorem unitN_dvd {ns : List Int} {n : Int} (h : n ∈ ns) (h0 : n ≠ 0) : n ∣ (unitN ns : Int) := Int.natAbs_dvd.mp (Int.natCast_dvd_natCast.mpr (unitN_step 1 ns n h h0))
theorem unitN_pos (ns : List Int) : 0 < unitN ns := by
  have : ∀ (ns : List Int) (u : Nat), 0 < u → 0 < ns.foldl (fun u n => if n = 0 then u else Nat.lcm u n.natAbs) u := by
    intro ns
    induction ns with
    | nil => intro u h; exact h
    | cons x xs ih =>
      intro u h
      rw [List.foldl_cons]
      refine ih _ ?_
      split
      · exact h
      · exact Nat.lcm_pos h (by omega)
  exact this ns 1 (by decide)
theorem lcm_le {m n : Nat} (hm : 0 < m) (hn : 0 < n) : Nat.lcm m n ≤ m * n := Nat.le_of_dvd (Nat.mul_pos hm hn) (Nat.lcm_dvd_mul m n)
theorem unitN_le (ns : List Int) (c : Nat) (hc : 0 < c) (h : ∀ n ∈ ns, n.natAbs ≤ c) : unitN ns ≤ c ^ ns.length := by
  have : ∀ (ns : List Int) (u : Nat), 0 < u → (∀ n ∈ ns, n.natAbs ≤ c) → ns.foldl (fun u n => if n = 0 then u else Nat.lcm u n.natAbs) u ≤ u * c ^ ns.length := by
    intro ns
    induction ns with
    | nil => intro u h _; simp
    | cons x xs ih =>
      intro u h hb
      rw [List.foldl_cons, List.length_cons, Nat.pow_succ, Nat.mul_comm (c ^ _) c, ← Nat.mul_assoc]
      have hx := hb x List.mem_cons_self
      by_cases h0 : x = 0
      · rw [if_pos h0]
        refine Nat.le_trans (ih u h fun n hn => hb n (List.mem_cons_of_mem _ hn)) (Nat.mul_le_mul_right _ ?_)
        exact Nat.le_mul_of_pos_right _ hc
      · rw [if_neg h0]
        refine Nat.le_trans (ih _ (Nat.lcm_pos h (by omega)) fun n hn => hb n (List.mem_cons_of_mem _ hn)) (Nat.mul_le_mul_right _ ?_)
        exact Nat.le_trans (lcm_le h (by omega)) (Nat.mul_le_mul_left _ hx)
  have := this ns 1 (by decide) h
  rwa [Nat.one_mul] at this
/-! ### the walk's places are the ball's -/
theorem wX_fold {r : Run} (k : r.Ok) {u : Int} (hu : 0 < u) (hd : r.a ≠ 0 → r.a ∣ u) (n : Nat) : (wX r u n).1 = foldI (r.x * u + r.a * n) (r.w * u) ∧ (wX r u n).2 = dirI (r.x * u + r.a * n) (r.w * u) r.a :=
  axAt_fold (Int.mul_pos (by have := k.w1; omega) hu) (Int.mul_nonneg k.x1 (by omega)) (Int.mul_le_mul_of_nonneg_right k.x2 (by omega)) (fun h => ⟨Int.dvd_mul_of_dvd_right (hd h), Int.dvd_mul_of_dvd_right (hd h)⟩) n
theorem wY_fold {r : Run} (k : r.Ok) {u : Int} (hu : 0 < u) (hd : r.b ≠ 0 → r.b ∣ u) (n : Nat) : (wY r u n).1 = foldI (r.y * u + r.b * n) (r.h * u) ∧ (wY r u n).2 = dirI (r.y * u + r.b * n) (r.h * u) r.b :=
  axAt_fold (Int.mul_pos (by have := k.h1; omega) hu) (Int.mul_nonneg k.y1 (by omega)) (Int.mul_le_mul_of_nonneg_right k.y2 (by omega)) (fun h => ⟨Int.dvd_mul_of_dvd_right (hd h), Int.dvd_mul_of_dvd_right (hd h)⟩) n
theorem wX_pos {r : Run} (k : r.Ok) {u : Int} (hu : 0 < u) (hd : r.a ≠ 0 → r.a ∣ u) (n : Nat) : rq (wX r u n).1 u = posX r (rq n u) := by
  rw [(wX_fold k hu hd n).1]
  unfold posX
  rw [← lin_rq r.x r.a n hu, foldQ_rq _ hu (by have := k.w1; omega)]
theorem wY_pos {r : Run} (k : r.Ok) {u : Int} (hu : 0 < u) (hd : r.b ≠ 0 → r.b ∣ u) (n : Nat) : rq (wY r u n).1 u = posY r (rq n u) := by
  rw [(wY_fold k hu hd n).1]
  unfold posY
  rw [← lin_rq r.y r.b n hu, foldQ_rq _ hu (by have := k.h1; omega)]
theorem spots_last (r : Run) (u : Int) (n : Nat) : atI (wSpots r u n) (-1) = some (wSpot r u n) := by
  unfold wSpots
  rw [List.range_succ, List.map_append]
  exact atI_last _ _
/-! ### rationals -/
theorem rq_scale {c n d : Int} (hc : c ≠ 0) : rq (c * n) (c * d) = rq n d := by
  rw [rq_div, rq_div, Rat.divInt_mul_left hc]
theorem rq_eq {a b c d : Int} (hb : b ≠ 0) (hd : d ≠ 0) (h : a * d = c * b) : rq a b = rq c d := by
  rw [rq_div, rq_div]
  exact (Rat.divInt_eq_divInt_iff hb hd).mpr h
/-- the ticks of a time whose denominator divides the unit -/
theorem rq_ticks {top bottom u : Int} (hb : 0 < bottom) (hu : 0 < u) (h : bottom ∣ u) : rq (top * u / bottom) u = rq top bottom := by
  refine rq_eq (by omega) (by omega) ?_
  rw [Int.mul_comm]
  obtain ⟨c, rfl⟩ := h
  rw [show top * (bottom * c) = bottom * (top * c) by rw [Int.mul_left_comm], Int.mul_ediv_cancel_left _ (by omega)]
/-! ### the period -/
theorem foldQ_add (z : Rat) {m : Int} (hm : 0 < m) (j : Int) : foldQ (z + 2 * m * j) m = foldQ z m := by
  have h0 : (0 : Rat) < m := Rat.intCast_pos.mpr hm
  have e1 : (z + 2 * m * j) / (2 * m) = z / (2 * m) + (j : Rat) := by grind
  unfold foldQ
  rw [e1, Rat.floor_add_intCast, Rat.intCast_add]
  have e2 : z + 2 * m * j - 2 * m * ((z / (2 * m)).floor + j : Rat) = z - 2 * m * ((z / (2 * m)).floor : Rat) := by grind
  rw [e2]
theorem posX_add {r : Run} (k : r.Ok) {t p : Rat} {j : Int} (h : r.a * p = 2 * r.w * j) : posX r (t + p) = posX r t := by
  unfold posX
  have e : (r.x : Rat) + r.a * (t + p) = r.x + r.a * t + 2 * r.w * j := by grind
  rw [e, foldQ_add _ (by have := k.w1; omega)]
theorem posY_add {r : Run} (k : r.Ok) {t p : Rat} {j : Int} (h : r.b * p = 2 * r.h * j) : posY r (t + p) = posY r t := by
  unfold posY
  have e : (r.y : Rat) + r.b * (t + p) = r.y + r.b * t + 2 * r.h * j := by grind
  rw [e, foldQ_add _ (by have := k.h1; omega)]
theorem num_den (q : Rat) : q = (q.num : Rat) / (q.den : Rat) := by
  have := Rat.num_divInt_den q
  rw [Rat.divInt_eq_div] at this
  exact this.symm
/-- lcmQ is a whole multiple of either -/
theorem lcmQ_mul {p q : Rat} (hp : 0 < p.num) (hq : 0 < q.num) : (∃ j : Int, 0 < j ∧ lcmQ p q = p * j) ∧ (∃ j : Int, 0 < j ∧ lcmQ p q = q * j) := by
  have g1 : 0 < Int.gcd p.num q.num := Int.gcd_pos_iff.mpr (.inl (by omega))
  have dp := p.den_pos
  have dq := q.den_pos
  have g2 : 0 < Int.gcd p.den q.den := Int.gcd_pos_iff.mpr (.inl (by omega))
  have a1 : (Int.gcd p.num q.num : Int) ∣ p.num := Int.gcd_dvd_left ..
  have a2 : (Int.gcd p.num q.num : Int) ∣ q.num := Int.gcd_dvd_right ..
  have b1 : (Int.gcd p.den q.den : Int) ∣ p.den := Int.gcd_dvd_left ..
  have b2 : (Int.gcd p.den q.den : Int) ∣ q.den := Int.gcd_dvd_right ..
  unfold lcmQ rq
  generalize hg : (Int.gcd p.num q.num : Int) = g at *
  generalize hh : (Int.gcd p.den q.den : Int) = h at *
  have g0 : 0 < g := by omega
  have h0 : 0 < h := by omega
  obtain ⟨c1, e1⟩ := a1
  obtain ⟨c2, e2⟩ := a2
  obtain ⟨c3, e3⟩ := b1
  obtain ⟨c4, e4⟩ := b2
  have p1 : 0 < c1 := by
    rw [e1] at hp
    exact Int.pos_of_mul_pos_right hp (by omega)
  have p2 : 0 < c2 := by
    rw [e2] at hq
    exact Int.pos_of_mul_pos_right hq (by omega)
  have p3 : 0 < c3 := by
    have : (0 : Int) < p.den := by omega
    rw [e3] at this
    exact Int.pos_of_mul_pos_right this (by omega)
  have p4 : 0 < c4 := by
    have : (0 : Int) < q.den := by omega
    rw [e4] at this
    exact Int.pos_of_mul_pos_right this (by omega)
  have top : p.num * q.num / g = c1 * c2 * g := by
    rw [e1, e2, show g * c1 * (g * c2) = g * (c1 * c2 * g) by grind, Int.mul_ediv_cancel_left _ (by omega)]
  rw [top]
  have gq : (g : Rat) ≠ 0 := Rat.ne_of_gt (Rat.intCast_pos.mpr g0)
  have hq' : (h : Rat) ≠ 0 := Rat.ne_of_gt (Rat.intCast_pos.mpr h0)
  have c3q : (c3 : Rat) ≠ 0 := Rat.ne_of_gt (Rat.intCast_pos.mpr p3)
  have c4q : (c4 : Rat) ≠ 0 := Rat.ne_of_gt (Rat.intCast_pos.mpr p4)
  have ep : p = (g * c1 : Rat) / (h * c3) := by
    have := num_den p
    have d : (p.den : Rat) = ((p.den : Int) : Rat) := rfl
    rw [d, e3, e1, Rat.intCast_mul, Rat.intCast_mul] at this
    exact this
  have eq : q = (g * c2 : Rat) / (h * c4) := by
    have := num_den q
    have d : (q.den : Rat) = ((q.den : Int) : Rat) := rfl
    rw [d, e4, e2, Rat.intCast_mul, Rat.intCast_mul] at this
    exact this
  rw [Rat.intCast_mul, Rat.intCast_mul]
  refine ⟨⟨c2 * c3, Int.mul_pos p2 p3, ?_⟩, ⟨c1 * c4, Int.mul_pos p1 p4, ?_⟩⟩
  · rw [ep, Rat.intCast_mul]
    clear ep eq top hg hh
    grind
  · rw [eq, Rat.intCast_mul]
    clear ep eq top hg hh
    grind
theorem perX_mul {r : Run} (h : r.a ≠ 0) : (r.a : Rat) * perX r = 2 * r.w * (r.a.sign : Int) := by
  unfold perX rq
  have e : (r.a : Int) = r.a.sign * r.a.natAbs := by rw [Int.sign_mul_natAbs]
  have n0 : ((r.a.natAbs : Int) : Rat) ≠ 0 := fun z => by
    have := Rat.intCast_inj.mp (z.trans Rat.intCast_zero.symm)
    omega
  have e' : (r.a : Rat) = (r.a.sign : Int) * ((r.a.natAbs : Int) : Rat) := by
    rw [← Rat.intCast_mul, ← e]
  rw [Rat.intCast_mul]
  generalize ((r.a.natAbs : Int) : Rat) = n at *
  rw [e']
  show _ = 2 * (r.w : Rat) * _
  have two : ((2 : Int) : Rat) = 2 := rfl
  rw [two]
  grind
theorem perY_mul {r : Run} (h : r.b ≠ 0) : (r.b : Rat) * perY r = 2 * r.h * (r.b.sign : Int) := by
  unfold perY rq
  have e : (r.b : Int) = r.b.sign * r.b.natAbs := by rw [Int.sign_mul_natAbs]
  have n0 : ((r.b.natAbs : Int) : Rat) ≠ 0 := fun z => by
    have := Rat.intCast_inj.mp (z.trans Rat.intCast_zero.symm)
    omega
  have e' : (r.b : Rat) = (r.b.sign : Int) * ((r.b.natAbs : Int) : Rat) := by
    rw [← Rat.intCast_mul, ← e]
  rw [Rat.intCast_mul]
  generalize ((r.b.natAbs : Int) : Rat) = n at *
  rw [e']
  have two : ((2 : Int) : Rat) = 2 := rfl
  rw [two]
  grind
theorem perX_pos {r : Run} (k : r.Ok) (h : r.a ≠ 0) : 0 < (perX r).num := (rq_pos (by have := k.w1; omega) (by omega)).1
theorem perY_pos {r : Run} (k : r.Ok) (h : r.b ≠ 0) : 0 < (perY r).num := (rq_pos (by have := k.h1; omega) (by omega)).1
theorem perQ_mul {r : Run} (k : r.Ok) : (∃ j : Int, (r.a : Rat) * perQ r = 2 * r.w * j) ∧ (∃ j : Int, (r.b : Rat) * perQ r = 2 * r.h * j) := by
  unfold perQ
  by_cases ha : r.a = 0
  · have hb : r.b ≠ 0 := fun e => k.ab ⟨ha, e⟩
    rw [if_pos ha]
    refine ⟨⟨0, ?_⟩, ⟨_, perY_mul hb⟩⟩
    rw [ha]
    simp
  · rw [if_neg ha]
    by_cases hb : r.b = 0
    · rw [if_pos hb]
      refine ⟨⟨_, perX_mul ha⟩, ⟨0, ?_⟩⟩
      rw [hb]
      simp
    · rw [if_neg hb]
      obtain ⟨⟨j1, _, e1⟩, ⟨j2, _, e2⟩⟩ := lcmQ_mul (perX_pos k ha) (perY_pos k hb)
      refine ⟨⟨r.a.sign * j1, ?_⟩, ⟨r.b.sign * j2, ?_⟩⟩
      · rw [e1, Rat.intCast_mul, ← Rat.mul_assoc, perX_mul ha]
        grind
      · rw [e2, Rat.intCast_mul, ← Rat.mul_assoc, perY_mul hb]
        grind
theorem pos_of_num {q : Rat} (h : 0 < q.num) : 0 < q := by
  have h1 : 0 ≤ q := Rat.num_nonneg.mp (by omega)
  refine Rat.lt_of_le_of_ne h1 fun e => ?_
  rw [← e] at h
  exact absurd h (by decide)
theorem num_pos {q : Rat} (h : 0 < q) : 0 < q.num := by
  have h1 : 0 ≤ q.num := Rat.num_nonneg.mpr (Rat.le_of_lt h)
  have h2 : q.num ≠ 0 := fun e => Rat.ne_of_gt h (Rat.num_eq_zero.mp e)
  omega
theorem perQ_pos {r : Run} (k : r.Ok) : 0 < perQ r := by
  unfold perQ
  by_cases ha : r.a = 0
  · have hb : r.b ≠ 0 := fun e => k.ab ⟨ha, e⟩
    rw [if_pos ha]
    exact pos_of_num (perY_pos k hb)
  · rw [if_neg ha]
    by_cases hb : r.b = 0
    · rw [if_pos hb]
      exact pos_of_num (perX_pos k ha)
    · rw [if_neg hb]
      obtain ⟨⟨j1, p1, e1⟩, _⟩ := lcmQ_mul (perX_pos k ha) (perY_pos k hb)
      rw [e1]
      exact Rat.mul_pos (pos_of_num (perX_pos k ha)) (Rat.intCast_pos.mpr p1)
/-- after so many periods the ball is where it was -/
theorem place_period {r : Run} (k : r.Ok) (t : Rat) (m : Int) : placeD r (t + m * perQ r) = placeD r t := by
  obtain ⟨⟨j1, e1⟩, ⟨j2, e2⟩⟩ := perQ_mul k
  unfold placeD
  rw [posX_add k (j := m * j1) (by rw [Rat.intCast_mul]; grind), posY_add k (j := m * j2) (by rw [Rat.intCast_mul]; grind)]
/-! ### the period in ticks -/
theorem rq_den_dvd (n : Int) {d : Int} (hd : 0 < d) : ((rq n d).den : Int) ∣ d := by
  rw [← (low_pos (n := n) hd).2]
  have h : (Int.gcd n d : Int) ∣ d := Int.gcd_dvd_right ..
  obtain ⟨c, e⟩ := h
  have g : 0 < (Int.gcd n d : Int) := by
    have : 0 < Int.gcd n d := Int.gcd_pos_iff.mpr (.inr (by omega))
    omega
  generalize (Int.gcd n d : Int) = z at *
  rw [e, Int.mul_ediv_cancel_left _ (by omega)]
  exact Int.dvd_mul_left ..
theorem lcmQ_least {p q : Rat} (hp : 0 < p.num) (hq : 0 < q.num) {z : Rat} {m1 m2 : Int} (h1 : z = p * m1) (h2 : z = q * m2) : ∃ m : Int, z = lcmQ p q * m := by
  have cp : p.num.natAbs.Coprime p.den := p.reduced
  have cq : q.num.natAbs.Coprime q.den := q.reduced
  have g1 : 0 < Int.gcd p.num q.num := Int.gcd_pos_iff.mpr (.inl (by omega))
  have dp := p.den_pos
  have dq := q.den_pos
  have g2 : 0 < Int.gcd p.den q.den := Int.gcd_pos_iff.mpr (.inl (by omega))
  -- p * m1 = q * m2, over the integers
  have en : p.num * q.den * m1 = q.num * p.den * m2 := by
    have e := h1.symm.trans h2
    have a := num_den p
    have b := num_den q
    have dp0 : (p.den : Rat) ≠ 0 := Rat.ne_of_gt (Rat.natCast_pos.mpr dp)
    have dq0 : (q.den : Rat) ≠ 0 := Rat.ne_of_gt (Rat.natCast_pos.mpr dq)
    refine Rat.intCast_inj.mp ?_
    rw [Rat.intCast_mul, Rat.intCast_mul, Rat.intCast_mul, Rat.intCast_mul]
    rw [show (((p.den : Nat) : Int) : Rat) = (p.den : Rat) from rfl, show (((q.den : Nat) : Int) : Rat) = (q.den : Rat) from rfl]
    generalize (p.den : Rat) = d1 at *
    generalize (q.den : Rat) = d2 at *
    generalize (p.num : Rat) = n1 at *
    generalize (q.num : Rat) = n2 at *
    rw [a, b] at e
    grind
  -- the lcm of the tops over the gcd of the bottoms, as p * c2 * c3
  obtain ⟨n1, hn1⟩ : ∃ n : Nat, p.num = n := ⟨p.num.natAbs, by omega⟩
  obtain ⟨n2, hn2⟩ : ∃ n : Nat, q.num = n := ⟨q.num.natAbs, by omega⟩
  have cp' : n1.Coprime p.den := by rw [hn1] at cp; exact cp
  have cq' : n2.Coprime q.den := by rw [hn2] at cq; exact cq
  have eg : Int.gcd p.num q.num = Nat.gcd n1 n2 := by rw [hn1, hn2]; rfl
  have eh : Int.gcd p.den q.den = Nat.gcd p.den q.den := rfl
  rw [eg] at g1
  rw [eh] at g2
  obtain ⟨c1, e1⟩ := Nat.gcd_dvd_left n1 n2
  obtain ⟨c2, e2⟩ := Nat.gcd_dvd_right n1 n2
  obtain ⟨c3, e3⟩ := Nat.gcd_dvd_left p.den q.den
  obtain ⟨c4, e4⟩ := Nat.gcd_dvd_right p.den q.den
  have k12 : c1.Coprime c2 := by
    have := Nat.coprime_div_gcd_div_gcd (m := n1) (n := n2) g1
    have a1 : n1 / Nat.gcd n1 n2 = c1 := Nat.div_eq_of_eq_mul_right g1 e1
    have a2 : n2 / Nat.gcd n1 n2 = c2 := Nat.div_eq_of_eq_mul_right g1 e2
    rwa [a1, a2] at this
  have k34 : c3.Coprime c4 := by
    have := Nat.coprime_div_gcd_div_gcd (m := p.den) (n := q.den) g2
    have a1 : p.den / Nat.gcd p.den q.den = c3 := Nat.div_eq_of_eq_mul_right g2 e3
    have a2 : q.den / Nat.gcd p.den q.den = c4 := Nat.div_eq_of_eq_mul_right g2 e4
    rwa [a1, a2] at this
  have k13 : c1.Coprime c3 := Nat.Coprime.coprime_dvd_left ⟨Nat.gcd n1 n2, by rw [Nat.mul_comm]; exact e1⟩ (Nat.Coprime.coprime_dvd_right ⟨Nat.gcd p.den q.den, by rw [Nat.mul_comm]; exact e3⟩ cp')
  have k24 : c2.Coprime c4 := Nat.Coprime.coprime_dvd_left ⟨Nat.gcd n1 n2, by rw [Nat.mul_comm]; exact e2⟩ (Nat.Coprime.coprime_dvd_right ⟨Nat.gcd p.den q.den, by rw [Nat.mul_comm]; exact e4⟩ cq')
  have kk : (c2 * c3).Coprime (c1 * c4) := Nat.Coprime.mul_left (Nat.Coprime.mul_right k12.symm k24) (Nat.Coprime.mul_right k13.symm k34)
  generalize hg : Nat.gcd n1 n2 = g at *
  generalize hh : Nat.gcd p.den q.den = h at *
  have c40 : 0 < c4 := by
    rcases Nat.eq_zero_or_pos c4 with z | z
    · rw [z, Nat.mul_zero] at e4; omega
    · exact z
  have c30 : 0 < c3 := by
    rcases Nat.eq_zero_or_pos c3 with z | z
    · rw [z, Nat.mul_zero] at e3; omega
    · exact z
  have gz : (g : Int) ≠ 0 := by omega
  have hz : (h : Int) ≠ 0 := by omega
  have en2 : (c1 * c4 : Nat) * m1 = ((c2 * c3 : Nat) : Int) * m2 := by
    rw [hn1, hn2, e1, e2, e3, e4] at en
    push_cast at en ⊢
    have : (g * h : Int) * (c1 * c4 * m1) = (g * h : Int) * (c2 * c3 * m2) := by grind
    exact Int.eq_of_mul_eq_mul_left (Int.mul_ne_zero gz hz) this
  have dv : ((c2 * c3 : Nat) : Int) ∣ m1 := by
    have : ((c2 * c3 : Nat) : Int) ∣ (c1 * c4 : Nat) * m1 := ⟨m2, en2⟩
    have t2 := Int.dvd_gcd_mul_iff_dvd_mul.mpr this
    rw [show Int.gcd ((c2 * c3 : Nat) : Int) ((c1 * c4 : Nat) : Int) = 1 from kk] at t2
    simpa using t2
  obtain ⟨m, em⟩ := dv
  refine ⟨m, ?_⟩
  rw [h1, em]
  unfold lcmQ rq
  rw [hn1, hn2, e1, e2]
  rw [show Int.gcd ((g * c1 : Nat) : Int) ((g * c2 : Nat) : Int) = g by rw [← e1, ← e2]; exact hg, show Int.gcd p.den q.den = h from hh]
  have top : ((g * c1 : Nat) : Int) * ((g * c2 : Nat) : Int) / (g : Int) = c1 * c2 * g := by
    rw [show ((g * c1 : Nat) : Int) * ((g * c2 : Nat) : Int) = g * (c1 * c2 * g) by push_cast; grind, Int.mul_ediv_cancel_left _ gz]
  rw [top]
  have a := num_den p
  have d : (p.den : Rat) = ((p.den : Int) : Rat) := rfl
  rw [hn1, d, e1, e3] at a
  rw [a]
  have gq : ((g : Int) : Rat) ≠ 0 := fun z => gz (Rat.intCast_inj.mp (z.trans Rat.intCast_zero.symm))
  have hq' : ((h : Int) : Rat) ≠ 0 := fun z => hz (Rat.intCast_inj.mp (z.trans Rat.intCast_zero.symm))
  have c3q : ((c3 : Int) : Rat) ≠ 0 := fun z => by
    have := Rat.intCast_inj.mp (z.trans Rat.intCast_zero.symm)
    omega
  simp only [Rat.intCast_mul, Int.natCast_mul] at a ⊢
  generalize ((g : Int) : Rat) = x1 at *
  generalize ((h : Int) : Rat) = x2 at *
  generalize ((c3 : Int) : Rat) = x3 at *
  generalize ((c1 : Int) : Rat) = x4 at *
  generalize ((c2 : Int) : Rat) = x5 at *
  clear a top em en2 en h1 h2
  grind
/-- p divides z in whole parts, times u -/
theorem ticks {r : Run} (k : r.Ok) {u : Int} (hu : 0 < u) (ha : r.a ≠ 0 → r.a ∣ u) (hb : r.b ≠ 0 → r.b ∣ u) :
    ∃ T : Int, 0 < T ∧ (perQ r).num * u = T * (perQ r).den ∧ rq T u = perQ r ∧ (perQ r).den ≤ 6 ∧ (perQ r).num ≤ 576 ∧ T ≤ 576 * u := by
  have hdx : r.a ≠ 0 → ((perX r).den : Int) ∣ u ∧ (perX r).den ≤ 6 ∧ (perX r).num ≤ 24 := fun h => by
    have e := rq_den_dvd (2 * r.w) (d := (r.a.natAbs : Int)) (by omega)
    have := k.a1; have := k.a2; have := k.w1; have := k.w2
    have p := rq_pos (n := 2 * r.w) (d := (r.a.natAbs : Int)) (by omega) (by omega)
    refine ⟨Int.dvd_trans e (Int.dvd_trans (Int.natAbs_dvd.mpr (Int.dvd_refl _)) (ha h)), ?_, ?_⟩
    · unfold perX; omega
    · unfold perX; omega
  have hdy : r.b ≠ 0 → ((perY r).den : Int) ∣ u ∧ (perY r).den ≤ 6 ∧ (perY r).num ≤ 24 := fun h => by
    have e := rq_den_dvd (2 * r.h) (d := (r.b.natAbs : Int)) (by omega)
    have := k.b1; have := k.b2; have := k.h1; have := k.h2
    have p := rq_pos (n := 2 * r.h) (d := (r.b.natAbs : Int)) (by omega) (by omega)
    refine ⟨Int.dvd_trans e (Int.dvd_trans (Int.natAbs_dvd.mpr (Int.dvd_refl _)) (hb h)), ?_, ?_⟩
    · unfold perY; omega
    · unfold perY; omega
  have hd : ((perQ r).den : Int) ∣ u ∧ (perQ r).den ≤ 6 ∧ (perQ r).num ≤ 576 := by
    unfold perQ
    by_cases h1 : r.a = 0
    · have h2 : r.b ≠ 0 := fun e => k.ab ⟨h1, e⟩
      rw [if_pos h1]
      have := hdy h2
      exact ⟨this.1, this.2.1, by omega⟩
    · rw [if_neg h1]
      by_cases h2 : r.b = 0
      · rw [if_pos h2]
        have := hdx h1
        exact ⟨this.1, this.2.1, by omega⟩
      · rw [if_neg h2]
        have q1 := hdx h1
        have q2 := hdy h2
        have p1 := perX_pos k h1
        have p2 := perY_pos k h2
        generalize perX r = p at *
        generalize perY r = q at *
        have g2 : 0 < Int.gcd p.den q.den := Int.gcd_pos_iff.mpr (.inl (by have := p.den_pos; omega))
        have e := rq_den_dvd (p.num * q.num / (Int.gcd p.num q.num : Int)) (d := (Int.gcd p.den q.den : Int)) (by omega)
        have g1 : 0 < Int.gcd p.num q.num := Int.gcd_pos_iff.mpr (.inl (by omega))
        have g3 : (Int.gcd p.num q.num : Int) ∣ p.num := Int.gcd_dvd_left ..
        have n0 : 0 < p.num * q.num / (Int.gcd p.num q.num : Int) := Int.ediv_pos_of_pos_of_dvd (Int.mul_pos p1 p2) (by omega) (Int.dvd_mul_of_dvd_left g3)
        have n1 : p.num * q.num / (Int.gcd p.num q.num : Int) ≤ p.num * q.num := Int.ediv_le_self _ (Int.le_of_lt (Int.mul_pos p1 p2))
        have n2 : p.num * q.num ≤ 24 * 24 := Int.mul_le_mul q1.2.2 q2.2.2 (by omega) (by decide)
        have n3 := rq_pos n0 (d := (Int.gcd p.den q.den : Int)) (by omega)
        have g4 : Int.gcd p.den q.den ≤ p.den := Nat.le_of_dvd p.den_pos (Nat.gcd_dvd_left _ _)
        refine ⟨Int.dvd_trans e (Int.dvd_trans (Int.gcd_dvd_left ..) q1.1), ?_, ?_⟩
        · unfold lcmQ; omega
        · unfold lcmQ; omega
  obtain ⟨⟨c, e⟩, hd2, hn⟩ := hd
  have d0 := (perQ r).den_pos
  have np := num_pos (perQ_pos k)
  have c0 : 0 < c := by
    rcases (by omega : 0 < c ∨ c ≤ 0) with z | z
    · exact z
    · exfalso
      have := Int.mul_nonpos_of_nonneg_of_nonpos (show (0 : Int) ≤ (perQ r).den by omega) z
      omega
  refine ⟨(perQ r).num * c, Int.mul_pos np c0, by rw [e]; grind, ?_, hd2, hn, ?_⟩
  · have e2 := num_den (perQ r)
    have : rq ((perQ r).num * c) u = rq (perQ r).num (perQ r).den := rq_eq (by omega) (by omega) (by rw [e]; grind)
    rw [this]
    unfold rq
    rw [show (((perQ r).den : Int) : Rat) = ((perQ r).den : Rat) from rfl, ← e2]
  · have : c ≤ u := by
      have q := Int.mul_le_mul_of_nonneg_right (show (1 : Int) ≤ (perQ r).den by omega) (show 0 ≤ c by omega)
      rw [← e, Int.one_mul] at q
      exact q
    exact Int.mul_le_mul hn this (by omega) (by decide)
theorem perQ_least {r : Run} (k : r.Ok) {z : Rat} (h1 : r.a ≠ 0 → ∃ j : Int, r.a * z = 2 * r.w * j) (h2 : r.b ≠ 0 → ∃ j : Int, r.b * z = 2 * r.h * j) : ∃ m : Int, z = perQ r * m := by
  have hx : r.a ≠ 0 → ∃ m : Int, z = perX r * m := fun h => by
    obtain ⟨j, e⟩ := h1 h
    have a0 : (r.a : Rat) ≠ 0 := fun q => h (Rat.intCast_inj.mp (q.trans Rat.intCast_zero.symm))
    have ep := perX_mul h
    have s2 : r.a.sign * r.a.sign = 1 := by
      rcases Int.lt_or_gt_of_ne h with q | q
      · rw [Int.sign_eq_neg_one_of_neg q]; rfl
      · rw [Int.sign_eq_one_of_pos q]; rfl
    have s3 : ((r.a.sign : Int) : Rat) * (r.a.sign : Int) = 1 := by rw [← Rat.intCast_mul, s2]; rfl
    refine ⟨r.a.sign * j, ?_⟩
    have : (r.a : Rat) * z = r.a * (perX r * (r.a.sign * j : Int)) := by
      rw [e, ← Rat.mul_assoc, ep, Rat.intCast_mul]
      generalize ((r.a.sign : Int) : Rat) = s at *
      grind
    generalize (perX r * (r.a.sign * j : Int)) = y at *
    grind
  have hy : r.b ≠ 0 → ∃ m : Int, z = perY r * m := fun h => by
    obtain ⟨j, e⟩ := h2 h
    have a0 : (r.b : Rat) ≠ 0 := fun q => h (Rat.intCast_inj.mp (q.trans Rat.intCast_zero.symm))
    have ep := perY_mul h
    have s2 : r.b.sign * r.b.sign = 1 := by
      rcases Int.lt_or_gt_of_ne h with q | q
      · rw [Int.sign_eq_neg_one_of_neg q]; rfl
      · rw [Int.sign_eq_one_of_pos q]; rfl
    have s3 : ((r.b.sign : Int) : Rat) * (r.b.sign : Int) = 1 := by rw [← Rat.intCast_mul, s2]; rfl
    refine ⟨r.b.sign * j, ?_⟩
    have : (r.b : Rat) * z = r.b * (perY r * (r.b.sign * j : Int)) := by
      rw [e, ← Rat.mul_assoc, ep, Rat.intCast_mul]
      generalize ((r.b.sign : Int) : Rat) = s at *
      grind
    generalize (perY r * (r.b.sign * j : Int)) = y at *
    grind
  unfold perQ
  by_cases ha : r.a = 0
  · rw [if_pos ha]
    exact hy fun e => k.ab ⟨ha, e⟩
  · rw [if_neg ha]
    by_cases hb : r.b = 0
    · rw [if_pos hb]; exact hx ha
    · rw [if_neg hb]
      obtain ⟨m1, e1⟩ := hx ha
      obtain ⟨m2, e2⟩ := hy hb
      exact lcmQ_least (perX_pos k ha) (perY_pos k hb) e1 e2
/-- the same in ticks -/
theorem ticks_least {r : Run} (k : r.Ok) {u T p : Int} (hu : 0 < u) (hT : rq T u = perQ r) (h1 : r.a ≠ 0 → 2 * r.w * u ∣ r.a * p) (h2 : r.b ≠ 0 → 2 * r.h * u ∣ r.b * p) : T ∣ p := by
  have u0 : (u : Rat) ≠ 0 := Rat.ne_of_gt (Rat.intCast_pos.mpr hu)
  have hh : ∀ {a w : Int}, 2 * w * u ∣ a * p → ∃ j : Int, (a : Rat) * rq p u = 2 * w * j := fun {a w} ⟨j, e⟩ => by
    refine ⟨j, ?_⟩
    have : (a : Rat) * p = 2 * w * u * j := by
      have := congrArg (Int.cast : Int → Rat) e
      rw [Rat.intCast_mul, Rat.intCast_mul, Rat.intCast_mul, Rat.intCast_mul] at this
      exact this
    unfold rq
    grind
  obtain ⟨m, e⟩ := perQ_least k (fun h => hh (h1 h)) (fun h => hh (h2 h))
  refine ⟨m, ?_⟩
  rw [← hT] at e
  unfold rq at e
  refine Rat.intCast_inj.mp ?_
  rw [Rat.intCast_mul]
  grind
theorem rq_inj {m n u : Int} (hu : 0 < u) (h : rq m u = rq n u) : m = n := by
  have u0 : (u : Rat) ≠ 0 := Rat.ne_of_gt (Rat.intCast_pos.mpr hu)
  unfold rq at h
  refine Rat.intCast_inj.mp ?_
  grind
theorem rq_addT {m n u : Int} : rq (m + n) u = rq m u + rq n u := by
  unfold rq
  rw [Rat.intCast_add]
  grind
/-- a tick's spot and the ball's place -/
theorem spot_place {r : Run} (k : r.Ok) {u : Int} (hu : 0 < u) (ha : r.a ≠ 0 → r.a ∣ u) (hb : r.b ≠ 0 → r.b ∣ u) (m n : Nat) (h : placeD r (rq m u) = placeD r (rq n u)) : wSpot r u m = wSpot r u n := by
  unfold placeD at h
  rw [← wX_pos k hu ha, ← wX_pos k hu ha, ← wY_pos k hu hb, ← wY_pos k hu hb] at h
  injection h with h
  injection h with h1 h2
  injection h2 with h2 _
  have e1 := rq_inj hu (fr_inj h1)
  have e2 := rq_inj hu (fr_inj h2)
  unfold wSpot
  rw [e1, e2]
theorem spot_period {r : Run} (k : r.Ok) {u : Int} (hu : 0 < u) (ha : r.a ≠ 0 → r.a ∣ u) (hb : r.b ≠ 0 → r.b ∣ u) {T : Nat} (hT : rq T u = perQ r) (n : Nat) : wSpot r u (n + T) = wSpot r u n := by
  refine spot_place k hu ha hb _ _ ?_
  have e : rq ((n + T : Nat) : Int) u = rq n u + (1 : Int) * perQ r := by
    rw [Int.natCast_add, rq_addT, hT, show ((1 : Int) : Rat) = 1 from rfl, Rat.one_mul]
  rw [e, place_period k]
theorem foldI_zero {z m : Int} (hm : 0 < m) : foldI z m = 0 ↔ 2 * m ∣ z := by
  have r0 := Int.emod_nonneg z (show 2 * m ≠ 0 by omega)
  have r1 := Int.emod_lt_of_pos z (show 0 < 2 * m by omega)
  rw [Int.dvd_iff_emod_eq_zero]
  unfold foldI
  split <;> omega
theorem ax_period {W X A T p : Int} (hW : 0 < W) (hA : A ≠ 0) (dX : A ∣ X) (dW : A ∣ W) (hT : 0 < T) (dT : 2 * W ∣ A * T) (h : ∀ i : Int, 0 ≤ i → i < T → foldI (X + A * (i + p)) W = foldI (X + A * i) W) : 2 * W ∣ A * p := by
  obtain ⟨x, rfl⟩ := dX
  obtain ⟨n, rfl⟩ := dW
  -- in steps: N = 2 |n|
  have n0 : n ≠ 0 := fun e => by rw [e, Int.mul_zero] at hW; omega
  have dv : ∀ z : Int, 2 * (A * n) ∣ A * z ↔ (2 * n) ∣ z := fun z => by
    rw [show 2 * (A * n) = A * (2 * n) by grind]
    exact Int.mul_dvd_mul_iff_left hA
  rw [dv] at dT ⊢
  have i0 : ∃ i : Int, 0 ≤ i ∧ i < T ∧ 2 * n ∣ x + i := by
    refine ⟨(-x) % (2 * n), Int.emod_nonneg _ (by omega), ?_, ?_⟩
    · have h1 : (-x) % (2 * n) < ((2 * n).natAbs : Int) := Int.emod_lt _ (by omega)
      have h2 : ((2 * n).natAbs : Int) ≤ T := Int.le_of_dvd hT (Int.natAbs_dvd.mpr dT)
      omega
    · rw [Int.emod_def]
      refine ⟨-(-x / (2 * n)), ?_⟩
      grind
  obtain ⟨i, h1, h2, h3⟩ := i0
  have e1 := h i h1 h2
  have e2 : foldI (A * x + A * i) (A * n) = 0 := (foldI_zero hW).mpr (by rw [← Int.mul_add, dv]; exact h3)
  rw [e2, foldI_zero hW, show A * x + A * (i + p) = A * (x + i + p) by grind, dv] at e1
  have := Int.dvd_sub e1 h3
  rwa [show x + i + p - (x + i) = p by omega] at this
/-- the places come back to themselves after whole periods alone -/
theorem spots_least {r : Run} (k : r.Ok) {u : Int} (hu : 0 < u) (ha : r.a ≠ 0 → r.a ∣ u) (hb : r.b ≠ 0 → r.b ∣ u) {T p : Nat} (hT0 : 0 < T) (hT : rq T u = perQ r) (h : ∀ i : Nat, i < T → wSpot r u (i + p) = wSpot r u i) : T ∣ p := by
  have u0 : (u : Rat) ≠ 0 := Rat.ne_of_gt (Rat.intCast_pos.mpr hu)
  have hj : ∀ {a w : Int}, (∃ j : Int, (a : Rat) * perQ r = 2 * w * j) → 2 * (w * u) ∣ a * T := fun {a w} ⟨j, e⟩ => by
    refine ⟨j, ?_⟩
    rw [← hT] at e
    unfold rq at e
    refine Rat.intCast_inj.mp ?_
    rw [Rat.intCast_mul, Rat.intCast_mul, Rat.intCast_mul, Rat.intCast_mul, show ((2 : Int) : Rat) = 2 from rfl]
    grind
  have hs : ∀ i : Nat, i < T → (wX r u (i + p)).1 = (wX r u i).1 ∧ (wY r u (i + p)).1 = (wY r u i).1 := fun i hi => by
    have e := h i hi
    unfold wSpot at e
    injection e with e
    injection e with e1 e2
    injection e2 with e2 _
    injection e1 with e1
    injection e2 with e2
    exact ⟨e1, e2⟩
  have hx : r.a ≠ 0 → 2 * r.w * u ∣ r.a * p := fun h0 => by
    rw [Int.mul_assoc]
    refine ax_period (X := r.x * u) (T := T) (Int.mul_pos (by have := k.w1; omega) hu) h0 (Int.dvd_mul_of_dvd_right (ha h0)) (Int.dvd_mul_of_dvd_right (ha h0)) (by omega) (hj (perQ_mul k).1) fun i h1 h2 => ?_
    obtain ⟨n, rfl⟩ : ∃ n : Nat, i = n := ⟨i.toNat, by omega⟩
    have e := (hs n (by omega)).1
    rw [(wX_fold k hu ha _).1, (wX_fold k hu ha _).1] at e
    exact e
  have hy : r.b ≠ 0 → 2 * r.h * u ∣ r.b * p := fun h0 => by
    rw [Int.mul_assoc]
    refine ax_period (X := r.y * u) (T := T) (Int.mul_pos (by have := k.h1; omega) hu) h0 (Int.dvd_mul_of_dvd_right (hb h0)) (Int.dvd_mul_of_dvd_right (hb h0)) (by omega) (hj (perQ_mul k).2) fun i h1 h2 => ?_
    obtain ⟨n, rfl⟩ : ∃ n : Nat, i = n := ⟨i.toNat, by omega⟩
    have e := (hs n (by omega)).2
    rw [(wY_fold k hu hb _).1, (wY_fold k hu hb _).1] at e
    exact e
  exact Int.natCast_dvd_natCast.mp (ticks_least k hu hT hx hy)
/-! ### hits -/
def waitK (x a w n d : Int) : Int := if 0 < a then (x * d + a * n) / (w * d) + 1 else -(-(x * d + a * n) / (w * d)) - 1
def waitQ (x a w : Int) (t : Rat) : Rat := rq (waitK x a w t.num t.den * w - x) a
theorem rq_self (q : Rat) : rq q.num q.den = q := (num_den q).symm
theorem rq_cross (n : Int) {d : Int} (hd : 0 < d) : n * ((rq n d).den : Int) = (rq n d).num * d := by
  have e : rq n d = rq (rq n d).num (rq n d).den := (rq_self _).symm
  have d0 := (rq n d).den_pos
  generalize (rq n d).num = N at *
  generalize (rq n d).den = D at *
  have u0 : (d : Rat) ≠ 0 := Rat.ne_of_gt (Rat.intCast_pos.mpr hd)
  have u1 : ((D : Int) : Rat) ≠ 0 := Rat.ne_of_gt (Rat.intCast_pos.mpr (by omega))
  unfold rq at e
  refine Rat.intCast_inj.mp ?_
  rw [Rat.intCast_mul, Rat.intCast_mul]
  grind
theorem div_rq {p q r s : Int} (hq : 0 < q) (hs : 0 < s) (h : p * s = r * q) : p / q = r / s := by
  rw [← floor_rq p hq, ← floor_rq r hs, rq_eq (by omega) (by omega) h]
theorem waitK_rq (x a : Int) {w : Int} (hw : 0 < w) (n : Int) {d : Int} (hd : 0 < d) : waitK x a w (rq n d).num (rq n d).den = waitK x a w n d := by
  have c := rq_cross n hd
  have d0 := (rq n d).den_pos
  unfold waitK
  generalize (rq n d).num = N at *
  generalize (rq n d).den = D at *
  have p1 : 0 < w * (D : Int) := Int.mul_pos hw (by omega)
  have p2 : 0 < w * d := Int.mul_pos hw hd
  rw [div_rq (p := x * D + a * N) (q := w * D) (r := x * d + a * n) (s := w * d) p1 p2 (by grind),
    div_rq (p := -(x * D + a * N)) (q := w * D) (r := -(x * d + a * n)) (s := w * d) p1 p2 (by grind)]
theorem wait_tick {x a w u : Int} (m : Int) (hw : 0 < w) (hu : 0 < u) (ha : a ≠ 0) (dv : a ∣ u) :
    ∃ m' : Int, waitQ x a w (rq m u) = rq m' u ∧ m < m' ∧ m' ≤ m + w * u ∧ w * u ∣ x * u + a * m' ∧ ∀ i, m < i → i < m' → ¬ (w * u ∣ x * u + a * i) := by
  obtain ⟨c, ec⟩ := dv
  have hW : 0 < w * u := Int.mul_pos hw hu
  unfold waitQ
  rw [waitK_rq x a hw m hu]
  generalize hK : waitK x a w m u = K
  have em : a * ((K * w - x) * c) = K * (w * u) - x * u := by rw [ec]; grind
  refine ⟨(K * w - x) * c, rq_eq ha (by omega) (by rw [ec]; grind), ?_⟩
  generalize hm' : (K * w - x) * c = m' at *
  have key : (0 < a ∧ (K - 1) * (w * u) ≤ x * u + a * m ∧ x * u + a * m < K * (w * u)) ∨ (a < 0 ∧ K * (w * u) < x * u + a * m ∧ x * u + a * m ≤ (K + 1) * (w * u)) := by
    unfold waitK at hK
    generalize x * u + a * m = z at *
    generalize w * u = W at *
    by_cases hp : 0 < a
    · rw [if_pos hp] at hK
      have e := Int.mul_ediv_add_emod z W
      have e1 := Int.emod_nonneg z (show W ≠ 0 by omega)
      have e2 := Int.emod_lt_of_pos z hW
      refine .inl ⟨hp, ?_, ?_⟩
      · rw [← hK, show z / W + 1 - 1 = z / W by omega, Int.mul_comm]; omega
      · rw [← hK, Int.add_mul, Int.one_mul, Int.mul_comm]; omega
    · rw [if_neg hp] at hK
      have e := Int.mul_ediv_add_emod (-z) W
      have e1 := Int.emod_nonneg (-z) (show W ≠ 0 by omega)
      have e2 := Int.emod_lt_of_pos (-z) hW
      refine .inr ⟨by omega, ?_, ?_⟩
      · rw [← hK, Int.sub_mul, Int.neg_mul, Int.one_mul, Int.mul_comm]; omega
      · rw [← hK, show -(-z / W) - 1 + 1 = -(-z / W) by omega, Int.neg_mul, Int.mul_comm]; omega
  have dvm : w * u ∣ x * u + a * m' := ⟨K, by rw [em]; grind⟩
  have noW : ∀ {i j : Int}, x * u + a * i = w * u * j → (j ≤ K - 1 → x * u + a * i ≤ (K - 1) * (w * u)) ∧ (K ≤ j → K * (w * u) ≤ x * u + a * i) ∧ (j ≤ K → x * u + a * i ≤ K * (w * u)) ∧ (K + 1 ≤ j → (K + 1) * (w * u) ≤ x * u + a * i) := fun {i j} e => by
    rw [e, Int.mul_comm (w * u) j]
    exact ⟨fun h => Int.mul_le_mul_of_nonneg_right h (by omega), fun h => Int.mul_le_mul_of_nonneg_right h (by omega), fun h => Int.mul_le_mul_of_nonneg_right h (by omega), fun h => Int.mul_le_mul_of_nonneg_right h (by omega)⟩
  rcases key with ⟨hp, k1, k2⟩ | ⟨hn, k1, k2⟩
  · rw [Int.sub_mul, Int.one_mul] at k1
    have l1 : a * m < a * m' := by omega
    have l2 : a * (m' - m) ≤ a * (w * u) := by
      rw [Int.mul_sub]
      have : w * u ≤ a * (w * u) := by
        have := Int.mul_le_mul_of_nonneg_right (show 1 ≤ a by omega) (show 0 ≤ w * u by omega)
        rwa [Int.one_mul] at this
      omega
    refine ⟨Int.lt_of_mul_lt_mul_left l1 (by omega), by have := Int.le_of_mul_le_mul_left l2 hp; omega, dvm, fun i h1 h2 ⟨j, e⟩ => ?_⟩
    have q1 := Int.mul_lt_mul_of_pos_left h1 hp
    have q2 := Int.mul_lt_mul_of_pos_left h2 hp
    obtain ⟨n1, n2, -, -⟩ := noW e
    rw [Int.sub_mul, Int.one_mul] at n1
    by_cases hj : j ≤ K - 1
    · have := n1 hj; omega
    · have := n2 (by omega); omega
  · rw [Int.add_mul, Int.one_mul] at k2
    have l1 : a * m' < a * m := by omega
    have l1' : -a * m < -a * m' := by rw [Int.neg_mul, Int.neg_mul]; omega
    have l2 : -a * (m' - m) ≤ -a * (w * u) := by
      rw [Int.mul_sub, Int.neg_mul, Int.neg_mul]
      have : w * u ≤ -a * (w * u) := by
        have := Int.mul_le_mul_of_nonneg_right (show 1 ≤ -a by omega) (show 0 ≤ w * u by omega)
        rwa [Int.one_mul] at this
      omega
    refine ⟨Int.lt_of_mul_lt_mul_left l1' (by omega), by have := Int.le_of_mul_le_mul_left l2 (by omega); omega, dvm, fun i h1 h2 ⟨j, e⟩ => ?_⟩
    have q1 := Int.mul_lt_mul_of_pos_left h1 (show 0 < -a by omega)
    have q2 := Int.mul_lt_mul_of_pos_left h2 (show 0 < -a by omega)
    rw [Int.neg_mul, Int.neg_mul] at q1 q2
    obtain ⟨-, -, n3, n4⟩ := noW e
    rw [Int.add_mul, Int.one_mul] at n4
    by_cases hj : j ≤ K
    · have := n3 hj; omega
    · have := n4 (by omega); omega
theorem rq_lt {m n u : Int} (hu : 0 < u) : rq m u < rq n u ↔ m < n := by
  have u0 : (0 : Rat) < u := Rat.intCast_pos.mpr hu
  unfold rq
  rw [Rat.div_lt_iff u0, Rat.div_mul_cancel (Rat.ne_of_gt u0), Rat.intCast_lt_intCast]
/-- the next hit -/
def nextQ (r : Run) (t : Rat) : Rat := if r.a = 0 then waitQ r.y r.b r.h t else if r.b = 0 then waitQ r.x r.a r.w t else if waitQ r.y r.b r.h t < waitQ r.x r.a r.w t then waitQ r.y r.b r.h t else waitQ r.x r.a r.w t
def wallX (r : Run) (u m : Int) : Prop := r.a ≠ 0 ∧ r.w * u ∣ r.x * u + r.a * m
def wallY (r : Run) (u m : Int) : Prop := r.b ≠ 0 ∧ r.h * u ∣ r.y * u + r.b * m
def wallAt (r : Run) (u m : Int) : Prop := wallX r u m ∨ wallY r u m
structure IsNext (r : Run) (u m m' : Int) : Prop where
  lt : m < m'
  le : m' ≤ m + 12 * u
  at_ : wallAt r u m'
  no : ∀ i, m < i → i < m' → ¬ wallAt r u i
theorem next_tick {r : Run} (k : r.Ok) {u : Int} (hu : 0 < u) (ha : r.a ≠ 0 → r.a ∣ u) (hb : r.b ≠ 0 → r.b ∣ u) (m : Int) : ∃ m', nextQ r (rq m u) = rq m' u ∧ IsNext r u m m' := by
  have hw : 0 < r.w := by have := k.w1; omega
  have hh : 0 < r.h := by have := k.h1; omega
  have w12 : r.w * u ≤ 12 * u := Int.mul_le_mul_of_nonneg_right k.w2 (by omega)
  have h12 : r.h * u ≤ 12 * u := Int.mul_le_mul_of_nonneg_right k.h2 (by omega)
  unfold nextQ
  by_cases h1 : r.a = 0
  · have h2 : r.b ≠ 0 := fun e => k.ab ⟨h1, e⟩
    rw [if_pos h1]
    obtain ⟨m', e, l1, l2, d, n⟩ := wait_tick (x := r.y) m hh hu h2 (hb h2)
    exact ⟨m', e, l1, by omega, .inr ⟨h2, d⟩, fun i a b z => z.elim (fun q => q.1 h1) fun q => n i a b q.2⟩
  · rw [if_neg h1]
    obtain ⟨m1, e, l1, l2, d, n⟩ := wait_tick (x := r.x) m hw hu h1 (ha h1)
    by_cases h2 : r.b = 0
    · rw [if_pos h2]
      exact ⟨m1, e, l1, by omega, .inl ⟨h1, d⟩, fun i a b z => z.elim (fun q => n i a b q.2) fun q => q.1 h2⟩
    · rw [if_neg h2]
      obtain ⟨m2, e', l1', l2', d', n'⟩ := wait_tick (x := r.y) m hh hu h2 (hb h2)
      rw [e, e']
      by_cases hl : m2 < m1
      · rw [if_pos ((rq_lt hu).mpr hl)]
        exact ⟨m2, rfl, l1', by omega, .inr ⟨h2, d'⟩, fun i a b z => z.elim (fun q => n i a (by omega) q.2) fun q => n' i a b q.2⟩
      · rw [if_neg fun q => hl ((rq_lt hu).mp q)]
        exact ⟨m1, rfl, l1, by omega, .inl ⟨h1, d⟩, fun i a b z => z.elim (fun q => n i a b q.2) fun q => n' i a (by omega) q.2⟩
theorem IsNext.uniq {r : Run} {u m m1 m2 : Int} (h1 : IsNext r u m m1) (h2 : IsNext r u m m2) : m1 = m2 := by
  rcases (by omega : m1 < m2 ∨ m1 = m2 ∨ m2 < m1) with h | h | h
  · exact absurd h1.at_ (h2.no m1 h1.lt h)
  · exact h
  · exact absurd h2.at_ (h1.no m2 h2.lt h)
def hT (r : Run) : Nat → Rat
  | 0 => 0
  | n + 1 => nextQ r (hT r n)
def hN (r : Run) (u : Int) (n : Nat) : Int := (hT r n * u).floor
theorem hN_of {r : Run} {u m : Int} (hu : 0 < u) {n : Nat} (h : hT r n = rq m u) : hN r u n = m := by
  have u0 : (u : Rat) ≠ 0 := Rat.ne_of_gt (Rat.intCast_pos.mpr hu)
  unfold hN
  rw [h]
  unfold rq
  rw [Rat.div_mul_cancel u0, Rat.floor_intCast]
theorem hT_tick {r : Run} (k : r.Ok) {u : Int} (hu : 0 < u) (ha : r.a ≠ 0 → r.a ∣ u) (hb : r.b ≠ 0 → r.b ∣ u) : ∀ n : Nat, hT r n = rq (hN r u n) u ∧ 0 ≤ hN r u n ∧ hN r u n ≤ 12 * u * n
  | 0 => by
    have e : hT r 0 = rq 0 u := by rw [rq_div, Rat.zero_divInt]; rfl
    rw [hN_of hu e]
    exact ⟨e, Int.le_refl _, by simp⟩
  | n + 1 => by
    obtain ⟨e, h0, h1⟩ := hT_tick k hu ha hb n
    obtain ⟨m', e2, x⟩ := next_tick k hu ha hb (hN r u n)
    have e3 : hT r (n + 1) = rq m' u := by
      show nextQ r (hT r n) = _
      rw [e]
      exact e2
    rw [hN_of hu e3]
    have := x.lt
    have := x.le
    refine ⟨e3, by omega, ?_⟩
    rw [Int.natCast_add, Int.mul_add]
    simp only [Int.natCast_one, Int.mul_one]
    omega
theorem hN_next {r : Run} (k : r.Ok) {u : Int} (hu : 0 < u) (ha : r.a ≠ 0 → r.a ∣ u) (hb : r.b ≠ 0 → r.b ∣ u) (n : Nat) : IsNext r u (hN r u n) (hN r u (n + 1)) := by
  obtain ⟨e, h0, h1⟩ := hT_tick k hu ha hb n
  obtain ⟨m', e2, x⟩ := next_tick k hu ha hb (hN r u n)
  have e3 : hT r (n + 1) = rq m' u := by
    show nextQ r (hT r n) = _
    rw [e]
    exact e2
  rw [hN_of hu e3]
  exact x
/-- the unit of a run -/
def unitOf (r : Run) : Int := (unitN [r.a, r.b] : Int)
theorem unit_facts {r : Run} (k : r.Ok) : 0 < unitOf r ∧ unitOf r ≤ 36 ∧ (r.a ≠ 0 → r.a ∣ unitOf r) ∧ (r.b ≠ 0 → r.b ∣ unitOf r) := by
  have hu := unitN_pos [r.a, r.b]
  have hu2 : unitN [r.a, r.b] ≤ 6 ^ 2 := unitN_le [r.a, r.b] 6 (by decide) (fun n hn => by
    have := k.a1; have := k.a2; have := k.b1; have := k.b2
    simp only [List.mem_cons, List.not_mem_nil, or_false] at hn
    rcases hn with e | e <;> omega)
  unfold unitOf
  exact ⟨by omega, by omega, unitN_dvd (by simp), unitN_dvd (by simp)⟩
/-- how great a hit's time is -/
theorem rq_bound {m u : Int} (hu : 0 < u) (h0 : 0 ≤ m) : 0 ≤ (rq m u).num ∧ (rq m u).num ≤ m ∧ ((rq m u).den : Int) ≤ u := by
  have h := low_pos (n := m) hu
  have g : 0 ≤ (Int.gcd m u : Int) := by omega
  rw [← h.1, ← h.2]
  exact ⟨Int.ediv_nonneg h0 g, Int.ediv_le_self _ h0, Int.ediv_le_self _ (by omega)⟩
theorem hT_bound {r : Run} (k : r.Ok) (n : Nat) (hn : n ≤ 30000) : 0 ≤ (hT r n).num ∧ (hT r n).num ≤ 12960000 ∧ (hT r n).den ≤ 36 := by
  obtain ⟨hu, hu2, ha, hb⟩ := unit_facts k
  obtain ⟨e, h0, h1⟩ := hT_tick k hu ha hb n
  have b := rq_bound hu h0
  rw [← e] at b
  have : 12 * unitOf r * n ≤ 432 * 30000 := Int.mul_le_mul (by omega) (by omega) (by omega) (by decide)
  exact ⟨b.1, by omega, by omega⟩
def wallsX (r : Run) (t : Rat) : Str := if r.a ≠ 0 then (if posX r t = 0 then ("L" : Str) else if posX r t = r.w then ("R" : Str) else ("" : Str)) else ("" : Str)
def wallsY (r : Run) (t : Rat) : Str := if r.b ≠ 0 then (if posY r t = 0 then ("B" : Str) else if posY r t = r.h then ("T" : Str) else ("" : Str)) else ("" : Str)
def wallsS (r : Run) (t : Rat) : Str := wallsX r t ++ wallsY r t
def hitD (r : Run) (i : Nat) : PyData := .tuple [fr (hT r (i + 1)), .str (wallsS r (hT r (i + 1)))]
def hitsL (r : Run) (n : Nat) : List PyData := (List.range n).map (hitD r)
theorem rq_is_zero {m u : Int} (hu : 0 < u) : rq m u = 0 ↔ m = 0 := by
  constructor
  · intro h
    refine rq_inj hu ?_
    rw [h, rq_div, Rat.zero_divInt]
  · intro h; rw [h, rq_div, Rat.zero_divInt]
theorem rq_is_int {m u w : Int} (hu : 0 < u) : rq m u = (w : Rat) ↔ m = w * u := by
  have u0 : (u : Rat) ≠ 0 := Rat.ne_of_gt (Rat.intCast_pos.mpr hu)
  have e : (w : Rat) = rq (w * u) u := by
    unfold rq
    rw [Rat.intCast_mul]
    grind
  rw [e]
  exact ⟨rq_inj hu, fun h => by rw [h]⟩
theorem dirI_zero {z W A : Int} : dirI z W A = 0 ↔ A = 0 := by
  unfold dirI
  repeat' split
  all_goals omega
theorem ax_pos {r : Run} (k : r.Ok) {u : Int} (hu : 0 < u) (hd : r.a ≠ 0 → r.a ∣ u) (n : Nat) : (wX r u n).1 + (wX r u n).2 = (wX r u (n + 1)).1 ∧ ((wX r u n).2 = 0 ↔ r.a = 0) := ⟨rfl, by rw [(wX_fold k hu hd n).2]; exact dirI_zero⟩
theorem ay_pos {r : Run} (k : r.Ok) {u : Int} (hu : 0 < u) (hd : r.b ≠ 0 → r.b ∣ u) (n : Nat) : (wY r u n).1 + (wY r u n).2 = (wY r u (n + 1)).1 ∧ ((wY r u n).2 = 0 ↔ r.b = 0) := ⟨rfl, by rw [(wY_fold k hu hd n).2]; exact dirI_zero⟩
theorem axName_if {W p q : Int} {A : Int} {l r' : Str} (h : q = 0 ↔ A = 0) : axName W (p, q) l r' = if A ≠ 0 then (if p + q = 0 then l else if p + q = W then r' else "") else "" := by
  unfold axName
  simp only []
  by_cases hA : A = 0
  · rw [if_neg (fun z => z.1 (h.mpr hA)), if_neg (fun z => z hA)]
  · have hq : q ≠ 0 := fun z => hA (h.mp z)
    rw [if_pos hA]
    by_cases h1 : p + q = 0
    · rw [if_pos ⟨hq, .inl h1⟩, if_pos h1, if_pos h1]
    · by_cases h2 : p + q = W
      · rw [if_pos ⟨hq, .inr h2⟩, if_neg h1, if_neg h1, if_pos h2]
      · rw [if_neg (fun z => z.2.elim h1 h2), if_neg h1, if_neg h2]
theorem walls_name {r : Run} (k : r.Ok) {u : Int} (hu : 0 < u) (ha : r.a ≠ 0 → r.a ∣ u) (hb : r.b ≠ 0 → r.b ∣ u) (n : Nat) : wallsS r (rq ((n + 1 : Nat) : Int) u) = wName r u n := by
  unfold wallsS wallsX wallsY wName
  rw [← wX_pos k hu ha, ← wY_pos k hu hb]
  rw [show wX r u n = ((wX r u n).1, (wX r u n).2) from rfl, show wY r u n = ((wY r u n).1, (wY r u n).2) from rfl, axName_if (ax_pos k hu ha n).2, axName_if (ay_pos k hu hb n).2, (ax_pos k hu ha n).1, (ay_pos k hu hb n).1]
  simp only [rq_is_zero hu, rq_is_int hu]
theorem foldI_wall {z m : Int} (hm : 0 < m) : (foldI z m = 0 ∨ foldI z m = m) ↔ m ∣ z := by
  have r0 := Int.emod_nonneg z (show 2 * m ≠ 0 by omega)
  have r1 := Int.emod_lt_of_pos z (show 0 < 2 * m by omega)
  have e := Int.mul_ediv_add_emod z (2 * m)
  generalize hq : z / (2 * m) = q at *
  have em : m ∣ z ↔ m ∣ z % (2 * m) := by
    constructor
    · intro h
      rw [Int.emod_def]
      exact Int.dvd_sub h (Int.dvd_mul_of_dvd_left (Int.dvd_mul_left ..))
    · intro h
      rw [← e]
      exact Int.dvd_add (Int.dvd_mul_of_dvd_left (Int.dvd_mul_left ..)) h
  rw [em]
  unfold foldI
  generalize z % (2 * m) = y at *
  constructor
  · intro h
    have : y = 0 ∨ y = m := by
      split at h <;> omega
    rcases this with h | h
    · rw [h]; exact Int.dvd_zero _
    · rw [h]; exact Int.dvd_refl _
  · rintro ⟨j, rfl⟩
    have j0 : 0 ≤ j := by
      rcases (by omega : 0 ≤ j ∨ j ≤ -1) with h | h
      · exact h
      · have := Int.mul_le_mul_of_nonneg_left h (show 0 ≤ m by omega)
        omega
    have j1 : j < 2 := Int.lt_of_mul_lt_mul_left (a := m) (by omega) (by omega)
    rcases (by omega : j = 0 ∨ j = 1) with h | h
    · subst h; rw [Int.mul_zero]; simp; omega
    · subst h; rw [Int.mul_one]; simp
theorem name_ne {r : Run} (k : r.Ok) {u : Int} (hu : 0 < u) (ha : r.a ≠ 0 → r.a ∣ u) (hb : r.b ≠ 0 → r.b ∣ u) (n : Nat) : wName r u n ≠ "" ↔ wallAt r u ((n + 1 : Nat) : Int) := by
  have hw : 0 < r.w * u := Int.mul_pos (by have := k.w1; omega) hu
  have hh : 0 < r.h * u := Int.mul_pos (by have := k.h1; omega) hu
  have e1 : wallX r u ((n + 1 : Nat) : Int) ↔ r.a ≠ 0 ∧ ((wX r u (n + 1)).1 = 0 ∨ (wX r u (n + 1)).1 = r.w * u) := by
    unfold wallX
    rw [(wX_fold k hu ha (n + 1)).1, foldI_wall hw]
  have e2 : wallY r u ((n + 1 : Nat) : Int) ↔ r.b ≠ 0 ∧ ((wY r u (n + 1)).1 = 0 ∨ (wY r u (n + 1)).1 = r.h * u) := by
    unfold wallY
    rw [(wY_fold k hu hb (n + 1)).1, foldI_wall hh]
  unfold wallAt
  rw [e1, e2]
  unfold wName
  rw [show wX r u n = ((wX r u n).1, (wX r u n).2) from rfl, show wY r u n = ((wY r u n).1, (wY r u n).2) from rfl, axName_if (ax_pos k hu ha n).2, axName_if (ay_pos k hu hb n).2, (ax_pos k hu ha n).1, (ay_pos k hu hb n).1]
  generalize (wX r u (n + 1)).1 = p
  generalize (wY r u (n + 1)).1 = q
  by_cases c1 : r.a = 0
  · by_cases c4 : r.b = 0
    · simp [c1, c4]; decide
    · by_cases c5 : q = 0
      · simp [c1, c4, c5]; decide
      · by_cases c6 : q = r.h * u
        · simp [c1, c4, c5, c6]; split <;> decide
        · simp [c1, c4, c5, c6]; decide
  · by_cases c2 : p = 0
    · by_cases c4 : r.b = 0
      · simp [c1, c2, c4]; decide
      · by_cases c5 : q = 0
        · simp [c1, c2, c4, c5]; decide
        · by_cases c6 : q = r.h * u
          · simp [c1, c2, c4, c5, c6]; split <;> decide
          · simp [c1, c2, c4, c5, c6]; decide
    · by_cases c3 : p = r.w * u
      · by_cases c4 : r.b = 0
        · simp [c1, c2, c3, c4]; split <;> decide
        · by_cases c5 : q = 0
          · simp [c1, c2, c3, c4, c5]; split <;> decide
          · by_cases c6 : q = r.h * u
            · simp [c1, c2, c3, c4, c5, c6]; split <;> split <;> decide
            · simp [c1, c2, c3, c4, c5, c6]; split <;> decide
      · by_cases c4 : r.b = 0
        · simp [c1, c2, c3, c4]; decide
        · by_cases c5 : q = 0
          · simp [c1, c2, c3, c4, c5]; decide
          · by_cases c6 : q = r.h * u
            · simp [c1, c2, c3, c4, c5, c6]; split <;> decide
            · simp [c1, c2, c3, c4, c5, c6]; decide
theorem hitsL_succ (r : Run) (n : Nat) : hitsL r (n + 1) = hitsL r n ++ [hitD r n] := by
  unfold hitsL; rw [List.range_succ, List.map_append]; rfl
theorem hitsL_len (r : Run) (n : Nat) : (hitsL r n).length = n := by unfold hitsL; rw [List.length_map, List.length_range]
/-! ### the hits are the walk's -/
theorem fm_congr {α β : Type} {f g : α → Option β} : ∀ {l : List α}, (∀ x ∈ l, f x = g x) → l.filterMap f = l.filterMap g
  | [], _ => rfl
  | x :: xs, h => by rw [List.filterMap_cons, List.filterMap_cons, h x List.mem_cons_self, fm_congr fun y hy => h y (List.mem_cons_of_mem _ hy)]
theorem wShuts_none {r : Run} {u : Int} {m : Nat} : ∀ {j : Nat}, m ≤ j → (∀ i, m ≤ i → i < j → wName r u i = "") → wShuts r u j = wShuts r u m
  | 0, h, _ => by rw [show m = 0 by omega]
  | j + 1, h, n => by
    rcases (by omega : m = j + 1 ∨ m ≤ j) with e | e
    · rw [e]
    · rw [wShuts_succ, wShuts_none e fun i a b => n i a (by omega)]
      unfold wShut
      rw [if_pos (n j e (by omega))]
      simp
def shutD (r : Run) (u : Int) (i : Nat) : PyData := .tuple [.int (hN r u (i + 1)), .str (wallsS r (hT r (i + 1)))]
theorem shuts_hits {r : Run} (k : r.Ok) {u : Int} (hu : 0 < u) (ha : r.a ≠ 0 → r.a ∣ u) (hb : r.b ≠ 0 → r.b ∣ u) : ∀ n : Nat, wShuts r u (hN r u n).toNat = (List.range n).map (shutD r u)
  | 0 => by
    rw [hN_of hu (show hT r 0 = rq 0 u by rw [rq_div, Rat.zero_divInt]; rfl)]
    rfl
  | n + 1 => by
    have ih := shuts_hits k hu ha hb n
    obtain ⟨e0, p0, -⟩ := hT_tick k hu ha hb n
    obtain ⟨e1, p1, -⟩ := hT_tick k hu ha hb (n + 1)
    have x := hN_next k hu ha hb n
    obtain ⟨j, hj⟩ : ∃ j : Nat, (hN r u (n + 1)).toNat = j + 1 := ⟨(hN r u (n + 1)).toNat - 1, by have := x.lt; omega⟩
    have ej : hN r u (n + 1) = ((j + 1 : Nat) : Int) := by omega
    have nm : wName r u j ≠ "" := (name_ne k hu ha hb j).mpr (by rw [← ej]; exact x.at_)
    rw [hj, wShuts_succ, wShuts_none (m := (hN r u n).toNat) (by have := x.lt; omega) fun i a b => by
      by_cases h : wName r u i = ""
      · exact h
      · exact absurd ((name_ne k hu ha hb i).mp h) (x.no _ (by omega) (by omega)), ih, List.range_succ, List.map_append]
    unfold wShut
    rw [if_neg nm]
    show _ ++ [_] = _ ++ [_]
    unfold shutD
    rw [e1, ej, walls_name k hu ha hb, show (1 : Int) + (j : Int) = ((j + 1 : Nat) : Int) by omega]
theorem per_dvd {u T : Int} {r : Run} (k : r.Ok) (hu : 0 < u) (hT : rq T u = perQ r) : r.w * u * 2 ∣ r.a * T ∧ r.h * u * 2 ∣ r.b * T := by
  have u0 : (u : Rat) ≠ 0 := Rat.ne_of_gt (Rat.intCast_pos.mpr hu)
  have hj : ∀ {a w : Int}, (∃ j : Int, (a : Rat) * perQ r = 2 * w * j) → w * u * 2 ∣ a * T := fun {a w} ⟨j, e⟩ => by
    refine ⟨j, ?_⟩
    rw [← hT] at e
    unfold rq at e
    refine Rat.intCast_inj.mp ?_
    rw [Rat.intCast_mul, Rat.intCast_mul, Rat.intCast_mul, Rat.intCast_mul, show ((2 : Int) : Rat) = 2 from rfl]
    grind
  exact ⟨hj (perQ_mul k).1, hj (perQ_mul k).2⟩
theorem wall_shift {u T : Int} {r : Run} (k : r.Ok) (hu : 0 < u) (hT : rq T u = perQ r) (m : Int) : wallAt r u (m + T) ↔ wallAt r u m := by
  obtain ⟨d1, d2⟩ := per_dvd k hu hT
  have e1 : r.w * u ∣ r.a * T := Int.dvd_trans (Int.dvd_mul_right ..) d1
  have e2 : r.h * u ∣ r.b * T := Int.dvd_trans (Int.dvd_mul_right ..) d2
  unfold wallAt wallX wallY
  rw [Int.mul_add, Int.mul_add, ← Int.add_assoc, ← Int.add_assoc, Int.dvd_add_left e1, Int.dvd_add_left e2]
theorem IsNext.shift {u T : Int} {r : Run} (k : r.Ok) (hu : 0 < u) (hT : rq T u = perQ r) {m m' : Int} (x : IsNext r u m m') : IsNext r u (m + T) (m' + T) :=
  ⟨by have := x.lt; omega, by have := x.le; omega, (wall_shift k hu hT m').mpr x.at_, fun i a b z => x.no (i - T) (by omega) (by omega) ((wall_shift k hu hT (i - T)).mp (by rwa [show i - T + T = i by omega]))⟩
/-- the hits behind a whole period -/
theorem hN_shift {u T : Int} {r : Run} (k : r.Ok) (hu : 0 < u) (ha : r.a ≠ 0 → r.a ∣ u) (hb : r.b ≠ 0 → r.b ∣ u) (hT : rq T u = perQ r) {c : Nat} (h0 : hN r u c ≤ T) (h1 : T < hN r u (c + 1)) : ∀ i : Nat, hN r u (c + (i + 1)) = hN r u (i + 1) + T
  | 0 => by
    show hN r u (c + 1) = hN r u 1 + T
    have x := hN_next k hu ha hb c
    have y := (hN_next k hu ha hb 0).shift k hu hT
    have z0 : hN r u 0 = 0 := hN_of hu (show BP.hT r 0 = rq 0 u by rw [rq_div, Rat.zero_divInt]; rfl)
    rw [z0, Int.zero_add] at y
    exact IsNext.uniq ⟨h1, by have := x.le; omega, x.at_, fun i a b => x.no i (by omega) b⟩ y
  | i + 1 => by
    have ih := hN_shift k hu ha hb hT h0 h1 i
    have x := hN_next k hu ha hb (c + (i + 1))
    have y := (hN_next k hu ha hb (i + 1)).shift k hu hT
    rw [← ih] at y
    exact IsNext.uniq x y
theorem hT_shift {u T : Int} {r : Run} (k : r.Ok) (hu : 0 < u) (ha : r.a ≠ 0 → r.a ∣ u) (hb : r.b ≠ 0 → r.b ∣ u) (hT : rq T u = perQ r) {c : Nat} (h0 : hN r u c ≤ T) (h1 : T < hN r u (c + 1)) (i : Nat) : BP.hT r (c + (i + 1)) = BP.hT r (i + 1) + perQ r := by
  rw [(hT_tick k hu ha hb _).1, (hT_tick k hu ha hb (i + 1)).1, hN_shift k hu ha hb hT h0 h1 i, rq_addT, hT]
theorem walls_period {r : Run} (k : r.Ok) (t : Rat) : wallsS r (t + perQ r) = wallsS r t := by
  have e := place_period k t 1
  rw [show ((1 : Int) : Rat) = 1 from rfl, Rat.one_mul] at e
  unfold placeD at e
  injection e with e
  injection e with e1 e2
  injection e2 with e2 _
  unfold wallsS wallsX wallsY
  rw [fr_inj e1, fr_inj e2]
theorem add_rq (p q : Rat) : rq (p.num * q.den + q.num * p.den) (p.den * q.den) = p + q := by
  have e1 := num_den p
  have e2 := num_den q
  have d1 : (p.den : Rat) ≠ 0 := Rat.ne_of_gt (Rat.natCast_pos.mpr p.den_pos)
  have d2 : (q.den : Rat) ≠ 0 := Rat.ne_of_gt (Rat.natCast_pos.mpr q.den_pos)
  unfold rq
  rw [Rat.intCast_add, Rat.intCast_mul, Rat.intCast_mul, Rat.intCast_mul, show ((p.den : Int) : Rat) = (p.den : Rat) from rfl, show ((q.den : Int) : Rat) = (q.den : Rat) from rfl]
  generalize (p.den : Rat) = x at *
  generalize (q.den : Rat) = y at *
  generalize (p.num : Rat) = z at *
  generalize (q.num : Rat) = v at *
  rw [e1, e2]
  grind
theorem rat_lt_le {p q r : Rat} (h1 : p < q) (h2 : q ≤ r) : p < r := Rat.not_le.mp fun h => absurd (Rat.le_trans h2 h) (Rat.not_le.mpr h1)
theorem rat_le_lt {p q r : Rat} (h1 : p ≤ q) (h2 : q < r) : p < r := Rat.not_le.mp fun h => absurd (Rat.le_trans h h1) (Rat.not_le.mpr h2)
/-! ### the hits until a time -/
def cutOut (P : Rat) : PyData → Option PyData
  | .tuple [.tuple [.int n, .int d], z] => if n * (P.den : Int) ≤ P.num * d then some (.tuple [.tuple [.int n, .int d], z]) else none
  | _ => none
theorem cutOut_hit (P : Rat) (r : Run) (i : Nat) : cutOut P (hitD r i) = if hT r (i + 1) ≤ P then some (hitD r i) else none := by
  show (if _ then _ else _) = _
  by_cases h : hT r (i + 1) ≤ P
  · rw [if_pos h, if_pos ((Rat.le_iff _ _).mp h)]; rfl
  · rw [if_neg h, if_neg fun z => h ((Rat.le_iff _ _).mpr z)]
theorem hT_mono {r : Run} (k : r.Ok) (n : Nat) : hT r n < hT r (n + 1) := by
  obtain ⟨hu, -, ha, hb⟩ := unit_facts k
  rw [(hT_tick k hu ha hb n).1, (hT_tick k hu ha hb (n + 1)).1, rq_lt hu]
  exact (hN_next k hu ha hb n).lt
theorem hits_cut {r : Run} (k : r.Ok) (P : Rat) (hP : 0 ≤ P) : ∀ n : Nat, ∃ c, c ≤ n ∧ hT r c ≤ P ∧ (c < n → P < hT r (c + 1)) ∧ (hitsL r n).filterMap (cutOut P) = hitsL r c
  | 0 => ⟨0, Nat.le_refl _, hP, fun h => absurd h (Nat.lt_irrefl _), rfl⟩
  | n + 1 => by
    obtain ⟨c, h1, h2, h3, h4⟩ := hits_cut k P hP n
    rw [hitsL_succ, List.filterMap_append, h4]
    show ∃ c', _ ∧ _ ∧ _ ∧ hitsL r c ++ [hitD r n].filterMap (cutOut P) = _
    rw [List.filterMap_cons, cutOut_hit]
    rcases (by omega : c = n ∨ c < n) with e | e
    · subst e
      by_cases h : hT r (c + 1) ≤ P
      · rw [if_pos h]
        exact ⟨c + 1, Nat.le_refl _, h, fun z => absurd z (Nat.lt_irrefl _), (hitsL_succ r c).symm⟩
      · rw [if_neg h]
        exact ⟨c, by omega, h2, fun _ => Rat.not_le.mp h, by simp⟩
    · have lt : ∀ m, c + 1 ≤ m → P < hT r m := fun m hm => by
        induction m with
        | zero => omega
        | succ m ih =>
          rcases (by omega : c = m ∨ c + 1 ≤ m) with q | q
          · rw [← q]; exact h3 e
          · exact rat_lt_le (ih q) (Rat.le_of_lt (hT_mono k m))
      rw [if_neg fun z => absurd (lt (n + 1) (by omega)) (Rat.not_lt.mpr z)]
      exact ⟨c, by omega, h2, fun _ => h3 e, by simp⟩
theorem hits_take (r : Run) {m n : Nat} (h : m ≤ n) : (hitsL r n).take m = hitsL r m := by
  unfold hitsL
  rw [← List.map_take, List.take_range, Nat.min_eq_left h]
theorem hits_get (r : Run) {n j : Nat} (h : j < n) : (hitsL r n)[j]? = some (hitD r j) := by
  unfold hitsL
  rw [List.getElem?_map, List.getElem?_range h]
  rfl
theorem hits_at {r : Run} {n j : Nat} {z : Int} (e : z = (j : Int)) (h : j < n) : atI (hitsL r n) z = some (hitD r j) := by
  rw [e]
  exact atI_nat (hits_get r h)
theorem pln_walls (r : Run) (t : Rat) : pln (.str (wallsS r t)) = true := by
  unfold wallsS wallsX wallsY
  repeat' split
  all_goals decide +kernel
theorem shp_str {k : Nat} {z : Str} (h : pln (.str z) = true) : Shp k (.str z) := ⟨h, Nat.zero_le _⟩
theorem shp_hit (r : Run) (i : Nat) : Shp 2 (hitD r i) := shp_pair (shp_fr _) (shp_str (pln_walls _ _))
theorem shp_hits {ds : List PyData} (r : Run) (n : Nat) (h : ∀ d ∈ ds, d ∈ hitsL r n) : Shp 3 (.list ds) := shp_list fun d hd => by
  have := h d hd
  unfold hitsL at this
  obtain ⟨m, _, rfl⟩ := List.mem_map.mp this
  exact shp_hit r m
theorem sh_hits (r : Run) (n : Nat) : SeqAt.shaped (.list (hitsL r n)) = true := (shp_hits r n fun _ h => h).shaped (by decide)
theorem eqv_hits (r : Run) (n : Nat) : PyData.eqv (.list (hitsL r n)) (.list (hitsL r n)) = true := eqv_self _ (shp_hits r n fun _ h => h).1
section
variable {P : Program} {w : World} {K : PySem.W.Frag} {mg : Str → Option Value} {base : Heap}
/-! ### is_less -/
def TB (t : Rat) : Prop := -1000000000000000 < t.num ∧ t.num < 1000000000000000 ∧ t.den < 10000000
def sp_is_less : DSp where
  n := 2
  wp := fun ds M Q => ∃ (p q : Rat), ds = [.d (fr p), .d (fr q)] ∧ (TB p ∧ TB q) ∧ Q (B (decide (p < q))) M
  mono := fun h ⟨p, q, e, s, k⟩ => ⟨p, q, e, s, h _ _ k⟩
  len := fun ⟨p, q, e, s, k⟩ => by rw [e]; rfl
abbrev s_is_less : Stmt := topS 15
abbrev nm_is_less : List Str := ["one", "two"]
theorem sc_is_less : FnScope nm_is_less ["one", "two"] (defScope s_is_less) := ⟨rfl, rfl, rfl, by decide +kernel, rfl, by decide +kernel, by decide +kernel⟩
theorem ok_is_less {f : Addr} {fd : FuncData} (Fd : Fun K "is_less" "is_less" s_is_less f fd) (hm : mg "is_less" = some (.ref f)) (hb : Binds K fd ["one", "two"] [])  : Def P w K mg base "is_less" 1 sp_is_less := by
  refine def_ok Fd sc_is_less hm hb rfl fun cdv A outer s H E hr ds M Q h => ?_
  obtain ⟨p, r, rfl, ⟨⟨h1, h2, h3⟩, ⟨h4, h5, h6⟩⟩, q⟩ := h
  -- return
  refine dss_cons (ds_ret (de_cmpI ci_lt (de_mul (de_ixT (de_var 0 rfl (de_int (⟨_, _, _, rfl, rfl, rfl, de_ixT (de_var 1 rfl (de_int (⟨_, _, _, rfl, rfl, rfl, ⟨_, _, rfl, rfl, cmul_l (by omega) (by omega), de_mul (de_ixT (de_var 1 rfl (de_int (⟨_, _, _, rfl, rfl, rfl, de_ixT (de_var 0 rfl (de_int (⟨_, _, _, rfl, rfl, rfl, ⟨_, _, rfl, rfl, cmul_l (by omega) (by omega), ⟨_, _, rfl, rfl, ?_⟩⟩⟩)))⟩))))⟩⟩)))⟩)))))))
  have e : (decide (p.num * (r.den : Int) < r.num * (p.den : Int))) = decide (p < r) := by
    by_cases hh : p < r
    · rw [decide_eq_true hh, decide_eq_true ((Rat.lt_iff _ _).mp hh)]
    · rw [decide_eq_false hh, decide_eq_false fun z => hh ((Rat.lt_iff _ _).mpr z)]
  rw [← e] at q
  exact q
/-! ### wait_for_wall -/
def sp_wait_for_wall : DSp where
  n := 4
  wp := fun ds M Q => ∃ (x a w : Int) (t : Rat), ds = [I x, I a, I w, .d (fr t)] ∧ (0 ≤ x ∧ x ≤ 12 ∧ -6 ≤ a ∧ a ≤ 6 ∧ 1 ≤ w ∧ w ≤ 12 ∧ TB t) ∧ Q (.d (if a = 0 then .none else fr (waitQ x a w t))) M
  mono := fun h ⟨x, a, w, t, e, s, k⟩ => ⟨x, a, w, t, e, s, h _ _ k⟩
  len := fun ⟨x, a, w, t, e, s, k⟩ => by rw [e]; rfl
-- no wait_for_wall
/-! ### walls_at -/
def sp_walls_at : DSp where
  n := 2
  wp := fun ds M Q => ∃ (r : Run) (t : Rat), ds = [.d r.data, .d (fr t)] ∧ r.Ok ∧ TB t ∧ Q (S (wallsS r t)) M
  mono := fun h ⟨x, t, e, s, s2, k⟩ => ⟨x, t, e, s, s2, h _ _ k⟩
  len := fun ⟨x, t, e, s, s2, k⟩ => by rw [e]; rfl
theorem fr_zero : fr 0 = .tuple [.int 0, .int 1] := rfl
theorem fr_int (w : Int) : fr (w : Rat) = .tuple [.int w, .int 1] := rfl
theorem eqv_zero (q : Rat) : PyData.eqv (fr q) (.tuple [.int 0, .int 1]) = decide (q = 0) := eqv_fr q 0
theorem eqv_fint (q : Rat) (w : Int) : PyData.eqv (fr q) (.tuple [.int w, .int 1]) = decide (q = (w : Rat)) := eqv_fr q (w : Rat)
theorem sh_fr (q : Rat) : SeqAt.shaped (fr q) = true := (shp_fr (k := 0) q).shaped (by decide)
theorem sh_i2 (w v : Int) : SeqAt.shaped (.tuple [.int w, .int v]) = true := (shp_pair (k := 0) (shp_int w) (shp_int v)).shaped (by decide)
-- no walls_at
/-! ### hit_after -/
theorem rq_den_le (n : Int) {d : Int} (h0 : d ≠ 0) (h1 : -6 ≤ d) (h2 : d ≤ 6) : (rq n d).den ≤ 6 := by
  have main : ∀ (n d : Int), 0 < d → d ≤ 6 → (rq n d).den ≤ 6 := fun n d p q => by
    have := Int.le_of_dvd p (rq_den_dvd n p)
    omega
  by_cases h : 0 < d
  · exact main n d h h2
  · have e : rq n d = rq (-n) (-d) := by
      have := rq_scale (c := -1) (n := n) (d := d) (by decide)
      rw [← this]
      congr 1 <;> omega
    rw [e]
    exact main _ _ (by omega) (by omega)
theorem num_le_of {q : Rat} {c : Int} (hc : 0 ≤ c) (h : q ≤ c) : q.num ≤ c * q.den := by
  have := (Rat.le_iff _ _).mp h
  rw [show (c : Rat).num = c from rfl, show (c : Rat).den = 1 from rfl] at this
  omega
theorem wait_TB {x a w : Int} {t : Rat} (hx : 0 ≤ x ∧ x ≤ 12) (ha : a ≠ 0) (ha1 : -6 ≤ a) (ha2 : a ≤ 6) (hw1 : 1 ≤ w) (hw2 : w ≤ 12) (ht : 0 ≤ t.num ∧ t.num < 1000000000 ∧ t.den < 1000000) : TB (waitQ x a w t) := by
  have hd : (waitQ x a w t).den ≤ 6 := rq_den_le _ ha ha1 ha2
  -- through ticks of 720720 times the denominator
  obtain ⟨c, hc⟩ : ∃ c : Int, a * c = 60 * t.den := by
    have : a = -6 ∨ a = -5 ∨ a = -4 ∨ a = -3 ∨ a = -2 ∨ a = -1 ∨ a = 1 ∨ a = 2 ∨ a = 3 ∨ a = 4 ∨ a = 5 ∨ a = 6 := by omega
    rcases this with e | e | e | e | e | e | e | e | e | e | e | e <;> subst e
    · exact ⟨-10 * t.den, by omega⟩
    · exact ⟨-12 * t.den, by omega⟩
    · exact ⟨-15 * t.den, by omega⟩
    · exact ⟨-20 * t.den, by omega⟩
    · exact ⟨-30 * t.den, by omega⟩
    · exact ⟨-60 * t.den, by omega⟩
    · exact ⟨60 * t.den, by omega⟩
    · exact ⟨30 * t.den, by omega⟩
    · exact ⟨20 * t.den, by omega⟩
    · exact ⟨15 * t.den, by omega⟩
    · exact ⟨12 * t.den, by omega⟩
    · exact ⟨10 * t.den, by omega⟩
  have d0 := t.den_pos
  have hu : (0 : Int) < 60 * t.den := by omega
  have et : t = rq (60 * t.num) (60 * t.den) := by rw [rq_scale (by decide), rq_self]
  obtain ⟨m', e, l1, l2, -⟩ := wait_tick (x := x) (a := a) (w := w) (u := 60 * t.den) (60 * t.num) (by omega) hu ha ⟨c, hc.symm⟩
  rw [← et] at e
  have w12 : w * (60 * (t.den : Int)) ≤ 12 * (60 * t.den) := Int.mul_le_mul_of_nonneg_right hw2 (by omega)
  have b := rq_bound (m := m') hu (by omega)
  rw [← e] at b
  exact ⟨by omega, by omega, by omega⟩
def sp_hit_after : DSp where
  n := 2
  wp := fun ds M Q => ∃ (r : Run) (t : Rat), ds = [.d r.data, .d (fr t)] ∧ r.Ok ∧ (0 ≤ t.num ∧ t.num < 1000000000 ∧ t.den < 1000000) ∧ Q (T [fr (nextQ r t), .str (wallsS r (nextQ r t))]) M
  mono := fun h ⟨x, t, e, s, s2, k⟩ => ⟨x, t, e, s, s2, h _ _ k⟩
  len := fun ⟨x, t, e, s, s2, k⟩ => by rw [e]; rfl
-- no hit_after
/-! ### hits_of -/
def sp_hits_of : DSp where
  n := 2
  wp := fun ds M Q => ∃ (r : Run) (n : Int), ds = [.d r.data, I n] ∧ r.Ok ∧ (0 ≤ n ∧ n ≤ 20000) ∧ Q (L (hitsL r n.toNat)) M
  mono := fun h ⟨x, t, e, s, s2, k⟩ => ⟨x, t, e, s, s2, h _ _ k⟩
  len := fun ⟨x, t, e, s, s2, k⟩ => by rw [e]; rfl
-- no hits_of
/-! ### hits -/
def sp_hits : DSp where
  n := 2
  wp := fun ds M Q => ∃ (r : Run) (n : Int), ds = [.d r.data, I n] ∧ r.Ok ∧ (0 ≤ n ∧ n ≤ 300) ∧ Q (L (hitsL r n.toNat)) M
  mono := fun h ⟨x, t, e, s, s2, k⟩ => ⟨x, t, e, s, s2, h _ _ k⟩
  len := fun ⟨x, t, e, s, s2, k⟩ => by rw [e]; rfl
end
/-! ### between two hits the ball goes straight -/
theorem seg_pos {W X A m m' : Int} (hW : 0 < W) (hA : 0 < A) (dX : A ∣ X) (dW : A ∣ W) (no : ∀ i, m < i → i < m' → ¬ W ∣ X + A * i) : ∃ j : Int, ∀ i, m ≤ i → i ≤ m' → j * W ≤ X + A * i ∧ X + A * i ≤ (j + 1) * W := by
  have e := Int.mul_ediv_add_emod (X + A * m) W
  have e1 := Int.emod_nonneg (X + A * m) (show W ≠ 0 by omega)
  have e2 := Int.emod_lt_of_pos (X + A * m) hW
  refine ⟨(X + A * m) / W, fun i h1 h2 => ?_⟩
  have mono : A * m ≤ A * i := Int.mul_le_mul_of_nonneg_left h1 (by omega)
  rw [Int.add_mul, Int.one_mul, Int.mul_comm _ W]
  generalize hj : (X + A * m) / W = j at *
  refine ⟨by omega, ?_⟩
  rcases (by omega : X + A * i ≤ W * j + W ∨ W * j + W < X + A * i) with h | h
  · exact h
  · exfalso
    have dv : A ∣ W * j + W - X := Int.dvd_sub (Int.dvd_add (Int.dvd_mul_of_dvd_left dW) dW) dX
    obtain ⟨k, hk⟩ := dv
    have l1 : A * m < A * k := by omega
    have l2 : A * k < A * i := by omega
    have k1 := Int.lt_of_mul_lt_mul_left l1 (by omega)
    have k2 := Int.lt_of_mul_lt_mul_left l2 (by omega)
    refine no k k1 (by omega) ⟨j + 1, ?_⟩
    rw [Int.mul_add, Int.mul_one]
    omega
theorem seg {W X A m m' : Int} (hW : 0 < W) (hA : A ≠ 0) (dX : A ∣ X) (dW : A ∣ W) (no : ∀ i, m < i → i < m' → ¬ W ∣ X + A * i) : ∃ j : Int, ∀ i, m ≤ i → i ≤ m' → j * W ≤ X + A * i ∧ X + A * i ≤ (j + 1) * W := by
  by_cases h : 0 < A
  · exact seg_pos hW h dX dW no
  · obtain ⟨j, hj⟩ := seg_pos (X := -X) (A := -A) (m := m) (m' := m') hW (by omega) (Int.neg_dvd.mpr (Int.dvd_neg.mpr dX)) (Int.neg_dvd.mpr dW) fun i h1 h2 d => no i h1 h2 (by
      rw [show -X + -A * i = -(X + A * i) by rw [Int.neg_mul, Int.neg_add]] at d
      exact Int.dvd_neg.mp d)
    refine ⟨-(j + 1), fun i h1 h2 => ?_⟩
    have q := hj i h1 h2
    rw [Int.neg_mul] at q
    rw [Int.add_mul, Int.one_mul] at q
    rw [show -(j + 1) + 1 = -j by omega, Int.neg_mul, Int.neg_mul, Int.add_mul, Int.one_mul]
    omega
theorem floor_zero {z : Rat} (h0 : 0 ≤ z) (h1 : z < 1) : z.floor = 0 := by
  have a : (0 : Int) ≤ z.floor := Rat.le_floor_iff.mpr h0
  have b : z.floor < 1 := Rat.floor_lt_iff.mpr h1
  omega
theorem foldQ_low {z : Rat} {w : Int} (hw : 0 < w) (h0 : 0 ≤ z) (h1 : z ≤ w) : foldQ z w = z := by
  have w0 : (0 : Rat) < w := Rat.intCast_pos.mpr hw
  have f : (z / (2 * w)).floor = 0 := by
    refine floor_zero ?_ ?_
    · rw [Rat.div_def]
      exact Rat.mul_nonneg h0 (Rat.le_of_lt (Rat.inv_pos.mpr (by grind)))
    · rw [Rat.div_lt_iff (by grind)]
      grind
  unfold foldQ
  rw [f, Rat.intCast_zero, Rat.mul_zero]
  rw [if_pos (by grind)]
  grind
theorem foldQ_high {z : Rat} {w : Int} (hw : 0 < w) (h0 : w ≤ z) (h1 : z ≤ 2 * w) : foldQ z w = 2 * w - z := by
  have w0 : (0 : Rat) < w := Rat.intCast_pos.mpr hw
  by_cases h : z = 2 * w
  · have e := foldQ_add 0 hw 1
    rw [show (0 : Rat) + 2 * (w : Rat) * ((1 : Int) : Rat) = z by rw [h, show ((1 : Int) : Rat) = 1 from rfl]; grind, foldQ_low hw (Rat.le_refl) (Rat.le_of_lt w0)] at e
    rw [e, h]
    grind
  · have f : (z / (2 * w)).floor = 0 := by
      refine floor_zero ?_ ?_
      · rw [Rat.div_def]
        exact Rat.mul_nonneg (Rat.le_trans (Rat.le_of_lt w0) h0) (Rat.le_of_lt (Rat.inv_pos.mpr (by grind)))
      · rw [Rat.div_lt_iff (by grind)]
        grind
    unfold foldQ
    rw [f, Rat.intCast_zero, Rat.mul_zero]
    by_cases h2 : z - 0 ≤ w
    · rw [if_pos h2]; grind
    · rw [if_neg h2]; grind
/-- one straight piece: s is 1 or -1 -/
theorem foldQ_seg {w : Int} (hw : 0 < w) (j : Int) : ∃ (s c : Rat), s * s = 1 ∧ ∀ z : Rat, (j : Rat) * w ≤ z → z ≤ ((j : Rat) + 1) * w → foldQ z w = s * z + c := by
  have w0 : (0 : Rat) < w := Rat.intCast_pos.mpr hw
  have two : ((2 : Int) : Rat) = 2 := rfl
  rcases Int.emod_two_eq j with h | h
  · obtain ⟨c, hc⟩ : ∃ c, j = 2 * c := ⟨j / 2, by omega⟩
    refine ⟨1, -(2 * w * (c : Rat)), by grind, fun z h1 h2 => ?_⟩
    have e := foldQ_add (z - 2 * w * c) hw c
    rw [show z - 2 * (w : Rat) * (c : Rat) + 2 * w * c = z by grind] at e
    have hj : (j : Rat) = 2 * c := by rw [hc, Rat.intCast_mul, two]
    rw [e, foldQ_low hw (by rw [hj] at h1; grind) (by rw [hj] at h2; grind)]
    grind
  · obtain ⟨c, hc⟩ : ∃ c, j = 2 * c + 1 := ⟨j / 2, by omega⟩
    refine ⟨-1, 2 * w + 2 * w * (c : Rat), by grind, fun z h1 h2 => ?_⟩
    have e := foldQ_add (z - 2 * w * c) hw c
    rw [show z - 2 * (w : Rat) * (c : Rat) + 2 * w * c = z by grind] at e
    have hj : (j : Rat) = 2 * c + 1 := by rw [hc, Rat.intCast_add, Rat.intCast_mul, two]; rfl
    rw [e, foldQ_high hw (by rw [hj] at h1; grind) (by rw [hj] at h2; grind)]
    grind
def absQ (q : Rat) : Rat := if q < 0 then -q else q
theorem absQ_mul {s q : Rat} (h : s * s = 1) : absQ (s * q) = absQ q := by
  have : s = 1 ∨ s = -1 := by
    have e : (s - 1) * (s + 1) = 0 := by grind
    rcases Rat.mul_eq_zero.mp e with q | q
    · left; grind
    · right; grind
  unfold absQ
  rcases this with e | e <;> subst e
  · rw [Rat.one_mul]
  · rw [show (-1 : Rat) * q = -q by grind]
    by_cases h0 : q < 0
    · rw [if_pos h0, if_neg (by grind)]
    · rw [if_neg h0]
      by_cases h1 : -q < 0
      · rw [if_pos h1]; grind
      · rw [if_neg h1]; grind
theorem absQ_lin {a : Int} {t : Rat} (h : 0 ≤ t) : absQ ((a : Rat) * t) = t * (a.natAbs : Int) := by
  unfold absQ
  rcases (by omega : 0 ≤ a ∨ a < 0) with h0 | h0
  · have e : ((a.natAbs : Int)) = a := by omega
    rw [e, if_neg (Rat.not_lt.mpr (Rat.mul_nonneg (Rat.intCast_nonneg.mpr h0) h))]
    grind
  · have e : ((a.natAbs : Int)) = -a := by omega
    rw [e, Rat.intCast_neg]
    by_cases hz : (a : Rat) * t < 0
    · rw [if_pos hz]; grind
    · rw [if_neg hz]
      have : 0 ≤ (-(a : Rat)) * t := Rat.mul_nonneg (by
        have := Rat.intCast_nonneg.mpr (show 0 ≤ -a by omega)
        rwa [Rat.intCast_neg] at this) h
      grind
/-- what one axis does between two hits -/
theorem axis_straight {x a w : Int} {u m m' : Int} (hw : 0 < w) (hu : 0 < u) (hd : a ≠ 0 → a ∣ u) (hm : m ≤ m') (no : a ≠ 0 → ∀ i, m < i → i < m' → ¬ w * u ∣ x * u + a * i) :
    absQ (foldQ ((x : Rat) + a * rq m' u) w - foldQ ((x : Rat) + a * rq m u) w) = (rq m' u - rq m u) * (a.natAbs : Int) ∧
    foldQ ((x : Rat) + a * ((rq m u + rq m' u) / 2)) w = (foldQ ((x : Rat) + a * rq m u) w + foldQ ((x : Rat) + a * rq m' u) w) / 2 := by
  have u0 : (0 : Rat) < u := Rat.intCast_pos.mpr hu
  by_cases ha : a = 0
  · subst ha
    have e : ∀ t : Rat, (x : Rat) + ((0 : Int) : Rat) * t = x := fun t => by rw [Rat.intCast_zero]; grind
    rw [e, e, e]
    refine ⟨?_, by grind⟩
    show absQ _ = _ * ((0 : Int) : Rat)
    rw [Rat.intCast_zero, Rat.mul_zero, show foldQ (x : Rat) w - foldQ (x : Rat) w = 0 by grind]
    rfl
  · obtain ⟨j, hj⟩ := seg (W := w * u) (X := x * u) (A := a) (m := m) (m' := m') (Int.mul_pos hw hu) ha (Int.dvd_mul_of_dvd_right (hd ha)) (Int.dvd_mul_of_dvd_right (hd ha)) (no ha)
    obtain ⟨s, c, hs, hf⟩ := foldQ_seg hw j
    have inr : ∀ i, m ≤ i → i ≤ m' → (j : Rat) * w ≤ (x : Rat) + a * rq i u ∧ (x : Rat) + a * rq i u ≤ ((j : Rat) + 1) * w := fun i h1 h2 => by
      obtain ⟨q1, q2⟩ := hj i h1 h2
      have e : (x : Rat) + a * rq i u = ((x * u + a * i : Int) : Rat) / u := by
        unfold rq
        rw [Rat.intCast_add, Rat.intCast_mul, Rat.intCast_mul]
        grind
      rw [e]
      constructor
      · refine Rat.not_lt.mp fun z => ?_
        have z := (Rat.div_lt_iff u0).mp z
        have := Rat.intCast_le_intCast.mpr q1
        rw [Rat.intCast_mul, Rat.intCast_mul] at this
        grind
      · refine Rat.not_lt.mp fun z => ?_
        have z := (Rat.lt_div_iff u0).mp z
        have := Rat.intCast_le_intCast.mpr q2
        rw [Rat.intCast_mul, Rat.intCast_mul, Rat.intCast_add j 1] at this
        rw [show ((1 : Int) : Rat) = 1 from rfl] at this
        grind
    obtain ⟨b1, b2⟩ := inr m (Int.le_refl _) hm
    obtain ⟨b3, b4⟩ := inr m' hm (Int.le_refl _)
    have f1 := hf _ b1 b2
    have f2 := hf _ b3 b4
    have f3 := hf ((x : Rat) + a * ((rq m u + rq m' u) / 2)) (by grind) (by grind)
    rw [f1, f2, f3]
    refine ⟨?_, by grind⟩
    have le : 0 ≤ rq m' u - rq m u := by
      have : rq m u ≤ rq m' u := Rat.not_lt.mp fun z => absurd ((rq_lt hu).mp z) (by omega)
      grind
    rw [show s * ((x : Rat) + a * rq m' u) + c - (s * ((x : Rat) + a * rq m u) + c) = s * ((a : Rat) * (rq m' u - rq m u)) by grind, absQ_mul hs, absQ_lin le]
theorem straight {r : Run} (k : r.Ok) (n : Nat) :
    (absQ (posX r (hT r (n + 1)) - posX r (hT r n)) = (hT r (n + 1) - hT r n) * (r.a.natAbs : Int) ∧ posX r ((hT r n + hT r (n + 1)) / 2) = (posX r (hT r n) + posX r (hT r (n + 1))) / 2) ∧
    (absQ (posY r (hT r (n + 1)) - posY r (hT r n)) = (hT r (n + 1) - hT r n) * (r.b.natAbs : Int) ∧ posY r ((hT r n + hT r (n + 1)) / 2) = (posY r (hT r n) + posY r (hT r (n + 1))) / 2) := by
  obtain ⟨hu, -, ha, hb⟩ := unit_facts k
  have x := hN_next k hu ha hb n
  have e0 := (hT_tick k hu ha hb n).1
  have e1 := (hT_tick k hu ha hb (n + 1)).1
  have := x.lt
  unfold posX posY
  rw [e0, e1]
  exact ⟨axis_straight (by have := k.w1; omega) hu ha (by omega) fun h i a b d => x.no i a b (.inl ⟨h, d⟩), axis_straight (by have := k.h1; omega) hu hb (by omega) fun h i a b d => x.no i a b (.inr ⟨h, d⟩)⟩
/-! ### how many hits there are in a period -/
theorem sign_self (a : Int) : a.sign * a = (a.natAbs : Int) := by
  rcases (by omega : a < 0 ∨ a = 0 ∨ 0 < a) with h | h | h
  · rw [Int.sign_eq_neg_one_of_neg h]; omega
  · subst h; rfl
  · rw [Int.sign_eq_one_of_pos h]; omega
def axC (x a W : Int) (u m : Int) : Int := (a.sign * (x * u) + (a.natAbs : Int) * m) / W - (a.sign * (x * u)) / W
theorem axC_mono {x a W u m m' : Int} (hW : 0 < W) (h : m ≤ m') : axC x a W u m ≤ axC x a W u m' := by
  unfold axC
  have : (a.natAbs : Int) * m ≤ (a.natAbs : Int) * m' := Int.mul_le_mul_of_nonneg_left h (by omega)
  have := Int.ediv_le_ediv hW (show a.sign * (x * u) + (a.natAbs : Int) * m ≤ a.sign * (x * u) + (a.natAbs : Int) * m' by omega)
  omega
theorem axC_step {x a W u m m' : Int} (hW : 0 < W) (ha : a ≠ 0) (h : m < m') (d : W ∣ x * u + a * m') : axC x a W u m + 1 ≤ axC x a W u m' := by
  unfold axC
  have e : a.sign * (x * u) + (a.natAbs : Int) * m' = a.sign * (x * u + a * m') := by
    rw [Int.mul_add, ← Int.mul_assoc a.sign a, sign_self]
  have d2 : W ∣ a.sign * (x * u) + (a.natAbs : Int) * m' := by rw [e]; exact Int.dvd_mul_of_dvd_right d
  have lt : (a.natAbs : Int) * m < (a.natAbs : Int) * m' := Int.mul_lt_mul_of_pos_left h (by omega)
  obtain ⟨q, hq⟩ := d2
  rw [hq, Int.mul_ediv_cancel_left _ (by omega)]
  have : (a.sign * (x * u) + (a.natAbs : Int) * m) / W < q := Int.ediv_lt_of_lt_mul hW (by rw [Int.mul_comm q W]; omega)
  omega
theorem axC_at {x a W u T j : Int} (hW : 0 < W) (h : (a.natAbs : Int) * T = W * j) : axC x a W u T = j := by
  unfold axC
  rw [h, Int.add_mul_ediv_left _ _ (by omega)]
  omega
def hitC (r : Run) (u m : Int) : Int := axC r.x r.a (r.w * u) u m + axC r.y r.b (r.h * u) u m
theorem hitC_zero (r : Run) (u : Int) : hitC r u 0 = 0 := by
  unfold hitC axC
  rw [Int.mul_zero, Int.mul_zero, Int.add_zero, Int.add_zero]
  omega
theorem hits_le {r : Run} (k : r.Ok) {u : Int} (hu : 0 < u) (ha : r.a ≠ 0 → r.a ∣ u) (hb : r.b ≠ 0 → r.b ∣ u) : ∀ n : Nat, (n : Int) ≤ hitC r u (hN r u n)
  | 0 => by
    rw [hN_of hu (show hT r 0 = rq 0 u by rw [rq_div, Rat.zero_divInt]; rfl), hitC_zero]
    exact Int.le_refl _
  | n + 1 => by
    have ih := hits_le k hu ha hb n
    have x := hN_next k hu ha hb n
    have hw : 0 < r.w * u := Int.mul_pos (by have := k.w1; omega) hu
    have hh : 0 < r.h * u := Int.mul_pos (by have := k.h1; omega) hu
    have lt := x.lt
    have m1 := axC_mono (x := r.x) (a := r.a) (u := u) hw (show hN r u n ≤ hN r u (n + 1) by omega)
    have m2 := axC_mono (x := r.y) (a := r.b) (u := u) hh (show hN r u n ≤ hN r u (n + 1) by omega)
    unfold hitC at ih ⊢
    rcases x.at_ with ⟨q1, q2⟩ | ⟨q1, q2⟩
    · have := axC_step (x := r.x) hw q1 lt q2
      omega
    · have := axC_step (x := r.y) hh q1 lt q2
      omega
/-- the whole turns of an axis in a period -/
theorem axis_turns {r : Run} (k : r.Ok) : ∃ jx jy : Int, 0 ≤ jx ∧ 0 ≤ jy ∧ 0 < jx + jy ∧ (perQ r).num * (r.a.natAbs : Int) = 2 * r.w * jx * (perQ r).den ∧ (perQ r).num * (r.b.natAbs : Int) = 2 * r.h * jy * (perQ r).den ∧ jx ≤ 1728 ∧ jy ≤ 1728 := by
  obtain ⟨⟨j1, e1⟩, ⟨j2, e2⟩⟩ := perQ_mul k
  have np := num_pos (perQ_pos k)
  have pd := (perQ r).den_pos
  have nd := num_den (perQ r)
  obtain ⟨hu, hu2, ha, hb⟩ := unit_facts k
  obtain ⟨T, hT0, -, hTq, hd6, hn5, -⟩ := ticks k hu ha hb
  have d0 : ((perQ r).den : Rat) ≠ 0 := Rat.ne_of_gt (Rat.natCast_pos.mpr pd)
  have cross : ∀ {a w j : Int}, (a : Rat) * perQ r = 2 * w * j → (perQ r).num * a = 2 * w * j * (perQ r).den := fun {a w j} e => by
    refine Rat.intCast_inj.mp ?_
    rw [Rat.intCast_mul, Rat.intCast_mul, Rat.intCast_mul, Rat.intCast_mul, show ((2 : Int) : Rat) = 2 from rfl, show (((perQ r).den : Int) : Rat) = ((perQ r).den : Rat) from rfl]
    generalize ((perQ r).den : Rat) = d at *
    generalize ((perQ r).num : Rat) = n at *
    rw [nd] at e
    grind
  have c1 := cross e1
  have c2 := cross e2
  have fix : ∀ {a w j : Int}, 1 ≤ w → -6 ≤ a → a ≤ 6 → (perQ r).num * a = 2 * w * j * (perQ r).den → (perQ r).num * (a.natAbs : Int) = 2 * w * (j.natAbs : Int) * (perQ r).den ∧ ((j.natAbs : Int) ≤ 1728) ∧ (a ≠ 0 → 0 < (j.natAbs : Int)) := fun {a w j} hw l1 l2 e => by
    have e' : (perQ r).num * (a.natAbs : Int) = 2 * w * (j.natAbs : Int) * (perQ r).den := by
      have := congrArg Int.natAbs e
      rw [Int.natAbs_mul, Int.natAbs_mul, Int.natAbs_mul] at this
      have q1 : ((perQ r).num.natAbs : Int) = (perQ r).num := by omega
      have q2 : ((2 * w).natAbs : Int) = 2 * w := by omega
      have q3 : ((((perQ r).den : Int)).natAbs : Int) = (perQ r).den := by omega
      have := congrArg (Nat.cast : Nat → Int) this
      rw [Int.natCast_mul, Int.natCast_mul, Int.natCast_mul, q1, q2, q3] at this
      exact this
    refine ⟨e', ?_, ?_⟩
    · have b1 : (perQ r).num * (a.natAbs : Int) ≤ 576 * 6 := Int.mul_le_mul hn5 (by omega) (by omega) (by decide)
      have b2 : 2 * (j.natAbs : Int) ≤ 2 * w * (j.natAbs : Int) * (perQ r).den := by
        have z0 : 0 ≤ 2 * (j.natAbs : Int) := by omega
        have z1 : 2 * (j.natAbs : Int) ≤ 2 * w * (j.natAbs : Int) := Int.mul_le_mul_of_nonneg_right (by omega) (by omega)
        have z2 : 2 * w * (j.natAbs : Int) * 1 ≤ 2 * w * (j.natAbs : Int) * (perQ r).den := Int.mul_le_mul_of_nonneg_left (by omega) (by omega)
        omega
      omega
    · intro h0
      rcases (by omega : (j.natAbs : Int) = 0 ∨ 0 < (j.natAbs : Int)) with z | z
      · rw [z, Int.mul_zero, Int.zero_mul] at e'
        have := Int.mul_pos np (show (0 : Int) < a.natAbs by omega)
        omega
      · exact z
  have f1 := fix k.w1 k.a1 k.a2 c1
  have f2 := fix k.h1 k.b1 k.b2 c2
  refine ⟨j1.natAbs, j2.natAbs, by omega, by omega, ?_, f1.1, f2.1, f1.2.1, f2.2.1⟩
  by_cases h : r.a = 0
  · have := f2.2.2 fun e => k.ab ⟨h, e⟩
    omega
  · have := f1.2.2 h
    omega
/-- no more hits in a period than walls that its two axes reach -/
theorem hits_in_period {r : Run} (k : r.Ok) {jx jy : Int} (e1 : (perQ r).num * (r.a.natAbs : Int) = 2 * r.w * jx * (perQ r).den) (e2 : (perQ r).num * (r.b.natAbs : Int) = 2 * r.h * jy * (perQ r).den) {n : Nat} (h : hT r n ≤ perQ r) : (n : Int) ≤ 2 * jx + 2 * jy := by
  obtain ⟨hu, hu2, ha, hb⟩ := unit_facts k
  obtain ⟨T, hT0, hTe, hTq, hd6, hn5, -⟩ := ticks k hu ha hb
  have pd := (perQ r).den_pos
  have hw : 0 < r.w * unitOf r := Int.mul_pos (by have := k.w1; omega) hu
  have hh : 0 < r.h * unitOf r := Int.mul_pos (by have := k.h1; omega) hu
  generalize unitOf r = u at *
  have le : hN r u n ≤ T := by
    rw [(hT_tick k hu ha hb n).1, ← hTq] at h
    exact Int.not_lt.mp fun z => absurd ((rq_lt hu).mpr z) (Rat.not_lt.mpr h)
  have m1 := axC_mono (x := r.x) (a := r.a) (u := u) hw le
  have m2 := axC_mono (x := r.y) (a := r.b) (u := u) hh le
  have at1 : (r.a.natAbs : Int) * T = r.w * u * (2 * jx) := by
    have : (perQ r).den * ((r.a.natAbs : Int) * T) = (perQ r).den * (r.w * u * (2 * jx)) := by grind
    exact Int.eq_of_mul_eq_mul_left (by omega) this
  have at2 : (r.b.natAbs : Int) * T = r.h * u * (2 * jy) := by
    have : (perQ r).den * ((r.b.natAbs : Int) * T) = (perQ r).den * (r.h * u * (2 * jy)) := by grind
    exact Int.eq_of_mul_eq_mul_left (by omega) this
  rw [axC_at hw at1] at m1
  rw [axC_at hh at2] at m2
  have := hits_le k hu ha hb n
  unfold hitC at this
  omega
/-- the walls of the hits -/
def wl (r : Run) (i : Nat) : Str := wallsS r (hT r (i + 1))
/-- c hits in a period -/
structure Rnd (r : Run) (c : Nat) : Prop where
  le : hT r c ≤ perQ r
  lt : perQ r < hT r (c + 1)
theorem Rnd.pos {r : Run} (k : r.Ok) {c : Nat} (h : Rnd r c) : 0 < c := by
  rcases Nat.eq_zero_or_pos c with z | z
  · exfalso
    subst z
    -- the first hit is no later than the period: there is a wall at the period's end when there is one at the first hit's time before
    obtain ⟨hu, hu2, ha, hb⟩ := unit_facts k
    obtain ⟨T, hT0, hTe, hTq, hd6, hn5, -⟩ := ticks k hu ha hb
    have z0 : hN r (unitOf r) 0 = 0 := hN_of hu (show hT r 0 = rq 0 (unitOf r) by rw [rq_div, Rat.zero_divInt]; rfl)
    have l1 := h.lt
    rw [(hT_tick k hu ha hb 1).1, ← hTq, rq_lt hu] at l1
    have sh := hN_shift k hu ha hb hTq (c := 0) (by rw [z0]; omega) l1 0
    have e : hN r (unitOf r) (0 + (0 + 1)) = hN r (unitOf r) 1 := rfl
    rw [e] at sh
    have : hN r (unitOf r) (0 + 1) = hN r (unitOf r) 1 := rfl
    omega
  · exact z
theorem wl_period {r : Run} (k : r.Ok) {c : Nat} (h : Rnd r c) (i : Nat) : wl r (c + i) = wl r i := by
  obtain ⟨hu, hu2, ha, hb⟩ := unit_facts k
  obtain ⟨T, hT0, hTe, hTq, hd6, hn5, -⟩ := ticks k hu ha hb
  have q0 : hN r (unitOf r) c ≤ T := by
    have := h.le
    rw [(hT_tick k hu ha hb c).1, ← hTq] at this
    exact Int.not_lt.mp fun z => absurd ((rq_lt hu).mpr z) (Rat.not_lt.mpr this)
  have q1 : T < hN r (unitOf r) (c + 1) := by
    have := h.lt
    rw [(hT_tick k hu ha hb (c + 1)).1, ← hTq] at this
    exact (rq_lt hu).mp this
  unfold wl
  rw [show c + i + 1 = c + (i + 1) by omega, hT_shift k hu ha hb hTq q0 q1 i, walls_period k]
/-- two words that come again, equal as long as both periods together: equal for ever -/
theorem words_same {α : Type} {f g : Nat → α} {p q : Nat} (hp : 0 < p) (hq : 0 < q) (hf : ∀ i, f (p + i) = f i) (hg : ∀ i, g (q + i) = g i) (h : ∀ i, i < p + q → f i = g i) : ∀ i, f i = g i := by
  have rf : ∀ (n i : Nat), f (p * n + i) = f i := fun n => by
    induction n with
    | zero => intro i; rw [Nat.mul_zero, Nat.zero_add]
    | succ n ih => intro i; rw [Nat.mul_succ, show p * n + p + i = p + (p * n + i) by omega, hf, ih]
  have rg : ∀ (n i : Nat), g (q * n + i) = g i := fun n => by
    induction n with
    | zero => intro i; rw [Nat.mul_zero, Nat.zero_add]
    | succ n ih => intro i; rw [Nat.mul_succ, show q * n + q + i = q + (q * n + i) by omega, hg, ih]
  have fq0 : ∀ i, i < p → f (q + i) = f i := fun i hi => by
    rw [h (q + i) (by omega), hg, h i (by omega)]
  have fq : ∀ i, f (q + i) = f i := fun i => by
    have e := Nat.div_add_mod i p
    rw [← e, show q + (p * (i / p) + i % p) = p * (i / p) + (q + i % p) by omega, rf, rf, fq0 _ (Nat.mod_lt _ hp)]
  have rfq : ∀ (n i : Nat), f (q * n + i) = f i := fun n => by
    induction n with
    | zero => intro i; rw [Nat.mul_zero, Nat.zero_add]
    | succ n ih => intro i; rw [Nat.mul_succ, show q * n + q + i = q + (q * n + i) by omega, fq, ih]
  intro i
  have e := Nat.div_add_mod i q
  rw [← e, rfq, rg, h _ (by have := Nat.mod_lt i hq; omega)]
/-- what parting answers -/
inductive PartOf (r s : Run) : PyData → Prop
  | non : (∀ i, wl r i = wl s i) → PartOf r s .none
  | at_ (n : Nat) : wl r n ≠ wl s n → (∀ i, i < n → wl r i = wl s i) → PartOf r s (.int n)
theorem PartOf.symm {r s : Run} {d : PyData} (h : PartOf r s d) : PartOf s r d := by
  cases h with
  | non h => exact .non fun i => (h i).symm
  | at_ n h1 h2 => exact .at_ n (fun z => h1 z.symm) fun i hi => (h2 i hi).symm
theorem PartOf.uniq {r s : Run} {d e : PyData} (h : PartOf r s d) (h' : PartOf r s e) : d = e := by
  cases h with
  | non h =>
    cases h' with
    | non _ => rfl
    | at_ n h1 _ => exact absurd (h n) h1
  | at_ n h1 h2 =>
    cases h' with
    | non h => exact absurd (h n) h1
    | at_ m h3 h4 =>
      rcases (by omega : n < m ∨ n = m ∨ m < n) with z | z | z
      · exact absurd (h4 n z) h1
      · rw [z]
      · exact absurd (h2 m z) h3
theorem PartOf.self {r : Run} {d : PyData} (h : PartOf r r d) : d = .none := by
  cases h with
  | non _ => rfl
  | at_ n h1 _ => exact absurd rfl h1
theorem PartOf.shp {r s : Run} {d : PyData} (h : PartOf r s d) : Shp 1 d := by
  cases h with
  | non _ => exact shp_none
  | at_ n _ _ => exact shp_int _
/-! ### whole solutions -/
theorem bezN (a b : Nat) : ∃ s t : Int, (a : Int) * s + (b : Int) * t = (Nat.gcd a b : Int) := by
  induction a, b using Nat.gcd.induction with
  | H0 n => exact ⟨0, 1, by simp⟩
  | H1 m n h ih =>
    obtain ⟨s, t, e⟩ := ih
    refine ⟨t - (n / m : Nat) * s, s, ?_⟩
    rw [Nat.gcd_rec m n, ← e]
    have d : (n : Int) = (m : Int) * ((n / m : Nat) : Int) + ((n % m : Nat) : Int) := by
      have := Nat.div_add_mod n m
      omega
    rw [d]
    generalize ((n / m : Nat) : Int) = q
    generalize ((n % m : Nat) : Int) = r
    grind
theorem bezI (f m : Int) : ∃ s t : Int, f * s + m * t = (Int.gcd f m : Int) := by
  obtain ⟨s, t, e⟩ := bezN f.natAbs m.natAbs
  refine ⟨f.sign * s, m.sign * t, ?_⟩
  have h1 := sign_self f
  have h2 := sign_self m
  rw [show f * (f.sign * s) = f.sign * f * s by grind, show m * (m.sign * t) = m.sign * m * t by grind, h1, h2, e]
  rfl
/-- the least n from s on with m | f n - r -/
inductive WholeOf (f r m s : Int) : PyData → Prop
  | non : (∀ n : Int, ¬ m ∣ f * n - r) → WholeOf f r m s .none
  | at_ (n : Int) : s ≤ n → n < s + m → m ∣ f * n - r → (∀ n' : Int, s ≤ n' → m ∣ f * n' - r → n ≤ n') → WholeOf f r m s (.int n)
structure Whl (f m g f' m' : Int) : Prop where
  g0 : 0 < g
  ef : f = g * f'
  em : m = g * m'
  m0 : 0 < m'
  cop : ∀ d : Int, m' ∣ f' * d → m' ∣ d
  bez : ∃ s : Int, ∃ t : Int, f' * s + m' * t = 1
theorem whl {f m : Int} (hm : 0 < m) : Whl f m (Int.gcd f m) (f / (Int.gcd f m)) (m / (Int.gcd f m)) := by
  have g0 : 0 < (Int.gcd f m : Int) := by
    have : 0 < Int.gcd f m := Int.gcd_pos_iff.mpr (.inr (by omega))
    omega
  have d1 : (Int.gcd f m : Int) ∣ f := Int.gcd_dvd_left ..
  have d2 : (Int.gcd f m : Int) ∣ m := Int.gcd_dvd_right ..
  obtain ⟨s, t, e⟩ := bezI f m
  generalize (Int.gcd f m : Int) = g at *
  obtain ⟨f', rfl⟩ := d1
  obtain ⟨m', rfl⟩ := d2
  rw [Int.mul_ediv_cancel_left _ (by omega), Int.mul_ediv_cancel_left _ (by omega)]
  have b : f' * s + m' * t = 1 := by
    have : g * (f' * s + m' * t) = g * 1 := by grind
    exact Int.eq_of_mul_eq_mul_left (by omega) this
  refine ⟨g0, rfl, rfl, Int.pos_of_mul_pos_right hm (by omega), fun d ⟨k, hk⟩ => ⟨k * s + t * d, ?_⟩, s, t, b⟩
  have : d = (f' * s + m' * t) * d := by rw [b, Int.one_mul]
  rw [this]
  grind
theorem whole_none {f r m g f' m' : Int} (h : Whl f m g f' m') (hr : ¬ g ∣ r) (n : Int) : ¬ m ∣ f * n - r := fun d => by
  refine hr ?_
  have d1 : g ∣ f * n - r := Int.dvd_trans ⟨m', h.em⟩ d
  have d2 : g ∣ f * n := by rw [h.ef, Int.mul_assoc]; exact Int.dvd_mul_right ..
  have := Int.dvd_sub d2 d1
  rwa [show f * n - (f * n - r) = r by omega] at this
theorem whole_some {f r m g f' m' : Int} (h : Whl f m g f' m') (hr : g ∣ r) : ∃ k : Nat, (k : Int) < m' ∧ m ∣ f * k - r := by
  obtain ⟨c, rfl⟩ := hr
  obtain ⟨s, t, b⟩ := h.bez
  have e := Int.mul_ediv_add_emod (s * c) m'
  have n0 := Int.emod_nonneg (s * c) (show m' ≠ 0 by have := h.m0; omega)
  have n1 := Int.emod_lt_of_pos (s * c) h.m0
  refine ⟨((s * c) % m').toNat, by omega, ?_⟩
  rw [Int.toNat_of_nonneg n0]
  refine ⟨-(t * c) - f' * (s * c / m'), ?_⟩
  rw [h.ef, h.em]
  have : s * c % m' = s * c - m' * (s * c / m') := by omega
  rw [this]
  generalize s * c / m' = q
  have b2 : c = (f' * s + m' * t) * c := by rw [b, Int.one_mul]
  grind
theorem whole_step {f r m g f' m' : Int} (h : Whl f m g f' m') {k : Int} (hk : m ∣ f * k - r) (s : Int) : WholeOf f r m s (.int (s + (k - s) % m')) := by
  have n0 := Int.emod_nonneg (k - s) (show m' ≠ 0 by have := h.m0; omega)
  have n1 := Int.emod_lt_of_pos (k - s) h.m0
  have e := Int.mul_ediv_add_emod (k - s) m'
  have g0 := h.g0
  have m0 := h.m0
  have mm : m' ≤ m := by
    rw [h.em]
    have := Int.mul_le_mul_of_nonneg_right (show 1 ≤ g by omega) (show 0 ≤ m' by omega)
    rwa [Int.one_mul] at this
  refine .at_ _ (by omega) (by omega) ?_ fun n' h1 h2 => ?_
  · have : s + (k - s) % m' = k - m' * ((k - s) / m') := by omega
    rw [this]
    generalize (k - s) / m' = q
    have d : m ∣ f * (m' * q) := ⟨f' * q, by rw [h.ef, h.em]; grind⟩
    have := Int.dvd_sub hk d
    rwa [show f * k - r - f * (m' * q) = f * (k - m' * q) - r by grind] at this
  · have d := Int.dvd_sub h2 hk
    rw [show f * n' - r - (f * k - r) = f * (n' - k) by grind, h.ef, h.em, Int.mul_assoc] at d
    have d2 : m' ∣ f' * (n' - k) := by
      obtain ⟨c, hc⟩ := d
      exact ⟨c, Int.eq_of_mul_eq_mul_left (show g ≠ 0 by omega) (by rw [hc, Int.mul_assoc])⟩
    obtain ⟨c, hc⟩ := h.cop _ d2
    -- n' = k + m' c, s + (k - s) % m' = k - m' q
    have lt : -m' < m' * (c + (k - s) / m') := by
      rw [Int.mul_add]
      omega
    have : -1 < c + (k - s) / m' := Int.lt_of_mul_lt_mul_left (a := m') (by omega) (by omega)
    have := Int.mul_nonneg (show 0 ≤ m' by omega) (show 0 ≤ c + (k - s) / m' by omega)
    rw [Int.mul_add] at this
    omega
/-! ### two congruences in time -/
def Cq (a r m : Int) (t : Rat) : Prop := ∃ j : Int, (a : Rat) * t = r + m * j
/-- how great a time that earliest answers can be -/
def EB (t : Rat) : Prop := 0 ≤ t.num ∧ t.num ≤ 20000 ∧ t.den ≤ 12
inductive EarlOf (a r m a' r' m' : Int) : PyData → Prop
  | non : (∀ t : Rat, 0 ≤ t → Cq a r m t → Cq a' r' m' t → False) → EarlOf a r m a' r' m' .none
  | at_ (t : Rat) : 0 ≤ t → EB t → Cq a r m t → Cq a' r' m' t → (∀ t' : Rat, 0 ≤ t' → Cq a r m t' → Cq a' r' m' t' → t ≤ t') → EarlOf a r m a' r' m' (fr t)
theorem EarlOf.swap {a r m a' r' m' : Int} {d : PyData} (h : EarlOf a r m a' r' m' d) : EarlOf a' r' m' a r m d := by
  cases h with
  | non h => exact .non fun t h0 h1 h2 => h t h0 h2 h1
  | at_ t h0 hb h1 h2 h3 => exact .at_ t h0 hb h2 h1 fun t' q0 q1 q2 => h3 t' q0 q2 q1
theorem Cq.neg {a r m : Int} {t : Rat} : Cq a r m t ↔ Cq (-a) (-r) m t := by
  have one : ∀ {a r m : Int} {t : Rat}, Cq a r m t → Cq (-a) (-r) m t := fun {a r m t} ⟨j, e⟩ => ⟨-j, by
    rw [Rat.intCast_neg, Rat.intCast_neg, Rat.intCast_neg]
    grind⟩
  refine ⟨one, fun h => ?_⟩
  have := one h
  rwa [Int.neg_neg, Int.neg_neg] at this
theorem Cq.zero {r m : Int} {t : Rat} (hm : 0 < m) : Cq 0 r m t ↔ m ∣ r := by
  constructor
  · rintro ⟨j, e⟩
    refine ⟨-j, ?_⟩
    refine Rat.intCast_inj.mp ?_
    rw [Rat.intCast_mul, Rat.intCast_neg]
    rw [Rat.intCast_zero, Rat.zero_mul] at e
    grind
  · rintro ⟨j, rfl⟩
    refine ⟨-j, ?_⟩
    rw [Rat.intCast_zero, Rat.zero_mul, Rat.intCast_mul, Rat.intCast_neg]
    grind
theorem cq_of {s ρ m : Int} (hs : 0 < s) {t : Rat} : Cq s ρ m t ↔ ∃ n : Int, t = rq (ρ + m * n) s := by
  have s0 : (s : Rat) ≠ 0 := Rat.ne_of_gt (Rat.intCast_pos.mpr hs)
  unfold rq
  constructor
  · rintro ⟨j, e⟩
    refine ⟨j, ?_⟩
    rw [Rat.intCast_add, Rat.intCast_mul]
    grind
  · rintro ⟨n, rfl⟩
    refine ⟨n, ?_⟩
    rw [Rat.intCast_add, Rat.intCast_mul]
    grind
theorem cq_second {s ρ m a r m' n : Int} (hs : 0 < s) : Cq a r m' (rq (ρ + m * n) s) ↔ m' * s ∣ a * m * n - (r * s - a * ρ) := by
  have s0 : (s : Rat) ≠ 0 := Rat.ne_of_gt (Rat.intCast_pos.mpr hs)
  unfold rq
  constructor
  · rintro ⟨j, e⟩
    refine ⟨j, ?_⟩
    refine Rat.intCast_inj.mp ?_
    simp only [Rat.intCast_add, Rat.intCast_mul, Rat.intCast_sub] at e ⊢
    grind
  · rintro ⟨j, e⟩
    refine ⟨j, ?_⟩
    have e := congrArg (Int.cast : Int → Rat) e
    simp only [Rat.intCast_add, Rat.intCast_mul, Rat.intCast_sub] at e ⊢
    grind
theorem rq_nonneg {n d : Int} (hd : 0 < d) : 0 ≤ rq n d ↔ 0 ≤ n := by
  have := rq_lt (m := n) (n := 0) hd
  rw [show rq 0 d = 0 by rw [rq_div, Rat.zero_divInt]] at this
  constructor
  · intro h
    exact Int.not_lt.mp fun z => absurd (this.mpr z) (Rat.not_lt.mpr h)
  · intro h
    exact Rat.not_lt.mp fun z => absurd (this.mp z) (by omega)
theorem start_le {ρ m n : Int} (hm : 0 < m) : 0 ≤ ρ + m * n ↔ -(ρ / m) ≤ n := by
  have e := Int.mul_ediv_add_emod ρ m
  have e0 := Int.emod_nonneg ρ (show m ≠ 0 by omega)
  have e1 := Int.emod_lt_of_pos ρ hm
  generalize ρ / m = q at *
  constructor
  · intro h
    have : m * (-q - 1) < m * n := by rw [Int.mul_sub, Int.mul_neg]; omega
    have := Int.lt_of_mul_lt_mul_left this (by omega)
    omega
  · intro h
    have := Int.mul_le_mul_of_nonneg_left h (show 0 ≤ m by omega)
    rw [Int.mul_neg] at this
    omega
/-- what the last step of earliest answers -/
theorem earl_main {s ρ m a r m' : Int} (hs : 0 < s) (hs2 : s ≤ 12) (hm : 0 < m) (hm2 : m ≤ 24) (hm' : 0 < m') (hm2' : m' ≤ 24) (hρ : -48 ≤ ρ ∧ ρ ≤ 48) {d : PyData} (h : WholeOf (a * m) (r * s - a * ρ) (m' * s) (-(ρ / m)) d) :
    EarlOf s ρ m a r m' (match d with | .int n => fr (rq (ρ + m * n) s) | _ => .none) := by
  cases h with
  | non h =>
    refine .non fun t t0 c1 c2 => ?_
    obtain ⟨n, rfl⟩ := (cq_of hs).mp c1
    exact h n ((cq_second hs).mp c2)
  | at_ n h1 h2 h3 h4 =>
    have n0 : 0 ≤ ρ + m * n := (start_le hm).mpr h1
    refine .at_ _ ((rq_nonneg hs).mpr n0) ?_ ((cq_of hs).mpr ⟨n, rfl⟩) ((cq_second hs).mpr h3) fun t' t0 c1 c2 => ?_
    · have b := rq_bound hs n0
      have e := Int.mul_ediv_add_emod ρ m
      have e0 := Int.emod_nonneg ρ (show m ≠ 0 by omega)
      have ms : m' * s ≤ 24 * 12 := Int.mul_le_mul hm2' hs2 (by omega) (by decide)
      have e1 := Int.emod_lt_of_pos ρ hm
      have q1 : -(ρ / m) ≤ 48 := by
        rcases (by omega : 0 ≤ ρ / m ∨ ρ / m < 0) with z | z
        · omega
        · have q2 : m * (ρ / m) ≤ 1 * (ρ / m) := Int.mul_le_mul_of_nonpos_right (by omega) (by omega)
          have q3 : (m - 1) * (ρ / m + 1) ≤ 0 := Int.mul_nonpos_of_nonneg_of_nonpos (by omega) (by omega)
          rw [Int.sub_mul, Int.mul_add, Int.mul_one, Int.one_mul] at q3
          omega
      have : m * n ≤ 24 * 400 := by
        rcases (by omega : 0 ≤ n ∨ n < 0) with z | z
        · exact Int.mul_le_mul hm2 (by omega) z (by decide)
        · have := Int.mul_neg_of_pos_of_neg hm z; omega
      exact ⟨b.1, by omega, by omega⟩
    · obtain ⟨n', rfl⟩ := (cq_of hs).mp c1
      have l := h4 n' ((start_le hm).mp ((rq_nonneg hs).mp t0)) ((cq_second hs).mp c2)
      refine Rat.not_lt.mp fun z => ?_
      have z := (rq_lt hs).mp z
      have := Int.mul_le_mul_of_nonneg_left l (show 0 ≤ m by omega)
      omega
/-! ### the least of some times -/
inductive LeastOf (ts : List Rat) : PyData → Prop
  | non : ts = [] → LeastOf ts .none
  | at_ (t : Rat) : t ∈ ts → (∀ t' ∈ ts, t ≤ t') → LeastOf ts (fr t)
/-! ### two places are one -/
theorem foldQ_form (z : Rat) {m : Int} (hm : 0 < m) : ∃ j : Int, (0 ≤ z - 2 * m * j ∧ z - 2 * m * j ≤ m ∧ foldQ z m = z - 2 * m * j) ∨ (m ≤ z - 2 * m * j ∧ z - 2 * m * j ≤ 2 * m ∧ foldQ z m = 2 * m - (z - 2 * m * j)) := by
  have m0 : (0 : Rat) < m := Rat.intCast_pos.mpr hm
  have f1 : ((z / (2 * m)).floor : Rat) ≤ z / (2 * m) := Rat.le_floor_iff.mp (Int.le_refl _)
  have f2 : z / (2 * m) < ((z / (2 * m)).floor + 1 : Int) := Rat.floor_lt_iff.mp (by omega)
  rw [Rat.intCast_add, show ((1 : Int) : Rat) = 1 from rfl] at f2
  generalize hj : (z / (2 * m)).floor = j at *
  have g1 : (j : Rat) * (2 * m) ≤ z := by
    refine Rat.not_lt.mp fun q => ?_
    have := (Rat.div_lt_iff (show (0 : Rat) < 2 * m by grind)).mpr q
    exact absurd f1 (Rat.not_le.mpr this)
  have g2 : z < ((j : Rat) + 1) * (2 * m) := (Rat.div_lt_iff (show (0 : Rat) < 2 * m by grind)).mp f2
  refine ⟨j, ?_⟩
  have e := foldQ_add (z - 2 * m * j) hm j
  rw [show z - 2 * (m : Rat) * (j : Rat) + 2 * m * j = z by grind] at e
  by_cases h : z - 2 * m * j ≤ m
  · exact .inl ⟨by grind, h, by rw [e]; exact foldQ_low hm (by grind) h⟩
  · exact .inr ⟨by grind, by grind, by rw [e]; exact foldQ_high hm (by grind) (by grind)⟩
theorem foldQ_neg (z : Rat) {m : Int} (hm : 0 < m) : foldQ (-z) m = foldQ z m := by
  have m0 : (0 : Rat) < m := Rat.intCast_pos.mpr hm
  obtain ⟨j, h⟩ := foldQ_form z hm
  have e := foldQ_add (-z + 2 * m * (j + 1)) hm (-(j + 1))
  rw [Rat.intCast_neg, Rat.intCast_add, show ((1 : Int) : Rat) = 1 from rfl, show -z + 2 * (m : Rat) * ((j : Rat) + 1) + 2 * m * -((j : Rat) + 1) = -z by grind] at e
  rcases h with ⟨h1, h2, h3⟩ | ⟨h1, h2, h3⟩
  · rw [h3, e, foldQ_high hm (by grind) (by grind)]; grind
  · rw [h3, e, foldQ_low hm (by grind) (by grind)]; grind
theorem foldQ_eq {z z' : Rat} {m : Int} (hm : 0 < m) : foldQ z m = foldQ z' m ↔ (∃ j : Int, z - z' = 2 * m * j) ∨ (∃ j : Int, z + z' = 2 * m * j) := by
  constructor
  · intro h
    obtain ⟨j, h1⟩ := foldQ_form z hm
    obtain ⟨k, h2⟩ := foldQ_form z' hm
    have one : ((1 : Int) : Rat) = 1 := rfl
    rcases h1 with ⟨-, -, h1⟩ | ⟨-, -, h1⟩ <;> rcases h2 with ⟨-, -, h2⟩ | ⟨-, -, h2⟩ <;> rw [h1, h2] at h
    · exact .inl ⟨j - k, by rw [Rat.intCast_sub]; grind⟩
    · exact .inr ⟨j + k + 1, by rw [Rat.intCast_add, Rat.intCast_add, one]; grind⟩
    · exact .inr ⟨j + k + 1, by rw [Rat.intCast_add, Rat.intCast_add, one]; grind⟩
    · exact .inl ⟨j - k, by rw [Rat.intCast_sub]; grind⟩
  · rintro (⟨j, e⟩ | ⟨j, e⟩)
    · rw [show z = z' + 2 * m * j by grind, foldQ_add _ hm]
    · rw [show z = -z' + 2 * m * j by grind, foldQ_add _ hm, foldQ_neg _ hm]
theorem placeD_eq {r s : Run} {t : Rat} : placeD r t = placeD s t ↔ posX r t = posX s t ∧ posY r t = posY s t := by
  constructor
  · intro e
    unfold placeD at e
    injection e with e
    injection e with e1 e2
    injection e2 with e2 _
    exact ⟨fr_inj e1, fr_inj e2⟩
  · rintro ⟨e1, e2⟩
    unfold placeD
    rw [e1, e2]
/-- the two ways in which an axis can bring two balls together -/
def mA (a c : Int) : Nat → Int
  | 0 => a - c
  | _ => a + c
def mR (x u : Int) : Nat → Int
  | 0 => u - x
  | _ => -u - x
theorem axis_meet {x a u c w : Int} (hw : 0 < w) (t : Rat) : foldQ ((x : Rat) + a * t) w = foldQ ((u : Rat) + c * t) w ↔ ∃ i, i < 2 ∧ Cq (mA a c i) (mR x u i) (2 * w) t := by
  rw [foldQ_eq hw]
  have two : ((2 : Int) : Rat) = 2 := rfl
  constructor
  · rintro (⟨j, e⟩ | ⟨j, e⟩)
    · refine ⟨0, by decide, j, ?_⟩
      show ((a - c : Int) : Rat) * t = ((u - x : Int) : Rat) + ((2 * w : Int) : Rat) * j
      rw [Rat.intCast_sub, Rat.intCast_sub, Rat.intCast_mul, two]
      grind
    · refine ⟨1, by decide, j, ?_⟩
      show ((a + c : Int) : Rat) * t = ((-u - x : Int) : Rat) + ((2 * w : Int) : Rat) * j
      rw [Rat.intCast_add, Rat.intCast_sub, Rat.intCast_neg, Rat.intCast_mul, two]
      grind
  · rintro ⟨i, hi, j, e⟩
    rcases (by omega : i = 0 ∨ i = 1) with z | z <;> subst z
    · refine .inl ⟨j, ?_⟩
      have e : ((a - c : Int) : Rat) * t = ((u - x : Int) : Rat) + ((2 * w : Int) : Rat) * j := e
      rw [Rat.intCast_sub, Rat.intCast_sub, Rat.intCast_mul, two] at e
      grind
    · refine .inr ⟨j, ?_⟩
      have e : ((a + c : Int) : Rat) * t = ((-u - x : Int) : Rat) + ((2 * w : Int) : Rat) * j := e
      rw [Rat.intCast_add, Rat.intCast_sub, Rat.intCast_neg, Rat.intCast_mul, two] at e
      grind
/-- what meeting answers -/
inductive MeetOf (r s : Run) : PyData → Prop
  | non : (∀ t : Rat, 0 ≤ t → placeD r t ≠ placeD s t) → MeetOf r s .none
  | at_ (t : Rat) : 0 ≤ t → EB t → placeD r t = placeD s t → (∀ t' : Rat, 0 ≤ t' → placeD r t' = placeD s t' → t ≤ t') → MeetOf r s (fr t)
theorem MeetOf.symm {r s : Run} {d : PyData} (h : MeetOf r s d) : MeetOf s r d := by
  cases h with
  | non h => exact .non fun t t0 e => h t t0 e.symm
  | at_ t h0 hb h1 h2 => exact .at_ t h0 hb h1.symm fun t' q0 e => h2 t' q0 e.symm
theorem MeetOf.uniq {r s : Run} {d e : PyData} (h : MeetOf r s d) (h' : MeetOf r s e) : d = e := by
  cases h with
  | non h =>
    cases h' with
    | non _ => rfl
    | at_ t h0 _ h1 _ => exact absurd h1 (h t h0)
  | at_ t h0 _ h1 h2 =>
    cases h' with
    | non h => exact absurd h1 (h t h0)
    | at_ t' q0 _ q1 q2 => rw [Rat.le_antisymm (h2 t' q0 q1) (q2 t h0 h1)]
theorem MeetOf.shp {r s : Run} {d : PyData} (h : MeetOf r s d) : Shp 1 d := by
  cases h with
  | non _ => exact shp_none
  | at_ t _ _ _ _ => exact shp_fr t
/-- what has been found when the pairs before (i, j) are done -/
structure MFound (cx cy : Nat → Rat → Prop) (i j : Nat) (ts : List Rat) : Prop where
  len : ts.length ≤ 2 * i + j
  all : ∀ t ∈ ts, 0 ≤ t ∧ EB t ∧ ∃ i' j', i' < 2 ∧ j' < 2 ∧ cx i' t ∧ cy j' t
  done : ∀ i' j', j' < 2 → (i' < i ∨ (i' = i ∧ j' < j)) → ∀ t : Rat, 0 ≤ t → cx i' t → cy j' t → ∃ t' ∈ ts, t' ≤ t
theorem MFound.next {cx cy : Nat → Rat → Prop} {i : Nat} {ts : List Rat} (h : MFound cx cy i 2 ts) : MFound cx cy (i + 1) 0 ts :=
  ⟨by have := h.len; omega, h.all, fun i' j' hj hi t t0 c1 c2 => h.done i' j' hj (by omega) t t0 c1 c2⟩
theorem MFound.step {cx cy : Nat → Rat → Prop} {i j : Nat} {ts : List Rat} {a r m a' r' m' : Int} (h : MFound cx cy i j ts) (hi : i < 2) (hj : j < 2) (ex : ∀ t, Cq a r m t ↔ cx i t) (ey : ∀ t, Cq a' r' m' t ↔ cy j t) {d : PyData} (hd : EarlOf a r m a' r' m' d) :
    (d = .none → MFound cx cy i (j + 1) ts) ∧ ∀ t, d = fr t → MFound cx cy i (j + 1) (ts ++ [t]) := by
  refine ⟨fun e => ?_, fun t e => ?_⟩
  · cases hd with
    | non hn =>
      refine ⟨by have := h.len; omega, h.all, fun i' j' hj' hi' t t0 c1 c2 => ?_⟩
      rcases (by omega : (i' < i ∨ (i' = i ∧ j' < j)) ∨ (i' = i ∧ j' = j)) with z | ⟨z1, z2⟩
      · exact h.done i' j' hj' z t t0 c1 c2
      · subst z1; subst z2
        exact (hn t t0 ((ex t).mpr c1) ((ey t).mpr c2)).elim
    | at_ t _ _ _ _ _ => cases e
  · cases hd with
    | non hn => cases e
    | at_ t2 h0 hb h1 h2 h3 =>
      have e := fr_inj e
      subst e
      refine ⟨by rw [List.length_append, List.length_singleton]; have := h.len; omega, fun t ht => ?_, fun i' j' hj' hi' t t0 c1 c2 => ?_⟩
      · rcases List.mem_append.mp ht with q | q
        · exact h.all t q
        · rw [List.mem_singleton.mp q]
          exact ⟨h0, hb, i, j, hi, hj, (ex _).mp h1, (ey _).mp h2⟩
      · rcases (by omega : (i' < i ∨ (i' = i ∧ j' < j)) ∨ (i' = i ∧ j' = j)) with z | ⟨z1, z2⟩
        · obtain ⟨t', m1, m2⟩ := h.done i' j' hj' z t t0 c1 c2
          exact ⟨t', List.mem_append_left _ m1, m2⟩
        · subst z1; subst z2
          exact ⟨t2, by simp, h3 t t0 ((ex t).mpr c1) ((ey t).mpr c2)⟩
/-- the least of what was found -/
theorem MFound.least {cx cy : Nat → Rat → Prop} {ts : List Rat} {at_ : Rat → Prop} (h : MFound cx cy 2 0 ts) (e : ∀ t, at_ t ↔ (∃ i, i < 2 ∧ cx i t) ∧ ∃ j, j < 2 ∧ cy j t) {d : PyData} (hd : LeastOf ts d) :
    (d = .none ∧ ∀ t : Rat, 0 ≤ t → ¬ at_ t) ∨ ∃ t : Rat, d = fr t ∧ 0 ≤ t ∧ EB t ∧ at_ t ∧ ∀ t' : Rat, 0 ≤ t' → at_ t' → t ≤ t' := by
  cases hd with
  | non hn =>
    refine .inl ⟨rfl, fun t t0 q => ?_⟩
    obtain ⟨⟨i, hi, c1⟩, j, hj, c2⟩ := (e t).mp q
    obtain ⟨t', m1, _⟩ := h.done i j hj (.inl hi) t t0 c1 c2
    rw [hn] at m1
    cases m1
  | at_ t m1 m2 =>
    obtain ⟨h0, hb, i, j, hi, hj, c1, c2⟩ := h.all t m1
    refine .inr ⟨t, rfl, h0, hb, (e t).mpr ⟨⟨i, hi, c1⟩, j, hj, c2⟩, fun t' t0 q => ?_⟩
    obtain ⟨⟨i, hi, c1⟩, j, hj, c2⟩ := (e t').mp q
    obtain ⟨t'', m3, m4⟩ := h.done i j hj (.inl hi) t' t0 c1 c2
    exact Rat.le_trans (m2 t'' m3) m4
section
variable {P : Program} {w : World} {K : PySem.W.Frag} {mg : Str → Option Value} {base : Heap}
/-! ### whole_solution -/
def sp_whole_solution : DSp where
  n := 4
  wp := fun ds M Q => ∃ (f r m s : Int), ds = [I f, I r, I m, I s] ∧ (-1000000 < f ∧ f < 1000000 ∧ 0 < m ∧ m ≤ 40000) ∧ ∀ d : PyData, WholeOf f r m s d → Q (.d d) M
  mono := fun h ⟨f, r, m, s, e, b, k⟩ => ⟨f, r, m, s, e, b, fun d a => h _ _ (k d a)⟩
  len := fun ⟨f, r, m, s, e, b, k⟩ => by rw [e]; rfl
def knownOut (f r m : Int) : PyData → Option PyData
  | .int i => if (f * i - r) % m = 0 then some (.int i) else none
  | _ => none
abbrev s_whole_solution : Stmt := topS 22
abbrev nm_whole_solution : List Str := ["factor", "rest", "modulus", "start", "common", "step", "known", "k"]
theorem sc_whole_solution : FnScope nm_whole_solution ["factor", "rest", "modulus", "start"] (defScope s_whole_solution) := ⟨rfl, rfl, rfl, by decide +kernel, rfl, by decide +kernel, by decide +kernel⟩
theorem ok_whole_solution {f : Addr} {fd : FuncData} (Fd : Fun K "whole_solution" "whole_solution" s_whole_solution f fd) (hm : mg "whole_solution" = some (.ref f)) (hb : Binds K fd ["factor", "rest", "modulus", "start"] []) (d_common_of : Def P w K mg base "common_of" 1 sp_common_of) (z_range : mg "range" = none) : Def P w K mg base "whole_solution" 2 sp_whole_solution := by
  refine def_ok Fd sc_whole_solution hm hb rfl fun cdv A outer s H E hr ds M Q h => ?_
  obtain ⟨f, r, m, s', rfl, ⟨f1, f2, m1, m2⟩, q⟩ := h
  have wh := whl (f := f) m1
  have g0 := wh.g0
  have gm : (Int.gcd f m : Int) ≤ m := Int.le_of_dvd m1 (Int.gcd_dvd_right ..)
  -- common =
  refine dss_cons (ds_set 4 sc_whole_solution.nd (de_call d_common_of (hr.mono (by decide)) (da_cons (de_var 0 rfl (da_cons (de_var 2 rfl (da_nil (⟨_, _, rfl, ?_⟩))))))))
  generalize hg : (Int.gcd f m : Int) = g at *
  refine dss_cons (ds_if (dt_cmpI ci_ne (de_mod (de_var 1 rfl (de_var 4 rfl (⟨_, _, rfl, rfl, by omega, de_int (⟨_, _, rfl, rfl, ite2 (fun hi => ?_) (fun hi => ?_)⟩)⟩))))))
  · have hr : ¬ g ∣ r := fun d => by
      have := Int.emod_eq_zero_of_dvd d
      rw [this] at hi
      cases hi
    exact dss_cons (ds_ret (de_non (q _ (.non fun n => whole_none wh hr n))))
  have hr : g ∣ r := Int.dvd_of_emod_eq_zero (by simpa using hi)
  refine dss_nil ?_
  -- step =
  refine dss_cons (ds_set 5 sc_whole_solution.nd (de_div (de_var 2 rfl (de_var 4 rfl (⟨_, _, rfl, rfl, ⟨by omega, by omega⟩, ?_⟩)))))
  have st1 : m / g ≤ m := Int.ediv_le_self _ (by omega)
  obtain ⟨k0, hk0, hk1⟩ := whole_some wh hr
  have m0 := wh.m0
  generalize hst : m / g = st at *
  -- known =
  refine dss_cons (ds_lcI 6 (.one 7) [("k", 7)] nm_whole_solution (defScope s_whole_solution) sc_whole_solution.nd (by decide +kernel) (fun _ _ _ _ _ => pg_name sc_whole_solution.nd rfl (Or.inl rfl)) (by decide) (di_range1 (da_cons (de_var 5 rfl (da_nil (⟨_, rfl, by omega, by omega, ⟨knownOut f r m, ?_, ?_, ?_⟩⟩)))) z_range))
  · rw [rangeD_len]; omega
  · intro p hp
    unfold rangeD at hp
    obtain ⟨i, hi, rfl⟩ := List.mem_map.mp hp
    have hi : i < st.toNat := List.mem_range.mp hi
    refine ⟨_, decide ((f * (0 + (i : Int)) - r) % m = 0), rfl, fun M2 hM2 => ⟨fun _ _ _ _ _ => ?_, ?_⟩⟩
    · exact dts_one (dt_cmpI ci_eq (de_mod (de_sub (de_mul (de_var 0 rfl (de_var 7 rfl (⟨_, _, rfl, rfl, cmul_l (by omega) (by omega), de_var 1 rfl (⟨_, _, rfl, rfl, de_var 2 rfl (⟨_, _, rfl, rfl, by omega, de_int (⟨_, _, rfl, rfl, ⟨rfl, rfl⟩⟩)⟩)⟩)⟩)))))))
    · by_cases hh : (f * (0 + (i : Int)) - r) % m = 0
      · rw [decide_eq_true hh]
        exact iteT ⟨_, if_pos hh, fun _ _ _ _ _ => de_var 7 rfl (⟨rfl, rfl⟩)⟩
      · rw [decide_eq_false hh]
        exact iteF (if_neg hh)
  have mem0 : PyData.int (k0 : Int) ∈ (rangeD 0 st.toNat).filterMap (knownOut f r m) := by
    refine List.mem_filterMap.mpr ⟨.int (k0 : Int), ?_, ?_⟩
    · unfold rangeD
      refine List.mem_map.mpr ⟨k0, List.mem_range.mpr (by omega), by rw [Int.zero_add]⟩
    · show (if _ then _ else _) = _
      rw [if_pos (Int.emod_eq_zero_of_dvd hk1)]
  cases hl : (rangeD 0 st.toNat).filterMap (knownOut f r m) with
  | nil => rw [hl] at mem0; cases mem0
  | cons p ps =>
    have hp : p ∈ (rangeD 0 st.toNat).filterMap (knownOut f r m) := by rw [hl]; exact List.mem_cons_self
    obtain ⟨p', hp', hpo⟩ := List.mem_filterMap.mp hp
    unfold rangeD at hp'
    obtain ⟨i, hi, rfl⟩ := List.mem_map.mp hp'
    have hi : i < st.toNat := List.mem_range.mp hi
    have hpo : (if (f * (0 + (i : Int)) - r) % m = 0 then some (PyData.int (0 + (i : Int))) else none) = some p := hpo
    by_cases hh : (f * (0 + (i : Int)) - r) % m = 0
    · rw [if_pos hh] at hpo
      cases hpo
      rw [Int.zero_add] at hh
      -- return start
      refine dss_cons (ds_ret (de_add (de_var 3 rfl (de_mod (de_sub (de_ixL (de_var 6 rfl (de_int (⟨_, _, _, rfl, rfl, atI_nat (j := 0) rfl, de_var 3 rfl (⟨_, _, rfl, rfl, de_var 5 rfl (⟨_, _, rfl, rfl, by omega, ⟨_, _, rfl, rfl, ?_⟩⟩)⟩)⟩)))))))))
      rw [Int.zero_add]
      have e := whole_step wh (Int.dvd_of_emod_eq_zero hh) s'
      exact q _ e
    · rw [if_neg hh] at hpo; cases hpo
/-! ### earliest -/
def sp_earliest : DSp where
  n := 2
  wp := fun ds M Q => ∃ (a r m a' r' m' : Int), ds = [T [.int a, .int r, .int m], T [.int a', .int r', .int m']] ∧ ((-12 ≤ a ∧ a ≤ 12) ∧ (-48 ≤ r ∧ r ≤ 48) ∧ (0 < m ∧ m ≤ 24) ∧ (-12 ≤ a' ∧ a' ≤ 12) ∧ (-48 ≤ r' ∧ r' ≤ 48) ∧ (0 < m' ∧ m' ≤ 24)) ∧ ∀ d : PyData, EarlOf a r m a' r' m' d → Q (.d d) M
  mono := fun h ⟨a, r, m, a', r', m', e, b, k⟩ => ⟨a, r, m, a', r', m', e, b, fun d x => h _ _ (k d x)⟩
  len := fun ⟨a, r, m, a', r', m', e, b, k⟩ => by rw [e]; rfl
theorem EB_zero : EB 0 := ⟨by decide, by decide, by decide⟩
theorem earl_zero {r m r' m' : Int} (hm : 0 < m) (hm' : 0 < m') (h : m ∣ r) (h' : m' ∣ r') : EarlOf 0 r m 0 r' m' (fr 0) :=
  .at_ 0 Rat.le_refl EB_zero ((Cq.zero hm).mpr h) ((Cq.zero hm').mpr h') fun t' h0 _ _ => h0
abbrev s_earliest : Stmt := topS 23
abbrev nm_earliest : List Str := ["one", "two", "speed", "rest", "modulus", "start", "factor", "other", "number"]
theorem sc_earliest : FnScope nm_earliest ["one", "two"] (defScope s_earliest) := ⟨rfl, rfl, rfl, by decide +kernel, rfl, by decide +kernel, by decide +kernel⟩
theorem ok_earliest {f : Addr} {fd : FuncData} (Fd : Fun K "earliest" "earliest" s_earliest f fd) (hm : mg "earliest" = some (.ref f)) (hb : Binds K fd ["one", "two"] []) (d_whole_solution : Def P w K mg base "whole_solution" 2 sp_whole_solution) (d_lowest : Def P w K mg base "lowest" 2 sp_lowest) : Def P w K mg base "earliest" 3 sp_earliest := by
  refine def_ok Fd sc_earliest hm hb rfl fun cdv A outer s H E hr ds M Q h => ?_
  obtain ⟨a, r, m, a', r', m', rfl, ⟨ha, hr', hm', ha', hr2, hm2⟩, q⟩ := h
  -- after the exchange: the first is 0 only where both are
  have body : ∀ (a r m a' r' m' : Int), (-12 ≤ a ∧ a ≤ 12) → (-48 ≤ r ∧ r ≤ 48) → (0 < m ∧ m ≤ 24) → (-12 ≤ a' ∧ a' ≤ 12) → (-48 ≤ r' ∧ r' ≤ 48) → (0 < m' ∧ m' ≤ 24) → (a = 0 → a' = 0) → (∀ d : PyData, EarlOf a r m a' r' m' d → Q (.d d) M) →
      DSs (cxOf CX0 P w K mg base nm_earliest "earliest" (defScope s_earliest) f cdv A outer s H E).nox ((defBody s_earliest).drop 1) [some (DL.T [.int a, .int r, .int m]), some (DL.T [.int a', .int r', .int m']), none, none, none, none, none, none, none] M { nx := fun _ M' => Q N0 M', rt := Q } := by
    intro a r m a' r' m' ⟨a1, a2⟩ ⟨r1, r2⟩ ⟨m1, m2⟩ ⟨b1, b2⟩ ⟨s1, s2⟩ ⟨n1, n2⟩ h0 q
    -- if two[0] == 0 and two[1] % two[2] != 0:
    refine dss_cut (fun ρ' M' => M = M' ∧ (a' = 0 → m' ∣ r') ∧ ρ' = [some (DL.T [.int a, .int r, .int m]), some (DL.T [.int a', .int r', .int m']), none, none, none, none, none, none, none]) ?_ ?_
    · refine ds_if (DW.dt (dw_and (dt_cmpI ci_eq (de_ixT (de_var 1 rfl (de_int (⟨_, _, _, rfl, rfl, rfl, de_int (⟨_, _, rfl, rfl, ite2 (fun hb => dw_and1 (dt_cmpI ci_ne (de_mod (de_ixT (de_var 1 rfl (de_int (⟨_, _, _, rfl, rfl, rfl, de_ixT (de_var 1 rfl (de_int (⟨_, _, _, rfl, rfl, rfl, ⟨_, _, rfl, rfl, n1, de_int (⟨_, _, rfl, rfl, ite2 (fun hi => ?_) (fun hi => ?_)⟩)⟩⟩)))⟩))))))) (fun hb => iteF (dss_nil ⟨rfl, fun z => absurd (decide_eq_true z) hb, rfl⟩))⟩)⟩)))))))
      · have z : a' = 0 := of_decide_eq_true hb
        refine dss_cons (ds_ret (de_non (q _ (.non fun t t0 c1 c2 => ?_))))
        subst z
        have := Int.emod_eq_zero_of_dvd ((Cq.zero n1).mp c2)
        rw [this] at hi
        cases hi
      · exact dss_nil ⟨rfl, fun _ => Int.dvd_of_emod_eq_zero (by simpa using hi), rfl⟩
    rintro ρ' M' ⟨rfl, hd, rfl⟩
    -- if one[0] == 0:
    refine dss_cons (ds_if (dt_cmpI ci_eq (de_ixT (de_var 0 rfl (de_int (⟨_, _, _, rfl, rfl, rfl, de_int (⟨_, _, rfl, rfl, ite2 (fun hi => ?_) (fun hi => ?_)⟩)⟩))))))
    · have z : a = 0 := of_decide_eq_true hi
      have z' := h0 z
      subst z
      subst z'
      refine dss_cons (ds_ret (de_if (dt_cmpI ci_eq (de_mod (de_ixT (de_var 0 rfl (de_int (⟨_, _, _, rfl, rfl, rfl, de_ixT (de_var 0 rfl (de_int (⟨_, _, _, rfl, rfl, rfl, ⟨_, _, rfl, rfl, m1, de_int (⟨_, _, rfl, rfl, ite2 (fun hi => de_tup (da_cons (de_int (da_cons (de_int (da_nil (⟨[_, _], rfl, rfl, ?_⟩))))))) (fun hi => de_non (?_))⟩)⟩⟩)))⟩))))))))
      · exact q (fr 0) (earl_zero m1 n1 (Int.dvd_of_emod_eq_zero (of_decide_eq_true hi)) (hd rfl))
      · exact q _ (.non fun t t0 c1 c2 => hi (decide_eq_true (Int.emod_eq_zero_of_dvd ((Cq.zero m1).mp c1))))
    have a0 : a ≠ 0 := fun e => hi (decide_eq_true e)
    refine dss_nil ?_
    -- speed, rest, modulus = one if one[0] > 0 else (-one[0], -one[1], one[2])
    refine dss_cut (fun ρ' M' => M = M' ∧ ∃ sp rh : Int, (0 < sp ∧ sp ≤ 12) ∧ (-48 ≤ rh ∧ rh ≤ 48) ∧ (∀ d, EarlOf sp rh m a' r' m' d → EarlOf a r m a' r' m' d) ∧ ρ' = [some (DL.T [.int a, .int r, .int m]), some (DL.T [.int a', .int r', .int m']), some (I sp), some (I rh), some (I m), none, none, none, none]) ?_ ?_
    · refine ds_asg (de_if (dt_cmpI ci_gt (de_ixT (de_var 0 rfl (de_int (⟨_, _, _, rfl, rfl, rfl, de_int (⟨_, _, rfl, rfl, ite2 (fun hi => de_var 0 rfl (dg_tup rfl (dgs_cons (dg_name 2 (dgs_cons (dg_name 3 (dgs_cons (dg_name 4 (dgs_nil (?_)) sc_earliest.nd)) sc_earliest.nd)) sc_earliest.nd)) rfl)) (fun hi => de_tup (da_cons (de_neg (de_ixT (de_var 0 rfl (de_int (⟨_, _, _, rfl, rfl, rfl, ⟨_, rfl, da_cons (de_neg (de_ixT (de_var 0 rfl (de_int (⟨_, _, _, rfl, rfl, rfl, ⟨_, rfl, da_cons (de_ixT (de_var 0 rfl (de_int (⟨_, _, _, rfl, rfl, rfl, da_nil (⟨[_, _, _], rfl, rfl, dg_tup rfl (dgs_cons (dg_name 2 (dgs_cons (dg_name 3 (dgs_cons (dg_name 4 (dgs_nil (?_)) sc_earliest.nd)) sc_earliest.nd)) sc_earliest.nd)) rfl⟩)⟩))))⟩⟩)))))⟩⟩)))))))⟩)⟩))))))
      · have hp : 0 < a := of_decide_eq_true hi
        exact ⟨rfl, a, r, ⟨hp, a2⟩, ⟨r1, r2⟩, fun _ x => x, rfl⟩
      · have hp : ¬ 0 < a := fun z => hi (decide_eq_true z)
        refine ⟨rfl, -a, -r, ⟨by omega, by omega⟩, ⟨by omega, by omega⟩, fun d x => ?_, rfl⟩
        cases x with
        | non h => exact .non fun t t0 c1 c2 => h t t0 (Cq.neg.mp c1) c2
        | at_ t h0 hb h1 h2 h3 => exact .at_ t h0 hb (Cq.neg.mpr h1) h2 fun t' q0 q1 q2 => h3 t' q0 (Cq.neg.mp q1) q2
    rintro ρ' M' ⟨rfl, sp, rh, ⟨p1, p2⟩, hrh, tr, rfl⟩
    have e1 : rh / m ≤ 48 ∧ -49 ≤ rh / m := by
      have e := Int.mul_ediv_add_emod rh m
      have e0 := Int.emod_nonneg rh (show m ≠ 0 by omega)
      have e1 := Int.emod_lt_of_pos rh m1
      constructor
      · exact Int.not_lt.mp fun z => by
          have := Int.mul_le_mul_of_nonneg_left (show 49 ≤ rh / m by omega) (show 0 ≤ m by omega)
          omega
      · exact Int.not_lt.mp fun z => by
          have := Int.mul_le_mul_of_nonneg_left (show rh / m ≤ -50 by omega) (show 0 ≤ m by omega)
          omega
    have msb : 0 < m' * sp ∧ m' * sp ≤ 24 * 12 := ⟨Int.mul_pos n1 p1, Int.mul_le_mul n2 p2 (by omega) (by decide)⟩
    have fab : -288 ≤ a' * m ∧ a' * m ≤ 288 := by
      rcases (by omega : 0 ≤ a' ∨ a' ≤ 0) with z | z
      · have := Int.mul_nonneg z (show 0 ≤ m by omega)
        have : a' * m ≤ 12 * 24 := Int.mul_le_mul b2 m2 (by omega) (by decide)
        omega
      · have := Int.mul_nonneg (show 0 ≤ -a' by omega) (show 0 ≤ m by omega)
        have : -a' * m ≤ 12 * 24 := Int.mul_le_mul (by omega) m2 (by omega) (by decide)
        rw [Int.neg_mul] at *
        omega
    -- start =
    refine dss_cons (ds_set 5 sc_earliest.nd (de_neg (de_div (de_var 3 rfl (de_var 4 rfl (⟨_, _, rfl, rfl, ⟨by omega, by omega⟩, ⟨_, rfl, ?_⟩⟩))))))
    -- factor, other =
    refine dss_cons (ds_par 6 7 sc_earliest.nd (da_cons (de_mul (de_ixT (de_var 1 rfl (de_int (⟨_, _, _, rfl, rfl, rfl, de_var 4 rfl (⟨_, _, rfl, rfl, cmul_l (by omega) (by omega), da_cons (de_sub (de_mul (de_ixT (de_var 1 rfl (de_int (⟨_, _, _, rfl, rfl, rfl, de_var 2 rfl (⟨_, _, rfl, rfl, cmul_l (by omega) (by omega), de_mul (de_ixT (de_var 1 rfl (de_int (⟨_, _, _, rfl, rfl, rfl, de_var 3 rfl (⟨_, _, rfl, rfl, cmul_l (by omega) (by omega), ⟨_, _, rfl, rfl, da_nil (⟨_, _, rfl, ?_⟩)⟩⟩)⟩))))⟩)⟩))))))⟩)⟩)))))))
    -- number =
    refine dss_cons (ds_set 8 sc_earliest.nd (de_call d_whole_solution (hr.mono (by decide)) (da_cons (de_var 6 rfl (da_cons (de_var 7 rfl (da_cons (de_mul (de_ixT (de_var 1 rfl (de_int (⟨_, _, _, rfl, rfl, rfl, de_var 2 rfl (⟨_, _, rfl, rfl, cmul_l (by omega) (by omega), da_cons (de_var 5 rfl (da_nil (⟨_, _, _, _, rfl, ⟨by omega, by omega, msb.1, by omega⟩, fun nd hnd => ?_⟩)))⟩)⟩))))))))))))
    have main := earl_main p1 p2 m1 m2 n1 n2 hrh hnd
    cases hnd with
    | non hh => exact dss_cons (ds_ret (de_if (dt_isN (de_var 8 rfl (⟨_, rfl, iteT (de_non (q _ (tr _ main)))⟩)))))
    | at_ n g1 g2 g3 g4 =>
      exact dss_cons (ds_ret (de_if (dt_isN (de_var 8 rfl (⟨_, rfl, iteF (de_call d_lowest (hr.mono (by decide)) (da_cons (de_add (de_var 3 rfl (de_mul (de_var 4 rfl (de_var 8 rfl (⟨_, _, rfl, rfl, cmul_l (by omega) (by omega), ⟨_, _, rfl, rfl, da_cons (de_var 2 rfl (da_nil (⟨_, _, rfl, ⟨by omega, by omega, (fit_small (by omega) (by omega)).f4⟩, q _ (tr _ main)⟩)))⟩⟩))))))))⟩)))))
  -- if one[0] == 0: one, two = (two, one)
  refine dss_cut (sts := (defBody s_earliest).drop 1) (fun ρ' M' => M = M' ∧ ∃ b s n b' s' n' : Int, ((-12 ≤ b ∧ b ≤ 12) ∧ (-48 ≤ s ∧ s ≤ 48) ∧ (0 < n ∧ n ≤ 24) ∧ (-12 ≤ b' ∧ b' ≤ 12) ∧ (-48 ≤ s' ∧ s' ≤ 48) ∧ (0 < n' ∧ n' ≤ 24)) ∧ (b = 0 → b' = 0) ∧ (∀ d, EarlOf b s n b' s' n' d → EarlOf a r m a' r' m' d) ∧
    ρ' = [some (DL.T [.int b, .int s, .int n]), some (DL.T [.int b', .int s', .int n']), none, none, none, none, none, none, none]) ?_ ?_
  · refine ds_if (dt_cmpI ci_eq (de_ixT (de_var 0 rfl (de_int (⟨_, _, _, rfl, rfl, rfl, de_int (⟨_, _, rfl, rfl, ite2 (fun hi => ?_) (fun hi => ?_)⟩)⟩)))))
    · have z : a = 0 := of_decide_eq_true hi
      refine dss_cons (ds_par 0 1 sc_earliest.nd (da_cons (de_var 1 rfl (da_cons (de_var 0 rfl (da_nil (⟨_, _, rfl, ?_⟩)))))))
      exact dss_nil ⟨rfl, a', r', m', a, r, m, ⟨ha', hr2, hm2, ha, hr', hm'⟩, fun _ => z, fun d x => x.swap, rfl⟩
    · exact dss_nil ⟨rfl, a, r, m, a', r', m', ⟨ha, hr', hm', ha', hr2, hm2⟩, fun z => absurd (decide_eq_true z) hi, fun d x => x, rfl⟩
  rintro ρ' M' ⟨rfl, b, s2, n, b', s3, n', ⟨q1, q2, q3, q4, q5, q6⟩, h0, tr, rfl⟩
  exact body b s2 n b' s3 n' q1 q2 q3 q4 q5 q6 h0 fun d x => q d (tr d x)
/-! ### least -/
def sp_least : DSp where
  n := 1
  wp := fun ds M Q => ∃ (ts : List Rat), ds = [L (ts.map fr)] ∧ (∀ t ∈ ts, TB t) ∧ ∀ d : PyData, LeastOf ts d → Q (.d d) M
  mono := fun h ⟨ts, e, b, k⟩ => ⟨ts, e, b, fun d a => h _ _ (k d a)⟩
  len := fun ⟨ts, e, b, k⟩ => by rw [e]; rfl
theorem LeastOf.snoc {ts : List Rat} {t : Rat} {d : PyData} (h : LeastOf ts d) : (d = .none → LeastOf (ts ++ [t]) (fr t)) ∧ (∀ s, d = fr s → LeastOf (ts ++ [t]) (if t < s then fr t else fr s)) := by
  refine ⟨fun e => ?_, fun s e => ?_⟩
  · cases h with
    | non h => subst h; exact .at_ t (by simp) fun t' ht => by rw [List.nil_append, List.mem_singleton] at ht; rw [ht]; exact Rat.le_refl
    | at_ t _ _ => cases e
  · cases h with
    | non h => cases e
    | at_ s' h1 h2 =>
      have e := fr_inj e
      subst e
      by_cases hl : t < s'
      · rw [if_pos hl]
        refine .at_ t (by simp) fun t' ht => ?_
        rcases List.mem_append.mp ht with q | q
        · exact Rat.le_trans (Rat.le_of_lt hl) (h2 t' q)
        · rw [List.mem_singleton.mp q]; exact Rat.le_refl
      · rw [if_neg hl]
        refine .at_ s' (List.mem_append_left _ h1) fun t' ht => ?_
        rcases List.mem_append.mp ht with q | q
        · exact h2 t' q
        · rw [List.mem_singleton.mp q]; exact Rat.not_lt.mp hl
abbrev s_least : Stmt := topS 25
abbrev nm_least : List Str := ["times", "best", "time"]
theorem sc_least : FnScope nm_least ["times"] (defScope s_least) := ⟨rfl, rfl, rfl, by decide +kernel, rfl, by decide +kernel, by decide +kernel⟩
theorem ok_least {f : Addr} {fd : FuncData} (Fd : Fun K "least" "least" s_least f fd) (hm : mg "least" = some (.ref f)) (hb : Binds K fd ["times"] []) (d_is_less : Def P w K mg base "is_less" 1 sp_is_less) : Def P w K mg base "least" 2 sp_least := by
  refine def_ok Fd sc_least hm hb rfl fun cdv A outer s H E hr ds M Q h => ?_
  obtain ⟨ts, rfl, hb', q⟩ := h
  refine dss_cons (ds_set 1 sc_least.nd (de_non (?_)))
  refine dss_cut (fun ρ' M' => M = M' ∧ ∃ d v, LeastOf ts d ∧ ρ' = [some (L (ts.map fr)), some (.d d), v]) ?_ ?_
  · refine ds_forL (de_var 0 rfl (⟨_, rfl, fun i ρ' M' => M = M' ∧ ∃ d v, LeastOf (ts.take i) d ∧ ρ' = [some (L (ts.map fr)), some (.d d), v], ⟨rfl, .none, none, .non rfl, rfl⟩, ⟨fun i ρ' M' d hi hd hW => ?_, fun ρ' M' hW => by rw [List.length_map, List.take_length] at hW; exact hW⟩⟩))
    obtain ⟨p, hp, rfl⟩ := hd
    obtain ⟨rfl, d, v, hd, rfl⟩ := hW
    rw [List.length_map] at hi
    rw [List.getElem?_map, List.getElem?_eq_getElem hi] at hp
    cases hp
    have tbi := hb' ts[i] (List.getElem_mem hi)
    have tk : ts.take (i + 1) = ts.take i ++ [ts[i]] := by rw [List.take_add_one, List.getElem?_eq_getElem hi]; rfl
    refine dg_name 2 (?_) sc_least.nd
    have sn := hd.snoc (t := ts[i])
    cases hd with
    | non he =>
      refine dss_cons (ds_if (DW.dt (dw_or (dt_isN (de_var 1 rfl (⟨_, rfl, iteT (iteT ?_)⟩))))))
      refine dss_cons (ds_set 1 sc_least.nd (de_var 2 rfl (?_)))
      exact dss_nil (dss_nil ⟨rfl, _, some _, by rw [tk]; exact sn.1 rfl, rfl⟩)
    | at_ t h1 h2 =>
      have sn := sn.2 t rfl
      have tbt := hb' t (List.mem_of_mem_take h1)
      refine dss_cons (ds_if (DW.dt (dw_or (dt_isN (de_var 1 rfl (⟨_, rfl, iteF (dw_or1 (DT.of_val (de_call d_is_less (hr.mono (by decide)) (da_cons (de_var 2 rfl (da_cons (de_var 1 rfl (da_nil (⟨_, _, rfl, ⟨tbi, tbt⟩, ⟨_, rfl, ?_⟩⟩)))))))))⟩))))))
      by_cases hl : ts[i] < t
      · rw [if_pos hl] at sn
        rw [decide_eq_true hl]
        refine iteT (dss_cons (ds_set 1 sc_least.nd (de_var 2 rfl (?_))))
        exact dss_nil (dss_nil ⟨rfl, _, some _, by rw [tk]; exact sn, rfl⟩)
      · rw [if_neg hl] at sn
        rw [decide_eq_false hl]
        exact iteF (dss_nil (dss_nil ⟨rfl, _, some _, by rw [tk]; exact sn, rfl⟩))
  rintro ρ' M' ⟨rfl, d, v, hd, rfl⟩
  exact dss_cons (ds_ret (de_var 1 rfl (q d hd)))
end
section
variable {P : Program} {w : World} {K : PySem.W.Frag} {mg : Str → Option Value} {base : Heap}
/-! ### meeting -/
def sp_meeting : DSp where
  n := 2
  wp := fun ds M Q => ∃ (r s : Run), ds = [.d r.data, .d s.data] ∧ (r.Ok ∧ s.Ok ∧ r.w = s.w ∧ r.h = s.h) ∧ ∀ d : PyData, MeetOf r s d → Q (.d d) M
  mono := fun h ⟨r, s, e, b, k⟩ => ⟨r, s, e, b, fun d a => h _ _ (k d a)⟩
  len := fun ⟨r, s, e, b, k⟩ => by rw [e]; rfl
theorem EB.tb {t : Rat} (h : EB t) : TB t := ⟨by have := h.1; omega, by have := h.2.1; omega, by have := h.2.2; omega⟩
-- no meeting
end
section
variable {P : Program} {w : World} {K : PySem.W.Frag} {mg : Str → Option Value} {base : Heap}
def sp_round_of : DSp where
  n := 1
  wp := fun ds M Q => ∃ (r : Run), ds = [.d r.data] ∧ r.Ok ∧ ∀ c : Nat, c ≤ 7000 → Rnd r c → Q (I c) M
  mono := fun h ⟨r, e, s, k⟩ => ⟨r, e, s, fun c a b => h _ _ (k c a b)⟩
  len := fun ⟨r, e, s, k⟩ => by rw [e]; rfl
theorem cutOut_t (q : Rat) (r : Run) (i : Nat) : (match hitD r i with | .tuple [.tuple [.int n, .int d], z] => if n * (q.den : Int) ≤ q.num * d then some (PyData.tuple [.int n, .int d]) else none | _ => none) = (cutOut q (hitD r i)).map fun _ => fr (hT r (i + 1)) := by
  rw [cutOut_hit]
  show (if _ then _ else _) = _
  by_cases h : hT r (i + 1) ≤ q
  · rw [if_pos h, if_pos ((Rat.le_iff _ _).mp h)]; rfl
  · rw [if_neg h, if_neg fun z => h ((Rat.le_iff _ _).mpr z)]; rfl
theorem fm_len {α β γ : Type} {f : α → Option β} {g : α → Option γ} : ∀ {l : List α}, (∀ x ∈ l, (f x).isSome = (g x).isSome) → (l.filterMap f).length = (l.filterMap g).length
  | [], _ => rfl
  | x :: xs, h => by
    have ih := fm_len (l := xs) fun y hy => h y (List.mem_cons_of_mem _ hy)
    have hx := h x List.mem_cons_self
    rw [List.filterMap_cons, List.filterMap_cons]
    cases hf : f x <;> cases hg : g x <;> rw [hf, hg] at hx <;> simp_all
theorem most_div {n d : Int} {a w j : Int} (hd : 0 < d) (hw : 0 < w) (e : n * a = 2 * w * j * d) : 2 * n * a / d / w = 4 * j := by
  rw [Int.mul_assoc, e, show 2 * (2 * w * j * d) = d * (w * (4 * j)) by grind, Int.mul_ediv_cancel_left _ (by omega), Int.mul_ediv_cancel_left _ (by omega)]
-- no round_of
/-! ### parting -/
def sp_parting : DSp where
  n := 2
  wp := fun ds M Q => ∃ (r s : Run), ds = [.d r.data, .d s.data] ∧ r.Ok ∧ s.Ok ∧ ∀ d : PyData, PartOf r s d → Q (.d d) M
  mono := fun h ⟨r, s, e, s1, s2, k⟩ => ⟨r, s, e, s1, s2, fun c a => h _ _ (k c a)⟩
  len := fun ⟨r, s, e, s1, s2, k⟩ => by rw [e]; rfl
theorem eqv_str (x y : Str) : PyData.eqv (.str x) (.str y) = decide (x = y) := by
  show (x == y) = _
  exact Bool.beq_eq_decide_eq x y
-- no parting
end
/-! ### when a ball is at a whole place -/
def goals (g : Int) : List Int := if g = 0 then [0] else [-g, g]
theorem goals_len (g : Int) : (goals g).length ≤ 2 ∧ 0 < (goals g).length := by
  unfold goals
  split <;> simp
theorem goals_mem {g s : Int} : s ∈ goals g ↔ s = g ∨ s = -g := by
  unfold goals
  split
  · rename_i h; subst h; simp
  · simp; omega
theorem axis_at {x a g w : Int} (hw : 0 < w) (h0 : 0 ≤ g) (h1 : g ≤ w) (t : Rat) : foldQ ((x : Rat) + a * t) w = g ↔ ∃ s ∈ goals g, Cq a (s - x) (2 * w) t := by
  have e : foldQ ((g : Rat) + (0 : Int) * t) w = g := by
    rw [Rat.intCast_zero, Rat.zero_mul, Rat.add_zero]
    exact foldQ_low hw (Rat.intCast_nonneg.mpr h0) (Rat.intCast_le_intCast.mpr h1)
  have m := axis_meet (x := x) (a := a) (u := g) (c := 0) hw t
  rw [e] at m
  rw [m]
  constructor
  · rintro ⟨i, hi, c⟩
    rcases (by omega : i = 0 ∨ i = 1) with z | z <;> subst z
    · exact ⟨g, goals_mem.mpr (.inl rfl), by
        have c : Cq (a - 0) (g - x) (2 * w) t := c
        rwa [Int.sub_zero] at c⟩
    · exact ⟨-g, goals_mem.mpr (.inr rfl), by
        have c : Cq (a + 0) (-g - x) (2 * w) t := c
        rwa [Int.add_zero] at c⟩
  · rintro ⟨s, hs, c⟩
    rcases goals_mem.mp hs with z | z <;> subst z
    · exact ⟨0, by decide, by show Cq (a - 0) _ _ _; rwa [Int.sub_zero]⟩
    · exact ⟨1, by decide, by show Cq (a + 0) _ _ _; rwa [Int.add_zero]⟩
def AtP (r : Run) (gx gy : Int) (t : Rat) : Prop := posX r t = gx ∧ posY r t = gy
structure InBox (r : Run) (gx gy : Int) : Prop where
  x0 : 0 ≤ gx
  x1 : gx ≤ r.w
  y0 : 0 ≤ gy
  y1 : gy ≤ r.h
theorem atP_iff {r : Run} (k : r.Ok) {gx gy : Int} (b : InBox r gx gy) (t : Rat) : AtP r gx gy t ↔ (∃ s ∈ goals gx, Cq r.a (s - r.x) (2 * r.w) t) ∧ ∃ s ∈ goals gy, Cq r.b (s - r.y) (2 * r.h) t := by
  unfold AtP posX posY
  rw [axis_at (by have := k.w1; omega) b.x0 b.x1, axis_at (by have := k.h1; omega) b.y0 b.y1]
/-- what has been found when the pairs before (i, j) are done -/
structure FFound (G1 G2 : List Int) (cx cy : Int → Rat → Prop) (i j : Nat) (ts : List Rat) : Prop where
  len : ts.length ≤ 2 * i + j
  all : ∀ t ∈ ts, 0 ≤ t ∧ EB t ∧ (∃ s ∈ G1, cx s t) ∧ ∃ s ∈ G2, cy s t
  done : ∀ (i' j' : Nat) (s1 s2 : Int), G1[i']? = some s1 → G2[j']? = some s2 → (i' < i ∨ (i' = i ∧ j' < j)) → ∀ t : Rat, 0 ≤ t → cx s1 t → cy s2 t → ∃ t' ∈ ts, t' ≤ t
theorem FFound.next {G1 G2 : List Int} {cx cy : Int → Rat → Prop} {i : Nat} {ts : List Rat} (hl : G2.length ≤ 2) (h : FFound G1 G2 cx cy i G2.length ts) : FFound G1 G2 cx cy (i + 1) 0 ts :=
  ⟨by have := h.len; omega, h.all, fun i' j' s1 s2 e1 e2 hi t t0 c1 c2 => h.done i' j' s1 s2 e1 e2 (by have := (List.getElem?_eq_some_iff.mp e2).1; omega) t t0 c1 c2⟩
theorem FFound.step {G1 G2 : List Int} {cx cy : Int → Rat → Prop} {i j : Nat} {s1 s2 : Int} {ts : List Rat} {a r m a' r' m' : Int} (h : FFound G1 G2 cx cy i j ts) (hi : G1[i]? = some s1) (hj : G2[j]? = some s2) (ex : ∀ t, Cq a r m t ↔ cx s1 t) (ey : ∀ t, Cq a' r' m' t ↔ cy s2 t) {d : PyData} (hd : EarlOf a r m a' r' m' d) :
    (d = .none → FFound G1 G2 cx cy i (j + 1) ts) ∧ ∀ t, d = fr t → FFound G1 G2 cx cy i (j + 1) (ts ++ [t]) := by
  refine ⟨fun e => ?_, fun t e => ?_⟩
  · cases hd with
    | non hn =>
      refine ⟨by have := h.len; omega, h.all, fun i' j' s1' s2' e1 e2 hi' t t0 c1 c2 => ?_⟩
      rcases (by omega : (i' < i ∨ (i' = i ∧ j' < j)) ∨ (i' = i ∧ j' = j)) with z | ⟨z1, z2⟩
      · exact h.done i' j' s1' s2' e1 e2 z t t0 c1 c2
      · subst z1; subst z2
        rw [hi] at e1; rw [hj] at e2
        cases e1; cases e2
        exact (hn t t0 ((ex t).mpr c1) ((ey t).mpr c2)).elim
    | at_ t _ _ _ _ _ => cases e
  · cases hd with
    | non hn => cases e
    | at_ t2 h0 hb h1 h2 h3 =>
      have e := fr_inj e
      subst e
      refine ⟨by rw [List.length_append, List.length_singleton]; have := h.len; omega, fun t ht => ?_, fun i' j' s1' s2' e1 e2 hi' t t0 c1 c2 => ?_⟩
      · rcases List.mem_append.mp ht with q | q
        · exact h.all t q
        · rw [List.mem_singleton.mp q]
          exact ⟨h0, hb, ⟨s1, List.mem_of_getElem? hi, (ex _).mp h1⟩, s2, List.mem_of_getElem? hj, (ey _).mp h2⟩
      · rcases (by omega : (i' < i ∨ (i' = i ∧ j' < j)) ∨ (i' = i ∧ j' = j)) with z | ⟨z1, z2⟩
        · obtain ⟨t', m1, m2⟩ := h.done i' j' s1' s2' e1 e2 z t t0 c1 c2
          exact ⟨t', List.mem_append_left _ m1, m2⟩
        · subst z1; subst z2
          rw [hi] at e1; rw [hj] at e2
          cases e1; cases e2
          exact ⟨t2, by simp, h3 t t0 ((ex t).mpr c1) ((ey t).mpr c2)⟩
/-- the times that times_for gives: the first of each pair of turns -/
structure ForOf (r : Run) (gx gy : Int) (ts : List Rat) : Prop where
  len : ts.length ≤ 4
  all : ∀ t ∈ ts, 0 ≤ t ∧ EB t ∧ AtP r gx gy t
  done : ∀ t : Rat, 0 ≤ t → AtP r gx gy t → ∃ t' ∈ ts, t' ≤ t
theorem FFound.out {r : Run} (k : r.Ok) {gx gy : Int} (b : InBox r gx gy) {ts : List Rat} (h : FFound (goals gx) (goals gy) (fun s t => Cq r.a (s - r.x) (2 * r.w) t) (fun s t => Cq r.b (s - r.y) (2 * r.h) t) (goals gx).length 0 ts) : ForOf r gx gy ts := by
  refine ⟨by have := h.len; have := (goals_len gx).1; omega, fun t ht => ?_, fun t t0 c => ?_⟩
  · obtain ⟨h0, hb, h1, h2⟩ := h.all t ht
    exact ⟨h0, hb, (atP_iff k b t).mpr ⟨h1, h2⟩⟩
  · obtain ⟨⟨s1, m1, c1⟩, s2, m2, c2⟩ := (atP_iff k b t).mp c
    obtain ⟨i, hi⟩ := List.getElem?_of_mem m1
    obtain ⟨j, hj⟩ := List.getElem?_of_mem m2
    exact h.done i j s1 s2 hi hj (.inl (List.getElem?_eq_some_iff.mp hi).1) t t0 c1 c2
/-- what first_at answers -/
inductive FirstOf (r : Run) (gx gy : Int) : PyData → Prop
  | non : (∀ t : Rat, 0 ≤ t → ¬ AtP r gx gy t) → FirstOf r gx gy .none
  | at_ (t : Rat) : 0 ≤ t → EB t → AtP r gx gy t → (∀ t' : Rat, 0 ≤ t' → AtP r gx gy t' → t ≤ t') → FirstOf r gx gy (fr t)
theorem ForOf.least {r : Run} {gx gy : Int} {ts : List Rat} (h : ForOf r gx gy ts) {d : PyData} (hd : LeastOf ts d) : FirstOf r gx gy d := by
  cases hd with
  | non hn =>
    refine .non fun t t0 q => ?_
    obtain ⟨t', m1, _⟩ := h.done t t0 q
    rw [hn] at m1
    cases m1
  | at_ t m1 m2 =>
    obtain ⟨h0, hb, c⟩ := h.all t m1
    refine .at_ t h0 hb c fun t' t0 q => ?_
    obtain ⟨t'', m3, m4⟩ := h.done t' t0 q
    exact Rat.le_trans (m2 t'' m3) m4
theorem FirstOf.uniq {r : Run} {gx gy : Int} {d e : PyData} (h : FirstOf r gx gy d) (h' : FirstOf r gx gy e) : d = e := by
  cases h with
  | non h =>
    cases h' with
    | non _ => rfl
    | at_ t h0 _ h1 _ => exact absurd h1 (h t h0)
  | at_ t h0 _ h1 h2 =>
    cases h' with
    | non h => exact absurd h1 (h t h0)
    | at_ t' q0 _ q1 q2 => rw [Rat.le_antisymm (h2 t' q0 q1) (q2 t h0 h1)]
theorem FirstOf.shp {r : Run} {gx gy : Int} {d : PyData} (h : FirstOf r gx gy d) : Shp 1 d := by
  cases h with
  | non _ => exact shp_none
  | at_ t _ _ _ _ => exact shp_fr t
/-! ### corners -/
def corner (r : Run) : Nat → Int × Int
  | 0 => (0, 0)
  | 1 => (0, r.h)
  | 2 => (r.w, 0)
  | _ => (r.w, r.h)
def spotD (g : Int × Int) : PyData := .tuple [.int g.1, .int g.2]
theorem corner_in {r : Run} (k : r.Ok) (i : Nat) : InBox r (corner r i).1 (corner r i).2 := by
  have := k.w1; have := k.h1
  unfold corner
  split <;> constructor <;> (simp; try omega)
/-- the best of the first n corners -/
inductive CornerN (r : Run) (n : Nat) : PyData → Prop
  | non : (∀ i, i < n → ∀ t : Rat, 0 ≤ t → ¬ AtP r (corner r i).1 (corner r i).2 t) → CornerN r n .none
  | at_ (t : Rat) (i : Nat) : i < n → 0 ≤ t → EB t → AtP r (corner r i).1 (corner r i).2 t → (∀ j, j < n → ∀ t' : Rat, 0 ≤ t' → AtP r (corner r j).1 (corner r j).2 t' → t ≤ t') → CornerN r n (.tuple [fr t, spotD (corner r i)])
abbrev CornerOf (r : Run) (d : PyData) : Prop := CornerN r 4 d
theorem CornerN.next {r : Run} {n : Nat} {b d : PyData} (h : CornerN r n b) (hd : FirstOf r (corner r n).1 (corner r n).2 d) :
    (d = .none → CornerN r (n + 1) b) ∧ ∀ t, d = fr t → (b = .none → CornerN r (n + 1) (.tuple [fr t, spotD (corner r n)])) ∧ ∀ t0 z, b = .tuple [fr t0, z] → CornerN r (n + 1) (if t < t0 then .tuple [fr t, spotD (corner r n)] else b) := by
  refine ⟨fun e => ?_, fun t e => ⟨fun eb => ?_, fun t0 z eb => ?_⟩⟩
  · cases hd with
    | at_ t _ _ _ _ => cases e
    | non hn =>
      cases h with
      | non h =>
        refine .non fun i hi t t0 => ?_
        rcases (by omega : i < n ∨ i = n) with q | q
        · exact h i q t t0
        · rw [q]; exact hn t t0
      | at_ t i hi h0 hb h1 h2 =>
        refine .at_ t i (by omega) h0 hb h1 fun j hj t' q0 q1 => ?_
        rcases (by omega : j < n ∨ j = n) with q | q
        · exact h2 j q t' q0 q1
        · rw [q] at q1; exact absurd q1 (hn t' q0)
  · cases hd with
    | non _ => cases e
    | at_ t2 h0 hb h1 h2 =>
      have e := fr_inj e
      subst e
      cases h with
      | at_ _ _ _ _ _ _ _ => cases eb
      | non h =>
        refine .at_ t2 n (by omega) h0 hb h1 fun j hj t' q0 q1 => ?_
        rcases (by omega : j < n ∨ j = n) with q | q
        · exact absurd q1 (h j q t' q0)
        · rw [q] at q1; exact h2 t' q0 q1
  · cases hd with
    | non _ => cases e
    | at_ t2 h0 hb h1 h2 =>
      have e := fr_inj e
      subst e
      cases h with
      | non h => cases eb
      | at_ t1 i hi g0 gb g1 g2 =>
        injection eb with eb
        injection eb with eb _
        have eb := fr_inj eb
        subst eb
        by_cases hl : t2 < t1
        · rw [if_pos hl]
          refine .at_ t2 n (by omega) h0 hb h1 fun j hj t' q0 q1 => ?_
          rcases (by omega : j < n ∨ j = n) with q | q
          · exact Rat.le_trans (Rat.le_of_lt hl) (g2 j q t' q0 q1)
          · rw [q] at q1; exact h2 t' q0 q1
        · rw [if_neg hl]
          refine .at_ t1 i (by omega) g0 gb g1 fun j hj t' q0 q1 => ?_
          rcases (by omega : j < n ∨ j = n) with q | q
          · exact g2 j q t' q0 q1
          · rw [q] at q1; exact Rat.le_trans (Rat.not_lt.mp hl) (h2 t' q0 q1)
theorem goals_uniq {g : Int} (h0 : 0 ≤ g) : ∀ {ms : List Int}, ms.Pairwise (· < ·) → (∀ k, k ∈ ms ↔ k ∈ [g, -g]) → ms = goals g
  | [], _, hm => by
    have := (hm g).mpr (by simp)
    cases this
  | [a], _, hm => by
    have h1 := (hm g).mpr (by simp)
    have h2 := (hm (-g)).mpr (by simp)
    simp only [List.mem_cons, List.not_mem_nil, or_false] at h1 h2
    unfold goals
    rw [if_pos (by omega)]
    congr 1
    omega
  | [a, b], hp, hm => by
    have h1 := (hm a).mp (by simp)
    have h2 := (hm b).mp (by simp)
    simp only [List.mem_cons, List.not_mem_nil, or_false] at h1 h2
    have hl : a < b := by
      have := (List.pairwise_cons.mp hp).1 b (by simp)
      exact this
    unfold goals
    rw [if_neg (by omega)]
    congr 1
    · omega
    · congr 1
      omega
  | a :: b :: c :: l, hp, hm => by
    have h1 := (hm a).mp (by simp)
    have h2 := (hm b).mp (by simp)
    have h3 := (hm c).mp (by simp)
    simp only [List.mem_cons, List.not_mem_nil, or_false] at h1 h2 h3
    have p1 := List.pairwise_cons.mp hp
    have p2 := List.pairwise_cons.mp p1.2
    have l1 : a < b := p1.1 b (by simp)
    have l2 : b < c := p2.1 c (by simp)
    omega
section
variable {P : Program} {w : World} {K : PySem.W.Frag} {mg : Str → Option Value} {base : Heap}
/-! ### times_for -/
def sp_times_for : DSp where
  n := 2
  wp := fun ds M Q => ∃ (r : Run) (gx gy : Int), ds = [.d r.data, T [.int gx, .int gy]] ∧ r.Ok ∧ InBox r gx gy ∧ ∀ ts : List Rat, ForOf r gx gy ts → Q (L (ts.map fr)) M
  mono := fun h ⟨r, x, y, e, k, b, q⟩ => ⟨r, x, y, e, k, b, fun ts a => h _ _ (q ts a)⟩
  len := fun ⟨r, x, y, e, k, b, q⟩ => by rw [e]; rfl
theorem EB.tb7 {t : Rat} (h : EB t) : TB t := ⟨by have := h.1; omega, by have := h.2.1; omega, by have := h.2.2; omega⟩
abbrev s_times_for : Stmt := topS 24
abbrev nm_times_for : List Str := ["run", "spot", "w", "h", "x", "y", "a", "b", "found", "across", "along", "time"]
theorem sc_times_for : FnScope nm_times_for ["run", "spot"] (defScope s_times_for) := ⟨rfl, rfl, rfl, by decide +kernel, rfl, by decide +kernel, by decide +kernel⟩
theorem ok_times_for {f : Addr} {fd : FuncData} (Fd : Fun K "times_for" "times_for" s_times_for f fd) (hm : mg "times_for" = some (.ref f)) (hb : Binds K fd ["run", "spot"] []) (d_earliest : Def P w K mg base "earliest" 3 sp_earliest) (z_set : mg "set" = none) (z_sorted : mg "sorted" = none) : Def P w K mg base "times_for" 4 sp_times_for := by
  refine def_ok Fd sc_times_for hm hb rfl fun cdv A outer s H E hr ds M Q h => ?_
  obtain ⟨r, gx, gy, rfl, k, bx, q⟩ := h
  have k' := k
  obtain ⟨w1, w2, h1, h2, x1, x2, y1, y2, a1, a2, b1, b2, ab⟩ := k'
  have bx' := bx
  obtain ⟨g1, g2, g3, g4⟩ := bx'
  refine dss_cons (ds_asg (de_var 0 rfl (dg_tup rfl (dgs_cons (dg_name 2 (dgs_cons (dg_name 3 (dgs_cons (dg_name 4 (dgs_cons (dg_name 5 (dgs_cons (dg_name 6 (dgs_cons (dg_name 7 (dgs_nil (?_)) sc_times_for.nd)) sc_times_for.nd)) sc_times_for.nd)) sc_times_for.nd)) sc_times_for.nd)) sc_times_for.nd)) rfl)))
  refine dss_cons (ds_set 8 sc_times_for.nd (de_lst (da_nil (⟨[], rfl, rfl, fun l hl => ?_⟩))))
  let cx : Int → Rat → Prop := fun s t => Cq r.a (s - r.x) (2 * r.w) t
  let cy : Int → Rat → Prop := fun s t => Cq r.b (s - r.y) (2 * r.h) t
  let Ex : List (Option EV) := [some (.d r.data), some (DL.T [.int gx, .int gy]), some (I r.w), some (I r.h), some (I r.x), some (I r.y), some (I r.a), some (I r.b), some (.o l)]
  let In : Nat → Nat → QM := fun i j ρ' M' => ∃ ts, FFound (goals gx) (goals gy) cx cy i j ts ∧ updM M l (.lst (ts.map fr)) = M' ∧ ∃ v9 v10 v11, ρ' = Ex ++ [v9, v10, v11]
  have start : FFound (goals gx) (goals gy) cx cy 0 0 [] := ⟨Nat.zero_le _, fun t h => (by cases h), fun i' j' _ _ _ _ h => absurd h (by omega)⟩
  refine dss_cut (In (goals gx).length 0) ?_ ?_
  · refine ds_forL (de_sortedSetI (de_lstD (da_cons (de_ixT (de_var 1 rfl (de_int (⟨_, _, _, rfl, rfl, rfl, da_cons (de_neg (de_ixT (de_var 1 rfl (de_int (⟨_, _, _, rfl, rfl, rfl, ⟨_, rfl, da_nil (⟨[_, _], rfl, rfl, ⟨[gx, -gx], rfl, Nat.le_of_ble_eq_true rfl, fun ms hp hms => ⟨_, rfl, fun i => In i 0, ⟨[], start, rfl, none, none, none, rfl⟩, ⟨fun i ρ' M' d hi hd hW => ?_, fun ρ' M' hW => by rw [goals_uniq g1 hp hms, List.length_map] at hW; exact hW⟩⟩⟩⟩)⟩⟩)))))⟩)))))) z_sorted z_set)
    obtain ⟨p, hp', rfl⟩ := hd
    obtain ⟨ts, hts, rfl, v9, v10, v11, rfl⟩ := hW
    rw [goals_uniq g1 hp hms] at hp' hi
    rw [List.length_map] at hi
    rw [List.getElem?_map, List.getElem?_eq_getElem hi] at hp'
    cases hp'
    have hs1 : (goals gx)[i]? = some (goals gx)[i] := List.getElem?_eq_getElem hi
    have bs1 := goals_mem.mp (List.getElem_mem hi)
    generalize (goals gx)[i] = s1 at *
    refine dg_name 9 (?_) sc_times_for.nd
    let In2 : Nat → QM := fun j ρ' M' => ∃ ts, FFound (goals gx) (goals gy) cx cy i j ts ∧ updM M l (.lst (ts.map fr)) = M' ∧ ∃ v10 v11, ρ' = Ex ++ [some (I s1), v10, v11]
    refine dss_cut (In2 (goals gy).length) ?_ ?_
    · refine ds_forL (de_sortedSetI (de_lstD (da_cons (de_ixT (de_var 1 rfl (de_int (⟨_, _, _, rfl, rfl, rfl, da_cons (de_neg (de_ixT (de_var 1 rfl (de_int (⟨_, _, _, rfl, rfl, rfl, ⟨_, rfl, da_nil (⟨[_, _], rfl, rfl, ⟨[gy, -gy], rfl, Nat.le_of_ble_eq_true rfl, fun ms2 hp2 hms2 => ⟨_, rfl, In2, ⟨ts, hts, rfl, _, _, rfl⟩, ⟨fun j ρ' M' d hj hd hW => ?_, fun ρ' M' hW => by rw [goals_uniq g3 hp2 hms2, List.length_map] at hW; exact hW⟩⟩⟩⟩)⟩⟩)))))⟩)))))) z_sorted z_set)
      obtain ⟨p, hp', rfl⟩ := hd
      obtain ⟨ts, hts, rfl, v10, v11, rfl⟩ := hW
      rw [goals_uniq g3 hp2 hms2] at hp' hj
      rw [List.length_map] at hj
      rw [List.getElem?_map, List.getElem?_eq_getElem hj] at hp'
      cases hp'
      have hs2 : (goals gy)[j]? = some (goals gy)[j] := List.getElem?_eq_getElem hj
      have bs2 := goals_mem.mp (List.getElem_mem hj)
      have gl1 := goals_len gx
      have gl2 := goals_len gy
      generalize (goals gy)[j] = s2 at *
      refine dg_name 10 (?_) sc_times_for.nd
      refine dss_cons (ds_set 11 sc_times_for.nd (de_call d_earliest (hr.mono (by decide)) (da_cons (de_tup (da_cons (de_var 6 rfl (da_cons (de_sub (de_var 9 rfl (de_var 4 rfl (⟨_, _, rfl, rfl, da_cons (de_mul (de_int (de_var 2 rfl (⟨_, _, rfl, rfl, cmul_l (by omega) (by omega), da_nil (⟨[_, _, _], rfl, rfl, da_cons (de_tup (da_cons (de_var 7 rfl (da_cons (de_sub (de_var 10 rfl (de_var 5 rfl (⟨_, _, rfl, rfl, da_cons (de_mul (de_int (de_var 3 rfl (⟨_, _, rfl, rfl, cmul_l (by omega) (by omega), da_nil (⟨[_, _, _], rfl, rfl, da_nil (⟨_, _, _, _, _, _, rfl, ⟨⟨by omega, by omega⟩, ⟨by omega, by omega⟩, ⟨by omega, by omega⟩, ⟨by omega, by omega⟩, ⟨by omega, by omega⟩, ⟨by omega, by omega⟩⟩, fun ed1 he1 => ?_⟩)⟩)⟩))))⟩))))))))⟩)⟩))))⟩)))))))))))
      have st := hts.step hs1 hs2 (fun t => Iff.rfl) (fun t => Iff.rfl) he1
      cases he1 with
      | non hn =>
        exact dss_cons (ds_if (dt_isnotN (de_var 11 rfl (⟨_, rfl, iteF (dss_nil (dss_nil ⟨ts, st.1 rfl, rfl, _, _, rfl⟩))⟩))))
      | at_ t h0 hb' e1 e2 e3 =>
        refine dss_cons (ds_if (dt_isnotN (de_var 11 rfl (⟨_, rfl, iteT ?_⟩))))
        refine dss_cons (ds_expr (de_append (de_var 8 rfl (⟨_, _, rfl, updM_same, de_var 11 rfl (⟨_, _, updM_same, rfl, (by rw [List.length_map]; have := hts.len; omega), ?_⟩)⟩))))
        rw [updM_upd]
        refine dss_nil (dss_nil ⟨ts ++ [t], st.2 t rfl, by rw [List.map_append]; rfl, _, _, rfl⟩)
    rintro ρ' M' ⟨ts, hts, rfl, v10, v11, rfl⟩
    exact dss_nil ⟨ts, hts.next (goals_len gy).1, rfl, _, _, _, rfl⟩
  rintro ρ' M' ⟨ts, hts, rfl, v9, v10, v11, rfl⟩
  refine dss_freeze 8 rfl updM_same ?_
  rw [delM_upd hl]
  exact dss_cons (ds_ret (de_var 8 rfl (q ts (hts.out k bx))))
/-! ### need_spot: nothing is raised -/
def sp_need_spot : DSp where
  n := 2
  wp := fun ds M Q => ∃ (r : Run) (gx gy : Int), ds = [.d r.data, T [.int gx, .int gy]] ∧ InBox r gx gy ∧ Q N0 M
  mono := fun h ⟨r, x, y, e, b, q⟩ => ⟨r, x, y, e, b, h _ _ q⟩
  len := fun ⟨r, x, y, e, b, q⟩ => by rw [e]; rfl
abbrev s_need_spot : Stmt := topS 10
abbrev nm_need_spot : List Str := ["run", "value"]
theorem sc_need_spot : FnScope nm_need_spot ["run", "value"] (defScope s_need_spot) := ⟨rfl, rfl, rfl, by decide +kernel, rfl, by decide +kernel, by decide +kernel⟩
theorem ok_need_spot {f : Addr} {fd : FuncData} (Fd : Fun K "need_spot" "need_spot" s_need_spot f fd) (hm : mg "need_spot" = some (.ref f)) (hb : Binds K fd ["run", "value"] []) (d_is_count : Def P w K mg base "is_count" 1 sp_is_count) (z_isinstance : mg "isinstance" = none) (z_len : mg "len" = none) (z_tuple : mg "tuple" = none) : Def P w K mg base "need_spot" 2 sp_need_spot := by
  refine def_ok Fd sc_need_spot hm hb rfl fun cdv A outer s H E hr ds M Q h => ?_
  obtain ⟨r, gx, gy, rfl, ⟨h1, h2, h3, h4⟩, q⟩ := h
  refine dss_cons (ds_if (DW.dt (dw_or (dt_not (DT.of_val (de_isi (Tn := "tuple") (de_var 1 rfl (⟨_, rfl, ⟨_, rfl, ?_⟩⟩)) z_isinstance z_tuple (by decide +kernel) (by decide +kernel)))))))
  rw [isTy_tuple]
  refine dw_or1 (dt_cmpI ci_ne (de_len (da_cons (de_var 1 rfl (da_nil (⟨_, _, rfl, rfl, de_int (⟨_, _, rfl, rfl, ?_⟩)⟩)))) z_len))
  refine dss_nil ?_
  refine dss_cons (ds_if (DW.dt (dw_or (dt_not (DT.of_val (de_call d_is_count (hr.mono (by decide)) (da_cons (de_ixT (de_var 1 rfl (de_int (⟨_, _, _, rfl, rfl, rfl, da_cons (de_int (da_cons (de_ixT (de_var 0 rfl (de_int (⟨_, _, _, rfl, rfl, rfl, da_nil ⟨_, _, _, rfl, ⟨_, rfl, ?_⟩⟩⟩))))))⟩)))))))))))
  have e1 : cnt (.int gx) 0 r.w = true := by simp [cnt, h1, h2]
  have e2 : cnt (.int gy) 0 r.h = true := by simp [cnt, h3, h4]
  rw [e1]
  refine dw_or1 (dt_not (DT.of_val (de_call d_is_count (hr.mono (by decide)) (da_cons (de_ixT (de_var 1 rfl (de_int (⟨_, _, _, rfl, rfl, rfl, da_cons (de_int (da_cons (de_ixT (de_var 0 rfl (de_int (⟨_, _, _, rfl, rfl, rfl, da_nil ⟨_, _, _, rfl, ⟨_, rfl, ?_⟩⟩⟩))))))⟩))))))))
  rw [e2]
  exact dss_nil (dss_nil q)
/-! ### first_at -/
def sp_first_at : DSp where
  n := 2
  wp := fun ds M Q => ∃ (r : Run) (gx gy : Int), ds = [.d r.data, T [.int gx, .int gy]] ∧ r.Ok ∧ InBox r gx gy ∧ ∀ d : PyData, FirstOf r gx gy d → Q (.d d) M
  mono := fun h ⟨r, x, y, e, k, b, q⟩ => ⟨r, x, y, e, k, b, fun ts a => h _ _ (q ts a)⟩
  len := fun ⟨r, x, y, e, k, b, q⟩ => by rw [e]; rfl
abbrev s_first_at : Stmt := topS 26
abbrev nm_first_at : List Str := ["run", "spot"]
theorem sc_first_at : FnScope nm_first_at ["run", "spot"] (defScope s_first_at) := ⟨rfl, rfl, rfl, by decide +kernel, rfl, by decide +kernel, by decide +kernel⟩
theorem ok_first_at {f : Addr} {fd : FuncData} (Fd : Fun K "first_at" "first_at" s_first_at f fd) (hm : mg "first_at" = some (.ref f)) (hb : Binds K fd ["run", "spot"] []) (d_need_run : Def P w K mg base "need_run" 3 sp_need_run) (d_need_spot : Def P w K mg base "need_spot" 2 sp_need_spot) (d_least : Def P w K mg base "least" 2 sp_least) (d_times_for : Def P w K mg base "times_for" 4 sp_times_for) : Def P w K mg base "first_at" 5 sp_first_at := by
  refine def_ok Fd sc_first_at hm hb rfl fun cdv A outer s H E hr ds M Q h => ?_
  obtain ⟨r, gx, gy, rfl, k, bx, q⟩ := h
  refine dss_cons (ds_expr (de_call d_need_run (hr.mono (by decide)) (da_cons (de_var 0 rfl (da_nil (⟨_, rfl, k, ?_⟩))))))
  refine dss_cons (ds_expr (de_call d_need_spot (hr.mono (by decide)) (da_cons (de_var 0 rfl (da_cons (de_var 1 rfl (da_nil (⟨r, gx, gy, rfl, bx, ?_⟩))))))))
  exact dss_cons (ds_ret (de_call d_least (hr.mono (by decide)) (da_cons (de_call d_times_for (hr.mono (by decide)) (da_cons (de_var 0 rfl (da_cons (de_var 1 rfl (da_nil (⟨r, gx, gy, rfl, k, bx, fun ts hts => da_nil ⟨ts, rfl, fun t ht => (hts.all t ht).2.1.tb7, fun d hd => q d (hts.least hd)⟩⟩))))))))))
/-! ### first_corner -/
def sp_first_corner : DSp where
  n := 1
  wp := fun ds M Q => ∃ (r : Run), ds = [.d r.data] ∧ r.Ok ∧ ∀ d : PyData, CornerOf r d → Q (.d d) M
  mono := fun h ⟨r, e, k, q⟩ => ⟨r, e, k, fun ts a => h _ _ (q ts a)⟩
  len := fun ⟨r, e, k, q⟩ => by rw [e]; rfl
-- no first_corner
end
/-! ### the whole places of a way -/
abbrev Pt := Int × Int
def lexL (t u : Pt) : Bool := if t.1 = u.1 then decide (t.2 < u.2) else decide (t.1 < u.1)
theorem lexL_iff {p q : Pt} : lexL p q = true ↔ p.1 < q.1 ∨ (p.1 = q.1 ∧ p.2 < q.2) := by
  unfold lexL
  by_cases e : p.1 = q.1
  · rw [if_pos e, decide_eq_true_eq]
    omega
  · rw [if_neg e, decide_eq_true_eq]
    omega
theorem lex_uniq : ∀ {us vs : List Pt}, us.Pairwise (fun t u => lexL t u = true) → vs.Pairwise (fun t u => lexL t u = true) → (∀ t, t ∈ us ↔ t ∈ vs) → us = vs
  | [], [], _, _, _ => rfl
  | [], v :: vs, _, _, h => by
    have := (h v).mpr List.mem_cons_self
    cases this
  | u :: us, [], _, _, h => by
    have := (h u).mp List.mem_cons_self
    cases this
  | u :: us, v :: vs, h1, h2, h => by
    obtain ⟨a1, a2⟩ := List.pairwise_cons.mp h1
    obtain ⟨b1, b2⟩ := List.pairwise_cons.mp h2
    have e : u = v := by
      rcases List.mem_cons.mp ((h u).mp List.mem_cons_self) with z | z
      · exact z
      · rcases List.mem_cons.mp ((h v).mpr List.mem_cons_self) with y | y
        · exact y.symm
        · have p := lexL_iff.mp (b1 u z)
          have q := lexL_iff.mp (a1 v y)
          omega
    subst e
    have no : ∀ {l : List Pt}, (∀ x ∈ l, lexL u x = true) → u ∉ l := fun hl hu => by
      have := lexL_iff.mp (hl u hu)
      omega
    congr 1
    refine lex_uniq a2 b2 fun t => ?_
    have := h t
    rw [List.mem_cons, List.mem_cons] at this
    constructor
    · intro ht
      rcases this.mp (.inr ht) with z | z
      · subst z; exact absurd ht (no a1)
      · exact z
    · intro ht
      rcases this.mpr (.inr ht) with z | z
      · subst z; exact absurd ht (no b1)
      · exact z
/-- us is the ascending list of the whole places that r comes to -/
structure VisOf (r : Run) (us : List Pt) : Prop where
  asc : us.Pairwise (fun t u => lexL t u = true)
  mem : ∀ t, t ∈ us ↔ ∃ τ : Rat, 0 ≤ τ ∧ AtP r t.1 t.2 τ
theorem VisOf.uniq {r s : Run} {us vs : List Pt} (h : VisOf r us) (h' : VisOf s vs) (e : ∀ t : Pt, (∃ τ : Rat, 0 ≤ τ ∧ AtP r t.1 t.2 τ) ↔ ∃ τ : Rat, 0 ≤ τ ∧ AtP s t.1 t.2 τ) : us = vs :=
  lex_uniq h.asc h'.asc fun t => by rw [h.mem, h'.mem, e]
/-- a time at a whole place is a tick of a common divisor of the speeds -/
theorem foldQ_int {z : Rat} {w g : Int} (hw : 0 < w) (h : foldQ z w = g) : ∃ c : Int, z = c := by
  obtain ⟨j, ⟨-, -, e⟩ | ⟨-, -, e⟩⟩ := foldQ_form z hw
  · refine ⟨g + 2 * w * j, ?_⟩
    rw [Rat.intCast_add, Rat.intCast_mul, Rat.intCast_mul, show ((2 : Int) : Rat) = 2 from rfl]
    grind
  · refine ⟨2 * w - g + 2 * w * j, ?_⟩
    rw [Rat.intCast_add, Rat.intCast_sub, Rat.intCast_mul, Rat.intCast_mul, show ((2 : Int) : Rat) = 2 from rfl]
    grind
theorem atP_whole {r : Run} (k : r.Ok) {gx gy : Int} {τ : Rat} (h : AtP r gx gy τ) : (∃ c : Int, (r.a : Rat) * τ = c) ∧ ∃ c : Int, (r.b : Rat) * τ = c := by
  obtain ⟨c, e1⟩ := foldQ_int (by have := k.w1; omega) h.1
  obtain ⟨d, e2⟩ := foldQ_int (by have := k.h1; omega) h.2
  exact ⟨⟨c - r.x, by rw [Rat.intCast_sub]; grind⟩, ⟨d - r.y, by rw [Rat.intCast_sub]; grind⟩⟩
theorem whole_tick {a b : Int} {τ : Rat} (hg : 0 < Int.gcd a b) (h1 : ∃ c : Int, (a : Rat) * τ = c) (h2 : ∃ c : Int, (b : Rat) * τ = c) : ∃ n : Int, τ = rq n (Int.gcd a b) := by
  obtain ⟨c, e1⟩ := h1
  obtain ⟨d, e2⟩ := h2
  obtain ⟨s, t, e⟩ := bezI a b
  have u0 : (((Int.gcd a b : Nat) : Int) : Rat) ≠ 0 := Rat.ne_of_gt (Rat.intCast_pos.mpr (by omega))
  refine ⟨c * s + d * t, ?_⟩
  have e' : (a : Rat) * s + b * t = ((Int.gcd a b : Nat) : Int) := by
    rw [← Rat.intCast_mul, ← Rat.intCast_mul, ← Rat.intCast_add, e]
  unfold rq
  rw [Rat.intCast_add, Rat.intCast_mul, Rat.intCast_mul]
  generalize (((Int.gcd a b : Nat) : Int) : Rat) = g at *
  grind
theorem placeD_eq2 {r : Run} {t t' : Rat} : placeD r t = placeD r t' ↔ posX r t = posX r t' ∧ posY r t = posY r t' := by
  constructor
  · intro p
    unfold placeD at p
    injection p with p
    injection p with p1 p2
    injection p2 with p2 _
    exact ⟨fr_inj p1, fr_inj p2⟩
  · rintro ⟨e1, e2⟩
    unfold placeD
    rw [e1, e2]
def unitG (r : Run) : Int := (Int.gcd r.a r.b : Int)
theorem unitG_facts {r : Run} (k : r.Ok) : 0 < unitG r ∧ unitG r ≤ 6 ∧ unitG r ∣ r.a ∧ unitG r ∣ r.b := by
  have hg : 0 < Int.gcd r.a r.b := Int.gcd_pos_iff.mpr (by have := k.ab; omega)
  refine ⟨by unfold unitG; omega, ?_, Int.gcd_dvd_left .., Int.gcd_dvd_right ..⟩
  unfold unitG
  have := k.a1; have := k.a2; have := k.b1; have := k.b2
  by_cases h : r.a = 0
  · have hb : r.b ≠ 0 := fun z => k.ab ⟨h, z⟩
    have := Nat.le_of_dvd (by omega) (Nat.gcd_dvd_right r.a.natAbs r.b.natAbs)
    show ((Nat.gcd r.a.natAbs r.b.natAbs : Nat) : Int) ≤ 6
    omega
  · have := Nat.le_of_dvd (by omega) (Nat.gcd_dvd_left r.a.natAbs r.b.natAbs)
    show ((Nat.gcd r.a.natAbs r.b.natAbs : Nat) : Int) ≤ 6
    omega
/-- the place at such a tick is whole -/
def gX (r : Run) (n : Int) : Int := foldI (r.x + r.a / unitG r * n) r.w
def gY (r : Run) (n : Int) : Int := foldI (r.y + r.b / unitG r * n) r.h
theorem rq_one (z : Int) : rq z 1 = (z : Rat) := by
  unfold rq
  rw [show ((1 : Int) : Rat) = 1 from rfl]
  grind
theorem ax_whole {x a w u n : Int} (hw : 0 < w) (hu : 0 < u) (d : u ∣ a) : foldQ ((x : Rat) + a * rq n u) w = (foldI (x + a / u * n) w : Int) := by
  obtain ⟨c, rfl⟩ := d
  rw [Int.mul_ediv_cancel_left _ (by omega)]
  have u0 : (u : Rat) ≠ 0 := Rat.ne_of_gt (Rat.intCast_pos.mpr hu)
  have e : (x : Rat) + ((u * c : Int) : Rat) * rq n u = rq (x + c * n) 1 := by
    rw [rq_one]
    unfold rq
    rw [Rat.intCast_mul, Rat.intCast_add, Rat.intCast_mul]
    grind
  rw [e, foldQ_rq _ (by decide) hw, Int.mul_one, rq_one]
theorem tick_place {r : Run} (k : r.Ok) (n : Int) : posX r (rq n (unitG r)) = (gX r n : Int) ∧ posY r (rq n (unitG r)) = (gY r n : Int) := by
  obtain ⟨u0, -, da, db⟩ := unitG_facts k
  exact ⟨ax_whole (by have := k.w1; omega) u0 da, ax_whole (by have := k.h1; omega) u0 db⟩
theorem atP_tick {r : Run} (k : r.Ok) (n : Int) (t : Pt) : AtP r t.1 t.2 (rq n (unitG r)) ↔ t = (gX r n, gY r n) := by
  unfold AtP
  rw [(tick_place k n).1, (tick_place k n).2]
  constructor
  · rintro ⟨e1, e2⟩
    exact Prod.ext (Rat.intCast_inj.mp e1).symm (Rat.intCast_inj.mp e2).symm
  · intro e
    rw [e]
    exact ⟨rfl, rfl⟩
/-- the period in such ticks -/
theorem per_ticks {r : Run} (k : r.Ok) : ∃ N : Nat, 0 < N ∧ (perQ r).num * unitG r / (perQ r).den = N ∧ rq N (unitG r) = perQ r ∧ N ≤ 3456 := by
  obtain ⟨u0, u6, da, db⟩ := unitG_facts k
  obtain ⟨hu, hu2, ha, hb⟩ := unit_facts k
  obtain ⟨T, hT0, -, hTq, hd6, hn5, -⟩ := ticks k hu ha hb
  have np := num_pos (perQ_pos k)
  have pd := (perQ r).den_pos
  obtain ⟨⟨j1, e1⟩, ⟨j2, e2⟩⟩ := perQ_mul k
  have hg : 0 < Int.gcd r.a r.b := by unfold unitG at u0; omega
  obtain ⟨n, en⟩ := whole_tick (τ := perQ r) hg ⟨2 * r.w * j1, by rw [e1, Rat.intCast_mul, Rat.intCast_mul]; rfl⟩ ⟨2 * r.h * j2, by rw [e2, Rat.intCast_mul, Rat.intCast_mul]; rfl⟩
  have en' : perQ r = rq n (unitG r) := en
  have c := rq_cross n u0
  rw [← en'] at c
  have hq : (perQ r).num * unitG r / (perQ r).den = n := by
    rw [← c]
    exact Int.mul_ediv_cancel _ (by omega)
  have n0 : 0 < n := by
    have : 0 < (perQ r).num * unitG r := Int.mul_pos np u0
    rw [← c] at this
    exact Int.pos_of_mul_pos_left this (by omega)
  have nle : n ≤ 576 * 6 := by
    have h1 : n * 1 ≤ n * ((perQ r).den : Int) := Int.mul_le_mul_of_nonneg_left (by omega) (by omega)
    have h2 : (perQ r).num * unitG r ≤ 576 * 6 := Int.mul_le_mul hn5 u6 (by omega) (by decide)
    omega
  exact ⟨n.toNat, by omega, by rw [hq]; omega, by rw [Int.toNat_of_nonneg (by omega)]; exact en'.symm, by omega⟩
/-- all whole places are come to within a period's ticks -/
theorem vis_ticks {r : Run} (k : r.Ok) {N : Nat} (h0 : 0 < N) (hN : rq N (unitG r) = perQ r) (t : Pt) : (∃ τ : Rat, 0 ≤ τ ∧ AtP r t.1 t.2 τ) ↔ ∃ m : Nat, m < N ∧ t = (gX r m, gY r m) := by
  obtain ⟨u0, u6, da, db⟩ := unitG_facts k
  have hg : 0 < Int.gcd r.a r.b := by unfold unitG at u0; omega
  constructor
  · rintro ⟨τ, -, h⟩
    obtain ⟨h1, h2⟩ := atP_whole k h
    obtain ⟨n, en⟩ := whole_tick hg h1 h2
    have en : τ = rq n (unitG r) := en
    subst en
    have r0 := Int.emod_nonneg n (show (N : Int) ≠ 0 by omega)
    have r1 := Int.emod_lt_of_pos n (show (0 : Int) < N by omega)
    refine ⟨(n % N).toNat, by omega, ?_⟩
    rw [Int.toNat_of_nonneg r0]
    refine (atP_tick k _ t).mp ?_
    have e : rq (n % N) (unitG r) = rq n (unitG r) + ((-(n / N) : Int) : Rat) * perQ r := by
      rw [← hN, Int.emod_def]
      unfold rq
      rw [Rat.intCast_sub, Rat.intCast_mul, Rat.intCast_neg]
      grind
    have p := place_period k (rq n (unitG r)) (-(n / N))
    rw [← e, placeD_eq2] at p
    unfold AtP at h ⊢
    rw [p.1, p.2]
    exact h
  · rintro ⟨m, -, e⟩
    refine ⟨rq m (unitG r), (rq_nonneg u0).mpr (by omega), (atP_tick k _ t).mpr e⟩
theorem nodup_le {α : Type} [DecidableEq α] : ∀ {l D : List α}, l.Nodup → (∀ x ∈ l, x ∈ D) → l.length ≤ D.length
  | [], _, _, _ => Nat.zero_le _
  | x :: l, D, hn, h => by
    obtain ⟨h1, h2⟩ := List.nodup_cons.mp hn
    have hx := h x List.mem_cons_self
    have := nodup_le (l := l) (D := D.erase x) h2 fun y hy => by
      have ne : y ≠ x := fun z => h1 (z ▸ hy)
      exact (List.mem_erase_of_ne ne).mpr (h y (List.mem_cons_of_mem _ hy))
    rw [List.length_erase_of_mem hx] at this
    have := List.length_pos_of_mem hx
    rw [List.length_cons]
    omega
theorem VisOf.nodup {r : Run} {us : List Pt} (h : VisOf r us) : us.Nodup := h.asc.imp fun {a b} l z => by
  have := lexL_iff.mp l
  rw [z] at this
  omega
theorem VisOf.len {r : Run} (k : r.Ok) {us : List Pt} (h : VisOf r us) : us.length ≤ 3456 := by
  obtain ⟨N, h0, -, hN, hb⟩ := per_ticks k
  have := nodup_le (D := (List.range N).map fun (m : Nat) => (gX r m, gY r m)) h.nodup fun t ht => by
    obtain ⟨m, hm, e⟩ := (vis_ticks k h0 hN t).mp ((h.mem t).mp ht)
    exact List.mem_map.mpr ⟨m, List.mem_range.mpr hm, e.symm⟩
  rw [List.length_map, List.length_range] at this
  omega
section
variable {P : Program} {w : World} {K : PySem.W.Frag} {mg : Str → Option Value} {base : Heap}
/-! ### visited -/
/-- the keys of a dict of whole places: those that satisfy φ -/
structure KeysOf (xs : Rws) (φ : Pt → Prop) : Prop where
  pk : ∀ x ∈ xs, ∃ t, x.1 = pkey t
  iff : ∀ t, (∃ x ∈ xs, x.1 = pkey t) ↔ φ t
theorem pkey_inj {t u : Pt} (h : pkey t = pkey u) : t = u := by
  injection h with h
  injection h with h1 h2
  injection h2 with h2 _
  injection h1 with h1
  injection h2 with h2
  exact Prod.ext h1 h2
theorem KeysOf.kd {xs : Rws} {φ : Pt → Prop} (h : KeysOf xs φ) : Kd xs := fun x hx => by
  obtain ⟨t, e⟩ := h.pk x hx
  rw [e]
  exact Nat.le_of_ble_eq_true rfl
theorem KeysOf.nil {φ : Pt → Prop} (h : ∀ t, ¬ φ t) : KeysOf [] φ := ⟨fun x hx => (by cases hx), fun t => ⟨fun ⟨x, hx, _⟩ => (by cases hx), fun q => absurd q (h t)⟩⟩
theorem KeysOf.put {xs : Rws} {φ ψ : Pt → Prop} (h : KeysOf xs φ) (u : Pt) (b : Addr) (v : Value) (e : ∀ t, ψ t ↔ φ t ∨ t = u) : KeysOf (storedH xs (pkey u) b v) ψ := by
  refine ⟨fun x hx => ?_, fun t => ?_⟩
  · rcases storedH_mem hx with ⟨y, hy, e1, _⟩ | e1
    · obtain ⟨t, e2⟩ := h.pk y hy
      exact ⟨t, by rw [← e1, e2]⟩
    · exact ⟨u, by rw [e1]⟩
  · rw [storedH_keys, h.iff, e]
    constructor
    · rintro (q | q)
      · exact .inl q
      · exact .inr (pkey_inj q)
    · rintro (q | q)
      · exact .inl q
      · exact .inr (by rw [q])
theorem KeysOf.congr {xs : Rws} {φ ψ : Pt → Prop} (h : KeysOf xs φ) (e : ∀ t, ψ t ↔ φ t) : KeysOf xs ψ := ⟨h.pk, fun t => by rw [h.iff, e]⟩
def sp_visited : DSp where
  n := 1
  wp := fun ds M Q => ∃ (r : Run), ds = [.d r.data] ∧ r.Ok ∧ ∀ us : List Pt, VisOf r us → Q (L (us.map pairD)) M
  mono := fun h ⟨r, e, k, q⟩ => ⟨r, e, k, fun ts a => h _ _ (q ts a)⟩
  len := fun ⟨r, e, k, q⟩ => by rw [e]; rfl
abbrev s_visited : Stmt := topS 30
abbrev nm_visited : List Str := ["run", "unit", "whole", "found", "number", "across", "along"]
theorem sc_visited : FnScope nm_visited ["run"] (defScope s_visited) := ⟨rfl, rfl, rfl, by decide +kernel, rfl, by decide +kernel, by decide +kernel⟩
theorem ok_visited {f : Addr} {fd : FuncData} (Fd : Fun K "visited" "visited" s_visited f fd) (hm : mg "visited" = some (.ref f)) (hb : Binds K fd ["run"] []) (d_common_of : Def P w K mg base "common_of" 1 sp_common_of) (d_need_run : Def P w K mg base "need_run" 3 sp_need_run) (d_period_of : Def P w K mg base "period_of" 4 sp_period_of) (d_place_at : Def P w K mg base "place_at" 4 sp_place_at) (z_range : mg "range" = none) (z_sorted : mg "sorted" = none) : Def P w K mg base "visited" 5 sp_visited := by
  refine def_ok Fd sc_visited hm hb rfl fun cdv A outer s H E hr ds M Q h => ?_
  obtain ⟨r, rfl, k, q⟩ := h
  have k' := k
  obtain ⟨w1, w2, h1, h2, x1, x2, y1, y2, a1, a2, b1, b2, ab⟩ := k'
  obtain ⟨u0, u6, da, db⟩ := unitG_facts k
  obtain ⟨N, n0, nE, nQ, nB⟩ := per_ticks k
  obtain ⟨hu, hu2, ha, hb'⟩ := unit_facts k
  obtain ⟨-, -, -, -, hd6, hn5, -⟩ := ticks k hu ha hb'
  have np := num_pos (perQ_pos k)
  have pd := (perQ r).den_pos
  refine dss_cons (ds_expr (de_call d_need_run (hr.mono (by decide)) (da_cons (de_var 0 rfl (da_nil (⟨_, rfl, k, ?_⟩))))))
  refine dss_cons (ds_par3 1 2 3 sc_visited.nd (da_cons (de_call d_common_of (hr.mono (by decide)) (da_cons (de_ixT (de_var 0 rfl (de_int (⟨_, _, _, rfl, rfl, rfl, da_cons (de_ixT (de_var 0 rfl (de_int (⟨_, _, _, rfl, rfl, rfl, da_nil (⟨_, _, rfl, da_cons (de_call d_period_of (hr.mono (by decide)) (da_cons (de_var 0 rfl (da_nil (⟨_, rfl, k, da_cons (de_dnew fun l hl => da_nil (⟨_, _, _, rfl, ?_⟩))⟩)))))⟩)⟩))))⟩))))))))
  show DSs _ _ [some (.d r.data), some (I (unitG r)), some (.d (fr (perQ r))), some (.o l), none, none, none] _ _
  let In : Nat → QM := fun i ρ' M' => ∃ xs, KeysOf xs (fun t => ∃ m : Nat, m < i ∧ t = (gX r m, gY r m)) ∧ xs.length ≤ i ∧ updM M l (ndP P w l xs) = M' ∧ ∃ v4 v5 v6, ρ' = [some (.d r.data), some (I (unitG r)), some (.d (fr (perQ r))), some (.o l), v4, v5, v6]
  refine dss_cut (In N) ?_ ?_
  · refine ds_forR1 (da_cons (de_div (de_mul (de_ixT (de_var 2 rfl (de_int (⟨_, _, _, rfl, rfl, rfl, de_var 1 rfl (⟨_, _, rfl, rfl, cmul_l (by omega) (by omega), de_ixT (de_var 2 rfl (de_int (⟨_, _, _, rfl, rfl, rfl, ⟨_, _, rfl, rfl, ⟨by omega, by omega⟩, da_nil (⟨_, rfl, ?_, ?_, In, ⟨[], .nil (fun t ⟨m, hm, _⟩ => absurd hm (Nat.not_lt_zero m)), Nat.le_refl _, rfl, none, none, none, rfl⟩, ⟨fun i ρ' M' d hi hd hW => ?_, fun ρ' M' hW => ?_⟩⟩)⟩⟩)))⟩)⟩))))))) z_range
    · rw [nE]; omega
    · rw [nE]; omega
    · obtain rfl := hd
      obtain ⟨xs, hx, hxl, rfl, v4, v5, v6, rfl⟩ := hW
      rw [nE, Int.toNat_natCast] at hi
      rw [Int.zero_add]
      refine dg_name 4 (?_) sc_visited.nd
      have ep : placeD r (rq i (unitG r)) = .tuple [.tuple [.int (gX r i), .int 1], .tuple [.int (gY r i), .int 1]] := by
        unfold placeD
        rw [(tick_place k i).1, (tick_place k i).2]
        rfl
      refine dss_cons (ds_asg (de_call d_place_at (hr.mono (by decide)) (da_cons (de_var 0 rfl (da_cons (de_tup (da_cons (de_var 4 rfl (da_cons (de_var 1 rfl (da_nil (⟨[_, _], rfl, rfl, da_nil (⟨r, i, unitG r, rfl, k, ⟨u0, fit_small (by omega) (by omega)⟩, ?_⟩)⟩))))))))))))
      rw [ep]
      refine dg_tup rfl (dgs_cons (dg_name 5 (dgs_cons (dg_name 6 (dgs_nil (?_)) sc_visited.nd)) sc_visited.nd)) rfl
      refine dss_cons (ds_putN hr.units (de_bl (de_var 3 rfl (de_tup (da_cons (de_ixT (de_var 5 rfl (de_int (⟨_, _, _, rfl, rfl, rfl, da_cons (de_ixT (de_var 6 rfl (de_int (⟨_, _, _, rfl, rfl, rfl, da_nil (⟨[_, _], rfl, rfl, ⟨l, xs, [.num (gX r i), .num (gY r i)], true, rfl, rfl, updM_same, hx.kd, rfl, Nat.le_of_ble_eq_true rfl, by omega, fun rr => ?_⟩⟩)⟩))))⟩)))))))))
      rw [updM_upd]
      refine dss_nil ⟨_, hx.put (gX r i, gY r i) rr _ (fun t => ?_), Nat.le_trans (storedH_len _ _ _ _) (by omega), rfl, _, _, _, rfl⟩
      constructor
      · rintro ⟨m, hm, e⟩
        rcases (by omega : m < i ∨ m = i) with z | z
        · exact .inl ⟨m, z, e⟩
        · exact .inr (by rw [e, z])
      · rintro (⟨m, hm, e⟩ | e)
        · exact ⟨m, by omega, e⟩
        · exact ⟨i, by omega, e⟩
    · rw [nE, Int.toNat_natCast] at hW
      exact hW
  rintro ρ' M' ⟨xs, hx, hxl, rfl, v4, v5, v6, rfl⟩
  refine dss_cons (ds_ret (DE.forget l (de_sortN (da_cons (de_var 3 rfl (da_nil (⟨l, xs, rfl, updM_same, by omega, hx.pk, fun us h3 h4 => ?_⟩)))) z_sorted)))
  rw [delM_upd hl]
  exact q us ⟨h3, fun t => by rw [h4 t, hx.iff, vis_ticks k n0 nQ]⟩
end
/-! ### whole places by the walk's ticks -/
theorem spot_at {r : Run} (k : r.Ok) {u : Int} (hu : 0 < u) (ha : r.a ≠ 0 → r.a ∣ u) (hb : r.b ≠ 0 → r.b ∣ u) (gx gy : Int) (n : Nat) : AtP r gx gy (rq n u) ↔ (wX r u n).1 = gx * u ∧ (wY r u n).1 = gy * u := by
  unfold AtP
  rw [← wX_pos k hu ha, ← wY_pos k hu hb, rq_is_int hu, rq_is_int hu]
theorem at_tick {r : Run} (k : r.Ok) {u : Int} (hu : 0 < u) (ha : r.a ≠ 0 → r.a ∣ u) (hb : r.b ≠ 0 → r.b ∣ u) {gx gy : Int} {τ : Rat} (h : AtP r gx gy τ) : ∃ n : Int, τ = rq n u := by
  obtain ⟨⟨c, e1⟩, ⟨d, e2⟩⟩ := atP_whole k h
  have u0 : (u : Rat) ≠ 0 := Rat.ne_of_gt (Rat.intCast_pos.mpr hu)
  have key : ∀ {a c : Int}, a ≠ 0 → a ∣ u → (a : Rat) * τ = c → ∃ n : Int, τ = rq n u := fun {a c} a0 ⟨q, eq⟩ e => by
    refine ⟨c * q, ?_⟩
    unfold rq
    have eu : (u : Rat) = a * q := by rw [eq, Rat.intCast_mul]
    rw [eu] at u0 ⊢
    rw [Rat.intCast_mul, ← e]
    grind
  by_cases a0 : r.a = 0
  · have b0 : r.b ≠ 0 := fun z => k.ab ⟨a0, z⟩
    exact key b0 (hb b0) e2
  · exact key a0 (ha a0) e1
theorem atP_per {r : Run} (k : r.Ok) {u : Int} {T : Int} (hT : rq T u = perQ r) {gx gy m : Int} (h : AtP r gx gy (rq m u)) (i : Int) : AtP r gx gy (rq (m + i * T) u) := by
  have e : rq (m + i * T) u = rq m u + (i : Rat) * perQ r := by
    rw [rq_addT, ← hT]
    unfold rq
    rw [Rat.intCast_mul]
    grind
  have p := place_period k (rq m u) i
  rw [← e, placeD_eq2] at p
  unfold AtP at h ⊢
  rw [p.1, p.2]
  exact h
theorem vis_walk {r : Run} (k : r.Ok) {u : Int} (hu : 0 < u) (ha : r.a ≠ 0 → r.a ∣ u) (hb : r.b ≠ 0 → r.b ∣ u) {T : Nat} (h0 : 0 < T) (hT : rq T u = perQ r) (gx gy : Int) : (∃ τ : Rat, 0 ≤ τ ∧ AtP r gx gy τ) ↔ ∃ m : Nat, m < T ∧ AtP r gx gy (rq m u) := by
  constructor
  · rintro ⟨τ, -, h⟩
    obtain ⟨n, rfl⟩ := at_tick k hu ha hb h
    have r0 := Int.emod_nonneg n (show (T : Int) ≠ 0 by omega)
    have r1 := Int.emod_lt_of_pos n (show (0 : Int) < T by omega)
    refine ⟨(n % T).toNat, by omega, ?_⟩
    rw [Int.toNat_of_nonneg r0]
    have := atP_per k hT h (-(n / T))
    rw [Int.emod_def]
    rwa [show n + -(n / (T : Int)) * T = n - T * (n / T) by grind] at this
  · rintro ⟨m, -, h⟩
    exact ⟨_, (rq_nonneg hu).mpr (by omega), h⟩
theorem atP_uniq {r : Run} {a b c d : Int} {τ : Rat} (h : AtP r a b τ) (h' : AtP r c d τ) : a = c ∧ b = d := ⟨Rat.intCast_inj.mp (h.1.symm.trans h'.1), Rat.intCast_inj.mp (h.2.symm.trans h'.2)⟩
theorem atP_in {r : Run} (k : r.Ok) {gx gy : Int} {τ : Rat} (h : AtP r gx gy τ) : InBox r gx gy := by
  have ax : ∀ {z : Rat} {w g : Int}, 0 < w → foldQ z w = g → 0 ≤ g ∧ g ≤ w := fun {z w g} hw e => by
    obtain ⟨j, ⟨h1, h2, e2⟩ | ⟨h1, h2, e2⟩⟩ := foldQ_form z hw
    · rw [e] at e2
      rw [← e2] at h1 h2
      exact ⟨Rat.intCast_nonneg.mp h1, Rat.intCast_le_intCast.mp h2⟩
    · rw [e] at e2
      have h3 : (g : Rat) ≤ w := by rw [e2]; grind
      have h4 : (0 : Rat) ≤ g := by rw [e2]; grind
      exact ⟨Rat.intCast_nonneg.mp h4, Rat.intCast_le_intCast.mp h3⟩
  have p1 := ax (by have := k.w1; omega) h.1
  have p2 := ax (by have := k.h1; omega) h.2
  exact ⟨p1.1, p1.2, p2.1, p2.2⟩
def isCorner (r : Run) (t : Pt) : Prop := (t.1 = 0 ∨ t.1 = r.w) ∧ (t.2 = 0 ∨ t.2 = r.h)
theorem corner_iff (r : Run) (t : Pt) : isCorner r t ↔ ∃ j, j < 4 ∧ t = corner r j := by
  constructor
  · rintro ⟨h1 | h1, h2 | h2⟩
    · exact ⟨0, by decide, Prod.ext h1 h2⟩
    · exact ⟨1, by decide, Prod.ext h1 h2⟩
    · exact ⟨2, by decide, Prod.ext h1 h2⟩
    · exact ⟨3, by decide, Prod.ext h1 h2⟩
  · rintro ⟨j, hj, rfl⟩
    unfold isCorner corner
    split <;> simp
/-- the first corner among the first i ticks -/
inductive CornerT (r : Run) (u : Int) (i : Nat) : PyData → Prop
  | non : (∀ m : Nat, m < i → ∀ t : Pt, isCorner r t → ¬ AtP r t.1 t.2 (rq m u)) → CornerT r u i .none
  | at_ (m : Nat) (t : Pt) : m < i → isCorner r t → AtP r t.1 t.2 (rq m u) → (∀ m' : Nat, m' < m → ∀ t : Pt, isCorner r t → ¬ AtP r t.1 t.2 (rq m' u)) → CornerT r u i (.tuple [fr (rq m u), spotD t])
theorem CornerT.is {r : Run} (k : r.Ok) {u : Int} (hu : 0 < u) (ha : r.a ≠ 0 → r.a ∣ u) (hb : r.b ≠ 0 → r.b ∣ u) {T : Nat} (h0 : 0 < T) (hT : rq T u = perQ r) {d e : PyData} (h : CornerT r u T d) (h' : CornerOf r e) : e = d := by
  cases h' with
  | non hn =>
    cases h with
    | non _ => rfl
    | at_ m t hm hc ha' _ =>
      obtain ⟨j, hj, rfl⟩ := (corner_iff r t).mp hc
      exact absurd ha' (hn j hj _ ((rq_nonneg hu).mpr (by omega)))
  | at_ τ j hj t0 hbb at' l =>
    cases h with
    | non hn =>
      obtain ⟨m, hm, hat⟩ := (vis_walk k hu ha hb h0 hT _ _).mp ⟨τ, t0, at'⟩
      exact absurd hat (hn m hm _ ((corner_iff r _).mpr ⟨j, hj, rfl⟩))
    | at_ m t hm hc hat hno =>
      obtain ⟨i, hi, rfl⟩ := (corner_iff r t).mp hc
      have l1 := l i hi _ ((rq_nonneg hu).mpr (by omega)) hat
      obtain ⟨n, rfl⟩ := at_tick k hu ha hb at'
      obtain ⟨n, rfl⟩ : ∃ q : Nat, n = q := ⟨n.toNat, by have := (rq_nonneg hu).mp t0; omega⟩
      have nm : ¬ n < m := fun z => hno n z _ ((corner_iff r _).mpr ⟨j, hj, rfl⟩) at'
      have mn : ¬ m < n := fun z => absurd ((rq_lt hu).mpr (by omega : (m : Int) < n)) (Rat.not_lt.mpr l1)
      obtain rfl : n = m := by omega
      have e := atP_uniq at' hat
      have e : corner r j = corner r i := Prod.ext e.1 e.2
      rw [e]
/-! ### all times at a place -/
theorem asc_uniq : ∀ {us vs : List Rat}, us.Pairwise (· < ·) → vs.Pairwise (· < ·) → (∀ t, t ∈ us ↔ t ∈ vs) → us = vs
  | [], [], _, _, _ => rfl
  | [], v :: vs, _, _, h => by
    have := (h v).mpr List.mem_cons_self
    cases this
  | u :: us, [], _, _, h => by
    have := (h u).mp List.mem_cons_self
    cases this
  | u :: us, v :: vs, h1, h2, h => by
    obtain ⟨a1, a2⟩ := List.pairwise_cons.mp h1
    obtain ⟨b1, b2⟩ := List.pairwise_cons.mp h2
    have e : u = v := by
      rcases List.mem_cons.mp ((h u).mp List.mem_cons_self) with z | z
      · exact z
      · rcases List.mem_cons.mp ((h v).mpr List.mem_cons_self) with y | y
        · exact y.symm
        · exact absurd (Rat.le_of_lt (b1 u z)) (Rat.not_le.mpr (a1 v y))
    subst e
    have no : ∀ {l : List Rat}, (∀ x ∈ l, u < x) → u ∉ l := fun hl hu => absurd (Rat.le_refl (a := u)) (Rat.not_le.mpr (hl u hu))
    congr 1
    refine asc_uniq a2 b2 fun t => ?_
    have := h t
    rw [List.mem_cons, List.mem_cons] at this
    constructor
    · intro ht
      rcases this.mp (.inr ht) with z | z
      · subst z; exact absurd ht (no a1)
      · exact z
    · intro ht
      rcases this.mpr (.inr ht) with z | z
      · subst z; exact absurd ht (no b1)
      · exact z
theorem rat_lt_trans {p q r : Rat} (h1 : p < q) (h2 : q < r) : p < r := rat_lt_le h1 (Rat.le_of_lt h2)
/-- a time put where it belongs -/
theorem ins_asc {t : Rat} : ∀ {l : List Rat}, l.Pairwise (· < ·) → t ∉ l → (l.take (l.filter fun x => decide (x < t)).length ++ t :: l.drop (l.filter fun x => decide (x < t)).length).Pairwise (· < ·)
  | [], _, _ => List.pairwise_singleton _ _
  | x :: l, hp, ht => by
    obtain ⟨h1, h2⟩ := List.pairwise_cons.mp hp
    have hx : x ≠ t := fun z => ht (z ▸ List.mem_cons_self)
    have hl : t ∉ l := fun z => ht (List.mem_cons_of_mem _ z)
    by_cases c : x < t
    · rw [List.filter_cons, if_pos (decide_eq_true c), List.length_cons, List.take_succ_cons, List.drop_succ_cons]
      refine List.pairwise_cons.mpr ⟨fun y hy => ?_, ins_asc h2 hl⟩
      rcases List.mem_append.mp hy with q | q
      · exact h1 y (List.mem_of_mem_take q)
      · rcases List.mem_cons.mp q with q | q
        · rw [q]; exact c
        · exact h1 y (List.mem_of_mem_drop q)
    · have tx : t < x := Rat.not_le.mp fun z => by
        rcases Rat.le_iff_lt_or_eq.mp z with q | q
        · exact c q
        · exact hx q
      have e : (x :: l).filter (fun x => decide (x < t)) = [] := by
        rw [List.filter_eq_nil_iff]
        intro y hy q
        have q : y < t := of_decide_eq_true q
        rcases List.mem_cons.mp hy with z | z
        · rw [z] at q; exact c q
        · exact c (rat_lt_trans (h1 y z) q)
      rw [e]
      show (t :: x :: l).Pairwise (· < ·)
      refine List.pairwise_cons.mpr ⟨fun y hy => ?_, hp⟩
      rcases List.mem_cons.mp hy with z | z
      · rw [z]; exact tx
      · exact rat_lt_trans tx (h1 y z)
theorem ins_mem {α : Type} {l : List α} {n : Nat} {t y : α} : y ∈ l.take n ++ t :: l.drop n ↔ y = t ∨ y ∈ l := by
  rw [List.mem_append, List.mem_cons]
  constructor
  · rintro (q | q | q)
    · exact .inr (List.mem_of_mem_take q)
    · exact .inl q
    · exact .inr (List.mem_of_mem_drop q)
  · rintro (q | q)
    · exact .inr (.inl q)
    · rw [← List.take_append_drop n l] at q
      rcases List.mem_append.mp q with z | z
      · exact .inl z
      · exact .inr (.inr z)
theorem pigeon {α β : Type} [DecidableEq α] {φ : β → α → Prop} : ∀ {D : List β} {l : List α}, l.Nodup → (∀ t ∈ l, ∃ p ∈ D, φ p t) → (∀ p t t', t ∈ l → t' ∈ l → φ p t → φ p t' → t = t') → l.length ≤ D.length
  | [], [], _, _, _ => Nat.le_refl _
  | [], t :: l, _, h, _ => by
    obtain ⟨p, hp, _⟩ := h t List.mem_cons_self
    cases hp
  | p :: D, l, hn, h, hu => by
    rcases Classical.em (∃ t ∈ l, φ p t) with ⟨t, ht, hpt⟩ | no
    · have := pigeon (D := D) (l := l.erase t) (φ := φ) (hn.erase t) (fun s hs => by
        have hs' := List.mem_of_mem_erase hs
        obtain ⟨q, hq, hqs⟩ := h s hs'
        rcases List.mem_cons.mp hq with z | z
        · rw [z] at hqs
          have e := hu p s t hs' ht hqs hpt
          rw [e] at hs
          exact absurd hs (List.Nodup.not_mem_erase hn)
        · exact ⟨q, z, hqs⟩) (fun q a b ha hb => hu q a b (List.mem_of_mem_erase ha) (List.mem_of_mem_erase hb))
      rw [List.length_erase_of_mem ht] at this
      rw [List.length_cons]
      omega
    · have := pigeon (D := D) (l := l) (φ := φ) hn (fun s hs => by
        obtain ⟨q, hq, hqs⟩ := h s hs
        rcases List.mem_cons.mp hq with z | z
        · rw [z] at hqs; exact absurd ⟨s, hs, hqs⟩ no
        · exact ⟨q, z, hqs⟩) hu
      rw [List.length_cons]
      omega
/-- the rest from which a turn begins -/
def restA (s v m ahead : Int) : Int := (if 0 < v then ahead - s else s - ahead) % (2 * m)
def turnA (s v m ahead : Int) (J : Nat) : List Rat := (List.range J).map fun (k : Nat) => rq (restA s v m ahead + 2 * m * k) (v.natAbs : Int)
def turnL (s v m g : Int) (J : Nat) : List Rat := (goals g).flatMap fun ahead => turnA s v m ahead J
theorem cq_rest {s v m ahead : Int} (hm : 0 < m) (hv : v ≠ 0) (t : Rat) : Cq v (ahead - s) (2 * m) t ↔ ∃ n : Int, t = rq (restA s v m ahead + 2 * m * n) (v.natAbs : Int) := by
  have hu : 0 < (v.natAbs : Int) := by omega
  have sh : ∀ ρ : Int, (∃ n : Int, t = rq (ρ + 2 * m * n) (v.natAbs : Int)) ↔ ∃ n : Int, t = rq (ρ % (2 * m) + 2 * m * n) (v.natAbs : Int) := fun ρ => by
    have e := Int.mul_ediv_add_emod ρ (2 * m)
    constructor
    · rintro ⟨n, h⟩
      exact ⟨ρ / (2 * m) + n, by rw [h]; congr 1; rw [Int.mul_add]; omega⟩
    · rintro ⟨n, h⟩
      exact ⟨n - ρ / (2 * m), by rw [h]; congr 1; rw [Int.mul_sub]; omega⟩
  unfold restA
  rw [← sh]
  by_cases c : 0 < v
  · rw [if_pos c, show (v.natAbs : Int) = v by omega]
    exact cq_of c
  · rw [if_neg c, Cq.neg, show (v.natAbs : Int) = -v by omega, show -(ahead - s) = s - ahead by omega]
    exact cq_of (by omega)
theorem restA_b {s v m ahead : Int} (hm : 0 < m) : 0 ≤ restA s v m ahead ∧ restA s v m ahead < 2 * m := ⟨Int.emod_nonneg _ (by omega), Int.emod_lt_of_pos _ (by omega)⟩
theorem turn_in {s v m g : Int} {J : Nat} (hm : 0 < m) (hv : v ≠ 0) (g0 : 0 ≤ g) (g1 : g ≤ m) (t : Rat) : t ∈ turnL s v m g J ↔ 0 ≤ t ∧ t < rq (2 * m * J) (v.natAbs : Int) ∧ foldQ ((s : Rat) + v * t) m = g := by
  have hu : 0 < (v.natAbs : Int) := by omega
  rw [axis_at hm g0 g1]
  unfold turnL
  rw [List.mem_flatMap]
  constructor
  · rintro ⟨ahead, ha, h⟩
    unfold turnA at h
    obtain ⟨k, hk, rfl⟩ := List.mem_map.mp h
    have hk := List.mem_range.mp hk
    have b := restA_b (s := s) (v := v) (ahead := ahead) hm
    have p := Int.mul_nonneg (show 0 ≤ 2 * m by omega) (show (0 : Int) ≤ (k : Int) by omega)
    refine ⟨(rq_nonneg hu).mpr (by omega), (rq_lt hu).mpr ?_, ahead, ha, (cq_rest hm hv _).mpr ⟨k, rfl⟩⟩
    have q := Int.mul_le_mul_of_nonneg_left (show (k : Int) + 1 ≤ J by omega) (show 0 ≤ 2 * m by omega)
    rw [Int.mul_add, Int.mul_one] at q
    omega
  · rintro ⟨t0, t1, ahead, ha, h⟩
    obtain ⟨n, rfl⟩ := (cq_rest hm hv _).mp h
    have b := restA_b (s := s) (v := v) (ahead := ahead) hm
    have h0 := (rq_nonneg hu).mp t0
    have h1 := (rq_lt hu).mp t1
    have n0 : 0 ≤ n := by
      rcases (by omega : 0 ≤ n ∨ n ≤ -1) with z | z
      · exact z
      · have := Int.mul_le_mul_of_nonneg_left z (show 0 ≤ 2 * m by omega)
        omega
    have n1 : n < J := Int.lt_of_mul_lt_mul_left (a := 2 * m) (by omega) (by omega)
    refine ⟨ahead, ha, ?_⟩
    unfold turnA
    exact List.mem_map.mpr ⟨n.toNat, List.mem_range.mpr (by omega), by rw [Int.toNat_of_nonneg n0]⟩
theorem turnA_nodup {s v m ahead : Int} {J : Nat} (hm : 0 < m) (hv : v ≠ 0) : (turnA s v m ahead J).Nodup := by
  unfold turnA
  refine List.Pairwise.map _ (R := fun a b : Nat => a ≠ b) (fun a b ne e => ne ?_) (List.nodup_range)
  have := rq_inj (show 0 < (v.natAbs : Int) by omega) e
  have : (a : Int) = b := Int.eq_of_mul_eq_mul_left (show 2 * m ≠ 0 by omega) (by omega)
  omega
/-- the times of a period at which a ball is at a whole place: no more than four -/
theorem few_times {r : Run} (k : r.Ok) {gx gy : Int} (b : InBox r gx gy) {l : List Rat} (hn : l.Nodup) (h : ∀ t ∈ l, 0 ≤ t ∧ t < perQ r ∧ AtP r gx gy t) : l.length ≤ 4 := by
  have := pigeon (D := (goals gx).flatMap fun s1 => (goals gy).map fun s2 => (s1, s2)) (φ := fun p t => Cq r.a (p.1 - r.x) (2 * r.w) t ∧ Cq r.b (p.2 - r.y) (2 * r.h) t) hn (fun t ht => by
    obtain ⟨⟨s1, m1, c1⟩, s2, m2, c2⟩ := (atP_iff k b t).mp (h t ht).2.2
    exact ⟨(s1, s2), List.mem_flatMap.mpr ⟨s1, m1, List.mem_map.mpr ⟨s2, m2, rfl⟩⟩, c1, c2⟩) (fun p t t' ht ht' c c' => by
    obtain ⟨⟨j1, e1⟩, j2, e2⟩ := c
    obtain ⟨⟨j1', e1'⟩, j2', e2'⟩ := c'
    have two : ((2 : Int) : Rat) = 2 := rfl
    obtain ⟨m, em⟩ := perQ_least k (z := t - t') (fun _ => ⟨j1 - j1', by rw [Rat.intCast_sub j1]; rw [Rat.intCast_mul, two] at e1 e1'; grind⟩) (fun _ => ⟨j2 - j2', by rw [Rat.intCast_sub j2]; rw [Rat.intCast_mul, two] at e2 e2'; grind⟩)
    have p0 := perQ_pos k
    have a1 := h t ht
    have a2 := h t' ht'
    generalize perQ r = P at *
    have l1 : P * (m : Rat) < P * 1 := by
      rw [← em, Rat.mul_one]
      have := a1.2.1
      have := a2.1
      grind
    have l2 : P * ((-m : Int) : Rat) < P * 1 := by
      rw [Rat.intCast_neg, Rat.mul_neg, ← em, Rat.mul_one]
      have := a2.2.1
      have := a1.1
      grind
    have m1 := (Rat.mul_lt_mul_left p0).mp l1
    have m2 := (Rat.mul_lt_mul_left p0).mp l2
    have m1 : m < 1 := Rat.intCast_lt_intCast.mp (by rw [show ((1 : Int) : Rat) = 1 from rfl]; exact m1)
    have m2 : -m < 1 := Rat.intCast_lt_intCast.mp (by rw [show ((1 : Int) : Rat) = 1 from rfl]; exact m2)
    have m0 : m = 0 := by omega
    rw [m0, Rat.intCast_zero, Rat.mul_zero] at em
    grind)
  have l1 := (goals_len gx).1
  have l2 := (goals_len gy).1
  have : ((goals gx).flatMap fun s1 => (goals gy).map fun s2 => (s1, s2)).length ≤ 4 := by
    rw [List.length_flatMap]
    have e : ((goals gx).map fun s1 => ((goals gy).map fun s2 => (s1, s2)).length) = (goals gx).map fun _ => (goals gy).length := List.map_congr_left fun s _ => by rw [List.length_map]
    rw [e]
    unfold goals
    split <;> split <;> simp
  omega
structure TimesOf (r : Run) (gx gy : Int) (us : List Rat) : Prop where
  asc : us.Pairwise (· < ·)
  mem : ∀ t, t ∈ us ↔ 0 ≤ t ∧ t < perQ r ∧ AtP r gx gy t
theorem TimesOf.uniq {r s : Run} {gx gy hx hy : Int} {us vs : List Rat} (h : TimesOf r gx gy us) (h' : TimesOf s hx hy vs) (e : ∀ t, (0 ≤ t ∧ t < perQ r ∧ AtP r gx gy t) ↔ (0 ≤ t ∧ t < perQ s ∧ AtP s hx hy t)) : us = vs :=
  asc_uniq h.asc h'.asc fun t => by rw [h.mem, h'.mem, e]
theorem TimesOf.len {r : Run} (k : r.Ok) {gx gy : Int} (b : InBox r gx gy) {us : List Rat} (h : TimesOf r gx gy us) : us.length ≤ 4 :=
  few_times k b (h.asc.imp fun {a b} l z => by rw [z] at l; exact absurd Rat.le_refl (Rat.not_le.mpr l)) fun t ht => (h.mem t).mp ht
/-- the turns of the axis that times_at takes -/
def axisL (r : Run) (gx gy : Int) (jx jy : Nat) : List Rat := if r.a ≠ 0 then turnL r.x r.a r.w gx jx else turnL r.y r.b r.h gy jy
theorem axis_in {r : Run} (k : r.Ok) {gx gy : Int} (b : InBox r gx gy) {jx jy : Int} (j0 : 0 ≤ jx) (j1 : 0 ≤ jy) (e1 : (perQ r).num * (r.a.natAbs : Int) = 2 * r.w * jx * (perQ r).den) (e2 : (perQ r).num * (r.b.natAbs : Int) = 2 * r.h * jy * (perQ r).den) (t : Rat) : (t ∈ axisL r gx gy jx.toNat jy.toNat ∧ AtP r gx gy t) ↔ 0 ≤ t ∧ t < perQ r ∧ AtP r gx gy t := by
  have pd := (perQ r).den_pos
  have per : ∀ {a w j : Int}, a ≠ 0 → 0 ≤ j → (perQ r).num * (a.natAbs : Int) = 2 * w * j * (perQ r).den → rq (2 * w * (j.toNat : Nat)) (a.natAbs : Int) = perQ r := fun {a w j} a0 j0 e => by
    rw [Int.toNat_of_nonneg j0]
    have := rq_eq (a := 2 * w * j) (b := (a.natAbs : Int)) (c := (perQ r).num) (d := (perQ r).den) (by omega) (by omega) e.symm
    rw [this, rq_self]
  unfold axisL
  by_cases h : r.a = 0
  · have b0 : r.b ≠ 0 := fun z => k.ab ⟨h, z⟩
    rw [if_neg (fun z => z h), turn_in (by have := k.h1; omega) b0 b.y0 b.y1, per b0 j1 e2]
    constructor
    · rintro ⟨⟨a1, a2, -⟩, a3⟩; exact ⟨a1, a2, a3⟩
    · rintro ⟨a1, a2, a3⟩; exact ⟨⟨a1, a2, a3.2⟩, a3⟩
  · rw [if_pos h, turn_in (by have := k.w1; omega) h b.x0 b.x1, per h j0 e1]
    constructor
    · rintro ⟨⟨a1, a2, -⟩, a3⟩; exact ⟨a1, a2, a3⟩
    · rintro ⟨a1, a2, a3⟩; exact ⟨⟨a1, a2, a3.1⟩, a3⟩
theorem axis_few {r : Run} (k : r.Ok) {gx gy : Int} (b : InBox r gx gy) {jx jy : Int} (j0 : 0 ≤ jx) (j1 : 0 ≤ jy) (e1 : (perQ r).num * (r.a.natAbs : Int) = 2 * r.w * jx * (perQ r).den) (e2 : (perQ r).num * (r.b.natAbs : Int) = 2 * r.h * jy * (perQ r).den) (f : Rat → Bool) (hf : ∀ t, f t = true ↔ AtP r gx gy t) : ((axisL r gx gy jx.toNat jy.toNat).filter f).length ≤ 8 := by
  have hin := fun t => (axis_in k b j0 j1 e1 e2 t)
  have piece : ∀ {s v m g : Int} {J : Nat}, 0 < m → v ≠ 0 → (∀ t ∈ turnL s v m g J, t ∈ axisL r gx gy jx.toNat jy.toNat) → ((turnL s v m g J).filter f).length ≤ 8 := fun {s v m g J} hm hv sub => by
    have each : ∀ ahead ∈ goals g, ((turnA s v m ahead J).filter f).length ≤ 4 := fun ahead ha => few_times k b ((turnA_nodup hm hv).filter _) fun t ht => by
      obtain ⟨h1, h2⟩ := List.mem_filter.mp ht
      exact (hin t).mp ⟨sub t (List.mem_flatMap.mpr ⟨ahead, ha, h1⟩), (hf t).mp h2⟩
    have : ∀ G : List Int, (∀ a ∈ G, ((turnA s v m a J).filter f).length ≤ 4) → ((G.flatMap fun a => turnA s v m a J).filter f).length ≤ 4 * G.length := fun G => by
      induction G with
      | nil => intro _; exact Nat.zero_le _
      | cons a G ih =>
        intro hG
        rw [List.flatMap_cons, List.filter_append, List.length_append, List.length_cons]
        have h1 := hG a List.mem_cons_self
        have h2 := ih fun x hx => hG x (List.mem_cons_of_mem _ hx)
        omega
    have h1 := this (goals g) each
    have h2 := (goals_len g).1
    unfold turnL
    omega
  unfold axisL at hin ⊢
  by_cases h : r.a = 0
  · have b0 : r.b ≠ 0 := fun z => k.ab ⟨h, z⟩
    rw [if_neg (fun z => z h)]
    exact piece (by have := k.h1; omega) b0 fun t ht => by unfold axisL; rw [if_neg (fun z => z h)]; exact ht
  · rw [if_pos h]
    exact piece (by have := k.w1; omega) h fun t ht => by unfold axisL; rw [if_pos h]; exact ht
theorem turn_len {s v m g : Int} {J : Nat} : (turnL s v m g J).length ≤ 2 * J := by
  unfold turnL
  have : ∀ G : List Int, (G.flatMap fun a => turnA s v m a J).length = G.length * J := fun G => by
    induction G with
    | nil => simp
    | cons a G ih =>
      rw [List.flatMap_cons, List.length_append, ih, List.length_cons, Nat.succ_mul]
      unfold turnA
      rw [List.length_map, List.length_range]
      omega
  rw [this]
  exact Nat.mul_le_mul_right _ (goals_len g).1
section
variable {P : Program} {w : World} {K : PySem.W.Frag} {mg : Str → Option Value} {base : Heap}
/-! ### plus -/
def PB (t : Rat) : Prop := -1000000000000 < t.num ∧ t.num < 1000000000000 ∧ t.den ≤ 10000
def sp_plus : DSp where
  n := 2
  wp := fun ds M Q => ∃ (p q : Rat), ds = [.d (fr p), .d (fr q)] ∧ (PB p ∧ PB q) ∧ Q (.d (fr (p + q))) M
  mono := fun h ⟨p, q, e, b, k⟩ => ⟨p, q, e, b, h _ _ k⟩
  len := fun ⟨p, q, e, b, k⟩ => by rw [e]; rfl
theorem add_rq9 (p q : Rat) : rq (p.num * q.den + q.num * p.den) (p.den * q.den) = p + q := add_rq p q
abbrev s_plus : Stmt := topS 14
abbrev nm_plus : List Str := ["one", "two"]
theorem sc_plus : FnScope nm_plus ["one", "two"] (defScope s_plus) := ⟨rfl, rfl, rfl, by decide +kernel, rfl, by decide +kernel, by decide +kernel⟩
theorem ok_plus {f : Addr} {fd : FuncData} (Fd : Fun K "plus" "plus" s_plus f fd) (hm : mg "plus" = some (.ref f)) (hb : Binds K fd ["one", "two"] []) (d_lowest : Def P w K mg base "lowest" 2 sp_lowest) : Def P w K mg base "plus" 3 sp_plus := by
  refine def_ok Fd sc_plus hm hb rfl fun cdv A outer s H E hr ds M Q h => ?_
  obtain ⟨p, p', rfl, ⟨⟨b1, b2, b3⟩, ⟨c1, c2, c3⟩⟩, q⟩ := h
  have d1 := p.den_pos
  have d2 := p'.den_pos
  have m0 : 0 < (p.den : Int) * p'.den := Int.mul_pos (by omega) (by omega)
  have m1 : (p.den : Int) * p'.den ≤ 10000 * 10000 := Int.mul_le_mul (by omega) (by omega) (by omega) (by decide)
  refine dss_cons (ds_ret (de_call d_lowest (hr.mono (by decide)) (da_cons (de_add (de_mul (de_ixT (de_var 0 rfl (de_int (⟨_, _, _, rfl, rfl, rfl, de_ixT (de_var 1 rfl (de_int (⟨_, _, _, rfl, rfl, rfl, ⟨_, _, rfl, rfl, cmul_l (by omega) (by omega), de_mul (de_ixT (de_var 1 rfl (de_int (⟨_, _, _, rfl, rfl, rfl, de_ixT (de_var 0 rfl (de_int (⟨_, _, _, rfl, rfl, rfl, ⟨_, _, rfl, rfl, cmul_l (by omega) (by omega), ⟨_, _, rfl, rfl, da_cons (de_mul (de_ixT (de_var 0 rfl (de_int (⟨_, _, _, rfl, rfl, rfl, de_ixT (de_var 1 rfl (de_int (⟨_, _, _, rfl, rfl, rfl, ⟨_, _, rfl, rfl, cmul_l (by omega) (by omega), da_nil (⟨_, _, rfl, ⟨by omega, by omega, (fit_small (by omega) (by omega)).f4⟩, ?_⟩)⟩⟩)))⟩)))))⟩⟩⟩)))⟩))))⟩⟩)))⟩)))))))))
  rw [add_rq9]
  exact q
/-! ### turns -/
def sp_turns : DSp where
  n := 5
  wp := fun ds M Q => ∃ (s v m g : Int) (J : Nat), ds = [I s, I v, I m, I g, .d (fr (rq (2 * m * J) (v.natAbs : Int)))] ∧ ((0 ≤ s ∧ s ≤ 12) ∧ (v ≠ 0 ∧ -6 ≤ v ∧ v ≤ 6) ∧ (1 ≤ m ∧ m ≤ 12) ∧ (0 ≤ g ∧ g ≤ m) ∧ J ≤ 2000) ∧ Q (L ((turnL s v m g J).map fr)) M
  mono := fun h ⟨s, v, m, g, J, e, b, q⟩ => ⟨s, v, m, g, J, e, b, h _ _ q⟩
  len := fun ⟨s, v, m, g, J, e, b, q⟩ => by rw [e]; rfl
theorem rq_pb {n d : Int} (hd : 0 < d) (hd2 : d ≤ 6) (h0 : 0 ≤ n) (h1 : n ≤ 1000000) : PB (rq n d) ∧ TB (rq n d) := by
  have b := rq_bound hd h0
  exact ⟨⟨by omega, by omega, by omega⟩, ⟨by omega, by omega, by omega⟩⟩
abbrev s_turns : Stmt := topS 27
abbrev nm_turns : List Str := ["start", "speed", "side", "goal", "whole", "found", "step", "ahead", "rest", "time"]
theorem sc_turns : FnScope nm_turns ["start", "speed", "side", "goal", "whole"] (defScope s_turns) := ⟨rfl, rfl, rfl, by decide +kernel, rfl, by decide +kernel, by decide +kernel⟩
theorem ok_turns {f : Addr} {fd : FuncData} (Fd : Fun K "turns" "turns" s_turns f fd) (hm : mg "turns" = some (.ref f)) (hb : Binds K fd ["start", "speed", "side", "goal", "whole"] []) (z_abs : mg "abs" = none) (d_is_less : Def P w K mg base "is_less" 1 sp_is_less) (d_lowest : Def P w K mg base "lowest" 2 sp_lowest) (d_plus : Def P w K mg base "plus" 3 sp_plus) (z_set : mg "set" = none) (z_sorted : mg "sorted" = none) : Def P w K mg base "turns" 4 sp_turns := by
  refine def_ok Fd sc_turns hm hb rfl fun cdv A outer s0 H E hr ds M Q h => ?_
  obtain ⟨s, v, m, g, J, rfl, ⟨⟨s1, s2⟩, ⟨v0, v1, v2⟩, ⟨m1, m2⟩, ⟨g1, g2⟩, hJ⟩, q⟩ := h
  have hu : 0 < (v.natAbs : Int) := by omega
  have hu6 : (v.natAbs : Int) ≤ 6 := by omega
  have mJ : 2 * m * (J : Int) ≤ 24 * 2000 := Int.mul_le_mul (by omega) (by omega) (by omega) (by decide)
  have mJ0 : 0 ≤ 2 * m * (J : Int) := Int.mul_nonneg (by omega) (by omega)
  refine dss_cons (ds_par 5 6 sc_turns.nd (da_cons (de_lst (da_nil (⟨[], rfl, rfl, fun l hl => da_cons (de_call d_lowest (hr.mono (by decide)) (da_cons (de_mul (de_int (de_var 2 rfl (⟨_, _, rfl, rfl, cmul_l (by omega) (by omega), da_cons (de_abs (da_cons (de_var 1 rfl (da_nil (⟨_, rfl, da_nil (⟨_, _, rfl, ⟨by split <;> omega, by split <;> omega, (fit_small (by split <;> omega) (by split <;> omega)).f4⟩, da_nil (⟨_, _, rfl, ?_⟩)⟩)⟩)))) z_abs)⟩))))))⟩)))))
  rw [abs_if]
  let Ex : List (Option EV) := [some (I s), some (I v), some (I m), some (I g), some (.d (fr (rq (2 * m * J) (v.natAbs : Int)))), some (.o l), some (.d (fr (rq (2 * m) (v.natAbs : Int))))]
  let In : Nat → QM := fun i ρ' M' => updM M l (.lst ((((goals g).take i).flatMap fun a => turnA s v m a J).map fr)) = M' ∧ ∃ v7 v8 v9, ρ' = Ex ++ [v7, v8, v9]
  have tl : ∀ G : List Int, G.length ≤ 2 → (G.flatMap fun a => turnA s v m a J).length ≤ 2 * J := fun G hG => by
    have : ∀ G : List Int, (G.flatMap fun a => turnA s v m a J).length = G.length * J := fun G => by
      induction G with
      | nil => simp
      | cons a G ih =>
        rw [List.flatMap_cons, List.length_append, ih, List.length_cons, Nat.succ_mul]
        unfold turnA
        rw [List.length_map, List.length_range]
        omega
    rw [this]
    exact Nat.mul_le_mul_right _ hG
  refine dss_cut (In (goals g).length) ?_ ?_
  · refine ds_forL (de_sortedSetI (de_lstD (da_cons (de_var 3 rfl (da_cons (de_neg (de_var 3 rfl (⟨_, rfl, da_nil (⟨[_, _], rfl, rfl, ⟨[g, -g], rfl, Nat.le_of_ble_eq_true rfl, fun ms hp hms => ⟨_, rfl, In, ⟨rfl, none, none, none, rfl⟩, ⟨fun i ρ' M' d hi hd hW => ?_, fun ρ' M' hW => by rw [goals_uniq g1 hp hms, List.length_map] at hW; exact hW⟩⟩⟩⟩)⟩))))))) z_sorted z_set)
    obtain ⟨p, hp', rfl⟩ := hd
    obtain ⟨rfl, v7, v8, v9, rfl⟩ := hW
    rw [goals_uniq g1 hp hms] at hp' hi
    rw [List.length_map] at hi
    rw [List.getElem?_map, List.getElem?_eq_getElem hi] at hp'
    cases hp'
    have tk : (goals g).take (i + 1) = (goals g).take i ++ [(goals g)[i]] := by rw [List.take_add_one, List.getElem?_eq_getElem hi]; rfl
    have bs1 := goals_mem.mp (List.getElem_mem hi)
    have glen := (goals_len g).1
    have hlen := tl ((goals g).take i) (by rw [List.length_take]; omega)
    generalize (goals g)[i] = ah at *
    generalize hbase : ((goals g).take i).flatMap (fun a => turnA s v m a J) = bas at *
    refine dg_name 7 (?_) sc_turns.nd
    have rb := restA_b (s := s) (v := v) (m := m) (ahead := ah) (by omega)
    -- rest
    refine dss_cut (fun ρ' M' => updM M l (.lst (bas.map fr)) = M' ∧ ρ' = Ex ++ [some (I ah), some (I (restA s v m ah)), v9]) ?_ ?_
    · refine ds_set 8 sc_turns.nd (de_mod (de_if (dt_cmpI ci_gt (de_var 1 rfl (de_int (⟨_, _, rfl, rfl, ite2 (fun hi => de_sub (de_var 7 rfl (de_var 0 rfl (⟨_, _, rfl, rfl, de_mul (de_int (de_var 2 rfl (⟨_, _, rfl, rfl, cmul_l (by omega) (by omega), ⟨_, _, rfl, rfl, by omega, ?_⟩⟩)))⟩)))) (fun hi => de_sub (de_var 0 rfl (de_var 7 rfl (⟨_, _, rfl, rfl, de_mul (de_int (de_var 2 rfl (⟨_, _, rfl, rfl, cmul_l (by omega) (by omega), ⟨_, _, rfl, rfl, by omega, ?_⟩⟩)))⟩))))⟩))))))
      · have hi : 0 < v := of_decide_eq_true hi
        refine ⟨rfl, ?_⟩
        unfold restA
        rw [if_pos hi]
        rfl
      · have hi : ¬ 0 < v := fun z => hi (decide_eq_true z)
        refine ⟨rfl, ?_⟩
        unfold restA
        rw [if_neg hi]
        rfl
    rintro ρ' M' ⟨rfl, rfl⟩
    -- time
    refine dss_cons (ds_set 9 sc_turns.nd (de_call d_lowest (hr.mono (by decide)) (da_cons (de_var 8 rfl (da_cons (de_abs (da_cons (de_var 1 rfl (da_nil (⟨_, rfl, da_nil (⟨_, _, rfl, ⟨by split <;> omega, by split <;> omega, (fit_small (by split <;> omega) (by split <;> omega)).f4⟩, ?_⟩)⟩)))) z_abs))))))
    rw [abs_if]
    generalize hrest : restA s v m ah = re at *
    have tA : ∀ k : Nat, (List.range (k + 1)).map (fun (k : Nat) => rq (re + 2 * m * k) (v.natAbs : Int)) = (List.range k).map (fun (k : Nat) => rq (re + 2 * m * k) (v.natAbs : Int)) ++ [rq (re + 2 * m * k) (v.natAbs : Int)] := fun k => by rw [List.range_succ, List.map_append]; rfl
    let Wi : Nat → QM := fun mm ρ' M' => ∃ k : Nat, k ≤ J ∧ mm = J - k ∧ updM M l (.lst ((bas ++ (List.range k).map (fun (k : Nat) => rq (re + 2 * m * k) (v.natAbs : Int))).map fr)) = M' ∧ ρ' = Ex ++ [some (I ah), some (I re), some (.d (fr (rq (re + 2 * m * k) (v.natAbs : Int))))]
    refine dss_cut (fun ρ' M' => updM M l (.lst ((bas ++ turnA s v m ah J).map fr)) = M' ∧ ∃ v9, ρ' = Ex ++ [some (I ah), some (I re), v9]) ?_ ?_
    · refine ds_while Wi J ⟨0, Nat.zero_le _, rfl, ?_, ?_⟩ fun mm ρ' M' hW => ?_
      · rw [List.range_zero, List.map_nil, List.append_nil]
      · rw [show re + 2 * m * ((0 : Nat) : Int) = re by simp]
        rfl
      · obtain ⟨k, hk, rfl, rfl, rfl⟩ := hW
        have kB : 2 * m * (k : Int) ≤ 24 * 2000 := Int.mul_le_mul (by omega) (by omega) (by omega) (by decide)
        have k0 : 0 ≤ 2 * m * (k : Int) := Int.mul_nonneg (by omega) (by omega)
        have pb := rq_pb hu hu6 (n := re + 2 * m * k) (by omega) (by omega)
        have pw := rq_pb hu hu6 (n := 2 * m * J) (by omega) (by omega)
        have ps := rq_pb hu hu6 (n := 2 * m) (by omega) (by omega)
        refine DT.of_val (de_call d_is_less (hr.mono (by decide)) (da_cons (de_var 9 rfl (da_cons (de_var 4 rfl (da_nil (⟨_, _, rfl, ⟨pb.2, pw.2⟩, ⟨_, rfl, ?_⟩⟩)))))))
        by_cases hl' : rq (re + 2 * m * k) (v.natAbs : Int) < rq (2 * m * J) (v.natAbs : Int)
        · rw [decide_eq_true hl']
          have hl2 := (rq_lt hu).mp hl'
          have kJ : k < J := by
            have : (k : Int) < J := Int.lt_of_mul_lt_mul_left (a := 2 * m) (by omega) (by omega)
            omega
          refine iteT ?_
          refine dss_cons (ds_expr (de_append (de_var 5 rfl (⟨_, _, rfl, updM_same, de_var 9 rfl (⟨_, _, updM_same, rfl, (by rw [List.length_map, List.length_append, List.length_map, List.length_range]; omega), ?_⟩)⟩))))
          rw [updM_upd]
          refine dss_cons (ds_set 9 sc_turns.nd (de_call d_plus (hr.mono (by decide)) (da_cons (de_var 9 rfl (da_cons (de_var 6 rfl (da_nil (⟨_, _, rfl, ⟨pb.1, ps.1⟩, ?_⟩))))))))
          refine dss_nil ⟨J - (k + 1), by omega, k + 1, by omega, rfl, ?_, ?_⟩
          · rw [tA, ← List.append_assoc, List.map_append (l₁ := bas ++ _)]
            rfl
          · have e : rq (re + 2 * m * k) (v.natAbs : Int) + rq (2 * m) (v.natAbs : Int) = rq (re + 2 * m * ((k + 1 : Nat) : Int)) (v.natAbs : Int) := by
              rw [← rq_addT]
              congr 1
              rw [Int.natCast_add, Int.mul_add]
              simp
              omega
            rw [e]
            rfl
        · rw [decide_eq_false hl']
          have kJ : k = J := by
            have : ¬ k < J := fun z => hl' ((rq_lt hu).mpr (by
              have := Int.mul_le_mul_of_nonneg_left (show (k : Int) + 1 ≤ J by omega) (show 0 ≤ 2 * m by omega)
              rw [Int.mul_add, Int.mul_one] at this
              omega))
            omega
          subst kJ
          refine iteF ⟨?_, _, rfl⟩
          unfold turnA
          rw [hrest]
    rintro ρ' M' ⟨rfl, v9, rfl⟩
    refine dss_nil ⟨?_, _, _, _, rfl⟩
    rw [tk, List.flatMap_append, hbase]
    simp only [List.flatMap_cons, List.flatMap_nil, List.append_nil]
  rintro ρ' M' ⟨rfl, v7, v8, v9, rfl⟩
  rw [List.take_length]
  refine dss_freeze 5 rfl updM_same ?_
  rw [delM_upd hl]
  exact dss_cons (ds_ret (de_var 5 rfl q))
/-! ### ascending -/
def sp_ascending : DSp where
  n := 1
  wp := fun ds M Q => ∃ (ts : List Rat), ds = [L (ts.map fr)] ∧ (ts.length < 64 ∧ ∀ t ∈ ts, 0 ≤ t.num ∧ t.num < 1000000 ∧ t.den < 1000000) ∧ ∀ us : List Rat, us.Pairwise (· < ·) → (∀ t, t ∈ us ↔ t ∈ ts) → Q (L (us.map fr)) M
  mono := fun h ⟨ts, e, b, k⟩ => ⟨ts, e, b, fun us a c => h _ _ (k us a c)⟩
  len := fun ⟨ts, e, b, k⟩ => by rw [e]; rfl
def lessOut (t : Rat) : PyData → Option PyData
  | .tuple [.int n, .int d] => if n * (t.den : Int) < t.num * d then some (.tuple [.int n, .int d]) else none
  | _ => none
theorem lessOut_fr (t x : Rat) : lessOut t (fr x) = if x < t then some (fr x) else none := by
  show (if _ then _ else _) = _
  by_cases h : x < t
  · rw [if_pos h, if_pos ((Rat.lt_iff _ _).mp h)]; rfl
  · rw [if_neg h, if_neg fun z => h ((Rat.lt_iff _ _).mpr z)]
theorem lessOut_len (t : Rat) : ∀ l : List Rat, ((l.map fr).filterMap (lessOut t)).length = (l.filter fun x => decide (x < t)).length
  | [] => rfl
  | x :: l => by
    have ih := lessOut_len t l
    rw [List.map_cons, List.filterMap_cons, lessOut_fr, List.filter_cons]
    by_cases h : x < t
    · rw [if_pos h, if_pos (decide_eq_true h), List.length_cons, List.length_cons, ih]
    · rw [if_neg h, if_neg (by rw [decide_eq_false h]; decide), ih]
def frP (t : Rat) : Int × Int := (t.num, (t.den : Int))
theorem frP_inj {t u : Rat} (h : frP t = frP u) : t = u := by
  injection h with h1 h2
  exact Rat.ext h1 (by omega)
abbrev s_ascending : Stmt := topS 28
abbrev nm_ascending : List Str := ["times", "found", "time", "at", "one"]
theorem sc_ascending : FnScope nm_ascending ["times"] (defScope s_ascending) := ⟨rfl, rfl, rfl, by decide +kernel, rfl, by decide +kernel, by decide +kernel⟩
theorem ok_ascending {f : Addr} {fd : FuncData} (Fd : Fun K "ascending" "ascending" s_ascending f fd) (hm : mg "ascending" = some (.ref f)) (hb : Binds K fd ["times"] []) (d_is_less : Def P w K mg base "is_less" 1 sp_is_less) (z_len : mg "len" = none) (z_set : mg "set" = none) (z_sorted : mg "sorted" = none) : Def P w K mg base "ascending" 2 sp_ascending := by
  refine def_ok Fd sc_ascending hm hb rfl fun cdv A outer s H E hr ds M Q h => ?_
  obtain ⟨ts, rfl, ⟨b1, b2⟩, q⟩ := h
  refine dss_cons (ds_set 1 sc_ascending.nd (de_lst (da_nil (⟨[], rfl, rfl, fun l hl => ?_⟩))))
  -- the times once each
  let In : List Rat → Nat → QM := fun us i ρ' M' => ∃ fs : List Rat, fs.Pairwise (· < ·) ∧ (∀ t, t ∈ fs ↔ t ∈ us.take i) ∧ fs.length ≤ i ∧ updM M l (.lst (fs.map fr)) = M' ∧ ∃ v2 v3 v4, ρ' = [some (L (ts.map fr)), some (.o l), v2, v3, v4]
  refine dss_cut (fun ρ' M' => ∃ us : List Rat, (∀ t, t ∈ us ↔ t ∈ ts) ∧ In us us.length ρ' M') ?_ ?_
  · refine ds_forL (de_sortedSetP 1000000 hr.units (de_var 0 rfl (⟨ts.map frP, by rw [List.map_map]; rfl, by rw [List.length_map]; exact b1, fun t ht => ?_, fun ps hnd hps => ?_⟩)) z_sorted z_set)
    · obtain ⟨t', ht', rfl⟩ := List.mem_map.mp ht
      obtain ⟨c1, c2, c3⟩ := b2 t' ht'
      have c0 := t'.den_pos
      exact ⟨⟨c1, c2⟩, ⟨by show (0 : Int) ≤ (t'.den : Int); omega, by show (t'.den : Int) < 1000000; omega⟩⟩
    · obtain ⟨us, eus, hus⟩ : ∃ us : List Rat, ps = us.map frP ∧ ∀ t ∈ us, t ∈ ts := by
        have : ∀ l : List (Int × Int), (∀ p ∈ l, p ∈ ts.map frP) → ∃ us : List Rat, l = us.map frP ∧ ∀ t ∈ us, t ∈ ts := fun l => by
          induction l with
          | nil => intro _; exact ⟨[], rfl, fun t ht => by cases ht⟩
          | cons p l ih =>
            intro hp
            obtain ⟨us, e, hs⟩ := ih fun x hx => hp x (List.mem_cons_of_mem _ hx)
            obtain ⟨t, ht, rfl⟩ := List.mem_map.mp (hp p List.mem_cons_self)
            refine ⟨t :: us, by rw [e]; rfl, fun x hx => ?_⟩
            rcases List.mem_cons.mp hx with z | z
            · rw [z]; exact ht
            · exact hs x z
        exact this ps fun p hp => (hps p).mp hp
      subst eus
      have und : us.Nodup := by
        have := List.pairwise_map.mp hnd
        exact this.imp fun {a b} ne z => ne (by rw [z])
      have umem : ∀ t, t ∈ us ↔ t ∈ ts := fun t => ⟨hus t, fun ht => by
        obtain ⟨t', ht', e⟩ := List.mem_map.mp ((hps (frP t)).mpr (List.mem_map.mpr ⟨t, ht, rfl⟩))
        rw [← frP_inj e]
        exact ht'⟩
      have ulen : us.length < 1000 := by
        have := nodup_le und hus
        omega
      refine ⟨_, rfl, In us, ⟨[], .nil, fun t => by simp, Nat.le_refl _, rfl, none, none, none, rfl⟩, ⟨fun i ρ' M' d hi hd hW => ?_, fun ρ' M' hW => ⟨us, umem, by rw [List.length_map, List.length_map] at hW; exact hW⟩⟩⟩
      obtain ⟨p, hp, rfl⟩ := hd
      obtain ⟨fs, h1, h2, h3, rfl, v2, v3, v4, rfl⟩ := hW
      rw [List.length_map, List.length_map] at hi
      rw [List.getElem?_map, List.getElem?_map, List.getElem?_eq_getElem hi] at hp
      cases hp
      have tk : us.take (i + 1) = us.take i ++ [us[i]] := by rw [List.take_add_one, List.getElem?_eq_getElem hi]; rfl
      have tin := umem us[i] |>.mp (List.getElem_mem hi)
      have tno : us[i] ∉ fs := fun z => by
        have z := (h2 _).mp z
        obtain ⟨j, hj⟩ := List.getElem?_of_mem z
        rw [List.getElem?_take] at hj
        split at hj
        · rename_i hji
          obtain ⟨hjl, ej⟩ := List.getElem?_eq_some_iff.mp hj
          exact absurd ej (List.pairwise_iff_getElem.mp und j i hjl hi hji)
        · cases hj
      generalize us[i] = tm at *
      obtain ⟨c1, c2, c3⟩ := b2 tm tin
      have tbt : TB tm := ⟨by omega, by omega, by omega⟩
      refine dg_name 2 (?_) sc_ascending.nd
      show DSs _ _ [some (L (ts.map fr)), some (.o l), some (.d (fr tm)), v3, v4] _ _
      refine dss_pin l updM_same fun vs hvl => ?_
      rw [updM_upd]
      refine dss_cons (ds_set 3 sc_ascending.nd (de_len (da_cons (de_lcP (.one 4) [("one", 4)] nm_ascending (defScope s_ascending) sc_ascending.nd (by decide +kernel) (fun _ _ _ _ _ => pg_name sc_ascending.nd rfl (Or.inl rfl)) (by decide) (de_var 1 rfl (⟨l, vs, fs.map fr, lessOut tm, rfl, updM_same, hvl, by rw [List.length_map]; omega, ?_, da_nil (⟨_, _, rfl, rfl, ?_⟩)⟩)))) z_len))
      · intro p hp
        obtain ⟨x, hx, rfl⟩ := List.mem_map.mp hp
        obtain ⟨d1, d2, d3⟩ := b2 x ((umem x).mp (List.mem_of_mem_take ((h2 x).mp hx)))
        have tbx : TB x := ⟨by omega, by omega, by omega⟩
        refine ⟨_, decide (x < tm), rfl, fun M2 hM2 => ⟨fun _ _ _ _ _ => ?_, ?_⟩⟩
        · exact dts_one (DT.of_val (de_call d_is_less (hr.mono (by decide)) (da_cons (de_var 4 rfl (da_cons (de_var 2 rfl (da_nil (⟨_, _, rfl, ⟨tbx, tbt⟩, ⟨_, rfl, ⟨rfl, rfl⟩⟩⟩))))))))
        · rw [lessOut_fr]
          by_cases hh : x < tm
          · rw [decide_eq_true hh]
            exact iteT ⟨_, if_pos hh, fun _ _ _ _ _ => de_var 4 rfl (⟨rfl, rfl⟩)⟩
          · rw [decide_eq_false hh]
            exact iteF (if_neg hh)
      rw [lessOut_len]
      refine dss_unpin l updM_same hvl ?_
      rw [updM_upd]
      have fle : (fs.filter fun x => decide (x < tm)).length ≤ fs.length := List.length_filter_le _ _
      refine dss_cons (ds_expr (de_insert (de_var 1 rfl (⟨_, _, rfl, updM_same, da_cons (de_var 3 rfl (da_cons (de_var 2 rfl (da_nil (⟨_, _, _, updM_same, rfl, by rw [List.length_map]; omega, by rw [List.length_map]; exact fle, ?_⟩)))))⟩))))
      rw [updM_upd]
      refine dss_nil ⟨_, ins_asc h1 tno, fun t => ?_, ?_, ?_, _, _, _, rfl⟩
      · rw [ins_mem, h2, tk, List.mem_append, List.mem_singleton]
        exact Or.comm
      · rw [List.length_append, List.length_cons, List.length_take, List.length_drop]
        omega
      · rw [List.map_append, List.map_cons, List.map_take, List.map_drop]
  rintro ρ' M' ⟨us, umem, fs, h1, h2, h3, rfl, v2, v3, v4, rfl⟩
  rw [List.take_length] at h2
  refine dss_freeze 1 rfl updM_same ?_
  rw [delM_upd hl]
  exact dss_cons (ds_ret (de_var 1 rfl (q fs h1 fun t => by rw [h2, umem])))
/-! ### times_at -/
def sp_times_at : DSp where
  n := 2
  wp := fun ds M Q => ∃ (r : Run) (gx gy : Int), ds = [.d r.data, T [.int gx, .int gy]] ∧ r.Ok ∧ InBox r gx gy ∧ ∀ us : List Rat, TimesOf r gx gy us → Q (L (us.map fr)) M
  mono := fun h ⟨r, x, y, e, k, b, q⟩ => ⟨r, x, y, e, k, b, fun ts a => h _ _ (q ts a)⟩
  len := fun ⟨r, x, y, e, k, b, q⟩ => by rw [e]; rfl
def atOut (r : Run) (gx gy : Int) : PyData → Option PyData
  | .tuple [.int n, .int d] => if PyData.eqv (placeD r (rq n d)) (.tuple [.tuple [.int gx, .int 1], .tuple [.int gy, .int 1]]) = true then some (.tuple [.int n, .int d]) else none
  | _ => none
def atB (r : Run) (gx gy : Int) (t : Rat) : Bool := PyData.eqv (placeD r t) (.tuple [.tuple [.int gx, .int 1], .tuple [.int gy, .int 1]])
theorem atB_iff (r : Run) (gx gy : Int) (t : Rat) : atB r gx gy t = true ↔ AtP r gx gy t := by
  unfold atB placeD AtP
  rw [eqv_pair, Bool.and_eq_true]
  have e : ∀ (q : Rat) (z : Int), PyData.eqv (fr q) (.tuple [.int z, .int 1]) = true ↔ q = z := fun q z => by
    rw [eqv_fint]
    exact decide_eq_true_iff
  rw [e, e]
theorem atOut_fr (r : Run) (gx gy : Int) (t : Rat) : atOut r gx gy (fr t) = if atB r gx gy t = true then some (fr t) else none := by
  show (if PyData.eqv (placeD r (rq t.num t.den)) _ = true then _ else _) = _
  rw [rq_self]
  rfl
theorem atOut_list (r : Run) (gx gy : Int) : ∀ l : List Rat, (l.map fr).filterMap (atOut r gx gy) = (l.filter (atB r gx gy)).map fr
  | [] => rfl
  | t :: l => by
    rw [List.map_cons, List.filterMap_cons, atOut_fr, List.filter_cons]
    by_cases h : atB r gx gy t = true
    · rw [if_pos h, if_pos h, List.map_cons, ← atOut_list r gx gy l]
    · rw [if_neg h, if_neg h, ← atOut_list r gx gy l]
abbrev s_times_at : Stmt := topS 29
abbrev nm_times_at : List Str := ["run", "spot", "w", "h", "x", "y", "a", "b", "whole", "goal", "times", "time"]
theorem sc_times_at : FnScope nm_times_at ["run", "spot"] (defScope s_times_at) := ⟨rfl, rfl, rfl, by decide +kernel, rfl, by decide +kernel, by decide +kernel⟩
theorem ok_times_at {f : Addr} {fd : FuncData} (Fd : Fun K "times_at" "times_at" s_times_at f fd) (hm : mg "times_at" = some (.ref f)) (hb : Binds K fd ["run", "spot"] []) (d_ascending : Def P w K mg base "ascending" 2 sp_ascending) (d_need_run : Def P w K mg base "need_run" 3 sp_need_run) (d_need_spot : Def P w K mg base "need_spot" 2 sp_need_spot) (d_period_of : Def P w K mg base "period_of" 4 sp_period_of) (d_place_at : Def P w K mg base "place_at" 4 sp_place_at) (d_turns : Def P w K mg base "turns" 4 sp_turns) : Def P w K mg base "times_at" 5 sp_times_at := by
  refine def_ok Fd sc_times_at hm hb rfl fun cdv A outer s H E hr ds M Q h => ?_
  obtain ⟨r, gx, gy, rfl, k, bx, q⟩ := h
  have k' := k
  obtain ⟨w1, w2, h1, h2, x1, x2, y1, y2, a1, a2, b1, b2, ab⟩ := k'
  have bx' := bx
  obtain ⟨g1, g2, g3, g4⟩ := bx'
  obtain ⟨jx, jy, jx0, jy0, jp, e1, e2, jx1, jy1⟩ := axis_turns k
  have pd := (perQ r).den_pos
  have per : ∀ {a w j : Int}, a ≠ 0 → 0 ≤ j → (perQ r).num * (a.natAbs : Int) = 2 * w * j * (perQ r).den → rq (2 * w * (j.toNat : Nat)) (a.natAbs : Int) = perQ r := fun {a w j} a0 j0 e => by
    rw [Int.toNat_of_nonneg j0]
    have := rq_eq (a := 2 * w * j) (b := (a.natAbs : Int)) (c := (perQ r).num) (d := (perQ r).den) (by omega) (by omega) e.symm
    rw [this, rq_self]
  refine dss_cons (ds_expr (de_call d_need_run (hr.mono (by decide)) (da_cons (de_var 0 rfl (da_nil (⟨_, rfl, k, ?_⟩))))))
  refine dss_cons (ds_expr (de_call d_need_spot (hr.mono (by decide)) (da_cons (de_var 0 rfl (da_cons (de_var 1 rfl (da_nil (⟨r, gx, gy, rfl, bx, ?_⟩))))))))
  refine dss_cons (ds_asg (de_var 0 rfl (dg_tup rfl (dgs_cons (dg_name 2 (dgs_cons (dg_name 3 (dgs_cons (dg_name 4 (dgs_cons (dg_name 5 (dgs_cons (dg_name 6 (dgs_cons (dg_name 7 (dgs_nil (?_)) sc_times_at.nd)) sc_times_at.nd)) sc_times_at.nd)) sc_times_at.nd)) sc_times_at.nd)) sc_times_at.nd)) rfl)))
  refine dss_cons (ds_asg (de_tup (da_cons (de_call d_period_of (hr.mono (by decide)) (da_cons (de_var 0 rfl (da_nil (⟨_, rfl, k, da_cons (de_tup (da_cons (de_tup (da_cons (de_ixT (de_var 1 rfl (de_int (⟨_, _, _, rfl, rfl, rfl, da_cons (de_int (da_nil (⟨[_, _], rfl, rfl, da_cons (de_tup (da_cons (de_ixT (de_var 1 rfl (de_int (⟨_, _, _, rfl, rfl, rfl, da_cons (de_int (da_nil (⟨[_, _], rfl, rfl, da_nil (⟨[_, _], rfl, rfl, da_nil (⟨[_, _], rfl, rfl, dg_tup rfl (dgs_cons (dg_name 8 (dgs_cons (dg_name 9 (dgs_nil ?_) sc_times_at.nd)) sc_times_at.nd)) rfl⟩)⟩)⟩)))⟩))))))⟩)))⟩))))))))⟩))))))))
  refine dss_as (ρ' := [some (EV.d r.data), some (DL.T [.int gx, .int gy]), some (I r.w), some (I r.h), some (I r.x), some (I r.y), some (I r.a), some (I r.b), some (.d (fr (perQ r))), some (DL.T [.tuple [.int gx, .int 1], .tuple [.int gy, .int 1]]), none, none]) rfl ?_
  refine dss_cut (fun ρ' M' => M = M' ∧ ρ' = [some (EV.d r.data), some (DL.T [.int gx, .int gy]), some (I r.w), some (I r.h), some (I r.x), some (I r.y), some (I r.a), some (I r.b), some (.d (fr (perQ r))), some (DL.T [.tuple [.int gx, .int 1], .tuple [.int gy, .int 1]]), some (L ((axisL r gx gy jx.toNat jy.toNat).map fr)), none]) ?_ ?_
  · refine ds_set 10 sc_times_at.nd (de_if (dt_cmpI ci_ne (de_var 6 rfl (de_int (⟨_, _, rfl, rfl, ite2 (fun hi => de_call d_turns (hr.mono (by decide)) (da_cons (de_var 4 rfl (da_cons (de_var 6 rfl (da_cons (de_var 2 rfl (da_cons (de_ixT (de_var 1 rfl (de_int (⟨_, _, _, rfl, rfl, rfl, da_cons (de_var 8 rfl (da_nil (⟨r.x, r.a, r.w, gx, jx.toNat, ?_, ⟨⟨x1, by omega⟩, ⟨by simpa using hi, a1, a2⟩, ⟨w1, w2⟩, ⟨g1, g2⟩, by omega⟩, ?_⟩)))⟩)))))))))))) (fun hi => de_call d_turns (hr.mono (by decide)) (da_cons (de_var 5 rfl (da_cons (de_var 7 rfl (da_cons (de_var 3 rfl (da_cons (de_ixT (de_var 1 rfl (de_int (⟨_, _, _, rfl, rfl, rfl, da_cons (de_var 8 rfl (da_nil (⟨r.y, r.b, r.h, gy, jy.toNat, ?_, ⟨⟨y1, by omega⟩, ⟨?_, b1, b2⟩, ⟨h1, h2⟩, ⟨g3, g4⟩, by omega⟩, ?_⟩)))⟩))))))))))))⟩)))))
    · rw [per (by simpa using hi) jx0 e1]
    · refine ⟨rfl, ?_⟩
      unfold axisL
      rw [if_pos (by simpa using hi)]
      rfl
    · have a0 : r.a = 0 := by simpa using hi
      rw [per (fun z => ab ⟨a0, z⟩) jy0 e2]
    · have a0 : r.a = 0 := by simpa using hi
      exact fun z => ab ⟨a0, z⟩
    · refine ⟨rfl, ?_⟩
      unfold axisL
      rw [if_neg (fun z => z (by simpa using hi))]
      rfl
  rintro ρ' M' ⟨rfl, rfl⟩
  have bnd : ∀ t ∈ axisL r gx gy jx.toNat jy.toNat, 0 ≤ t.num ∧ t.num < 1000000 ∧ t.den < 1000000 := fun t ht => by
    have key : ∀ {s v m g : Int} {J : Nat}, 0 < m → m ≤ 12 → v ≠ 0 → -6 ≤ v → v ≤ 6 → J ≤ 2000 → t ∈ turnL s v m g J → 0 ≤ t.num ∧ t.num < 1000000 ∧ t.den < 1000000 := fun {s v m g J} m1 m2 v0 v1 v2 hJ h => by
      unfold turnL at h
      obtain ⟨ah, _, h⟩ := List.mem_flatMap.mp h
      unfold turnA at h
      obtain ⟨i, hi, rfl⟩ := List.mem_map.mp h
      have hi := List.mem_range.mp hi
      have rb := restA_b (s := s) (v := v) (m := m) (ahead := ah) m1
      have kB : 2 * m * (i : Int) ≤ 24 * 2000 := Int.mul_le_mul (by omega) (by omega) (by omega) (by decide)
      have k0 : 0 ≤ 2 * m * (i : Int) := Int.mul_nonneg (by omega) (by omega)
      have b := rq_bound (m := restA s v m ah + 2 * m * i) (u := (v.natAbs : Int)) (by omega) (by omega)
      exact ⟨b.1, by omega, by omega⟩
    unfold axisL at ht
    split at ht
    · exact key (by omega) w2 (by assumption) a1 a2 (by omega) ht
    · exact key (by omega) h2 (fun z => ab ⟨by simp_all, z⟩) b1 b2 (by omega) ht
  have alen : (axisL r gx gy jx.toNat jy.toNat).length ≤ 4000 := by
    unfold axisL
    split
    · exact Nat.le_trans turn_len (by omega)
    · exact Nat.le_trans turn_len (by omega)
  have few := axis_few k bx jx0 jy0 e1 e2 (atB r gx gy) (atB_iff r gx gy)
  have ain := axis_in k bx jx0 jy0 e1 e2
  generalize axisL r gx gy jx.toNat jy.toNat = ax at *
  refine dss_cons (ds_ret (de_call d_ascending (hr.mono (by decide)) (da_cons (de_lcL (.one 11) [("time", 11)] nm_times_at (defScope s_times_at) sc_times_at.nd (by decide +kernel) (fun _ _ _ _ _ => pg_name sc_times_at.nd rfl (Or.inl rfl)) (by decide) (de_var 10 rfl (⟨_, atOut r gx gy, rfl, by rw [List.length_map]; omega, ?_, da_nil (⟨ax.filter (atB r gx gy), by rw [atOut_list], ⟨by omega, fun t ht => bnd t (List.mem_filter.mp ht).1⟩, fun us h3 h4 => q us ⟨h3, fun t => ?_⟩⟩)⟩))))))
  · intro p hp
    obtain ⟨t, ht, rfl⟩ := List.mem_map.mp hp
    obtain ⟨c1, c2, c3⟩ := bnd t ht
    have c0 := t.den_pos
    refine ⟨_, atB r gx gy t, rfl, fun M2 hM2 => ⟨fun _ _ _ _ _ => ?_, ?_⟩⟩
    · refine dts_one (dt_eqD hr.units (de_call d_place_at (hr.mono (by decide)) (da_cons (de_var 0 rfl (da_cons (de_var 11 rfl (da_nil (⟨r, t.num, t.den, rfl, k, ⟨by omega, fit_small (by omega) (by omega)⟩, de_var 9 rfl (⟨_, _, rfl, rfl, (shp_pair (k := 1) (shp_fr _) (shp_fr _)).shaped (by decide), (shp_pair (k := 1) (shp_pair (shp_int _) (shp_int _)) (shp_pair (shp_int _) (shp_int _))).shaped (by decide), ⟨rfl, ?_⟩⟩)⟩))))))))
      rw [rq_self]
      rfl
    · rw [atOut_fr]
      cases hh : atB r gx gy t with
      | true => exact iteT ⟨_, if_pos rfl, fun _ _ _ _ _ => de_var 11 rfl (⟨rfl, rfl⟩)⟩
      | false => exact iteF (if_neg Bool.false_ne_true)
  · rw [h4, List.mem_filter, atB_iff, ain]
end
/-! ### crossings in ticks -/
def crU (r : Run) : Int := (r.a.natAbs : Int) * (r.b.natAbs : Int)
def crC (r : Run) : Int := (Int.gcd (r.w * r.b) (r.h * r.a) : Int)
def crX (r : Run) : Int := -(r.x * (r.a.sign * (r.b.natAbs : Int)))
def crY (r : Run) : Int := -(r.y * (r.b.sign * (r.a.natAbs : Int)))
def CrN (r : Run) (n : Int) : Prop := crC r ∣ n - crX r ∨ crC r ∣ n - crY r
abbrev Pq := Rat × Rat
def posQ (r : Run) (t : Rat) : Pq := (posX r t, posY r t)
def Inside (r : Run) (p : Pq) : Prop := (0 < p.1 ∧ p.1 < r.w) ∧ (0 < p.2 ∧ p.2 < r.h)
/-- p is a place strictly inside at which the ball is at a tick of a crossing -/
def CrP (r : Run) (p : Pq) : Prop := Inside r p ∧ ∃ n : Int, CrN r n ∧ posQ r (rq n (crU r)) = p
structure CrossL (r : Run) (cs : List Pq) : Prop where
  nd : cs.Nodup
  mem : ∀ p, p ∈ cs ↔ CrP r p
inductive CrossOf (r : Run) : Int → Prop
  | no : (r.a = 0 ∨ r.b = 0) → CrossOf r 0
  | yes (cs : List Pq) : r.a ≠ 0 → r.b ≠ 0 → CrossL r cs → CrossOf r (cs.length : Nat)
theorem sgn_mul (a : Int) : a.sign * a = (a.natAbs : Int) := by
  rcases Int.lt_trichotomy a 0 with h | h | h
  · rw [Int.sign_eq_neg_one_of_neg h]; omega
  · rw [h]; rfl
  · rw [Int.sign_eq_one_of_pos h]; omega
theorem abs_mul (a : Int) : a.sign * (a.natAbs : Int) = a := by
  rcases Int.lt_trichotomy a 0 with h | h | h
  · rw [Int.sign_eq_neg_one_of_neg h]; omega
  · rw [h]; rfl
  · rw [Int.sign_eq_one_of_pos h]; omega
theorem sgn_le (a : Int) : -1 ≤ a.sign ∧ a.sign ≤ 1 := by
  rcases Int.lt_trichotomy a 0 with h | h | h
  · rw [Int.sign_eq_neg_one_of_neg h]; omega
  · rw [h]; decide
  · rw [Int.sign_eq_one_of_pos h]; omega
theorem crC_eq (r : Run) : crC r = (Int.gcd (r.w * (r.b.natAbs : Int)) (r.h * (r.a.natAbs : Int)) : Int) := by
  unfold crC Int.gcd
  rw [Int.natAbs_mul, Int.natAbs_mul, Int.natAbs_mul, Int.natAbs_mul, Int.natAbs_natCast, Int.natAbs_natCast]
theorem cr_small {x s b : Int} (x1 : 0 ≤ x) (x2 : x ≤ 12) (b1 : 0 ≤ b) (b2 : b ≤ 6) (s1 : -1 ≤ s) (s2 : s ≤ 1) : -72 ≤ -(x * (s * b)) ∧ -(x * (s * b)) ≤ 72 := by
  have m := Int.mul_le_mul x2 b2 b1 (by decide)
  have m0 := Int.mul_nonneg x1 b1
  rcases (by omega : s = -1 ∨ s = 0 ∨ s = 1) with z | z | z <;> subst z
  · rw [show x * (-1 * b) = -(x * b) by grind]; omega
  · rw [Int.zero_mul, Int.mul_zero]; omega
  · rw [Int.one_mul]; omega
theorem cr_facts {r : Run} (k : r.Ok) (a0 : r.a ≠ 0) (b0 : r.b ≠ 0) : 0 < crU r ∧ crU r ≤ 36 ∧ r.a ∣ crU r ∧ r.b ∣ crU r ∧ 0 < crC r ∧ crC r ≤ 72 ∧ crC r ∣ r.w * (r.b.natAbs : Int) ∧ crC r ∣ r.h * (r.a.natAbs : Int) := by
  obtain ⟨w1, w2, h1, h2, x1, x2, y1, y2, a1, a2, b1, b2, ab⟩ := k
  have m := Int.mul_le_mul (show (r.a.natAbs : Int) ≤ 6 by omega) (show (r.b.natAbs : Int) ≤ 6 by omega) (by omega) (by decide)
  have m0 := Int.mul_pos (show 0 < (r.a.natAbs : Int) by omega) (show 0 < (r.b.natAbs : Int) by omega)
  have c1 : crC r ∣ r.w * (r.b.natAbs : Int) := by rw [crC_eq]; exact Int.gcd_dvd_left ..
  have c2 : crC r ∣ r.h * (r.a.natAbs : Int) := by rw [crC_eq]; exact Int.gcd_dvd_right ..
  have wb := Int.mul_pos (show 0 < r.w by omega) (show 0 < (r.b.natAbs : Int) by omega)
  have wb2 := Int.mul_le_mul (show r.w ≤ 12 by omega) (show (r.b.natAbs : Int) ≤ 6 by omega) (by omega) (by decide)
  have c3 := Int.le_of_dvd wb c1
  have c0 : 0 < crC r := by
    have : 0 ≤ crC r := by unfold crC; omega
    rcases (by omega : 0 < crC r ∨ crC r = 0) with z | z
    · exact z
    · rw [z] at c1
      have := Int.zero_dvd.mp c1
      omega
  exact ⟨m0, by unfold crU; omega, ⟨r.a.sign * r.b.natAbs, by unfold crU; rw [← sgn_mul r.a]; grind⟩, ⟨r.b.sign * r.a.natAbs, by unfold crU; rw [← sgn_mul r.b]; grind⟩, c0, by omega, c1, c2⟩
theorem cr_sb {r : Run} (k : r.Ok) : (-72 ≤ crX r ∧ crX r ≤ 72) ∧ (-72 ≤ crY r ∧ crY r ≤ 72) := by
  obtain ⟨w1, w2, h1, h2, x1, x2, y1, y2, a1, a2, b1, b2, ab⟩ := k
  have s1 := sgn_le r.a
  have s2 := sgn_le r.b
  exact ⟨cr_small x1 (by omega) (by omega) (by omega) s1.1 s1.2, cr_small y1 (by omega) (by omega) (by omega) s2.1 s2.2⟩
theorem crX_rq {r : Run} (a0 : r.a ≠ 0) (b0 : r.b ≠ 0) : rq (-r.x) r.a = rq (crX r) (crU r) := by
  have m0 := Int.mul_pos (show 0 < (r.a.natAbs : Int) by omega) (show 0 < (r.b.natAbs : Int) by omega)
  refine rq_eq a0 (by unfold crU; omega) ?_
  unfold crX crU
  have := sgn_mul r.a
  rw [← this]
  grind
theorem crY_rq {r : Run} (a0 : r.a ≠ 0) (b0 : r.b ≠ 0) : rq (-r.y) r.b = rq (crY r) (crU r) := by
  have m0 := Int.mul_pos (show 0 < (r.a.natAbs : Int) by omega) (show 0 < (r.b.natAbs : Int) by omega)
  refine rq_eq b0 (by unfold crU; omega) ?_
  unfold crY crU
  have := sgn_mul r.b
  rw [← this]
  grind
def gcdQ (p q : Rat) : Rat := rq (Int.gcd (p.num * q.den) (q.num * p.den) : Int) (p.den * q.den)
theorem gcdQ_rq (m n : Int) {c d : Int} (hc : 0 < c) (hd : 0 < d) : gcdQ (rq m c) (rq n d) = rq (Int.gcd (m * d) (n * c) : Int) (c * d) := by
  have e1 := rq_cross m hc
  have e2 := rq_cross n hd
  have p1 := (rq m c).den_pos
  have p2 := (rq n d).den_pos
  unfold gcdQ
  generalize (rq m c).num = A at *
  generalize (rq n d).num = B at *
  obtain ⟨P1, h1⟩ : ∃ z : Int, z = ((rq m c).den : Int) := ⟨_, rfl⟩
  obtain ⟨P2, h2⟩ : ∃ z : Int, z = ((rq n d).den : Int) := ⟨_, rfl⟩
  rw [← h1] at e1 ⊢
  rw [← h2] at e2 ⊢
  have q1 : 0 < P1 := by omega
  have q2 : 0 < P2 := by omega
  have cd := Int.mul_pos hc hd
  have pp := Int.mul_pos q1 q2
  refine rq_eq (by omega) (by omega) ?_
  have g1 : (Int.gcd (A * P2) (B * P1) : Int) * (c * d) = (Int.gcd (A * P2 * (c * d)) (B * P1 * (c * d)) : Int) := by
    rw [Int.gcd_mul_right, Int.natCast_mul, Int.natAbs_of_nonneg (Int.le_of_lt cd)]
  have g2 : (Int.gcd (m * d) (n * c) : Int) * (P1 * P2) = (Int.gcd (m * d * (P1 * P2)) (n * c * (P1 * P2)) : Int) := by
    rw [Int.gcd_mul_right, Int.natCast_mul, Int.natAbs_of_nonneg (Int.le_of_lt pp)]
  rw [g1, g2, show A * P2 * (c * d) = m * d * (P1 * P2) by grind, show B * P1 * (c * d) = n * c * (P1 * P2) by grind]
theorem cr_step {r : Run} (a0 : r.a ≠ 0) (b0 : r.b ≠ 0) : gcdQ (rq r.w (r.a.natAbs : Int)) (rq r.h (r.b.natAbs : Int)) = rq (crC r) (crU r) := by
  rw [gcdQ_rq _ _ (by omega) (by omega), ← crC_eq]
  rfl
theorem rem_rq (s : Int) {C U : Int} (hC : 0 < C) (hU : 0 < U) : rq (((rq s U).num * (rq C U).den) % ((rq C U).num * (rq s U).den)) ((rq s U).den * (rq C U).den) = rq (s % C) U := by
  have e1 := rq_cross s hU
  have e2 := rq_cross C hU
  have p1 := (rq s U).den_pos
  have p2 := (rq C U).den_pos
  generalize (rq s U).num = A at *
  generalize (rq C U).num = B at *
  obtain ⟨P1, h1⟩ : ∃ z : Int, z = ((rq s U).den : Int) := ⟨_, rfl⟩
  obtain ⟨P2, h2⟩ : ∃ z : Int, z = ((rq C U).den : Int) := ⟨_, rfl⟩
  rw [← h1] at e1 ⊢
  rw [← h2] at e2 ⊢
  have q1 : 0 < P1 := by omega
  have q2 : 0 < P2 := by omega
  have pp := Int.mul_pos q1 q2
  refine rq_eq (by omega) (by omega) ?_
  have m1 : A * P2 % (B * P1) * U = (s % C) * (P1 * P2) := by
    have h := Int.mul_emod_mul_of_pos (A * P2) (B * P1) hU
    have h' := Int.mul_emod_mul_of_pos s C pp
    rw [Int.mul_comm, ← h, Int.mul_comm (s % C), ← h']
    congr 1 <;> grind
  rw [m1]
/-- the period is a whole number of steps -/
theorem cr_period {r : Run} (k : r.Ok) (a0 : r.a ≠ 0) (b0 : r.b ≠ 0) : ∃ N : Nat, 0 < N ∧ rq ((N : Int) * crC r) (crU r) = perQ r ∧ (N : Int) * crC r ≤ 576 * 36 := by
  obtain ⟨u0, u1, da, db, c0, c1, dw, dh⟩ := cr_facts k a0 b0
  obtain ⟨T, T0, -, hT, -, -, T1⟩ := ticks k u0 (fun _ => da) (fun _ => db)
  have pd := (per_dvd k u0 hT).1
  obtain ⟨j, ej⟩ := pd
  have dT : crC r ∣ T := by
    have e : T = r.a.sign * (2 * j) * (r.w * (r.b.natAbs : Int)) := by
      have : r.a * T = r.a * (r.a.sign * (2 * j) * (r.w * (r.b.natAbs : Int))) := by
        rw [ej]
        unfold crU
        rw [← sgn_mul r.a]
        grind
      exact Int.eq_of_mul_eq_mul_left a0 this
    rw [e]
    exact Int.dvd_mul_of_dvd_right dw
  obtain ⟨N, eN⟩ := dT
  have N0 : 0 < N := by
    rcases (by omega : 0 < N ∨ N ≤ 0) with z | z
    · exact z
    · have := Int.mul_nonpos_of_nonneg_of_nonpos (show 0 ≤ crC r by omega) z
      omega
  have TU : (576 : Int) * crU r ≤ 576 * 36 := by omega
  refine ⟨N.toNat, by omega, ?_, ?_⟩
  · rw [Int.toNat_of_nonneg (by omega), Int.mul_comm, ← eN, hT]
  · rw [Int.toNat_of_nonneg (by omega), Int.mul_comm, ← eN]
    omega
def rowL (s C U : Int) (N : Nat) : List Rat := (List.range N).map fun (k : Nat) => rq (s % C + k * C) U
theorem rowL_len (s C U : Int) (N : Nat) : (rowL s C U N).length = N := by unfold rowL; rw [List.length_map, List.length_range]
def sI (r : Run) (i : Nat) : Int := if i = 0 then crX r else crY r
/-- what has been seen before time j of row i -/
def Seen (r : Run) (N : Nat) (i j : Nat) (p : Pq) : Prop := Inside r p ∧ ∃ i' j' : Nat, i' < 2 ∧ j' < N ∧ (i' < i ∨ (i' = i ∧ j' < j)) ∧ posQ r (rq (sI r i' % crC r + j' * crC r) (crU r)) = p
theorem Seen.zero {r : Run} {N : Nat} {p : Pq} : ¬ Seen r N 0 0 p := fun ⟨_, i', j', _, _, h, _⟩ => by omega
theorem Seen.next {r : Run} {N i j : Nat} (hi : i < 2) (hj : j < N) (p : Pq) : Seen r N i (j + 1) p ↔ Seen r N i j p ∨ (Inside r p ∧ p = posQ r (rq (sI r i % crC r + j * crC r) (crU r))) := by
  constructor
  · rintro ⟨hp, i', j', h1, h2, h3, h4⟩
    rcases (by omega : (i' < i ∨ (i' = i ∧ j' < j)) ∨ (i' = i ∧ j' = j)) with z | ⟨z, v⟩
    · exact .inl ⟨hp, i', j', h1, h2, z, h4⟩
    · subst z v; exact .inr ⟨hp, h4.symm⟩
  · rintro (⟨hp, i', j', h1, h2, h3, h4⟩ | ⟨hp, e⟩)
    · exact ⟨hp, i', j', h1, h2, by omega, h4⟩
    · exact ⟨hp, i, j, hi, hj, by omega, e.symm⟩
theorem Seen.row {r : Run} {N i : Nat} (p : Pq) : Seen r N i N p ↔ Seen r N (i + 1) 0 p := by
  constructor
  · rintro ⟨hp, i', j', h1, h2, h3, h4⟩
    exact ⟨hp, i', j', h1, h2, by omega, h4⟩
  · rintro ⟨hp, i', j', h1, h2, h3, h4⟩
    exact ⟨hp, i', j', h1, h2, by omega, h4⟩
theorem posQ_per {r : Run} (k : r.Ok) {u T : Int} (hT : rq T u = perQ r) (n i : Int) : posQ r (rq (n + i * T) u) = posQ r (rq n u) := by
  have e : rq (n + i * T) u = rq n u + (i : Rat) * perQ r := by
    rw [rq_addT, ← hT]
    unfold rq
    rw [Rat.intCast_mul]
    grind
  have p := place_period k (rq n u) i
  rw [← e, placeD_eq2] at p
  unfold posQ
  rw [p.1, p.2]
theorem Seen.all {r : Run} (k : r.Ok) (a0 : r.a ≠ 0) (b0 : r.b ≠ 0) {N : Nat} (N0 : 0 < N) (hN : rq ((N : Int) * crC r) (crU r) = perQ r) (p : Pq) : Seen r N 2 0 p ↔ CrP r p := by
  obtain ⟨u0, u1, da, db, c0, c1, dw, dh⟩ := cr_facts k a0 b0
  constructor
  · rintro ⟨hp, i', j', h1, h2, h3, h4⟩
    refine ⟨hp, _, ?_, h4⟩
    have key : ∀ s : Int, crC r ∣ s % crC r + j' * crC r - s := fun s => ⟨j' - s / crC r, by
      have := Int.emod_def s (crC r)
      rw [this]
      grind⟩
    unfold sI
    by_cases z : i' = 0
    · rw [if_pos z]; exact .inl (key _)
    · rw [if_neg z]; exact .inr (key _)
  · rintro ⟨hp, n, hn, e⟩
    have key : ∀ s : Int, crC r ∣ n - s → ∃ j : Nat, j < N ∧ posQ r (rq (s % crC r + j * crC r) (crU r)) = p := fun s ⟨c, ec⟩ => by
      -- n = s % C + m C, and m = j + i N
      have em := Int.emod_def s (crC r)
      let m := c + s / crC r
      have en : n = s % crC r + m * crC r := by show n = _ + (c + s / crC r) * _; rw [em]; grind
      have r0 := Int.emod_nonneg m (show (N : Int) ≠ 0 by omega)
      have r1 := Int.emod_lt_of_pos m (show (0 : Int) < N by omega)
      refine ⟨(m % N).toNat, by omega, ?_⟩
      rw [Int.toNat_of_nonneg r0, ← e, en]
      have hm := Int.emod_def m (N : Int)
      rw [show s % crC r + m * crC r = (s % crC r + m % N * crC r) + (m / N) * ((N : Int) * crC r) by rw [hm]; grind, posQ_per k hN]
    rcases hn with h | h
    · obtain ⟨j, hj, e⟩ := key _ h
      exact ⟨hp, 0, j, by omega, hj, by omega, e⟩
    · obtain ⟨j, hj, e⟩ := key _ h
      exact ⟨hp, 1, j, by omega, hj, by omega, e⟩
theorem CrossL.len {r : Run} {cs ds : List Pq} (h : CrossL r cs) (h' : CrossL r ds) : cs.length = ds.length := Nat.le_antisymm (nodup_le h.nd fun x hx => (h'.mem x).mpr ((h.mem x).mp hx)) (nodup_le h'.nd fun x hx => (h.mem x).mpr ((h'.mem x).mp hx))
theorem CrossOf.uniq {r : Run} {m n : Int} (h : CrossOf r m) (h' : CrossOf r n) : m = n := by
  cases h with
  | no z =>
    cases h' with
    | no _ => rfl
    | yes cs a0 b0 _ => exact absurd z (by omega)
  | yes cs a0 b0 l =>
    cases h' with
    | no z => exact absurd z (by omega)
    | yes ds _ _ l' => rw [l.len l']
/-! ### the dict of the places -/
def qkey (p : Pq) : NestedKey := .tup [.tup [.num p.1.num, .num p.1.den], .tup [.num p.2.num, .num p.2.den]]
theorem qkey_inj {p q : Pq} (h : qkey p = qkey q) : p = q := by
  unfold qkey at h
  injection h with h
  injection h with h1 h2
  injection h2 with h2 _
  injection h1 with h1
  injection h2 with h2
  injection h1 with h3 h4
  injection h4 with h4 _
  injection h2 with h5 h6
  injection h6 with h6 _
  injection h3 with h3
  injection h4 with h4
  injection h5 with h5
  injection h6 with h6
  exact Prod.ext (Rat.ext h3 (by omega)) (Rat.ext h5 (by omega))
def QK (xs : Rws) (φ : Pq → Prop) : Prop := ∃ cs : List Pq, xs.map (·.1) = cs.map qkey ∧ cs.Nodup ∧ ∀ p, p ∈ cs ↔ φ p
theorem QK.nil {φ : Pq → Prop} (h : ∀ p, ¬ φ p) : QK [] φ := ⟨[], rfl, List.nodup_nil, fun p => ⟨fun z => (by cases z), fun z => absurd z (h p)⟩⟩
theorem QK.congr {xs : Rws} {φ ψ : Pq → Prop} (h : QK xs φ) (e : ∀ p, ψ p ↔ φ p) : QK xs ψ := by
  obtain ⟨cs, h1, h2, h3⟩ := h
  exact ⟨cs, h1, h2, fun p => by rw [h3, e]⟩
theorem QK.kd {xs : Rws} {φ : Pq → Prop} (h : QK xs φ) : Kd xs := fun x hx => by
  obtain ⟨cs, h1, -, -⟩ := h
  have : x.1 ∈ cs.map qkey := by rw [← h1]; exact List.mem_map.mpr ⟨x, hx, rfl⟩
  obtain ⟨p, _, e⟩ := List.mem_map.mp this
  rw [← e]
  exact Nat.le_of_ble_eq_true rfl
theorem QK.has {xs : Rws} {φ : Pq → Prop} (h : QK xs φ) (p : Pq) : (atKey xs (qkey p)).isSome = true ↔ φ p := by
  obtain ⟨cs, h1, -, h3⟩ := h
  rw [← h3]
  unfold atKey
  rw [Option.isSome_map, List.find?_isSome]
  constructor
  · rintro ⟨x, hx, e⟩
    have : x.1 ∈ cs.map qkey := by rw [← h1]; exact List.mem_map.mpr ⟨x, hx, rfl⟩
    obtain ⟨q, hq, eq⟩ := List.mem_map.mp this
    have e' : x.1 = qkey p := by simpa using e
    rw [e'] at eq
    rw [← qkey_inj eq]
    exact hq
  · intro hp
    have : qkey p ∈ xs.map (·.1) := by rw [h1]; exact List.mem_map.mpr ⟨p, hp, rfl⟩
    obtain ⟨x, hx, e⟩ := List.mem_map.mp this
    exact ⟨x, hx, by simpa using e⟩
theorem QK.put {xs : Rws} {φ ψ : Pq → Prop} (h : QK xs φ) (u : Pq) (b : Addr) (v : Value) (e : ∀ p, ψ p ↔ φ p ∨ p = u) : QK (storedH xs (qkey u) b v) ψ := by
  have hh := h.has u
  obtain ⟨cs, h1, h2, h3⟩ := h
  unfold storedH
  by_cases z : (atKey xs (qkey u)).isSome = true
  · rw [if_pos z]
    refine ⟨cs, ?_, h2, fun p => ?_⟩
    · rw [← h1, List.map_map]
      refine List.map_congr_left fun x _ => ?_
      show (putAt (qkey u) v x).1 = x.1
      unfold putAt
      split <;> rfl
    · rw [h3, e]
      constructor
      · exact .inl
      · rintro (q | q)
        · exact q
        · rw [q]; exact hh.mp z
  · rw [if_neg z]
    have no : u ∉ cs := fun m => z (hh.mpr ((h3 u).mp m))
    refine ⟨cs ++ [u], by rw [List.map_append, List.map_append, h1]; rfl, ?_, fun p => ?_⟩
    · refine List.nodup_append.mpr ⟨h2, List.nodup_cons.mpr ⟨(by intro z; cases z), List.nodup_nil⟩, fun x hx y hy zz => no ?_⟩
      rw [List.mem_singleton.mp hy] at zz
      rw [← zz]
      exact hx
    · rw [List.mem_append, List.mem_singleton, h3, e]
theorem QK.cross {r : Run} {xs : Rws} (a0 : r.a ≠ 0) (b0 : r.b ≠ 0) (h : QK xs (CrP r)) : CrossOf r (xs.length : Nat) := by
  obtain ⟨cs, h1, h2, h3⟩ := h
  have : xs.length = cs.length := by
    have := congrArg List.length h1
    rwa [List.length_map, List.length_map] at this
  rw [this]
  exact .yes cs a0 b0 ⟨h2, h3⟩
section
variable {P : Program} {w : World} {K : PySem.W.Frag} {mg : Str → Option Value} {base : Heap}
/-! ### common_part -/
def sp_common_part : DSp where
  n := 2
  wp := fun ds M Q => ∃ (p q : Rat), ds = [.d (fr p), .d (fr q)] ∧ (p.den ≤ 1000 ∧ q.den ≤ 1000) ∧ Q (.d (fr (gcdQ p q))) M
  mono := fun h ⟨p, q, e, b, k⟩ => ⟨p, q, e, b, h _ _ k⟩
  len := fun ⟨p, q, e, b, k⟩ => by rw [e]; rfl
-- no common_part
/-! ### is_inside -/
def sp_is_inside : DSp where
  n := 2
  wp := fun ds M Q => ∃ (r : Run) (t : Rat), ds = [.d r.data, .d (placeD r t)] ∧ r.Ok ∧ ∀ c : Bool, (c = true ↔ Inside r (posQ r t)) → Q (B c) M
  mono := fun h ⟨r, t, e, b, k⟩ => ⟨r, t, e, b, fun c a => h _ _ (k c a)⟩
  len := fun ⟨r, t, e, b, k⟩ => by rw [e]; rfl
def insB : PyData → Bool
  | .tuple [.tuple [.int n, .int d], .int m] => if decide (0 < n) = true then decide (n < m * d) else false
  | _ => false
theorem fm_bool1 (g : PyData → Bool) (l : List PyData) : l.filterMap (fun p => some (.bool (g p))) = (l.map g).map PyData.bool := by
  rw [List.map_map, ← List.filterMap_eq_map]
  rfl
theorem insB_iff (q : Rat) (m : Int) : insB (.tuple [fr q, .int m]) = true ↔ 0 < q ∧ q < m := by
  show (if decide (0 < q.num) = true then decide (q.num < m * (q.den : Int)) else false) = true ↔ _
  have e1 : 0 < q.num ↔ 0 < q := ⟨fun h => by
    have := (Rat.lt_iff 0 q).mpr (by show (0 : Int) * q.den < q.num * ((1 : Nat) : Int); omega)
    exact this, num_pos⟩
  have e2 : q.num < m * (q.den : Int) ↔ q < m := by
    rw [Rat.lt_iff]
    show _ ↔ q.num * ((1 : Nat) : Int) < m * q.den
    rw [show q.num * ((1 : Nat) : Int) = q.num by omega]
  by_cases h : 0 < q.num
  · rw [if_pos (decide_eq_true h), decide_eq_true_iff, e2]
    exact ⟨fun z => ⟨e1.mp h, z⟩, fun z => z.2⟩
  · rw [if_neg fun z => h (of_decide_eq_true z)]
    exact ⟨fun z => (by cases z), fun z => absurd (e1.mpr z.1) h⟩
-- no is_inside
/-! ### row_of -/
def sp_row_of : DSp where
  n := 3
  wp := fun ds M Q => ∃ (s C U : Int) (N : Nat), ds = [.d (fr (rq s U)), .d (fr (rq C U)), .d (fr (rq ((N : Int) * C) U))] ∧ ((0 < U ∧ U ≤ 36) ∧ (-1000 ≤ s ∧ s ≤ 1000) ∧ (0 < C ∧ C ≤ 1000) ∧ (N : Int) * C ≤ 576 * 36) ∧ Q (L ((rowL s C U N).map fr)) M
  mono := fun h ⟨s, C, U, N, e, b, k⟩ => ⟨s, C, U, N, e, b, h _ _ k⟩
  len := fun ⟨s, C, U, N, e, b, k⟩ => by rw [e]; rfl
theorem rq_dle (n : Int) {U : Int} (h : 0 < U) : ((rq n U).den : Int) ≤ U := Int.le_of_dvd h (rq_den_dvd n h)
-- no row_of
/-! ### crossings -/
def sp_crossings : DSp where
  n := 1
  wp := fun ds M Q => ∃ (r : Run), ds = [.d r.data] ∧ r.Ok ∧ ∀ n : Int, CrossOf r n → Q (I n) M
  mono := fun h ⟨r, e, k, q⟩ => ⟨r, e, k, fun n a => h _ _ (q n a)⟩
  len := fun ⟨r, e, k, q⟩ => by rw [e]; rfl
-- no crossings
end
/-! ### times at a place by pairs of unfolded ways -/
structure GoalsOf (s m g W : Int) (xs : List Int) : Prop where
  len : xs.length ≤ 20000
  mem : ∀ d, d ∈ xs ↔ (-W ≤ d ∧ d ≤ W) ∧ ∃ j : Int, s + d = 2 * m * j + g ∨ s + d = 2 * m * j - g
theorem goals_cover {s m g W d j : Int} (hm : 0 < m) (s0 : 0 ≤ s) (s1 : s ≤ m) (g0 : 0 ≤ g) (g1 : g ≤ m) (W0 : 0 ≤ W) (d0 : -W ≤ d) (d1 : d ≤ W) (h : s + d = 2 * m * j + g ∨ s + d = 2 * m * j - g) : -(W / m) - 2 ≤ j ∧ j < W / m + 3 := by
  have e1 := Int.mul_ediv_add_emod W m
  have r0 := Int.emod_nonneg W (show m ≠ 0 by omega)
  have r1 := Int.emod_lt_of_pos W hm
  have E0 := Int.ediv_nonneg W0 (Int.le_of_lt hm)
  generalize W / m = e at *
  have me := Int.mul_nonneg (show 0 ≤ m by omega) E0
  have a2 : 2 * m * j = 2 * (m * j) := Int.mul_assoc 2 m j
  rw [a2] at h
  constructor
  · rcases Int.lt_or_le j (-e - 2) with z | z
    · have := Int.mul_le_mul_of_nonneg_left (show j ≤ -e - 3 by omega) (show 0 ≤ m by omega)
      rw [show m * (-e - 3) = -(m * e) - 3 * m by grind] at this
      omega
    · exact z
  · rcases Int.lt_or_le j (e + 3) with z | z
    · exact z
    · have := Int.mul_le_mul_of_nonneg_left z (show 0 ≤ m by omega)
      rw [show m * (e + 3) = m * e + 3 * m by grind] at this
      omega
/-- one coordinate is at g -/
theorem axis_way {s v m g : Int} (hm : 0 < m) (g0 : 0 ≤ g) (g1 : g ≤ m) (t : Rat) : foldQ ((s : Rat) + v * t) m = g ↔ ∃ d : Int, (v : Rat) * t = d ∧ ∃ j : Int, s + d = 2 * m * j + g ∨ s + d = 2 * m * j - g := by
  rw [axis_at hm g0 g1]
  constructor
  · rintro ⟨z, hz, j, e⟩
    refine ⟨z - s + 2 * m * j, ?_, j, ?_⟩
    · rw [e, Rat.intCast_add, Rat.intCast_mul (2 * m)]
    · rcases goals_mem.mp hz with q | q
      · left; rw [q]; omega
      · right; rw [q]; omega
  · rintro ⟨d, e, j, q⟩
    rcases q with q | q
    · refine ⟨g, goals_mem.mpr (.inl rfl), j, ?_⟩
      rw [e, show d = g - s + 2 * m * j by omega, Rat.intCast_add, Rat.intCast_mul (2 * m)]
    · refine ⟨-g, goals_mem.mpr (.inr rfl), j, ?_⟩
      rw [e, show d = -g - s + 2 * m * j by omega, Rat.intCast_add, Rat.intCast_mul (2 * m)]
theorem rq_mul {d v : Int} (hv : v ≠ 0) : (v : Rat) * rq d v = d := by
  have : (v : Rat) ≠ 0 := fun z => hv (Rat.intCast_inj.mp z)
  unfold rq
  grind
theorem eq_rq {d v : Int} (hv : v ≠ 0) {t : Rat} (h : (v : Rat) * t = d) : t = rq d v := by
  have : (v : Rat) ≠ 0 := fun z => hv (Rat.intCast_inj.mp z)
  unfold rq
  grind
/-- how far a coordinate runs in a period -/
def farI (r : Run) : Int := (perQ r).num * (if (if r.b < 0 then -r.b else r.b) > (if r.a < 0 then -r.a else r.a) then (if r.b < 0 then -r.b else r.b) else (if r.a < 0 then -r.a else r.a)) / ((perQ r).den : Int)
section
variable {r : Run}
theorem far_ok (k : r.Ok) : 0 ≤ farI r ∧ farI r ≤ 3456 ∧ ∀ (c d : Int) (t : Rat), (c = r.a ∨ c = r.b) → 0 ≤ t → t < perQ r → (c : Rat) * t = d → -farI r ≤ d ∧ d ≤ farI r := by
  obtain ⟨hu, hu2, ha, hb⟩ := unit_facts k
  obtain ⟨T, hT0, -, hTq, -, -, T1⟩ := ticks k hu ha hb
  have np := num_pos (perQ_pos k)
  have pd := (perQ r).den_pos
  obtain ⟨w1, w2, h1, h2, x1, x2, y1, y2, a1, a2, b1, b2, ab⟩ := k
  obtain ⟨m, em⟩ : ∃ m : Int, m = (if (if r.b < 0 then -r.b else r.b) > (if r.a < 0 then -r.a else r.a) then (if r.b < 0 then -r.b else r.b) else (if r.a < 0 then -r.a else r.a)) := ⟨_, rfl⟩
  have ma : (r.a.natAbs : Int) ≤ m := by rw [em]; split <;> split <;> omega
  have mb : (r.b.natAbs : Int) ≤ m := by rw [em]; split <;> split <;> omega
  have m6 : m ≤ 6 := by rw [em]; split <;> split <;> omega
  have m0 : 0 ≤ m := by omega
  have ef : farI r = (perQ r).num * m / ((perQ r).den : Int) := by unfold farI; rw [em]
  have c := rq_cross T hu
  rw [hTq] at c
  -- num ≤ 576 den
  have nb : (perQ r).num ≤ 576 * ((perQ r).den : Int) := by
    have h := Int.mul_le_mul_of_nonneg_right T1 (show (0 : Int) ≤ (perQ r).den by omega)
    rw [c] at h
    refine Int.le_of_mul_le_mul_right (a := unitOf r) ?_ hu
    rw [show 576 * ((perQ r).den : Int) * unitOf r = 576 * unitOf r * (perQ r).den by grind]
    exact h
  have nm := Int.mul_nonneg (show 0 ≤ (perQ r).num by omega) m0
  refine ⟨by rw [ef]; exact Int.ediv_nonneg nm (by omega), ?_, ?_⟩
  · rw [ef]
    refine Int.ediv_le_of_le_mul (by omega) ?_
    have := Int.mul_le_mul nb m6 m0 (by omega)
    omega
  · intro v d t hv t0 t1 e
    have va : (v.natAbs : Int) ≤ m := by rcases hv with z | z <;> rw [z] <;> assumption
    have key : ∀ z : Int, ((z : Rat) ≤ m * t) → z ≤ farI r := fun z hz => by
      rw [ef, Int.le_ediv_iff_mul_le (by omega)]
      have d0 : (0 : Rat) < ((perQ r).den : Int) := Rat.intCast_pos.mpr (by omega)
      have m0' : (0 : Rat) ≤ m := Rat.intCast_nonneg.mpr m0
      have s1 : (z : Rat) ≤ m * perQ r := Rat.le_trans hz (Rat.mul_le_mul_of_nonneg_left (Rat.le_of_lt t1) m0')
      have s2 := Rat.mul_le_mul_of_nonneg_right s1 (Rat.le_of_lt d0)
      have e2 : perQ r * ((perQ r).den : Int) = ((perQ r).num : Int) := by
        have := num_den (perQ r)
        have d1 : (((perQ r).den : Nat) : Rat) ≠ 0 := fun q => by
          have := Rat.ne_of_gt d0
          exact this q
        rw [show (((perQ r).den : Int) : Rat) = (((perQ r).den : Nat) : Rat) from rfl]
        generalize (((perQ r).den : Nat) : Rat) = D at *
        generalize (((perQ r).num : Int) : Rat) = N at *
        rw [this]
        exact Rat.div_mul_cancel d1
      rw [Rat.mul_assoc, e2, ← Rat.intCast_mul, ← Rat.intCast_mul] at s2
      have := Rat.intCast_le_intCast.mp s2
      rw [Int.mul_comm m] at this
      exact this
    have v1 : (v : Rat) ≤ m := Rat.intCast_le_intCast.mpr (by omega)
    have v2 : -(v : Rat) ≤ m := by
      have := Rat.intCast_le_intCast.mpr (show -v ≤ m by omega)
      rwa [Rat.intCast_neg] at this
    have p1 := key d (by rw [← e]; exact Rat.mul_le_mul_of_nonneg_right v1 t0)
    have p2 := key (-d) (by
      rw [Rat.intCast_neg, ← e]
      have := Rat.mul_le_mul_of_nonneg_right v2 t0
      rwa [Rat.neg_mul] at this)
    omega
/-- the pairs (way, speed) by which the place is come to -/
structure WaysOf (r : Run) (gx gy : Int) (ws : List (Int × Int)) : Prop where
  len : ws.length ≤ 20000
  all : ∀ p ∈ ws, (p.2 ≠ 0 ∧ -6 ≤ p.2 ∧ p.2 ≤ 6 ∧ -4000 ≤ p.1 ∧ p.1 ≤ 4000) ∧ AtP r gx gy (rq p.1 p.2)
  done : ∀ t : Rat, 0 ≤ t → t < perQ r → AtP r gx gy t → ∃ p ∈ ws, t = rq p.1 p.2
theorem ways_flat (k : r.Ok) {gx gy : Int} (b : InBox r gx gy) (a0 : r.a = 0) {xs : List Int} (h : GoalsOf r.y r.h gy (farI r) xs) : WaysOf r gx gy (if r.x = gx then xs.map fun d => (d, r.b) else []) := by
  obtain ⟨f0, f1, f2⟩ := far_ok k
  have hx : ∀ t : Rat, posX r t = r.x := fun t => by
    unfold posX
    rw [a0, Rat.intCast_zero, Rat.zero_mul, Rat.add_zero]
    exact foldQ_low (by have := k.w1; omega) (Rat.intCast_nonneg.mpr k.x1) (Rat.intCast_le_intCast.mpr k.x2)
  have b0 : r.b ≠ 0 := fun z => k.ab ⟨a0, z⟩
  have hy : ∀ t : Rat, posY r t = gy ↔ _ := fun t => axis_way (s := r.y) (v := r.b) (by have := k.h1; omega) b.y0 b.y1 t
  split
  · rename_i e
    refine ⟨by rw [List.length_map]; exact h.len, fun p hp => ?_, fun t t0 t1 at_ => ?_⟩
    · obtain ⟨d, hd, rfl⟩ := List.mem_map.mp hp
      obtain ⟨⟨d0, d1⟩, g⟩ := (h.mem d).mp hd
      exact ⟨⟨b0, k.b1, k.b2, by show -4000 ≤ d; omega, by show d ≤ 4000; omega⟩, by rw [hx, e], (hy _).mpr ⟨d, rq_mul b0, g⟩⟩
    · obtain ⟨d, e1, g⟩ := (hy t).mp at_.2
      exact ⟨(d, r.b), List.mem_map.mpr ⟨d, (h.mem d).mpr ⟨f2 r.b d t (.inr rfl) t0 t1 e1, g⟩, rfl⟩, eq_rq b0 e1⟩
  · rename_i e
    refine ⟨Nat.zero_le _, fun p hp => (by cases hp), fun t t0 t1 at_ => ?_⟩
    have := at_.1
    rw [hx] at this
    exact absurd (Rat.intCast_inj.mp this) e
theorem ways_up (k : r.Ok) {gx gy : Int} (b : InBox r gx gy) (b0 : r.b = 0) {xs : List Int} (h : GoalsOf r.x r.w gx (farI r) xs) : WaysOf r gx gy (if r.y = gy then xs.map fun d => (d, r.a) else []) := by
  obtain ⟨f0, f1, f2⟩ := far_ok k
  have hx : ∀ t : Rat, posY r t = r.y := fun t => by
    unfold posY
    rw [b0, Rat.intCast_zero, Rat.zero_mul, Rat.add_zero]
    exact foldQ_low (by have := k.h1; omega) (Rat.intCast_nonneg.mpr k.y1) (Rat.intCast_le_intCast.mpr k.y2)
  have a0 : r.a ≠ 0 := fun z => k.ab ⟨z, b0⟩
  have hy : ∀ t : Rat, posX r t = gx ↔ _ := fun t => axis_way (s := r.x) (v := r.a) (by have := k.w1; omega) b.x0 b.x1 t
  split
  · rename_i e
    refine ⟨by rw [List.length_map]; exact h.len, fun p hp => ?_, fun t t0 t1 at_ => ?_⟩
    · obtain ⟨d, hd, rfl⟩ := List.mem_map.mp hp
      obtain ⟨⟨d0, d1⟩, g⟩ := (h.mem d).mp hd
      exact ⟨⟨a0, k.a1, k.a2, by show -4000 ≤ d; omega, by show d ≤ 4000; omega⟩, (hy _).mpr ⟨d, rq_mul a0, g⟩, by rw [hx, e]⟩
    · obtain ⟨d, e1, g⟩ := (hy t).mp at_.1
      exact ⟨(d, r.a), List.mem_map.mpr ⟨d, (h.mem d).mpr ⟨f2 r.a d t (.inl rfl) t0 t1 e1, g⟩, rfl⟩, eq_rq a0 e1⟩
  · rename_i e
    refine ⟨Nat.zero_le _, fun p hp => (by cases hp), fun t t0 t1 at_ => ?_⟩
    have := at_.2
    rw [hx] at this
    exact absurd (Rat.intCast_inj.mp this) e
theorem fdiv_of {n a : Int} (a0 : a ≠ 0) : n.fmod a = 0 ↔ ∃ e : Int, n = a * e ∧ n.fdiv a = e := by
  constructor
  · intro h
    have := Int.fmod_add_mul_fdiv n a
    rw [h, Int.zero_add] at this
    exact ⟨n.fdiv a, this.symm, rfl⟩
  · rintro ⟨e, h, _⟩
    rw [h, Int.mul_fmod_right]
theorem ways_both (k : r.Ok) {gx gy : Int} (b : InBox r gx gy) (a0 : r.a ≠ 0) {xs ys : List Int} {ws : List (Int × Int)} (hx : GoalsOf r.x r.w gx (farI r) xs) (hy : GoalsOf r.y r.h gy (farI r) ys) (l : ws.length ≤ xs.length)
    (h : ∀ p, p ∈ ws ↔ ∃ d ∈ xs, p = (d, r.a) ∧ (d * r.b).fmod r.a = 0 ∧ (d * r.b).fdiv r.a ∈ ys) : WaysOf r gx gy ws := by
  obtain ⟨f0, f1, f2⟩ := far_ok k
  have ax : ∀ t : Rat, posX r t = gx ↔ _ := fun t => axis_way (s := r.x) (v := r.a) (by have := k.w1; omega) b.x0 b.x1 t
  have ay : ∀ t : Rat, posY r t = gy ↔ _ := fun t => axis_way (s := r.y) (v := r.b) (by have := k.h1; omega) b.y0 b.y1 t
  have A0 : (r.a : Rat) ≠ 0 := fun z => a0 (Rat.intCast_inj.mp z)
  refine ⟨Nat.le_trans l hx.len, fun p hp => ?_, fun t t0 t1 at_ => ?_⟩
  · obtain ⟨d, hd, rfl, m0, m1⟩ := (h p).mp hp
    obtain ⟨⟨d0, d1⟩, g⟩ := (hx.mem d).mp hd
    obtain ⟨e, e1, e2⟩ := (fdiv_of a0).mp m0
    rw [e2] at m1
    obtain ⟨-, g2⟩ := (hy.mem e).mp m1
    refine ⟨⟨a0, k.a1, k.a2, by show -4000 ≤ d; omega, by show d ≤ 4000; omega⟩, (ax _).mpr ⟨d, rq_mul a0, g⟩, (ay _).mpr ⟨e, ?_, g2⟩⟩
    have c := congrArg (Int.cast : Int → Rat) e1
    rw [Rat.intCast_mul, Rat.intCast_mul] at c
    unfold rq
    show (r.b : Rat) * ((d : Rat) / r.a) = e
    grind
  · obtain ⟨d, e1, g⟩ := (ax t).mp at_.1
    obtain ⟨e, e2, g2⟩ := (ay t).mp at_.2
    have c : d * r.b = r.a * e := by
      refine Rat.intCast_inj.mp ?_
      rw [Rat.intCast_mul, Rat.intCast_mul, ← e1, ← e2]
      grind
    refine ⟨(d, r.a), (h _).mpr ⟨d, (hx.mem d).mpr ⟨f2 r.a d t (.inl rfl) t0 t1 e1, g⟩, rfl, (fdiv_of a0).mpr ⟨e, c, by rw [c]; exact Int.mul_fdiv_cancel_left _ a0⟩, ?_⟩, eq_rq a0 e1⟩
    rw [c, Int.mul_fdiv_cancel_left _ a0]
    exact (hy.mem e).mpr ⟨f2 r.b e t (.inr rfl) t0 t1 e2, g2⟩
/-- what _law_times answers: the times as pairs, in the order of pairs -/
structure PairsOf (r : Run) (gx gy : Int) (us : List (Int × Int)) : Prop where
  asc : us.Pairwise (fun t u => lexL t u = true)
  mem : ∀ p, p ∈ us ↔ ∃ t : Rat, p = frP t ∧ 0 ≤ t ∧ t < perQ r ∧ AtP r gx gy t
/-- the test of _law_times -/
def keepT (r : Run) (t : Rat) : Bool := decide (0 ≤ t.num) && decide (t.num * ((perQ r).den : Int) < (perQ r).num * (t.den : Int))
theorem keepT_iff (t : Rat) : keepT r t = true ↔ 0 ≤ t ∧ t < perQ r := by
  unfold keepT
  rw [Bool.and_eq_true, decide_eq_true_iff, decide_eq_true_iff, ← Rat.lt_iff, Rat.num_nonneg]
theorem ways_pairs {gx gy : Int} {ws : List (Int × Int)} (h : WaysOf r gx gy ws) (p : Int × Int) : (∃ w ∈ ws, p = frP (rq w.1 w.2) ∧ keepT r (rq w.1 w.2) = true) ↔ ∃ t : Rat, p = frP t ∧ 0 ≤ t ∧ t < perQ r ∧ AtP r gx gy t := by
  constructor
  · rintro ⟨w, hw, e, kp⟩
    obtain ⟨k1, k2⟩ := (keepT_iff _).mp kp
    exact ⟨_, e, k1, k2, (h.all w hw).2⟩
  · rintro ⟨t, e, t0, t1, a⟩
    obtain ⟨w, hw, rfl⟩ := h.done t t0 t1 a
    exact ⟨w, hw, e, (keepT_iff _).mpr ⟨t0, t1⟩⟩
theorem PairsOf.nil {gx gy : Int} {us : List (Int × Int)} {vs : List Rat} (h : PairsOf r gx gy us) (h' : TimesOf r gx gy vs) : us = [] ↔ vs = [] := by
  constructor
  · intro e
    refine List.eq_nil_iff_forall_not_mem.mpr fun t ht => ?_
    obtain ⟨x, y, z⟩ := (h'.mem t).mp ht
    have := (h.mem (frP t)).mpr ⟨t, rfl, x, y, z⟩
    rw [e] at this
    cases this
  · intro e
    refine List.eq_nil_iff_forall_not_mem.mpr fun p hp => ?_
    obtain ⟨t, _, x, y, z⟩ := (h.mem p).mp hp
    have := (h'.mem t).mpr ⟨x, y, z⟩
    rw [e] at this
    cases this
theorem PairsOf.sorted {gx gy : Int} {us ps : List (Int × Int)} {vs : List Rat} (h : PairsOf r gx gy us) (h' : TimesOf r gx gy vs) (s1 : ps.Pairwise (fun t u => SrtO.lexB u t = false)) (s2 : ps.Perm (vs.map frP)) : ps = us := by
  have nv : vs.Nodup := h'.asc.imp fun {a b} l z => by rw [z] at l; exact absurd Rat.le_refl (Rat.not_le.mpr l)
  have nd : (vs.map frP).Nodup := nv.map _ fun a b ne z => ne (frP_inj z)
  have np := s2.nodup_iff.mpr nd
  refine lex_uniq ?_ h.asc fun p => ?_
  · refine List.Pairwise.imp (fun {a b} ⟨g1, g2⟩ => ?_) (List.Pairwise.and s1 np)
    have g1 := SrtO.lexB_no.mp g1
    rw [lexL_iff]
    rcases Int.lt_trichotomy a.1 b.1 with c | c | c
    · exact .inl c
    · refine .inr ⟨c, ?_⟩
      rcases Int.lt_trichotomy a.2 b.2 with c2 | c2 | c2
      · exact c2
      · exact absurd (Prod.ext c c2) g2
      · exact absurd (.inr ⟨c.symm, c2⟩) g1
    · exact absurd (.inl c) g1
  · rw [s2.mem_iff, List.mem_map, h.mem]
    constructor
    · rintro ⟨t, ht, e⟩
      exact ⟨t, e.symm, (h'.mem t).mp ht⟩
    · rintro ⟨t, e, q⟩
      exact ⟨t, (h'.mem t).mpr q, e.symm⟩
theorem rq_few {d v : Int} (v0 : v ≠ 0) (v1 : -6 ≤ v) (v2 : v ≤ 6) (d1 : -4000 ≤ d) (d2 : d ≤ 4000) : -4000 ≤ (rq d v).num ∧ (rq d v).num ≤ 4000 ∧ ((rq d v).den : Int) ≤ 6 := by
  have pos : ∀ {d v : Int}, 0 < v → v ≤ 6 → -4000 ≤ d → d ≤ 4000 → -4000 ≤ (rq d v).num ∧ (rq d v).num ≤ 4000 ∧ ((rq d v).den : Int) ≤ 6 := fun {d v} h1 h2 h3 h4 => by
    have dv := Int.le_of_dvd h1 (rq_den_dvd d h1)
    have c := rq_cross d h1
    have p := (rq d v).den_pos
    obtain ⟨D, eD⟩ : ∃ D : Int, D = ((rq d v).den : Int) := ⟨_, rfl⟩
    rw [← eD] at c dv ⊢
    have D0 : 0 < D := by omega
    generalize (rq d v).num = n at *
    have k1 : d * D ≤ 4000 * v := by
      rcases Int.lt_or_le 0 d with z | z
      · have := Int.mul_le_mul h4 dv (by omega) (by decide); omega
      · have := Int.mul_nonpos_of_nonpos_of_nonneg z (show 0 ≤ D by omega); omega
    have k2 : -4000 * v ≤ d * D := by
      rcases Int.lt_or_le d 0 with z | z
      · have := Int.mul_le_mul (show -d ≤ 4000 by omega) dv (by omega) (by decide)
        rw [Int.neg_mul] at this; omega
      · have := Int.mul_nonneg z (show 0 ≤ D by omega); omega
    rw [c] at k1 k2
    exact ⟨Int.le_of_mul_le_mul_right k2 h1, Int.le_of_mul_le_mul_right k1 h1, by omega⟩
  rcases (by omega : 0 < v ∨ v < 0) with z | z
  · exact pos z v2 d1 d2
  · have e : rq d v = rq (-d) (-v) := rq_eq v0 (by omega) (by rw [Int.mul_neg, Int.neg_mul])
    rw [e]
    exact pos (by omega) (by omega) (by omega) (by omega)
end
section
variable {P : Program} {w : World} {K : PySem.W.Frag} {mg : Str → Option Value} {base : Heap}
/-! ### _law_goals -/
def sp__law_goals : DSp where
  n := 4
  wp := fun ds M Q => ∃ (s m g W : Int), ds = [I s, I m, I g, I W] ∧ ((1 ≤ m ∧ m ≤ 12) ∧ (0 ≤ s ∧ s ≤ m) ∧ (0 ≤ g ∧ g ≤ m) ∧ 0 ≤ W ∧ W ≤ 3456) ∧ ∀ xs : List Int, GoalsOf s m g W xs → Q (L (xs.map .int)) M
  mono := fun h ⟨s, m, g, W, e, b, q⟩ => ⟨s, m, g, W, e, b, fun xs a => h _ _ (q xs a)⟩
  len := fun ⟨s, m, g, W, e, b, q⟩ => by rw [e]; rfl
structure GI (s m g W lo : Int) (i : Nat) (xs : List Int) : Prop where
  len : xs.length ≤ 2 * i
  mem : ∀ d, d ∈ xs ↔ (-W ≤ d ∧ d ≤ W) ∧ ∃ i' : Nat, i' < i ∧ (s + d = 2 * m * (lo + i') + g ∨ s + d = 2 * m * (lo + i') - g)
theorem two_len {ms : List Int} {a b : Int} (hp : ms.Pairwise (· < ·)) (hm : ∀ k, k ∈ ms ↔ k ∈ [a, b]) : ms.length ≤ 2 :=
  nodup_le (D := [a, b]) (hp.imp fun {x y} l z => by rw [z] at l; omega) fun x hx => (hm x).mp hx
/-- inside a turn: the first j of the two goals are done -/
structure GJ (s W : Int) (xs0 ms : List Int) (j : Nat) (xs : List Int) : Prop where
  len : xs.length ≤ xs0.length + j
  mem : ∀ d, d ∈ xs ↔ d ∈ xs0 ∨ ((-W ≤ d ∧ d ≤ W) ∧ ∃ j' : Nat, j' < j ∧ ms[j']? = some (s + d))
theorem GJ.next {s W : Int} {xs0 ms xs : List Int} {j : Nat} {z : Int} (h : GJ s W xs0 ms j xs) (hz : ms[j]? = some z) :
    ((-W ≤ z - s ∧ z - s ≤ W) → GJ s W xs0 ms (j + 1) (xs ++ [z - s])) ∧ (¬ (-W ≤ z - s ∧ z - s ≤ W) → GJ s W xs0 ms (j + 1) xs) := by
  refine ⟨fun b => ⟨?_, fun d => ?_⟩, fun b => ⟨by have := h.len; omega, fun d => ?_⟩⟩
  · rw [List.length_append, List.length_singleton]; have := h.len; omega
  · rw [List.mem_append, List.mem_singleton, h.mem]
    constructor
    · rintro ((q | ⟨q, j', hj, e⟩) | q)
      · exact .inl q
      · exact .inr ⟨q, j', by omega, e⟩
      · rw [q]
        exact .inr ⟨b, j, by omega, by rw [hz]; congr 1; omega⟩
    · rintro (q | ⟨q, j', hj, e⟩)
      · exact .inl (.inl q)
      · rcases (by omega : j' < j ∨ j' = j) with v | v
        · exact .inl (.inr ⟨q, j', v, e⟩)
        · rw [v, hz] at e
          injection e with e
          exact .inr (by omega)
  · rw [h.mem]
    constructor
    · rintro (q | ⟨q, j', hj, e⟩)
      · exact .inl q
      · exact .inr ⟨q, j', by omega, e⟩
    · rintro (q | ⟨q, j', hj, e⟩)
      · exact .inl q
      · rcases (by omega : j' < j ∨ j' = j) with v | v
        · exact .inr ⟨q, j', v, e⟩
        · rw [v, hz] at e
          injection e with e
          exact absurd (by rw [show z - s = d by omega]; exact q) b
theorem GI.turn {s m g W lo : Int} {i : Nat} {xs0 ms xs : List Int} (h : GI s m g W lo i xs0) (hp : ms.Pairwise (· < ·)) (hm : ∀ k, k ∈ ms ↔ k ∈ [2 * m * (lo + (i : Int)) + g, 2 * m * (lo + (i : Int)) - g]) (x : GJ s W xs0 ms ms.length xs) : GI s m g W lo (i + 1) xs := by
  refine ⟨by have := x.len; have := h.len; have := two_len hp hm; omega, fun d => ?_⟩
  have hd : (∃ j' : Nat, j' < ms.length ∧ ms[j']? = some (s + d)) ↔ s + d = 2 * m * (lo + (i : Int)) + g ∨ s + d = 2 * m * (lo + (i : Int)) - g := by
    have : (∃ j' : Nat, j' < ms.length ∧ ms[j']? = some (s + d)) ↔ s + d ∈ ms := by
      constructor
      · rintro ⟨j', _, e⟩; exact List.mem_of_getElem? e
      · intro q
        obtain ⟨j', e⟩ := List.getElem?_of_mem q
        exact ⟨j', (List.getElem?_eq_some_iff.mp e).1, e⟩
    rw [this, hm]
    simp
  rw [x.mem, h.mem, hd]
  constructor
  · rintro (⟨b, i', hi, e⟩ | ⟨b, e⟩)
    · exact ⟨b, i', by omega, e⟩
    · exact ⟨b, i, by omega, e⟩
  · rintro ⟨b, i', hi, e⟩
    rcases (by omega : i' < i ∨ i' = i) with v | v
    · exact .inl ⟨b, i', v, e⟩
    · rw [v] at e; exact .inr ⟨b, e⟩
theorem GI.out {s m g W : Int} {xs : List Int} (hm : 1 ≤ m) (s0 : 0 ≤ s) (s1 : s ≤ m) (g0 : 0 ≤ g) (g1 : g ≤ m) (W0 : 0 ≤ W) (W1 : W ≤ 3456) (h : GI s m g W (-(W / m) - 2) ((W / m + 3) - (-(W / m) - 2)).toNat xs) : GoalsOf s m g W xs := by
  have E0 := Int.ediv_nonneg W0 (show 0 ≤ m by omega)
  have E1 : W / m ≤ W := Int.ediv_le_self m W0
  refine ⟨by have := h.len; omega, fun d => ?_⟩
  rw [h.mem]
  constructor
  · rintro ⟨b, i', _, e⟩
    exact ⟨b, _, e⟩
  · rintro ⟨b, j, e⟩
    obtain ⟨j0, j1⟩ := goals_cover (by omega) s0 s1 g0 g1 W0 b.1 b.2 e
    refine ⟨b, (j - (-(W / m) - 2)).toNat, by omega, ?_⟩
    rw [show -(W / m) - 2 + (((j - (-(W / m) - 2)).toNat : Nat) : Int) = j by omega]
    exact e
abbrev s__law_goals : Stmt := topS 37
abbrev nm__law_goals : List Str := ["_law_start", "_law_side", "_law_spot", "_law_whole", "_law_found", "_law_at", "_law_goal"]
theorem sc__law_goals : FnScope nm__law_goals ["_law_start", "_law_side", "_law_spot", "_law_whole"] (defScope s__law_goals) := ⟨rfl, rfl, rfl, by decide +kernel, rfl, by decide +kernel, by decide +kernel⟩
theorem ok__law_goals {f : Addr} {fd : FuncData} (Fd : Fun K "_law_goals" "_law_goals" s__law_goals f fd) (hm : mg "_law_goals" = some (.ref f)) (hb : Binds K fd ["_law_start", "_law_side", "_law_spot", "_law_whole"] []) (z_abs : mg "abs" = none) (z_range : mg "range" = none) (z_set : mg "set" = none) (z_sorted : mg "sorted" = none) : Def P w K mg base "_law_goals" 1 sp__law_goals := by
  refine def_ok Fd sc__law_goals hm hb rfl fun cdv A outer st0 H E hr ds M Q h => ?_
  obtain ⟨s, m, g, W, rfl, ⟨⟨m1, m2⟩, ⟨s1, s2⟩, ⟨g1, g2⟩, W1, W2⟩, q⟩ := h
  have E0 := Int.ediv_nonneg W1 (show 0 ≤ m by omega)
  have E1 : W / m ≤ W := Int.ediv_le_self m W1
  -- _law_found = []
  refine dss_cons (ds_set 4 sc__law_goals.nd (de_lst (da_nil (⟨[], rfl, rfl, fun l hl => ?_⟩))))
  let Ex : List (Option EV) := [some (I s), some (I m), some (I g), some (I W), some (.o l)]
  let In : Nat → QM := fun i ρ' M' => ∃ xs, GI s m g W (-(W / m) - 2) i xs ∧ updM M l (.lst (xs.map .int)) = M' ∧ ∃ v5 v6, ρ' = Ex ++ [v5, v6]
  refine dss_cut (In ((W / m + 3) - (-(W / m) - 2)).toNat) ?_ ?_
  · refine ds_forR2 (da_cons (de_sub (de_neg (de_div (de_var 3 rfl (de_var 1 rfl (⟨_, _, rfl, rfl, ⟨by omega, by omega⟩, ⟨_, rfl, de_int (⟨_, _, rfl, rfl, da_cons (de_add (de_div (de_var 3 rfl (de_var 1 rfl (⟨_, _, rfl, rfl, ⟨by omega, by omega⟩, de_int (⟨_, _, rfl, rfl, da_nil (⟨_, _, rfl, ⟨by omega, by omega, by omega, by omega⟩, In, ⟨[], ⟨Nat.zero_le _, fun d => ⟨fun z => (by cases z), fun ⟨_, i', z, _⟩ => absurd z (Nat.not_lt_zero _)⟩⟩, rfl, none, none, rfl⟩, ⟨fun i ρ' M' d hi hd hW => ?_, fun ρ' M' hW => hW⟩⟩)⟩)⟩)))))⟩)⟩⟩))))))) z_range
    obtain ⟨xs0, gi, rfl, v5, v6, rfl⟩ := hW
    subst hd
    generalize hat : (-(W / m) - 2 + (i : Int)) = at_
    have b1 : -4000 ≤ at_ := by omega
    have b2 : at_ ≤ 4000 := by omega
    refine dg_name 5 (?_) sc__law_goals.nd
    refine dss_cut (fun ρ' M' => ∃ xs ms, ms.Pairwise (· < ·) ∧ (∀ k, k ∈ ms ↔ k ∈ [2 * m * at_ + g, 2 * m * at_ - g]) ∧ GJ s W xs0 ms ms.length xs ∧ updM M l (.lst (xs.map .int)) = M' ∧ ∃ v6, ρ' = Ex ++ [some (I at_), v6]) ?_ ?_
    · refine ds_forL (de_sortedSetI (de_lstD (da_cons (de_add (de_mul (de_mul (de_int (de_var 1 rfl (⟨_, _, rfl, rfl, cmul_l (by omega) (by omega), de_var 5 rfl (⟨_, _, rfl, rfl, cmul_l (by omega) (by omega), de_var 2 rfl (⟨_, _, rfl, rfl, da_cons (de_sub (de_mul (de_mul (de_int (de_var 1 rfl (⟨_, _, rfl, rfl, cmul_l (by omega) (by omega), de_var 5 rfl (⟨_, _, rfl, rfl, cmul_l (by omega) (by omega), de_var 2 rfl (⟨_, _, rfl, rfl, da_nil (⟨[_, _], rfl, rfl, ⟨[2 * m * at_ + g, 2 * m * at_ - g], rfl, Nat.le_of_ble_eq_true rfl, fun ms hp hms => ⟨_, rfl, fun j ρ' M' => ∃ xs, GJ s W xs0 ms j xs ∧ updM M l (.lst (xs.map .int)) = M' ∧ ∃ v6, ρ' = Ex ++ [some (I at_), v6], ⟨xs0, ⟨Nat.le_refl _, fun d => ⟨.inl, fun z => z.elim id fun ⟨_, j', z, _⟩ => absurd z (Nat.not_lt_zero _)⟩⟩, rfl, _, rfl⟩, ⟨fun j ρ' M' d hj hd hW => ?_, fun ρ' M' hW => by rw [List.length_map] at hW; obtain ⟨xs, gj, e, v6, rfl⟩ := hW; exact ⟨xs, ms, hp, hms, gj, e, v6, rfl⟩⟩⟩⟩⟩)⟩)⟩)⟩))))))⟩)⟩)⟩)))))))) z_sorted z_set)
      obtain ⟨p, hp', rfl⟩ := hd
      obtain ⟨xs, gj, rfl, v6, rfl⟩ := hW
      rw [List.length_map] at hj
      rw [List.getElem?_map, List.getElem?_eq_getElem hj] at hp'
      cases hp'
      have hz : ms[j]? = some ms[j] := List.getElem?_eq_getElem hj
      have tl := two_len hp hms
      have gl := gj.len
      have il := gi.len
      generalize ms[j] = z at *
      have nx := gj.next hz
      refine dg_name 6 (?_) sc__law_goals.nd
      refine dss_cons (ds_if (dt_cmpI ci_le (de_abs (da_cons (de_sub (de_var 6 rfl (de_var 0 rfl (⟨_, _, rfl, rfl, da_nil (⟨_, rfl, de_var 3 rfl (⟨_, _, rfl, rfl, ite2 (fun hi => ?_) (fun hi => ?_)⟩)⟩)⟩))))) z_abs)))
      · have hi := of_decide_eq_true hi
        refine dss_cons (ds_expr (de_append (de_var 4 rfl (⟨_, _, rfl, updM_same, de_sub (de_var 6 rfl (de_var 0 rfl (⟨_, _, rfl, rfl, ⟨_, _, updM_same, rfl, (by rw [List.length_map]; omega), ?_⟩⟩)))⟩))))
        rw [updM_upd]
        refine dss_nil (dss_nil ⟨xs ++ [z - s], nx.1 ?_, by rw [List.map_append]; rfl, _, rfl⟩)
        split at hi <;> omega
      · have hi := fun q => hi (decide_eq_true q)
        refine dss_nil (dss_nil ⟨xs, nx.2 ?_, rfl, _, rfl⟩)
        intro q
        refine hi ?_
        split <;> omega
    rintro ρ' M' ⟨xs, ms, hp, hms, gj, rfl, v6, rfl⟩
    exact dss_nil ⟨xs, gi.turn hp (by rw [hat]; exact hms) gj, rfl, _, _, rfl⟩
  rintro ρ' M' ⟨xs, gi, rfl, v5, v6, rfl⟩
  refine dss_freeze 4 rfl updM_same ?_
  rw [delM_upd hl]
  exact dss_cons (ds_ret (de_var 4 rfl (q xs (gi.out m1 s1 s2 g1 g2 W1 W2))))
/-! ### _law_times -/
def sp__law_times : DSp where
  n := 2
  wp := fun ds M Q => ∃ (r : Run) (gx gy : Int), ds = [.d r.data, T [.int gx, .int gy]] ∧ r.Ok ∧ InBox r gx gy ∧ ∀ us : List (Int × Int), PairsOf r gx gy us → Q (L (us.map pairD)) M
  mono := fun h ⟨r, x, y, e, k, b, q⟩ => ⟨r, x, y, e, k, b, fun ts a => h _ _ (q ts a)⟩
  len := fun ⟨r, x, y, e, k, b, q⟩ => by rw [e]; rfl
def wayOut (c : Int) : PyData → Option PyData
  | .int d => some (pairD (d, c))
  | _ => none
theorem wayOut_map (c : Int) : ∀ xs : List Int, (xs.map PyData.int).filterMap (wayOut c) = (xs.map fun d => (d, c)).map pairD
  | [] => rfl
  | x :: xs => by
    rw [List.map_cons, List.map_cons, List.map_cons, List.filterMap_cons, ← wayOut_map c xs]
    rfl
/-- the keys of the dict along -/
def IK (kvs : List (Key × EV)) (n : Nat) (φ : Int → Prop) : Prop := kvs.length ≤ n ∧ ∀ z : Int, (valE kvs (.inl z)).isSome = true ↔ φ z
theorem IK.put {kvs : List (Key × EV)} {n : Nat} {φ ψ : Int → Prop} {v : EV} (h : IK kvs n φ) (z : Int) (e : ∀ x, ψ x ↔ φ x ∨ x = z) : IK (putE kvs (.inl z) v) (n + 1) ψ := by
  refine ⟨Nat.le_trans (putE_len _ _ _) (by have := h.1; omega), fun x => ?_⟩
  rw [valE_put, e]
  by_cases q : x = z
  · subst q
    rw [if_pos rfl]
    exact ⟨fun _ => .inr rfl, fun _ => rfl⟩
  · rw [if_neg fun y => q (Sum.inl.inj y), h.2]
    exact ⟨.inl, fun y => y.resolve_right q⟩
abbrev s__law_times : Stmt := topS 38
abbrev nm__law_times : List Str := ["_law_run_here", "_law_spot", "_law_w", "_law_h", "_law_x", "_law_y", "_law_a", "_law_b", "_law_whole", "_law_found", "_law_far", "_law_ways", "_law_along", "_law_way", "_law_speed", "_law_time"]
theorem sc__law_times : FnScope nm__law_times ["_law_run_here", "_law_spot"] (defScope s__law_times) := ⟨rfl, rfl, rfl, by decide +kernel, rfl, by decide +kernel, by decide +kernel⟩
theorem ok__law_times {f : Addr} {fd : FuncData} (Fd : Fun K "_law_times" "_law_times" s__law_times f fd) (hm : mg "_law_times" = some (.ref f)) (hb : Binds K fd ["_law_run_here", "_law_spot"] []) (d__law_goals : Def P w K mg base "_law_goals" 1 sp__law_goals) (d__law_low : Def P w K mg base "_law_low" 2 sp__law_low) (d_period : Def P w K mg base "period" 5 sp_period) (z_abs : mg "abs" = none) (z_max : mg "max" = none) (z_sorted : mg "sorted" = none) : Def P w K mg base "_law_times" 6 sp__law_times := by
  refine def_ok Fd sc__law_times hm hb rfl fun cdv A outer st0 H E hr ds M Q h => ?_
  obtain ⟨r, gx, gy, rfl, k, bx, q⟩ := h
  have k' := k
  obtain ⟨w1, w2, h1, h2, x1, x2, y1, y2, a1, a2, b1, b2, ab⟩ := k'
  have bx' := bx
  obtain ⟨g1, g2, g3, g4⟩ := bx'
  obtain ⟨hu, hu2, ha, hb'⟩ := unit_facts k
  obtain ⟨T, hT0, -, hTq, -, -, T1⟩ := ticks k hu ha hb'
  have pb := rq_bound hu (Int.le_of_lt hT0)
  rw [hTq] at pb
  have np := num_pos (perQ_pos k)
  have pd := (perQ r).den_pos
  obtain ⟨f0, f1, f2⟩ := far_ok k
  refine dss_cons (ds_asg (de_var 0 rfl (dg_tup rfl (dgs_cons (dg_name 2 (dgs_cons (dg_name 3 (dgs_cons (dg_name 4 (dgs_cons (dg_name 5 (dgs_cons (dg_name 6 (dgs_cons (dg_name 7 (dgs_nil (?_)) sc__law_times.nd)) sc__law_times.nd)) sc__law_times.nd)) sc__law_times.nd)) sc__law_times.nd)) sc__law_times.nd)) rfl)))
  refine dss_cons (ds_set 8 sc__law_times.nd (de_call d_period (hr.mono (by decide)) (da_cons (de_var 0 rfl (da_nil (⟨_, rfl, k, ?_⟩))))))
  refine dss_cons (ds_set 9 sc__law_times.nd (de_dnew fun l hl => ?_))
  refine dss_cons (ds_set 10 sc__law_times.nd (de_div (de_mul (de_ixT (de_var 8 rfl (de_int (⟨_, _, _, rfl, rfl, rfl, de_max2 (da_cons (de_abs (da_cons (de_var 6 rfl (da_nil (⟨_, rfl, da_cons (de_abs (da_cons (de_var 7 rfl (da_nil (⟨_, rfl, da_nil (⟨_, _, rfl, ⟨_, _, rfl, rfl, cmul_l (by omega) (by omega), de_ixT (de_var 8 rfl (de_int (⟨_, _, _, rfl, rfl, rfl, ⟨_, _, rfl, rfl, ⟨by omega, by omega⟩, ?_⟩⟩)))⟩⟩)⟩)))) z_abs)⟩)))) z_abs)) z_max⟩)))))))
  let Ex : List (Option EV) := [some (.d r.data), some (DL.T [.int gx, .int gy]), some (I r.w), some (I r.h), some (I r.x), some (I r.y), some (I r.a), some (I r.b), some (.d (fr (perQ r))), some (.o l), some (I (farI r))]
  refine dss_as (ρ' := Ex ++ [none, none, none, none, none]) rfl ?_
  have bg1 : 1 ≤ r.w ∧ r.w ≤ 12 := ⟨w1, w2⟩
  refine dss_cut (fun ρ' M' => updM M l (ndP P w l []) = M' ∧ ∃ ws, WaysOf r gx gy ws ∧ ∃ v12 v13, ρ' = Ex ++ [some (L (ws.map pairD)), v12, v13, none, none]) (ds_if (dt_cmpI ci_eq (de_var 6 rfl (de_int (⟨_, _, rfl, rfl, ite2 (fun hi => ?_) (fun hi => ?_)⟩))))) ?_
  · -- up and down
    have a0 : r.a = 0 := of_decide_eq_true hi
    refine dss_cons (ds_set 11 sc__law_times.nd (de_if (dt_cmpI ci_eq (de_var 4 rfl (de_ixT (de_var 1 rfl (de_int (⟨_, _, _, rfl, rfl, rfl, ⟨_, _, rfl, rfl, ite2 (fun hx => ?_) (fun hx => ?_)⟩⟩))))))))
    · refine de_lcL (.one 13) [("_law_way", 13)] nm__law_times (defScope s__law_times) sc__law_times.nd (by decide +kernel) (fun _ _ _ _ _ => pg_name sc__law_times.nd rfl (Or.inl rfl)) (by decide) (de_call d__law_goals (hr.mono (by decide)) (da_cons (de_var 5 rfl (da_cons (de_var 3 rfl (da_cons (de_ixT (de_var 1 rfl (de_int (⟨_, _, _, rfl, rfl, rfl, da_cons (de_var 10 rfl (da_nil (⟨r.y, r.h, gy, farI r, rfl, ⟨⟨h1, h2⟩, ⟨y1, y2⟩, ⟨g3, g4⟩, f0, f1⟩, fun xs hxs => ⟨_, wayOut r.b, rfl, ?_, ?_, ?_⟩⟩)))⟩))))))))))
      · rw [List.length_map]; exact Nat.le_trans hxs.len (by decide)
      · intro p hp
        obtain ⟨d, hd, rfl⟩ := List.mem_map.mp hp
        exact ⟨_, true, rfl, fun M2 hM2 => ⟨fun _ _ _ _ _ => dts_nil ⟨rfl, rfl⟩, iteT ⟨_, rfl, fun _ _ _ _ _ => de_tup (da_cons (de_var 13 rfl (da_cons (de_var 7 rfl (da_nil (⟨[_, _], rfl, rfl, ⟨rfl, rfl⟩⟩))))))⟩⟩⟩
      · rw [wayOut_map]
        have wo := ways_flat k bx a0 hxs
        rw [if_pos (of_decide_eq_true hx)] at wo
        exact dss_nil ⟨rfl, _, wo, _, _, rfl⟩
    · refine de_lstD (da_nil (⟨[], rfl, rfl, ?_⟩))
      refine dss_nil ⟨rfl, [], ⟨Nat.zero_le _, fun p hp => (by cases hp), fun t t0 t1 at_ => ?_⟩, _, _, rfl⟩
      have := at_.1
      unfold posX at this
      rw [a0, Rat.intCast_zero, Rat.zero_mul, Rat.add_zero, foldQ_low (by omega) (Rat.intCast_nonneg.mpr x1) (Rat.intCast_le_intCast.mpr x2)] at this
      exact absurd (decide_eq_true (Rat.intCast_inj.mp this)) hx
  · have a0 : r.a ≠ 0 := fun z => hi (decide_eq_true z)
    refine dss_cons (ds_if (dt_cmpI ci_eq (de_var 7 rfl (de_int (⟨_, _, rfl, rfl, ite2 (fun hj => dss_cut (fun ρ' M' => updM M l (ndP P w l []) = M' ∧ ∃ ws, WaysOf r gx gy ws ∧ ∃ v12 v13, ρ' = Ex ++ [some (L (ws.map pairD)), v12, v13, none, none]) ?_ (fun ρ' M' hh => dss_nil (dss_nil hh))) (fun hj => ?_)⟩)))))
    · have b0 : r.b = 0 := of_decide_eq_true hj
      refine ds_set 11 sc__law_times.nd (de_if (dt_cmpI ci_eq (de_var 5 rfl (de_ixT (de_var 1 rfl (de_int (⟨_, _, _, rfl, rfl, rfl, ⟨_, _, rfl, rfl, ite2 (fun hx => ?_) (fun hx => ?_)⟩⟩)))))))
      · refine de_lcL (.one 13) [("_law_way", 13)] nm__law_times (defScope s__law_times) sc__law_times.nd (by decide +kernel) (fun _ _ _ _ _ => pg_name sc__law_times.nd rfl (Or.inl rfl)) (by decide) (de_call d__law_goals (hr.mono (by decide)) (da_cons (de_var 4 rfl (da_cons (de_var 2 rfl (da_cons (de_ixT (de_var 1 rfl (de_int (⟨_, _, _, rfl, rfl, rfl, da_cons (de_var 10 rfl (da_nil (⟨r.x, r.w, gx, farI r, rfl, ⟨⟨w1, w2⟩, ⟨x1, x2⟩, ⟨g1, g2⟩, f0, f1⟩, fun xs hxs => ⟨_, wayOut r.a, rfl, ?_, ?_, ?_⟩⟩)))⟩))))))))))
        · rw [List.length_map]; exact Nat.le_trans hxs.len (by decide)
        · intro p hp
          obtain ⟨d, hd, rfl⟩ := List.mem_map.mp hp
          exact ⟨_, true, rfl, fun M2 hM2 => ⟨fun _ _ _ _ _ => dts_nil ⟨rfl, rfl⟩, iteT ⟨_, rfl, fun _ _ _ _ _ => de_tup (da_cons (de_var 13 rfl (da_cons (de_var 6 rfl (da_nil (⟨[_, _], rfl, rfl, ⟨rfl, rfl⟩⟩))))))⟩⟩⟩
        · rw [wayOut_map]
          have wo := ways_up k bx b0 hxs
          rw [if_pos (of_decide_eq_true hx)] at wo
          exact ⟨rfl, _, wo, _, _, rfl⟩
      · refine de_lstD (da_nil (⟨[], rfl, rfl, ?_⟩))
        refine ⟨rfl, [], ⟨Nat.zero_le _, fun p hp => (by cases hp), fun t t0 t1 at_ => ?_⟩, _, _, rfl⟩
        have := at_.2
        unfold posY at this
        rw [b0, Rat.intCast_zero, Rat.zero_mul, Rat.add_zero, foldQ_low (by omega) (Rat.intCast_nonneg.mpr y1) (Rat.intCast_le_intCast.mpr y2)] at this
        exact absurd (decide_eq_true (Rat.intCast_inj.mp this)) hx
    · have b0 : r.b ≠ 0 := fun z => hj (decide_eq_true z)
      refine dss_cons (ds_par 11 12 sc__law_times.nd (da_cons (de_lst (da_nil (⟨[], rfl, rfl, fun lw hlw => da_cons (de_dnewK fun la hla => da_nil (⟨_, _, rfl, ?_⟩))⟩)))))
      have nla : la ≠ lw := fun z => by rw [z, updM_same] at hla; cases hla
      have nl : lw ≠ l := fun z => by rw [z, updM_same] at hlw; cases hlw
      have nlb : la ≠ l := fun z => by rw [z, updM_ne (Ne.symm nl), updM_same] at hla; cases hla
      obtain ⟨M1, eM1⟩ : ∃ M1, M1 = updM M l (ndP P w l []) := ⟨_, rfl⟩
      show DSs _ _ _ (updM (updM (updM M l (ndP P w l [])) lw (.lst [])) la (.dk [])) _
      rw [← eM1]
      have hlw : M1 lw = none := by rw [eM1]; exact hlw
      have hla : updM M1 lw (.lst []) la = none := by rw [eM1]; exact hla
      rw [updM_ne nla] at hla
      -- the ways along
      refine dss_cut (fun ρ' M' => ∃ ys kvs, GoalsOf r.y r.h gy (farI r) ys ∧ IK kvs ys.length (fun z => z ∈ ys) ∧ updM (updM M1 la (.dk kvs)) lw (.lst []) = M' ∧ ∃ v13, ρ' = Ex ++ [some (.o lw), some (.o la), v13, none, none]) ?_ ?_
      · refine ds_forL (de_call d__law_goals (hr.mono (by decide)) (da_cons (de_var 5 rfl (da_cons (de_var 3 rfl (da_cons (de_ixT (de_var 1 rfl (de_int (⟨_, _, _, rfl, rfl, rfl, da_cons (de_var 10 rfl (da_nil (⟨r.y, r.h, gy, farI r, rfl, ⟨⟨h1, h2⟩, ⟨y1, y2⟩, ⟨g3, g4⟩, f0, f1⟩, fun ys hys => ⟨_, rfl, fun i ρ' M' => ∃ kvs, IK kvs i (fun z => ∃ i', i' < i ∧ ys[i']? = some z) ∧ updM (updM M1 la (.dk kvs)) lw (.lst []) = M' ∧ ∃ v13, ρ' = Ex ++ [some (.o lw), some (.o la), v13, none, none], ⟨[], ⟨Nat.le_refl _, fun z => ⟨fun y => (by cases y), fun ⟨_, y, _⟩ => absurd y (Nat.not_lt_zero _)⟩⟩, updM_comm nla, none, rfl⟩, ⟨fun i ρ' M' d hi' hd hW => ?_, fun ρ' M' hW => ?_⟩⟩⟩)))⟩))))))))))
        · obtain ⟨p, hp, rfl⟩ := hd
          obtain ⟨kvs, ik, rfl, v13, rfl⟩ := hW
          rw [List.length_map] at hi'
          rw [List.getElem?_map, List.getElem?_eq_getElem hi'] at hp
          cases hp
          have hz : ys[i]? = some ys[i] := List.getElem?_eq_getElem hi'
          have yl := hys.len
          have il := ik.1
          generalize ys[i] = z at *
          refine dg_name 13 (?_) sc__law_times.nd
          refine dss_cons (ds_putK hr.units (de_bl (de_var 12 rfl (de_var 13 rfl (⟨la, kvs, .inl z, rfl, by rw [updM_ne nla]; exact updM_same, rfl, by omega, ?_⟩)))))
          rw [updM_comm (Ne.symm nla), updM_upd]
          refine dss_nil ⟨_, ik.put z fun x => ?_, rfl, _, rfl⟩
          constructor
          · rintro ⟨i', j1, j2⟩
            rcases (by omega : i' < i ∨ i' = i) with v | v
            · exact .inl ⟨i', v, j2⟩
            · rw [v, hz] at j2
              injection j2 with j2
              exact .inr j2.symm
          · rintro (⟨i', j1, j2⟩ | rfl)
            · exact ⟨i', by omega, j2⟩
            · exact ⟨i, by omega, hz⟩
        · rw [List.length_map] at hW
          obtain ⟨kvs, ik, e, v13, rfl⟩ := hW
          refine ⟨ys, kvs, hys, ⟨ik.1, fun z => ?_⟩, e, v13, rfl⟩
          rw [ik.2]
          constructor
          · rintro ⟨i', _, j⟩; exact List.mem_of_getElem? j
          · intro j
            obtain ⟨i', j⟩ := List.getElem?_of_mem j
            exact ⟨i', (List.getElem?_eq_some_iff.mp j).1, j⟩
      rintro ρ' M' ⟨ys, kvs, hys, ik, rfl, v13, rfl⟩
      -- the ways across
      refine dss_cut (fun ρ' M' => ∃ ws, WaysOf r gx gy ws ∧ updM (updM M1 la (.dk kvs)) lw (.lst (ws.map pairD)) = M' ∧ ∃ v13, ρ' = Ex ++ [some (.o lw), some (.o la), v13, none, none]) ?_ ?_
      · refine ds_forL (de_call d__law_goals (hr.mono (by decide)) (da_cons (de_var 4 rfl (da_cons (de_var 2 rfl (da_cons (de_ixT (de_var 1 rfl (de_int (⟨_, _, _, rfl, rfl, rfl, da_cons (de_var 10 rfl (da_nil (⟨r.x, r.w, gx, farI r, rfl, ⟨⟨w1, w2⟩, ⟨x1, x2⟩, ⟨g1, g2⟩, f0, f1⟩, fun xs hxs => ⟨_, rfl, fun i ρ' M' => ∃ ws : List (Int × Int), ws.length ≤ i ∧ (∀ p, p ∈ ws ↔ ∃ i' d, i' < i ∧ xs[i']? = some d ∧ p = (d, r.a) ∧ (d * r.b).fmod r.a = 0 ∧ (d * r.b).fdiv r.a ∈ ys) ∧ updM (updM M1 la (.dk kvs)) lw (.lst (ws.map pairD)) = M' ∧ ∃ v13, ρ' = Ex ++ [some (.o lw), some (.o la), v13, none, none], ⟨[], Nat.le_refl _, fun p => ⟨fun y => (by cases y), fun ⟨_, _, y, _⟩ => absurd y (Nat.not_lt_zero _)⟩, rfl, _, rfl⟩, ⟨fun i ρ' M' d hi' hd hW => ?_, fun ρ' M' hW => ?_⟩⟩⟩)))⟩))))))))))
        · obtain ⟨p, hp, rfl⟩ := hd
          obtain ⟨ws, wl, wm, rfl, v13, rfl⟩ := hW
          rw [List.length_map] at hi'
          rw [List.getElem?_map, List.getElem?_eq_getElem hi'] at hp
          cases hp
          have hz : xs[i]? = some xs[i] := List.getElem?_eq_getElem hi'
          have xl := hxs.len
          have zb := ((hxs.mem _).mp (List.getElem_mem hi')).1
          generalize xs[i] = z at *
          have step : ∀ p : Int × Int, (∃ i' d, i' < i + 1 ∧ xs[i']? = some d ∧ p = (d, r.a) ∧ (d * r.b).fmod r.a = 0 ∧ (d * r.b).fdiv r.a ∈ ys) ↔ p ∈ ws ∨ (p = (z, r.a) ∧ (z * r.b).fmod r.a = 0 ∧ (z * r.b).fdiv r.a ∈ ys) := fun p => by
            rw [wm]
            constructor
            · rintro ⟨i', d, j1, j2, j3⟩
              rcases (by omega : i' < i ∨ i' = i) with v | v
              · exact .inl ⟨i', d, v, j2, j3⟩
              · rw [v, hz] at j2
                injection j2 with j2
                rw [← j2] at j3
                exact .inr j3
            · rintro (⟨i', d, j1, j2, j3⟩ | j)
              · exact ⟨i', d, by omega, j2, j3⟩
              · exact ⟨i, z, by omega, hz, j⟩
          have zr := Int.mul_le_mul (show (z.natAbs : Int) ≤ 3456 by omega) (show (r.b.natAbs : Int) ≤ 6 by omega) (by omega) (by decide)
          rw [← Int.natCast_mul, ← Int.natAbs_mul] at zr
          refine dg_name 13 (?_) sc__law_times.nd
          refine dss_cons (ds_if (DT.imp (Q := fun c M' => updM (updM M1 la (.dk kvs)) lw (.lst (ws.map pairD)) = M' ∧ (c = true ↔ ((z * r.b).fmod r.a = 0 ∧ (z * r.b).fdiv r.a ∈ ys))) ?_ fun c M' hc => ?_))
          · refine DW.dt (dw_and (dt_cmpI ci_eq (de_modN (de_mul (de_var 13 rfl (de_var 7 rfl (⟨_, _, rfl, rfl, cmul_l (by omega) (by omega), de_var 6 rfl (⟨_, _, rfl, rfl, a0, de_int (⟨_, _, rfl, rfl, ite2 (fun hb => dw_and1 (dt_inK hr.units (de_divN (de_mul (de_var 13 rfl (de_var 7 rfl (⟨_, _, rfl, rfl, cmul_l (by omega) (by omega), de_var 6 rfl (⟨_, _, rfl, rfl, ?_, de_var 12 rfl (⟨la, kvs, .inl _, rfl, rfl, by rw [updM_ne nla]; exact updM_same, rfl, ?_⟩)⟩)⟩))))))) (fun hb => ?_)⟩)⟩)⟩)))))))
            · exact ⟨a0, by omega⟩
            · rw [ik.2]
              exact ⟨fun y => ⟨of_decide_eq_true hb, y⟩, fun y => y.2⟩
            · exact ⟨rfl, fun y => (by cases y), fun y => absurd (decide_eq_true y.1) hb⟩
          · obtain ⟨rfl, hc⟩ := hc
            refine ite2 (fun hb => ?_) (fun hb => ?_)
            · have hb := hc.mp hb
              refine dss_cons (ds_expr (de_append (de_var 11 rfl (⟨_, _, rfl, updM_same, de_tup (da_cons (de_var 13 rfl (da_cons (de_var 6 rfl (da_nil (⟨[_, _], rfl, rfl, ⟨_, _, updM_same, rfl, by rw [List.length_map]; omega, ?_⟩⟩))))))⟩))))
              rw [updM_upd]
              refine dss_nil (dss_nil ⟨ws ++ [(z, r.a)], by rw [List.length_append, List.length_singleton]; omega, fun p => ?_, by rw [List.map_append]; rfl, _, rfl⟩)
              rw [step, List.mem_append, List.mem_singleton]
              exact ⟨fun y => y.imp id fun y => ⟨y, hb⟩, fun y => y.imp id fun y => y.1⟩
            · refine dss_nil (dss_nil ⟨ws, by omega, fun p => ?_, rfl, _, rfl⟩)
              rw [step]
              exact ⟨.inl, fun y => y.resolve_right fun y => hb (hc.mpr y.2)⟩
        · rw [List.length_map] at hW
          obtain ⟨ws, wl, wm, e, v13, rfl⟩ := hW
          refine ⟨ws, ways_both k bx a0 hxs hys wl fun p => ?_, e, v13, rfl⟩
          rw [wm]
          constructor
          · rintro ⟨i', d, _, j2, j3⟩
            exact ⟨d, List.mem_of_getElem? j2, j3⟩
          · rintro ⟨d, j2, j3⟩
            obtain ⟨i', j⟩ := List.getElem?_of_mem j2
            exact ⟨i', d, (List.getElem?_eq_some_iff.mp j).1, j, j3⟩
      rintro ρ' M' ⟨ws, hws, rfl, v13, rfl⟩
      refine dss_freeze 11 rfl updM_same ?_
      rw [delM_upd (by rw [updM_ne (Ne.symm nla)]; exact hlw)]
      refine dss_forget la ?_
      rw [delM_upd hla, eM1]
      exact dss_nil (dss_nil ⟨rfl, ws, hws, _, _, rfl⟩)
  rintro ρ' M' ⟨rfl, ws, hws, v12, v13, rfl⟩
  -- the times
  let In : Nat → QM := fun i ρ' M' => ∃ xs, KeysOf xs (fun t => ∃ i' w', i' < i ∧ ws[i']? = some w' ∧ t = frP (rq w'.1 w'.2) ∧ keepT r (rq w'.1 w'.2) = true) ∧ xs.length ≤ i ∧ updM M l (ndP P w l xs) = M' ∧ ∃ v13 v14 v15, ρ' = Ex ++ [some (L (ws.map pairD)), v12, v13, v14, v15]
  have wsl := hws.len
  refine dss_cut (In ws.length) ?_ ?_
  · refine ds_forL (de_var 11 rfl (⟨_, rfl, In, ⟨[], .nil (fun t ⟨_, _, hm, _⟩ => absurd hm (Nat.not_lt_zero _)), Nat.le_refl _, rfl, _, none, none, rfl⟩, ⟨fun i ρ' M' d hi hd hW => ?_, fun ρ' M' hW => by rw [List.length_map] at hW; exact hW⟩⟩))
    obtain ⟨p, hp, rfl⟩ := hd
    obtain ⟨xs, hx, hxl, rfl, v13, v14, v15, rfl⟩ := hW
    rw [List.length_map] at hi
    rw [List.getElem?_map, List.getElem?_eq_getElem hi] at hp
    cases hp
    have hz : ws[i]? = some ws[i] := List.getElem?_eq_getElem hi
    obtain ⟨⟨z1, z2, z3, z4, z5⟩, -⟩ := hws.all _ (List.getElem_mem hi)
    generalize ws[i] = z at *
    obtain ⟨d, v⟩ := z
    have z1 : v ≠ 0 := z1
    have z2 : -6 ≤ v := z2
    have z3 : v ≤ 6 := z3
    have z4 : -4000 ≤ d := z4
    have z5 : d ≤ 4000 := z5
    have step : ∀ t : Int × Int, (∃ i' w', i' < i + 1 ∧ ws[i']? = some w' ∧ t = frP (rq w'.1 w'.2) ∧ keepT r (rq w'.1 w'.2) = true) ↔ (∃ i' w', i' < i ∧ ws[i']? = some w' ∧ t = frP (rq w'.1 w'.2) ∧ keepT r (rq w'.1 w'.2) = true) ∨ (t = frP (rq d v) ∧ keepT r (rq d v) = true) := fun t => by
      constructor
      · rintro ⟨i', w', j1, j2, j3⟩
        rcases (by omega : i' < i ∨ i' = i) with y | y
        · exact .inl ⟨i', w', y, j2, j3⟩
        · rw [y, hz] at j2
          injection j2 with j2
          rw [← j2] at j3
          exact .inr j3
      · rintro (⟨i', w', j1, j2, j3⟩ | j)
        · exact ⟨i', w', by omega, j2, j3⟩
        · exact ⟨i, _, by omega, hz, j⟩
    have tb : -4000 ≤ (rq d v).num ∧ (rq d v).num ≤ 4000 ∧ ((rq d v).den : Int) ≤ 6 := rq_few z1 z2 z3 z4 z5
    refine dg_tup rfl (dgs_cons (dg_name 13 (dgs_cons (dg_name 14 (dgs_nil (?_)) sc__law_times.nd)) sc__law_times.nd)) rfl
    refine dss_cons (ds_set 15 sc__law_times.nd (de_call d__law_low (hr.mono (by decide)) (da_cons (de_var 13 rfl (da_cons (de_var 14 rfl (da_nil (⟨d, v, rfl, ⟨z1, by omega, (fit_small (by omega) (by omega)).f4⟩, ?_⟩))))))))
    refine dss_cons (ds_if (DT.imp (Q := fun c M' => updM M l (ndP P w l xs) = M' ∧ c = keepT r (rq d v)) ?_ fun c M' hc => ?_))
    · refine DW.dt (dw_and (dt_cmpI ci_le (de_int (de_ixT (de_var 15 rfl (de_int (⟨_, _, _, rfl, rfl, rfl, ⟨_, _, rfl, rfl, ite2 (fun hb => dw_and1 (dt_cmpI ci_lt (de_mul (de_ixT (de_var 15 rfl (de_int (⟨_, _, _, rfl, rfl, rfl, de_ixT (de_var 8 rfl (de_int (⟨_, _, _, rfl, rfl, rfl, ⟨_, _, rfl, rfl, cmul_l (by omega) (by omega), de_mul (de_ixT (de_var 8 rfl (de_int (⟨_, _, _, rfl, rfl, rfl, de_ixT (de_var 15 rfl (de_int (⟨_, _, _, rfl, rfl, rfl, ⟨_, _, rfl, rfl, cmul_l (by omega) (by omega), ⟨_, _, rfl, rfl, ⟨rfl, ?_⟩⟩⟩⟩)))⟩))))⟩⟩)))⟩))))))) (fun hb => ⟨rfl, ?_⟩)⟩⟩)))))))
      · unfold keepT; rw [hb, Bool.true_and]
      · unfold keepT; rw [Bool.eq_false_iff.mpr hb, Bool.false_and]
    · obtain ⟨rfl, rfl⟩ := hc
      refine ite2 (fun hb => ?_) (fun hb => ?_)
      · refine dss_cons (ds_putN hr.units (de_bl (de_var 9 rfl (de_var 15 rfl (⟨l, xs, [.num (rq d v).num, .num (rq d v).den], true, rfl, rfl, updM_same, hx.kd, rfl, Nat.le_of_ble_eq_true rfl, by omega, fun rr => ?_⟩)))))
        rw [updM_upd]
        refine dss_nil (dss_nil ⟨_, hx.put (frP (rq d v)) rr _ (fun t => ?_), Nat.le_trans (storedH_len _ _ _ _) (by omega), rfl, _, _, _, rfl⟩)
        rw [step]
        exact ⟨fun y => y.imp id fun y => y.1, fun y => y.imp id fun y => ⟨y, hb⟩⟩
      · refine dss_nil (dss_nil ⟨xs, hx.congr fun t => ?_, by omega, rfl, _, _, _, rfl⟩)
        rw [step]
        exact ⟨fun y => y.resolve_right fun y => hb y.2, .inl⟩
  rintro ρ' M' ⟨xs, hx, hxl, rfl, v13, v14, v15, rfl⟩
  refine dss_cons (ds_ret (DE.forget l (de_sortN (da_cons (de_var 9 rfl (da_nil (⟨l, xs, rfl, updM_same, by omega, hx.pk, fun us h3 h4 => ?_⟩)))) z_sorted)))
  rw [delM_upd hl]
  refine q us ⟨h3, fun t => ?_⟩
  rw [h4 t, hx.iff, ← ways_pairs hws]
  constructor
  · rintro ⟨i', w', _, j2, j3⟩
    exact ⟨w', List.mem_of_getElem? j2, j3⟩
  · rintro ⟨w', j2, j3⟩
    obtain ⟨i', j⟩ := List.getElem?_of_mem j2
    exact ⟨i', w', (List.getElem?_eq_some_iff.mp j).1, j, j3⟩
end
section
variable {P : Program} {w : World} {K : PySem.W.Frag} {mg : Str → Option Value} {base : Heap}
/-! ### _law_pick -/
def sp__law_pick : DSp where
  n := 3
  wp := fun ds M Q => ∃ (ns : List Int) (t : Addr) (ps : List PyData) (M0 : Mem), ds = [L (ns.map .int), .o t, L ps] ∧ (Twn M0 t M ∧ ns.length ≤ 63 ∧ 0 < ps.length ∧ ps.length < 100000) ∧ ∀ (i : Nat) (v : PyData) M', Twn M0 t M' → ps[i]? = some v → Q (.d v) M'
  mono := fun h ⟨a, b, c, d, e, s, q⟩ => ⟨a, b, c, d, e, s, fun i v M' h1 h2 => h _ _ (q i v M' h1 h2)⟩
  len := fun ⟨a, b, c, d, e, s, q⟩ => by rw [e]; rfl
abbrev s__law_pick : Stmt := topS 33
abbrev nm__law_pick : List Str := ["_law_script", "_law_town", "_law_some"]
theorem sc__law_pick : FnScope nm__law_pick ["_law_script", "_law_town", "_law_some"] (defScope s__law_pick) := ⟨rfl, rfl, rfl, by decide +kernel, rfl, by decide +kernel, by decide +kernel⟩
theorem ok__law_pick {f : Addr} {fd : FuncData} (Fd : Fun K "_law_pick" "_law_pick" s__law_pick f fd) (hm : mg "_law_pick" = some (.ref f)) (hb : Binds K fd ["_law_script", "_law_town", "_law_some"] []) (d__law_draw : Def P w K mg base "_law_draw" 1 sp__law_draw) (z_len : mg "len" = none) : Def P w K mg base "_law_pick" 2 sp__law_pick := by
  refine def_ok Fd sc__law_pick hm hb rfl fun cdv A outer s H E hr ds M Q h => ?_
  obtain ⟨ns, t, ps, M0, rfl, ⟨tw, hn, h1, h2⟩, q⟩ := h
  refine dss_cons (ds_ret (de_ixL (de_var 2 rfl (de_call d__law_draw (hr.mono (by decide)) (da_cons (de_var 0 rfl (da_cons (de_var 1 rfl (da_cons (de_len (da_cons (de_var 2 rfl (da_nil (⟨_, _, rfl, rfl, da_nil (⟨_, _, _, M0, rfl, ⟨tw, hn, by omega, by omega⟩, fun v1 M1 tw1 v10 v11 => ?_⟩)⟩)))) z_len))))))))))
  obtain ⟨j, rfl⟩ : ∃ j : Nat, v1 = j := ⟨v1.toNat, by omega⟩
  have hj : j < ps.length := by omega
  have e : ps[j]? = some ps[j] := List.getElem?_eq_getElem hj
  exact ⟨_, _, _, rfl, rfl, atI_nat e, q j _ _ tw1 e⟩
end
section
variable {P : Program} {w : World} {K : PySem.W.Frag} {mg : Str → Option Value} {base : Heap}
def sp_law : DSp where
  n := 1
  wp := fun ds M Q => ∃ (ns : List Int), ds = [L (ns.map .int)] ∧ ns.length ≤ 63 ∧ ∀ M', Q (B true) M'
  mono := fun h ⟨a, e, s, q⟩ => ⟨a, e, s, fun M' => h _ _ (q M')⟩
  len := fun ⟨a, e, s, q⟩ => by rw [e]; rfl
theorem fm_bools (g : PyData → Bool) (l : List PyData) : l.filterMap (fun p => some (.bool (g p))) = (l.map g).map PyData.bool := by
  rw [List.map_map, ← List.filterMap_eq_map]
  rfl
theorem zipD_le (ps qs : List PyData) : (zipD ps qs).length ≤ ps.length := by
  unfold zipD
  rw [List.length_zipWith]
  omega
theorem zip_tail {α : Type} (f : α → PyData) {l : List α} {p : PyData} (h : p ∈ zipD (l.map f) ((l.map f).drop 1)) : ∃ (i : Nat) (x y : α), l[i]? = some x ∧ l[i + 1]? = some y ∧ p = .tuple [f x, f y] := by
  unfold zipD at h
  obtain ⟨i, hi⟩ := List.getElem?_of_mem h
  rw [List.getElem?_zipWith, List.getElem?_map, List.getElem?_drop, List.getElem?_map] at hi
  rw [Nat.add_comm 1 i] at hi
  cases e1 : l[i]? with
  | none => rw [e1] at hi; cases hi
  | some x =>
    cases e2 : l[i + 1]? with
    | none => rw [e1, e2] at hi; cases hi
    | some y =>
      rw [e1, e2] at hi
      exact ⟨i, x, y, e1, e2, (Option.some.inj hi).symm⟩
theorem eqv_pairD (t u : Pt) : PyData.eqv (pairD t) (pairD u) = decide (t = u) := by
  unfold pairD
  rw [eqv_pair, eqv_int, eqv_int]
  by_cases h : t = u
  · subst h; simp
  · rw [decide_eq_false h]
    by_cases h1 : t.1 = u.1
    · have h2 : t.2 ≠ u.2 := fun z => h (Prod.ext h1 z)
      rw [decide_eq_true h1, decide_eq_false h2]; rfl
    · rw [decide_eq_false h1]; rfl
theorem any_pairs (us : List Pt) (t : Pt) : ((us.map pairD).any fun z => PyData.eqv z (pairD t)) = decide (t ∈ us) := by
  rw [List.any_map]
  by_cases h : t ∈ us
  · rw [decide_eq_true h, List.any_eq_true]
    exact ⟨t, h, by show PyData.eqv (pairD t) (pairD t) = true; rw [eqv_pairD]; exact decide_eq_true rfl⟩
  · rw [decide_eq_false h, List.any_eq_false]
    intro u hu z
    have z : PyData.eqv (pairD u) (pairD t) = true := z
    rw [eqv_pairD] at z
    exact h (of_decide_eq_true z ▸ hu)
theorem any_no {g : PyData → Bool} {l : List PyData} (h : ∀ p ∈ l, g p = false) : (l.map g).any id = false := by
  rw [List.any_map, List.any_eq_false]
  intro p hp z
  have := h p hp
  simp [this] at z
theorem sh_pairs (us : List Pt) : Shp 2 (.list (us.map pairD)) := shp_list fun d hd => by
  obtain ⟨t, _, rfl⟩ := List.mem_map.mp hd
  exact shp_pair (k := 0) (shp_int _) (shp_int _)
theorem fr_pairs (l : List Rat) : l.map fr = (l.map frP).map pairD := by
  rw [List.map_map]
  rfl
theorem TimesOf.first2 {r : Run} (k : r.Ok) {gx gy : Int} {us : List Rat} (h : TimesOf r gx gy us) {d : PyData} (hd : FirstOf r gx gy d) : (us.map fr ++ [.none])[0]? = some d := by
  obtain ⟨hu, -, ha, hb⟩ := unit_facts k
  obtain ⟨T, T0, -, hT, -⟩ := ticks k hu ha hb
  obtain ⟨T, rfl⟩ : ∃ n : Nat, T = n := ⟨T.toNat, by omega⟩
  have vw := vis_walk k hu ha hb (T := T) (by omega) hT gx gy
  cases hd with
  | non hn =>
    cases us with
    | nil => rfl
    | cons a l =>
      obtain ⟨h0, -, h2⟩ := (h.mem a).mp List.mem_cons_self
      exact absurd h2 (hn a h0)
  | at_ t h0 _ h1 h2 =>
    obtain ⟨m, hm, q⟩ := vw.mp ⟨t, h0, h1⟩
    have mP : rq m (unitOf r) < perQ r := by
      rw [← hT]
      exact (rq_lt hu).mpr (by omega)
    have tP : t < perQ r := rat_le_lt (h2 _ ((rq_nonneg hu).mpr (by omega)) q) mP
    have tm := (h.mem t).mpr ⟨h0, tP, h1⟩
    cases us with
    | nil => cases tm
    | cons a l =>
      obtain ⟨a0, -, a2⟩ := (h.mem a).mp List.mem_cons_self
      have l1 := h2 a a0 a2
      have : a ≤ t := by
        rcases List.mem_cons.mp tm with z | z
        · rw [z]; exact Rat.le_refl
        · exact Rat.le_of_lt ((List.pairwise_cons.mp h.asc).1 t z)
      rw [Rat.le_antisymm l1 this]
      rfl
theorem at_begin {r : Run} (k : r.Ok) : AtP r r.x r.y 0 := by
  have foldQ_in : ∀ {x m : Int}, 0 ≤ x → x ≤ m → 0 < m → foldQ (x : Rat) m = x := fun {x m} h0 h1 hm => by
    have e : (x : Rat) = rq x 1 := by unfold rq; rw [show ((1 : Int) : Rat) = 1 from rfl]; grind
    have e2 := foldQ_rq x (d := 1) (m := m) (by decide) hm
    rw [← e, Int.mul_one] at e2
    rw [e2]
    unfold foldI
    rw [Int.emod_eq_of_lt h0 (by omega), if_pos h1, ← e]
  unfold AtP posX posY
  rw [Rat.mul_zero, Rat.mul_zero, Rat.add_zero, Rat.add_zero]
  exact ⟨foldQ_in k.x1 k.x2 (by have := k.w1; omega), foldQ_in k.y1 k.y2 (by have := k.h1; omega)⟩
def geP : PyData → Bool
  | .tuple [.tuple [.int a, .int b], .tuple [.int c, .int d]] => decide (c * b ≤ a * d)
  | _ => false
theorem sh_pts (us : List (Int × Int)) : Shp 2 (.list (us.map pairD)) := shp_list fun d hd => by
  obtain ⟨t, _, rfl⟩ := List.mem_map.mp hd
  exact shp_pair (k := 0) (shp_int _) (shp_int _)
theorem eqv_nilL (ps : List PyData) : PyData.eqv (.list ps) (.list []) = ps.isEmpty := by cases ps <;> rfl
theorem times_vis {r : Run} (k : r.Ok) {gx gy : Int} {vs : List Rat} (h : TimesOf r gx gy vs) : vs = [] ↔ ¬ ∃ τ : Rat, 0 ≤ τ ∧ AtP r gx gy τ := by
  obtain ⟨hu, -, ha, hb⟩ := unit_facts k
  obtain ⟨T, T0, -, hT, -⟩ := ticks k hu ha hb
  obtain ⟨T, rfl⟩ : ∃ n : Nat, T = n := ⟨T.toNat, by omega⟩
  have vw := vis_walk k hu ha hb (T := T) (by omega) hT gx gy
  constructor
  · intro e x
    obtain ⟨m, hm, q⟩ := vw.mp x
    have mP : rq m (unitOf r) < perQ r := by
      rw [← hT]
      exact (rq_lt hu).mpr (by omega)
    have := (h.mem _).mpr ⟨(rq_nonneg hu).mpr (by omega), mP, q⟩
    rw [e] at this
    cases this
  · intro n
    refine List.eq_nil_iff_forall_not_mem.mpr fun t ht => ?_
    obtain ⟨h0, -, h2⟩ := (h.mem t).mp ht
    exact n ⟨t, h0, h2⟩
abbrev s_law : Stmt := topS 39
abbrev nm_law : List Str := ["_law_script", "_law_town", "_law_run_here", "_law_seen", "_law_k", "_law_spot", "_law_due", "_law_told", "_law_first", "_law_one", "_law_two"]
theorem sc_law : FnScope nm_law ["_law_script"] (defScope s_law) := ⟨rfl, rfl, rfl, by decide +kernel, rfl, by decide +kernel, by decide +kernel⟩
theorem ok_law {f : Addr} {fd : FuncData} (Fd : Fun K "law" "law" s_law f fd) (d__law_run : Def P w K mg base "_law_run" 2 sp__law_run) (d_visited : Def P w K mg base "visited" 5 sp_visited) (d_first_at : Def P w K mg base "first_at" 5 sp_first_at) (d__law_draw : Def P w K mg base "_law_draw" 1 sp__law_draw) (d__law_pick : Def P w K mg base "_law_pick" 2 sp__law_pick) (d__law_times : Def P w K mg base "_law_times" 6 sp__law_times) (d_times_at : Def P w K mg base "times_at" 5 sp_times_at) (z_range : mg "range" = none) (z_any : mg "any" = none) (z_sorted : mg "sorted" = none) (z_zip : mg "zip" = none) : FnOk P w K mg base CX0 7 f fd ["_law_script"] (toSp K sp_law) := by
  refine def_okF Fd sc_law rfl fun cdv A outer s H E hr ds M0 Q h => ?_
  obtain ⟨ns, rfl, hn, q⟩ := h
  -- _law_town
  refine dss_cons (ds_set 1 sc_law.nd (de_lst (da_cons (de_int (da_cons (de_int (da_nil (⟨[_, _], rfl, rfl, fun t ht => ?_⟩))))))))
  have tw0 : Twn M0 t (updM M0 t (.lst [.int 0, .int 0])) := ⟨0, 0, rfl, by decide, by decide⟩
  -- _law_run_here = 
  refine dss_cons (ds_set 2 sc_law.nd (de_call d__law_run (hr.mono (by decide)) (da_cons (de_var 0 rfl (da_cons (de_var 1 rfl (da_cons (de_int (da_cons (de_int (da_nil (⟨_, _, _, _, M0, rfl, ⟨by assumption, hn, by omega, by omega, by omega, by omega⟩, fun r M1 tw1 k bd => ?_⟩))))))))))))
  have k' := k
  obtain ⟨w1, w2, h1, h2, x1, x2, y1, y2, a1, a2, b1, b2, ab⟩ := k'
  refine dss_cons (ds_set 3 sc_law.nd (de_call d_visited (hr.mono (by decide)) (da_cons (de_var 2 rfl (da_nil (⟨r, rfl, k, fun vs hv => ?_⟩))))))
  have vl := hv.len k
  have vne : 0 < vs.length := by
    have := (hv.mem (r.x, r.y)).mpr ⟨0, Rat.le_refl, at_begin k⟩
    cases vs with
    | nil => cases this
    | cons _ _ => exact Nat.succ_pos _
  let In : Nat → QM := fun _ ρ' M' => Twn M0 t M' ∧ ∃ v4 v5 v6 v7 v8 v9 v10, ρ' = [some (L (ns.map .int)), some (.o t), some (.d r.data), some (L (vs.map pairD)), v4, v5, v6, v7, v8, v9, v10]
  refine dss_cut (In 6) ?_ ?_
  · refine ds_forR1 (da_cons (de_int (da_nil (⟨_, rfl, by decide, by decide, In, ⟨tw1, none, none, none, none, none, none, none, rfl⟩, ⟨fun i ρ' M' d hi hd hW => ?_, fun ρ' M' hW => hW⟩⟩)))) z_range
    obtain ⟨tw, v4, v5, v6, v7, v8, v9, v10, rfl⟩ := hW
    subst hd
    refine dg_name 4 (?_) sc_law.nd
    -- _law_spot = (
    refine dss_cons (ds_set 5 sc_law.nd (de_tup (da_cons (de_call d__law_draw (hr.mono (by decide)) (da_cons (de_var 0 rfl (da_cons (de_var 1 rfl (da_cons (de_add (de_ixT (de_var 2 rfl (de_int (⟨_, _, _, rfl, rfl, rfl, de_int (⟨_, _, rfl, rfl, da_nil (⟨_, _, _, M0, rfl, ⟨tw, hn, by omega, by omega⟩, fun gx M2 tw2 gx0 gx1 => da_cons (de_call d__law_draw (hr.mono (by decide)) (da_cons (de_var 0 rfl (da_cons (de_var 1 rfl (da_cons (de_add (de_ixT (de_var 2 rfl (de_int (⟨_, _, _, rfl, rfl, rfl, de_int (⟨_, _, rfl, rfl, da_nil (⟨_, _, _, M0, rfl, ⟨tw2, hn, by omega, by omega⟩, fun gy M3 tw3 gy0 gy1 => da_nil (⟨[_, _], rfl, rfl, ?_⟩)⟩)⟩)⟩)))))))))))⟩)⟩)⟩))))))))))))))
    refine dss_cut (fun ρ' M' => Twn M0 t M' ∧ ∃ gx gy : Int, InBox r gx gy ∧ ρ' = [some (L (ns.map .int)), some (.o t), some (.d r.data), some (L (vs.map pairD)), some (I (0 + (i : Int))), some (DL.T [.int gx, .int gy]), v6, v7, v8, v9, v10]) (ds_if (dt_cmpI ci_lt (de_var 4 rfl (de_int (⟨_, _, rfl, rfl, ite2 (fun hb => ?_) (fun hb => ?_)⟩))))) ?_
    · refine dss_cons (ds_set 5 sc_law.nd (de_call d__law_pick (hr.mono (by decide)) (da_cons (de_var 0 rfl (da_cons (de_var 1 rfl (da_cons (de_var 3 rfl (da_nil (⟨_, _, _, M0, rfl, ⟨tw3, hn, by rw [List.length_map]; exact vne, by rw [List.length_map]; omega⟩, fun j z M4 tw4 hz => ?_⟩))))))))))
      rw [List.getElem?_map] at hz
      obtain ⟨p, hp, rfl⟩ := Option.map_eq_some_iff.mp hz
      obtain ⟨τ, _, a⟩ := (hv.mem p).mp (List.mem_of_getElem? hp)
      exact dss_nil ⟨tw4, p.1, p.2, atP_in k a, rfl⟩
    · exact dss_nil ⟨tw3, gx, gy, ⟨gx0, by omega, gy0, by omega⟩, rfl⟩
    rintro ρ' M' ⟨tw5, gx, gy, bx, rfl⟩
    refine dss_cons (ds_par 6 7 sc_law.nd (da_cons (de_call d__law_times (hr.mono (by decide)) (da_cons (de_var 2 rfl (da_cons (de_var 5 rfl (da_nil (⟨r, gx, gy, rfl, k, bx, fun us hus => da_cons (de_call d_times_at (hr.mono (by decide)) (da_cons (de_var 2 rfl (da_cons (de_var 5 rfl (da_nil (⟨r, gx, gy, rfl, k, bx, fun ts hts => da_nil (⟨_, _, rfl, ?_⟩)⟩)))))))⟩)))))))))
    have nil := hus.nil hts
    have vis := times_vis k hts
    have tl := hts.len k bx
    have seen : ((vs.map pairD).any fun z => PyData.eqv z (.tuple [.int gx, .int gy])) = !us.isEmpty := by
      rw [show PyData.tuple [.int gx, .int gy] = pairD (gx, gy) from rfl, any_pairs]
      by_cases e : us = []
      · rw [e, decide_eq_false fun z => (vis.mp (nil.mp e)) ((hv.mem _).mp z)]; rfl
      · rw [decide_eq_true ((hv.mem _).mpr (Classical.not_not.mp fun z => e (nil.mpr (vis.mpr z))))]
        cases us with
        | nil => exact absurd rfl e
        | cons _ _ => rfl
    have em : (us.map pairD).isEmpty = us.isEmpty := by cases us <;> rfl
    refine dss_guard (DW.dt (dw_or (dt_neD hr.units (de_sortP (da_cons (de_var 7 rfl (da_nil (⟨ts.map frP, by rw [fr_pairs], fun ps s1 s2 => de_var 6 rfl (⟨_, _, rfl, rfl, (sh_pts _).shaped (by decide), (sh_pts _).shaped (by decide), iteN (by rw [hus.sorted hts s1 s2, eqv_self _ (sh_pts _).1]; rfl) (dw_or1 (dt_neB (de_neD hr.units (de_var 6 rfl (de_lstD (da_nil (⟨[], rfl, rfl, ⟨_, _, rfl, rfl, (sh_pts _).shaped (by decide), rfl, de_inLD (u65 hr) (de_var 5 rfl (de_var 3 rfl (⟨_, _, rfl, rfl, rfl, (sh_pts _).shaped (by decide), ⟨_, _, rfl, rfl, ?_, rfl⟩⟩)))⟩⟩)))))))⟩)⟩)))) z_sorted)))) ?_
    · rw [seen, eqv_nilL, em]; simp
    refine dss_cons (ds_set 8 sc_law.nd (de_call d_first_at (hr.mono (by decide)) (da_cons (de_var 2 rfl (da_cons (de_var 5 rfl (da_nil (⟨r, gx, gy, rfl, k, bx, fun fd hfd => ?_⟩))))))))
    have fst := hts.first2 k hfd
    have fnone : isNone fd = us.isEmpty := by
      by_cases e : us = []
      · rw [e]
        cases hfd with
        | non _ => rfl
        | at_ t t0 _ a _ => exact absurd ⟨t, t0, a⟩ (vis.mp (nil.mp e))
      · cases hfd with
        | non n => exact absurd (nil.mpr (vis.mpr fun ⟨τ, τ0, a⟩ => n τ τ0 a)) e
        | at_ t t0 _ a _ =>
          cases us with
          | nil => exact absurd rfl e
          | cons _ _ => rfl
    refine dss_guard (DW.dt (dw_or (dt_neB (de_isN (de_var 8 rfl (⟨_, rfl, de_eqD hr.units (de_var 6 rfl (de_lstD (da_nil (⟨[], rfl, rfl, ⟨_, _, rfl, rfl, (sh_pts _).shaped (by decide), rfl, ⟨_, _, rfl, rfl, iteN ?_ (dw_or1 (DW.dt (dw_and (dt_isnotN (de_var 8 rfl (⟨_, rfl, ite2 (fun hb => ?_) (fun hb => ⟨by simpa using hb, rfl⟩)⟩))))))⟩⟩⟩))))⟩)))))) ?_
    · rw [fnone, eqv_nilL, em]; simp
    · refine dw_and1 (dt_neD hr.units (de_var 8 rfl (de_ixL (de_var 7 rfl (de_int (⟨_, _, fd, rfl, rfl, ?_, ⟨_, _, rfl, rfl, hfd.shp.shaped (by decide), hfd.shp.shaped (by decide), ⟨by rw [eqv_self _ hfd.shp.1]; rfl, rfl⟩⟩⟩))))))
      refine atI_nat (j := 0) ?_
      cases ts with
      | nil =>
        have := nil.mpr rfl
        rw [fnone, this] at hb
        cases hb
      | cons a l => exact fst
    refine dss_guard (DT.of_val (de_any (da_cons (de_lcI (.two 9 10) [("_law_one", 9), ("_law_two", 10)] nm_law (defScope s_law) sc_law.nd (by decide +kernel) (fun _ _ _ _ _ => pg_tup rfl (pgs_cons (pg_name sc_law.nd rfl (Or.inl rfl)) (pgs_cons (pg_name sc_law.nd rfl (Or.inl rfl)) pgs_nil))) (by decide) (di_zip (da_cons (de_var 7 rfl (da_cons (de_slL (de_var 7 rfl (⟨_, rfl, do_some (de_int (⟨_, rfl, do_none (da_nil (⟨_, _, .inl rfl, ⟨fun p => some (.bool (geP p)), ?_, ?_, da_nil (⟨_, by rw [fm_bools], ⟨_, rfl, ⟨?_, rfl⟩⟩⟩)⟩⟩))⟩))⟩)))))) z_zip))) z_any)) ?_
    · refine Nat.le_trans (zipD_le _ _) ?_
      rw [List.length_map]
      omega
    · intro p hp
      rw [show ((1 : Int)) = ((1 : Nat) : Int) from rfl, cutL_from] at hp
      obtain ⟨i, a, b, g1, g2, rfl⟩ := zip_tail fr hp
      have ad := ((hts.mem a).mp (List.mem_of_getElem? g1))
      have bd := ((hts.mem b).mp (List.mem_of_getElem? g2))
      obtain ⟨hu, hu2, ha, hb'⟩ := unit_facts k
      have dn : ∀ z : Rat, AtP r gx gy z → z.den ≤ 36 := fun z hz => by
        obtain ⟨m, em⟩ := at_tick k hu ha hb' hz
        have := Int.le_of_dvd hu (rq_den_dvd m hu)
        rw [em]
        omega
      have d1 := dn a ad.2.2
      have d2 := dn b bd.2.2
      exact ⟨_, true, rfl, fun M2 hM2 => ⟨fun _ _ _ _ _ => dts_nil ⟨rfl, rfl⟩, iteT ⟨_, rfl, fun _ _ _ _ _ => de_cmpI ci_ge (de_mul (de_ixT (de_var 9 rfl (de_int (⟨_, _, _, rfl, rfl, rfl, de_ixT (de_var 10 rfl (de_int (⟨_, _, _, rfl, rfl, rfl, ⟨_, _, rfl, rfl, cmul_r (by omega) (by omega), de_mul (de_ixT (de_var 10 rfl (de_int (⟨_, _, _, rfl, rfl, rfl, de_ixT (de_var 9 rfl (de_int (⟨_, _, _, rfl, rfl, rfl, ⟨_, _, rfl, rfl, cmul_r (by omega) (by omega), ⟨_, _, rfl, rfl, ⟨rfl, rfl⟩⟩⟩⟩)))⟩))))⟩⟩)))⟩)))))⟩⟩⟩
    · refine any_no fun p hp => ?_
      rw [show ((1 : Int)) = ((1 : Nat) : Int) from rfl, cutL_from] at hp
      obtain ⟨i, a, b, g1, g2, rfl⟩ := zip_tail fr hp
      obtain ⟨l1, e1⟩ := List.getElem?_eq_some_iff.mp g1
      obtain ⟨l2, e2⟩ := List.getElem?_eq_some_iff.mp g2
      have := List.pairwise_iff_getElem.mp hts.asc i (i + 1) l1 l2 (by omega)
      rw [e1, e2] at this
      exact decide_eq_false (Int.not_le.mpr ((Rat.lt_iff _ _).mp this))
    exact dss_nil ⟨tw5, _, _, _, _, _, _, _, rfl⟩
  rintro ρ' M' ⟨tw, v4, v5, v6, v7, v8, v9, v10, rfl⟩
  exact dss_cons (ds_ret (de_bl (q _)))
end
open PyProof.Rows in
theorem all_mk {l : PySem.W.OpenLaw} {w : World} {K : PySem.W.Frag} {h : Heap} {mg : Str → Option Value} {fa f_common_of f_is_count f_is_run f_need_run f_lowest f_fold f_place_at f_least_multiple f_period_of f_period f__law_draw f__law_gcd f__law_low f__law_run f_is_less f_whole_solution f_earliest f_least f_times_for f_need_spot f_first_at f_visited f_plus f_turns f_ascending f_times_at f__law_goals f__law_times f__law_pick f_law : Addr} (X : K.In h) (G : h.Ns mainGlobals mg) (hfa : mg "law" = some (.ref fa))
    {od_common_of an_common_of od_is_count an_is_count od_is_run an_is_run od_need_run an_need_run od_lowest an_lowest od_fold an_fold od_place_at an_place_at od_least_multiple an_least_multiple od_period_of an_period_of od_period an_period od__law_draw an__law_draw od__law_gcd an__law_gcd od__law_low an__law_low od__law_run an__law_run od_is_less an_is_less od_whole_solution an_whole_solution od_earliest an_earliest od_least an_least od_times_for an_times_for od_need_spot an_need_spot od_first_at an_first_at od_visited an_visited od_plus an_plus od_turns an_turns od_ascending an_ascending od_times_at an_times_at od__law_goals an__law_goals od__law_times an__law_times od__law_pick an__law_pick od_law an_law : Option Addr} {sl_common_of sl_is_count sl_is_run sl_need_run sl_lowest sl_fold sl_place_at sl_least_multiple sl_period_of sl_period sl__law_draw sl__law_gcd sl__law_low sl__law_run sl_is_less sl_whole_solution sl_earliest sl_least sl_times_for sl_need_spot sl_first_at sl_visited sl_plus sl_turns sl_ascending sl_times_at sl__law_goals sl__law_times sl__law_pick sl_law : Array (Option Value)} {oc_common_of kV_common_of dc_common_of pm_common_of cd_common_of ct_common_of oc_is_count kV_is_count dc_is_count pm_is_count cd_is_count ct_is_count oc_is_run kV_is_run dc_is_run pm_is_run cd_is_run ct_is_run oc_need_run kV_need_run dc_need_run pm_need_run cd_need_run ct_need_run oc_lowest kV_lowest dc_lowest pm_lowest cd_lowest ct_lowest oc_fold kV_fold dc_fold pm_fold cd_fold ct_fold oc_place_at kV_place_at dc_place_at pm_place_at cd_place_at ct_place_at oc_least_multiple kV_least_multiple dc_least_multiple pm_least_multiple cd_least_multiple ct_least_multiple oc_period_of kV_period_of dc_period_of pm_period_of cd_period_of ct_period_of oc_period kV_period dc_period pm_period cd_period ct_period oc__law_draw kV__law_draw dc__law_draw pm__law_draw cd__law_draw ct__law_draw oc__law_gcd kV__law_gcd dc__law_gcd pm__law_gcd cd__law_gcd ct__law_gcd oc__law_low kV__law_low dc__law_low pm__law_low cd__law_low ct__law_low oc__law_run kV__law_run dc__law_run pm__law_run cd__law_run ct__law_run oc_is_less kV_is_less dc_is_less pm_is_less cd_is_less ct_is_less oc_whole_solution kV_whole_solution dc_whole_solution pm_whole_solution cd_whole_solution ct_whole_solution oc_earliest kV_earliest dc_earliest pm_earliest cd_earliest ct_earliest oc_least kV_least dc_least pm_least cd_least ct_least oc_times_for kV_times_for dc_times_for pm_times_for cd_times_for ct_times_for oc_need_spot kV_need_spot dc_need_spot pm_need_spot cd_need_spot ct_need_spot oc_first_at kV_first_at dc_first_at pm_first_at cd_first_at ct_first_at oc_visited kV_visited dc_visited pm_visited cd_visited ct_visited oc_plus kV_plus dc_plus pm_plus cd_plus ct_plus oc_turns kV_turns dc_turns pm_turns cd_turns ct_turns oc_ascending kV_ascending dc_ascending pm_ascending cd_ascending ct_ascending oc_times_at kV_times_at dc_times_at pm_times_at cd_times_at ct_times_at oc__law_goals kV__law_goals dc__law_goals pm__law_goals cd__law_goals ct__law_goals oc__law_times kV__law_times dc__law_times pm__law_times cd__law_times ct__law_times oc__law_pick kV__law_pick dc__law_pick pm__law_pick cd__law_pick ct__law_pick oc_law kV_law dc_law pm_law cd_law ct_law : Value} {t_SIDE t_SPEED : Tok}
    (a_common_of : PySem.W.nsIn K mainGlobals "common_of" = some (some (.ref f_common_of))) (l_common_of : K.lookup f_common_of = some ⟨oc_common_of, od_common_of, .func (PySem.W.fnOf "common_of" "common_of" (defArgs s_common_of) (defBody s_common_of) (defScope s_common_of) .none kV_common_of dc_common_of pm_common_of an_common_of cd_common_of ct_common_of), sl_common_of⟩) (c_common_of : PySem.W.codeIn K cd_common_of "common_of" = true) (k_common_of : PySem.W.keepIn K (.ref f_common_of) = true)
    (a_is_count : PySem.W.nsIn K mainGlobals "is_count" = some (some (.ref f_is_count))) (l_is_count : K.lookup f_is_count = some ⟨oc_is_count, od_is_count, .func (PySem.W.fnOf "is_count" "is_count" (defArgs s_is_count) (defBody s_is_count) (defScope s_is_count) .none kV_is_count dc_is_count pm_is_count an_is_count cd_is_count ct_is_count), sl_is_count⟩) (c_is_count : PySem.W.codeIn K cd_is_count "is_count" = true) (k_is_count : PySem.W.keepIn K (.ref f_is_count) = true)
    (a_is_run : PySem.W.nsIn K mainGlobals "is_run" = some (some (.ref f_is_run))) (l_is_run : K.lookup f_is_run = some ⟨oc_is_run, od_is_run, .func (PySem.W.fnOf "is_run" "is_run" (defArgs s_is_run) (defBody s_is_run) (defScope s_is_run) .none kV_is_run dc_is_run pm_is_run an_is_run cd_is_run ct_is_run), sl_is_run⟩) (c_is_run : PySem.W.codeIn K cd_is_run "is_run" = true) (k_is_run : PySem.W.keepIn K (.ref f_is_run) = true)
    (a_need_run : PySem.W.nsIn K mainGlobals "need_run" = some (some (.ref f_need_run))) (l_need_run : K.lookup f_need_run = some ⟨oc_need_run, od_need_run, .func (PySem.W.fnOf "need_run" "need_run" (defArgs s_need_run) (defBody s_need_run) (defScope s_need_run) .none kV_need_run dc_need_run pm_need_run an_need_run cd_need_run ct_need_run), sl_need_run⟩) (c_need_run : PySem.W.codeIn K cd_need_run "need_run" = true) (k_need_run : PySem.W.keepIn K (.ref f_need_run) = true)
    (a_lowest : PySem.W.nsIn K mainGlobals "lowest" = some (some (.ref f_lowest))) (l_lowest : K.lookup f_lowest = some ⟨oc_lowest, od_lowest, .func (PySem.W.fnOf "lowest" "lowest" (defArgs s_lowest) (defBody s_lowest) (defScope s_lowest) .none kV_lowest dc_lowest pm_lowest an_lowest cd_lowest ct_lowest), sl_lowest⟩) (c_lowest : PySem.W.codeIn K cd_lowest "lowest" = true) (k_lowest : PySem.W.keepIn K (.ref f_lowest) = true)
    (a_fold : PySem.W.nsIn K mainGlobals "fold" = some (some (.ref f_fold))) (l_fold : K.lookup f_fold = some ⟨oc_fold, od_fold, .func (PySem.W.fnOf "fold" "fold" (defArgs s_fold) (defBody s_fold) (defScope s_fold) .none kV_fold dc_fold pm_fold an_fold cd_fold ct_fold), sl_fold⟩) (c_fold : PySem.W.codeIn K cd_fold "fold" = true) (k_fold : PySem.W.keepIn K (.ref f_fold) = true)
    (a_place_at : PySem.W.nsIn K mainGlobals "place_at" = some (some (.ref f_place_at))) (l_place_at : K.lookup f_place_at = some ⟨oc_place_at, od_place_at, .func (PySem.W.fnOf "place_at" "place_at" (defArgs s_place_at) (defBody s_place_at) (defScope s_place_at) .none kV_place_at dc_place_at pm_place_at an_place_at cd_place_at ct_place_at), sl_place_at⟩) (c_place_at : PySem.W.codeIn K cd_place_at "place_at" = true) (k_place_at : PySem.W.keepIn K (.ref f_place_at) = true)
    (a_least_multiple : PySem.W.nsIn K mainGlobals "least_multiple" = some (some (.ref f_least_multiple))) (l_least_multiple : K.lookup f_least_multiple = some ⟨oc_least_multiple, od_least_multiple, .func (PySem.W.fnOf "least_multiple" "least_multiple" (defArgs s_least_multiple) (defBody s_least_multiple) (defScope s_least_multiple) .none kV_least_multiple dc_least_multiple pm_least_multiple an_least_multiple cd_least_multiple ct_least_multiple), sl_least_multiple⟩) (c_least_multiple : PySem.W.codeIn K cd_least_multiple "least_multiple" = true) (k_least_multiple : PySem.W.keepIn K (.ref f_least_multiple) = true)
    (a_period_of : PySem.W.nsIn K mainGlobals "period_of" = some (some (.ref f_period_of))) (l_period_of : K.lookup f_period_of = some ⟨oc_period_of, od_period_of, .func (PySem.W.fnOf "period_of" "period_of" (defArgs s_period_of) (defBody s_period_of) (defScope s_period_of) .none kV_period_of dc_period_of pm_period_of an_period_of cd_period_of ct_period_of), sl_period_of⟩) (c_period_of : PySem.W.codeIn K cd_period_of "period_of" = true) (k_period_of : PySem.W.keepIn K (.ref f_period_of) = true)
    (a_period : PySem.W.nsIn K mainGlobals "period" = some (some (.ref f_period))) (l_period : K.lookup f_period = some ⟨oc_period, od_period, .func (PySem.W.fnOf "period" "period" (defArgs s_period) (defBody s_period) (defScope s_period) .none kV_period dc_period pm_period an_period cd_period ct_period), sl_period⟩) (c_period : PySem.W.codeIn K cd_period "period" = true) (k_period : PySem.W.keepIn K (.ref f_period) = true)
    (a__law_draw : PySem.W.nsIn K mainGlobals "_law_draw" = some (some (.ref f__law_draw))) (l__law_draw : K.lookup f__law_draw = some ⟨oc__law_draw, od__law_draw, .func (PySem.W.fnOf "_law_draw" "_law_draw" (defArgs s__law_draw) (defBody s__law_draw) (defScope s__law_draw) .none kV__law_draw dc__law_draw pm__law_draw an__law_draw cd__law_draw ct__law_draw), sl__law_draw⟩) (c__law_draw : PySem.W.codeIn K cd__law_draw "_law_draw" = true) (k__law_draw : PySem.W.keepIn K (.ref f__law_draw) = true)
    (a__law_gcd : PySem.W.nsIn K mainGlobals "_law_gcd" = some (some (.ref f__law_gcd))) (l__law_gcd : K.lookup f__law_gcd = some ⟨oc__law_gcd, od__law_gcd, .func (PySem.W.fnOf "_law_gcd" "_law_gcd" (defArgs s__law_gcd) (defBody s__law_gcd) (defScope s__law_gcd) .none kV__law_gcd dc__law_gcd pm__law_gcd an__law_gcd cd__law_gcd ct__law_gcd), sl__law_gcd⟩) (c__law_gcd : PySem.W.codeIn K cd__law_gcd "_law_gcd" = true) (k__law_gcd : PySem.W.keepIn K (.ref f__law_gcd) = true)
    (a__law_low : PySem.W.nsIn K mainGlobals "_law_low" = some (some (.ref f__law_low))) (l__law_low : K.lookup f__law_low = some ⟨oc__law_low, od__law_low, .func (PySem.W.fnOf "_law_low" "_law_low" (defArgs s__law_low) (defBody s__law_low) (defScope s__law_low) .none kV__law_low dc__law_low pm__law_low an__law_low cd__law_low ct__law_low), sl__law_low⟩) (c__law_low : PySem.W.codeIn K cd__law_low "_law_low" = true) (k__law_low : PySem.W.keepIn K (.ref f__law_low) = true)
    (a__law_run : PySem.W.nsIn K mainGlobals "_law_run" = some (some (.ref f__law_run))) (l__law_run : K.lookup f__law_run = some ⟨oc__law_run, od__law_run, .func (PySem.W.fnOf "_law_run" "_law_run" (defArgs s__law_run) (defBody s__law_run) (defScope s__law_run) .none kV__law_run dc__law_run pm__law_run an__law_run cd__law_run ct__law_run), sl__law_run⟩) (c__law_run : PySem.W.codeIn K cd__law_run "_law_run" = true) (k__law_run : PySem.W.keepIn K (.ref f__law_run) = true)
    (a_is_less : PySem.W.nsIn K mainGlobals "is_less" = some (some (.ref f_is_less))) (l_is_less : K.lookup f_is_less = some ⟨oc_is_less, od_is_less, .func (PySem.W.fnOf "is_less" "is_less" (defArgs s_is_less) (defBody s_is_less) (defScope s_is_less) .none kV_is_less dc_is_less pm_is_less an_is_less cd_is_less ct_is_less), sl_is_less⟩) (c_is_less : PySem.W.codeIn K cd_is_less "is_less" = true) (k_is_less : PySem.W.keepIn K (.ref f_is_less) = true)
    (a_whole_solution : PySem.W.nsIn K mainGlobals "whole_solution" = some (some (.ref f_whole_solution))) (l_whole_solution : K.lookup f_whole_solution = some ⟨oc_whole_solution, od_whole_solution, .func (PySem.W.fnOf "whole_solution" "whole_solution" (defArgs s_whole_solution) (defBody s_whole_solution) (defScope s_whole_solution) .none kV_whole_solution dc_whole_solution pm_whole_solution an_whole_solution cd_whole_solution ct_whole_solution), sl_whole_solution⟩) (c_whole_solution : PySem.W.codeIn K cd_whole_solution "whole_solution" = true) (k_whole_solution : PySem.W.keepIn K (.ref f_whole_solution) = true)
    (a_earliest : PySem.W.nsIn K mainGlobals "earliest" = some (some (.ref f_earliest))) (l_earliest : K.lookup f_earliest = some ⟨oc_earliest, od_earliest, .func (PySem.W.fnOf "earliest" "earliest" (defArgs s_earliest) (defBody s_earliest) (defScope s_earliest) .none kV_earliest dc_earliest pm_earliest an_earliest cd_earliest ct_earliest), sl_earliest⟩) (c_earliest : PySem.W.codeIn K cd_earliest "earliest" = true) (k_earliest : PySem.W.keepIn K (.ref f_earliest) = true)
    (a_least : PySem.W.nsIn K mainGlobals "least" = some (some (.ref f_least))) (l_least : K.lookup f_least = some ⟨oc_least, od_least, .func (PySem.W.fnOf "least" "least" (defArgs s_least) (defBody s_least) (defScope s_least) .none kV_least dc_least pm_least an_least cd_least ct_least), sl_least⟩) (c_least : PySem.W.codeIn K cd_least "least" = true) (k_least : PySem.W.keepIn K (.ref f_least) = true)
    (a_times_for : PySem.W.nsIn K mainGlobals "times_for" = some (some (.ref f_times_for))) (l_times_for : K.lookup f_times_for = some ⟨oc_times_for, od_times_for, .func (PySem.W.fnOf "times_for" "times_for" (defArgs s_times_for) (defBody s_times_for) (defScope s_times_for) .none kV_times_for dc_times_for pm_times_for an_times_for cd_times_for ct_times_for), sl_times_for⟩) (c_times_for : PySem.W.codeIn K cd_times_for "times_for" = true) (k_times_for : PySem.W.keepIn K (.ref f_times_for) = true)
    (a_need_spot : PySem.W.nsIn K mainGlobals "need_spot" = some (some (.ref f_need_spot))) (l_need_spot : K.lookup f_need_spot = some ⟨oc_need_spot, od_need_spot, .func (PySem.W.fnOf "need_spot" "need_spot" (defArgs s_need_spot) (defBody s_need_spot) (defScope s_need_spot) .none kV_need_spot dc_need_spot pm_need_spot an_need_spot cd_need_spot ct_need_spot), sl_need_spot⟩) (c_need_spot : PySem.W.codeIn K cd_need_spot "need_spot" = true) (k_need_spot : PySem.W.keepIn K (.ref f_need_spot) = true)
    (a_first_at : PySem.W.nsIn K mainGlobals "first_at" = some (some (.ref f_first_at))) (l_first_at : K.lookup f_first_at = some ⟨oc_first_at, od_first_at, .func (PySem.W.fnOf "first_at" "first_at" (defArgs s_first_at) (defBody s_first_at) (defScope s_first_at) .none kV_first_at dc_first_at pm_first_at an_first_at cd_first_at ct_first_at), sl_first_at⟩) (c_first_at : PySem.W.codeIn K cd_first_at "first_at" = true) (k_first_at : PySem.W.keepIn K (.ref f_first_at) = true)
    (a_visited : PySem.W.nsIn K mainGlobals "visited" = some (some (.ref f_visited))) (l_visited : K.lookup f_visited = some ⟨oc_visited, od_visited, .func (PySem.W.fnOf "visited" "visited" (defArgs s_visited) (defBody s_visited) (defScope s_visited) .none kV_visited dc_visited pm_visited an_visited cd_visited ct_visited), sl_visited⟩) (c_visited : PySem.W.codeIn K cd_visited "visited" = true) (k_visited : PySem.W.keepIn K (.ref f_visited) = true)
    (a_plus : PySem.W.nsIn K mainGlobals "plus" = some (some (.ref f_plus))) (l_plus : K.lookup f_plus = some ⟨oc_plus, od_plus, .func (PySem.W.fnOf "plus" "plus" (defArgs s_plus) (defBody s_plus) (defScope s_plus) .none kV_plus dc_plus pm_plus an_plus cd_plus ct_plus), sl_plus⟩) (c_plus : PySem.W.codeIn K cd_plus "plus" = true) (k_plus : PySem.W.keepIn K (.ref f_plus) = true)
    (a_turns : PySem.W.nsIn K mainGlobals "turns" = some (some (.ref f_turns))) (l_turns : K.lookup f_turns = some ⟨oc_turns, od_turns, .func (PySem.W.fnOf "turns" "turns" (defArgs s_turns) (defBody s_turns) (defScope s_turns) .none kV_turns dc_turns pm_turns an_turns cd_turns ct_turns), sl_turns⟩) (c_turns : PySem.W.codeIn K cd_turns "turns" = true) (k_turns : PySem.W.keepIn K (.ref f_turns) = true)
    (a_ascending : PySem.W.nsIn K mainGlobals "ascending" = some (some (.ref f_ascending))) (l_ascending : K.lookup f_ascending = some ⟨oc_ascending, od_ascending, .func (PySem.W.fnOf "ascending" "ascending" (defArgs s_ascending) (defBody s_ascending) (defScope s_ascending) .none kV_ascending dc_ascending pm_ascending an_ascending cd_ascending ct_ascending), sl_ascending⟩) (c_ascending : PySem.W.codeIn K cd_ascending "ascending" = true) (k_ascending : PySem.W.keepIn K (.ref f_ascending) = true)
    (a_times_at : PySem.W.nsIn K mainGlobals "times_at" = some (some (.ref f_times_at))) (l_times_at : K.lookup f_times_at = some ⟨oc_times_at, od_times_at, .func (PySem.W.fnOf "times_at" "times_at" (defArgs s_times_at) (defBody s_times_at) (defScope s_times_at) .none kV_times_at dc_times_at pm_times_at an_times_at cd_times_at ct_times_at), sl_times_at⟩) (c_times_at : PySem.W.codeIn K cd_times_at "times_at" = true) (k_times_at : PySem.W.keepIn K (.ref f_times_at) = true)
    (a__law_goals : PySem.W.nsIn K mainGlobals "_law_goals" = some (some (.ref f__law_goals))) (l__law_goals : K.lookup f__law_goals = some ⟨oc__law_goals, od__law_goals, .func (PySem.W.fnOf "_law_goals" "_law_goals" (defArgs s__law_goals) (defBody s__law_goals) (defScope s__law_goals) .none kV__law_goals dc__law_goals pm__law_goals an__law_goals cd__law_goals ct__law_goals), sl__law_goals⟩) (c__law_goals : PySem.W.codeIn K cd__law_goals "_law_goals" = true) (k__law_goals : PySem.W.keepIn K (.ref f__law_goals) = true)
    (a__law_times : PySem.W.nsIn K mainGlobals "_law_times" = some (some (.ref f__law_times))) (l__law_times : K.lookup f__law_times = some ⟨oc__law_times, od__law_times, .func (PySem.W.fnOf "_law_times" "_law_times" (defArgs s__law_times) (defBody s__law_times) (defScope s__law_times) .none kV__law_times dc__law_times pm__law_times an__law_times cd__law_times ct__law_times), sl__law_times⟩) (c__law_times : PySem.W.codeIn K cd__law_times "_law_times" = true) (k__law_times : PySem.W.keepIn K (.ref f__law_times) = true)
    (a__law_pick : PySem.W.nsIn K mainGlobals "_law_pick" = some (some (.ref f__law_pick))) (l__law_pick : K.lookup f__law_pick = some ⟨oc__law_pick, od__law_pick, .func (PySem.W.fnOf "_law_pick" "_law_pick" (defArgs s__law_pick) (defBody s__law_pick) (defScope s__law_pick) .none kV__law_pick dc__law_pick pm__law_pick an__law_pick cd__law_pick ct__law_pick), sl__law_pick⟩) (c__law_pick : PySem.W.codeIn K cd__law_pick "_law_pick" = true) (k__law_pick : PySem.W.keepIn K (.ref f__law_pick) = true)
    (a_law : PySem.W.nsIn K mainGlobals "law" = some (some (.ref f_law))) (l_law : K.lookup f_law = some ⟨oc_law, od_law, .func (PySem.W.fnOf "law" "law" (defArgs s_law) (defBody s_law) (defScope s_law) .none kV_law dc_law pm_law an_law cd_law ct_law), sl_law⟩) (c_law : PySem.W.codeIn K cd_law "law" = true) (k_law : PySem.W.keepIn K (.ref f_law) = true)
    (b_abs : PySem.W.nsIn K mainGlobals "abs" = some none)
    (b_any : PySem.W.nsIn K mainGlobals "any" = some none)
    (b_bool : PySem.W.nsIn K mainGlobals "bool" = some none)
    (b_int : PySem.W.nsIn K mainGlobals "int" = some none)
    (b_isinstance : PySem.W.nsIn K mainGlobals "isinstance" = some none)
    (b_len : PySem.W.nsIn K mainGlobals "len" = some none)
    (b_max : PySem.W.nsIn K mainGlobals "max" = some none)
    (b_min : PySem.W.nsIn K mainGlobals "min" = some none)
    (b_range : PySem.W.nsIn K mainGlobals "range" = some none)
    (b_set : PySem.W.nsIn K mainGlobals "set" = some none)
    (b_sorted : PySem.W.nsIn K mainGlobals "sorted" = some none)
    (b_tuple : PySem.W.nsIn K mainGlobals "tuple" = some none)
    (b_zip : PySem.W.nsIn K mainGlobals "zip" = some none)
    (g_SIDE : PySem.W.nsIn K mainGlobals "SIDE" = some (some (.int 12 t_SIDE)))
    (g_SPEED : PySem.W.nsIn K mainGlobals "SPEED" = some (some (.int 6 t_SPEED)))
    : ∃ fd : FuncData, (∀ (s : Shared) (v : Value), BindsTo s fd ⟨[v], []⟩ [("_law_script", v)]) ∧ ∀ base : Heap, K.In base → base.Ns mainGlobals mg → FnOk l.prog w K mg base CX0 7 fa fd ["_law_script"] (toSp K sp_law) := by
  have e := hfa.symm.trans (PySem.W.mg_of X G a_law)
  cases e
  refine ⟨PySem.W.fnOf "law" "law" (defArgs s_law) (defBody s_law) (defScope s_law) .none kV_law dc_law pm_law an_law cd_law ct_law, fun s v => .of_eq rfl, fun base _ _ => ?_⟩
  have D_common_of : Def l.prog w K mg base "common_of" 1 sp_common_of := ok_common_of (Fd := fun_mk (st := s_common_of) l_common_of c_common_of k_common_of) (hm := PySem.W.mg_of X G a_common_of) (hb := (fun_mk (st := s_common_of) l_common_of c_common_of k_common_of).binds (ps := ["one", "two"]) fun _ _ _ _ _ _ us hl => match us, hl with | [_, _], _ => rfl) (z_abs := PySem.W.mg_none_of X G b_abs)
  have D_is_count : Def l.prog w K mg base "is_count" 1 sp_is_count := ok_is_count (Fd := fun_mk (st := s_is_count) l_is_count c_is_count k_is_count) (hm := PySem.W.mg_of X G a_is_count) (hb := (fun_mk (st := s_is_count) l_is_count c_is_count k_is_count).binds (ps := ["value", "least", "most"]) fun _ _ _ _ _ _ us hl => match us, hl with | [_, _, _], _ => rfl) (z_isinstance := PySem.W.mg_none_of X G b_isinstance) (z_int := PySem.W.mg_none_of X G b_int) (z_bool := PySem.W.mg_none_of X G b_bool)
  have D_is_run : Def l.prog w K mg base "is_run" 2 sp_is_run := ok_is_run (Fd := fun_mk (st := s_is_run) l_is_run c_is_run k_is_run) (hm := PySem.W.mg_of X G a_is_run) (hb := (fun_mk (st := s_is_run) l_is_run c_is_run k_is_run).binds (ps := ["value"]) fun _ _ _ _ _ _ us hl => match us, hl with | [_], _ => rfl) (z_isinstance := PySem.W.mg_none_of X G b_isinstance) (z_tuple := PySem.W.mg_none_of X G b_tuple) (z_len := PySem.W.mg_none_of X G b_len) (c_SIDE := PySem.W.mg_of X G g_SIDE) (c_SPEED := PySem.W.mg_of X G g_SPEED) (d_is_count := D_is_count)
  have D_need_run : Def l.prog w K mg base "need_run" 3 sp_need_run := ok_need_run (Fd := fun_mk (st := s_need_run) l_need_run c_need_run k_need_run) (hm := PySem.W.mg_of X G a_need_run) (hb := (fun_mk (st := s_need_run) l_need_run c_need_run k_need_run).binds (ps := ["value"]) fun _ _ _ _ _ _ us hl => match us, hl with | [_], _ => rfl) (d_is_run := D_is_run)
  have D_lowest : Def l.prog w K mg base "lowest" 2 sp_lowest := ok_lowest (Fd := fun_mk (st := s_lowest) l_lowest c_lowest k_lowest) (hm := PySem.W.mg_of X G a_lowest) (hb := (fun_mk (st := s_lowest) l_lowest c_lowest k_lowest).binds (ps := ["numerator", "denominator"]) fun _ _ _ _ _ _ us hl => match us, hl with | [_, _], _ => rfl) (d_common_of := D_common_of)
  have D_fold : Def l.prog w K mg base "fold" 3 sp_fold := ok_fold (Fd := fun_mk (st := s_fold) l_fold c_fold k_fold) (hm := PySem.W.mg_of X G a_fold) (hb := (fun_mk (st := s_fold) l_fold c_fold k_fold).binds (ps := ["value", "side"]) fun _ _ _ _ _ _ us hl => match us, hl with | [_, _], _ => rfl) (z_min := PySem.W.mg_none_of X G b_min) (d_lowest := D_lowest)
  have D_place_at : Def l.prog w K mg base "place_at" 4 sp_place_at := ok_place_at (Fd := fun_mk (st := s_place_at) l_place_at c_place_at k_place_at) (hm := PySem.W.mg_of X G a_place_at) (hb := (fun_mk (st := s_place_at) l_place_at c_place_at k_place_at).binds (ps := ["run", "time"]) fun _ _ _ _ _ _ us hl => match us, hl with | [_, _], _ => rfl) (d_fold := D_fold)
  have D_least_multiple : Def l.prog w K mg base "least_multiple" 3 sp_least_multiple := ok_least_multiple (Fd := fun_mk (st := s_least_multiple) l_least_multiple c_least_multiple k_least_multiple) (hm := PySem.W.mg_of X G a_least_multiple) (hb := (fun_mk (st := s_least_multiple) l_least_multiple c_least_multiple k_least_multiple).binds (ps := ["one", "two"]) fun _ _ _ _ _ _ us hl => match us, hl with | [_, _], _ => rfl) (d_common_of := D_common_of) (d_lowest := D_lowest)
  have D_period_of : Def l.prog w K mg base "period_of" 4 sp_period_of := ok_period_of (Fd := fun_mk (st := s_period_of) l_period_of c_period_of k_period_of) (hm := PySem.W.mg_of X G a_period_of) (hb := (fun_mk (st := s_period_of) l_period_of c_period_of k_period_of).binds (ps := ["run"]) fun _ _ _ _ _ _ us hl => match us, hl with | [_], _ => rfl) (z_abs := PySem.W.mg_none_of X G b_abs) (z_len := PySem.W.mg_none_of X G b_len) (d_least_multiple := D_least_multiple) (d_lowest := D_lowest)
  have D_period : Def l.prog w K mg base "period" 5 sp_period := ok_period (Fd := fun_mk (st := s_period) l_period c_period k_period) (hm := PySem.W.mg_of X G a_period) (hb := (fun_mk (st := s_period) l_period c_period k_period).binds (ps := ["run"]) fun _ _ _ _ _ _ us hl => match us, hl with | [_], _ => rfl) (d_need_run := D_need_run) (d_period_of := D_period_of)
  have D__law_draw : Def l.prog w K mg base "_law_draw" 1 sp__law_draw := ok__law_draw (Fd := fun_mk (st := s__law_draw) l__law_draw c__law_draw k__law_draw) (hm := PySem.W.mg_of X G a__law_draw) (hb := (fun_mk (st := s__law_draw) l__law_draw c__law_draw k__law_draw).binds (ps := ["_law_script", "_law_town", "_law_many"]) fun _ _ _ _ _ _ us hl => match us, hl with | [_, _, _], _ => rfl) (z_len := PySem.W.mg_none_of X G b_len)
  have D__law_gcd : Def l.prog w K mg base "_law_gcd" 1 sp__law_gcd := ok__law_gcd (Fd := fun_mk (st := s__law_gcd) l__law_gcd c__law_gcd k__law_gcd) (hm := PySem.W.mg_of X G a__law_gcd) (hb := (fun_mk (st := s__law_gcd) l__law_gcd c__law_gcd k__law_gcd).binds (ps := ["_law_one", "_law_two"]) fun _ _ _ _ _ _ us hl => match us, hl with | [_, _], _ => rfl) (z_abs := PySem.W.mg_none_of X G b_abs)
  have D__law_low : Def l.prog w K mg base "_law_low" 2 sp__law_low := ok__law_low (Fd := fun_mk (st := s__law_low) l__law_low c__law_low k__law_low) (hm := PySem.W.mg_of X G a__law_low) (hb := (fun_mk (st := s__law_low) l__law_low c__law_low k__law_low).binds (ps := ["_law_top", "_law_bottom"]) fun _ _ _ _ _ _ us hl => match us, hl with | [_, _], _ => rfl) (d__law_gcd := D__law_gcd)
  have D__law_run : Def l.prog w K mg base "_law_run" 2 sp__law_run := ok__law_run (Fd := fun_mk (st := s__law_run) l__law_run c__law_run k__law_run) (hm := PySem.W.mg_of X G a__law_run) (hb := (fun_mk (st := s__law_run) l__law_run c__law_run k__law_run).binds (ps := ["_law_script", "_law_town", "_law_side", "_law_speed"]) fun _ _ _ _ _ _ us hl => match us, hl with | [_, _, _, _], _ => rfl) (d__law_draw := D__law_draw)
  have D_is_less : Def l.prog w K mg base "is_less" 1 sp_is_less := ok_is_less (Fd := fun_mk (st := s_is_less) l_is_less c_is_less k_is_less) (hm := PySem.W.mg_of X G a_is_less) (hb := (fun_mk (st := s_is_less) l_is_less c_is_less k_is_less).binds (ps := ["one", "two"]) fun _ _ _ _ _ _ us hl => match us, hl with | [_, _], _ => rfl)
  have D_whole_solution : Def l.prog w K mg base "whole_solution" 2 sp_whole_solution := ok_whole_solution (Fd := fun_mk (st := s_whole_solution) l_whole_solution c_whole_solution k_whole_solution) (hm := PySem.W.mg_of X G a_whole_solution) (hb := (fun_mk (st := s_whole_solution) l_whole_solution c_whole_solution k_whole_solution).binds (ps := ["factor", "rest", "modulus", "start"]) fun _ _ _ _ _ _ us hl => match us, hl with | [_, _, _, _], _ => rfl) (z_range := PySem.W.mg_none_of X G b_range) (d_common_of := D_common_of)
  have D_earliest : Def l.prog w K mg base "earliest" 3 sp_earliest := ok_earliest (Fd := fun_mk (st := s_earliest) l_earliest c_earliest k_earliest) (hm := PySem.W.mg_of X G a_earliest) (hb := (fun_mk (st := s_earliest) l_earliest c_earliest k_earliest).binds (ps := ["one", "two"]) fun _ _ _ _ _ _ us hl => match us, hl with | [_, _], _ => rfl) (d_whole_solution := D_whole_solution) (d_lowest := D_lowest)
  have D_least : Def l.prog w K mg base "least" 2 sp_least := ok_least (Fd := fun_mk (st := s_least) l_least c_least k_least) (hm := PySem.W.mg_of X G a_least) (hb := (fun_mk (st := s_least) l_least c_least k_least).binds (ps := ["times"]) fun _ _ _ _ _ _ us hl => match us, hl with | [_], _ => rfl) (d_is_less := D_is_less)
  have D_times_for : Def l.prog w K mg base "times_for" 4 sp_times_for := ok_times_for (Fd := fun_mk (st := s_times_for) l_times_for c_times_for k_times_for) (hm := PySem.W.mg_of X G a_times_for) (hb := (fun_mk (st := s_times_for) l_times_for c_times_for k_times_for).binds (ps := ["run", "spot"]) fun _ _ _ _ _ _ us hl => match us, hl with | [_, _], _ => rfl) (z_set := PySem.W.mg_none_of X G b_set) (z_sorted := PySem.W.mg_none_of X G b_sorted) (d_earliest := D_earliest)
  have D_need_spot : Def l.prog w K mg base "need_spot" 2 sp_need_spot := ok_need_spot (Fd := fun_mk (st := s_need_spot) l_need_spot c_need_spot k_need_spot) (hm := PySem.W.mg_of X G a_need_spot) (hb := (fun_mk (st := s_need_spot) l_need_spot c_need_spot k_need_spot).binds (ps := ["run", "value"]) fun _ _ _ _ _ _ us hl => match us, hl with | [_, _], _ => rfl) (z_isinstance := PySem.W.mg_none_of X G b_isinstance) (z_len := PySem.W.mg_none_of X G b_len) (z_tuple := PySem.W.mg_none_of X G b_tuple) (d_is_count := D_is_count)
  have D_first_at : Def l.prog w K mg base "first_at" 5 sp_first_at := ok_first_at (Fd := fun_mk (st := s_first_at) l_first_at c_first_at k_first_at) (hm := PySem.W.mg_of X G a_first_at) (hb := (fun_mk (st := s_first_at) l_first_at c_first_at k_first_at).binds (ps := ["run", "spot"]) fun _ _ _ _ _ _ us hl => match us, hl with | [_, _], _ => rfl) (d_need_run := D_need_run) (d_need_spot := D_need_spot) (d_least := D_least) (d_times_for := D_times_for)
  have D_visited : Def l.prog w K mg base "visited" 5 sp_visited := ok_visited (Fd := fun_mk (st := s_visited) l_visited c_visited k_visited) (hm := PySem.W.mg_of X G a_visited) (hb := (fun_mk (st := s_visited) l_visited c_visited k_visited).binds (ps := ["run"]) fun _ _ _ _ _ _ us hl => match us, hl with | [_], _ => rfl) (z_range := PySem.W.mg_none_of X G b_range) (z_sorted := PySem.W.mg_none_of X G b_sorted) (d_common_of := D_common_of) (d_need_run := D_need_run) (d_period_of := D_period_of) (d_place_at := D_place_at)
  have D_plus : Def l.prog w K mg base "plus" 3 sp_plus := ok_plus (Fd := fun_mk (st := s_plus) l_plus c_plus k_plus) (hm := PySem.W.mg_of X G a_plus) (hb := (fun_mk (st := s_plus) l_plus c_plus k_plus).binds (ps := ["one", "two"]) fun _ _ _ _ _ _ us hl => match us, hl with | [_, _], _ => rfl) (d_lowest := D_lowest)
  have D_turns : Def l.prog w K mg base "turns" 4 sp_turns := ok_turns (Fd := fun_mk (st := s_turns) l_turns c_turns k_turns) (hm := PySem.W.mg_of X G a_turns) (hb := (fun_mk (st := s_turns) l_turns c_turns k_turns).binds (ps := ["start", "speed", "side", "goal", "whole"]) fun _ _ _ _ _ _ us hl => match us, hl with | [_, _, _, _, _], _ => rfl) (z_abs := PySem.W.mg_none_of X G b_abs) (z_set := PySem.W.mg_none_of X G b_set) (z_sorted := PySem.W.mg_none_of X G b_sorted) (d_is_less := D_is_less) (d_lowest := D_lowest) (d_plus := D_plus)
  have D_ascending : Def l.prog w K mg base "ascending" 2 sp_ascending := ok_ascending (Fd := fun_mk (st := s_ascending) l_ascending c_ascending k_ascending) (hm := PySem.W.mg_of X G a_ascending) (hb := (fun_mk (st := s_ascending) l_ascending c_ascending k_ascending).binds (ps := ["times"]) fun _ _ _ _ _ _ us hl => match us, hl with | [_], _ => rfl) (z_len := PySem.W.mg_none_of X G b_len) (z_set := PySem.W.mg_none_of X G b_set) (z_sorted := PySem.W.mg_none_of X G b_sorted) (d_is_less := D_is_less)
  have D_times_at : Def l.prog w K mg base "times_at" 5 sp_times_at := ok_times_at (Fd := fun_mk (st := s_times_at) l_times_at c_times_at k_times_at) (hm := PySem.W.mg_of X G a_times_at) (hb := (fun_mk (st := s_times_at) l_times_at c_times_at k_times_at).binds (ps := ["run", "spot"]) fun _ _ _ _ _ _ us hl => match us, hl with | [_, _], _ => rfl) (d_ascending := D_ascending) (d_need_run := D_need_run) (d_need_spot := D_need_spot) (d_period_of := D_period_of) (d_place_at := D_place_at) (d_turns := D_turns)
  have D__law_goals : Def l.prog w K mg base "_law_goals" 1 sp__law_goals := ok__law_goals (Fd := fun_mk (st := s__law_goals) l__law_goals c__law_goals k__law_goals) (hm := PySem.W.mg_of X G a__law_goals) (hb := (fun_mk (st := s__law_goals) l__law_goals c__law_goals k__law_goals).binds (ps := ["_law_start", "_law_side", "_law_spot", "_law_whole"]) fun _ _ _ _ _ _ us hl => match us, hl with | [_, _, _, _], _ => rfl) (z_abs := PySem.W.mg_none_of X G b_abs) (z_range := PySem.W.mg_none_of X G b_range) (z_set := PySem.W.mg_none_of X G b_set) (z_sorted := PySem.W.mg_none_of X G b_sorted)
  have D__law_times : Def l.prog w K mg base "_law_times" 6 sp__law_times := ok__law_times (Fd := fun_mk (st := s__law_times) l__law_times c__law_times k__law_times) (hm := PySem.W.mg_of X G a__law_times) (hb := (fun_mk (st := s__law_times) l__law_times c__law_times k__law_times).binds (ps := ["_law_run_here", "_law_spot"]) fun _ _ _ _ _ _ us hl => match us, hl with | [_, _], _ => rfl) (z_abs := PySem.W.mg_none_of X G b_abs) (z_max := PySem.W.mg_none_of X G b_max) (z_sorted := PySem.W.mg_none_of X G b_sorted) (d__law_goals := D__law_goals) (d__law_low := D__law_low) (d_period := D_period)
  have D__law_pick : Def l.prog w K mg base "_law_pick" 2 sp__law_pick := ok__law_pick (Fd := fun_mk (st := s__law_pick) l__law_pick c__law_pick k__law_pick) (hm := PySem.W.mg_of X G a__law_pick) (hb := (fun_mk (st := s__law_pick) l__law_pick c__law_pick k__law_pick).binds (ps := ["_law_script", "_law_town", "_law_some"]) fun _ _ _ _ _ _ us hl => match us, hl with | [_, _, _], _ => rfl) (z_len := PySem.W.mg_none_of X G b_len) (d__law_draw := D__law_draw)
  exact ok_law (Fd := fun_mk (st := s_law) l_law c_law k_law) (z_range := PySem.W.mg_none_of X G b_range) (z_any := PySem.W.mg_none_of X G b_any) (z_sorted := PySem.W.mg_none_of X G b_sorted) (z_zip := PySem.W.mg_none_of X G b_zip) (d__law_run := D__law_run) (d_visited := D_visited) (d_first_at := D_first_at) (d__law_draw := D__law_draw) (d__law_pick := D__law_pick) (d__law_times := D__law_times) (d_times_at := D_times_at)
theorem walk {l : PySem.W.OpenLaw} {q : Program} {loose : List Str} {XP : (Str → Option Value) → Heap → Prop} {YP : World → Heap → Prop} {d : DefRec} {K : Params → PySem.W.Frag} (hn : l.most = some 63) (hdf : d.params.defaults = [])
    (hY : ∀ (w : World) (h : Heap), YP w h → (K w.params).In h)
    (F : ∀ (w : World) (mg : Str → Option Value) (fa : Addr) (h : Heap), (K w.params).In h → h.Ns mainGlobals mg → mg d.name = some (.ref fa) →
      ∃ fd : FuncData, (∀ (s : Shared) (u : Value), BindsTo s fd ⟨[u], []⟩ [("_law_script", u)]) ∧ ∀ base : Heap, (K w.params).In base → base.Ns mainGlobals mg → FnOk l.prog w (K w.params) mg base CX0 7 fa fd ["_law_script"] (toSp (K w.params) sp_law)) :
    PySem.W.WalkO q loose XP YP l.row.toRowW d [] (fun f vs => PySem.call f vs) :=
  L2.walk_of (n := 63) (k := 7) (x := "_law_script") (CX := fun _ => CX0) (sp := fun w => toSp (K w.params) sp_law) hn (by decide) hdf ⟨rfl, by decide, by decide⟩ hY F (fun _ H a ns hl _ hS => sp_start (S := sp_law) (fun ns hl => ⟨ns, rfl, hl, fun _ => rfl⟩) H a ns hl hS) fun _ _ _ _ _ z => z
end BP

open PySem PySem.W PyProof.Rows in
set_option maxRecDepth 100000 in
set_option maxHeartbeats 0 in
theorem PySem.Challenge.cw_bouncepaths_k21_whole_turned_speeds_holds : PySem.Challenge.rw_bouncepaths_k21_whole_turned_speeds.Holds := by
  w_on; o_law; k_head; (case hw => w_witness2)
  k_fill
  refine BP.walk (l := PySem.Challenge.rw_bouncepaths_k21_whole_turned_speeds) rfl rfl (fun w h Y => PySem.W.kIn_of Y) ?F
  case F =>
    intro w mg fa h KX G hmg
    refine' BP.all_mk KX G hmg ?a_common_of ?l_common_of ?c_common_of ?k_common_of ?a_is_count ?l_is_count ?c_is_count ?k_is_count ?a_is_run ?l_is_run ?c_is_run ?k_is_run ?a_need_run ?l_need_run ?c_need_run ?k_need_run ?a_lowest ?l_lowest ?c_lowest ?k_lowest ?a_fold ?l_fold ?c_fold ?k_fold ?a_place_at ?l_place_at ?c_place_at ?k_place_at ?a_least_multiple ?l_least_multiple ?c_least_multiple ?k_least_multiple ?a_period_of ?l_period_of ?c_period_of ?k_period_of ?a_period ?l_period ?c_period ?k_period ?a__law_draw ?l__law_draw ?c__law_draw ?k__law_draw ?a__law_gcd ?l__law_gcd ?c__law_gcd ?k__law_gcd ?a__law_low ?l__law_low ?c__law_low ?k__law_low ?a__law_run ?l__law_run ?c__law_run ?k__law_run ?a_is_less ?l_is_less ?c_is_less ?k_is_less ?a_whole_solution ?l_whole_solution ?c_whole_solution ?k_whole_solution ?a_earliest ?l_earliest ?c_earliest ?k_earliest ?a_least ?l_least ?c_least ?k_least ?a_times_for ?l_times_for ?c_times_for ?k_times_for ?a_need_spot ?l_need_spot ?c_need_spot ?k_need_spot ?a_first_at ?l_first_at ?c_first_at ?k_first_at ?a_visited ?l_visited ?c_visited ?k_visited ?a_plus ?l_plus ?c_plus ?k_plus ?a_turns ?l_turns ?c_turns ?k_turns ?a_ascending ?l_ascending ?c_ascending ?k_ascending ?a_times_at ?l_times_at ?c_times_at ?k_times_at ?a__law_goals ?l__law_goals ?c__law_goals ?k__law_goals ?a__law_times ?l__law_times ?c__law_times ?k__law_times ?a__law_pick ?l__law_pick ?c__law_pick ?k__law_pick ?a_law ?l_law ?c_law ?k_law ?b_abs ?b_any ?b_bool ?b_int ?b_isinstance ?b_len ?b_max ?b_min ?b_range ?b_set ?b_sorted ?b_tuple ?b_zip ?g_SIDE ?g_SPEED
    (case a_common_of => k_is)
    (case l_common_of => k_is)
    (case c_common_of => k_is)
    (case k_common_of => k_is)
    (case a_is_count => k_is)
    (case l_is_count => k_is)
    (case c_is_count => k_is)
    (case k_is_count => k_is)
    (case a_is_run => k_is)
    (case l_is_run => k_is)
    (case c_is_run => k_is)
    (case k_is_run => k_is)
    (case a_need_run => k_is)
    (case l_need_run => k_is)
    (case c_need_run => k_is)
    (case k_need_run => k_is)
    (case a_lowest => k_is)
    (case l_lowest => k_is)
    (case c_lowest => k_is)
    (case k_lowest => k_is)
    (case a_fold => k_is)
    (case l_fold => k_is)
    (case c_fold => k_is)
    (case k_fold => k_is)
    (case a_place_at => k_is)
    (case l_place_at => k_is)
    (case c_place_at => k_is)
    (case k_place_at => k_is)
    (case a_least_multiple => k_is)
    (case l_least_multiple => k_is)
    (case c_least_multiple => k_is)
    (case k_least_multiple => k_is)
    (case a_period_of => k_is)
    (case l_period_of => k_is)
    (case c_period_of => k_is)
    (case k_period_of => k_is)
    (case a_period => k_is)
    (case l_period => k_is)
    (case c_period => k_is)
    (case k_period => k_is)
    (case a__law_draw => k_is)
    (case l__law_draw => k_is)
    (case c__law_draw => k_is)
    (case k__law_draw => k_is)
    (case a__law_gcd => k_is)
    (case l__law_gcd => k_is)
    (case c__law_gcd => k_is)
    (case k__law_gcd => k_is)
    (case a__law_low => k_is)
    (case l__law_low => k_is)
    (case c__law_low => k_is)
    (case k__law_low => k_is)
    (case a__law_run => k_is)
    (case l__law_run => k_is)
    (case c__law_run => k_is)
    (case k__law_run => k_is)
    (case a_is_less => k_is)
    (case l_is_less => k_is)
    (case c_is_less => k_is)
    (case k_is_less => k_is)
    (case a_whole_solution => k_is)
    (case l_whole_solution => k_is)
    (case c_whole_solution => k_is)
    (case k_whole_solution => k_is)
    (case a_earliest => k_is)
    (case l_earliest => k_is)
    (case c_earliest => k_is)
    (case k_earliest => k_is)
    (case a_least => k_is)
    (case l_least => k_is)
    (case c_least => k_is)
    (case k_least => k_is)
    (case a_times_for => k_is)
    (case l_times_for => k_is)
    (case c_times_for => k_is)
    (case k_times_for => k_is)
    (case a_need_spot => k_is)
    (case l_need_spot => k_is)
    (case c_need_spot => k_is)
    (case k_need_spot => k_is)
    (case a_first_at => k_is)
    (case l_first_at => k_is)
    (case c_first_at => k_is)
    (case k_first_at => k_is)
    (case a_visited => k_is)
    (case l_visited => k_is)
    (case c_visited => k_is)
    (case k_visited => k_is)
    (case a_plus => k_is)
    (case l_plus => k_is)
    (case c_plus => k_is)
    (case k_plus => k_is)
    (case a_turns => k_is)
    (case l_turns => k_is)
    (case c_turns => k_is)
    (case k_turns => k_is)
    (case a_ascending => k_is)
    (case l_ascending => k_is)
    (case c_ascending => k_is)
    (case k_ascending => k_is)
    (case a_times_at => k_is)
    (case l_times_at => k_is)
    (case c_times_at => k_is)
    (case k_times_at => k_is)
    (case a__law_goals => k_is)
    (case l__law_goals => k_is)
    (case c__law_goals => k_is)
    (case k__law_goals => k_is)
    (case a__law_times => k_is)
    (case l__law_times => k_is)
    (case c__law_times => k_is)
    (case k__law_times => k_is)
    (case a__law_pick => k_is)
    (case l__law_pick => k_is)
    (case c__law_pick => k_is)
    (case k__law_pick => k_is)
    (case a_law => k_is)
    (case l_law => k_is)
    (case c_law => k_is)
    (case k_law => k_is)
    (case b_abs => k_is)
    (case b_any => k_is)
    (case b_bool => k_is)
    (case b_int => k_is)
    (case b_isinstance => k_is)
    (case b_len => k_is)
    (case b_max => k_is)
    (case b_min => k_is)
    (case b_range => k_is)
    (case b_set => k_is)
    (case b_sorted => k_is)
    (case b_tuple => k_is)
    (case b_zip => k_is)
    (case g_SIDE => k_is)
    (case g_SPEED => k_is)
