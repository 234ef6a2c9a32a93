import PyProof.Rows.All
import Wide.All
import OpenK.AllK
import Wide.FinOn
import HandS.ForMost
import HandS.Wide
import HandS.Style
import HandS.IsInst
import HandS.TupAny
import HandS.Deep
import HandS.Walk
import HandS.Zip
import HandS.Strs
import HandS.SetFor
import HandS.SortRule
import HandS.TupSets
import HandS.TupLen
import HandS.More
import PyProof.Rows.StrCountLaw
import KE.KDictKeyed
import HandS.New0
import PyProof.InstSpecial
import HandS.HotCalls
import HandS.ExcIs
import KE.DataFind
import PySem.Challenge.RW_bouncepaths_k11_runner_errors
set_option Elab.async false
set_option linter.all false
set_option maxRecDepth 100000
set_option maxHeartbeats 4000000
/-! A program logic over data: values are data or raw places, what may change stands in a memory of its own. -/
namespace DL
open PySem PySem.Spec L2

inductive EV where
  | d (p : PyData)
  | o (a : Addr)

inductive MD where
  | lst (xs : List PyData)
  | raw (o : HO)
  | rawK (o : HO) (ks : List (V × PyData))
  | dk (kvs : List (Key × EV))
  | dt (kvs : List (List Key × EV))
  | ins (C : Addr) (fs : List (Str × EV))

abbrev Mem := Addr → Option MD
abbrev Ev := List (Option EV)
def updM (M : Mem) (a : Addr) (m : MD) : Mem := fun b => if b = a then some m else M b
def delM (M : Mem) (a : Addr) : Mem := fun b => if b = a then none else M b
theorem updM_same {M : Mem} {a : Addr} {m : MD} : updM M a m a = some m := by unfold updM; rw [if_pos rfl]
theorem updM_ne {M : Mem} {a b : Addr} {m : MD} (h : b ≠ a) : updM M a m b = M b := by unfold updM; rw [if_neg h]
theorem updM_upd {M : Mem} {a : Addr} {m n : MD} : updM (updM M a m) a n = updM M a n := by
  funext b; unfold updM; split <;> rfl
theorem delM_upd {M : Mem} {a : Addr} {m : MD} (h : M a = none) : delM (updM M a m) a = M := by
  funext b; unfold delM updM; split
  · rename_i e; rw [e, h]
  · rfl
theorem updM_comm {M : Mem} {a b : Addr} {m n : MD} (h : a ≠ b) : updM (updM M a m) b n = updM (updM M b n) a m := by
  funext c; unfold updM
  by_cases h1 : c = b
  · by_cases h2 : c = a
    · exact absurd (h2.symm.trans h1) h
    · simp [h1, h2]
      intro q; exact absurd q.symm h
  · by_cases h2 : c = a <;> simp [h1, h2]
    intro q; exact absurd q h
theorem updM_id {M : Mem} {a : Addr} {m : MD} (h : M a = some m) : updM M a m = M := by
  funext b; unfold updM; split
  · rename_i e; rw [e, h]
  · rfl

section
variable {K : PySem.W.Frag} {F F' H H' : Hp}
theorem rd_mono {a : Addr} {u : HO} (e : Same F F') (h : Rd F a u) : Rd F' a u := by
  rcases h with h | ⟨o, h⟩
  · exact .inl (e _ _ h)
  · exact .inr ⟨o, e _ _ h⟩
theorem sqL_mono {a : Addr} {xs : List V} (e : Same F F') (h : SqL K F a xs) : SqL K F' a xs := h.imp (rd_mono e) id
theorem sqT_mono {a : Addr} {xs : List V} (e : Same F F') (h : SqT K F a xs) : SqT K F' a xs := h.imp (rd_mono e) id
mutual
theorem dp_mono (e : Same F F') : ∀ (v : V) (d : PyData), Dp K F v d → Dp K F' v d
  | _, _, .non => .non
  | _, _, .bl b => .bl b
  | _, _, .int i => .int i
  | _, _, .str x => .str x
  | _, _, .lst h t => .lst (sqL_mono e h) (dps_mono e _ _ t)
  | _, _, .tup h t => .tup (sqT_mono e h) (dps_mono e _ _ t)
theorem dps_mono (e : Same F F') : ∀ (vs : List V) (ds : List PyData), DpAll K F vs ds → DpAll K F' vs ds
  | _, _, .nil => .nil
  | _, _, .cons h t => .cons (dp_mono e _ _ h) (dps_mono e _ _ t)
end
theorem dps_len : ∀ {vs : List V} {ds : List PyData}, DpAll K F vs ds → vs.length = ds.length
  | _, _, .nil => rfl
  | _, _, .cons _ t => congrArg (· + 1) (dps_len t)
theorem dps_get : ∀ {vs : List V} {ds : List PyData} {i : Nat} {d : PyData}, DpAll K F vs ds → ds[i]? = some d → ∃ v, vs[i]? = some v ∧ Dp K F v d
  | _, _, i, d, .nil, h => by simp at h
  | _, _, 0, d, .cons h t, e => by
    simp at e; subst e; exact ⟨_, rfl, h⟩
  | _, _, i + 1, d, .cons h t, e => by
    obtain ⟨v, h1, h2⟩ := dps_get (i := i) (d := d) t (by simpa using e)
    exact ⟨v, by simpa using h1, h2⟩
theorem dps_get' : ∀ {vs : List V} {ds : List PyData} {i : Nat} {v : V}, DpAll K F vs ds → vs[i]? = some v → ∃ d, ds[i]? = some d ∧ Dp K F v d
  | _, _, i, d, .nil, h => by simp at h
  | _, _, 0, d, .cons h t, e => by
    simp at e; subst e; exact ⟨_, rfl, h⟩
  | _, _, i + 1, d, .cons h t, e => by
    obtain ⟨v, h1, h2⟩ := dps_get' (i := i) (v := d) t (by simpa using e)
    exact ⟨v, by simpa using h1, h2⟩
theorem dps_append : ∀ {vs ws : List V} {ds es : List PyData}, DpAll K F vs ds → DpAll K F ws es → DpAll K F (vs ++ ws) (ds ++ es)
  | _, _, _, _, .nil, h => h
  | _, _, _, _, .cons h t, h2 => .cons h (dps_append t h2)
theorem dps_set : ∀ {vs : List V} {ds : List PyData} {v : V} {d : PyData} (i : Nat), DpAll K F vs ds → Dp K F v d → DpAll K F (vs.set i v) (ds.set i d)
  | _, _, _, _, _, .nil, _ => .nil
  | _, _, _, _, 0, .cons _ t, h => .cons h t
  | _, _, _, _, i + 1, .cons h t, h2 => .cons h (dps_set i t h2)
theorem dps_ints : ∀ {vs : List V} {ns : List Int}, DpAll K F vs (ns.map PyData.int) → vs = ns.map V.int
  | _, [], .nil => rfl
  | _, n :: ns, .cons h t => by
    cases h
    rw [dps_ints t]
    rfl
theorem dps_of_ints : ∀ (ns : List Int), DpAll K F (ns.map V.int) (ns.map PyData.int)
  | [] => .nil
  | n :: ns => .cons (.int n) (dps_of_ints ns)

def EvOk (K : PySem.W.Frag) (F : Hp) (v : V) : EV → Prop
  | .d p => Dp K F v p
  | .o a => v = .ref a
theorem EvOk.mono {v : V} {d : EV} (e : Same F F') (h : EvOk K F v d) : EvOk K F' v d := by
  cases d with
  | d p => exact dp_mono e _ _ h
  | o a => exact h
inductive EvsOk (K : PySem.W.Frag) (F : Hp) : List V → List EV → Prop
  | nil : EvsOk K F [] []
  | cons {v : V} {vs : List V} {d : EV} {ds : List EV} : EvOk K F v d → EvsOk K F vs ds → EvsOk K F (v :: vs) (d :: ds)
theorem EvsOk.mono (e : Same F F') : ∀ {vs : List V} {ds : List EV}, EvsOk K F vs ds → EvsOk K F' vs ds
  | _, _, .nil => .nil
  | _, _, .cons h t => .cons (h.mono e) (t.mono e)
theorem EvsOk.len : ∀ {vs : List V} {ds : List EV}, EvsOk K F vs ds → vs.length = ds.length
  | _, _, .nil => rfl
  | _, _, .cons _ t => congrArg (· + 1) t.len
theorem evs_data : ∀ {vs : List V} {ds : List PyData}, EvsOk K F vs (ds.map EV.d) → DpAll K F vs ds
  | _, [], .nil => .nil
  | _, _ :: _, .cons h t => .cons h (evs_data t)
theorem EvsOk.get : ∀ {vs : List V} {ds : List EV} {i : Nat} {d : EV}, EvsOk K F vs ds → ds[i]? = some d → ∃ v, vs[i]? = some v ∧ EvOk K F v d
  | _, _, i, d, .nil, h => by simp at h
  | _, _, 0, d, .cons h t, e => by
    simp at e; subst e; exact ⟨_, rfl, h⟩
  | _, _, i + 1, d, .cons h t, e => by
    obtain ⟨v, h1, h2⟩ := EvsOk.get (i := i) (d := d) t (by simpa using e)
    exact ⟨v, by simpa using h1, h2⟩

structure EnvOk (K : PySem.W.Frag) (F : Hp) (σ : St) (ρ : Ev) : Prop where
  len : σ.length = ρ.length
  at_ : ∀ (i : Nat) (e : EV), ρ[i]? = some (some e) → ∃ v, σ[i]? = some (some v) ∧ EvOk K F v e
theorem EnvOk.mono {σ : St} {ρ : Ev} (e : Same F F') (h : EnvOk K F σ ρ) : EnvOk K F' σ ρ :=
  ⟨h.len, fun i d q => let ⟨v, a, b⟩ := h.at_ i d q; ⟨v, a, b.mono e⟩⟩
theorem EnvOk.set {σ : St} {ρ : Ev} {v : V} {d : EV} (i : Nat) (h : EnvOk K F σ ρ) (hv : EvOk K F v d) : EnvOk K F (σ.set i (some v)) (ρ.set i (some d)) := by
  refine ⟨by rw [List.length_set, List.length_set, h.len], fun j e q => ?_⟩
  by_cases hj : i = j
  · subst hj
    have hl : i < ρ.length := by
      have := (List.getElem?_eq_some_iff.mp q).1
      rwa [List.length_set] at this
    rw [List.getElem?_set_self hl] at q
    cases q
    exact ⟨v, List.getElem?_set_self (by rw [h.len]; exact hl), hv⟩
  · rw [List.getElem?_set_ne hj] at q ⊢
    exact h.at_ j e q
/-- the pairs of a dict -/
def KVok {κ : Type} (K : PySem.W.Frag) (F : Hp) (vs : List (κ × V)) (ds : List (κ × EV)) : Prop := vs.map (·.1) = ds.map (·.1) ∧ EvsOk K F (vs.map (·.2)) (ds.map (·.2))
theorem KVok.mono {κ : Type} {vs : List (κ × V)} {ds : List (κ × EV)} (e : Same F F') (h : KVok K F vs ds) : KVok K F' vs ds := ⟨h.1, h.2.mono e⟩
def MdOk (K : PySem.W.Frag) (F : Hp) (h : Option HO) : MD → Prop
  | .lst ds => ∃ vs, h = some (.lst vs) ∧ DpAll K F vs ds
  | .raw o => h = some o
  | .rawK o ks => h = some o ∧ ∀ x ∈ ks, Dp K F x.1 x.2
  | .dk ds => ∃ vs, h = some (.dK vs) ∧ KVok K F vs ds
  | .dt ds => ∃ vs, h = some (.dT vs) ∧ KVok K F vs ds
  | .ins C ds => ∃ dx vs, h = some (.ins C dx vs) ∧ KVok K F vs ds
structure WD (K : PySem.W.Frag) (F : Hp) (M : Mem) (H : Hp) : Prop where
  ext : Same F H
  mem : ∀ a m, M a = some m → F a = none ∧ MdOk K F (H a) m
theorem MdOk.mono {h : Option HO} {m : MD} (e : Same F F') (x : MdOk K F h m) : MdOk K F' h m := by
  cases m with
  | lst ds => obtain ⟨vs, a, b⟩ := x; exact ⟨vs, a, dps_mono e _ _ b⟩
  | raw o => exact x
  | rawK o ks => exact ⟨x.1, fun y hy => dp_mono e _ _ (x.2 y hy)⟩
  | dk ds => obtain ⟨vs, a, b⟩ := x; exact ⟨vs, a, b.mono e⟩
  | dt ds => obtain ⟨vs, a, b⟩ := x; exact ⟨vs, a, b.mono e⟩
  | ins C ds => obtain ⟨dx, vs, a, b⟩ := x; exact ⟨dx, vs, a, b.mono e⟩
theorem MdOk.some {h : Option HO} {m : MD} (x : MdOk K F h m) : ∃ o, h = some o := by
  cases m with
  | lst ds => obtain ⟨vs, a, _⟩ := x; exact ⟨_, a⟩
  | raw o => exact ⟨o, x⟩
  | rawK o ks => exact ⟨o, x.1⟩
  | dk ds => obtain ⟨vs, a, _⟩ := x; exact ⟨_, a⟩
  | dt ds => obtain ⟨vs, a, _⟩ := x; exact ⟨_, a⟩
  | ins C ds => obtain ⟨dx, vs, a, _⟩ := x; exact ⟨_, a⟩
theorem WD.fresh {M : Mem} {p : Addr} (w : WD K F M H) (h : H p = none) : F p = none ∧ M p = none := by
  refine ⟨w.ext.free h, ?_⟩
  cases q : M p with
  | none => rfl
  | some m =>
    obtain ⟨o, e⟩ := (w.mem p m q).2.some
    rw [h] at e; cases e
/-- a new thing that stands from now on as it is -/
theorem WD.laid {M : Mem} {p : Addr} {o : HO} (w : WD K F M H) (h : H p = none) : Same F (upd F p o) ∧ WD K (upd F p o) M (upd H p o) := by
  have hF := (w.fresh h).1
  have hM := (w.fresh h).2
  have hs : Same F (upd F p o) := fun a u e => by rw [upd_ne (ne_of_none e hF)]; exact e
  refine ⟨hs, ⟨fun a u e => ?_, fun a m e => ?_⟩⟩
  · by_cases q : a = p
    · rw [q, upd_same] at e ⊢; exact e
    · rw [upd_ne q] at e ⊢; exact w.ext _ _ e
  · have ne : a ≠ p := fun q => by rw [q, hM] at e; cases e
    obtain ⟨m1, m2⟩ := w.mem a m e
    rw [upd_ne ne, upd_ne ne]
    exact ⟨m1, m2.mono hs⟩
/-- a new thing that may change -/
theorem WD.new {M : Mem} {p : Addr} {o : HO} {m : MD} (w : WD K F M H) (h : H p = none) (x : MdOk K F (some o) m) : WD K F (updM M p m) (upd H p o) := by
  have hF := (w.fresh h).1
  refine ⟨fun a u e => by rw [upd_ne (ne_of_none e hF)]; exact w.ext _ _ e, fun a n e => ?_⟩
  by_cases q : a = p
  · subst q
    rw [updM_same] at e; cases e
    rw [upd_same]
    exact ⟨hF, x⟩
  · rw [updM_ne q] at e
    rw [upd_ne q]
    exact w.mem a n e
/-- what may change is changed -/
theorem WD.put {M : Mem} {p : Addr} {o : HO} {m m' : MD} (w : WD K F M H) (h : M p = some m) (x : MdOk K F (some o) m') : WD K F (updM M p m') (upd H p o) := by
  have hF := (w.mem p m h).1
  refine ⟨fun a u e => by rw [upd_ne (ne_of_none e hF)]; exact w.ext _ _ e, fun a n e => ?_⟩
  by_cases q : a = p
  · subst q
    rw [updM_same] at e; cases e
    rw [upd_same]
    exact ⟨hF, x⟩
  · rw [updM_ne q] at e
    rw [upd_ne q]
    exact w.mem a n e
/-- a list that no longer changes is data -/
theorem WD.freeze {M : Mem} {p : Addr} {ds : List PyData} (w : WD K F M H) (h : M p = some (.lst ds)) : ∃ F', Same F F' ∧ WD K F' (delM M p) H ∧ Dp K F' (.ref p) (.list ds) := by
  obtain ⟨hF, vs, e, t⟩ := w.mem p _ h
  have hs : Same F (upd F p (.lst vs)) := fun a u e => by rw [upd_ne (ne_of_none e hF)]; exact e
  refine ⟨upd F p (.lst vs), hs, ⟨fun a u q => ?_, fun a m q => ?_⟩, .lst (SqL.of upd_same) (dps_mono hs _ _ t)⟩
  · by_cases z : a = p
    · rw [z, upd_same] at q; cases q; rw [z]; exact e
    · rw [upd_ne z] at q; exact w.ext _ _ q
  · unfold delM at q
    by_cases z : a = p
    · rw [if_pos z] at q; cases q
    · rw [if_neg z] at q
      obtain ⟨m1, m2⟩ := w.mem a m q
      rw [upd_ne z]
      exact ⟨m1, m2.mono hs⟩
theorem WD.forget {M : Mem} (p : Addr) (w : WD K F M H) : WD K F (delM M p) H := by
  refine ⟨w.ext, fun a m q => ?_⟩
  unfold delM at q
  by_cases z : a = p
  · rw [if_pos z] at q; cases q
  · rw [if_neg z] at q; exact w.mem a m q
end

/-! ### the weakest readings -/
section
variable (X : Cx)
def wpE (e : Expr) : TE := fun σ H Q => ∀ pins s, Inv X pins σ H s → wpAny (model X.prog X.w) X.A (eval e X.env) (EP X pins σ Q) X.xe s
def wpT (e : Expr) : TT := fun σ H Q => ∀ pins s, Inv X pins σ H s → wpAny (model X.prog X.w) X.A (isTrue e X.env (eval e X.env)) (TP X pins σ Q) X.xe s
def wpW (e : Expr) : TT := fun σ H Q => ∀ (whole : Sem Value) pins s, Inv X pins σ H s → wpAny (model X.prog X.w) X.A (isTrue e X.env whole) (TP X pins σ Q) X.xe s
def wpA (es : List Expr) : TA := fun σ H Q => ∀ pos pins s, Inv X pins σ H s → wpAny (model X.prog X.w) X.A (spliced (backTo pos (starEach es X.env))) (AP X pins σ Q) X.xe s
def wpS (st : Stmt) : TS := fun D σ H => ∀ pins s, Inv X pins σ H s → wpAny (model X.prog X.w) X.A (exec st X.env) (SP X pins D) X.xe s
def wpSs (st : List Stmt) : TS := fun D σ H => ∀ pins s, Inv X pins σ H s → wpAny (model X.prog X.w) X.A (execs st X.env) (SP X pins D) X.xe s
def wpG (tg : Expr) : TG := fun v σ H Q => ∀ pins s u, Inv X pins σ H s → RelV v u → wpAny (model X.prog X.w) X.A (assign tg X.env u) (fun _ s' => ∃ σ' H', Inv X pins σ' H' s' ∧ Q σ' H') X.xe s
def wpGs (ts : List Expr) : TGs := fun vs σ H Q => ∀ pins s us, Inv X pins σ H s → Vals vs us → wpAny (model X.prog X.w) X.A (assignInOrder ((assignEach ts X.env).map (·.2)) us) (fun _ s' => ∃ σ' H', Inv X pins σ' H' s' ∧ Q σ' H') X.xe s
end
section
variable {X : Cx} {e : Expr} {es : List Expr} {st : Stmt} {sts : List Stmt}
theorem sE : PE X e (wpE X e) := ⟨fun pins s _ _ _ I h => h pins s I⟩
theorem sT : PT X e (wpT X e) := ⟨fun pins s _ _ _ I h => h pins s I⟩
theorem sW : PW X e (wpW X e) := ⟨fun w pins s _ _ _ I h => h w pins s I⟩
theorem sA : PA X es (wpA X es) := ⟨fun pos pins s _ _ _ I h => h pos pins s I⟩
theorem sS : PS X st (wpS X st) := ⟨fun pins s _ _ _ I h => h pins s I⟩
theorem sSs : PSs X sts (wpSs X sts) := ⟨fun pins s _ _ _ I h => h pins s I⟩
theorem sG : PG X e (wpG X e) := ⟨fun pins s _ _ _ u _ I r h => h pins s u I r⟩
theorem sGs : PGs X es (wpGs X es) := ⟨fun pins s _ _ _ us _ I r h => h pins s us I r⟩
theorem toE {t : TE} {σ : St} {H : Hp} {Q : VK} (h : PE X e t) (q : t σ H Q) : wpE X e σ H Q := fun pins s I => h.run pins s σ H Q I q
theorem toT {t : TT} {σ : St} {H : Hp} {Q : Bool → Hp → Prop} (h : PT X e t) (q : t σ H Q) : wpT X e σ H Q := fun pins s I => h.run pins s σ H Q I q
theorem toW {t : TT} {σ : St} {H : Hp} {Q : Bool → Hp → Prop} (h : PW X e t) (q : t σ H Q) : wpW X e σ H Q := fun w pins s I => h.run w pins s σ H Q I q
theorem toA {t : TA} {σ : St} {H : Hp} {Q : List V → Hp → Prop} (h : PA X es t) (q : t σ H Q) : wpA X es σ H Q := fun pos pins s I => h.run pos pins s σ H Q I q
theorem toS {t : TS} {σ : St} {H : Hp} {D : Ends} (h : PS X st t) (q : t D σ H) : wpS X st D σ H := fun pins s I => h.run pins s σ H D I q
theorem toSs {t : TS} {σ : St} {H : Hp} {D : Ends} (h : PSs X sts t) (q : t D σ H) : wpSs X sts D σ H := fun pins s I => h.run pins s σ H D I q
theorem toG {t : TG} {v : V} {σ : St} {H : Hp} {Q : St → Hp → Prop} (h : PG X e t) (q : t v σ H Q) : wpG X e v σ H Q := fun pins s u I r => h.run pins s σ H v u Q I r q
theorem toGs {t : TGs} {vs : List V} {σ : St} {H : Hp} {Q : St → Hp → Prop} (h : PGs X es t) (q : t vs σ H Q) : wpGs X es vs σ H Q := fun pins s us I r => h.run pins s σ H vs us Q I r q
end

/-! ### the judgements over data -/
abbrev I (i : Int) : EV := .d (.int i)
abbrev B (b : Bool) : EV := .d (.bool b)
abbrev S (s : Str) : EV := .d (.str s)
abbrev N0 : EV := .d .none
abbrev T (ds : List PyData) : EV := .d (.tuple ds)
abbrev L (ds : List PyData) : EV := .d (.list ds)

abbrev QE := EV → Mem → Prop
abbrev QM := Ev → Mem → Prop
section
variable (X : Cx)
/-- R takes what Q says, from F on -/
def Lk (F : Hp) (Q : QE) (R : VK) : Prop := ∀ v d F' M' H', Q d M' → Same F F' → WD X.K F' M' H' → EvOk X.K F' v d → R v H'
def LkT (F : Hp) (Q : Bool → Mem → Prop) (R : Bool → Hp → Prop) : Prop := ∀ b F' M' H', Q b M' → Same F F' → WD X.K F' M' H' → R b H'
def LkA (F : Hp) (Q : List EV → Mem → Prop) (R : List V → Hp → Prop) : Prop := ∀ vs ds F' M' H', Q ds M' → Same F F' → WD X.K F' M' H' → EvsOk X.K F' vs ds → R vs H'
def LkM (F : Hp) (Q : QM) (R : St → Hp → Prop) : Prop := ∀ σ' ρ' F' M' H', Q ρ' M' → Same F F' → WD X.K F' M' H' → EnvOk X.K F' σ' ρ' → R σ' H'
structure DEnds where
  nx : QM
  rt : QE
  bk : QM := fun _ _ => False
  ct : QM := fun _ _ => False
structure LkD (F : Hp) (D : DEnds) (R : Ends) : Prop where
  nx : LkM X F D.nx R.nx
  rt : Lk X F D.rt R.rt
  bk : LkM X F D.bk R.bk
  ct : LkM X F D.ct R.ct
def DE (e : Expr) (ρ : Ev) (M : Mem) (Q : QE) : Prop := ∀ σ H F, EnvOk X.K F σ ρ → WD X.K F M H → ∀ R, Lk X F Q R → wpE X e σ H R
def DT (e : Expr) (ρ : Ev) (M : Mem) (Q : Bool → Mem → Prop) : Prop := ∀ σ H F, EnvOk X.K F σ ρ → WD X.K F M H → ∀ R, LkT X F Q R → wpT X e σ H R
def DW (e : Expr) (ρ : Ev) (M : Mem) (Q : Bool → Mem → Prop) : Prop := ∀ σ H F, EnvOk X.K F σ ρ → WD X.K F M H → ∀ R, LkT X F Q R → wpW X e σ H R
def DA (es : List Expr) (ρ : Ev) (M : Mem) (Q : List EV → Mem → Prop) : Prop := ∀ σ H F, EnvOk X.K F σ ρ → WD X.K F M H → ∀ R, LkA X F Q R → wpA X es σ H R
def DS (st : Stmt) (ρ : Ev) (M : Mem) (D : DEnds) : Prop := ∀ σ H F, EnvOk X.K F σ ρ → WD X.K F M H → ∀ R, LkD X F D R → wpS X st R σ H
def DSs (st : List Stmt) (ρ : Ev) (M : Mem) (D : DEnds) : Prop := ∀ σ H F, EnvOk X.K F σ ρ → WD X.K F M H → ∀ R, LkD X F D R → wpSs X st R σ H
def DG (tg : Expr) (d : EV) (ρ : Ev) (M : Mem) (Q : QM) : Prop := ∀ σ H F v, EnvOk X.K F σ ρ → WD X.K F M H → EvOk X.K F v d → ∀ R, LkM X F Q R → wpG X tg v σ H R
def DGs (tgs : List Expr) (ds : List EV) (ρ : Ev) (M : Mem) (Q : QM) : Prop := ∀ σ H F vs, EnvOk X.K F σ ρ → WD X.K F M H → EvsOk X.K F vs ds → ∀ R, LkM X F Q R → wpGs X tgs vs σ H R
end
section
variable {X : Cx} {F F' : Hp}
theorem Lk.mono {Q : QE} {R : VK} (e : Same F F') (k : Lk X F Q R) : Lk X F' Q R := fun v d F2 M H q s w x => k v d F2 M H q (e.trans s) w x
theorem LkT.mono {Q : Bool → Mem → Prop} {R : Bool → Hp → Prop} (e : Same F F') (k : LkT X F Q R) : LkT X F' Q R := fun v F2 M H q s w => k v F2 M H q (e.trans s) w
theorem LkA.mono {Q : List EV → Mem → Prop} {R : List V → Hp → Prop} (e : Same F F') (k : LkA X F Q R) : LkA X F' Q R := fun v d F2 M H q s w x => k v d F2 M H q (e.trans s) w x
theorem LkM.mono {Q : QM} {R : St → Hp → Prop} (e : Same F F') (k : LkM X F Q R) : LkM X F' Q R := fun v d F2 M H q s w x => k v d F2 M H q (e.trans s) w x
theorem LkD.mono {D : DEnds} {R : Ends} (e : Same F F') (k : LkD X F D R) : LkD X F' D R := ⟨k.nx.mono e, k.rt.mono e, k.bk.mono e, k.ct.mono e⟩
end

/-! ### expressions -/
section
variable {X : Cx} {e a b c : Expr} {es : List Expr} {pos : Pos} {ρ : Ev} {M : Mem} {Q : QE}

theorem de_var (i : Nat) {x : Str} {d : EV} (hd : ρ[i]? = some (some d)) (q : Q d M) (hN : X.N[i]? = some x := by rfl) (hv : Vis X.env.scope x := by first | exact Or.inl rfl | exact Or.inr (Or.inl rfl) | exact Or.inr (Or.inr rfl))
    (h1 : (x == ("__debug__" : Str)) = false := by decide) (h2 : (x == ("__classdict__" : Str)) = false := by decide) : DE X (.Name x pos) ρ M Q := fun σ H F ho hw R k => by
  obtain ⟨v, e1, e2⟩ := ho.at_ i d hd
  exact toE (pe_var hN hv h1 h2) ⟨v, e1, k v d F M H q (Same.refl F) hw e2⟩
theorem de_int {i : Int} {j} (q : Q (I i) M) : DE X (.Constant (.int i) j pos) ρ M Q := fun σ H F ho hw R k => toE pe_int (k _ _ F M H q (Same.refl F) hw (.int i))
theorem de_bl {i : Bool} {j} (q : Q (B i) M) : DE X (.Constant (.bool i) j pos) ρ M Q := fun σ H F ho hw R k => toE pe_bl (k _ _ F M H q (Same.refl F) hw (.bl i))
theorem de_str {i : Str} {j} (q : Q (S i) M) : DE X (.Constant (.str i) j pos) ρ M Q := fun σ H F ho hw R k => toE pe_str (k _ _ F M H q (Same.refl F) hw (.str i))
theorem de_non {j} (q : Q N0 M) : DE X (.Constant .none j pos) ρ M Q := fun σ H F ho hw R k => toE pe_non (k _ _ F M H q (Same.refl F) hw .non)

/-- two values, then an operation on values -/
theorem two {ta : TE} {r : R2} (h : DE X a ρ M fun d1 M1 => DE X b ρ M1 fun d2 M2 => ∀ F H v1 v2, EvOk X.K F v1 d1 → EvOk X.K F v2 d2 → WD X.K F M2 H → ∀ R, Lk X F Q R → r v1 v2 H R)
    (hp : PE X e (tOp r (wpE X a) (wpE X b))) : DE X e ρ M Q := fun σ H F ho hw R k => by
  refine toE hp ?_
  refine h σ H F ho hw _ fun v1 d1 F1 M1 H1 q1 s1 w1 x1 => ?_
  refine q1 σ H1 F1 (ho.mono s1) w1 _ fun v2 d2 F2 M2 H2 q2 s2 w2 x2 => ?_
  exact q2 F2 H2 v1 v2 (x1.mono s2) x2 w2 R (k.mono (s1.trans s2))
theorem de_bin {op : Operator} {r : R2} (ho : OpR X (binaryOp op) r) (h : DE X a ρ M fun d1 M1 => DE X b ρ M1 fun d2 M2 => ∀ F H v1 v2, EvOk X.K F v1 d1 → EvOk X.K F v2 d2 → WD X.K F M2 H → ∀ R, Lk X F Q R → r v1 v2 H R) :
    DE X (.BinOp a op b pos) ρ M Q := two (ta := wpE X a) h (pe_op ho sE sE)
theorem DE.imp {Q' : QE} (h : DE X e ρ M Q) (i : ∀ d M', Q d M' → Q' d M') : DE X e ρ M Q' := fun σ H F ho hw R k => h σ H F ho hw R fun v d F' M' H' q s w x => k v d F' M' H' (i _ _ q) s w x
theorem DT.imp {Q Q' : Bool → Mem → Prop} (h : DT X e ρ M Q) (i : ∀ d M', Q d M' → Q' d M') : DT X e ρ M Q' := fun σ H F ho hw R k => h σ H F ho hw R fun d F' M' H' q s w => k d F' M' H' (i _ _ q) s w
/-- ints, with a condition -/
theorem de_iC {op : Operator} {C : Int → Int → Prop} {g : Int → Int → Int} (ho : OpR X (binaryOp op) (rI C fun i j => .int (g i j)))
    (h : DE X a ρ M fun d1 M1 => DE X b ρ M1 fun d2 M2 => ∃ i j, d1 = I i ∧ d2 = I j ∧ C i j ∧ Q (I (g i j)) M2) : DE X (.BinOp a op b pos) ρ M Q := by
  refine de_bin ho (h.imp fun d1 M1 h1 => h1.imp fun d2 M2 h2 => ?_)
  obtain ⟨i, j, rfl, rfl, hc, q⟩ := h2
  intro F H v1 v2 x1 x2 w R k
  cases x1
  cases x2
  exact ⟨i, j, rfl, rfl, hc, k _ _ F M2 H q (Same.refl F) w (.int _)⟩
theorem de_i0 {op : Operator} {g : Int → Int → Int} (ho : OpR X (binaryOp op) (rI0 fun i j => .int (g i j)))
    (h : DE X a ρ M fun d1 M1 => DE X b ρ M1 fun d2 M2 => ∃ i j, d1 = I i ∧ d2 = I j ∧ Q (I (g i j)) M2) : DE X (.BinOp a op b pos) ρ M Q := by
  refine de_bin ho (h.imp fun d1 M1 h1 => h1.imp fun d2 M2 h2 => ?_)
  obtain ⟨i, j, rfl, rfl, q⟩ := h2
  intro F H v1 v2 x1 x2 w R k
  cases x1
  cases x2
  exact ⟨i, j, rfl, rfl, k _ _ F M2 H q (Same.refl F) w (.int _)⟩
theorem de_add (h : DE X a ρ M fun d1 M1 => DE X b ρ M1 fun d2 M2 => ∃ i j, d1 = I i ∧ d2 = I j ∧ Q (I (i + j)) M2) : DE X (.BinOp a .Add b pos) ρ M Q := de_i0 op_add h
theorem de_sub (h : DE X a ρ M fun d1 M1 => DE X b ρ M1 fun d2 M2 => ∃ i j, d1 = I i ∧ d2 = I j ∧ Q (I (i - j)) M2) : DE X (.BinOp a .Sub b pos) ρ M Q := de_i0 op_sub h
theorem de_mul (h : DE X a ρ M fun d1 M1 => DE X b ρ M1 fun d2 M2 => ∃ i j, d1 = I i ∧ d2 = I j ∧ CMul i j ∧ Q (I (i * j)) M2) : DE X (.BinOp a .Mult b pos) ρ M Q := de_iC op_mul h
theorem de_mulW (h : DE X a ρ M fun d1 M1 => DE X b ρ M1 fun d2 M2 => ∃ i j, d1 = I i ∧ d2 = I j ∧ CMulW i j ∧ Q (I (i * j)) M2) : DE X (.BinOp a .Mult b pos) ρ M Q := de_iC op_mulW h
theorem de_div (h : DE X a ρ M fun d1 M1 => DE X b ρ M1 fun d2 M2 => ∃ i j, d1 = I i ∧ d2 = I j ∧ CDiv i j ∧ Q (I (i / j)) M2) : DE X (.BinOp a .FloorDiv b pos) ρ M Q := de_iC op_fdiv h
theorem de_divW (h : DE X a ρ M fun d1 M1 => DE X b ρ M1 fun d2 M2 => ∃ i j, d1 = I i ∧ d2 = I j ∧ CDivW i j ∧ Q (I (i / j)) M2) : DE X (.BinOp a .FloorDiv b pos) ρ M Q := de_iC op_fdivW h
theorem de_divN (h : DE X a ρ M fun d1 M1 => DE X b ρ M1 fun d2 M2 => ∃ i j, d1 = I i ∧ d2 = I j ∧ CDivN i j ∧ Q (I (i.fdiv j)) M2) : DE X (.BinOp a .FloorDiv b pos) ρ M Q := de_iC op_fdivN h
theorem de_mod (h : DE X a ρ M fun d1 M1 => DE X b ρ M1 fun d2 M2 => ∃ i j, d1 = I i ∧ d2 = I j ∧ 0 < j ∧ Q (I (i % j)) M2) : DE X (.BinOp a .Mod b pos) ρ M Q := de_iC (C := fun _ j => 0 < j) op_mod h
theorem de_pow (h : DE X a ρ M fun d1 M1 => DE X b ρ M1 fun d2 M2 => ∃ i j, d1 = I i ∧ d2 = I j ∧ CPow i j ∧ Q (I (i ^ j.toNat)) M2) : DE X (.BinOp a .Pow b pos) ρ M Q := de_iC op_pow h
/-- texts put together -/
theorem de_cat (h : DE X a ρ M fun d1 M1 => DE X b ρ M1 fun d2 M2 => ∃ i j, d1 = S i ∧ d2 = S j ∧ i.length + j.length ≤ 10000 ∧ Q (S (i ++ j)) M2) : DE X (.BinOp a .Add b pos) ρ M Q := by
  refine de_bin op_add_str (h.imp fun d1 M1 h1 => h1.imp fun d2 M2 h2 => ?_)
  obtain ⟨i, j, rfl, rfl, hl, q⟩ := h2
  intro F H v1 v2 x1 x2 w R k
  cases x1
  cases x2
  exact ⟨i, j, rfl, rfl, Nat.le_trans hl (by decide), k _ _ F M2 H q (Same.refl F) w (.str _)⟩
theorem de_neg (h : DE X a ρ M fun d1 M1 => ∃ i, d1 = I i ∧ Q (I (-i)) M1) : DE X (.UnaryOp .USub a pos) ρ M Q := fun σ H F ho hw R k => by
  refine toE (pe_un un_neg sE) ?_
  refine h σ H F ho hw _ fun v1 d1 F1 M1 H1 q1 s1 w1 x1 => ?_
  obtain ⟨i, rfl, q⟩ := q1
  cases x1
  exact ⟨i, rfl, k _ _ F1 M1 H1 q s1 w1 (.int _)⟩

/-! arguments -/
theorem da_nil {Q : List EV → Mem → Prop} (q : Q [] M) : DA X [] ρ M Q := fun σ H F ho hw R k => toA pa_nil (k _ _ F M H q (Same.refl F) hw .nil)
theorem da_cons {Q : List EV → Mem → Prop} (h : DE X e ρ M fun d M1 => DA X es ρ M1 fun ds M2 => Q (d :: ds) M2) (hs : starEach (e :: es) X.env = (false, eval e X.env) :: starEach es X.env := by rfl) : DA X (e :: es) ρ M Q := fun σ H F ho hw R k => by
  refine toA (pa_cons sE sA hs) ?_
  refine h σ H F ho hw _ fun v1 d1 F1 M1 H1 q1 s1 w1 x1 => ?_
  refine q1 σ H1 F1 (ho.mono s1) w1 _ fun vs ds F2 M2 H2 q2 s2 w2 x2 => ?_
  exact k _ _ F2 M2 H2 q2 (s1.trans s2) w2 (.cons (x1.mono s2) x2)
theorem DA.imp {Q Q' : List EV → Mem → Prop} (h : DA X es ρ M Q) (i : ∀ d M', Q d M' → Q' d M') : DA X es ρ M Q' := fun σ H F ho hw R k => h σ H F ho hw R fun v d F' M' H' q s w x => k v d F' M' H' (i _ _ q) s w x

/-! displays -/
theorem small_line {n : Nat} (h : n ≤ 100000) : n ≤ sizeLine := Nat.le_trans h (by decide)
theorem de_tup {x1} (h : DA X es ρ M fun ds M1 => ∃ ps : List PyData, ds = ps.map EV.d ∧ Nat.ble ps.length 100000 = true ∧ Q (T ps) M1) : DE X (.Tuple es x1 pos) ρ M Q := fun σ H F ho hw R k => by
  refine toE (pe_tup sA) ?_
  refine h σ H F ho hw _ fun vs ds F1 M1 H1 q1 s1 w1 x1 => ?_
  obtain ⟨ps, rfl, hl, q⟩ := q1
  have hd := evs_data x1
  refine ⟨by rw [dps_len hd]; exact small_line (Nat.le_of_ble_eq_true hl), fun p hp => ?_⟩
  obtain ⟨s2, w2⟩ := w1.laid (o := .tup vs) hp
  exact k _ _ _ M1 _ q (s1.trans s2) w2 (.tup (SqT.of upd_same) (dps_mono s2 _ _ hd))
/-- a new list that may change -/
theorem de_lst (h : DA X es ρ M fun ds M1 => ∃ ps : List PyData, ds = ps.map EV.d ∧ Nat.ble ps.length 100000 = true ∧ ∀ a, M1 a = none → Q (.o a) (updM M1 a (.lst ps))) : DE X (.List es pos) ρ M Q := fun σ H F ho hw R k => by
  refine toE (pe_lst sA) ?_
  refine h σ H F ho hw _ fun vs ds F1 M1 H1 q1 s1 w1 x1 => ?_
  obtain ⟨ps, rfl, hl, q⟩ := q1
  have hd := evs_data x1
  refine ⟨by rw [dps_len hd]; exact small_line (Nat.le_of_ble_eq_true hl), fun p hp => ?_⟩
  exact k _ _ F1 _ _ (q p (w1.fresh hp).2) s1 (w1.new hp ⟨vs, rfl, hd⟩) rfl
/-- a new list as data -/
theorem de_lstD (h : DA X es ρ M fun ds M1 => ∃ ps : List PyData, ds = ps.map EV.d ∧ Nat.ble ps.length 100000 = true ∧ Q (L ps) M1) : DE X (.List es pos) ρ M Q := fun σ H F ho hw R k => by
  refine toE (pe_lst sA) ?_
  refine h σ H F ho hw _ fun vs ds F1 M1 H1 q1 s1 w1 x1 => ?_
  obtain ⟨ps, rfl, hl, q⟩ := q1
  have hd := evs_data x1
  refine ⟨by rw [dps_len hd]; exact small_line (Nat.le_of_ble_eq_true hl), fun p hp => ?_⟩
  obtain ⟨s2, w2⟩ := w1.laid (o := .lst vs) hp
  exact k _ _ _ M1 _ q (s1.trans s2) w2 (.lst (SqL.of upd_same) (dps_mono s2 _ _ hd))

/-! items -/
theorem atI_map {α β : Type} (f : α → β → Prop) {xs : List α} {ys : List β} {i : Int} {y : β} (hl : xs.length = ys.length) (hg : ∀ (j : Nat) (y : β), ys[j]? = some y → ∃ x, xs[j]? = some x ∧ f x y) (h : atI ys i = some y) : ∃ x, atI xs i = some x ∧ f x y := by
  unfold atI at h ⊢
  rw [hl]
  cases e : ixN ys.length i with
  | none => rw [e] at h; cases h
  | some j =>
    rw [e] at h
    exact hg j y h
theorem de_ixT (h : DE X a ρ M fun d1 M1 => DE X b ρ M1 fun d2 M2 => ∃ ps i p, d1 = T ps ∧ d2 = I i ∧ atI ps i = some p ∧ Q (.d p) M2) (hb : PlainIx b := by exact fun _ _ => rfl) : DE X (.Subscript a b pos) ρ M Q := by
  refine two (ta := wpE X a) (h.imp fun d1 M1 h1 => h1.imp fun d2 M2 h2 => ?_) (pe_ix ix_tup sE sE hb)
  obtain ⟨ps, i, p, rfl, rfl, hp, q⟩ := h2
  intro F H v1 v2 x1 x2 w R k
  cases x1 with
  | tup hs ht =>
    cases x2
    obtain ⟨v, e1, e2⟩ := atI_map (Dp X.K F) (dps_len ht) (fun j y hy => dps_get ht hy) hp
    exact ⟨_, _, i, v, rfl, rfl, sqT_mono w.ext hs, e1, k _ _ F M2 H q (Same.refl F) w e2⟩
theorem de_ixL (h : DE X a ρ M fun d1 M1 => DE X b ρ M1 fun d2 M2 => ∃ ps i p, d1 = L ps ∧ d2 = I i ∧ atI ps i = some p ∧ Q (.d p) M2) (hb : PlainIx b := by exact fun _ _ => rfl) : DE X (.Subscript a b pos) ρ M Q := by
  refine two (ta := wpE X a) (h.imp fun d1 M1 h1 => h1.imp fun d2 M2 h2 => ?_) (pe_ix ix_list sE sE hb)
  obtain ⟨ps, i, p, rfl, rfl, hp, q⟩ := h2
  intro F H v1 v2 x1 x2 w R k
  cases x1 with
  | lst hs ht =>
    cases x2
    obtain ⟨v, e1, e2⟩ := atI_map (Dp X.K F) (dps_len ht) (fun j y hy => dps_get ht hy) hp
    exact ⟨_, _, i, v, rfl, rfl, sqL_mono w.ext hs, e1, k _ _ F M2 H q (Same.refl F) w e2⟩
theorem de_ixO (h : DE X a ρ M fun d1 M1 => DE X b ρ M1 fun d2 M2 => ∃ l ps i p, d1 = .o l ∧ M2 l = some (.lst ps) ∧ d2 = I i ∧ atI ps i = some p ∧ Q (.d p) M2) (hb : PlainIx b := by exact fun _ _ => rfl) : DE X (.Subscript a b pos) ρ M Q := by
  refine two (ta := wpE X a) (h.imp fun d1 M1 h1 => h1.imp fun d2 M2 h2 => ?_) (pe_ix ix_list sE sE hb)
  obtain ⟨l, ps, i, p, rfl, hl, rfl, hp, q⟩ := h2
  intro F H v1 v2 x1 x2 w R k
  cases (show v1 = V.ref l from x1)
  cases x2
  obtain ⟨hF, vs, e, ht⟩ := w.mem l _ hl
  obtain ⟨v, e1, e2⟩ := atI_map (Dp X.K F) (dps_len ht) (fun j y hy => dps_get ht hy) hp
  exact ⟨_, _, i, v, rfl, rfl, SqL.of e, e1, k _ _ F M2 H q (Same.refl F) w e2⟩

/-! comparisons as values and tests -/
theorem DT.of_val {Q : Bool → Mem → Prop} (h : DE X e ρ M fun d M1 => ∃ k, d = B k ∧ Q k M1) (he : ∀ whole, isTrue e X.env whole = (do let v ← whole; standAt e.pos; holding [v] (truthy v)) := by intro _; rfl) : DT X e ρ M Q := fun σ H F ho hw R k => by
  refine toT (pt_val sE he) ?_
  refine h σ H F ho hw _ fun v1 d1 F1 M1 H1 q1 s1 w1 x1 => ?_
  obtain ⟨c, rfl, q⟩ := q1
  cases x1
  exact ⟨c, rfl, k c F1 M1 H1 q s1 w1⟩
theorem de_cmp {op : CmpOp} {r : R2} (ho : OpR X (compareOp op) r) (h : DE X a ρ M fun d1 M1 => DE X b ρ M1 fun d2 M2 => ∀ F H v1 v2, EvOk X.K F v1 d1 → EvOk X.K F v2 d2 → WD X.K F M2 H → ∀ R, Lk X F Q R → r v1 v2 H R)
    (hm : behindInMarks op b = false) : DE X (.Compare a [op] [b] pos) ρ M Q := two (ta := wpE X a) h (pe_cmpR ho sE sE hm)
theorem dt_cmp {op : CmpOp} {r : R2} {Q : Bool → Mem → Prop} (ho : OpR X (compareOp op) r) (h : DE X a ρ M fun d1 M1 => DE X b ρ M1 fun d2 M2 => ∀ F H v1 v2, EvOk X.K F v1 d1 → EvOk X.K F v2 d2 → WD X.K F M2 H → ∀ R, Lk X F (fun d M' => ∃ k, d = B k ∧ Q k M') R → r v1 v2 H R)
    (hm : behindInMarks op b = false) : DT X (.Compare a [op] [b] pos) ρ M Q := fun σ H F ho' hw R k => by
  refine toT (pt_cmpR ho sE sE hm) ?_
  refine h σ H F ho' hw _ fun v1 d1 F1 M1 H1 q1 s1 w1 x1 => ?_
  refine q1 σ H1 F1 (ho'.mono s1) w1 _ fun v2 d2 F2 M2 H2 q2 s2 w2 x2 => ?_
  refine q2 F2 H2 v1 v2 (x1.mono s2) x2 w2 _ fun v d F3 M3 H3 q3 s3 w3 x3 => ?_
  obtain ⟨c, rfl, q⟩ := q3
  cases x3
  exact ⟨c, rfl, k c F3 M3 H3 q ((s1.trans s2).trans s3) w3⟩
/-- an int comparison's rule, told for both -/
def CmpI (X : Cx) (op : CmpOp) (g : Int → Int → Bool) : Prop := OpR X (compareOp op) (rI0 fun i j => .bl (g i j))
theorem ci_lt : CmpI X .Lt (fun i j => decide (i < j)) := op_lt
theorem ci_le : CmpI X .LtE (fun i j => decide (i ≤ j)) := op_le
theorem ci_gt : CmpI X .Gt (fun i j => decide (j < i)) := op_gt
theorem ci_ge : CmpI X .GtE (fun i j => decide (j ≤ i)) := op_ge
theorem ci_eq : CmpI X .Eq (fun i j => decide (i = j)) := by
  intro pins s σ H x y v u Q I rx ry h
  obtain ⟨i, j, rfl, rfl, q⟩ := h
  refine op_eq pins s σ H _ _ v u Q I rx ry ⟨rfl, ?_⟩
  rw [show decide (V.int i = V.int j) = decide (i = j) by rw [dec_int]; exact Bool.beq_eq_decide_eq i j]
  exact q
theorem ci_ne : CmpI X .NotEq (fun i j => !decide (i = j)) := by
  intro pins s σ H x y v u Q I rx ry h
  obtain ⟨i, j, rfl, rfl, q⟩ := h
  refine op_ne pins s σ H _ _ v u Q I rx ry ⟨rfl, ?_⟩
  rw [show decide (V.int i = V.int j) = decide (i = j) by rw [dec_int]; exact Bool.beq_eq_decide_eq i j]
  exact q
theorem de_cmpI {op : CmpOp} {g : Int → Int → Bool} (hc : CmpI X op g) (h : DE X a ρ M fun d1 M1 => DE X b ρ M1 fun d2 M2 => ∃ i j, d1 = I i ∧ d2 = I j ∧ Q (B (g i j)) M2) (hm : behindInMarks op b = false := by exact nomark _) : DE X (.Compare a [op] [b] pos) ρ M Q := by
  refine de_cmp hc (h.imp fun d1 M1 h1 => h1.imp fun d2 M2 h2 => ?_) hm
  obtain ⟨i, j, rfl, rfl, q⟩ := h2
  intro F H v1 v2 x1 x2 w R k
  cases x1
  cases x2
  exact ⟨i, j, rfl, rfl, k _ _ F M2 H q (Same.refl F) w (.bl _)⟩
theorem dt_cmpI {op : CmpOp} {g : Int → Int → Bool} {Q : Bool → Mem → Prop} (hc : CmpI X op g) (h : DE X a ρ M fun d1 M1 => DE X b ρ M1 fun d2 M2 => ∃ i j, d1 = I i ∧ d2 = I j ∧ Q (g i j) M2) (hm : behindInMarks op b = false := by exact nomark _) : DT X (.Compare a [op] [b] pos) ρ M Q := by
  refine dt_cmp hc (h.imp fun d1 M1 h1 => h1.imp fun d2 M2 h2 => ?_) hm
  obtain ⟨i, j, rfl, rfl, q⟩ := h2
  intro F H v1 v2 x1 x2 w R k
  cases x1
  cases x2
  exact ⟨i, j, rfl, rfl, k _ _ F M2 H ⟨_, rfl, q⟩ (Same.refl F) w (.bl _)⟩
/-- == and != of data -/
theorem de_eqD (hu : X.A.units + 64 < cLine) (h : DE X a ρ M fun d1 M1 => DE X b ρ M1 fun d2 M2 => ∃ p q, d1 = .d p ∧ d2 = .d q ∧ SeqAt.shaped p = true ∧ SeqAt.shaped q = true ∧ Q (B (PyData.eqv p q)) M2) : DE X (.Compare a [.Eq] [b] pos) ρ M Q := by
  refine de_cmp (op_eqD hu) (h.imp fun d1 M1 h1 => h1.imp fun d2 M2 h2 => ?_) (nomark _)
  obtain ⟨p, p', rfl, rfl, s1, s2, q⟩ := h2
  intro F H v1 v2 x1 x2 w R k
  exact ⟨p, p', dp_mono w.ext _ _ x1, dp_mono w.ext _ _ x2, s1, s2, k _ _ F M2 H q (Same.refl F) w (.bl _)⟩
theorem de_neD (hu : X.A.units + 64 < cLine) (h : DE X a ρ M fun d1 M1 => DE X b ρ M1 fun d2 M2 => ∃ p q, d1 = .d p ∧ d2 = .d q ∧ SeqAt.shaped p = true ∧ SeqAt.shaped q = true ∧ Q (B (!PyData.eqv p q)) M2) : DE X (.Compare a [.NotEq] [b] pos) ρ M Q := by
  refine de_cmp (op_neD hu) (h.imp fun d1 M1 h1 => h1.imp fun d2 M2 h2 => ?_) (nomark _)
  obtain ⟨p, p', rfl, rfl, s1, s2, q⟩ := h2
  intro F H v1 v2 x1 x2 w R k
  exact ⟨p, p', dp_mono w.ext _ _ x1, dp_mono w.ext _ _ x2, s1, s2, k _ _ F M2 H q (Same.refl F) w (.bl _)⟩
theorem dt_eqD {Q : Bool → Mem → Prop} (hu : X.A.units + 64 < cLine) (h : DE X a ρ M fun d1 M1 => DE X b ρ M1 fun d2 M2 => ∃ p q, d1 = .d p ∧ d2 = .d q ∧ SeqAt.shaped p = true ∧ SeqAt.shaped q = true ∧ Q (PyData.eqv p q) M2) : DT X (.Compare a [.Eq] [b] pos) ρ M Q := by
  refine dt_cmp (op_eqD hu) (h.imp fun d1 M1 h1 => h1.imp fun d2 M2 h2 => ?_) (nomark _)
  obtain ⟨p, p', rfl, rfl, s1, s2, q⟩ := h2
  intro F H v1 v2 x1 x2 w R k
  exact ⟨p, p', dp_mono w.ext _ _ x1, dp_mono w.ext _ _ x2, s1, s2, k _ _ F M2 H ⟨_, rfl, q⟩ (Same.refl F) w (.bl _)⟩
theorem dt_neD {Q : Bool → Mem → Prop} (hu : X.A.units + 64 < cLine) (h : DE X a ρ M fun d1 M1 => DE X b ρ M1 fun d2 M2 => ∃ p q, d1 = .d p ∧ d2 = .d q ∧ SeqAt.shaped p = true ∧ SeqAt.shaped q = true ∧ Q (!PyData.eqv p q) M2) : DT X (.Compare a [.NotEq] [b] pos) ρ M Q := by
  refine dt_cmp (op_neD hu) (h.imp fun d1 M1 h1 => h1.imp fun d2 M2 h2 => ?_) (nomark _)
  obtain ⟨p, p', rfl, rfl, s1, s2, q⟩ := h2
  intro F H v1 v2 x1 x2 w R k
  exact ⟨p, p', dp_mono w.ext _ _ x1, dp_mono w.ext _ _ x2, s1, s2, k _ _ F M2 H ⟨_, rfl, q⟩ (Same.refl F) w (.bl _)⟩
/-- is None -/
def isNone : PyData → Bool
  | .none => true
  | _ => false
theorem dp_none {K : PySem.W.Frag} {F : Hp} {v : V} {p : PyData} (h : Dp K F v p) : decide (v = .non) = isNone p := by
  cases h <;> simp [isNone]
theorem de_isN {j p'} (h : DE X a ρ M fun d1 M1 => ∃ p, d1 = .d p ∧ Q (B (isNone p)) M1) : DE X (.Compare a [.Is] [.Constant .none j p'] pos) ρ M Q := by
  refine de_cmp op_isN (h.imp fun d1 M1 h1 => de_non ?_) (nomark _)
  obtain ⟨p, rfl, q⟩ := h1
  intro F H v1 v2 x1 x2 w R k
  cases x2
  refine ⟨rfl, ?_⟩
  rw [dp_none x1]
  exact k _ _ F M1 H q (Same.refl F) w (.bl _)
theorem de_isnotN {j p'} (h : DE X a ρ M fun d1 M1 => ∃ p, d1 = .d p ∧ Q (B (!isNone p)) M1) : DE X (.Compare a [.IsNot] [.Constant .none j p'] pos) ρ M Q := by
  refine de_cmp op_notN (h.imp fun d1 M1 h1 => de_non ?_) (nomark _)
  obtain ⟨p, rfl, q⟩ := h1
  intro F H v1 v2 x1 x2 w R k
  cases x2
  refine ⟨rfl, ?_⟩
  rw [dp_none x1]
  exact k _ _ F M1 H q (Same.refl F) w (.bl _)
theorem dt_isN {j p'} {Q : Bool → Mem → Prop} (h : DE X a ρ M fun d1 M1 => ∃ p, d1 = .d p ∧ Q (isNone p) M1) : DT X (.Compare a [.Is] [.Constant .none j p'] pos) ρ M Q := by
  refine dt_cmp op_isN (h.imp fun d1 M1 h1 => de_non ?_) (nomark _)
  obtain ⟨p, rfl, q⟩ := h1
  intro F H v1 v2 x1 x2 w R k
  cases x2
  refine ⟨rfl, ?_⟩
  rw [dp_none x1]
  exact k _ _ F M1 H ⟨_, rfl, q⟩ (Same.refl F) w (.bl _)
theorem dt_isnotN {j p'} {Q : Bool → Mem → Prop} (h : DE X a ρ M fun d1 M1 => ∃ p, d1 = .d p ∧ Q (!isNone p) M1) : DT X (.Compare a [.IsNot] [.Constant .none j p'] pos) ρ M Q := by
  refine dt_cmp op_notN (h.imp fun d1 M1 h1 => de_non ?_) (nomark _)
  obtain ⟨p, rfl, q⟩ := h1
  intro F H v1 v2 x1 x2 w R k
  cases x2
  refine ⟨rfl, ?_⟩
  rw [dp_none x1]
  exact k _ _ F M1 H ⟨_, rfl, q⟩ (Same.refl F) w (.bl _)
/-- is True, is not True .. -/
theorem dt_isB {Q : Bool → Mem → Prop} (h : DE X a ρ M fun d1 M1 => DE X b ρ M1 fun d2 M2 => ∃ i j, d1 = B i ∧ d2 = B j ∧ Q (decide (i = j)) M2) : DT X (.Compare a [.Is] [b] pos) ρ M Q := by
  refine dt_cmp op_isBl (h.imp fun d1 M1 h1 => h1.imp fun d2 M2 h2 => ?_) (nomark _)
  obtain ⟨i, j, rfl, rfl, q⟩ := h2
  intro F H v1 v2 x1 x2 w R k
  cases x1
  cases x2
  exact ⟨i, j, rfl, rfl, k _ _ F M2 H ⟨_, rfl, q⟩ (Same.refl F) w (.bl _)⟩
theorem dt_notB {Q : Bool → Mem → Prop} (h : DE X a ρ M fun d1 M1 => DE X b ρ M1 fun d2 M2 => ∃ i j, d1 = B i ∧ d2 = B j ∧ Q (!decide (i = j)) M2) : DT X (.Compare a [.IsNot] [b] pos) ρ M Q := by
  refine dt_cmp op_notBl (h.imp fun d1 M1 h1 => h1.imp fun d2 M2 h2 => ?_) (nomark _)
  obtain ⟨i, j, rfl, rfl, q⟩ := h2
  intro F H v1 v2 x1 x2 w R k
  cases x1
  cases x2
  exact ⟨i, j, rfl, rfl, k _ _ F M2 H ⟨_, rfl, q⟩ (Same.refl F) w (.bl _)⟩

/-! and, or, not -/
variable {rest : List Expr} {QT : Bool → Mem → Prop}
theorem DW.dt (h : DW X e ρ M QT) : DT X e ρ M QT := fun σ H F ho hw R k pins s I => h σ H F ho hw R k _ pins s I
theorem dw_and1 (h : DT X a ρ M QT) : DW X (.BoolOp .And [a] pos) ρ M QT := fun σ H F ho hw R k => toW (pw_and1 sT) (h σ H F ho hw R k)
theorem dw_or1 (h : DT X a ρ M QT) : DW X (.BoolOp .Or [a] pos) ρ M QT := fun σ H F ho hw R k => toW (pw_or1 sT) (h σ H F ho hw R k)
theorem dw_and (h : DT X a ρ M fun c M1 => if c = true then DW X (.BoolOp .And (b :: rest) pos) ρ M1 QT else QT false M1) : DW X (.BoolOp .And (a :: b :: rest) pos) ρ M QT := fun σ H F ho hw R k => by
  refine toW (pw_and sT sW) ?_
  refine h σ H F ho hw _ fun c F1 M1 H1 q1 s1 w1 => ?_
  cases c with
  | true => exact q1 σ H1 F1 (ho.mono s1) w1 R (k.mono s1)
  | false => exact k false F1 M1 H1 q1 s1 w1
theorem dw_or (h : DT X a ρ M fun c M1 => if c = true then QT true M1 else DW X (.BoolOp .Or (b :: rest) pos) ρ M1 QT) : DW X (.BoolOp .Or (a :: b :: rest) pos) ρ M QT := fun σ H F ho hw R k => by
  refine toW (pw_or sT sW) ?_
  refine h σ H F ho hw _ fun c F1 M1 H1 q1 s1 w1 => ?_
  cases c with
  | true => exact k true F1 M1 H1 q1 s1 w1
  | false => exact q1 σ H1 F1 (ho.mono s1) w1 R (k.mono s1)
theorem dt_not (h : DT X a ρ M fun c M1 => QT (!c) M1) : DT X (.UnaryOp .Not a pos) ρ M QT := fun σ H F ho hw R k => toT (pt_not sT) (h σ H F ho hw _ fun c F1 M1 H1 q1 s1 w1 => k (!c) F1 M1 H1 q1 s1 w1)
theorem de_one {op} (h : DE X a ρ M Q) : DE X (.BoolOp op [a] pos) ρ M Q := fun σ H F ho hw R k => toE (pe_one sE) (h σ H F ho hw R k)
theorem de_and (h : DE X a ρ M fun d M1 => ∃ c, d = B c ∧ if c = true then DE X (.BoolOp .And (b :: rest) pos) ρ M1 Q else Q (B false) M1) : DE X (.BoolOp .And (a :: b :: rest) pos) ρ M Q := fun σ H F ho hw R k => by
  refine toE (pe_and sE sE) ?_
  refine h σ H F ho hw _ fun v1 d1 F1 M1 H1 q1 s1 w1 x1 => ?_
  obtain ⟨c, rfl, q⟩ := q1
  cases x1
  refine ⟨c, rfl, ?_⟩
  cases c with
  | true => exact q σ H1 F1 (ho.mono s1) w1 R (k.mono s1)
  | false => exact k _ _ F1 M1 H1 q s1 w1 (.bl _)
theorem de_or (h : DE X a ρ M fun d M1 => ∃ c, d = B c ∧ if c = true then Q (B true) M1 else DE X (.BoolOp .Or (b :: rest) pos) ρ M1 Q) : DE X (.BoolOp .Or (a :: b :: rest) pos) ρ M Q := fun σ H F ho hw R k => by
  refine toE (pe_or sE sE) ?_
  refine h σ H F ho hw _ fun v1 d1 F1 M1 H1 q1 s1 w1 x1 => ?_
  obtain ⟨c, rfl, q⟩ := q1
  cases x1
  refine ⟨c, rfl, ?_⟩
  cases c with
  | true => exact k _ _ F1 M1 H1 q s1 w1 (.bl _)
  | false => exact q σ H1 F1 (ho.mono s1) w1 R (k.mono s1)
theorem de_not (h : DE X a ρ M fun d M1 => ∃ c, d = B c ∧ Q (B (!c)) M1) : DE X (.UnaryOp .Not a pos) ρ M Q := fun σ H F ho hw R k => by
  refine toE (pe_not sE) ?_
  refine h σ H F ho hw _ fun v1 d1 F1 M1 H1 q1 s1 w1 x1 => ?_
  obtain ⟨c, rfl, q⟩ := q1
  cases x1
  exact ⟨c, rfl, k _ _ F1 M1 H1 q s1 w1 (.bl _)⟩
theorem de_if (h : DT X c ρ M fun k M1 => if k = true then DE X a ρ M1 Q else DE X b ρ M1 Q) : DE X (.IfExp c a b pos) ρ M Q := fun σ H F ho hw R k => by
  refine toE (pe_ifExp sT sE sE) ?_
  refine h σ H F ho hw _ fun c F1 M1 H1 q1 s1 w1 => ?_
  cases c with
  | true => exact q1 σ H1 F1 (ho.mono s1) w1 R (k.mono s1)
  | false => exact q1 σ H1 F1 (ho.mono s1) w1 R (k.mono s1)
/-- a chain a < b < c -/
theorem de_chain {op op' : CmpOp} {g g' : Int → Int → Bool} (hc : CmpI X op g) (hc' : CmpI X op' g')
    (h : DE X a ρ M fun d1 M1 => DE X b ρ M1 fun d2 M2 => ∃ i j, d1 = I i ∧ d2 = I j ∧ if g i j = true then DE X c ρ M2 (fun d3 M3 => ∃ l, d3 = I l ∧ Q (B (g' j l)) M3) else Q (B false) M2)
    (hm : lastMarks [op, op'] [b, c] = false := by with_unfolding_all rfl) : DE X (.Compare a [op, op'] [b, c] pos) ρ M Q := fun σ H F ho hw R k => by
  refine toE (pe_chain hc hc' sE sE sE hm) ?_
  refine h σ H F ho hw _ fun v1 d1 F1 M1 H1 q1 s1 w1 x1 => ?_
  refine q1 σ H1 F1 (ho.mono s1) w1 _ fun v2 d2 F2 M2 H2 q2 s2 w2 x2 => ?_
  obtain ⟨i, j, rfl, rfl, q⟩ := q2
  cases x1
  cases x2
  refine ⟨i, j, rfl, rfl, _, rfl, ?_⟩
  by_cases hg : g i j = true
  · rw [if_pos hg] at q ⊢
    refine q σ H2 F2 (ho.mono (s1.trans s2)) w2 _ fun v3 d3 F3 M3 H3 q3 s3 w3 x3 => ?_
    obtain ⟨l, rfl, q3⟩ := q3
    cases x3
    exact ⟨j, l, rfl, rfl, k _ _ F3 M3 H3 q3 ((s1.trans s2).trans s3) w3 (.bl _)⟩
  · rw [if_neg hg] at q ⊢
    exact k _ _ F2 M2 H2 q (s1.trans s2) w2 (.bl _)
end
end DL
namespace DL
open PySem PySem.Spec L2
section
variable {X : Cx} {e a b c : Expr} {es : List Expr} {st : Stmt} {sts : List Stmt} {pos : Pos} {ρ : Ev} {M : Mem} {Q : QE} {D : DEnds}
/-! ### targets -/
theorem dg_name (i : Nat) {x : Str} {d : EV} {Q : QM} (q : Q (ρ.set i (some d)) M) (hN : X.N.Nodup) (hi : X.N[i]? = some x := by rfl) (hx : Loc X.env.scope x := by first | exact Or.inl rfl | exact Or.inr rfl)
    (hf : X.fn x = true ∨ X.env.scope.names.lookup x = some .local := by first | exact .inl rfl | exact .inr rfl) : DG X (.Name x pos) d ρ M Q := fun σ H F v ho hw hv R k =>
  toG (pg_name hN hi hx hf) (k _ _ F M H q (Same.refl F) hw (ho.set i hv))
theorem dgs_nil {Q : QM} (q : Q ρ M) : DGs X [] [] ρ M Q := fun σ H F vs ho hw hv R k => by
  cases hv
  exact toGs pgs_nil ⟨rfl, k _ _ F M H q (Same.refl F) hw ho⟩
theorem dgs_cons {Q : QM} {d : EV} {ds : List EV} (h : DG X e d ρ M fun ρ1 M1 => DGs X es ds ρ1 M1 Q) (hs : (assignEach (e :: es) X.env).map (·.2) = assign e X.env :: (assignEach es X.env).map (·.2) := by rfl) : DGs X (e :: es) (d :: ds) ρ M Q := fun σ H F vs ho hw hv R k => by
  cases hv with
  | cons h1 h2 =>
    refine toGs (pgs_cons sG sGs hs) ⟨_, _, rfl, ?_⟩
    refine h σ H F _ ho hw h1 _ fun σ' ρ' F' M' H' q s w o => ?_
    exact q σ' H' F' _ o w (h2.mono s) R (k.mono s)
theorem evs_map : ∀ {K : PySem.W.Frag} {F : Hp} {vs : List V} {ps : List PyData}, DpAll K F vs ps → EvsOk K F vs (ps.map EV.d)
  | _, _, _, _, .nil => .nil
  | _, _, _, _, .cons h t => .cons h (evs_map t)
theorem dg_tup {Q : QM} {ps : List PyData} {k n : Nat} (hc : X.calm = true) (h : DGs X es (ps.map EV.d) ρ M Q) (hl : ps.length = n)
    (hn : (assignEach es X.env).length = n := by rfl) (hst : (assignEach es X.env).findIdx? (·.1) = none := by rfl) : DG X (.Tuple es k pos) (T ps) ρ M Q := fun σ H F v ho hw hv R kk => by
  cases hv with
  | tup hs ht =>
    refine toG (pg_tup hc sGs hn hst) ⟨_, _, rfl, sqT_mono hw.ext hs, by rw [dps_len ht, hl], ?_⟩
    exact h σ H F _ ho hw (evs_map ht) R kk
/-- l[i] = .. -/
theorem dg_setO {Q : QM} {p : PyData} (h : DE X a ρ M fun d1 M1 => DE X b ρ M1 fun d2 M2 => ∃ l ps i j, d1 = .o l ∧ M2 l = some (.lst ps) ∧ d2 = I i ∧ ixN ps.length i = some j ∧ Q ρ (updM M2 l (.lst (ps.set j p))))
    (ha : ∀ v, assign (.Subscript a b pos) X.env v = (do
      let ov ← holding [v] (eval a X.env)
      let iv ← holding [v, ov] (eval b X.env)
      standAt pos
      holding [v, ov, iv] (setItem ov iv v)
      release [v, ov, iv] []) := by intro _; rfl) : DG X (.Subscript a b pos) (.d p) ρ M Q := fun σ H F v ho hw hv R k => by
  refine toG (pg_sub sE sE set_list ha) ?_
  refine h σ H F ho hw _ fun v1 d1 F1 M1 H1 q1 s1 w1 x1 => ?_
  refine q1 σ H1 F1 (ho.mono s1) w1 _ fun v2 d2 F2 M2 H2 q2 s2 w2 x2 => ?_
  obtain ⟨l, ps, i, j, rfl, hl, rfl, hj, q⟩ := q2
  cases (show v1 = V.ref l from x1)
  cases x2
  obtain ⟨hF, vs, e, ht⟩ := w2.mem l _ hl
  refine ⟨l, vs, i, j, rfl, rfl, e, by rw [dps_len ht]; exact hj, ?_⟩
  exact k _ _ F2 _ _ q (s1.trans s2) (w2.put hl ⟨_, rfl, dps_set j ht (dp_mono (s1.trans s2) _ _ hv)⟩) (ho.mono (s1.trans s2))

/-! ### statements -/
def sq (D : DEnds) (f : QM) : DEnds := ⟨f, D.rt, D.bk, D.ct⟩
def lp (D : DEnds) (f : QM) : DEnds := ⟨f, D.rt, D.nx, f⟩
theorem dss_nil (q : D.nx ρ M) : DSs X [] ρ M D := fun σ H F ho hw R k => toSs pss_nil (k.nx _ _ F M H q (Same.refl F) hw ho)
theorem dss_cons (h : DS X st ρ M (sq D fun ρ1 M1 => DSs X sts ρ1 M1 D)) : DSs X (st :: sts) ρ M D := fun σ H F ho hw R k => by
  refine toSs (pss_cons sS sSs) ?_
  refine h σ H F ho hw _ ⟨fun σ' ρ' F' M' H' q s w o => ?_, k.rt, k.bk, k.ct⟩
  exact q σ' H' F' o w R (k.mono s)
theorem ds_imp {D' : DEnds} (h : DS X st ρ M D) (h1 : ∀ ρ M, D.nx ρ M → D'.nx ρ M) (h2 : ∀ d M, D.rt d M → D'.rt d M) (h3 : ∀ ρ M, D.bk ρ M → D'.bk ρ M) (h4 : ∀ ρ M, D.ct ρ M → D'.ct ρ M) : DS X st ρ M D' := fun σ H F ho hw R k =>
  h σ H F ho hw R ⟨fun σ' ρ' F' M' H' q s w o => k.nx σ' ρ' F' M' H' (h1 _ _ q) s w o, fun σ' ρ' F' M' H' q s w o => k.rt σ' ρ' F' M' H' (h2 _ _ q) s w o,
    fun σ' ρ' F' M' H' q s w o => k.bk σ' ρ' F' M' H' (h3 _ _ q) s w o, fun σ' ρ' F' M' H' q s w o => k.ct σ' ρ' F' M' H' (h4 _ _ q) s w o⟩
theorem dss_cut (Mid : QM) (h : DS X st ρ M (sq D Mid)) (h2 : ∀ ρ1 M1, Mid ρ1 M1 → DSs X sts ρ1 M1 D) : DSs X (st :: sts) ρ M D :=
  dss_cons (ds_imp h (fun ρ1 M1 q => h2 ρ1 M1 q) (fun _ _ q => q) (fun _ _ q => q) fun _ _ q => q)
/-- a list of the memory is data from here on -/
theorem dss_freeze (i : Nat) {l : Addr} {ps : List PyData} (hi : ρ[i]? = some (some (.o l))) (hl : M l = some (.lst ps)) (h : DSs X sts (ρ.set i (some (L ps))) (delM M l) D) : DSs X sts ρ M D := fun σ H F ho hw R k => by
  obtain ⟨F', s, w, x⟩ := hw.freeze hl
  obtain ⟨v, e1, e2⟩ := ho.at_ i _ hi
  cases (show v = V.ref l from e2)
  have ho' := (ho.mono s).set i (v := .ref l) (d := L ps) x
  have es : σ.set i (some (V.ref l)) = σ := by
    apply List.ext_getElem?
    intro j
    by_cases hj : i = j
    · subst hj
      rw [List.getElem?_set_self (List.getElem?_eq_some_iff.mp e1).1, e1]
    · rw [List.getElem?_set_ne hj]
  rw [es] at ho'
  exact h σ H F' ho' w R (k.mono s)
theorem ds_set (i : Nat) {x : Str} {pos' : Pos} (hN : X.N.Nodup) (h : DE X e ρ M fun d M1 => D.nx (ρ.set i (some d)) M1) (hi : X.N[i]? = some x := by rfl) (hx : Loc X.env.scope x := by first | exact Or.inl rfl | exact Or.inr rfl)
    (hs : swapsWith e (some (.Name x pos')) pos.line X.env = pure false := by rfl) (hf : X.fn x = true ∨ X.env.scope.names.lookup x = some .local := by first | exact .inl rfl | exact .inr rfl) : DS X (.Assign [.Name x pos'] e pos) ρ M D := fun σ H F ho hw R k => by
  refine toS (ps_set hN hi hx sE hs hf) ?_
  exact h σ H F ho hw _ fun v d F1 M1 H1 q s w x => k.nx _ _ F1 M1 H1 q s w ((ho.mono s).set i x)
theorem ds_asg {tg : Expr} (h : DE X e ρ M fun d M1 => DG X tg d ρ M1 D.nx) (hs : swapsWithSole [tg] e pos.line X.env = pure false := by rfl) (hw : swappedStores [tg] e X.env = pure none := by rfl)
    (h1 : (assignEach [tg] X.env).map (·.2) = [assign tg X.env] := by rfl) : DS X (.Assign [tg] e pos) ρ M D := fun σ H F ho hw' R k => by
  refine toS (ps_asg sE sG hs hw h1) ?_
  exact h σ H F ho hw' _ fun v d F1 M1 H1 q s w x => q σ H1 F1 v (ho.mono s) w x _ (k.nx.mono s)
theorem ds_par (i j : Nat) {x y : Str} {px py pt : Pos} {kt k2 pt2} (hN : X.N.Nodup) (h : DA X [a, b] ρ M fun ds M1 => ∃ d1 d2, ds = [d1, d2] ∧ D.nx ((ρ.set i (some d1)).set j (some d2)) M1)
    (hc : X.calm = true := by rfl) (hi : X.N[i]? = some x := by rfl) (hj : X.N[j]? = some y := by rfl) (hij : i ≠ j := by decide)
    (hx : X.env.scope.names.lookup x = some .local := by rfl) (hy : X.env.scope.names.lookup y = some .local := by rfl)
    (hw : swappedStores [.Tuple [.Name x px, .Name y py] kt pt] (.Tuple [a, b] k2 pt2) X.env = pure (some [x, y]) := by rfl)
    (hs : swapsWithSole [.Tuple [.Name x px, .Name y py] kt pt] (.Tuple [a, b] k2 pt2) pos.line X.env = pure false := by rfl) :
    DS X (.Assign [.Tuple [.Name x px, .Name y py] kt pt] (.Tuple [a, b] k2 pt2) pos) ρ M D := fun σ H F ho hw' R k => by
  refine toS (ps_par hc hN hi hj hij hx hy sA hw hs) ?_
  refine h σ H F ho hw' _ fun vs ds F1 M1 H1 q s w x => ?_
  obtain ⟨d1, d2, rfl, q⟩ := q
  cases x with
  | cons x1 t =>
    cases t with
    | cons x2 t =>
      cases t
      exact ⟨_, _, rfl, k.nx _ _ F1 M1 H1 q s w (((ho.mono s).set i x1).set j x2)⟩
theorem ds_par3 (i j l : Nat) {x y z : Str} {px py pz pt : Pos} {kt k2 pt2} (hN : X.N.Nodup) (h : DA X [a, b, c] ρ M fun ds M1 => ∃ d1 d2 d3, ds = [d1, d2, d3] ∧ D.nx (((ρ.set i (some d1)).set j (some d2)).set l (some d3)) M1)
    (hc : X.calm = true := by rfl) (hi : X.N[i]? = some x := by rfl) (hj : X.N[j]? = some y := by rfl) (hl : X.N[l]? = some z := by rfl) (hij : i ≠ j := by decide) (hil : i ≠ l := by decide) (hjl : j ≠ l := by decide)
    (hx : X.env.scope.names.lookup x = some .local := by rfl) (hy : X.env.scope.names.lookup y = some .local := by rfl) (hz : X.env.scope.names.lookup z = some .local := by rfl)
    (hw : swappedStores [.Tuple [.Name x px, .Name y py, .Name z pz] kt pt] (.Tuple [a, b, c] k2 pt2) X.env = pure (some [x, y, z]) := by rfl)
    (hs : swapsWithSole [.Tuple [.Name x px, .Name y py, .Name z pz] kt pt] (.Tuple [a, b, c] k2 pt2) pos.line X.env = pure false := by rfl) :
    DS X (.Assign [.Tuple [.Name x px, .Name y py, .Name z pz] kt pt] (.Tuple [a, b, c] k2 pt2) pos) ρ M D := fun σ H F ho hw' R k => by
  refine toS (ps_par3 hc hN hi hj hl hij hil hjl hx hy hz sA hw hs) ?_
  refine h σ H F ho hw' _ fun vs ds F1 M1 H1 q s w x => ?_
  obtain ⟨d1, d2, d3, rfl, q⟩ := q
  cases x with
  | cons x1 t =>
    cases t with
    | cons x2 t =>
      cases t with
      | cons x3 t =>
        cases t
        exact ⟨_, _, _, rfl, k.nx _ _ F1 M1 H1 q s w ((((ho.mono s).set i x1).set j x2).set l x3)⟩
theorem ds_ret (h : DE X e ρ M D.rt) : DS X (.Return (some e) pos) ρ M D := fun σ H F ho hw R k => toS (ps_ret sE) (h σ H F ho hw _ k.rt)
theorem ds_retN (q : D.rt N0 M) : DS X (.Return none pos) ρ M D := fun σ H F ho hw R k => toS ps_retN (k.rt _ _ F M H q (Same.refl F) hw .non)
theorem ds_pass (q : D.nx ρ M) : DS X (.Pass pos) ρ M D := fun σ H F ho hw R k => toS ps_pass (k.nx _ _ F M H q (Same.refl F) hw ho)
theorem ds_brk (q : D.bk ρ M) : DS X (.Break pos) ρ M D := fun σ H F ho hw R k => toS ps_break (k.bk _ _ F M H q (Same.refl F) hw ho)
theorem ds_cont (q : D.ct ρ M) : DS X (.Continue pos) ρ M D := fun σ H F ho hw R k => toS ps_continue (k.ct _ _ F M H q (Same.refl F) hw ho)
theorem ds_expr (h : DE X e ρ M fun _ M1 => D.nx ρ M1) (hs : swapsWith e none pos.line X.env = pure false := by rfl) : DS X (.Expr e pos) ρ M D := fun σ H F ho hw R k => by
  refine toS (ps_expr sE hs) ?_
  exact h σ H F ho hw _ fun v d F1 M1 H1 q s w x => k.nx _ _ F1 M1 H1 q s w (ho.mono s)
theorem ds_if {A B : List Stmt} (h : DT X c ρ M fun k M1 => if k = true then DSs X A ρ M1 D else DSs X B ρ M1 D) : DS X (.If c A B pos) ρ M D := fun σ H F ho hw R k => by
  refine toS (ps_if sT sSs sSs) ?_
  refine h σ H F ho hw _ fun c F1 M1 H1 q1 s1 w1 => ?_
  cases c with
  | true => exact q1 σ H1 F1 (ho.mono s1) w1 R (k.mono s1)
  | false => exact q1 σ H1 F1 (ho.mono s1) w1 R (k.mono s1)
/-- a test that does not hold here, and what follows -/
theorem dss_guard {A : List Stmt} {sts : List Stmt} (h : DT X c ρ M fun k M1 => k = false ∧ M1 = M) (q : DSs X sts ρ M D) : DSs X (.If c A [] pos :: sts) ρ M D :=
  dss_cons (ds_if fun σ H F ho hw R k => h σ H F ho hw R fun b F' M' H' e s w => k b F' M' H' (by
    obtain ⟨rfl, rfl⟩ := e
    exact iteF (dss_nil q)) s w)
theorem ds_while {body : List Stmt} (W : Nat → QM) (m0 : Nat) (h0 : W m0 ρ M)
    (turn : ∀ m ρ1 M1, W m ρ1 M1 → DT X c ρ1 M1 fun k M2 => if k = true then DSs X body ρ1 M2 (lp D fun ρ' M' => ∃ m', m' < m ∧ W m' ρ' M') else D.nx ρ1 M2)
    (hp : PassesOwn (model X.prog X.w) X.A X.env X.xe := by exact PassesOwn.never) : DS X (.While c body [] pos) ρ M D := fun σ H F ho hw R k => by
  refine toS (ps_while hp sT sSs) ?_
  refine ⟨fun m σ' H' => ∃ ρ' F' M', W m ρ' M' ∧ Same F F' ∧ WD X.K F' M' H' ∧ EnvOk X.K F' σ' ρ', ⟨m0, ρ, F, M, h0, Same.refl F, hw, ho⟩, ?_⟩
  rintro m σ1 H1 ⟨ρ1, F1, M1, hW, s1, w1, o1⟩
  refine turn m ρ1 M1 hW σ1 H1 F1 o1 w1 _ fun b F2 M2 H2 q2 s2 w2 => ?_
  cases b with
  | true =>
    rw [if_pos rfl]
    refine ⟨fun σ' H' => ∃ m', m' < m ∧ ∃ ρ' F' M', W m' ρ' M' ∧ Same F F' ∧ WD X.K F' M' H' ∧ EnvOk X.K F' σ' ρ', fun σ' H' h => h, ?_⟩
    have q2 : DSs X body ρ1 M2 _ := q2
    refine q2 σ1 H2 F2 (o1.mono s2) w2 _ ⟨?_, k.rt.mono (s1.trans s2), k.nx.mono (s1.trans s2), ?_⟩
    · rintro σ' ρ' F' M' H' ⟨m', hm, hW'⟩ s w o
      exact ⟨m', hm, ρ', F', M', hW', (s1.trans s2).trans s, w, o⟩
    · rintro σ' ρ' F' M' H' ⟨m', hm, hW'⟩ s w o
      exact ⟨m', hm, ρ', F', M', hW', (s1.trans s2).trans s, w, o⟩
  | false =>
    rw [if_neg Bool.false_ne_true]
    exact k.nx _ _ F2 M2 H2 q2 (s1.trans s2) w2 (o1.mono s2)

/-! ### for -/
/-- one turn and the end, from an invariant by the turn -/
def Turns (X : Cx) (tg : Expr) (body : List Stmt) (D : DEnds) (n : Nat) (item : Nat → EV → Prop) (W : Nat → QM) : Prop :=
  (∀ i ρ' M' d, i < n → item i d → W i ρ' M' → DG X tg d ρ' M' fun ρ2 M2 => DSs X body ρ2 M2 (lp D (W (i + 1)))) ∧ ∀ ρ' M', W n ρ' M' → D.nx ρ' M'
/-- from a walk's steps -/
theorem turns_range {tg : Expr} {body : List Stmt} {W : Nat → QM} {R : Ends} {lo : Int} {n : Nat} {σ : St} {H : Hp} {F : Hp} (t : Turns X tg body D n (fun i d => d = I (lo + i)) W) (h0 : W 0 ρ M) (ho : EnvOk X.K F σ ρ) (hw : WD X.K F M H) (k : LkD X F D R) :
    ∃ V : Nat → Nat → St → Hp → Prop, (∃ m, V 0 m σ H) ∧ ∀ i m σ H, V i m σ H →
      ((Itr lo n).stop i H ∧ R.nx σ H) ∨ ((Itr lo n).go i H ∧ ∃ N : St → Hp → Prop, (∀ σ' H', N σ' H' → ∃ m', m' < m ∧ V (i + 1) m' σ' H') ∧ ∀ x H', (Itr lo n).yld i H x H' → wpG X tg x σ H' fun σ2 H2 => wpSs X body { R with nx := N, ct := N, bk := R.nx } σ2 H2) := by
  refine for_range (D := R) (g := wpG X tg) (tb := wpSs X body) (fun i σ' H' => ∃ ρ' F' M', W i ρ' M' ∧ Same F F' ∧ WD X.K F' M' H' ∧ EnvOk X.K F' σ' ρ') ⟨ρ, F, M, h0, Same.refl F, hw, ho⟩ ?_ ?_
  · rintro i σ1 H1 hi ⟨ρ1, F1, M1, hW, s1, w1, o1⟩
    refine t.1 i ρ1 M1 _ hi rfl hW σ1 H1 F1 _ o1 w1 (.int _) _ fun σ2 ρ2 F2 M2 H2 q2 s2 w2 o2 => ?_
    refine q2 σ2 H2 F2 o2 w2 _ ⟨?_, k.rt.mono (s1.trans s2), k.nx.mono (s1.trans s2), ?_⟩
    · intro σ' ρ' F' M' H' hW' s w o
      exact ⟨ρ', F', M', hW', (s1.trans s2).trans s, w, o⟩
    · intro σ' ρ' F' M' H' hW' s w o
      exact ⟨ρ', F', M', hW', (s1.trans s2).trans s, w, o⟩
  · rintro σ1 H1 ⟨ρ1, F1, M1, hW, s1, w1, o1⟩
    exact k.nx _ _ F1 M1 H1 (t.2 ρ1 M1 hW) s1 w1 o1
theorem turns_list {tg : Expr} {body : List Stmt} {W : Nat → QM} {R : Ends} {ps : List PyData} {l : Addr} {vs : List V} {σ : St} {H : Hp} {F : Hp} (t : Turns X tg body D ps.length (fun i d => ∃ p, ps[i]? = some p ∧ d = .d p) W) (h0 : W 0 ρ M) (ho : EnvOk X.K F σ ρ) (hw : WD X.K F M H) (k : LkD X F D R)
    (hs : SqL X.K F l vs) (ht : DpAll X.K F vs ps) :
    ∃ V : Nat → Nat → St → Hp → Prop, (∃ m, V 0 m σ H) ∧ ∀ i m σ H, V i m σ H →
      ((Itl X.K l).stop i H ∧ R.nx σ H) ∨ ((Itl X.K l).go i H ∧ ∃ N : St → Hp → Prop, (∀ σ' H', N σ' H' → ∃ m', m' < m ∧ V (i + 1) m' σ' H') ∧ ∀ x H', (Itl X.K l).yld i H x H' → wpG X tg x σ H' fun σ2 H2 => wpSs X body { R with nx := N, ct := N, bk := R.nx } σ2 H2) := by
  refine for_list (D := R) (g := wpG X tg) (tb := wpSs X body) (xs := vs) (fun i σ' H' => ∃ ρ' F' M', W i ρ' M' ∧ Same F F' ∧ WD X.K F' M' H' ∧ EnvOk X.K F' σ' ρ') ⟨ρ, F, M, h0, Same.refl F, hw, ho⟩ ?_ ?_ ?_
  · rintro i σ1 H1 hi ⟨ρ1, F1, M1, hW, s1, w1, o1⟩
    exact sqL_mono w1.ext (sqL_mono s1 hs)
  · rintro i x σ1 H1 hx ⟨ρ1, F1, M1, hW, s1, w1, o1⟩
    obtain ⟨p, hp, hd⟩ := dps_get' ht hx
    refine t.1 i ρ1 M1 (.d p) (List.getElem?_eq_some_iff.mp hp).1 ⟨p, hp, rfl⟩ hW σ1 H1 F1 _ o1 w1 (dp_mono s1 _ _ hd) _ fun σ2 ρ2 F2 M2 H2 q2 s2 w2 o2 => ?_
    refine q2 σ2 H2 F2 o2 w2 _ ⟨?_, k.rt.mono (s1.trans s2), k.nx.mono (s1.trans s2), ?_⟩
    · intro σ' ρ' F' M' H' hW' s w o
      exact ⟨ρ', F', M', hW', (s1.trans s2).trans s, w, o⟩
    · intro σ' ρ' F' M' H' hW' s w o
      exact ⟨ρ', F', M', hW', (s1.trans s2).trans s, w, o⟩
  · rintro σ1 H1 ⟨ρ1, F1, M1, hW, s1, w1, o1⟩
    rw [dps_len ht] at hW
    exact k.nx _ _ F1 M1 H1 (t.2 ρ1 M1 hW) s1 w1 o1
theorem turns_tup {tg : Expr} {body : List Stmt} {W : Nat → QM} {R : Ends} {ps : List PyData} {l : Addr} {vs : List V} {σ : St} {H : Hp} {F : Hp} (t : Turns X tg body D ps.length (fun i d => ∃ p, ps[i]? = some p ∧ d = .d p) W) (h0 : W 0 ρ M) (ho : EnvOk X.K F σ ρ) (hw : WD X.K F M H) (k : LkD X F D R)
    (hs : SqT X.K F l vs) (ht : DpAll X.K F vs ps) :
    ∃ V : Nat → Nat → St → Hp → Prop, (∃ m, V 0 m σ H) ∧ ∀ i m σ H, V i m σ H →
      ((Itt X.K l).stop i H ∧ R.nx σ H) ∨ ((Itt X.K l).go i H ∧ ∃ N : St → Hp → Prop, (∀ σ' H', N σ' H' → ∃ m', m' < m ∧ V (i + 1) m' σ' H') ∧ ∀ x H', (Itt X.K l).yld i H x H' → wpG X tg x σ H' fun σ2 H2 => wpSs X body { R with nx := N, ct := N, bk := R.nx } σ2 H2) := by
  refine for_tup (D := R) (g := wpG X tg) (tb := wpSs X body) (xs := vs) (fun i σ' H' => ∃ ρ' F' M', W i ρ' M' ∧ Same F F' ∧ WD X.K F' M' H' ∧ EnvOk X.K F' σ' ρ') ⟨ρ, F, M, h0, Same.refl F, hw, ho⟩ ?_ ?_ ?_
  · rintro i σ1 H1 hi ⟨ρ1, F1, M1, hW, s1, w1, o1⟩
    exact sqT_mono w1.ext (sqT_mono s1 hs)
  · rintro i x σ1 H1 hx ⟨ρ1, F1, M1, hW, s1, w1, o1⟩
    obtain ⟨p, hp, hd⟩ := dps_get' ht hx
    refine t.1 i ρ1 M1 (.d p) (List.getElem?_eq_some_iff.mp hp).1 ⟨p, hp, rfl⟩ hW σ1 H1 F1 _ o1 w1 (dp_mono s1 _ _ hd) _ fun σ2 ρ2 F2 M2 H2 q2 s2 w2 o2 => ?_
    refine q2 σ2 H2 F2 o2 w2 _ ⟨?_, k.rt.mono (s1.trans s2), k.nx.mono (s1.trans s2), ?_⟩
    · intro σ' ρ' F' M' H' hW' s w o
      exact ⟨ρ', F', M', hW', (s1.trans s2).trans s, w, o⟩
    · intro σ' ρ' F' M' H' hW' s w o
      exact ⟨ρ', F', M', hW', (s1.trans s2).trans s, w, o⟩
  · rintro σ1 H1 ⟨ρ1, F1, M1, hW, s1, w1, o1⟩
    rw [dps_len ht] at hW
    exact k.nx _ _ F1 M1 H1 (t.2 ρ1 M1 hW) s1 w1 o1
theorem ds_forR1 {tg : Expr} {body : List Stmt} {p : Pos} {p2 : Pos} (h : DA X [a] ρ M fun ds M1 => ∃ n : Int, ds = [I n] ∧ -(2 ^ 62) ≤ n ∧ n < 2 ^ 62 ∧ ∃ W : Nat → QM, W 0 ρ M1 ∧ Turns X tg body D n.toNat (fun i d => d = I (0 + (i : Int))) W)
    (hm : X.mg "range" = none) (hg : Gl X "range" := by rfl) (hc : X.calm = true := by rfl) (hp : PassesOwn (model X.prog X.w) X.A X.env X.xe := by exact PassesOwn.never) (hs : starEach [a] X.env = [(false, eval a X.env)] := by rfl)
    (hs2 : ∀ x, foldedSetIterable (.Call (.Name "range" p) [a] [] p2) X.env x = pure x := by intro _; rfl) : DS X (.For tg (.Call (.Name "range" p) [a] [] p2) body [] pos) ρ M D := fun σ H F ho hw R k => by
  refine toS (ps_for hp hc (pi_range1 hg hm sA hs) sG sSs hs2) ?_
  refine h σ H F ho hw _ fun vs ds F1 M1 H1 q s w x => ?_
  obtain ⟨n, rfl, n1, n2, W, w0, t⟩ := q
  cases x with
  | cons x1 t1 =>
    cases t1
    cases x1
    exact ⟨n, rfl, n1, n2, turns_range t w0 (ho.mono s) w (k.mono s)⟩
theorem ds_forR2 {tg : Expr} {body : List Stmt} {p : Pos} {p2 : Pos} (h : DA X [a, b] ρ M fun ds M1 => ∃ i j : Int, ds = [I i, I j] ∧ (-(2 ^ 62) ≤ i ∧ i < 2 ^ 62 ∧ -(2 ^ 62) ≤ j ∧ j < 2 ^ 62) ∧ ∃ W : Nat → QM, W 0 ρ M1 ∧ Turns X tg body D (j - i).toNat (fun n d => d = I (i + (n : Int))) W)
    (hm : X.mg "range" = none) (hg : Gl X "range" := by rfl) (hc : X.calm = true := by rfl) (hp : PassesOwn (model X.prog X.w) X.A X.env X.xe := by exact PassesOwn.never) (hs : starEach [a, b] X.env = [(false, eval a X.env), (false, eval b X.env)] := by rfl) (hs' : starEach [b] X.env = [(false, eval b X.env)] := by rfl)
    (hs2 : ∀ x, foldedSetIterable (.Call (.Name "range" p) [a, b] [] p2) X.env x = pure x := by intro _; rfl) : DS X (.For tg (.Call (.Name "range" p) [a, b] [] p2) body [] pos) ρ M D := fun σ H F ho hw R k => by
  refine toS (ps_for hp hc (pi_range2 hg hm sA hs hs') sG sSs hs2) ?_
  refine h σ H F ho hw _ fun vs ds F1 M1 H1 q s w x => ?_
  obtain ⟨i, j, rfl, hb, W, w0, t⟩ := q
  cases x with
  | cons x1 t1 =>
    cases t1 with
    | cons x2 t2 =>
      cases t2
      cases x1
      cases x2
      exact ⟨i, j, rfl, hb, turns_range t w0 (ho.mono s) w (k.mono s)⟩
theorem ds_forL {tg iter : Expr} {body : List Stmt} (h : DE X iter ρ M fun d M1 => ∃ ps, d = L ps ∧ ∃ W : Nat → QM, W 0 ρ M1 ∧ Turns X tg body D ps.length (fun i d => ∃ p, ps[i]? = some p ∧ d = .d p) W)
    (hc : X.calm = true := by rfl) (hp : PassesOwn (model X.prog X.w) X.A X.env X.xe := by exact PassesOwn.never)
    (hs2 : ∀ x, foldedSetIterable iter X.env x = pure x := by intro _; rfl) : DS X (.For tg iter body [] pos) ρ M D := fun σ H F ho hw R k => by
  refine toS (ps_for hp hc (pi_list sE) sG sSs hs2) ?_
  refine h σ H F ho hw _ fun v d F1 M1 H1 q s w x => ?_
  obtain ⟨ps, rfl, W, w0, t⟩ := q
  cases x with
  | lst hs ht => exact ⟨_, rfl, ⟨_, sqL_mono w.ext hs⟩, turns_list t w0 (ho.mono s) w (k.mono s) hs ht⟩
theorem ds_forT {tg iter : Expr} {body : List Stmt} (h : DE X iter ρ M fun d M1 => ∃ ps, d = T ps ∧ ∃ W : Nat → QM, W 0 ρ M1 ∧ Turns X tg body D ps.length (fun i d => ∃ p, ps[i]? = some p ∧ d = .d p) W)
    (hc : X.calm = true := by rfl) (hp : PassesOwn (model X.prog X.w) X.A X.env X.xe := by exact PassesOwn.never)
    (hs2 : ∀ x, foldedSetIterable iter X.env x = pure x := by intro _; rfl) : DS X (.For tg iter body [] pos) ρ M D := fun σ H F ho hw R k => by
  refine toS (ps_for hp hc (pi_tup sE) sG sSs hs2) ?_
  refine h σ H F ho hw _ fun v d F1 M1 H1 q s w x => ?_
  obtain ⟨ps, rfl, W, w0, t⟩ := q
  cases x with
  | tup hs ht => exact ⟨_, rfl, ⟨_, sqT_mono w.ext hs⟩, turns_tup t w0 (ho.mono s) w (k.mono s) hs ht⟩

/-! ### calls -/
/-- what a def promises, over data -/
structure DSp where
  n : Nat
  wp : List EV → Mem → QE → Prop
  mono : ∀ {ds M Q Q'}, (∀ d M', Q d M' → Q' d M') → wp ds M Q → wp ds M Q'
  len : ∀ {ds M Q}, wp ds M Q → ds.length = n
def toSp (K : PySem.W.Frag) (S : DSp) : Sp := fun vs H Q _ => ∃ F M ds, WD K F M H ∧ EvsOk K F vs ds ∧ S.wp ds M fun d M' => ∀ v F' H', Same F F' → WD K F' M' H' → EvOk K F' v d → Q v H'
structure Def (P : Program) (w : World) (K : PySem.W.Frag) (mg : Str → Option Value) (base : Heap) (x : Str) (k : Nat) (S : DSp) : Prop where
  ex : ∃ f fd ps, mg x = some (.ref f) ∧ PySem.W.keepIn K (.ref f) = true ∧ Binds K fd ps [] ∧ FnOk P w K mg base CX0 k f fd ps (toSp K S)
theorem Def.mono {P : Program} {w : World} {K : PySem.W.Frag} {mg : Str → Option Value} {base : Heap} {x : Str} {j k : Nat} {S : DSp} (d : Def P w K mg base x j S) (h : j ≤ k) : Def P w K mg base x k S :=
  let ⟨f, fd, ps, a, b, c, e⟩ := d.ex
  ⟨f, fd, ps, a, b, c, e.mono h⟩
theorem de_call {x : Str} {p : Pos} {k : Nat} {S : DSp} (d : Def X.prog X.w X.K X.mg X.base x k S) (hr : Room k X.A) (h : DA X (e :: es) ρ M fun ds M1 => S.wp ds M1 Q) (hg : Gl X x := by rfl)
    (hdb : (x == ("__debug__" : Str)) = false := by decide) (he : starEach (e :: es) X.env = (false, eval e X.env) :: starEach es X.env := by rfl) (hpl : (backTo pos (starEach es X.env)).any (·.1) = false := by rfl) :
    DE X (.Call (.Name x p) (e :: es) [] pos) ρ M Q := fun σ H F ho hw R kk => by
  obtain ⟨f, fd, ps, hm, hk, hb, hF⟩ := d.ex
  refine toE (pe_call hF hr hg hm hk hb .nil pass0 sA hdb he hpl) ?_
  refine h σ H F ho hw _ fun vs ds F1 M1 H1 q s w x => ?_
  refine ⟨F1, M1, ds, w, by rw [List.append_nil]; exact x, S.mono (fun d' M' q' v F' H' s' w' x' => ?_) q⟩
  exact kk v d' F' M' H' q' (s.trans s') w' x'
theorem startE_ok {K : PySem.W.Frag} {F : Hp} {N : List Str} : ∀ {vs : List V} {ds : List EV}, EvsOk K F vs ds → EnvOk K F (L2.start N vs) (ds.map some ++ List.replicate (N.length - ds.length) none) := fun {vs ds} h => by
  have hl := h.len
  refine ⟨by unfold L2.start; rw [List.length_append, List.length_append, List.length_map, List.length_map, List.length_replicate, List.length_replicate, hl], fun i e q => ?_⟩
  by_cases hi : i < ds.length
  · rw [List.getElem?_append_left (by rw [List.length_map]; exact hi), List.getElem?_map] at q
    cases q2 : ds[i]? with
    | none => rw [q2] at q; cases q
    | some d =>
      rw [q2] at q
      cases q
      obtain ⟨v, e1, e2⟩ := h.get q2
      refine ⟨v, ?_, e2⟩
      unfold L2.start
      rw [List.getElem?_append_left (by rw [List.length_map, hl]; exact hi), List.getElem?_map, e1]
      rfl
  · rw [List.getElem?_append_right (by rw [List.length_map]; omega), List.getElem?_replicate] at q
    split at q <;> cases q
end
/-- the law's own def: no name leads to it -/
theorem def_okF {P : Program} {w : World} {K : PySem.W.Frag} {mg : Str → Option Value} {base : Heap} {x qual : Str} {st : Stmt} {f : Addr} {fd : FuncData} {N ps : List Str} {k : Nat} {S : DSp} (Fd : Fun K x qual st f fd) (Sc : FnScope N ps (defScope st)) (hn : S.n = ps.length)
    (body : ∀ (cdv : Value) (A : Around) (outer : List Env) (s : Shared) (H : Hp) (E : XK), Room k (A.deeper (PyProof.Rows.envOfC qual (defScope st) s.heap.objs.size f cdv)) → ∀ (ds : List EV) (M : Mem) (Q : QE), S.wp ds M Q →
      DSs (cxOf CX0 P w K mg base N qual (defScope st) f cdv A outer s H E).nox (defBody st) (ds.map some ++ List.replicate (N.length - ds.length) none) M { nx := fun _ M' => Q N0 M', rt := Q }) : FnOk P w K mg base CX0 (k + 1) f fd ps (toSp K S) := by
  refine Fd.ok Sc (fun vs H Q E h => ?_) fun cdv A outer s H vs Q E hr h => ?_
  · obtain ⟨F, M, ds, _, x, q⟩ := h
    rw [x.len, S.len q, hn]
  · obtain ⟨F, M, ds, hw, x, q⟩ := h
    refine ⟨_, sSs, ?_⟩
    refine body cdv A outer s H E hr ds M _ q _ _ F (startE_ok x) hw _ ⟨fun σ' ρ' F' M' H' q' s' w' o' => ?_, fun v d F' M' H' q' s' w' o' => ?_, fun _ _ _ _ _ q' => q'.elim, fun _ _ _ _ _ q' => q'.elim⟩
    · exact q' .non F' H' s' w' .non
    · exact q' v F' H' s' w' o'
theorem def_ok {P : Program} {w : World} {K : PySem.W.Frag} {mg : Str → Option Value} {base : Heap} {x qual : Str} {st : Stmt} {f : Addr} {fd : FuncData} {N ps : List Str} {k : Nat} {S : DSp} (Fd : Fun K x qual st f fd) (Sc : FnScope N ps (defScope st))
    (hm : mg x = some (.ref f)) (hb : Binds K fd ps []) (hn : S.n = ps.length)
    (body : ∀ (cdv : Value) (A : Around) (outer : List Env) (s : Shared) (H : Hp) (E : XK), Room k (A.deeper (PyProof.Rows.envOfC qual (defScope st) s.heap.objs.size f cdv)) → ∀ (ds : List EV) (M : Mem) (Q : QE), S.wp ds M Q →
      DSs (cxOf CX0 P w K mg base N qual (defScope st) f cdv A outer s H E).nox (defBody st) (ds.map some ++ List.replicate (N.length - ds.length) none) M { nx := fun _ M' => Q N0 M', rt := Q }) : Def P w K mg base x (k + 1) S :=
  ⟨f, fd, ps, hm, Fd.kp, hb, def_okF Fd Sc hn body⟩
theorem vals_data {K : PySem.W.Frag} {F : Hp} : ∀ ns : List Int, DpAll K F (ns.map V.int) (ns.map PyData.int)
  | [] => .nil
  | _ :: r => .cons (.int _) (vals_data r)
/-- the promise of the law at the walk's beginning -/
theorem sp_start {K : PySem.W.Frag} {S : DSp} (h : ∀ ns : List Int, ns.length ≤ 63 → S.wp [L (ns.map .int)] (fun _ => none) fun d _ => d = B true) (H : Hp) (a : Addr) (ns : List Int) (hl : ns.length ≤ 63) (hS : SqL K H a (ns.map V.int)) :
    toSp K S [.ref a] H (fun v _ => v = .bl true) fun _ _ _ => False :=
  ⟨H, fun _ => none, _, ⟨Same.refl H, fun _ _ e => by cases e⟩, ⟨.cons (show EvOk K H (.ref a) (.d (.list (ns.map .int))) from Dp.lst hS (vals_data ns)) .nil, S.mono (fun d M' e v F' H' _ _ x => by
    subst e
    cases x
    rfl) (h ns hl)⟩⟩

/-! ### built-ins -/
section
variable {X : Cx} {e a b c : Expr} {es : List Expr} {st : Stmt} {sts : List Stmt} {pos p : Pos} {ρ : Ev} {M : Mem} {Q : QE} {D : DEnds}
theorem de_blt {id : String} {x : Str} {r : List V → Hp → VK → Prop} (hc : CallR X (.builtin id) r) (h : DA X (e :: es) ρ M fun ds M1 => ∀ F H vs, EvsOk X.K F vs ds → WD X.K F M1 H → ∀ R, Lk X F Q R → r vs H R) (hm : X.mg x = none) (hv : bootBuiltins x = some (.builtin id))
    (hg : Gl X x := by rfl) (hn : x ≠ "__name__" := by decide) (hdb : (x == ("__debug__" : Str)) = false := by decide)
    (he : starEach (e :: es) X.env = (false, eval e X.env) :: starEach es X.env := by rfl) (hpl : (backTo pos (starEach es X.env)).any (·.1) = false := by rfl) : DE X (.Call (.Name x p) (e :: es) [] pos) ρ M Q := fun σ H F ho hw R k => by
  refine toE (pe_callB hc hg hm hv sA hn hdb he hpl) ?_
  exact h σ H F ho hw _ fun vs ds F1 M1 H1 q s w x => q F1 H1 vs x w R (k.mono s)
theorem de_bty {id : String} {x : Str} {r : List V → Hp → VK → Prop} (hc : CallR X (.type id) r) (h : DA X (e :: es) ρ M fun ds M1 => ∀ F H vs, EvsOk X.K F vs ds → WD X.K F M1 H → ∀ R, Lk X F Q R → r vs H R) (hm : X.mg x = none) (hv : bootBuiltins x = some (.type id))
    (hg : Gl X x := by rfl) (hn : x ≠ "__name__" := by decide) (hdb : (x == ("__debug__" : Str)) = false := by decide)
    (he : starEach (e :: es) X.env = (false, eval e X.env) :: starEach es X.env := by rfl) (hpl : (backTo pos (starEach es X.env)).any (·.1) = false := by rfl) : DE X (.Call (.Name x p) (e :: es) [] pos) ρ M Q := fun σ H F ho hw R k => by
  refine toE (pe_callTy hc hg hm hv sA hn hdb he hpl) ?_
  exact h σ H F ho hw _ fun vs ds F1 M1 H1 q s w x => q F1 H1 vs x w R (k.mono s)
theorem evs1 {K : PySem.W.Frag} {F : Hp} {vs : List V} {d : EV} (h : EvsOk K F vs [d]) : ∃ v, vs = [v] ∧ EvOk K F v d := by
  cases h with
  | cons h t => cases t; exact ⟨_, rfl, h⟩
theorem evs2 {K : PySem.W.Frag} {F : Hp} {vs : List V} {d e : EV} (h : EvsOk K F vs [d, e]) : ∃ v u, vs = [v, u] ∧ EvOk K F v d ∧ EvOk K F u e := by
  cases h with
  | cons h t =>
    cases t with
    | cons h2 t => cases t; exact ⟨_, _, rfl, h, h2⟩
theorem de_abs (h : DA X (e :: es) ρ M fun ds M1 => ∃ i, ds = [I i] ∧ Q (I (if i < 0 then -i else i)) M1) (hm : X.mg "abs" = none) (hg : Gl X "abs" := by rfl)
    (he : starEach (e :: es) X.env = (false, eval e X.env) :: starEach es X.env := by rfl) (hpl : (backTo pos (starEach es X.env)).any (·.1) = false := by rfl) : DE X (.Call (.Name "abs" p) (e :: es) [] pos) ρ M Q := by
  refine de_blt call_abs (h.imp fun ds M1 q => ?_) hm (by decide +kernel) hg (by decide) (by decide) he hpl
  obtain ⟨i, rfl, q⟩ := q
  intro F H vs x w R k
  obtain ⟨v, rfl, x1⟩ := evs1 x
  cases x1
  exact ⟨i, rfl, k _ _ F M1 H q (Same.refl F) w (.int _)⟩
theorem de_min2 (h : DA X (e :: es) ρ M fun ds M1 => ∃ i j, ds = [I i, I j] ∧ Q (I (if j < i then j else i)) M1) (hm : X.mg "min" = none) (hc : X.calm = true := by rfl) (hg : Gl X "min" := by rfl)
    (he : starEach (e :: es) X.env = (false, eval e X.env) :: starEach es X.env := by rfl) (hpl : (backTo pos (starEach es X.env)).any (·.1) = false := by rfl) : DE X (.Call (.Name "min" p) (e :: es) [] pos) ρ M Q := by
  refine de_blt (call_min2 hc) (h.imp fun ds M1 q => ?_) hm (by decide +kernel) hg (by decide) (by decide) he hpl
  obtain ⟨i, j, rfl, q⟩ := q
  intro F H vs x w R k
  obtain ⟨v, u, rfl, x1, x2⟩ := evs2 x
  cases x1
  cases x2
  exact ⟨i, j, rfl, k _ _ F M1 H q (Same.refl F) w (.int _)⟩
theorem de_max2 (h : DA X (e :: es) ρ M fun ds M1 => ∃ i j, ds = [I i, I j] ∧ Q (I (if j > i then j else i)) M1) (hm : X.mg "max" = none) (hc : X.calm = true := by rfl) (hg : Gl X "max" := by rfl)
    (he : starEach (e :: es) X.env = (false, eval e X.env) :: starEach es X.env := by rfl) (hpl : (backTo pos (starEach es X.env)).any (·.1) = false := by rfl) : DE X (.Call (.Name "max" p) (e :: es) [] pos) ρ M Q := by
  refine de_blt (call_max2 hc) (h.imp fun ds M1 q => ?_) hm (by decide +kernel) hg (by decide) (by decide) he hpl
  obtain ⟨i, j, rfl, q⟩ := q
  intro F H vs x w R k
  obtain ⟨v, u, rfl, x1, x2⟩ := evs2 x
  cases x1
  cases x2
  exact ⟨i, j, rfl, k _ _ F M1 H q (Same.refl F) w (.int _)⟩
/-- the length of data, or of a list of the memory -/
def lenOf (M : Mem) : EV → Option Nat
  | .d (.list ps) => some ps.length
  | .d (.tuple ps) => some ps.length
  | .o l => match M l with
    | some (.lst ps) => some ps.length
    | _ => none
  | _ => none
theorem de_len (h : DA X (e :: es) ρ M fun ds M1 => ∃ d n, ds = [d] ∧ lenOf M1 d = some n ∧ Q (I n) M1) (hm : X.mg "len" = none) (hg : Gl X "len" := by rfl)
    (he : starEach (e :: es) X.env = (false, eval e X.env) :: starEach es X.env := by rfl) (hpl : (backTo pos (starEach es X.env)).any (·.1) = false := by rfl) : DE X (.Call (.Name "len" p) (e :: es) [] pos) ρ M Q := by
  refine de_blt call_len_seq (h.imp fun ds M1 q => ?_) hm (by decide +kernel) hg (by decide) (by decide) he hpl
  obtain ⟨d, n, rfl, hl, q⟩ := q
  intro F H vs x w R k
  obtain ⟨v, rfl, x1⟩ := evs1 x
  have fin : ∀ m : Nat, m = n → R (.int m) H := fun m e => by subst e; exact k _ _ F M1 H q (Same.refl F) w (.int _)
  cases d with
  | o l =>
    cases (show v = V.ref l from x1)
    have hl' : (match M1 l with
      | some (.lst ps) => some ps.length
      | _ => none) = some n := hl
    cases e2 : M1 l with
    | none => rw [e2] at hl'; cases hl'
    | some m =>
      rw [e2] at hl'
      cases m with
      | raw o => cases hl'
      | rawK o ks => cases hl'
      | dk o => cases hl'
      | dt o => cases hl'
      | ins C o => cases hl'
      | lst ps =>
        cases hl'
        obtain ⟨hF, vs, e, ht⟩ := w.mem l _ e2
        exact ⟨l, vs, rfl, .inl (SqL.of e), fin _ (dps_len ht)⟩
  | d pd =>
    cases x1 with
    | lst hs ht => cases hl; exact ⟨_, _, rfl, .inl (sqL_mono w.ext hs), fin _ (dps_len ht)⟩
    | tup hs ht => cases hl; exact ⟨_, _, rfl, .inr (sqT_mono w.ext hs), fin _ (dps_len ht)⟩
    | _ => cases hl
theorem de_lenS (h : DA X (e :: es) ρ M fun ds M1 => ∃ z, ds = [S z] ∧ z.length ≤ 10000 ∧ Q (I z.length) M1) (hm : X.mg "len" = none) (hg : Gl X "len" := by rfl)
    (he : starEach (e :: es) X.env = (false, eval e X.env) :: starEach es X.env := by rfl) (hpl : (backTo pos (starEach es X.env)).any (·.1) = false := by rfl) : DE X (.Call (.Name "len" p) (e :: es) [] pos) ρ M Q := by
  refine de_blt call_len_str (h.imp fun ds M1 q => ?_) hm (by decide +kernel) hg (by decide) (by decide) he hpl
  obtain ⟨z, rfl, hl, q⟩ := q
  intro F H vs x w R k
  obtain ⟨v, rfl, x1⟩ := evs1 x
  cases x1
  exact ⟨z, rfl, Nat.le_trans hl (by decide), k _ _ F M1 H q (Same.refl F) w (.int _)⟩
/-- l.append(e) -/
theorem de_append {apos : Pos} (h : DE X a ρ M fun d M1 => ∃ l ps0, d = .o l ∧ M1 l = some (.lst ps0) ∧ DE X b ρ M1 fun d2 M2 => ∃ ps p, M2 l = some (.lst ps) ∧ d2 = .d p ∧ ps.length ≤ 100000 ∧ Q N0 (updM M2 l (.lst (ps ++ [p]))))
    (hbase : attributeBase a "append" X.env (eval a X.env) = eval a X.env := by rfl)
    (hfew : ((backTo pos (starEach [b] X.env)).all (fun x => !x.1) && (backToKw pos (keywordEach [] X.env)).all (fun x => x.1.isSome)
      && decide (([b] : List Expr).length + ([] : List Keyword).length + (if ([] : List Keyword).isEmpty then 0 else 1) < 30)) = true := by rfl)
    (hline : (apos.endLine == pos.line) = true := by rfl) (hs : starEach [b] X.env = (false, eval b X.env) :: starEach [] X.env := by rfl) (hplain : (backTo pos (starEach [] X.env)).any (·.1) = false := by rfl) :
    DE X (.Call (.Attribute a "append" apos) [b] [] pos) ρ M Q := fun σ H F ho hw R k => by
  refine toE (pe_bm PySem.F.plainAttrs_list PySem.F.slot_list_append PySem.F.type_list_append mt_append sE (pa_cons sE pa_nil hs) hbase hfew hline hs hplain) ?_
  refine h σ H F ho hw _ fun v1 d1 F1 M1 H1 q1 s1 w1 x1 => ?_
  obtain ⟨l, ps0, rfl, hl0, q1⟩ := q1
  cases (show v1 = V.ref l from x1)
  obtain ⟨_, vs0, e0, _⟩ := w1.mem l _ hl0
  refine ⟨.inl ⟨rfl, _, SqL.of e0⟩, ?_⟩
  refine q1 σ H1 F1 (ho.mono s1) w1 _ fun v2 d2 F2 M2 H2 q2 s2 w2 x2 => ?_
  obtain ⟨ps, p, hl, rfl, hz, q⟩ := q2
  obtain ⟨hF, vs, e, ht⟩ := w2.mem l _ hl
  refine ⟨l, vs, v2, rfl, rfl, e, by rw [dps_len ht]; exact Nat.lt_of_le_of_lt hz (by decide), ?_⟩
  exact k _ _ F2 _ _ q (s1.trans s2) (w2.put hl ⟨_, rfl, dps_append ht (.cons x2 .nil)⟩) .non
end
end DL
namespace DL
open PySem PySem.Spec L2
theorem iteN {A B : Prop} {b : Bool} (h : b = false) (k : B) : if b = true then A else B := by rw [h]; exact iteF k
theorem iteY {A B : Prop} {b : Bool} (h : b = true) (k : A) : if b = true then A else B := by rw [h]; exact iteT k
section
variable {X : Cx} {e a b c : Expr} {es : List Expr} {st : Stmt} {sts : List Stmt} {pos p : Pos} {ρ : Ev} {M : Mem} {Q : QE} {D : DEnds}
/-! ### globals -/
theorem de_globI {x : Str} {i : Int} {t : Tok} (hm : X.mg x = some (.int i t)) (q : Q (I i) M) (hg : Gl X x := by rfl) (hd : (x == ("__debug__" : Str)) = false := by decide) : DE X (.Name x pos) ρ M Q := fun σ H F ho hw R k =>
  toE (pe_glob hg hm (v := .int i) ⟨_, rfl⟩ hd) (k _ _ F M H q (Same.refl F) hw (.int i))
theorem de_globS {x : Str} {i : Str} {t : Tok} (hm : X.mg x = some (.str i t)) (q : Q (S i) M) (hg : Gl X x := by rfl) (hd : (x == ("__debug__" : Str)) = false := by decide) : DE X (.Name x pos) ρ M Q := fun σ H F ho hw R k =>
  toE (pe_glob hg hm (v := .str i) ⟨_, rfl⟩ hd) (k _ _ F M H q (Same.refl F) hw (.str i))
/-! ### isinstance -/
def kindOf : PyData → String
  | .none => "NoneType"
  | .bool _ => "bool"
  | .int _ => "int"
  | .str _ => "str"
  | .list _ => "list"
  | .tuple _ => "tuple"
  | .dict _ => "dict"
def isTy (T : String) (p : PyData) : Bool := (kitB (kindOf p) T).getD false
theorem tyX_of {K : PySem.W.Frag} {F H : Hp} (s : Same F H) {v : V} {p : PyData} (h : Dp K F v p) : TyX K H v (.type (kindOf p)) := by
  cases h with
  | non => exact .base .non
  | bl b => exact .base (.bl b)
  | int i => exact .base (.int i)
  | str x => exact .base (.str x)
  | lst hs ht =>
    rcases hs with (e | ⟨o, e⟩) | ⟨o, its, n, e, c, _⟩
    · exact .base (.lst (s _ _ e))
    · exact .base (.frz (s _ _ e))
    · exact .kList e c
  | tup hs ht =>
    rcases hs with (e | ⟨o, e⟩) | ⟨o, its, n, e, c, _⟩
    · exact .base (.tup (s _ _ e))
    · exact .fTuple (s _ _ e)
    · exact .kTuple e c
def kitOk (T : String) : Bool := ["NoneType", "bool", "int", "str", "list", "tuple"].all fun a => (kitB a T).isSome
theorem kit_all {T : String} (h : kitOk T = true) {K : PySem.W.Frag} {F : Hp} {v : V} {p : PyData} (hd : Dp K F v p) : kitB (kindOf p) T = some (isTy T p) := by
  unfold kitOk at h
  simp only [List.all_cons, List.all_nil, Bool.and_true, Bool.and_eq_true] at h
  obtain ⟨h1, h2, h3, h4, h5, h6⟩ := h
  have sg : ∀ o : Option Bool, o.isSome = true → o = some (o.getD false) := fun o h => by
    cases o with
    | none => cases h
    | some b => rfl
  cases hd with
  | non => exact sg _ h1
  | bl b => exact sg _ h2
  | int i => exact sg _ h3
  | str x => exact sg _ h4
  | lst hs ht => exact sg _ h5
  | tup hs ht => exact sg _ h6
theorem de_isi {T : Str} {Tn : String} {p2 : Pos} (h : DE X e ρ M fun d M1 => ∃ p, d = .d p ∧ Q (B (isTy Tn p)) M1) (hm : X.mg "isinstance" = none) (hT : X.mg T = none) (hv : bootBuiltins T = some (.type Tn)) (hk : kitOk Tn = true)
    (hg : Gl X "isinstance" := by rfl) (hg2 : Gl X T := by rfl) (hn : T ≠ "__name__" := by decide) (hdb : (T == ("__debug__" : Str)) = false := by decide)
    (he : starEach (e :: [.Name T p2]) X.env = (false, eval e X.env) :: starEach [.Name T p2] X.env := by rfl) (he2 : starEach [.Name T p2] X.env = (false, eval (.Name T p2) X.env) :: starEach [] X.env := by rfl)
    (hpl : (backTo pos (starEach [.Name T p2] X.env)).any (·.1) = false := by rfl) : DE X (.Call (.Name "isinstance" p) (e :: [.Name T p2]) [] pos) ρ M Q := fun σ H F ho hw R k => by
  refine toE (pe_callB call_isi hg hm (by decide +kernel) (pa_cons sE (pa_cons (pe_bltn (v := .ty Tn) hg2 hT hv rfl hn hdb) pa_nil he2) he) (by decide) (by decide) he hpl) ?_
  refine h σ H F ho hw _ fun v1 d1 F1 M1 H1 q1 s1 w1 x1 => ?_
  obtain ⟨pd, rfl, q⟩ := q1
  exact ⟨v1, .ty Tn, _, _, _, rfl, .ty Tn, tyX_of w1.ext x1, kit_ty (kit_all hk x1), k _ _ F1 M1 H1 q s1 w1 (.bl _)⟩
theorem isTy_int (p : PyData) : isTy "int" p = (match p with | .int _ => true | .bool _ => true | _ => false) := by
  cases p with
  | none => exact (by decide +kernel : (kitB "NoneType" "int").getD false = false)
  | bool b => exact (by decide +kernel : (kitB "bool" "int").getD false = true)
  | int i => exact (by decide +kernel : (kitB "int" "int").getD false = true)
  | str x => exact (by decide +kernel : (kitB "str" "int").getD false = false)
  | list x => exact (by decide +kernel : (kitB "list" "int").getD false = false)
  | tuple x => exact (by decide +kernel : (kitB "tuple" "int").getD false = false)
  | dict x => exact (by decide +kernel : (kitB "dict" "int").getD false = false)
theorem isTy_bool (p : PyData) : isTy "bool" p = (match p with | .bool _ => true | _ => false) := by
  cases p with
  | none => exact (by decide +kernel : (kitB "NoneType" "bool").getD false = false)
  | bool b => exact (by decide +kernel : (kitB "bool" "bool").getD false = true)
  | int i => exact (by decide +kernel : (kitB "int" "bool").getD false = false)
  | str x => exact (by decide +kernel : (kitB "str" "bool").getD false = false)
  | list x => exact (by decide +kernel : (kitB "list" "bool").getD false = false)
  | tuple x => exact (by decide +kernel : (kitB "tuple" "bool").getD false = false)
  | dict x => exact (by decide +kernel : (kitB "dict" "bool").getD false = false)
theorem isTy_str (p : PyData) : isTy "str" p = (match p with | .str _ => true | _ => false) := by
  cases p with
  | none => exact (by decide +kernel : (kitB "NoneType" "str").getD false = false)
  | bool b => exact (by decide +kernel : (kitB "bool" "str").getD false = false)
  | int i => exact (by decide +kernel : (kitB "int" "str").getD false = false)
  | str x => exact (by decide +kernel : (kitB "str" "str").getD false = true)
  | list x => exact (by decide +kernel : (kitB "list" "str").getD false = false)
  | tuple x => exact (by decide +kernel : (kitB "tuple" "str").getD false = false)
  | dict x => exact (by decide +kernel : (kitB "dict" "str").getD false = false)
theorem isTy_tuple (p : PyData) : isTy "tuple" p = (match p with | .tuple _ => true | _ => false) := by
  cases p with
  | none => exact (by decide +kernel : (kitB "NoneType" "tuple").getD false = false)
  | bool b => exact (by decide +kernel : (kitB "bool" "tuple").getD false = false)
  | int i => exact (by decide +kernel : (kitB "int" "tuple").getD false = false)
  | str x => exact (by decide +kernel : (kitB "str" "tuple").getD false = false)
  | list x => exact (by decide +kernel : (kitB "list" "tuple").getD false = false)
  | tuple x => exact (by decide +kernel : (kitB "tuple" "tuple").getD false = true)
  | dict x => exact (by decide +kernel : (kitB "dict" "tuple").getD false = false)
/-! ### l[i] op= e -/
def rIxL0 (K : PySem.W.Frag) : R2 := fun x y H Q => ∃ p xs i v, x = .ref p ∧ y = .int i ∧ SqL K H p xs ∧ 0 ≤ i ∧ atI xs i = some v ∧ Q v H
theorem get_list_O : PGet X (rIxL0 X.K) := by
  intro pins s σ H o i ov iv Q I ro ri h
  obtain ⟨p, xs, i, z, rfl, rfl, hq, h0, he, q⟩ := h
  cases ro
  obtain ⟨t, rfl⟩ := ri
  obtain ⟨its, r, pl, hz⟩ := I.list hq
  obtain ⟨j, h1, h2, h3, h4, h5⟩ := atI_get he
  obtain ⟨w, ew, rw'⟩ := r.get h2
  have hl := r.length
  have hn := line63
  have hj : i.toNat = j := by
    rw [PySem.seqIndex_of h0 h5] at h1
    exact Option.some.inj h1
  exact thn (wpAny_getItem_list (Q := fun r s' => r = w ∧ EP X pins σ Q r s') pl.isList h0 (by omega) (by rw [hj]; simpa using ew) ⟨rfl, z, H, I, rw', q⟩) fun _ _ q => q.2
theorem ds_augO {f : Int → Int → Int} {op : Operator} {tpos : Pos} (hop : PIp X op (ipI f)) (h : DE X a ρ M fun d1 M1 => DE X b ρ M1 fun d2 M2 => ∃ l ps i v, d1 = .o l ∧ M2 l = some (.lst ps) ∧ d2 = I i ∧ 0 ≤ i ∧ atI ps i = some (.int v) ∧
      DE X e ρ M2 fun d3 M3 => ∃ ps' w j, M3 l = some (.lst ps') ∧ d3 = I w ∧ ixN ps'.length i = some j ∧ D.nx ρ (updM M3 l (.lst (ps'.set j (.int (f v w))))))
    (ha : ∀ ov iv new, augStore b ov iv new = (do holding [new, ov, iv] (setItem ov iv new); release [new, ov, iv] []; pure .next) := by intros; rfl) : DS X (.AugAssign (.Subscript a b tpos) op e pos) ρ M D := fun σ H F ho hw R k => by
  refine toS (ps_augS sE sE get_list_O sE hop set_list ha) ?_
  refine h σ H F ho hw _ fun v1 d1 F1 M1 H1 q1 s1 w1 x1 => ?_
  refine q1 σ H1 F1 (ho.mono s1) w1 _ fun v2 d2 F2 M2 H2 q2 s2 w2 x2 => ?_
  obtain ⟨l, ps, i, v, rfl, hl, rfl, hi0, hv, q⟩ := q2
  cases (show v1 = V.ref l from x1)
  cases x2
  obtain ⟨hF, vs, e1, ht⟩ := w2.mem l _ hl
  obtain ⟨u, g1, g2⟩ := atI_map (Dp X.K F2) (dps_len ht) (fun j y hy => dps_get ht hy) hv
  cases g2
  refine ⟨l, vs, i, _, rfl, rfl, SqL.of e1, hi0, g1, ?_⟩
  refine q σ H2 F2 (ho.mono (s1.trans s2)) w2 _ fun v3 d3 F3 M3 H3 q3 s3 w3 x3 => ?_
  obtain ⟨ps', w', j, hl', rfl, hj, q3⟩ := q3
  cases x3
  refine ⟨v, w', rfl, rfl, ?_⟩
  obtain ⟨hF', vs', e2, ht'⟩ := w3.mem l _ hl'
  refine ⟨l, vs', i, j, rfl, rfl, e2, by rw [dps_len ht']; exact hj, ?_⟩
  have s13 := (s1.trans s2).trans s3
  exact k.nx _ _ F3 _ _ q3 s13 (w3.put hl' ⟨_, rfl, dps_set j ht' (.int _)⟩) (ho.mono s13)
/-- name op= e -/
theorem ds_aug (i : Nat) {f : Int → Int → Int} {op : Operator} {x : Str} {pos' : Pos} (hop : PIp X op (ipI f)) (hN : X.N.Nodup) {v : Int} (hv : ρ[i]? = some (some (I v))) (h : DE X e ρ M fun d M1 => ∃ w, d = I w ∧ D.nx (ρ.set i (some (I (f v w)))) M1) (hi : X.N[i]? = some x := by rfl) (hx : Loc X.env.scope x := by first | exact Or.inl rfl | exact Or.inr rfl)
    (hf : X.fn x = true ∨ X.env.scope.names.lookup x = some .local := by first | exact .inl rfl | exact .inr rfl) : DS X (.AugAssign (.Name x pos') op e pos) ρ M D := fun σ H F ho hw R k => by
  obtain ⟨u, e1, e2⟩ := ho.at_ i _ hv
  cases e2
  refine toS (ps_aug hN hi hx sE hop hf) ⟨_, e1, ?_⟩
  refine h σ H F ho hw _ fun v d F1 M1 H1 q s w x => ?_
  obtain ⟨w', rfl, q⟩ := q
  cases x
  exact ⟨_, _, rfl, rfl, k.nx _ _ F1 M1 H1 q s w ((ho.mono s).set i (.int _))⟩
/-- name += text -/
theorem ip_addS : PIp X .Add (fun x y H Q => ∃ i j, x = .str i ∧ y = .str j ∧ i.length + j.length ≤ sizeLine ∧ Q (.str (i ++ j)) H) := by
  intro pins s σ H x y v u Q I r1 r2 h
  exact iop_add_str pins s σ H x y v u Q I r1 r2 h
theorem ds_augS (i : Nat) {x : Str} {pos' : Pos} (hN : X.N.Nodup) {v : Str} (hv : ρ[i]? = some (some (S v))) (h : DE X e ρ M fun d M1 => ∃ w, d = S w ∧ v.length + w.length ≤ 10000 ∧ D.nx (ρ.set i (some (S (v ++ w)))) M1) (hi : X.N[i]? = some x := by rfl) (hx : Loc X.env.scope x := by first | exact Or.inl rfl | exact Or.inr rfl)
    (hf : X.fn x = true ∨ X.env.scope.names.lookup x = some .local := by first | exact .inl rfl | exact .inr rfl) : DS X (.AugAssign (.Name x pos') .Add e pos) ρ M D := fun σ H F ho hw R k => by
  obtain ⟨u, e1, e2⟩ := ho.at_ i _ hv
  cases e2
  refine toS (ps_aug hN hi hx sE ip_addS hf) ⟨_, e1, ?_⟩
  refine h σ H F ho hw _ fun v d F1 M1 H1 q s w x => ?_
  obtain ⟨w', rfl, hl, q⟩ := q
  cases x
  exact ⟨_, _, rfl, rfl, Nat.le_trans hl (by decide), k.nx _ _ F1 M1 H1 q s w ((ho.mono s).set i (.str _))⟩

/-! ### comprehensions -/
def wipeE (ρ : Ev) : List Nat → Ev
  | [] => ρ
  | v :: vs => (wipeE ρ vs).set v none
theorem wipe_ok {K : PySem.W.Frag} {F : Hp} {σ : L2.St} : ∀ (vs : List Nat), EnvOk K F σ ρ → EnvOk K F (wipe σ vs) (wipeE ρ vs)
  | [], h => h
  | v :: vs, h => by
    have ih := wipe_ok vs h
    refine ⟨by unfold wipe wipeE; rw [List.length_set, List.length_set, ih.len], fun i d q => ?_⟩
    unfold wipeE at q
    unfold wipe
    by_cases hi : v = i
    · subst hi
      by_cases hl : v < (wipeE ρ vs).length
      · rw [List.getElem?_set_self hl] at q; cases q
      · rw [List.getElem?_eq_none (by rw [List.length_set]; omega)] at q; cases q
    · rw [List.getElem?_set_ne hi] at q ⊢
      exact ih.at_ i d q
/-- two states agree but at the places vs -/
theorem wipe_eq {σ σ' : L2.St} (hl : σ.length = σ'.length) : ∀ (vs : List Nat), (∀ i, i ∉ vs → σ[i]? = σ'[i]?) → wipe σ vs = wipe σ' vs := by
  intro vs h
  have key : ∀ (σ : L2.St) (vs : List Nat) (i : Nat), (wipe σ vs)[i]? = if i ∈ vs ∧ i < σ.length then some none else σ[i]? := by
    intro σ vs i
    induction vs with
    | nil => simp [wipe]
    | cons v vs ih =>
      unfold wipe
      by_cases hv : v = i
      · subst hv
        by_cases hlt : v < σ.length
        · rw [List.getElem?_set_self (by rw [wipe_length]; exact hlt), if_pos ⟨List.mem_cons_self, hlt⟩]
        · rw [List.getElem?_eq_none (by rw [List.length_set, wipe_length]; omega), if_neg (fun z => hlt z.2), List.getElem?_eq_none (by omega)]
      · rw [List.getElem?_set_ne hv, ih]
        have : (i ∈ v :: vs ∧ i < σ.length) ↔ (i ∈ vs ∧ i < σ.length) := by
          simp only [List.mem_cons]
          constructor
          · rintro ⟨h1 | h1, h2⟩
            · exact absurd h1.symm hv
            · exact ⟨h1, h2⟩
          · rintro ⟨h1, h2⟩; exact ⟨.inr h1, h2⟩
        by_cases hm : i ∈ vs ∧ i < σ.length
        · rw [if_pos hm, if_pos (this.mpr hm)]
        · rw [if_neg hm, if_neg (fun z => hm (this.mp z))]
  apply List.ext_getElem?
  intro i
  rw [key, key, hl]
  by_cases hm : i ∈ vs ∧ i < σ'.length
  · rw [if_pos hm, if_pos hm]
  · rw [if_neg hm, if_neg hm]
    by_cases hv : i ∈ vs
    · have : ¬ i < σ'.length := fun z => hm ⟨hv, z⟩
      rw [List.getElem?_eq_none (by omega), List.getElem?_eq_none (by omega)]
    · exact h i hv
/-- what a comprehension's target takes -/
inductive Tgt where
  | one (j : Nat)
  | two (j l : Nat)
def Tgt.slots : Tgt → List Nat
  | .one j => [j]
  | .two j l => [j, l]
def Tgt.put : Tgt → PyData → Ev → Option Ev
  | .one j, p, ρ => some (ρ.set j (some (.d p)))
  | .two j l, .tuple [p, q], ρ => some ((ρ.set j (some (.d p))).set l (some (.d q)))
  | .two _ _, _, _ => none
def Tgt.g (K : PySem.W.Frag) : Tgt → TG
  | .one j => gName j
  | .two j l => gTup K 2 (gCons (gName j) (gCons (gName l) gNil))
theorem Tgt.go {K : PySem.W.Frag} {F : Hp} {M : Mem} {H : Hp} {σ : L2.St} {v : V} {p : PyData} {ρ2 : Ev} {vs : List Nat} {Q : L2.St → Hp → Prop} (t : Tgt) (ht : ∀ j ∈ t.slots, j ∈ vs) (ho : EnvOk K F (wipe σ vs) (wipeE ρ vs)) (hw : WD K F M H) (hv : Dp K F v p) (hp : t.put p (wipeE ρ vs) = some ρ2)
    (q : ∀ σ2, EnvOk K F σ2 ρ2 → wipe σ2 vs = wipe σ vs → Q σ2 H) : t.g K v (wipe σ vs) H Q := by
  have wk : ∀ σ2 : L2.St, σ2.length = σ.length → (∀ i, i ∉ vs → σ2[i]? = (wipe σ vs)[i]?) → wipe σ2 vs = wipe σ vs := fun σ2 hl h => by
    refine wipe_eq hl vs fun i hi => (h i hi).trans ?_
    exact wipe_out hi
  cases t with
  | one j =>
    cases hp
    refine q _ (ho.set j (d := .d p) hv) (wk _ (by rw [List.length_set, wipe_length]) fun i hi => ?_)
    exact List.getElem?_set_ne fun e => hi (by rw [← e]; exact ht j (by simp [Tgt.slots]))
  | two j l =>
    unfold Tgt.put at hp
    split at hp
    · rename_i e1; cases e1
    · rename_i j' l' p1 p2 e1
      cases e1
      cases hp
      cases hv with
      | tup hs ha =>
        cases ha with
        | cons h1 ha =>
          cases ha with
          | cons h2 ha =>
            cases ha
            refine ⟨_, _, rfl, sqT_mono hw.ext hs, rfl, _, _, rfl, _, _, rfl, rfl, ?_⟩
            refine q _ ((ho.set _ (d := .d p1) h1).set _ (d := .d p2) h2) (wk _ (by rw [List.length_set, List.length_set, wipe_length]) fun i hi => ?_)
            rw [List.getElem?_set_ne (fun e : l = i => hi (by rw [← e]; exact ht l (by simp [Tgt.slots]))), List.getElem?_set_ne (fun e : j = i => hi (by rw [← e]; exact ht j (by simp [Tgt.slots])))]
    · cases hp
def wpTs (X : Cx) (ifs : List Expr) : TT := fun σ H Q => ∀ pins s, Inv X pins σ H s →
    wpAny (model X.prog X.w) X.A (forIn ifs true fun c r => if r = true then do let ok ← isTrue c X.env (eval c X.env); pure (ForInStep.yield ok) else pure (ForInStep.yield r)) (TP X pins σ Q) X.xe s
theorem sTs {ifs : List Expr} : PTs X ifs (wpTs X ifs) := ⟨fun pins s _ _ _ I h => h pins s I⟩
def DTs (X : Cx) (ifs : List Expr) (ρ : Ev) (M : Mem) (Q : Bool → Mem → Prop) : Prop := ∀ σ H F, EnvOk X.K F σ ρ → WD X.K F M H → ∀ R, LkT X F Q R → wpTs X ifs σ H R
theorem dts_nil {Q : Bool → Mem → Prop} (q : Q true M) : DTs X [] ρ M Q := fun σ H F ho hw R k pins s I => pts_nil.run pins s σ H R I (k true F M H q (Same.refl F) hw)
theorem dts_one {Q : Bool → Mem → Prop} (q : DT X c ρ M Q) : DTs X [c] ρ M Q := fun σ H F ho hw R k pins s I => (pts_one sT).run pins s σ H R I (q σ H F ho hw R k)
/-- for every block that a comprehension's loop may run in -/
abbrev Blk (X : Cx) (scope : Scope) (φ : Cx → Prop) : Prop := ∀ (s : Shared) (H : Hp) (C : Addr) (cl : List (Str × Addr)) (fp : List Addr), φ (X.blk s H scope (compEnvC scope cl C X.env) fp)
/-- what each item gives: b, whether its tests hold; o, the element -/
def Gives (X : Cx) (scope : Scope) (ifs : List Expr) (elt : Expr) (t : Tgt) (vs : List Nat) (ρ : Ev) (M1 : Mem) (p : PyData) (o : Option PyData) : Prop :=
  ∃ ρ2 b, t.put p (wipeE ρ vs) = some ρ2 ∧ ∀ M2 : Mem, (∀ a m, M1 a = some m → M2 a = some m) → (Blk X scope fun X' => DTs X' ifs ρ2 M2 fun b' M3 => M3 = M2 ∧ b' = b) ∧
    if b = true then (∃ y, o = some y ∧ Blk X scope fun X' => DE X' elt ρ2 M2 fun d M4 => M4 = M2 ∧ d = .d y) else o = none
def teB (X : Cx) (scope : Scope) (elt : Expr) : TE := fun σ H Q => Blk X scope fun X' => wpE X' elt σ H Q
def ttB (X : Cx) (scope : Scope) (ifs : List Expr) : TT := fun σ H Q => Blk X scope fun X' => wpTs X' ifs σ H Q
/-- between two turns -/
def LcW (K : PySem.W.Frag) (F : Hp) (M : Mem) (Dl : Addr) (ys : List PyData) (H' : Hp) : Prop := ∃ F', Same F F' ∧ WD K F' (updM M Dl (.lst ys)) H'
theorem lc_turn {scope : Scope} {ifs : List Expr} {elt : Expr} {t : Tgt} {vs : List Nat} {σ : L2.St} {F H' : Hp} {Dl : Addr} {ys ys' : List PyData} {v : V} {p : PyData} {o : Option PyData} (ht : ∀ j ∈ t.slots, j ∈ vs) (ho : EnvOk X.K F σ ρ) (hD : M Dl = none) (hv : Dp X.K F v p)
    (gv : Gives X scope ifs elt t vs ρ M p o) (w : LcW X.K F M Dl ys H') (hz : ys.length < 100000) (hy : ys' = ys ++ o.toList) :
    t.g X.K v (wipe σ vs) H' fun σ2 H2 => wipe σ2 vs = wipe σ vs ∧ ttB X scope ifs σ2 H2 fun b H3 =>
      if b = true then teB X scope elt σ2 H3 fun y H4 => ∃ acc, H4 Dl = some (.lst acc) ∧ acc.length < sizeLine ∧ LcW X.K F M Dl ys' (upd H4 Dl (.lst (acc ++ [y]))) else LcW X.K F M Dl ys' H3 := by
  obtain ⟨ρ2, b, hp, gv⟩ := gv
  obtain ⟨F1, s1, w1⟩ := w
  refine t.go ht (wipe_ok vs (ho.mono s1)) w1 (dp_mono s1 _ _ hv) hp fun σ2 o2 e2 => ⟨e2, ?_⟩
  have up : ∀ a m, M a = some m → updM M Dl (.lst ys) a = some m := fun a m e => by
    rw [updM_ne (fun q => by rw [q, hD] at e; cases e)]
    exact e
  obtain ⟨gt, ge⟩ := gv _ up
  intro s H0 C cl fp
  refine gt s H0 C cl fp σ2 H' F1 o2 w1 _ fun b' F2 M2 H2 q2 s2 w2 => ?_
  obtain ⟨rfl, rfl⟩ := q2
  cases b' with
  | false =>
    rw [if_neg Bool.false_ne_true] at ge ⊢
    subst ge
    rw [hy]
    simp only [Option.toList, List.append_nil]
    exact ⟨F2, s1.trans s2, w2⟩
  | true =>
    rw [if_pos rfl] at ge ⊢
    obtain ⟨y', rfl, ge⟩ := ge
    intro s' H0' C' cl' fp'
    refine ge s' H0' C' cl' fp' σ2 H2 F2 (o2.mono s2) w2 _ fun y d F3 M3 H3 q4 s3 w3 x3 => ?_
    obtain ⟨rfl, rfl⟩ := q4
    have hl : updM M Dl (.lst ys) Dl = some (.lst ys) := updM_same
    obtain ⟨hF, acc, e, ha⟩ := w3.mem Dl _ hl
    refine ⟨acc, e, by rw [dps_len ha]; exact Nat.lt_of_lt_of_le hz (by decide), F3, (s1.trans s2).trans s3, ?_⟩
    have := w3.put hl (o := .lst (acc ++ [y])) (m' := .lst (ys ++ [y'])) ⟨_, rfl, dps_append ha (.cons x3 .nil)⟩
    rw [updM_upd] at this
    rw [hy]
    exact this
/-- the first i items' elements -/
def upto (ps : List PyData) (out : PyData → Option PyData) (i : Nat) : List PyData := (ps.take i).filterMap out
theorem upto_succ {ps : List PyData} {out : PyData → Option PyData} {i : Nat} {p : PyData} (h : ps[i]? = some p) : upto ps out (i + 1) = upto ps out i ++ (out p).toList := by
  unfold upto
  rw [List.take_add_one, h, List.filterMap_append]
  cases e : out p <;> simp [e]
theorem upto_len (ps : List PyData) (out : PyData → Option PyData) (i : Nat) : (upto ps out i).length ≤ ps.length := by
  unfold upto
  refine Nat.le_trans (List.length_filterMap_le _ _) ?_
  rw [List.length_take]
  exact Nat.min_le_right _ _
theorem lc_end {ps : List PyData} {out : PyData → Option PyData} {F F1 H' : Hp} {Dl : Addr} {R : VK} (hs : Same F F1) (hD : M Dl = none) (w : LcW X.K F1 M Dl (upto ps out ps.length) H') (q : Q (L (ps.filterMap out)) M) (k : Lk X F Q R) : R (.ref Dl) H' := by
  obtain ⟨F2, s2, w2⟩ := w
  obtain ⟨F3, s3, w3, x3⟩ := w2.freeze updM_same
  rw [delM_upd hD] at w3
  unfold upto at x3
  rw [List.take_length] at x3
  exact k _ _ F3 M H' q ((hs.trans s2).trans s3) w3 x3
variable {tg iter elt : Expr} {ifs : List Expr} {scope : Scope}
/-- the reading of a comprehension over a list or a tuple of data -/
theorem lcL_core {t : Tgt} {vs : List Nat} {σ : L2.St} {H F : Hp} {R : VK} (ht : ∀ j ∈ t.slots, j ∈ vs) (ho : EnvOk X.K F σ ρ) (hw : WD X.K F M H) (k : Lk X F Q R)
    (h : DE X iter ρ M fun d M1 => ∃ ps out, d = L ps ∧ ps.length ≤ 50000 ∧ (∀ p ∈ ps, Gives X scope ifs elt t vs ρ M1 p (out p)) ∧ Q (L (ps.filterMap out)) M1) :
    tLc (iList X.K (wpE X iter)) (t.g X.K) (ttB X scope ifs) (teB X scope elt) vs σ H R := by
  refine h σ H F ho hw _ fun v1 d1 F1 M1 H1 q1 s1 w1 x1 => ?_
  obtain ⟨ps, out, rfl, hz, gv, q⟩ := q1
  cases x1 with
  | @lst a1 vs1 _ hq ha =>
    refine ⟨_, rfl, ⟨_, sqL_mono w1.ext hq⟩, fun Dl hD => ?_⟩
    have hM := (w1.fresh hD).2
    refine lc_list (xs := vs1) (fun i H' => LcW X.K F1 M1 Dl (upto ps out i) H') ⟨F1, Same.refl F1, w1.new hD ⟨_, rfl, .nil⟩⟩ (fun i H' _ w => ?_) (fun i v H' hv w => ?_) fun H' w => ?_
    · obtain ⟨F2, s2, w2⟩ := w
      exact sqL_mono w2.ext (sqL_mono s2 hq)
    · obtain ⟨p, hp, hd⟩ := dps_get' ha hv
      exact lc_turn ht (ho.mono s1) hM hd (gv p (List.mem_of_getElem? hp)) w (Nat.lt_of_le_of_lt (upto_len _ _ _) (by omega)) (upto_succ hp)
    · rw [dps_len ha] at w
      exact lc_end s1 hM w q k
theorem lcT_core {t : Tgt} {vs : List Nat} {σ : L2.St} {H F : Hp} {R : VK} (ht : ∀ j ∈ t.slots, j ∈ vs) (ho : EnvOk X.K F σ ρ) (hw : WD X.K F M H) (k : Lk X F Q R)
    (h : DE X iter ρ M fun d M1 => ∃ ps out, d = T ps ∧ ps.length ≤ 50000 ∧ (∀ p ∈ ps, Gives X scope ifs elt t vs ρ M1 p (out p)) ∧ Q (L (ps.filterMap out)) M1) :
    tLc (iTup X.K (wpE X iter)) (t.g X.K) (ttB X scope ifs) (teB X scope elt) vs σ H R := by
  refine h σ H F ho hw _ fun v1 d1 F1 M1 H1 q1 s1 w1 x1 => ?_
  obtain ⟨ps, out, rfl, hz, gv, q⟩ := q1
  cases x1 with
  | @tup a1 vs1 _ hq ha =>
    refine ⟨_, rfl, ⟨_, sqT_mono w1.ext hq⟩, fun Dl hD => ?_⟩
    have hM := (w1.fresh hD).2
    refine lc_tup (xs := vs1) (fun i H' => LcW X.K F1 M1 Dl (upto ps out i) H') ⟨F1, Same.refl F1, w1.new hD ⟨_, rfl, .nil⟩⟩ (fun i H' _ w => ?_) (fun i v H' hv w => ?_) fun H' w => ?_
    · obtain ⟨F2, s2, w2⟩ := w
      exact sqT_mono w2.ext (sqT_mono s2 hq)
    · obtain ⟨p, hp, hd⟩ := dps_get' ha hv
      exact lc_turn ht (ho.mono s1) hM hd (gv p (List.mem_of_getElem? hp)) w (Nat.lt_of_le_of_lt (upto_len _ _ _) (by omega)) (upto_succ hp)
    · rw [dps_len ha] at w
      exact lc_end s1 hM w q k
/-- [elt for tg in iter if ..] over a list of data, as data -/
theorem de_lcL (t : Tgt) (own : List (Str × Nat)) (N : List Str) (sc : Scope) (hN : X.N.Nodup) (ok : blkC N sc scope own = true) (hg : Blk X scope fun X' => PG X' tg (t.g X.K)) (ht : ∀ j ∈ t.slots, j ∈ own.map (·.2))
    (h : DE X iter ρ M fun d M1 => ∃ ps out, d = L ps ∧ ps.length ≤ 50000 ∧ (∀ p ∈ ps, Gives X scope ifs elt t (own.map (·.2)) ρ M1 p (out p)) ∧ Q (L (ps.filterMap out)) M1)
    (h1 : X.N = N := by rfl) (h2 : X.env.scope = sc := by rfl) (hc : X.calm = true := by rfl) (hs : ∀ x, foldedSetIterable iter X.env x = pure x := by intro _; rfl) : DE X (.ListComp elt [⟨tg, iter, ifs, 0⟩] scope pos) ρ M Q := fun σ H F ho hw R k =>
  toE (pe_lc (te := teB X scope elt) (tt := ttB X scope ifs) hc hN (pi_list sE) (blkOk_by (by rw [h1, h2]; exact ok)) hg (fun s H C cl fp => ⟨fun pins s' _ _ _ I h => h s H C cl fp pins s' I⟩) (fun s H C cl fp => ⟨fun pins s' _ _ _ I h => h s H C cl fp pins s' I⟩) hs) (lcL_core ht ho hw k h)
theorem de_lcT (t : Tgt) (own : List (Str × Nat)) (N : List Str) (sc : Scope) (hN : X.N.Nodup) (ok : blkC N sc scope own = true) (hg : Blk X scope fun X' => PG X' tg (t.g X.K)) (ht : ∀ j ∈ t.slots, j ∈ own.map (·.2))
    (h : DE X iter ρ M fun d M1 => ∃ ps out, d = T ps ∧ ps.length ≤ 50000 ∧ (∀ p ∈ ps, Gives X scope ifs elt t (own.map (·.2)) ρ M1 p (out p)) ∧ Q (L (ps.filterMap out)) M1)
    (h1 : X.N = N := by rfl) (h2 : X.env.scope = sc := by rfl) (hc : X.calm = true := by rfl) (hs : ∀ x, foldedSetIterable iter X.env x = pure x := by intro _; rfl) : DE X (.ListComp elt [⟨tg, iter, ifs, 0⟩] scope pos) ρ M Q := fun σ H F ho hw R k =>
  toE (pe_lc (te := teB X scope elt) (tt := ttB X scope ifs) hc hN (pi_tup sE) (blkOk_by (by rw [h1, h2]; exact ok)) hg (fun s H C cl fp => ⟨fun pins s' _ _ _ I h => h s H C cl fp pins s' I⟩) (fun s H C cl fp => ⟨fun pins s' _ _ _ I h => h s H C cl fp pins s' I⟩) hs) (lcT_core ht ho hw k h)
/-- name = [..] on one line, the name a local -/
theorem ds_lcL (i : Nat) (t : Tgt) (own : List (Str × Nat)) (N : List Str) (sc : Scope) {y : Str} {py spos : Pos} (hN : X.N.Nodup) (ok : blkC N sc scope own = true) (hg : Blk X scope fun X' => PG X' tg (t.g X.K)) (ht : ∀ j ∈ t.slots, j ∈ own.map (·.2))
    (h : DE X iter ρ M fun d M1 => ∃ ps out, d = L ps ∧ ps.length ≤ 50000 ∧ (∀ p ∈ ps, Gives X scope ifs elt t (own.map (·.2)) ρ M1 p (out p)) ∧ D.nx (ρ.set i (some (L (ps.filterMap out)))) M1)
    (hl : (py.line == spos.line) = true := by rfl) (ha : (scope.names.any fun (n, k) => n == y && (k == .local || k == .cell)) = false := by decide +kernel)
    (h1 : X.N = N := by rfl) (h2 : X.env.scope = sc := by rfl) (hy : X.N[i]? = some y := by rfl) (hyl : X.env.scope.names.lookup y = some .local := by rfl) (hk : X.env.scope.kind = .function := by rfl)
    (hc : X.calm = true := by rfl) (hs : ∀ x, foldedSetIterable iter X.env x = pure x := by intro _; rfl) (hp : (py.line == pos.line) = true := by rfl) : DS X (.Assign [.Name y py] (.ListComp elt [⟨tg, iter, ifs, 0⟩] scope pos) spos) ρ M D := fun σ H F ho hw R k =>
  toS (ps_setLc (te := teB X scope elt) (tt := ttB X scope ifs) hc hN hy hyl (sw_true hk hyl hp ha) (pi_list sE) (blkOk_by (by rw [h1, h2]; exact ok)) hg (fun s H C cl fp => ⟨fun pins s' _ _ _ I h => h s H C cl fp pins s' I⟩) (fun s H C cl fp => ⟨fun pins s' _ _ _ I h => h s H C cl fp pins s' I⟩) hs)
    (lcL_core (Q := fun d M1 => D.nx (ρ.set i (some d)) M1) ht ho hw (fun v d F' M' H' q s w x => k.nx _ _ F' M' H' q s w ((ho.mono s).set i x)) h)
theorem ds_lcT (i : Nat) (t : Tgt) (own : List (Str × Nat)) (N : List Str) (sc : Scope) {y : Str} {py spos : Pos} (hN : X.N.Nodup) (ok : blkC N sc scope own = true) (hg : Blk X scope fun X' => PG X' tg (t.g X.K)) (ht : ∀ j ∈ t.slots, j ∈ own.map (·.2))
    (h : DE X iter ρ M fun d M1 => ∃ ps out, d = T ps ∧ ps.length ≤ 50000 ∧ (∀ p ∈ ps, Gives X scope ifs elt t (own.map (·.2)) ρ M1 p (out p)) ∧ D.nx (ρ.set i (some (L (ps.filterMap out)))) M1)
    (hl : (py.line == spos.line) = true := by rfl) (ha : (scope.names.any fun (n, k) => n == y && (k == .local || k == .cell)) = false := by decide +kernel)
    (h1 : X.N = N := by rfl) (h2 : X.env.scope = sc := by rfl) (hy : X.N[i]? = some y := by rfl) (hyl : X.env.scope.names.lookup y = some .local := by rfl) (hk : X.env.scope.kind = .function := by rfl)
    (hc : X.calm = true := by rfl) (hs : ∀ x, foldedSetIterable iter X.env x = pure x := by intro _; rfl) (hp : (py.line == pos.line) = true := by rfl) : DS X (.Assign [.Name y py] (.ListComp elt [⟨tg, iter, ifs, 0⟩] scope pos) spos) ρ M D := fun σ H F ho hw R k =>
  toS (ps_setLc (te := teB X scope elt) (tt := ttB X scope ifs) hc hN hy hyl (sw_true hk hyl hp ha) (pi_tup sE) (blkOk_by (by rw [h1, h2]; exact ok)) hg (fun s H C cl fp => ⟨fun pins s' _ _ _ I h => h s H C cl fp pins s' I⟩) (fun s H C cl fp => ⟨fun pins s' _ _ _ I h => h s H C cl fp pins s' I⟩) hs)
    (lcT_core (Q := fun d M1 => D.nx (ρ.set i (some d)) M1) ht ho hw (fun v d F' M' H' q s w x => k.nx _ _ F' M' H' q s w ((ho.mono s).set i x)) h)
/-! ### in -/
theorem inV_ints {i : Int} : ∀ ns : List Int, inV (.int i) (ns.map V.int) = ns.any (fun n => decide (n = i))
  | [] => rfl
  | n :: ns => by
    have ih := inV_ints (i := i) ns
    unfold inV at ih ⊢
    rw [List.map_cons, List.any_cons, List.any_cons, ih]
    rfl
theorem flat_ints : ∀ ns : List Int, (ns.map V.int).all flatV = true
  | [] => rfl
  | _ :: ns => flat_ints ns
theorem dt_inT {QT : Bool → Mem → Prop} (h : DE X a ρ M fun d1 M1 => DE X b ρ M1 fun d2 M2 => ∃ (i : Int) (ns : List Int), d1 = I i ∧ d2 = T (ns.map .int) ∧ QT (ns.any (fun n => decide (n = i))) M2) (hm : behindInMarks .In b = false := by rfl) : DT X (.Compare a [.In] [b] pos) ρ M QT := by
  refine dt_cmp op_in_seq (h.imp fun d1 M1 h1 => h1.imp fun d2 M2 h2 => ?_) hm
  obtain ⟨i, ns, rfl, rfl, q⟩ := h2
  intro F H v1 v2 x1 x2 w R k
  cases x1
  cases x2 with
  | tup hs ht =>
    have e := dps_ints ht
    subst e
    refine ⟨_, _, rfl, .inr (sqT_mono w.ext hs), rfl, flat_ints ns, ?_⟩
    rw [if_neg Bool.false_ne_true, inV_ints]
    exact k _ _ F M2 H ⟨_, rfl, q⟩ (Same.refl F) w (.bl _)
/-! ### texts compared -/
theorem cS_eq : OpR X (compareOp .Eq) (fun x y H Q => ∃ i j, x = .str i ∧ y = .str j ∧ Q (.bl (decide (i = j))) H) := by
  intro pins s σ H x y v u Q I rx ry h
  obtain ⟨i, j, rfl, rfl, q⟩ := h
  refine op_eq pins s σ H _ _ v u Q I rx ry ⟨rfl, ?_⟩
  rw [show decide (V.str i = V.str j) = decide (i = j) by rw [dec_str]; exact Bool.beq_eq_decide_eq i j]
  exact q
theorem cS_ne : OpR X (compareOp .NotEq) (fun x y H Q => ∃ i j, x = .str i ∧ y = .str j ∧ Q (.bl (!decide (i = j))) H) := by
  intro pins s σ H x y v u Q I rx ry h
  obtain ⟨i, j, rfl, rfl, q⟩ := h
  refine op_ne pins s σ H _ _ v u Q I rx ry ⟨rfl, ?_⟩
  rw [show decide (V.str i = V.str j) = decide (i = j) by rw [dec_str]; exact Bool.beq_eq_decide_eq i j]
  exact q
theorem dt_eqS {QT : Bool → Mem → Prop} (h : DE X a ρ M fun d1 M1 => DE X b ρ M1 fun d2 M2 => ∃ i j, d1 = S i ∧ d2 = S j ∧ QT (decide (i = j)) M2) : DT X (.Compare a [.Eq] [b] pos) ρ M QT := by
  refine dt_cmp cS_eq (h.imp fun d1 M1 h1 => h1.imp fun d2 M2 h2 => ?_) (nomark _)
  obtain ⟨i, j, rfl, rfl, q⟩ := h2
  intro F H v1 v2 x1 x2 w R k
  cases x1
  cases x2
  exact ⟨i, j, rfl, rfl, k _ _ F M2 H ⟨_, rfl, q⟩ (Same.refl F) w (.bl _)⟩
theorem dt_neS {QT : Bool → Mem → Prop} (h : DE X a ρ M fun d1 M1 => DE X b ρ M1 fun d2 M2 => ∃ i j, d1 = S i ∧ d2 = S j ∧ QT (!decide (i = j)) M2) : DT X (.Compare a [.NotEq] [b] pos) ρ M QT := by
  refine dt_cmp cS_ne (h.imp fun d1 M1 h1 => h1.imp fun d2 M2 h2 => ?_) (nomark _)
  obtain ⟨i, j, rfl, rfl, q⟩ := h2
  intro F H v1 v2 x1 x2 w R k
  cases x1
  cases x2
  exact ⟨i, j, rfl, rfl, k _ _ F M2 H ⟨_, rfl, q⟩ (Same.refl F) w (.bl _)⟩
/-! ### a memory that is M but at some places -/
theorem delM_ne {M : Mem} {a b : Addr} (h : b ≠ a) : delM M a b = M b := by unfold delM; rw [if_neg h]
theorem delM_same {M : Mem} {a : Addr} : delM M a a = none := by unfold delM; rw [if_pos rfl]
end
end DL
namespace DL
open PySem PySem.Spec L2
/-! ### slices -/
def cutL {α : Type} (xs : List α) (lo hi : Option Int) : List α := (xs.drop (HT.sIx xs.length 0 lo)).take (HT.sIx xs.length xs.length hi - HT.sIx xs.length 0 lo)
theorem cutL_to {α : Type} (xs : List α) (n : Nat) : cutL xs none (some (n : Int)) = xs.take n := by
  unfold cutL
  rw [HT.sIx_none, HT.sIx_nat]
  show (xs.take (min n xs.length)) = xs.take n
  rw [List.take_eq_take_iff]
  omega
theorem cutL_from {α : Type} (xs : List α) (n : Nat) : cutL xs (some (n : Int)) none = xs.drop n := by
  unfold cutL
  rw [HT.sIx_none, HT.sIx_nat]
  by_cases h : n ≤ xs.length
  · rw [Nat.min_eq_left h]
    exact List.take_of_length_le (by rw [List.length_drop]; omega)
  · rw [Nat.min_eq_right (by omega), List.drop_of_length_le (by omega : xs.length ≤ n), List.drop_length, List.take_nil]
theorem cutL_mid {α : Type} (xs : List α) (m n : Nat) : cutL xs (some (m : Int)) (some (n : Int)) = (xs.drop m).take (n - m) := by
  unfold cutL
  rw [HT.sIx_nat, HT.sIx_nat]
  by_cases h : m ≤ xs.length
  · rw [Nat.min_eq_left h, List.take_eq_take_iff, List.length_drop]
    omega
  · rw [show min m xs.length = xs.length by omega, List.drop_of_length_le (by omega : xs.length ≤ m), List.drop_length, List.take_nil, List.take_nil]
theorem cutL_mem {α : Type} {xs : List α} {lo hi : Option Int} {x : α} (h : x ∈ cutL xs lo hi) : x ∈ xs := List.mem_of_mem_drop (List.mem_of_mem_take h)
theorem cutL_all {α : Type} {xs : List α} {lo hi : Option Int} (h : HT.sIx xs.length 0 lo = 0 ∧ HT.sIx xs.length xs.length hi = xs.length) : cutL xs lo hi = xs := by
  unfold cutL
  rw [h.1, h.2]
  exact List.take_of_length_le (by rw [List.length_drop]; omega)
section
variable {K : PySem.W.Frag} {F : Hp}
theorem dps_drop : ∀ {vs : List V} {ps : List PyData} (n : Nat), DpAll K F vs ps → DpAll K F (vs.drop n) (ps.drop n)
  | _, _, 0, h => h
  | _, _, _ + 1, .nil => .nil
  | _, _, n + 1, .cons _ t => dps_drop n t
theorem dps_take : ∀ {vs : List V} {ps : List PyData} (n : Nat), DpAll K F vs ps → DpAll K F (vs.take n) (ps.take n)
  | _, _, 0, _ => .nil
  | _, _, _ + 1, .nil => .nil
  | _, _, n + 1, .cons h t => .cons h (dps_take n t)
theorem dps_cut {vs : List V} {ps : List PyData} (lo hi : Option Int) (h : DpAll K F vs ps) : DpAll K F (cutV vs lo hi) (cutL ps lo hi) := by
  unfold cutV cutL
  rw [dps_len h]
  exact dps_take _ (dps_drop _ h)
end
section
variable {X : Cx} {e a b c : Expr} {es : List Expr} {st : Stmt} {sts : List Stmt} {pos p p2 : Pos} {ρ : Ev} {M : Mem} {Q : QE} {D : DEnds} {lo hi : Option Expr}
def toO (X : Cx) : Option Expr → TO
  | none => tNoPart
  | some e => tPart (wpE X e)
theorem sO : ∀ {o : Option Expr}, PO X o (toO X o)
  | none => po_none
  | some _ => po_some sE
/-- a slice's part -/
def DO (X : Cx) (o : Option Expr) (ρ : Ev) (M : Mem) (Q : Option Int → Mem → Prop) : Prop := match o with
  | none => Q none M
  | some e => DE X e ρ M fun d M1 => ∃ i, d = I i ∧ Q (some i) M1
theorem do_none {Q : Option Int → Mem → Prop} (q : Q none M) : DO X none ρ M Q := q
theorem do_some {Q : Option Int → Mem → Prop} (h : DE X e ρ M fun d M1 => ∃ i, d = I i ∧ Q (some i) M1) : DO X (some e) ρ M Q := h
theorem DO.run {o : Option Expr} {Q : Option Int → Mem → Prop} (h : DO X o ρ M Q) {σ : St} {H F : Hp} (ho : EnvOk X.K F σ ρ) (hw : WD X.K F M H) {R : Option Int → Hp → Prop}
    (k : ∀ i F' M' H', Q i M' → Same F F' → WD X.K F' M' H' → R i H') : toO X o σ H R := by
  cases o with
  | none => exact k none F M H h (Same.refl F) hw
  | some e =>
    refine h σ H F ho hw _ fun v d F1 M1 H1 q s w x => ?_
    obtain ⟨i, rfl, q⟩ := q
    cases x
    exact ⟨i, rfl, k _ F1 M1 H1 q s w⟩
theorem de_slT (h : DE X a ρ M fun d M1 => ∃ ps, d = T ps ∧ DO X lo ρ M1 fun l M2 => DO X hi ρ M2 fun u M3 => Q (T (cutL ps l u)) M3) : DE X (.Subscript a (.Slice lo hi none p2) pos) ρ M Q := fun σ H F ho hw R k => by
  refine toE (pe_slice sl_tupA sE sO sO) ?_
  refine h σ H F ho hw _ fun v d F1 M1 H1 q s w x => ?_
  obtain ⟨ps, rfl, q⟩ := q
  refine q.run (ho.mono s) w fun l F2 M2 H2 q s2 w2 => ?_
  refine DO.run q (ho.mono (s.trans s2)) w2 fun u F3 M3 H3 q s3 w3 => ?_
  have s4 := s.trans (s2.trans s3)
  cases x with
  | tup hs ht =>
    have hs3 := sqT_mono (s2.trans s3) hs
    have ht3 := dps_mono (s2.trans s3) _ _ ht
    refine ⟨_, _, rfl, sqT_mono w3.ext hs3, fun hall => ?_, fun _ p hp => ?_⟩
    · rw [dps_len ht] at hall
      refine k _ _ F3 M3 H3 q s4 w3 ?_
      rw [cutL_all hall]
      exact .tup hs3 ht3
    · obtain ⟨s5, w5⟩ := w3.laid (o := .tup (cutV _ l u)) hp
      exact k _ _ _ M3 _ q (s4.trans s5) w5 (.tup (SqT.of upd_same) (dps_mono s5 _ _ (dps_cut l u ht3)))
theorem de_slL (h : DE X a ρ M fun d M1 => ∃ ps, d = L ps ∧ DO X lo ρ M1 fun l M2 => DO X hi ρ M2 fun u M3 => Q (L (cutL ps l u)) M3) : DE X (.Subscript a (.Slice lo hi none p2) pos) ρ M Q := fun σ H F ho hw R k => by
  refine toE (pe_slice sl_list sE sO sO) ?_
  refine h σ H F ho hw _ fun v d F1 M1 H1 q s w x => ?_
  obtain ⟨ps, rfl, q⟩ := q
  refine q.run (ho.mono s) w fun l F2 M2 H2 q s2 w2 => ?_
  refine DO.run q (ho.mono (s.trans s2)) w2 fun u F3 M3 H3 q s3 w3 => ?_
  have s4 := s.trans (s2.trans s3)
  cases x with
  | lst hs ht =>
    have hs3 := sqL_mono (s2.trans s3) hs
    have ht3 := dps_mono (s2.trans s3) _ _ ht
    refine ⟨_, _, rfl, sqL_mono w3.ext hs3, fun p hp => ?_⟩
    obtain ⟨s5, w5⟩ := w3.laid (o := .lst (cutV _ l u)) hp
    exact k _ _ _ M3 _ q (s4.trans s5) w5 (.lst (SqL.of upd_same) (dps_mono s5 _ _ (dps_cut l u ht3)))
theorem de_slS (h : DE X a ρ M fun d M1 => ∃ z : Str, d = S z ∧ z.length ≤ 10000 ∧ DO X lo ρ M1 fun l M2 => DO X hi ρ M2 fun u M3 => Q (S (cutS z l u)) M3) : DE X (.Subscript a (.Slice lo hi none p2) pos) ρ M Q := fun σ H F ho hw R k => by
  refine toE (pe_slice sl_str sE sO sO) ?_
  refine h σ H F ho hw _ fun v d F1 M1 H1 q s w x => ?_
  obtain ⟨z, rfl, hz, q⟩ := q
  cases x
  refine q.run (ho.mono s) w fun l F2 M2 H2 q s2 w2 => ?_
  refine DO.run q (ho.mono (s.trans s2)) w2 fun u F3 M3 H3 q s3 w3 => ?_
  exact ⟨z, rfl, Nat.le_trans hz (by decide), k _ _ F3 M3 H3 q (s.trans (s2.trans s3)) w3 (.str _)⟩
end
end DL
namespace DL
open PySem PySem.Spec L2
/-! ### dicts with keys ints and texts -/
section
variable {κ : Type} [DecidableEq κ]
def valE (kvs : List (κ × EV)) (k : κ) : Option EV := (kvs.find? fun kv => decide (kv.1 = k)).map (·.2)
def putE (kvs : List (κ × EV)) (k : κ) (v : EV) : List (κ × EV) :=
  if (kvs.any fun kv => decide (kv.1 = k)) = true then kvs.map (fun kv => if kv.1 = k then (kv.1, v) else kv) else kvs ++ [(k, v)]
variable {K : PySem.W.Frag} {F : Hp}
theorem KVok.val {k : κ} : ∀ {vs : List (κ × V)} {ds : List (κ × EV)}, KVok K F vs ds → (∀ e, valE ds k = some e → ∃ v, valV vs k = some v ∧ EvOk K F v e) ∧ (valE ds k = none → valV vs k = none) ∧ (vs.any fun kv => decide (kv.1 = k)) = (ds.any fun kv => decide (kv.1 = k))
  | [], [], _ => ⟨fun e h => (by cases h), fun _ => rfl, rfl⟩
  | [], d :: ds, h => by cases h.1
  | v :: vs, [], h => by cases h.1
  | v :: vs, d :: ds, ⟨h1, h2⟩ => by
    rw [List.map_cons, List.map_cons] at h1
    injection h1 with e1 e2
    cases h2 with
    | cons x xs =>
      have ih := KVok.val (k := k) (vs := vs) (ds := ds) ⟨e2, xs⟩
      by_cases hk : d.1 = k
      · have hv : v.1 = k := e1.trans hk
        have c1 : valE (d :: ds) k = some d.2 := by simp [valE, List.find?_cons, hk]
        rw [c1, valV_pos hv]
        exact ⟨fun e h => (by cases h; exact ⟨_, rfl, x⟩), fun h => (by cases h), by simp [hk, hv]⟩
      · have hv : ¬ v.1 = k := fun z => hk (e1.symm.trans z)
        have c1 : valE (d :: ds) k = valE ds k := by simp [valE, List.find?_cons, hk]
        rw [c1, valV_neg hv]
        exact ⟨ih.1, ih.2.1, by simp only [List.any_cons, hk, hv, decide_false, Bool.false_or]; exact ih.2.2⟩
theorem evs_snoc : ∀ {vs : List V} {ds : List EV} {v : V} {d : EV}, EvsOk K F vs ds → EvOk K F v d → EvsOk K F (vs ++ [v]) (ds ++ [d])
  | _, _, _, _, .nil, h => .cons h .nil
  | _, _, _, _, .cons a t, h => .cons a (evs_snoc t h)
theorem KVok.repl {k : κ} {v : V} {e : EV} (hv : EvOk K F v e) : ∀ {vs : List (κ × V)} {ds : List (κ × EV)}, KVok K F vs ds → KVok K F (vs.map fun kv => if kv.1 = k then (kv.1, v) else kv) (ds.map fun kv => if kv.1 = k then (kv.1, e) else kv)
  | [], [], _ => ⟨rfl, .nil⟩
  | [], d :: ds, h => by cases h.1
  | v :: vs, [], h => by cases h.1
  | v' :: vs, d :: ds, ⟨h1, h2⟩ => by
    rw [List.map_cons, List.map_cons] at h1
    injection h1 with e1 e2
    cases h2 with
    | cons x xs =>
      have ih := KVok.repl (k := k) hv (vs := vs) (ds := ds) ⟨e2, xs⟩
      by_cases hk : d.1 = k
      · have hv' : v'.1 = k := e1.trans hk
        refine ⟨?_, ?_⟩
        · rw [List.map_cons, List.map_cons, List.map_cons, List.map_cons, if_pos hk, if_pos hv', ih.1]; rw [hk, hv']
        · rw [List.map_cons, List.map_cons, List.map_cons, List.map_cons, if_pos hk, if_pos hv']; exact .cons hv ih.2
      · have hv' : ¬ v'.1 = k := fun z => hk (e1.symm.trans z)
        refine ⟨?_, ?_⟩
        · rw [List.map_cons, List.map_cons, List.map_cons, List.map_cons, if_neg hk, if_neg hv', ih.1, e1]
        · rw [List.map_cons, List.map_cons, List.map_cons, List.map_cons, if_neg hk, if_neg hv']; exact .cons x ih.2
theorem KVok.put {k : κ} {v : V} {e : EV} {vs : List (κ × V)} {ds : List (κ × EV)} (h : KVok K F vs ds) (hv : EvOk K F v e) : KVok K F (putK vs k v) (putE ds k e) := by
  unfold putK putE
  rw [(h.val (k := k)).2.2]
  split
  · exact h.repl hv
  · refine ⟨?_, ?_⟩
    · rw [List.map_append, List.map_append, h.1]; rfl
    · rw [List.map_append, List.map_append]; exact evs_snoc h.2 hv
theorem KVok.len {vs : List (κ × V)} {ds : List (κ × EV)} (h : KVok K F vs ds) : vs.length = ds.length := by
  have := congrArg List.length h.1
  rwa [List.length_map, List.length_map] at this
def mergeE (kvs more : List (κ × EV)) : List (κ × EV) := more.foldl (fun acc kv => putE acc kv.1 kv.2) kvs
end
theorem KVok.merge {K : PySem.W.Frag} {F : Hp} : ∀ {more : List (Key × V)} {mds : List (Key × EV)} {vs : List (Key × V)} {ds : List (Key × EV)}, KVok K F more mds → KVok K F vs ds → KVok K F (mergeK vs more) (mergeE ds mds)
  | [], [], _, _, _, h => h
  | [], d :: ds, _, _, h, _ => by cases h.1
  | v :: vs, [], _, _, h, _ => by cases h.1
  | (k, v) :: vs, (k', d) :: ds, ws, es, ⟨h1, h2⟩, h => by
    rw [List.map_cons, List.map_cons] at h1
    injection h1 with e1 e2
    have e1 : k = k' := e1
    subst e1
    cases h2 with
    | cons x xs => exact KVok.merge (more := vs) (mds := ds) ⟨e2, xs⟩ (h.put x)
def keyD : Key → EV
  | .inl i => I i
  | .inr z => S z
theorem keyD_V {K : PySem.W.Frag} {F : Hp} {v : V} : ∀ {k : Key}, EvOk K F v (keyD k) → v = kV k
  | .inl i, h => by cases (show Dp K F v (.int i) from h); rfl
  | .inr z, h => by cases (show Dp K F v (.str z) from h); rfl
section
variable {X : Cx} {e a b c : Expr} {es : List Expr} {st : Stmt} {sts : List Stmt} {pos p p2 : Pos} {ρ : Ev} {M : Mem} {Q : QE} {D : DEnds}
/-- the pairs of a display -/
def DPrs (X : Cx) (ps : List (Expr × Expr)) (ρ : Ev) (M : Mem) (Q : List (Key × EV) → Mem → Prop) : Prop := match ps with
  | [] => Q [] M
  | (k, v) :: r => DE X k ρ M fun d1 M1 => ∃ key, d1 = keyD key ∧ DE X v ρ M1 fun d2 M2 => DPrs X r ρ M2 fun kvs M3 => Q ((key, d2) :: kvs) M3
theorem dprs_nil {Q : List (Key × EV) → Mem → Prop} (q : Q [] M) : DPrs X [] ρ M Q := q
theorem dprs_cons {r : List (Expr × Expr)} {Q : List (Key × EV) → Mem → Prop} (h : DE X a ρ M fun d1 M1 => ∃ key, d1 = keyD key ∧ DE X b ρ M1 fun d2 M2 => DPrs X r ρ M2 fun kvs M3 => Q ((key, d2) :: kvs) M3) : DPrs X ((a, b) :: r) ρ M Q := h
theorem dprs_run : ∀ {ps : List (Expr × Expr)} {M : Mem} {Q : List (Key × EV) → Mem → Prop} {σ : St} {H F : Hp} {R : List (V × V) → Hp → Prop}, DPrs X ps ρ M Q → EnvOk X.K F σ ρ → WD X.K F M H →
    (∀ kvs ds F' M' H', Q ds M' → Same F F' → WD X.K F' M' H' → KVok X.K F' kvs ds → R (kvs.map fun kv => (kV kv.1, kv.2)) H') → tPairs (ps.map fun p => (wpE X p.1, wpE X p.2)) σ H R
  | [], M, Q, σ, H, F, R, h, ho, hw, k => k [] [] F M H h (Same.refl F) hw ⟨rfl, .nil⟩
  | (e1, e2) :: r, M, Q, σ, H, F, R, h, ho, hw, k => by
    show wpE X e1 σ H fun x H1 => wpE X e2 σ H1 fun y H2 => tPairs (r.map fun p => (wpE X p.1, wpE X p.2)) σ H2 fun ps H3 => R ((x, y) :: ps) H3
    refine h σ H F ho hw _ fun v1 d1 F1 M1 H1 q1 s1 w1 x1 => ?_
    obtain ⟨key, rfl, q1⟩ := q1
    refine q1 σ H1 F1 (ho.mono s1) w1 _ fun v2 d2 F2 M2 H2 q2 s2 w2 x2 => ?_
    refine dprs_run (ps := r) q2 (ho.mono (s1.trans s2)) w2 fun kvs ds F3 M3 H3 q3 s3 w3 x3 => ?_
    have e := keyD_V x1
    rw [e]
    exact k ((key, v2) :: kvs) _ F3 M3 H3 q3 (s1.trans (s2.trans s3)) w3 ⟨by rw [List.map_cons, List.map_cons, x3.1], .cons (x2.mono s3) x3.2⟩
/-- {k: v, ..}, a dict that may change -/
theorem de_disp {ks : List (Option Expr)} {vs : List Expr} {ps : List (Expr × Expr)} (h : ∀ l, M l = none → DPrs X ps ρ (updM M l (.dk [])) fun kvs M2 => M2 l = some (.dk []) ∧ Nat.ble kvs.length 15 = true ∧ Q (.o l) (updM M2 l (.dk (mergeE [] kvs))))
    (hp : PPs X pos ks vs (ps.map fun p => (wpE X p.1, wpE X p.2))) (hall : ks.all (·.isSome) = true := by rfl) (hl : ks.length = vs.length := by rfl) (h0 : ks ≠ [] := by exact List.cons_ne_nil _ _) (h15 : ks.length ≤ 15 := by decide) : DE X (.Dict ks vs pos) ρ M Q := fun σ H F ho hw R k => by
  refine toE (pe_disp hp hall hl h0 h15) ?_
  intro l hl'
  refine dprs_run (h l (hw.fresh hl').2) ho (hw.new hl' (m := .dk []) ⟨[], rfl, rfl, .nil⟩) fun kvs ds F2 M2 H2 q s w x => ?_
  obtain ⟨q1, q2, q⟩ := q
  obtain ⟨hF, vs0, e0, y0⟩ := w.mem l _ q1
  have : vs0 = [] := by
    have := y0.len
    cases vs0 with
    | nil => rfl
    | cons a b => cases this
  subst this
  refine ⟨e0, kvs, rfl, by rw [x.len]; exact Nat.le_of_ble_eq_true q2, ?_⟩
  exact k _ _ F2 _ _ q s (w.put q1 ⟨_, rfl, x.merge ⟨rfl, .nil⟩⟩) rfl
/-- d[k], there -/
theorem de_ixK (hu : X.A.units + 64 < cLine) (h : DE X a ρ M fun d1 M1 => DE X b ρ M1 fun d2 M2 => ∃ l kvs key v, d1 = .o l ∧ M2 l = some (.dk kvs) ∧ d2 = keyD key ∧ valE kvs key = some v ∧ Q v M2) (hb : NoSl b := by exact fun _ _ => rfl) : DE X (.Subscript a b pos) ρ M Q := fun σ H F ho hw R k => by
  refine toE (pe_dget (by omega) sE sE hb) ?_
  refine h σ H F ho hw _ fun v1 d1 F1 M1 H1 q1 s1 w1 x1 => ?_
  refine q1 σ H1 F1 (ho.mono s1) w1 _ fun v2 d2 F2 M2 H2 q2 s2 w2 x2 => ?_
  obtain ⟨l, kvs, key, v, rfl, hl, rfl, hv, q⟩ := q2
  cases (show v1 = V.ref l from x1)
  obtain ⟨hF, vs, e, ht⟩ := w2.mem l _ hl
  obtain ⟨v', e2, x3⟩ := (ht.val (k := key)).1 v hv
  refine ⟨l, v', rfl, ?_, k _ _ F2 M2 H2 q (s1.trans s2) w2 x3⟩
  rw [keyD_V x2, ← e2]
  exact DGet.k e
/-! ### a loop over a text -/
theorem ds_forS {tg iter : Expr} {body : List Stmt} (h : DE X iter ρ M fun d M1 => ∃ z : Str, d = S z ∧ ∃ W : Nat → QM, W 0 ρ M1 ∧ Turns X tg body D z.cps.size (fun i d => ∃ c, z.cps[i]? = some c ∧ d = S ⟨#[c]⟩) W)
    (hc : X.calm = true := by rfl) (hp : PassesOwn (model X.prog X.w) X.A X.env X.xe := by exact PassesOwn.never)
    (hs2 : ∀ x, foldedSetIterable iter X.env x = pure x := by intro _; rfl) : DS X (.For tg iter body [] pos) ρ M D := fun σ H F ho hw R k => by
  refine toS (ps_for hp hc (pi_str sE) sG sSs hs2) ?_
  refine h σ H F ho hw _ fun v d F1 M1 H1 q s w x => ?_
  obtain ⟨z, rfl, W, w0, t⟩ := q
  cases x
  refine ⟨z, rfl, fun i m σ' H' => i + m = z.cps.size ∧ ∃ ρ' F' M', W i ρ' M' ∧ Same F1 F' ∧ WD X.K F' M' H' ∧ EnvOk X.K F' σ' ρ', ⟨z.cps.size, by omega, ρ, F1, M1, w0, Same.refl F1, w, ho.mono s⟩, ?_⟩
  rintro i m σ1 H2 ⟨em, ρ1, F2, M2, hW, s1, w1, o1⟩
  by_cases hi : i < z.cps.size
  · refine .inr ⟨hi, fun σ' H' => i + 1 + (m - 1) = z.cps.size ∧ ∃ ρ' F' M', W (i + 1) ρ' M' ∧ Same F1 F' ∧ WD X.K F' M' H' ∧ EnvOk X.K F' σ' ρ', fun σ' H' hN => ⟨m - 1, by omega, hN⟩, fun x H' hy => ?_⟩
    obtain ⟨rfl, c, hc', rfl⟩ := hy
    refine t.1 i ρ1 M2 _ hi ⟨c, hc', rfl⟩ hW σ1 H' F2 _ o1 w1 (.str _) _ fun σ2 ρ2 F3 M3 H3 q2 s2 w2 o2 => ?_
    refine q2 σ2 H3 F3 o2 w2 _ ⟨?_, (k.rt.mono s).mono (s1.trans s2), (k.nx.mono s).mono (s1.trans s2), ?_⟩
    · intro σ' ρ' F' M' H' hW' s' w' o'
      exact ⟨by omega, ρ', F', M', hW', (s1.trans s2).trans s', w', o'⟩
    · intro σ' ρ' F' M' H' hW' s' w' o'
      exact ⟨by omega, ρ', F', M', hW', (s1.trans s2).trans s', w', o'⟩
  · have e : i = z.cps.size := by omega
    subst e
    exact .inl ⟨Nat.le_refl _, k.nx _ _ F2 M2 H2 (t.2 ρ1 M2 hW) (s.trans s1) w1 o1⟩
/-! ### in -/
theorem u65 {k : Nat} {A : Around} (r : Room k A) : A.units + 65 < cLine := by have := r.un; omega
def rInDT (K : PySem.W.Frag) : R2 := fun x y H Q => ∃ d ds, Dp K H x d ∧ Dp K H y (.tuple ds) ∧ SeqAt.shaped d = true ∧ SeqAt.shaped (.tuple ds) = true ∧ Q (.bl (ds.any fun z => PyData.eqv z d)) H
theorem op_inDT (hu : X.A.units + 65 < cLine) : OpR X (compareOp .In) (rInDT X.K) := by
  intro pins s σ H x y v u Q I rx ry h
  obtain ⟨d, ds, hd, he, sd, se, q⟩ := h
  obtain ⟨as, r1⟩ := Dp.reads I d x v hd rx
  obtain ⟨bs, r2⟩ := Dp.reads I (.tuple ds) y u he ry
  exact SeqAt.in_tuple_reads r2 r1 (SeqAt.canLay_of_shaped se) (SeqAt.canLay_of_shaped sd) (PyProof.Rows.room_in_shaped sd hu) ⟨.bl _, H, I, rfl, q⟩
theorem dt_inDT {QT : Bool → Mem → Prop} (hu : X.A.units + 65 < cLine) (h : DE X a ρ M fun d1 M1 => DE X b ρ M1 fun d2 M2 => ∃ p ps, d1 = .d p ∧ d2 = T ps ∧ SeqAt.shaped p = true ∧ SeqAt.shaped (.tuple ps) = true ∧ QT (ps.any fun z => PyData.eqv z p) M2) (hm : behindInMarks .In b = false := by rfl) : DT X (.Compare a [.In] [b] pos) ρ M QT := by
  refine dt_cmp (op_inDT hu) (h.imp fun d1 M1 h1 => h1.imp fun d2 M2 h2 => ?_) hm
  obtain ⟨p, ps, rfl, rfl, s1, s2, q⟩ := h2
  intro F H v1 v2 x1 x2 w R k
  exact ⟨p, ps, dp_mono w.ext _ _ x1, dp_mono w.ext _ _ x2, s1, s2, k _ _ F M2 H ⟨_, rfl, q⟩ (Same.refl F) w (.bl _)⟩
/-- a sign in a text -/
theorem dt_inC {QT : Bool → Mem → Prop} (h : DE X a ρ M fun d1 M1 => DE X b ρ M1 fun d2 M2 => ∃ (c : Nat) (z : Str), d1 = S ⟨#[c]⟩ ∧ d2 = S z ∧ QT (decide (c ∈ z.cps.toList)) M2) (hm : behindInMarks .In b = false := by rfl) : DT X (.Compare a [.In] [b] pos) ρ M QT := by
  refine dt_cmp op_in_sign (h.imp fun d1 M1 h1 => h1.imp fun d2 M2 h2 => ?_) hm
  obtain ⟨c, z, rfl, rfl, q⟩ := h2
  intro F H v1 v2 x1 x2 w R k
  cases x1
  cases x2
  exact ⟨c, z, rfl, rfl, k _ _ F M2 H ⟨_, rfl, q⟩ (Same.refl F) w (.bl _)⟩
theorem dt_notinC {QT : Bool → Mem → Prop} (h : DE X a ρ M fun d1 M1 => DE X b ρ M1 fun d2 M2 => ∃ (c : Nat) (z : Str), d1 = S ⟨#[c]⟩ ∧ d2 = S z ∧ QT (!decide (c ∈ z.cps.toList)) M2) (hm : behindInMarks .NotIn b = false := by rfl) : DT X (.Compare a [.NotIn] [b] pos) ρ M QT := by
  refine dt_cmp op_notIn_sign (h.imp fun d1 M1 h1 => h1.imp fun d2 M2 h2 => ?_) hm
  obtain ⟨c, z, rfl, rfl, q⟩ := h2
  intro F H v1 v2 x1 x2 w R k
  cases x1
  cases x2
  exact ⟨c, z, rfl, rfl, k _ _ F M2 H ⟨_, rfl, q⟩ (Same.refl F) w (.bl _)⟩
end
end DL
namespace DL
open PySem PySem.Spec L2
/-! ### what is walked over, as a list of data -/
structure DWk (K : PySem.W.Frag) (J : It) (F : Hp) (ps : List PyData) : Prop where
  ex : ∃ (G : Hp → Prop) (Y : Nat → Hp → V → Hp → Prop), Walk J ps.length G Y ∧ (∀ F' M H, Same F F' → WD K F' M H → G H) ∧
    ∀ i p F' M H x H', ps[i]? = some p → Same F F' → WD K F' M H → Y i H x H' → ∃ F'', Same F' F'' ∧ WD K F'' M H' ∧ Dp K F'' x p
section
variable {K : PySem.W.Frag} {F : Hp}
theorem dps_at : ∀ {vs : List V} {ps : List PyData} {i : Nat} {p : PyData}, DpAll K F vs ps → ps[i]? = some p → ∃ v, vs[i]? = some v ∧ Dp K F v p
  | _, _, _, _, .nil, h => by simp at h
  | _, _, 0, _, .cons a _, h => by simp at h; subst h; exact ⟨_, rfl, a⟩
  | _, _, i + 1, _, .cons _ t, h => by
    obtain ⟨v, a, b⟩ := dps_at (i := i) t (by simpa using h)
    exact ⟨v, by simpa using a, b⟩
theorem dwk_list {a : Addr} {vs : List V} {ps : List PyData} (hs : SqL K F a vs) (ht : DpAll K F vs ps) : DWk K (Itl K a) F ps := by
  refine ⟨_, _, by rw [← dps_len ht]; exact walk_list (xs := vs), fun F' M H s w => sqL_mono w.ext (sqL_mono s hs), fun i p F' M H x H' hp s w y => ?_⟩
  obtain ⟨rfl, hx⟩ := y
  obtain ⟨v, e, d⟩ := dps_at ht hp
  rw [hx] at e
  cases e
  exact ⟨F', Same.refl F', w, dp_mono s _ _ d⟩
theorem dwk_tup {a : Addr} {vs : List V} {ps : List PyData} (hs : SqT K F a vs) (ht : DpAll K F vs ps) : DWk K (Itt K a) F ps := by
  refine ⟨_, _, by rw [← dps_len ht]; exact walk_tup (xs := vs), fun F' M H s w => sqT_mono w.ext (sqT_mono s hs), fun i p F' M H x H' hp s w y => ?_⟩
  obtain ⟨rfl, hx⟩ := y
  obtain ⟨v, e, d⟩ := dps_at ht hp
  rw [hx] at e
  cases e
  exact ⟨F', Same.refl F', w, dp_mono s _ _ d⟩
def rangeD (lo : Int) (n : Nat) : List PyData := (List.range n).map fun (i : Nat) => .int (lo + (i : Int))
theorem rangeD_len (lo : Int) (n : Nat) : (rangeD lo n).length = n := by unfold rangeD; rw [List.length_map, List.length_range]
theorem rangeD_get {lo : Int} {n i : Nat} (h : i < n) : (rangeD lo n)[i]? = some (.int (lo + (i : Int))) := by
  unfold rangeD
  rw [List.getElem?_map, List.getElem?_range h]
  rfl
theorem dwk_range {lo : Int} {n : Nat} : DWk K (Itr lo n) F (rangeD lo n) := by
  refine ⟨_, _, by rw [rangeD_len]; exact walk_range, fun _ _ _ _ _ => trivial, fun i p F' M H x H' hp s w y => ?_⟩
  obtain ⟨rfl, rfl⟩ := y
  have hi : i < n := by
    have := (List.getElem?_eq_some_iff.mp hp).1
    rwa [rangeD_len] at this
  rw [rangeD_get hi] at hp
  cases hp
  exact ⟨F', Same.refl F', w, .int _⟩
def signsD (z : Str) : List PyData := z.cps.toList.map fun c => .str ⟨#[c]⟩
theorem dwk_str {z : Str} : DWk K (Its z) F (signsD z) := by
  have hl : (signsD z).length = z.cps.size := by unfold signsD; rw [List.length_map, Array.length_toList]
  refine ⟨_, _, by rw [hl]; exact walk_str, fun _ _ _ _ _ => trivial, fun i p F' M H x H' hp s w y => ?_⟩
  obtain ⟨rfl, c, hc, rfl⟩ := y
  unfold signsD at hp
  rw [List.getElem?_map, Array.getElem?_toList, hc] at hp
  cases hp
  exact ⟨F', Same.refl F', w, .str _⟩
theorem pair_new {F' M : _} {H : Hp} {T : Addr} {x y : V} {p q : PyData} (w : WD K F' M H) (hT : H T = none) (h1 : Dp K F' x p) (h2 : Dp K F' y q) :
    ∃ F'', Same F' F'' ∧ WD K F'' M (upd H T (.tup [x, y])) ∧ Dp K F'' (.ref T) (.tuple [p, q]) := by
  obtain ⟨s2, w2⟩ := w.laid (o := .tup [x, y]) hT
  exact ⟨_, s2, w2, .tup (SqT.of upd_same) (.cons (dp_mono s2 _ _ h1) (.cons (dp_mono s2 _ _ h2) .nil))⟩
def enumD (ps : List PyData) : List PyData := ps.mapIdx fun i p => .tuple [.int (i : Int), p]
theorem dwk_enum {a : Addr} {vs : List V} {ps : List PyData} (hs : SqL K F a vs) (ht : DpAll K F vs ps) : DWk K (Ite K a) F (enumD ps) := by
  have hl : (enumD ps).length = vs.length := by unfold enumD; rw [List.length_mapIdx, dps_len ht]
  refine ⟨_, _, by rw [hl]; exact walk_enum (xs := vs), fun F' M H s w => sqL_mono w.ext (sqL_mono s hs), fun i p F' M H x H' hp s w y => ?_⟩
  obtain ⟨T, x1, x2, rfl, hT, rfl, e1, e2⟩ := y
  unfold enumD at hp
  rw [List.getElem?_mapIdx] at hp
  cases hq : ps[i]? with
  | none => rw [hq] at hp; cases hp
  | some q =>
    rw [hq] at hp
    cases hp
    obtain ⟨v, e, d⟩ := dps_at ht hq
    have e2 : vs[i]? = some x2 := e2
    rw [e] at e2
    cases e2
    cases e1
    exact pair_new w hT (.int _) (dp_mono s _ _ d)
def zipD (ps qs : List PyData) : List PyData := List.zipWith (fun p q => .tuple [p, q]) ps qs
theorem zip_turn {vs us : List V} {ps qs : List PyData} (h1 : DpAll K F vs ps) (h2 : DpAll K F us qs) {i : Nat} {p : PyData} {F' : Hp} {M : Mem} {H H' : Hp} {x : V} (hp : (zipD ps qs)[i]? = some p) (s : Same F F') (w : WD K F' M H)
    (y : YPair (fun i => vs[i]?) (fun i => us[i]?) i H x H') : ∃ F'', Same F' F'' ∧ WD K F'' M H' ∧ Dp K F'' x p := by
  obtain ⟨T, x1, x2, rfl, hT, rfl, e1, e2⟩ := y
  unfold zipD at hp
  rw [List.getElem?_zipWith] at hp
  cases hq : ps[i]? with
  | none => rw [hq] at hp; cases hp
  | some a =>
    cases hr : qs[i]? with
    | none => rw [hq, hr] at hp; cases hp
    | some b =>
      rw [hq, hr] at hp
      cases hp
      obtain ⟨v, e, d⟩ := dps_at h1 hq
      obtain ⟨v', e', d'⟩ := dps_at h2 hr
      have e1 : vs[i]? = some x1 := e1
      have e2 : us[i]? = some x2 := e2
      rw [e] at e1
      rw [e'] at e2
      cases e1
      cases e2
      exact pair_new w hT (dp_mono s _ _ d) (dp_mono s _ _ d')
theorem zipD_len {vs us : List V} {ps qs : List PyData} (h1 : DpAll K F vs ps) (h2 : DpAll K F us qs) : (zipD ps qs).length = min vs.length us.length := by
  unfold zipD; rw [List.length_zipWith, dps_len h1, dps_len h2]
theorem dwk_zip {a b : Addr} {vs us : List V} {ps qs : List PyData} (hs : SqL K F a vs) (hs2 : SqL K F b us) (h1 : DpAll K F vs ps) (h2 : DpAll K F us qs) : DWk K (Itz K a b) F (zipD ps qs) :=
  ⟨_, _, walk_zip (xs := vs) (ys := us) (zipD_len h1 h2), fun F' M H s w => ⟨sqL_mono w.ext (sqL_mono s hs), sqL_mono w.ext (sqL_mono s hs2)⟩, fun i p F' M H x H' hp s w y => zip_turn h1 h2 hp s w y⟩
theorem walk_zipT {a b : Addr} {xs ys : List V} {n : Nat} (hn : n = min xs.length ys.length) : Walk (RZ.ItzT K a b) n (fun H => SqT K H a xs ∧ SqT K H b ys) (YPair (fun i => xs[i]?) (fun i => ys[i]?)) := by
  subst hn
  refine ⟨fun i _ hi q => ?_, fun _ q => ⟨xs, ys, q.1, q.2, by omega⟩, fun i H v H' _ q y => ?_⟩
  · have h1 : i < xs.length := by omega
    have h2 : i < ys.length := by omega
    exact ⟨xs, ys, xs[i], ys[i], q.1, q.2, by simp [h1], by simp [h2]⟩
  · obtain ⟨T, x, z, h1, h2, h3, h4, h5⟩ := y
    exact ⟨T, x, z, h1, h2, h3, h4 xs q.1, h5 ys q.2⟩
theorem dwk_zipT {a b : Addr} {vs us : List V} {ps qs : List PyData} (hs : SqT K F a vs) (hs2 : SqT K F b us) (h1 : DpAll K F vs ps) (h2 : DpAll K F us qs) : DWk K (RZ.ItzT K a b) F (zipD ps qs) :=
  ⟨_, _, walk_zipT (xs := vs) (ys := us) (zipD_len h1 h2), fun F' M H s w => ⟨sqT_mono w.ext (sqT_mono s hs), sqT_mono w.ext (sqT_mono s hs2)⟩, fun i p F' M H x H' hp s w y => zip_turn h1 h2 hp s w y⟩
end
section
variable {X : Cx} {e a b c : Expr} {es : List Expr} {st : Stmt} {sts : List Stmt} {pos p p2 : Pos} {ρ : Ev} {M : Mem} {Q : QE} {D : DEnds} {tg iter elt : Expr} {ifs : List Expr} {scope : Scope}
/-- the reading of what a loop walks over -/
def DI (X : Cx) (tg iter : Expr) (ρ : Ev) (M : Mem) (Q : List PyData → Mem → Prop) : Prop := ∃ wi : TI, PI X tg iter wi ∧
  ∀ σ H F, EnvOk X.K F σ ρ → WD X.K F M H → ∀ R : It → Hp → Prop, (∀ J ps F' M' H', Q ps M' → Same F F' → WD X.K F' M' H' → DWk X.K J F' ps → R J H') → wi σ H R
theorem di_list {Q : List PyData → Mem → Prop} (h : DE X iter ρ M fun d M1 => ∃ ps, d = L ps ∧ Q ps M1) : DI X tg iter ρ M Q := ⟨_, pi_list sE, fun σ H F ho hw R k => by
  refine h σ H F ho hw _ fun v d F1 M1 H1 q s w x => ?_
  obtain ⟨ps, rfl, q⟩ := q
  cases x with
  | lst hs ht => exact ⟨_, rfl, ⟨_, sqL_mono w.ext hs⟩, k _ _ F1 M1 H1 q s w (dwk_list hs ht)⟩⟩
theorem di_tup {Q : List PyData → Mem → Prop} (h : DE X iter ρ M fun d M1 => ∃ ps, d = T ps ∧ Q ps M1) : DI X tg iter ρ M Q := ⟨_, pi_tup sE, fun σ H F ho hw R k => by
  refine h σ H F ho hw _ fun v d F1 M1 H1 q s w x => ?_
  obtain ⟨ps, rfl, q⟩ := q
  cases x with
  | tup hs ht => exact ⟨_, rfl, ⟨_, sqT_mono w.ext hs⟩, k _ _ F1 M1 H1 q s w (dwk_tup hs ht)⟩⟩
theorem di_str {Q : List PyData → Mem → Prop} (h : DE X iter ρ M fun d M1 => ∃ z, d = S z ∧ Q (signsD z) M1) : DI X tg iter ρ M Q := ⟨_, pi_str sE, fun σ H F ho hw R k => by
  refine h σ H F ho hw _ fun v d F1 M1 H1 q s w x => ?_
  obtain ⟨z, rfl, q⟩ := q
  cases x
  exact ⟨z, rfl, k _ _ F1 M1 H1 q s w dwk_str⟩⟩
theorem di_range1 {Q : List PyData → Mem → Prop} (h : DA X [a] ρ M fun ds M1 => ∃ n : Int, ds = [I n] ∧ -(2 ^ 62) ≤ n ∧ n < 2 ^ 62 ∧ Q (rangeD 0 n.toNat) M1) (hm : X.mg "range" = none) (hg : Gl X "range" := by rfl) (hs : starEach [a] X.env = [(false, eval a X.env)] := by rfl) :
    DI X tg (.Call (.Name "range" p) [a] [] p2) ρ M Q := ⟨_, pi_range1 hg hm sA hs, fun σ H F ho hw R k => by
  refine h σ H F ho hw _ fun vs ds F1 M1 H1 q s w x => ?_
  obtain ⟨n, rfl, n1, n2, q⟩ := q
  cases x with
  | cons x1 t1 =>
    cases t1
    cases x1
    exact ⟨n, rfl, n1, n2, k _ _ F1 M1 H1 q s w dwk_range⟩⟩
theorem di_range2 {Q : List PyData → Mem → Prop} (h : DA X [a, b] ρ M fun ds M1 => ∃ i j : Int, ds = [I i, I j] ∧ (-(2 ^ 62) ≤ i ∧ i < 2 ^ 62 ∧ -(2 ^ 62) ≤ j ∧ j < 2 ^ 62) ∧ Q (rangeD i (j - i).toNat) M1) (hm : X.mg "range" = none) (hg : Gl X "range" := by rfl)
    (hs : starEach [a, b] X.env = [(false, eval a X.env), (false, eval b X.env)] := by rfl) (hs' : starEach [b] X.env = [(false, eval b X.env)] := by rfl) :
    DI X tg (.Call (.Name "range" p) [a, b] [] p2) ρ M Q := ⟨_, pi_range2 hg hm sA hs hs', fun σ H F ho hw R k => by
  refine h σ H F ho hw _ fun vs ds F1 M1 H1 q s w x => ?_
  obtain ⟨i, j, rfl, hb, q⟩ := q
  cases x with
  | cons x1 t1 =>
    cases t1 with
    | cons x2 t2 =>
      cases t2
      cases x1
      cases x2
      exact ⟨i, j, rfl, hb, k _ _ F1 M1 H1 q s w dwk_range⟩⟩
theorem di_enum {elts : List Expr} {kk : Nat} {tpos : Pos} {Q : List PyData → Mem → Prop} (h : DA X [a] ρ M fun ds M1 => ∃ ps, ds = [L ps] ∧ Q (enumD ps) M1) (hm : X.mg "enumerate" = none) (hg : Gl X "enumerate" := by rfl) (hs : starEach [a] X.env = [(false, eval a X.env)] := by rfl) :
    DI X (.Tuple elts kk tpos) (.Call (.Name "enumerate" p) [a] [] p2) ρ M Q := ⟨_, pi_enum hg hm sA hs, fun σ H F ho hw R k => by
  refine h σ H F ho hw _ fun vs ds F1 M1 H1 q s w x => ?_
  obtain ⟨ps, rfl, q⟩ := q
  cases x with
  | cons x1 t1 =>
    cases t1
    cases x1 with
    | lst hs ht => exact ⟨_, _, rfl, sqL_mono w.ext hs, k _ _ F1 M1 H1 q s w (dwk_enum hs ht)⟩⟩
theorem di_zip {elts : List Expr} {kk : Nat} {tpos : Pos} {Q : List PyData → Mem → Prop} (h : DA X [a, b] ρ M fun ds M1 => ∃ ps qs, (ds = [L ps, L qs] ∨ ds = [T ps, T qs]) ∧ Q (zipD ps qs) M1) (hm : X.mg "zip" = none) (hg : Gl X "zip" := by rfl)
    (hs : starEach [a, b] X.env = (false, eval a X.env) :: starEach [b] X.env := by rfl) (hpl : (backTo p2 (starEach [b] X.env)).any (·.1) = false := by rfl) :
    DI X (.Tuple elts kk tpos) (.Call (.Name "zip" p) [a, b] [] p2) ρ M Q := ⟨_, RZ.pi_zipA hg hm sA hs hpl, fun σ H F ho hw R k => by
  refine h σ H F ho hw _ fun vs ds F1 M1 H1 q s w x => ?_
  obtain ⟨ps, qs, e, q⟩ := q
  rcases e with rfl | rfl
  · cases x with
    | cons x1 t1 =>
      cases t1 with
      | cons x2 t2 =>
        cases t2
        cases x1 with
        | lst hs ht =>
          cases x2 with
          | lst hs2 ht2 => exact ⟨_, _, _, _, rfl, .inl ⟨sqL_mono w.ext hs, sqL_mono w.ext hs2, k _ _ F1 M1 H1 q s w (dwk_zip hs hs2 ht ht2)⟩⟩
  · cases x with
    | cons x1 t1 =>
      cases t1 with
      | cons x2 t2 =>
        cases t2
        cases x1 with
        | tup hs ht =>
          cases x2 with
          | tup hs2 ht2 => exact ⟨_, _, _, _, rfl, .inr ⟨sqT_mono w.ext hs, sqT_mono w.ext hs2, k _ _ F1 M1 H1 q s w (dwk_zipT hs hs2 ht ht2)⟩⟩⟩
/-- for, over anything that DI reads -/
theorem ds_forI {body : List Stmt} (h : DI X tg iter ρ M fun ps M1 => ∃ W : Nat → QM, W 0 ρ M1 ∧ Turns X tg body D ps.length (fun i d => ∃ p, ps[i]? = some p ∧ d = .d p) W)
    (hc : X.calm = true := by rfl) (hp : PassesOwn (model X.prog X.w) X.A X.env X.xe := by exact PassesOwn.never)
    (hs2 : ∀ x, foldedSetIterable iter X.env x = pure x := by intro _; rfl) : DS X (.For tg iter body [] pos) ρ M D := by
  obtain ⟨wi, hi, h⟩ := h
  intro σ H F ho hw R k
  refine toS (ps_for hp hc hi sG sSs hs2) ?_
  refine h σ H F ho hw _ fun J ps F1 M1 H1 q s w dw => ?_
  obtain ⟨W, w0, t⟩ := q
  obtain ⟨G, Y, wk, hG, hY⟩ := dw.ex
  refine for_it wk (g := wpG X tg) (tb := wpSs X body) (D := R) (fun i σ' H' => ∃ ρ' F' M', W i ρ' M' ∧ Same F1 F' ∧ WD X.K F' M' H' ∧ EnvOk X.K F' σ' ρ') ⟨ρ, F1, M1, w0, Same.refl F1, w, ho.mono s⟩ ?_ ?_ ?_
  · rintro i σ1 H1 hi ⟨ρ1, F2, M2, hW, s1, w1, o1⟩
    exact hG F2 M2 H1 s1 w1
  · rintro i x σ1 H2 H3 hi ⟨ρ1, F2, M2, hW, s1, w1, o1⟩ hy
    obtain ⟨F3, s3, w3, x3⟩ := hY i ps[i] F2 M2 H2 x H3 (List.getElem?_eq_getElem hi) s1 w1 hy
    refine t.1 i ρ1 M2 (.d ps[i]) hi ⟨_, List.getElem?_eq_getElem hi, rfl⟩ hW σ1 H3 F3 _ (o1.mono s3) w3 x3 _ fun σ2 ρ2 F4 M4 H4 q2 s4 w4 o4 => ?_
    have s5 : Same F1 F4 := s1.trans (s3.trans s4)
    refine q2 σ2 H4 F4 o4 w4 _ ⟨?_, (k.rt.mono s).mono s5, (k.nx.mono s).mono s5, ?_⟩
    · intro σ' ρ' F' M' H' hW' s' w' o'
      exact ⟨ρ', F', M', hW', s5.trans s', w', o'⟩
    · intro σ' ρ' F' M' H' hW' s' w' o'
      exact ⟨ρ', F', M', hW', s5.trans s', w', o'⟩
  · rintro σ1 H2 ⟨ρ1, F2, M2, hW, s1, w1, o1⟩
    exact k.nx _ _ F2 M2 H2 (t.2 ρ1 M2 hW) (s.trans s1) w1 o1
theorem lc_turnI {t : Tgt} {vs : List Nat} {σ : L2.St} {F H' : Hp} {Dl : Addr} {ys ys' : List PyData} {v : V} {p : PyData} {o : Option PyData} (ht : ∀ j ∈ t.slots, j ∈ vs) (ho : EnvOk X.K F σ ρ) (hD : M Dl = none)
    (gv : Gives X scope ifs elt t vs ρ M p o) {F1 : Hp} (s1 : Same F F1) (w1 : WD X.K F1 (updM M Dl (.lst ys)) H') (hv : Dp X.K F1 v p) (hz : ys.length < 100000) (hy : ys' = ys ++ o.toList) :
    t.g X.K v (wipe σ vs) H' fun σ2 H2 => wipe σ2 vs = wipe σ vs ∧ ttB X scope ifs σ2 H2 fun b H3 =>
      if b = true then teB X scope elt σ2 H3 fun y H4 => ∃ acc, H4 Dl = some (.lst acc) ∧ acc.length < sizeLine ∧ LcW X.K F M Dl ys' (upd H4 Dl (.lst (acc ++ [y]))) else LcW X.K F M Dl ys' H3 := by
  obtain ⟨ρ2, b, hp, gv⟩ := gv
  refine t.go ht (wipe_ok vs (ho.mono s1)) w1 hv hp fun σ2 o2 e2 => ⟨e2, ?_⟩
  have up : ∀ a m, M a = some m → updM M Dl (.lst ys) a = some m := fun a m e => by
    rw [updM_ne (fun q => by rw [q, hD] at e; cases e)]
    exact e
  obtain ⟨gt, ge⟩ := gv _ up
  intro s H0 C cl fp
  refine gt s H0 C cl fp σ2 H' F1 o2 w1 _ fun b' F2 M2 H2 q2 s2 w2 => ?_
  obtain ⟨rfl, rfl⟩ := q2
  cases b' with
  | false =>
    rw [if_neg Bool.false_ne_true] at ge ⊢
    subst ge
    rw [hy]
    simp only [Option.toList, List.append_nil]
    exact ⟨F2, s1.trans s2, w2⟩
  | true =>
    rw [if_pos rfl] at ge ⊢
    obtain ⟨y', rfl, ge⟩ := ge
    intro s' H0' C' cl' fp'
    refine ge s' H0' C' cl' fp' σ2 H2 F2 (o2.mono s2) w2 _ fun y d F3 M3 H3 q4 s3 w3 x3 => ?_
    obtain ⟨rfl, rfl⟩ := q4
    have hl : updM M Dl (.lst ys) Dl = some (.lst ys) := updM_same
    obtain ⟨hF, acc, e, ha⟩ := w3.mem Dl _ hl
    refine ⟨acc, e, by rw [dps_len ha]; exact Nat.lt_of_lt_of_le hz (by decide), F3, (s1.trans s2).trans s3, ?_⟩
    have := w3.put hl (o := .lst (acc ++ [y])) (m' := .lst (ys ++ [y'])) ⟨_, rfl, dps_append ha (.cons x3 .nil)⟩
    rw [updM_upd] at this
    rw [hy]
    exact this
theorem lcI_core {t : Tgt} {vs : List Nat} {σ : L2.St} {H F : Hp} {R : VK} {wi : TI} (ht : ∀ j ∈ t.slots, j ∈ vs) (ho : EnvOk X.K F σ ρ) (hw : WD X.K F M H) (k : Lk X F Q R)
    (h : ∀ σ H F, EnvOk X.K F σ ρ → WD X.K F M H → ∀ R : It → Hp → Prop, (∀ J ps F' M' H', (∃ out, ps.length ≤ 50000 ∧ (∀ p ∈ ps, Gives X scope ifs elt t vs ρ M' p (out p)) ∧ Q (L (ps.filterMap out)) M') → Same F F' → WD X.K F' M' H' → DWk X.K J F' ps → R J H') → wi σ H R) :
    tLc wi (t.g X.K) (ttB X scope ifs) (teB X scope elt) vs σ H R := by
  refine h σ H F ho hw _ fun J ps F1 M1 H1 q1 s1 w1 dw => ?_
  obtain ⟨out, hz, gv, q⟩ := q1
  obtain ⟨G, Y, wk, hG, hY⟩ := dw.ex
  intro Dl hD
  have hM := (w1.fresh hD).2
  refine lc_it wk (fun i H' => LcW X.K F1 M1 Dl (upto ps out i) H') ⟨F1, Same.refl F1, w1.new hD ⟨_, rfl, .nil⟩⟩ (fun i H' _ w => ?_) (fun i x H2 H3 hi w hy => ?_) fun H' w => ?_
  · obtain ⟨F2, s2, w2⟩ := w
    exact hG F2 _ H' s2 w2
  · obtain ⟨F2, s2, w2⟩ := w
    obtain ⟨F3, s3, w3, x3⟩ := hY i ps[i] F2 _ H2 x H3 (List.getElem?_eq_getElem hi) s2 w2 hy
    exact lc_turnI ht (ho.mono s1) hM (gv ps[i] (List.getElem_mem hi)) (s2.trans s3) w3 x3 (Nat.lt_of_le_of_lt (upto_len _ _ _) (by omega)) (upto_succ (List.getElem?_eq_getElem hi))
  · exact lc_end s1 hM w q k
theorem de_lcI (t : Tgt) (own : List (Str × Nat)) (N : List Str) (sc : Scope) (hN : X.N.Nodup) (ok : blkC N sc scope own = true) (hg : Blk X scope fun X' => PG X' tg (t.g X.K)) (ht : ∀ j ∈ t.slots, j ∈ own.map (·.2))
    (h : DI X tg iter ρ M fun ps M1 => ∃ out, ps.length ≤ 50000 ∧ (∀ p ∈ ps, Gives X scope ifs elt t (own.map (·.2)) ρ M1 p (out p)) ∧ Q (L (ps.filterMap out)) M1)
    (h1 : X.N = N := by rfl) (h2 : X.env.scope = sc := by rfl) (hc : X.calm = true := by rfl) (hs : ∀ x, foldedSetIterable iter X.env x = pure x := by intro _; rfl) : DE X (.ListComp elt [⟨tg, iter, ifs, 0⟩] scope pos) ρ M Q := by
  obtain ⟨wi, hi, h⟩ := h
  exact fun σ H F ho hw R k => toE (pe_lc (te := teB X scope elt) (tt := ttB X scope ifs) hc hN hi (blkOk_by (by rw [h1, h2]; exact ok)) hg (fun s H C cl fp => ⟨fun pins s' _ _ _ I h => h s H C cl fp pins s' I⟩) (fun s H C cl fp => ⟨fun pins s' _ _ _ I h => h s H C cl fp pins s' I⟩) hs) (lcI_core ht ho hw k h)
theorem ds_lcI (i : Nat) (t : Tgt) (own : List (Str × Nat)) (N : List Str) (sc : Scope) {y : Str} {py spos : Pos} (hN : X.N.Nodup) (ok : blkC N sc scope own = true) (hg : Blk X scope fun X' => PG X' tg (t.g X.K)) (ht : ∀ j ∈ t.slots, j ∈ own.map (·.2))
    (h : DI X tg iter ρ M fun ps M1 => ∃ out, ps.length ≤ 50000 ∧ (∀ p ∈ ps, Gives X scope ifs elt t (own.map (·.2)) ρ M1 p (out p)) ∧ D.nx (ρ.set i (some (L (ps.filterMap out)))) M1)
    (hl : (py.line == spos.line) = true := by rfl) (ha : (scope.names.any fun (n, k) => n == y && (k == .local || k == .cell)) = false := by decide +kernel)
    (h1 : X.N = N := by rfl) (h2 : X.env.scope = sc := by rfl) (hy : X.N[i]? = some y := by rfl) (hyl : X.env.scope.names.lookup y = some .local := by rfl) (hk : X.env.scope.kind = .function := by rfl)
    (hc : X.calm = true := by rfl) (hs : ∀ x, foldedSetIterable iter X.env x = pure x := by intro _; rfl) (hp : (py.line == pos.line) = true := by rfl) : DS X (.Assign [.Name y py] (.ListComp elt [⟨tg, iter, ifs, 0⟩] scope pos) spos) ρ M D := by
  obtain ⟨wi, hi, h⟩ := h
  exact fun σ H F ho hw R k => toS (ps_setLc (te := teB X scope elt) (tt := ttB X scope ifs) hc hN hy hyl (sw_true hk hyl hp ha) hi (blkOk_by (by rw [h1, h2]; exact ok)) hg (fun s H C cl fp => ⟨fun pins s' _ _ _ I h => h s H C cl fp pins s' I⟩) (fun s H C cl fp => ⟨fun pins s' _ _ _ I h => h s H C cl fp pins s' I⟩) hs)
    (lcI_core (Q := fun d M1 => D.nx (ρ.set i (some d)) M1) ht ho hw (fun v d F' M' H' q s w x => k.nx _ _ F' M' H' q s w ((ho.mono s).set i x)) h)
/-! ### built-ins over lists -/
theorem dps_intsV {K : PySem.W.Frag} {F : Hp} : ∀ {ns : List Int} {vs : List V}, DpAll K F vs (ns.map PyData.int) → vs = ns.map V.int
  | [], _, h => by cases h; rfl
  | n :: ns, _, h => by
    rw [List.map_cons] at h
    cases h with
    | cons x t => cases x; rw [dps_intsV t]; rfl
theorem dps_boolsV {K : PySem.W.Frag} {F : Hp} : ∀ {bs : List Bool} {vs : List V}, DpAll K F vs (bs.map PyData.bool) → vs = bs.map V.bl
  | [], _, h => by cases h; rfl
  | n :: ns, _, h => by
    rw [List.map_cons] at h
    cases h with
    | cons x t => cases x; rw [dps_boolsV t]; rfl
theorem de_sum (h : DA X (e :: es) ρ M fun ds M1 => ∃ ns : List Int, ds = [L (ns.map .int)] ∧ Q (I ns.sum) M1) (hm : X.mg "sum" = none) (hc : X.calm = true := by rfl) (hg : Gl X "sum" := by rfl)
    (he : starEach (e :: es) X.env = (false, eval e X.env) :: starEach es X.env := by rfl) (hpl : (backTo pos (starEach es X.env)).any (·.1) = false := by rfl) : DE X (.Call (.Name "sum" p) (e :: es) [] pos) ρ M Q := by
  refine de_blt (cr_sum hc) (h.imp fun ds M1 q => ?_) hm (by decide +kernel) hg (by decide) (by decide) he hpl
  obtain ⟨ns, rfl, q⟩ := q
  intro F H vs x w R k
  obtain ⟨v, rfl, x1⟩ := evs1 x
  cases x1 with
  | lst hs ht =>
    have e := dps_intsV ht
    subst e
    exact ⟨_, ns, rfl, sqL_mono w.ext hs, k _ _ F M1 H q (Same.refl F) w (.int _)⟩
theorem de_any (h : DA X (e :: es) ρ M fun ds M1 => ∃ bs : List Bool, ds = [L (bs.map .bool)] ∧ Q (B (bs.any id)) M1) (hm : X.mg "any" = none) (hc : X.calm = true := by rfl) (hg : Gl X "any" := by rfl)
    (he : starEach (e :: es) X.env = (false, eval e X.env) :: starEach es X.env := by rfl) (hpl : (backTo pos (starEach es X.env)).any (·.1) = false := by rfl) : DE X (.Call (.Name "any" p) (e :: es) [] pos) ρ M Q := by
  refine de_blt (cr_any hc) (h.imp fun ds M1 q => ?_) hm (by decide +kernel) hg (by decide) (by decide) he hpl
  obtain ⟨ns, rfl, q⟩ := q
  intro F H vs x w R k
  obtain ⟨v, rfl, x1⟩ := evs1 x
  cases x1 with
  | lst hs ht =>
    have e := dps_boolsV ht
    subst e
    exact ⟨_, ns, rfl, sqL_mono w.ext hs, k _ _ F M1 H q (Same.refl F) w (.bl _)⟩
theorem de_all (h : DA X (e :: es) ρ M fun ds M1 => ∃ bs : List Bool, ds = [L (bs.map .bool)] ∧ Q (B (bs.all id)) M1) (hm : X.mg "all" = none) (hc : X.calm = true := by rfl) (hg : Gl X "all" := by rfl)
    (he : starEach (e :: es) X.env = (false, eval e X.env) :: starEach es X.env := by rfl) (hpl : (backTo pos (starEach es X.env)).any (·.1) = false := by rfl) : DE X (.Call (.Name "all" p) (e :: es) [] pos) ρ M Q := by
  refine de_blt (cr_all hc) (h.imp fun ds M1 q => ?_) hm (by decide +kernel) hg (by decide) (by decide) he hpl
  obtain ⟨ns, rfl, q⟩ := q
  intro F H vs x w R k
  obtain ⟨v, rfl, x1⟩ := evs1 x
  cases x1 with
  | lst hs ht =>
    have e := dps_boolsV ht
    subst e
    exact ⟨_, ns, rfl, sqL_mono w.ext hs, k _ _ F M1 H q (Same.refl F) w (.bl _)⟩
end
end DL
namespace DL
open PySem PySem.Spec L2
section
variable {X : Cx} {e a b c : Expr} {es : List Expr} {st : Stmt} {sts : List Stmt} {pos p p2 : Pos} {ρ : Ev} {M : Mem} {Q : QE} {D : DEnds}
/-- the environment told anew -/
theorem dss_as {ρ' : Ev} (e : ρ = ρ') (h : DSs X sts ρ' M D) : DSs X sts ρ M D := e ▸ h
/-- t + u of tuples -/
theorem de_catT (h : DE X a ρ M fun d1 M1 => DE X b ρ M1 fun d2 M2 => ∃ ps qs, d1 = T ps ∧ d2 = T qs ∧ Nat.ble (ps.length + qs.length) 100000 = true ∧ Q (T (ps ++ qs)) M2) : DE X (.BinOp a .Add b pos) ρ M Q := by
  refine de_bin op_catA (h.imp fun d1 M1 h1 => h1.imp fun d2 M2 h2 => ?_)
  obtain ⟨ps, qs, rfl, rfl, hl, q⟩ := h2
  intro F H v1 v2 x1 x2 w R k
  cases x1 with
  | tup hs ht =>
    cases x2 with
    | tup hs2 ht2 =>
      refine ⟨_, _, _, _, rfl, rfl, sqT_mono w.ext hs, sqT_mono w.ext hs2, by rw [dps_len ht, dps_len ht2]; exact small_line (Nat.le_of_ble_eq_true hl), fun z => ?_, fun _ z => ?_, fun _ _ r hr => ?_⟩
      · subst z
        cases ht
        exact k _ _ F M2 H q (Same.refl F) w (.tup hs2 ht2)
      · subst z
        cases ht2
        rw [List.append_nil] at q
        exact k _ _ F M2 H q (Same.refl F) w (.tup hs ht)
      · obtain ⟨s2, w2⟩ := w.laid (o := .tup (_ ++ _)) hr
        exact k _ _ _ M2 _ q s2 w2 (.tup (SqT.of upd_same) (dps_mono s2 _ _ (dps_append ht ht2)))
/-- xs + ys of lists of the memory: a new list -/
theorem de_catO (h : DE X a ρ M fun d1 M1 => DE X b ρ M1 fun d2 M2 => ∃ l1 l2 ps qs, d1 = .o l1 ∧ d2 = .o l2 ∧ M2 l1 = some (.lst ps) ∧ M2 l2 = some (.lst qs) ∧ ps.length + qs.length ≤ 100000 ∧ ∀ l, M2 l = none → Q (.o l) (updM M2 l (.lst (ps ++ qs)))) : DE X (.BinOp a .Add b pos) ρ M Q := by
  refine de_bin op_cat (h.imp fun d1 M1 h1 => h1.imp fun d2 M2 h2 => ?_)
  obtain ⟨l1, l2, ps, qs, rfl, rfl, m1, m2, hl, q⟩ := h2
  intro F H v1 v2 x1 x2 w R k
  cases (show v1 = V.ref l1 from x1)
  cases (show v2 = V.ref l2 from x2)
  obtain ⟨-, vs, e1, t1⟩ := w.mem l1 _ m1
  obtain ⟨-, us, e2, t2⟩ := w.mem l2 _ m2
  refine ⟨l1, l2, vs, us, rfl, rfl, e1, e2, by rw [dps_len t1, dps_len t2]; exact small_line hl, fun r hr => ?_⟩
  exact k _ _ F _ _ (q r (w.fresh hr).2) (Same.refl F) (w.new hr ⟨_, rfl, dps_append t1 t2⟩) rfl
/-- .. as data -/
theorem de_catD (h : DE X a ρ M fun d1 M1 => DE X b ρ M1 fun d2 M2 => ∃ l1 l2 ps qs, d1 = .o l1 ∧ d2 = .o l2 ∧ M2 l1 = some (.lst ps) ∧ M2 l2 = some (.lst qs) ∧ ps.length + qs.length ≤ 100000 ∧ Q (L (ps ++ qs)) M2) : DE X (.BinOp a .Add b pos) ρ M Q := by
  refine de_bin op_cat (h.imp fun d1 M1 h1 => h1.imp fun d2 M2 h2 => ?_)
  obtain ⟨l1, l2, ps, qs, rfl, rfl, m1, m2, hl, q⟩ := h2
  intro F H v1 v2 x1 x2 w R k
  cases (show v1 = V.ref l1 from x1)
  cases (show v2 = V.ref l2 from x2)
  obtain ⟨-, vs, e1, t1⟩ := w.mem l1 _ m1
  obtain ⟨-, us, e2, t2⟩ := w.mem l2 _ m2
  refine ⟨l1, l2, vs, us, rfl, rfl, e1, e2, by rw [dps_len t1, dps_len t2]; exact small_line hl, fun r hr => ?_⟩
  obtain ⟨s2, w2⟩ := w.laid (o := .lst (vs ++ us)) hr
  exact k _ _ _ M2 _ q s2 w2 (.lst (SqL.of upd_same) (dps_mono s2 _ _ (dps_append t1 t2)))
/-- list(x) of a tuple or a list of data: a new list that may change -/
theorem de_listO (h : DA X (e :: es) ρ M fun ds M1 => ∃ ps, (ds = [T ps] ∨ ds = [L ps]) ∧ ∀ l, M1 l = none → Q (.o l) (updM M1 l (.lst ps))) (hm : X.mg "list" = none) (hg : Gl X "list" := by rfl)
    (he : starEach (e :: es) X.env = (false, eval e X.env) :: starEach es X.env := by rfl) (hpl : (backTo pos (starEach es X.env)).any (·.1) = false := by rfl) : DE X (.Call (.Name "list" p) (e :: es) [] pos) ρ M Q := by
  refine de_bty call_list_of (h.imp fun ds M1 q => ?_) hm (by decide +kernel) hg (by decide) (by decide) he hpl
  obtain ⟨ps, e, q⟩ := q
  intro F H vs x w R k
  rcases e with rfl | rfl
  · obtain ⟨v, rfl, x1⟩ := evs1 x
    cases x1 with
    | tup hs ht => exact ⟨_, _, rfl, .inr (sqT_mono w.ext hs), fun r hr => k _ _ F _ _ (q r (w.fresh hr).2) (Same.refl F) (w.new hr ⟨_, rfl, ht⟩) rfl⟩
  · obtain ⟨v, rfl, x1⟩ := evs1 x
    cases x1 with
    | lst hs ht => exact ⟨_, _, rfl, .inl (sqL_mono w.ext hs), fun r hr => k _ _ F _ _ (q r (w.fresh hr).2) (Same.refl F) (w.new hr ⟨_, rfl, ht⟩) rfl⟩
end
end DL
/-! ### instances: their fields, their methods, how they are made -/
namespace DL
open PySem PySem.Spec L2
def putD (f : Str) (d : EV) : List (Str × EV) → List (Str × EV)
  | [] => [(f, d)]
  | p :: r => if p.1 = f then (p.1, d) :: r else p :: putD f d r
section
variable {K : PySem.W.Frag} {F : Hp}
theorem KVok.at_ {f : Str} : ∀ {vs : List (Str × V)} {ds : List (Str × EV)}, KVok K F vs ds → (∀ e, ds.lookup f = some e → ∃ v, vs.lookup f = some v ∧ EvOk K F v e) ∧ (ds.lookup f = none → vs.lookup f = none)
  | [], [], _ => ⟨fun e h => (by cases h), fun _ => rfl⟩
  | [], d :: ds, h => by cases h.1
  | v :: vs, [], h => by cases h.1
  | (a, v) :: vs, (b, d) :: ds, ⟨h1, h2⟩ => by
    rw [List.map_cons, List.map_cons] at h1
    injection h1 with e1 e2
    have e1 : a = b := e1
    subst e1
    cases h2 with
    | cons x xs =>
      have ih := KVok.at_ (f := f) (vs := vs) (ds := ds) ⟨e2, xs⟩
      rw [List.lookup_cons, List.lookup_cons]
      cases f == a with
      | true => exact ⟨fun e h => ⟨v, rfl, by cases h; exact x⟩, fun h => by cases h⟩
      | false => exact ih
theorem KVok.putF {f : Str} {v : V} {d : EV} (hv : EvOk K F v d) : ∀ {vs : List (Str × V)} {ds : List (Str × EV)}, KVok K F vs ds → KVok K F (putF f v vs) (putD f d ds)
  | [], [], _ => ⟨rfl, .cons hv .nil⟩
  | [], d :: ds, h => by cases h.1
  | v :: vs, [], h => by cases h.1
  | (a, u) :: vs, (b, e) :: ds, ⟨h1, h2⟩ => by
    rw [List.map_cons, List.map_cons] at h1
    injection h1 with e1 e2
    have e1 : a = b := e1
    subst e1
    cases h2 with
    | cons x xs =>
      have ih := KVok.putF hv (f := f) (vs := vs) (ds := ds) ⟨e2, xs⟩
      show KVok K F (if a = f then (a, v) :: vs else (a, u) :: L2.putF f v vs) (if a = f then (a, d) :: ds else (a, e) :: putD f d ds)
      by_cases z : a = f
      · rw [if_pos z, if_pos z]
        exact ⟨by rw [List.map_cons, List.map_cons, e2], .cons hv xs⟩
      · rw [if_neg z, if_neg z]
        exact ⟨by rw [List.map_cons, List.map_cons, ih.1], .cons x ih.2⟩
theorem KVok.count {vs : List (Str × V)} {ds : List (Str × EV)} (h : KVok K F vs ds) : vs.length = ds.length := by
  have := congrArg List.length h.1
  rwa [List.length_map, List.length_map] at this
end
/-- a new thing that M tells nothing of -/
theorem WD.beside {K : PySem.W.Frag} {F : Hp} {M : Mem} {H : Hp} {p : Addr} {o : HO} (w : WD K F M H) (h : H p = none) : WD K F M (upd H p o) := by
  have hF := (w.fresh h).1
  have hM := (w.fresh h).2
  refine ⟨fun a u e => by rw [upd_ne (ne_of_none e hF)]; exact w.ext _ _ e, fun a m e => ?_⟩
  have ne : a ≠ p := fun q => by rw [q, hM] at e; cases e
  rw [upd_ne ne]
  exact w.mem a m e
/-- a method's promise -/
structure DefM (P : Program) (w : World) (K : PySem.W.Frag) (mg : Str → Option Value) (base : Heap) (C : Addr) (m : Str) (k : Nat) (S : DSp) : Prop where
  cl : Cls K C
  ex : ∃ f fd ps, Meth K C m f ∧ Binds K fd ps [] ∧ FnOk P w K mg base CX0 k f fd ps (toSp K S)
/-- a class whose instances are made by its __init__ -/
structure DefC (P : Program) (w : World) (K : PySem.W.Frag) (mg : Str → Option Value) (base : Heap) (x : Str) (C : Addr) (k : Nat) (S : DSp) : Prop where
  mgC : mg x = some (.ref C)
  ex : ∃ f fd ps, Mk K C f ∧ Binds K fd ps [] ∧ FnOk P w K mg base CX0 k f fd ps (toSp K S)
theorem defM_ok {P : Program} {w : World} {K : PySem.W.Frag} {mg : Str → Option Value} {base : Heap} {x qual : Str} {st : Stmt} {f C : Addr} {m : Str} {fd : FuncData} {N ps : List Str} {k : Nat} {S : DSp} (Fd : Fun K x qual st f fd) (Sc : FnScope N ps (defScope st))
    (cl : Cls K C) (hm : Meth K C m f) (hb : Binds K fd ps []) (hn : S.n = ps.length)
    (body : ∀ (cdv : Value) (A : Around) (outer : List Env) (s : Shared) (H : Hp) (E : XK), Room k (A.deeper (PyProof.Rows.envOfC qual (defScope st) s.heap.objs.size f cdv)) → ∀ (ds : List EV) (M : Mem) (Q : QE), S.wp ds M Q →
      DSs (cxOf CX0 P w K mg base N qual (defScope st) f cdv A outer s H E).nox (defBody st) (ds.map some ++ List.replicate (N.length - ds.length) none) M { nx := fun _ M' => Q N0 M', rt := Q }) : DefM P w K mg base C m (k + 1) S :=
  ⟨cl, f, fd, ps, hm, hb, def_okF Fd Sc hn body⟩
section
variable {X : Cx} {e o value : Expr} {es : List Expr} {st : Stmt} {pos pos' p apos : Pos} {f m : Str} {ρ : Ev} {M : Mem} {Q : QE} {D : DEnds}
/-- o.f -/
theorem de_fld (h : DE X e ρ M fun d M1 => ∃ l C fs v, d = .o l ∧ M1 l = some (.ins C fs) ∧ Cls X.K C ∧ NoAttr X.K C f ∧ fs.lookup f = some v ∧ Q v M1) (hb : attributeBase e f X.env (eval e X.env) = eval e X.env := by rfl) : DE X (.Attribute e f pos) ρ M Q := fun σ H F ho hw R k => by
  refine toE (pe_fld sE hb) ?_
  refine h σ H F ho hw _ fun v d F1 M1 H1 q s w x => ?_
  obtain ⟨l, C, fs, u, rfl, hl, c, n, hu, q⟩ := q
  cases (show v = V.ref l from x)
  obtain ⟨hF, dx, vs, e1, kv⟩ := w.mem l _ hl
  obtain ⟨z, e2, x2⟩ := (kv.at_ (f := f)).1 u hu
  exact ⟨l, C, dx, vs, z, rfl, e1, c, n, e2, k _ _ F1 M1 H1 q s w x2⟩
/-- o.f = e -/
theorem ds_fld (h : DE X value ρ M fun d1 M1 => DE X o ρ M1 fun d2 M2 => ∃ l C fs, d2 = .o l ∧ M2 l = some (.ins C fs) ∧ Cls X.K C ∧ NoAttr X.K C f ∧ fs.length < 1000 ∧ D.nx ρ (updM M2 l (.ins C (putD f d1 fs))))
    (hs : swapsWith value (some (.Attribute o f pos')) pos.line X.env = pure false := by rfl) : DS X (.Assign [.Attribute o f pos'] value pos) ρ M D := fun σ H F ho hw R k => by
  refine toS (ps_fld sE sE hs) ?_
  refine h σ H F ho hw _ fun v1 d1 F1 M1 H1 q1 s1 w1 x1 => ?_
  refine q1 σ H1 F1 (ho.mono s1) w1 _ fun v2 d2 F2 M2 H2 q2 s2 w2 x2 => ?_
  obtain ⟨l, C, fs, rfl, hl, c, n, hz, q⟩ := q2
  cases (show v2 = V.ref l from x2)
  obtain ⟨hF, dx, vs, e1, kv⟩ := w2.mem l _ hl
  refine ⟨l, C, dx, vs, rfl, e1, c, n, by rw [kv.count]; exact hz, ?_⟩
  exact k.nx _ _ F2 _ _ q (s1.trans s2) (w2.put hl (m' := .ins C (putD f d1 fs)) ⟨dx, _, rfl, KVok.putF (x1.mono s2) kv⟩) (ho.mono (s1.trans s2))
/-- o.m(e, ..) -/
theorem de_meth {pl : Sem Bool} {C : Addr} {k : Nat} {S : DSp} (d : DefM X.prog X.w X.K X.mg X.base C m k S) (hr : Room k X.A) (h : DE X o ρ M fun d M1 => ∃ l fs, d = .o l ∧ M1 l = some (.ins C fs) ∧ fs.lookup m = none ∧ DA X (e :: es) ρ M1 fun ds M2 => S.wp (.o l :: ds) M2 Q)
    (hst : starEach (e :: es) X.env = (false, eval e X.env) :: starEach es X.env := by rfl) (hpl : (backTo pos (starEach es X.env)).any (·.1) = false := by rfl)
    (ht : eval (.Call (.Attribute o m apos) (e :: es) [] pos) X.env = (do
      let ov ← eval o X.env
      standAt apos.atName
      let (f, first) ← holding [ov] (getMethod ov m pl)
      callWith pos f first (backTo pos (starEach (e :: es) X.env)) (backToKw pos (keywordEach [] X.env))) := by rfl) : DE X (.Call (.Attribute o m apos) (e :: es) [] pos) ρ M Q := fun σ H F ho hw R kk => by
  obtain ⟨f, fd, ps, hm, hb, hF⟩ := d.ex
  refine toE (pe_meth (pl := pl) sE d.cl hm hF hr hb .nil pass0 sA hst hpl ht) ?_
  refine h σ H F ho hw _ fun v d1 F1 M1 H1 q s w x => ?_
  obtain ⟨l, fs, rfl, hl, hn, q⟩ := q
  cases (show v = V.ref l from x)
  obtain ⟨hF1, dx, vs, e1, kv⟩ := w.mem l _ hl
  refine ⟨l, dx, vs, rfl, e1, (kv.at_ (f := m)).2 hn, ?_⟩
  refine q σ H1 F1 (ho.mono s) w _ fun us ds F2 M2 H2 q2 s2 w2 x2 => ?_
  refine ⟨F2, M2, .o l :: ds, w2, by rw [List.append_nil]; exact .cons (show EvOk X.K F2 (.ref l) (.o l) from rfl) x2, S.mono (fun d' M' q' v F' H' s' w' x' => ?_) q2⟩
  exact kk v d' F' M' H' q' ((s.trans s2).trans s') w' x'
/-- o.m() -/
theorem de_meth0 {pl : Sem Bool} {C : Addr} {k : Nat} {S : DSp} (d : DefM X.prog X.w X.K X.mg X.base C m k S) (hr : Room k X.A) (h : DE X o ρ M fun d M1 => ∃ l fs, d = .o l ∧ M1 l = some (.ins C fs) ∧ fs.lookup m = none ∧ S.wp [.o l] M1 Q)
    (ht : eval (.Call (.Attribute o m apos) [] [] pos) X.env = (do
      let ov ← eval o X.env
      standAt apos.atName
      let (f, first) ← holding [ov] (getMethod ov m pl)
      callWith pos f first (backTo pos (starEach [] X.env)) (backToKw pos (keywordEach [] X.env))) := by rfl) : DE X (.Call (.Attribute o m apos) [] [] pos) ρ M Q := fun σ H F ho hw R kk => by
  obtain ⟨f, fd, ps, hm, hb, hF⟩ := d.ex
  refine toE (pe_meth0 (pl := pl) sE d.cl hm hF hr hb .nil pass0 ht) ?_
  refine h σ H F ho hw _ fun v d1 F1 M1 H1 q s w x => ?_
  obtain ⟨l, fs, rfl, hl, hn, q⟩ := q
  cases (show v = V.ref l from x)
  obtain ⟨hF1, dx, vs, e1, kv⟩ := w.mem l _ hl
  refine ⟨l, dx, vs, rfl, e1, (kv.at_ (f := m)).2 hn, ?_⟩
  refine ⟨F1, M1, [.o l], w, .cons (show EvOk X.K F1 (.ref l) (.o l) from rfl) .nil, S.mono (fun d' M' q' v F' H' s' w' x' => ?_) q⟩
  exact kk v d' F' M' H' q' (s.trans s') w' x'
/-- C(e, ..) -/
theorem de_make {x : Str} {C : Addr} {k : Nat} {S : DSp} (d : DefC X.prog X.w X.K X.mg X.base x C k S) (hr : Room (k + 1) X.A) (h : DA X (e :: es) ρ M fun ds M1 => ∀ l, M1 l = none → S.wp (.o l :: ds) (updM M1 l (.ins C [])) fun d M2 => d = N0 ∧ Q (.o l) M2) (hg : Gl X x := by rfl)
    (hdb : (x == ("__debug__" : Str)) = false := by decide) (he : starEach (e :: es) X.env = (false, eval e X.env) :: starEach es X.env := by rfl) (hpl : (backTo pos (starEach es X.env)).any (·.1) = false := by rfl) :
    DE X (.Call (.Name x p) (e :: es) [] pos) ρ M Q := fun σ H F ho hw R kk => by
  obtain ⟨f, fd, ps, hM, hb, hF⟩ := d.ex
  refine toE (pe_make hM hF hr hg d.mgC hb .nil pass0 sA hdb he hpl) ?_
  refine h σ H F ho hw _ fun us ds F1 M1 H1 q s w x => ?_
  intro l dx hl hdx ne
  have w1 : WD X.K F1 M1 (upd H1 dx (.own l)) := w.beside hdx
  have hl1 : upd H1 dx (.own l) l = none := by rw [upd_ne (Ne.symm ne)]; exact hl
  have w2 := w1.new hl1 (m := .ins C []) (o := .ins C dx []) ⟨dx, [], rfl, rfl, .nil⟩
  refine ⟨F1, _, .o l :: ds, w2, by rw [List.append_nil]; exact .cons (show EvOk X.K F1 (.ref l) (.o l) from rfl) x, S.mono (fun d' M' q' v F' H' s' w' x' => ?_) (q l (w.fresh hl).2)⟩
  obtain ⟨rfl, q'⟩ := q'
  cases x'
  exact ⟨rfl, kk _ _ F' M' H' q' (s.trans s') w' rfl⟩
end
/-! len(o) by an own __len__ -/
theorem Env0.in1 {P : Program} {w : World} {K : PySem.W.Frag} {mg : Str → Option Value} {base : Heap} {A : Around} {outer : List Env} {s : Shared} {H : Hp} (e : Env0 P w K mg base A outer s H) : Env0 P w K mg base A.in1 outer s H :=
  ⟨e.frames, e.mod, e.bs, e.bsz, e.funs, e.frf, e.hok, e.bare⟩
theorem spec_own {M : Model} {A : Around} {E : Value → Shared → Prop} {s : Shared} {self : Value} {name : PySem.Str} {f : Addr} {Q : Option Value → Shared → Prop} (sp : PySem.W.Looks M s.heap (specialOf self name) (some (.ref f))) (tf : PySem.W.Looks M s.heap (typeOf (.ref f)) (.type "function"))
    (hc : wpAny M A (call (.ref f) [self]) (fun v => Q (some v)) E s) : wpAny M A (callSpecial? self name []) Q E s := by
  simp only [callSpecial?]
  refine wpAny_bind (sp.here ?_)
  refine wpAny_holding (wpAny_bind ?_)
  unfold bindSpecial
  refine wpAny_bind (tf.here ?_)
  rw [if_pos (by decide)]
  refine wpAny_pure ?_
  exact wpAny_bind (wpAny_mono hc (fun v s' h' => wpAny_pure h') fun _ _ h' => h')
theorem call_lenOwn {X : Cx} {C f : Addr} {fd : FuncData} {ps : List Str} {k : Nat} {sp : Sp} (hm : Meth X.K C "__len__" f) (F : FnOk X.prog X.w X.K X.mg X.base CX0 k f fd ps sp) (hr : Room (k + 1) X.A) (hb : Binds X.K fd ps []) :
    CallR X (.builtin "len") (fun xs H Q => ∃ a dx fs, xs = [V.ref a] ∧ H a = some (.ins C dx fs) ∧ ∃ E, sp [.ref a] H (fun v H' => ∃ n : Int, v = .int n ∧ 0 ≤ n ∧ n < 2 ^ 63 ∧ Q (.int n) H') E) := by
  intro pins s σ H xs us Q I r h
  obtain ⟨a, dx, fs, rfl, ha, E, q⟩ := h
  cases r with
  | cons rx rr =>
    cases rr
    cases rx
    obtain ⟨-, -, -, ho, -⟩ := I.hok a _ ha
    have X1 := I.kIn
    have tf : PySem.W.Looks (model X.prog X.w) s.heap (typeOf (.ref f)) (.type "function") := PySem.W.looks_typeIn X1 (beq_iff_eq.mp hm.fn)
    have spc : PySem.W.Looks (model X.prog X.w) s.heap (specialOf (.ref a) "__len__") (some (.ref f)) := (NwA.type_at ho rfl).andThen (PySem.W.looks_findIn X1 hm.at_)
    refine Calls.call_function_entry kind_len plain_len entry_len (args_len1 _) ?_
    unfold Builtin.«len»
    refine wpAny_bind (m := oneArg "len" _) (wpAny_pure ?_)
    refine wpAny_bind (m := callSpecial? (.ref a) (PySem.Str.ofString "__len__")) (spec_own spc tf ?_)
    have b := hb s [.ref a] I.kIn (by rw [List.append_nil]; exact F.len _ _ _ _ q)
    rw [List.append_nil] at b
    refine wpAny_call (codeAny_mono (F.run X.A.in1 X.stack s H ⟨[.ref a], []⟩ [.ref a] [.ref a] _ E hr.in1 (Env0.in1 I.env0) b (.cons rfl .nil) q) fun r s' hq => ?_)
    cases r with
    | error e => exact absurd hq (by intro z; exact z)
    | ok fl =>
      cases fl with
      | ret u =>
        obtain ⟨v, H', I', ru, n, rfl, n0, n1, q'⟩ := I.after hq
        obtain ⟨t, rfl⟩ := ru
        refine wpAny_bind (wpAny_holding (wpAny_pure ?_))
        refine wpAny_bind (wpAny_letGo ?_)
        show wpAny _ _ (if n < 0 then _ else _) _ _ _
        rw [if_neg (by omega)]
        show wpAny _ _ (if n ≥ 2 ^ 63 then _ else _) _ _ _
        rw [if_neg (by omega)]
        exact wpAny_bind (wpAny_mkInt (wpAny_pure ⟨_, rfl, .int n, H', I'.tok _, ⟨_, rfl⟩, q'⟩))
      | next => exact False.elim hq
      | brk => exact False.elim hq
      | cont => exact False.elim hq
section
variable {X : Cx} {e : Expr} {es : List Expr} {pos p : Pos} {ρ : Ev} {M : Mem} {Q : QE}
theorem de_lenOwn {C : Addr} {k : Nat} {S : DSp} (d : DefM X.prog X.w X.K X.mg X.base C "__len__" k S) (hr : Room (k + 1) X.A) (h : DA X (e :: es) ρ M fun ds M1 => ∃ l fs, ds = [.o l] ∧ M1 l = some (.ins C fs) ∧ S.wp [.o l] M1 fun d M2 => ∃ n : Int, d = I n ∧ 0 ≤ n ∧ n < 2 ^ 63 ∧ Q (I n) M2)
    (hm : X.mg "len" = none) (hg : Gl X "len" := by rfl) (he : starEach (e :: es) X.env = (false, eval e X.env) :: starEach es X.env := by rfl) (hpl : (backTo pos (starEach es X.env)).any (·.1) = false := by rfl) : DE X (.Call (.Name "len" p) (e :: es) [] pos) ρ M Q := by
  obtain ⟨f, fd, ps, hM, hb, hF⟩ := d.ex
  refine de_blt (call_lenOwn hM hF hr hb) (h.imp fun ds M1 q => ?_) hm (by decide +kernel) hg (by decide) (by decide) he hpl
  obtain ⟨l, fs, rfl, hl, q⟩ := q
  intro F H vs x w R k
  obtain ⟨v, rfl, x1⟩ := evs1 x
  cases (show v = V.ref l from x1)
  obtain ⟨hF1, dx, vs, e1, kv⟩ := w.mem l _ hl
  refine ⟨l, dx, vs, rfl, e1, fun _ _ _ => False, F, M1, [.o l], w, .cons (show EvOk X.K F (.ref l) (.o l) from rfl) .nil, S.mono (fun d' M' q' v F' H' s' w' x' => ?_) q⟩
  obtain ⟨n, rfl, n0, n1, q'⟩ := q'
  cases x'
  exact ⟨n, rfl, n0, n1, k _ _ F' M' H' q' s' w' (.int n)⟩
end
end DL
/-! ### exceptions: what may be raised is told by the class, the slots and the memory then -/
namespace DL
open PySem PySem.Spec L2
abbrev TX := Addr → Ev → Mem → Prop
def XL (K : PySem.W.Frag) (F : Hp) (T : TX) (W : WX) : Prop := ∀ σ ρ C F' M' H', T C ρ M' → Same F F' → WD K F' M' H' → EnvOk K F' σ ρ → W (.ref C) none σ H'
theorem XL.mono {K : PySem.W.Frag} {F F' : Hp} {T : TX} {W : WX} (e : Same F F') (h : XL K F T W) : XL K F' T W := fun σ ρ C F2 M H t s w o => h σ ρ C F2 M H t (e.trans s) w o
section
variable (X : Cx)
def DXE (e : Expr) (ρ : Ev) (M : Mem) (Q : QE) (T : TX) : Prop := ∀ σ H F, EnvOk X.K F σ ρ → WD X.K F M H → ∀ R, Lk X F Q R → ∀ W, L2N.Takes X W → XL X.K F T W → wpE X e σ H R
def DX (st : Stmt) (ρ : Ev) (M : Mem) (D : DEnds) (T : TX) : Prop := ∀ σ H F, EnvOk X.K F σ ρ → WD X.K F M H → ∀ R, LkD X F D R → ∀ W, L2N.Takes X W → XL X.K F T W → wpS X st R σ H
def DXs (st : List Stmt) (ρ : Ev) (M : Mem) (D : DEnds) (T : TX) : Prop := ∀ σ H F, EnvOk X.K F σ ρ → WD X.K F M H → ∀ R, LkD X F D R → ∀ W, L2N.Takes X W → XL X.K F T W → wpSs X st R σ H
end
section
variable {X : Cx} {e : Expr} {es : List Expr} {st : Stmt} {sts A B : List Stmt} {pos : Pos} {ρ : Ev} {M : Mem} {Q : QE} {D : DEnds} {T : TX}
theorem dxe_lift (h : DE X e ρ M Q) : DXE X e ρ M Q T := fun σ H F ho hw R k _ _ _ => h σ H F ho hw R k
theorem dx_lift (h : DS X st ρ M D) : DX X st ρ M D T := fun σ H F ho hw R k _ _ _ => h σ H F ho hw R k
theorem dxs_lift (h : DSs X sts ρ M D) : DXs X sts ρ M D T := fun σ H F ho hw R k _ _ _ => h σ H F ho hw R k
/-- a block that raises nothing -/
theorem dxs_nox (h : DSs X.nox sts ρ M D) : DXs X sts ρ M D T := fun σ H F ho hw R k _ _ _ =>
  toSs (PSs.nox (X := X) sSs) (h σ H F ho hw R ⟨k.nx, k.rt, k.bk, k.ct⟩)
theorem dxs_nil (q : D.nx ρ M) : DXs X [] ρ M D T := dxs_lift (dss_nil q)
theorem dxs_cons (h : DX X st ρ M (sq D fun ρ1 M1 => DXs X sts ρ1 M1 D T) T) : DXs X (st :: sts) ρ M D T := fun σ H F ho hw R k W tk xl => by
  refine toSs (pss_cons sS sSs) ?_
  refine h σ H F ho hw _ ⟨fun σ' ρ' F' M' H' q s w o => ?_, k.rt, k.bk, k.ct⟩ W tk xl
  exact q σ' H' F' o w R (k.mono s) W tk (xl.mono s)
theorem dx_expr (h : DXE X e ρ M (fun _ M1 => D.nx ρ M1) T) (hs : swapsWith e none pos.line X.env = pure false := by rfl) : DX X (.Expr e pos) ρ M D T := fun σ H F ho hw R k W tk xl => by
  refine toS (ps_expr sE hs) ?_
  exact h σ H F ho hw _ (fun v d F' M' H' q s w _ => k.nx _ _ F' M' H' q s w (ho.mono s)) W tk xl
theorem dx_ret (h : DXE X e ρ M D.rt T) : DX X (.Return (some e) pos) ρ M D T := fun σ H F ho hw R k W tk xl => toS (ps_ret sE) (h σ H F ho hw _ k.rt W tk xl)
theorem dx_if {c : Expr} (h : DT X c ρ M fun k M1 => if k = true then DXs X A ρ M1 D T else DXs X B ρ M1 D T) : DX X (.If c A B pos) ρ M D T := fun σ H F ho hw R k W tk xl => by
  refine toS (ps_if sT sSs sSs) ?_
  refine h σ H F ho hw _ fun c F1 M1 H1 q1 s1 w1 => ?_
  cases c with
  | true => exact q1 σ H1 F1 (ho.mono s1) w1 R (k.mono s1) W tk (xl.mono s1)
  | false => exact q1 σ H1 F1 (ho.mono s1) w1 R (k.mono s1) W tk (xl.mono s1)
/-- raise C() -/
structure ExcX (K : PySem.W.Frag) (mg : Str → Option Value) (x : Str) (C : Addr) : Prop where
  gC : mg x = some (.ref C)
  kC : PySem.W.keepIn K (.ref C) = true
  new_ : PySem.W.excIn K C [.type "ValueError", .type "Exception", .type "BaseException", .type "object"] "ValueError.__new__" = true
  sb : PySem.W.subIn K (.ref C) (.type "BaseException") = some true
  ty : PySem.W.typeIn K (.ref C) = some (.type "type")
theorem pmk_own0 {x : Str} {C : Addr} {p : Pos} (E : ExcX X.K X.mg x C) (hg : Gl X x) (hdb : (x == ("__debug__" : Str)) = false) : L2N.PMk X (.Call (.Name x p) [] [] pos) (fun _ H Q => Q (.ref C) none H) := by
  intro pins s σ H Q I h
  refine wpAny_Call_Name_kw (ld_glob I hg E.gC ?_ hdb)
  refine PySem.W.callWith_K0 I.kIn E.kC ?_
  obtain ⟨bm, N, nm, qn, bs, hdct, sn, sub, ab, col, dd, k0, k1, k2, k3, k5, mN, hC, hN, hni, T⟩ := exc_obj I.kIn E.new_
  refine wpAny_call_exc_subT PySem.F.excBase_ValueError T hC hN hni (fun h' e hm => ?_) (Nat.zero_le _)
  exact L2N.mk_of I hm (raises_own E.sb E.ty) h (I.hok.gone hm.new)
theorem dx_raise {x : Str} {C : Addr} {p pos' : Pos} (E : ExcX X.K X.mg x C) (q : T C ρ M) (hc : X.calm = true := by rfl) (hg : Gl X x := by rfl) (hdb : (x == ("__debug__" : Str)) = false := by decide) : DX X (.Raise (some (.Call (.Name x p) [] [] pos')) none pos) ρ M D T := fun σ H F ho hw R k W tk xl =>
  toS (L2N.ps_raise hc tk (pmk_own0 E hg hdb)) (xl σ ρ C F M H q (Same.refl F) hw ho)
end
/-- the promise of a def that may raise -/
structure DXSp where
  n : Nat
  wp : List EV → Mem → QE → (Addr → Mem → Prop) → Prop
  mono : ∀ {ds M Q Q' U U'}, (∀ d M', Q d M' → Q' d M') → (∀ C M', U C M' → U' C M') → wp ds M Q U → wp ds M Q' U'
  len : ∀ {ds M Q U}, wp ds M Q U → ds.length = n
def toSpX (K : PySem.W.Frag) (S : DXSp) : Sp := fun vs H Q E => ∃ F M ds, WD K F M H ∧ EvsOk K F vs ds ∧ S.wp ds M (fun d M' => ∀ v F' H', Same F F' → WD K F' M' H' → EvOk K F' v d → Q v H') fun C M' => ∀ F' H', Same F F' → WD K F' M' H' → E (.ref C) none H'
structure DefX (P : Program) (w : World) (K : PySem.W.Frag) (mg : Str → Option Value) (base : Heap) (x : Str) (k : Nat) (S : DXSp) : Prop where
  ex : ∃ f fd ps, mg x = some (.ref f) ∧ PySem.W.keepIn K (.ref f) = true ∧ Binds K fd ps [] ∧ FnOk P w K mg base (L2N.CX P w) k f fd ps (toSpX K S)
structure DefMX (P : Program) (w : World) (K : PySem.W.Frag) (mg : Str → Option Value) (base : Heap) (C : Addr) (m : Str) (k : Nat) (S : DXSp) : Prop where
  cl : Cls K C
  ex : ∃ f fd ps, Meth K C m f ∧ Binds K fd ps [] ∧ FnOk P w K mg base (L2N.CX P w) k f fd ps (toSpX K S)
structure DefCX (P : Program) (w : World) (K : PySem.W.Frag) (mg : Str → Option Value) (base : Heap) (x : Str) (C : Addr) (k : Nat) (S : DXSp) : Prop where
  mgC : mg x = some (.ref C)
  ex : ∃ f fd ps, Mk K C f ∧ Binds K fd ps [] ∧ FnOk P w K mg base (L2N.CX P w) k f fd ps (toSpX K S)
/-- the body of such a def -/
theorem defX_fn {P : Program} {w : World} {K : PySem.W.Frag} {mg : Str → Option Value} {base : Heap} {x qual : Str} {st : Stmt} {f : Addr} {fd : FuncData} {N ps : List Str} {k : Nat} {S : DXSp} (Fd : Fun K x qual st f fd) (Sc : FnScope N ps (defScope st)) (hn : S.n = ps.length)
    (body : ∀ (cdv : Value) (A : Around) (outer : List Env) (s : Shared) (H : Hp) (E : XK), Room k (A.deeper (PyProof.Rows.envOfC qual (defScope st) s.heap.objs.size f cdv)) → ∀ (ds : List EV) (M : Mem) (Q : QE) (U : Addr → Mem → Prop), S.wp ds M Q U →
      DXs (cxOf (L2N.CX P w) P w K mg base N qual (defScope st) f cdv A outer s H E) (defBody st) (ds.map some ++ List.replicate (N.length - ds.length) none) M { nx := fun _ M' => Q N0 M', rt := Q } fun C _ M' => U C M') : FnOk P w K mg base (L2N.CX P w) (k + 1) f fd ps (toSpX K S) := by
  obtain ⟨oc, od, kV, doc, pm, an, cdv, ct, osl, rfl, lk, hcd⟩ := Fd.ex
  refine fn_of lk hcd Sc (fun vs H Q E h => ?_) fun A outer s H vs Q E hr h => ?_
  · obtain ⟨F, M, ds, _, x, q⟩ := h
    rw [x.len, S.len q, hn]
  · obtain ⟨F, M, ds, hw, x, q⟩ := h
    refine ⟨_, sSs, ?_⟩
    refine body cdv A outer s H E hr ds M _ _ q _ _ F (startE_ok x) hw _ ⟨fun σ' ρ' F' M' H' q' s' w' o' => ?_, fun v d F' M' H' q' s' w' o' => ?_, fun _ _ _ _ _ q' => q'.elim, fun _ _ _ _ _ q' => q'.elim⟩
      (fun cls d _ H => E cls d H) (L2N.takes_of rfl rfl rfl rfl) fun σ' ρ' C F' M' H' t s' w' _ => t F' H' s' w'
    · exact q' .non F' H' s' w' .non
    · exact q' v F' H' s' w' o'
theorem defX_ok {P : Program} {w : World} {K : PySem.W.Frag} {mg : Str → Option Value} {base : Heap} {x qual : Str} {st : Stmt} {f : Addr} {fd : FuncData} {N ps : List Str} {k : Nat} {S : DXSp} (Fd : Fun K x qual st f fd) (Sc : FnScope N ps (defScope st))
    (hm : mg x = some (.ref f)) (hb : Binds K fd ps []) (hn : S.n = ps.length)
    (body : ∀ (cdv : Value) (A : Around) (outer : List Env) (s : Shared) (H : Hp) (E : XK), Room k (A.deeper (PyProof.Rows.envOfC qual (defScope st) s.heap.objs.size f cdv)) → ∀ (ds : List EV) (M : Mem) (Q : QE) (U : Addr → Mem → Prop), S.wp ds M Q U →
      DXs (cxOf (L2N.CX P w) P w K mg base N qual (defScope st) f cdv A outer s H E) (defBody st) (ds.map some ++ List.replicate (N.length - ds.length) none) M { nx := fun _ M' => Q N0 M', rt := Q } fun C _ M' => U C M') : DefX P w K mg base x (k + 1) S :=
  ⟨f, fd, ps, hm, Fd.kp, hb, defX_fn Fd Sc hn body⟩
section
variable {X : Cx} {e o : Expr} {es : List Expr} {st : Stmt} {sts : List Stmt} {pos apos p : Pos} {m : Str} {ρ : Ev} {M : Mem} {Q : QE} {D : DEnds} {T : TX}
theorem dxe_call {x : Str} {k : Nat} {S : DXSp} (d : DefX X.prog X.w X.K X.mg X.base x k S) (hr : Room k X.A) (h : DA X (e :: es) ρ M fun ds M1 => S.wp ds M1 Q fun C M' => T C ρ M') (hg : Gl X x := by rfl)
    (hdb : (x == ("__debug__" : Str)) = false := by decide) (he : starEach (e :: es) X.env = (false, eval e X.env) :: starEach es X.env := by rfl) (hpl : (backTo pos (starEach es X.env)).any (·.1) = false := by rfl) :
    DXE X (.Call (.Name x p) (e :: es) [] pos) ρ M Q T := fun σ H F ho hw R kk W tk xl => by
  obtain ⟨f, fd, ps, hm, hk, hb, hF⟩ := d.ex
  refine toE (pe_callS hF hr hg hm hk hb (fun σ => L2N.passAt tk σ) sA hdb he hpl) ?_
  refine h σ H F ho hw _ fun vs ds F1 M1 H1 q s w x => ?_
  refine ⟨F1, M1, ds, w, x, S.mono (fun d' M' q' v F' H' s' w' x' => ?_) (fun C M' u F' H' s' w' => ?_) q⟩
  · exact kk v d' F' M' H' q' (s.trans s') w' x'
  · exact xl σ ρ C F' M' H' u (s.trans s') w' (ho.mono (s.trans s'))
/-- o.m() that may raise -/
theorem pe_m0S {pl : Sem Bool} {C f : Addr} {fd : FuncData} {ps : List Str} {k : Nat} {sp : Sp} {CX : CXT} {E : L2.St → XK} {ta : TE} (he : PE X o ta) (c : Cls X.K C) (hm : Meth X.K C m f) (F : FnOk X.prog X.w X.K X.mg X.base CX k f fd ps sp) (hr : Room k X.A) (hb : Binds X.K fd ps []) (hx : ∀ σ, PassesAt CX X σ (E σ))
    (ht : eval (.Call (.Attribute o m apos) [] [] pos) X.env = (do
      let ov ← eval o X.env
      standAt apos.atName
      let (f, first) ← holding [ov] (getMethod ov m pl)
      callWith pos f first (backTo pos (starEach [] X.env)) (backToKw pos (keywordEach [] X.env))) := by rfl) :
    PE X (.Call (.Attribute o m apos) [] [] pos) (fun σ H Q => ta σ H fun x H1 => ∃ a dx fs, x = .ref a ∧ H1 a = some (.ins C dx fs) ∧ fs.lookup m = none ∧ sp [x] H1 Q (E σ)) := by
  refine ⟨fun pins s σ H Q I h => PySem.W.methodCall_KW (pl := pl) (thn (he.run pins s σ H _ I h) fun u s1 ⟨x, H1, I1, rx, hh⟩ => ?_) ht⟩
  obtain ⟨a, dx, fs, rfl, ea, l, q⟩ := hh
  cases rx
  exact getmeth_ok I1 ea c hm l (PySem.W.callWith_K0 (first := [.ref a]) I1.kIn hm.kp (run_fnS (us := [.ref a]) (vs := [.ref a]) F hr hb (hx σ) I1 (.cons rfl .nil) q))
theorem dxe_meth0 {pl : Sem Bool} {C : Addr} {k : Nat} {S : DXSp} (d : DefMX X.prog X.w X.K X.mg X.base C m k S) (hr : Room k X.A) (h : DE X o ρ M fun d M1 => ∃ l fs, d = .o l ∧ M1 l = some (.ins C fs) ∧ fs.lookup m = none ∧ S.wp [.o l] M1 Q fun C M' => T C ρ M')
    (ht : eval (.Call (.Attribute o m apos) [] [] pos) X.env = (do
      let ov ← eval o X.env
      standAt apos.atName
      let (f, first) ← holding [ov] (getMethod ov m pl)
      callWith pos f first (backTo pos (starEach [] X.env)) (backToKw pos (keywordEach [] X.env))) := by rfl) : DXE X (.Call (.Attribute o m apos) [] [] pos) ρ M Q T := fun σ H F ho hw R kk W tk xl => by
  obtain ⟨f, fd, ps, hm, hb, hF⟩ := d.ex
  refine toE (pe_m0S (pl := pl) sE d.cl hm hF hr hb (fun σ => L2N.passAt tk σ) ht) ?_
  refine h σ H F ho hw _ fun v d1 F1 M1 H1 q s w x => ?_
  obtain ⟨l, fs, rfl, hl, hn, q⟩ := q
  cases (show v = V.ref l from x)
  obtain ⟨hF1, dx, vs, e1, kv⟩ := w.mem l _ hl
  refine ⟨l, dx, vs, rfl, e1, (kv.at_ (f := m)).2 hn, ?_⟩
  refine ⟨F1, M1, [.o l], w, .cons (show EvOk X.K F1 (.ref l) (.o l) from rfl) .nil, S.mono (fun d' M' q' v F' H' s' w' x' => ?_) (fun C M' u F' H' s' w' => ?_) q⟩
  · exact kk v d' F' M' H' q' (s.trans s') w' x'
  · exact xl σ ρ C F' M' H' u (s.trans s') w' (ho.mono (s.trans s'))
end
end DL
/-! ### try, and a def called in the suite with the caught exception -/
namespace DL
open PySem PySem.Spec L2
/-- what the suite wants: it returns -/
def dRt (D : DEnds) : DEnds := ⟨fun _ _ => False, D.rt, fun _ _ => False, fun _ _ => False⟩
def TAs (X : Cx) (C : Addr) (i : Nat) (suite : List Stmt) (D : DEnds) (T : TX) : TX := fun C' ρ M => ∃ b, PySem.W.exmOne X.K (.ref C') (.ref C) = some b ∧
  (b = true → ∀ a oe pn, M a = none → L2N.Zn (.ref C') none oe → (∃ vs, oe.data = .fields vs) → DSs (X.suite a ((a, oe) :: pn)) suite (ρ.set i (some (.o a))) M (dRt D)) ∧ (b = false → T C' ρ M)
section
variable {X : Cx} {body suite : List Stmt} {b₀ : Stmt} {np pos pos' : Pos} {x n : Str} {C : Addr} {ρ : Ev} {M : Mem} {D : DEnds} {T : TX}
theorem dx_try_as (i : Nat) (hN : X.N.Nodup) (hm : X.mg x = some (.ref C))
    (h : ∀ pn xe, PassesOwn (model X.prog X.w) X.A X.env xe → DXs (X.tr pn xe) body ρ M D (TAs X C i (b₀ :: suite) D T))
    (hs : X.stack = X.env :: X.outer := by rfl) (hf : X.env.frame = some X.env.locals := by rfl) (hi : X.N[i]? = some n := by rfl) (hln : X.env.kindOf n = some .local := by rfl) (hg : Gl X x := by rfl) (hdb : (x == ("__debug__" : Str)) = false := by decide) :
    DX X (.Try body [.ExceptHandler (some (.Name x np)) (some n) (b₀ :: suite) pos'] [] [] pos) ρ M D T := fun σ H F ho hw R k W tk xl => by
  refine toS (L2N.ps_try_as (tb := fun W' D' σ' H' => ∀ pn xe, L2N.Takes (X.tr pn xe) W' → PassesOwn (model X.prog X.w) X.A X.env xe → wpSs (X.tr pn xe) body D' σ' H')
    (ts := fun a cls d D' σ' H' => ∀ oe pn, L2N.Zn cls d oe → (∃ vs, oe.data = .fields vs) → wpSs (X.suite a ((a, oe) :: pn)) (b₀ :: suite) D' σ' H')
    hs hf hN hi hln ⟨hg, hdb, .inl hm⟩ tk (fun W' pn xe tk' hp => ⟨fun pins s _ _ _ I hh => hh pn xe tk' hp pins s I⟩) (fun a oe cls d pn hz hd => ⟨fun pins s _ _ _ I hh => hh oe pn hz hd pins s I⟩)) ?_
  intro pn xe tk' hp
  refine h pn xe hp σ H F ho hw R ⟨k.nx, k.rt, k.bk, k.ct⟩ _ tk' fun σ' ρ' C' F' M' H' t s' w' o' => ?_
  obtain ⟨b, hb, yes, no⟩ := t
  refine ⟨b, hb, fun e a ha oe pn' hz hd => ?_, fun e => xl σ' ρ' C' F' M' H' (no e) s' w' o'⟩
  exact yes e a oe pn' (w'.fresh ha).2 hz hd _ H' F' (o'.set i rfl) w' _ ⟨fun _ _ _ _ _ q => q.elim, k.rt.mono s', fun _ _ _ _ _ q => q.elim, fun _ _ _ _ _ q => q.elim⟩
/-- two clauses without a name -/
def TMany (X : Cx) (D : DEnds) (T : TX) : List (Addr × List Stmt) → TX
  | [] => T
  | (C, suite) :: r => fun C' ρ M => ∃ b, PySem.W.exmOne X.K (.ref C') (.ref C) = some b ∧
    (b = true → ∀ a oe pn, M a = none → L2N.Zn (.ref C') none oe → (∃ vs, oe.data = .fields vs) → DSs (X.suite a ((a, oe) :: pn)) suite ρ M (dRt D)) ∧ (b = false → TMany X D T r C' ρ M)
def hotS (X : Cx) (suite : List Stmt) : Addr → Value → Option Addr → TS := fun a cls d D' σ' H' => ∀ oe pn, L2N.Zn cls d oe → (∃ vs, oe.data = .fields vs) → wpSs (X.suite a ((a, oe) :: pn)) suite D' σ' H'
theorem tMany_run {F : Hp} {R : Ends} {W : WX} (k : LkD X F D R) (xl : XL X.K F T W) : ∀ (l : List (Addr × List Stmt)), XL X.K F (TMany X D T l) (L2.wMany X.K W R (l.map fun p => (Value.ref p.1, hotS X p.2)))
  | [] => xl
  | (C, suite) :: r => fun σ' ρ' C' F' M' H' t s' w' o' => by
    obtain ⟨b, hb, yes, no⟩ := t
    refine ⟨b, hb, fun e a ha oe pn' hz hd => ?_, fun e => tMany_run k xl r σ' ρ' C' F' M' H' (no e) s' w' o'⟩
    exact yes e a oe pn' (w'.fresh ha).2 hz hd _ H' F' o' w' _ ⟨fun _ _ _ _ _ q => q.elim, k.rt.mono s', fun _ _ _ _ _ q => q.elim, fun _ _ _ _ _ q => q.elim⟩
theorem dx_try_two {y : Str} {C2 : Addr} {b₁ : Stmt} {suite2 : List Stmt} {np2 pos2 : Pos} (hm : X.mg x = some (.ref C)) (hm2 : X.mg y = some (.ref C2))
    (h : ∀ pn xe, PassesOwn (model X.prog X.w) X.A X.env xe → DXs (X.tr pn xe) body ρ M D (TMany X D T [(C, b₀ :: suite), (C2, b₁ :: suite2)]))
    (hs : X.stack = X.env :: X.outer := by rfl) (hf : X.env.frame = some X.env.locals := by rfl) (hg : Gl X x := by rfl) (hdb : (x == ("__debug__" : Str)) = false := by decide) (hg2 : Gl X y := by rfl) (hdb2 : (y == ("__debug__" : Str)) = false := by decide) :
    DX X (.Try body [.ExceptHandler (some (.Name x np)) none (b₀ :: suite) pos', .ExceptHandler (some (.Name y np2)) none (b₁ :: suite2) pos2] [] [] pos) ρ M D T := fun σ H F ho hw R k W tk xl => by
  refine toS (L2N.ps_try_many (tb := fun W' D' σ' H' => ∀ pn xe, L2N.Takes (X.tr pn xe) W' → PassesOwn (model X.prog X.w) X.A X.env xe → wpSs (X.tr pn xe) body D' σ' H')
    (l := [(.ref C, hotS X (b₀ :: suite)), (.ref C2, hotS X (b₁ :: suite2))]) hs hf tk (fun W' pn xe tk' hp => ⟨fun pins s _ _ _ I hh => hh pn xe tk' hp pins s I⟩)
    (.cons ⟨hg, hdb, .inl hm⟩ (fun a oe cls d pn hz hd => ⟨fun pins s _ _ _ I hh => hh oe pn hz hd pins s I⟩) (.cons ⟨hg2, hdb2, .inl hm2⟩ (fun a oe cls d pn hz hd => ⟨fun pins s _ _ _ I hh => hh oe pn hz hd pins s I⟩) .nil))) ?_
  intro pn xe tk' hp
  exact h pn xe hp σ H F ho hw R ⟨k.nx, k.rt, k.bk, k.ct⟩ _ tk' (tMany_run k xl [(C, b₀ :: suite), (C2, b₁ :: suite2)])
end
/-- a def that is called while the exception at p.1 is handled -/
structure FnP (P : Program) (w : World) (K : PySem.W.Frag) (mg : Str → Option Value) (base : Heap) (k : Nat) (f : Addr) (fd : FuncData) (ps : List Str) (sp : (Addr × Obj) → Sp) : Prop where
  len : ∀ p vs H Q E, sp p vs H Q E → vs.length = ps.length
  run : ∀ (A : Around) (outer : List Env) (s : Shared) (H : Hp) (args : Args) (us : List Value) (vs : List V) (Q : VK) (E : XK) (p : Addr × Obj), L2H.RoomH k A → L2H.Hot1 A p → L2H.PinOk outer H s p → Env0 P w K mg base A outer s H →
    BindsTo s fd args (ps.zip us) → Vals vs us → sp p vs H Q E → codeAny (model P w) A (.call (.ref f) args) (CR CX0 outer P w H s Q E) s
theorem fnP_of {P : Program} {w : World} {K : PySem.W.Frag} {mg : Str → Option Value} {base : Heap} {x qual : Str} {st : Stmt} {f : Addr} {fd : FuncData} {N ps : List Str} {k : Nat} {sp : (Addr × Obj) → Sp} (Fd : Fun K x qual st f fd) (Sc : FnScope N ps (defScope st))
    (len : ∀ p vs H Q E, sp p vs H Q E → vs.length = ps.length)
    (body : ∀ (cdv : Value) (A : Around) (outer : List Env) (s : Shared) (H : Hp) (vs : List V) (Q : VK) (E : XK) (p : Addr × Obj), L2H.Hot1 A p → L2H.RoomH k (A.deeper (PyProof.Rows.envOfC qual (defScope st) s.heap.objs.size f cdv)) → sp p vs H Q E →
      wpSs (L2H.cxH CX0 P w K mg base N qual (defScope st) f cdv A outer s H E p) (defBody st) { nx := fun _ H' => Q .non H', rt := Q } (L2.start N vs) H) : FnP P w K mg base (k + 1) f fd ps sp := by
  obtain ⟨oc, od, kV, doc, pm, an, cdv, ct, osl, rfl, lk, hcd⟩ := Fd.ex
  refine ⟨len, fun A outer s H args us vs Q E p hr hot pin e0 bind rel h => ?_⟩
  have KX : K.In s.heap := e0.mod.kin.keeps fun b o e => (e0.bs b o e).1
  have kinds : ∀ y ∈ ps.zip us, (defScope st).names.lookup y.1 = some .local ∨ ((defScope st).names.lookup y.1 = some .cell ∧ ((cellsFrom (s.heap.objs.size + 1) (defScope st).names []).lookup y.1).isSome = true) := fun y hy =>
    (Sc.par y.1 (List.of_mem_zip (a := y.1) (b := y.2) hy).1).imp id fun q => ⟨q, PySem.W.cellsFrom_some _ _ _ (.inl q)⟩
  refine codeAny_call_function hr.depth (KX _ _ lk) rfl Sc.co Sc.gen rfl (PySem.W.codeRec_of KX hcd) (bind _ _ _ _ (wpAny_newFunctionEnv_cells Sc.kind kinds fun env he s1 ic => ?_))
  subst he
  refine ⟨(e0.mod.nolimit.keeps fun b o e => (e0.bs b o e).1).keeps ic.toInCall.keep, codeAny_func ?_⟩
  have I := L2H.inv_startH (CX := CX0) (f := f) (cd := cdv) (qual := qual) (E := E) Sc pin e0 (len _ _ _ _ _ h) rel ic
  refine wpAny_mono (body cdv A outer s H vs Q E p hot (hr.deeper _) h [] s1 I) (fun fl s' hs => ?_) fun e s' hs => hs
  cases fl with
  | ret u =>
    obtain ⟨v, σ', H', J, rv, q⟩ := hs
    exact ⟨v, H', J.os, J.bare, J.base, J.hok, rv, q⟩
  | next =>
    obtain ⟨σ', H', J, q⟩ := hs
    exact ⟨V.non, H', J.os, J.bare, J.base, J.hok, rfl, q⟩
  | brk =>
    obtain ⟨_, _, _, q⟩ := hs
    exact q.elim
  | cont =>
    obtain ⟨_, _, _, q⟩ := hs
    exact q.elim
/-- its promise over data: the exception's class and the other arguments' none -/
structure DefP (P : Program) (w : World) (K : PySem.W.Frag) (mg : Str → Option Value) (base : Heap) (x : Str) (k : Nat) (D : Addr) (out : PyData) : Prop where
  ex : ∃ f fd ps, mg x = some (.ref f) ∧ PySem.W.keepIn K (.ref f) = true ∧ Binds K fd ps [] ∧
    FnP P w K mg base k f fd ps fun p vs H Q _ => vs = [.ref p.1] ∧ L2N.Zn (.ref D) none p.2 ∧ (∃ ws, p.2.data = .fields ws) ∧ ∃ F M, WD K F M H ∧ ∀ v F' H', Same F F' → WD K F' M H' → Dp K F' v out → Q v H'
section
variable {X : Cx} {x : Str} {q pos : Pos} {e : Expr} {ta : TA}
theorem pe_callP {k : Nat} {f : Addr} {fd : FuncData} {ps : List Str} {sp : (Addr × Obj) → Sp} {E : XK} {p : Addr × Obj} (F : FnP X.prog X.w X.K X.mg X.base k f fd ps sp) (hr : L2H.RoomH k X.A) (hot : L2H.Hot1 X.A p) (hp : p ∈ X.pn) (hg : Gl X x) (hm : X.mg x = some (.ref f)) (hk : PySem.W.keepIn X.K (.ref f) = true) (hb : Binds X.K fd ps [])
    (ha : PA X [e] ta) (hdb : (x == ("__debug__" : Str)) = false := by decide) (he : starEach [e] X.env = (false, eval e X.env) :: starEach [] X.env := by rfl) (hpl : (backTo pos (starEach [] X.env)).any (·.1) = false := by rfl) :
    PE X (.Call (.Name x q) [e] [] pos) (fun σ H Q => ta σ H fun vs H1 => sp p vs H1 Q E) := by
  refine ⟨fun pins s σ H Q I h => wpAny_Call_Name_kw (ld_glob I hg hm ?_ hdb)⟩
  refine PySem.W.callWith_K (h₀ := X.base) I.ok.mod.kin hk (thn (ha.run pos pins s σ H _ I h) fun us s1 hh => ?_) he hpl
  obtain ⟨vs, H1, I1, r, h2⟩ := hh
  refine ⟨I1.kIn, ?_⟩
  obtain ⟨p1, p2, p3, p4, p5⟩ := I1.pin p (List.mem_append_left _ hp)
  have bind := hb s1 us I1.kIn (by rw [List.append_nil, ← r.length]; exact F.len _ _ _ _ _ h2)
  rw [List.append_nil] at bind
  refine wpAny_call (codeAny_mono (F.run X.A X.stack s1 H1 ⟨us, []⟩ us vs Q E p hr hot ⟨p1, p2, fun hm => (List.mem_cons.mp (I1.stkSub p.1 hm)).elim p3 p4, p5⟩ I1.env0 bind r h2) fun r' s' hq => ?_)
  cases r' with
  | error e => exact absurd hq (by intro z; exact z)
  | ok fl =>
    cases fl with
    | ret u => exact I1.after hq
    | next => exact hq.elim
    | brk => exact hq.elim
    | cont => exact hq.elim
/-- isinstance(e, C), e the exception that is handled -/
theorem call_isP {D : Addr} {p : Addr × Obj} (hp : p ∈ X.pn) (C : ExcC X.K D) (hz : L2N.Zn (.ref D) none p.2) (hf : ∃ vs, p.2.data = .fields vs) :
    CallR X (.builtin "isinstance") (fun xs H Q => ∃ (c : V) (cv : Value) (b : Bool), xs = [.ref p.1, c] ∧ (∀ u, RelV c u → u = cv) ∧ PySem.W.kitOne X.K (.ref D) cv = some b ∧ Q (.bl b) H) := by
  intro pins s σ H xs us Q I r h
  obtain ⟨c, cv, b, rfl, only, e, h⟩ := h
  cases r with
  | cons ra rr =>
    cases rr with
    | cons rc rr =>
      cases rr
      cases ra
      cases only _ rc
      have hget := (I.pin p (List.mem_append_left _ hp)).1
      obtain ⟨a, ⟨oc, od, oda, osl⟩⟩ := p
      obtain ⟨ws, hv⟩ := hf
      obtain ⟨z1, z2, -⟩ := hz
      dsimp only at z1 z2 hv
      subst z1 z2 hv
      exact PySem.W.kia_one (PySem.W.handS_kitx_exc C.hg C.hk C.hs C.hd C.ha C.hn C.ht C.hm) I.kIn ⟨hget, rfl, rfl, trivial⟩ e (fun z => nomatch z) fun tk => ⟨.bl b, H, I.kept (t' := tk) fun _ _ z => z, rfl, h⟩
end
section
variable {X : Cx} {a b e f : Expr} {es : List Expr} {pos p q apos : Pos} {ρ : Ev} {M : Mem} {Q : QE} {D : DEnds}
/-- in the suite: g(e), e the caught exception in slot i -/
theorem de_callP {x : Str} {k : Nat} {Dc : Addr} {out : PyData} {c : Addr × Obj} (d : DefP X.prog X.w X.K X.mg X.base x k Dc out) (hr : L2H.RoomH k X.A) (hot : L2H.Hot1 X.A c) (hc : c ∈ X.pn) (hz : L2N.Zn (.ref Dc) none c.2) (hf : ∃ vs, c.2.data = .fields vs)
    (h : DE X e ρ M fun d1 M1 => d1 = .o c.1 ∧ Q (.d out) M1) (hg : Gl X x := by rfl) (hdb : (x == ("__debug__" : Str)) = false := by decide) (he : starEach [e] X.env = (false, eval e X.env) :: starEach [] X.env := by rfl) (hpl : (backTo pos (starEach [] X.env)).any (·.1) = false := by rfl) :
    DE X (.Call (.Name x q) [e] [] pos) ρ M Q := fun σ H F ho hw R kk => by
  obtain ⟨f, fd, ps, hm, hk, hb, hF⟩ := d.ex
  refine toE (pe_callP (E := fun _ _ _ => False) hF hr hot hc hg hm hk hb (pa_cons sE pa_nil he) hdb he hpl) ?_
  refine h σ H F ho hw _ fun v d1 F1 M1 H1 q s w x => ?_
  obtain ⟨rfl, q⟩ := q
  cases (show v = V.ref c.1 from x)
  exact ⟨rfl, hz, hf, F1, M1, w, fun v F' H' s' w' x' => kk v _ F' M1 H' q (s.trans s') w' x'⟩
theorem de_isP {D : Addr} {c : Addr × Obj} {t : Addr} {bb : Bool} (hp : c ∈ X.pn) (C : ExcC X.K D) (hz : L2N.Zn (.ref D) none c.2) (hf : ∃ vs, c.2.data = .fields vs) {y : Str} {yp : Pos} (hy : X.mg y = some (.ref t)) (hk : PySem.W.kitOne X.K (.ref D) (.ref t) = some bb)
    (h : DE X e ρ M fun d1 M1 => d1 = .o c.1 ∧ Q (B bb) M1) (hm : X.mg "isinstance" = none) (hg2 : Gl X y := by rfl) (hg : Gl X "isinstance" := by rfl) (hdb : (y == ("__debug__" : Str)) = false := by decide)
    (he : starEach [e, .Name y yp] X.env = (false, eval e X.env) :: starEach [.Name y yp] X.env := by rfl) (he2 : starEach [.Name y yp] X.env = (false, eval (.Name y yp) X.env) :: starEach [] X.env := by rfl)
    (hpl : (backTo pos (starEach [.Name y yp] X.env)).any (·.1) = false := by rfl) : DE X (.Call (.Name "isinstance" p) [e, .Name y yp] [] pos) ρ M Q := fun σ H F ho hw R kk => by
  refine toE (pe_callB (call_isP hp C hz hf) hg hm (by decide +kernel) (pa_cons sE (pa_cons (pe_glob (v := .ref t) (u := .ref t) hg2 hy rfl hdb) pa_nil he2) he) (by decide) (by decide) he hpl) ?_
  refine h σ H F ho hw _ fun v d1 F1 M1 H1 q s w x => ?_
  obtain ⟨rfl, q⟩ := q
  cases (show v = V.ref c.1 from x)
  exact ⟨.ref t, .ref t, bb, rfl, fun u r => r, hk, kk _ _ F1 M1 H1 q s w (.bl _)⟩
/-- .. a built-in class -/
theorem de_isPB {D : Addr} {c : Addr × Obj} {Tn : String} {bb : Bool} (hp : c ∈ X.pn) (C : ExcC X.K D) (hz : L2N.Zn (.ref D) none c.2) (hf : ∃ vs, c.2.data = .fields vs) {y : Str} {yp : Pos} (hy : X.mg y = none) (hv : bootBuiltins y = some (.type Tn)) (hk : PySem.W.kitOne X.K (.ref D) (.type Tn) = some bb)
    (h : DE X e ρ M fun d1 M1 => d1 = .o c.1 ∧ Q (B bb) M1) (hm : X.mg "isinstance" = none) (hg2 : Gl X y := by rfl) (hg : Gl X "isinstance" := by rfl) (hn : y ≠ "__name__" := by decide) (hdb : (y == ("__debug__" : Str)) = false := by decide)
    (he : starEach [e, .Name y yp] X.env = (false, eval e X.env) :: starEach [.Name y yp] X.env := by rfl) (he2 : starEach [.Name y yp] X.env = (false, eval (.Name y yp) X.env) :: starEach [] X.env := by rfl)
    (hpl : (backTo pos (starEach [.Name y yp] X.env)).any (·.1) = false := by rfl) : DE X (.Call (.Name "isinstance" p) [e, .Name y yp] [] pos) ρ M Q := fun σ H F ho hw R kk => by
  refine toE (pe_callB (call_isP hp C hz hf) hg hm (by decide +kernel) (pa_cons sE (pa_cons (pe_bltn (v := .ty Tn) hg2 hy hv rfl hn hdb) pa_nil he2) he) (by decide) (by decide) he hpl) ?_
  refine h σ H F ho hw _ fun v d1 F1 M1 H1 q s w x => ?_
  obtain ⟨rfl, q⟩ := q
  cases (show v = V.ref c.1 from x)
  exact ⟨.ty Tn, .type Tn, bb, rfl, fun u r => r, hk, kk _ _ F1 M1 H1 q s w (.bl _)⟩
/-- l.extend(a list made for it) -/
theorem de_extend (h : DE X a ρ M fun d M1 => ∃ l ps0, d = .o l ∧ M1 l = some (.lst ps0) ∧ DE X b ρ M1 fun d2 M2 => ∃ r ps qs, M2 l = some (.lst ps) ∧ d2 = .o r ∧ M2 r = some (.lst qs) ∧ ps.length + qs.length ≤ 100000 ∧ Q N0 (updM (delM M2 r) l (.lst (ps ++ qs))))
    (hbase : attributeBase a "extend" X.env (eval a X.env) = eval a X.env := by rfl)
    (hfew : ((backTo pos (starEach [b] X.env)).all (fun x => !x.1) && (backToKw pos (keywordEach [] X.env)).all (fun x => x.1.isSome)
      && decide (([b] : List Expr).length + ([] : List Keyword).length + (if ([] : List Keyword).isEmpty then 0 else 1) < 30)) = true := by rfl)
    (hline : (apos.endLine == pos.line) = true := by rfl) (hs : starEach [b] X.env = (false, eval b X.env) :: starEach [] X.env := by rfl) (hplain : (backTo pos (starEach [] X.env)).any (·.1) = false := by rfl) :
    DE X (.Call (.Attribute a "extend" apos) [b] [] pos) ρ M Q := fun σ H F ho hw R k => by
  refine toE (pe_bm PySem.F.plainAttrs_list PySem.F.slot_list_extend PySem.F.type_list_extend mt_extend sE (pa_cons sE pa_nil hs) hbase hfew hline hs hplain) ?_
  refine h σ H F ho hw _ fun v1 d1 F1 M1 H1 q1 s1 w1 x1 => ?_
  obtain ⟨l, ps0, rfl, hl0, q1⟩ := q1
  cases (show v1 = V.ref l from x1)
  obtain ⟨_, vs0, e0, _⟩ := w1.mem l _ hl0
  refine ⟨.inl ⟨rfl, _, SqL.of e0⟩, ?_⟩
  refine q1 σ H1 F1 (ho.mono s1) w1 _ fun v2 d2 F2 M2 H2 q2 s2 w2 x2 => ?_
  obtain ⟨r, ps, qs, hl, rfl, hr, hz, q⟩ := q2
  cases (show v2 = V.ref r from x2)
  obtain ⟨hF, vs, e, ht⟩ := w2.mem l _ hl
  obtain ⟨hF3, us, e3, ht3⟩ := w2.mem r _ hr
  refine ⟨l, r, vs, us, rfl, rfl, e, e3, by rw [dps_len ht, dps_len ht3]; exact Nat.le_trans hz (by decide), ?_⟩
  have w3 := w2.put hl (o := .lst (vs ++ us)) (m' := .lst (ps ++ qs)) ⟨_, rfl, dps_append ht ht3⟩
  by_cases z : l = r
  · refine k _ _ F2 _ _ q (s1.trans s2) ?_ .non
    refine ⟨w3.ext, fun a m e => ?_⟩
    by_cases y : a = l
    · subst y
      rw [updM_same] at e
      exact w3.mem a m (by rw [updM_same]; exact e)
    · rw [updM_ne y] at e
      have e : delM M2 r a = some m := e
      unfold delM at e
      rw [if_neg (by rw [← z]; exact y)] at e
      exact w3.mem a m (by rw [updM_ne y]; exact e)
  · refine k _ _ F2 _ _ q (s1.trans s2) ?_ .non
    refine ⟨w3.ext, fun a m e => ?_⟩
    by_cases y : a = l
    · subst y
      rw [updM_same] at e
      exact w3.mem a m (by rw [updM_same]; exact e)
    · rw [updM_ne y] at e
      have e : delM M2 r a = some m := e
      unfold delM at e
      by_cases x : a = r
      · rw [if_pos x] at e; cases e
      · rw [if_neg x] at e
        exact w3.mem a m (by rw [updM_ne y]; exact e)
/-- l.pop() -/
theorem de_pop (h : DE X a ρ M fun d M1 => ∃ l ps p, d = .o l ∧ M1 l = some (.lst ps) ∧ ps[ps.length - 1]? = some p ∧ Q (.d p) (updM M1 l (.lst ps.dropLast)))
    (hbase : attributeBase a "pop" X.env (eval a X.env) = eval a X.env := by rfl) (hline : (apos.endLine == pos.line) = true := by rfl) : DE X (.Call (.Attribute a "pop" apos) [] [] pos) ρ M Q := fun σ H F ho hw R k => by
  refine toE (pe_bm0 PySem.F.plainAttrs_list PySem.F.slot_list_pop PySem.F.type_list_pop mt_pop sE hbase hline) ?_
  refine h σ H F ho hw _ fun v1 d1 F1 M1 H1 q1 s1 w1 x1 => ?_
  obtain ⟨l, ps, p, rfl, hl, hp, q⟩ := q1
  cases (show v1 = V.ref l from x1)
  obtain ⟨hF, vs, e, ht⟩ := w1.mem l _ hl
  have hp' : ps[vs.length - 1]? = some p := by rw [dps_len ht]; exact hp
  obtain ⟨v, e2, x2⟩ := dps_get ht hp'
  refine ⟨.inl ⟨rfl, _, SqL.of e⟩, l, vs, v, rfl, rfl, e, e2, ?_⟩
  refine k _ _ F1 _ _ q s1 (w1.put hl (m' := .lst ps.dropLast) ⟨_, rfl, ?_⟩) x2
  rw [List.dropLast_eq_take, List.dropLast_eq_take, dps_len ht]
  exact dps_take _ ht
/-- list(l) of a list that may change -/
theorem de_copyO (h : DA X (e :: es) ρ M fun ds M1 => ∃ r ps, ds = [.o r] ∧ M1 r = some (.lst ps) ∧ ∀ l, M1 l = none → Q (.o l) (updM M1 l (.lst ps))) (hm : X.mg "list" = none) (hg : Gl X "list" := by rfl)
    (he : starEach (e :: es) X.env = (false, eval e X.env) :: starEach es X.env := by rfl) (hpl : (backTo pos (starEach es X.env)).any (·.1) = false := by rfl) : DE X (.Call (.Name "list" p) (e :: es) [] pos) ρ M Q := by
  refine de_bty call_list_of (h.imp fun ds M1 q => ?_) hm (by decide +kernel) hg (by decide) (by decide) he hpl
  obtain ⟨r, ps, rfl, hr, q⟩ := q
  intro F H vs x w R k
  obtain ⟨v, rfl, x1⟩ := evs1 x
  cases (show v = V.ref r from x1)
  obtain ⟨hF, us, e1, ht⟩ := w.mem r _ hr
  exact ⟨_, _, rfl, .inl (SqL.of e1), fun l hl => k _ _ F _ _ (q l (w.fresh hl).2) (Same.refl F) (w.new hl ⟨_, rfl, ht⟩) rfl⟩
/-- a list that may change, as data at this moment -/
theorem dp_now {F : Hp} {M : Mem} {H : Hp} {l : Addr} {ps : List PyData} (w : WD X.K F M H) (hl : M l = some (.lst ps)) : Dp X.K H (.ref l) (.list ps) := by
  obtain ⟨hF, vs, e, ht⟩ := w.mem l _ hl
  exact .lst (SqL.of e) (dps_mono w.ext _ _ ht)
/-- l == data, l a list that may change -/
theorem dt_eqO {QT : Bool → Mem → Prop} (hu : X.A.units + 64 < cLine) (h : DE X a ρ M fun d1 M1 => DE X b ρ M1 fun d2 M2 => ∃ l ps q, d1 = .o l ∧ M2 l = some (.lst ps) ∧ d2 = .d q ∧ SeqAt.shaped (.list ps) = true ∧ SeqAt.shaped q = true ∧ QT (PyData.eqv (.list ps) q) M2) : DT X (.Compare a [.Eq] [b] pos) ρ M QT := by
  refine dt_cmp (op_eqD hu) (h.imp fun d1 M1 h1 => h1.imp fun d2 M2 h2 => ?_) (nomark _)
  obtain ⟨l, ps, p', rfl, hl, rfl, s1, s2, q⟩ := h2
  intro F H v1 v2 x1 x2 w R k
  cases (show v1 = V.ref l from x1)
  exact ⟨.list ps, p', dp_now w hl, dp_mono w.ext _ _ x2, s1, s2, k _ _ F M2 H ⟨_, rfl, q⟩ (Same.refl F) w (.bl _)⟩
theorem mt_countD (hu : X.A.units + 65 < cLine) : MtR X "list.count" (fun x xs H Q => ∃ (l : Addr) (y : V) (d : PyData) (ds : List PyData), x = V.ref l ∧ xs = [y] ∧ Dp X.K H (V.ref l) (.list ds) ∧ Dp X.K H y d ∧ PyData.plainAll ds = true ∧ d.plain = true ∧ d.depth = 0 ∧ Q (.int ((ds.countP fun z => PyData.eqv z d : Nat) : Int)) H) := by
  intro pins s σ H x xs v us Q I rx rxs h
  obtain ⟨l, y, d, ds, rfl, rfl, hl, hy, pl, pd, dd, q⟩ := h
  cases rx
  obtain ⟨u, rfl, ru⟩ := rxs.one
  obtain ⟨bs, r1⟩ := Dp.reads I d y u hy ru
  cases hl with
  | lst hs ha =>
    obtain ⟨its, rv, pln, hlen⟩ := I.list hs
    obtain ⟨as, h4⟩ := Dp.readsAll I ds _ its ha rv
    refine PySem.SeqAt.count_list_data (vs := its.toArray) pln.isList (by exact h4) r1 pl pd (by rw [dd, Nat.min_zero]; omega) ?_
    exact ⟨.int _, H, I.tok _, ⟨_, rfl⟩, q⟩
/-- l.count(x), l a list that may change -/
theorem de_countO (hu : X.A.units + 65 < cLine) (h : DE X a ρ M fun d M1 => ∃ l ps0, d = .o l ∧ M1 l = some (.lst ps0) ∧ DE X b ρ M1 fun d2 M2 => ∃ ps p, M2 l = some (.lst ps) ∧ d2 = .d p ∧ PyData.plainAll ps = true ∧ p.plain = true ∧ p.depth = 0 ∧ Q (I ((ps.countP fun z => PyData.eqv z p : Nat) : Int)) M2)
    (hbase : attributeBase a "count" X.env (eval a X.env) = eval a X.env := by rfl)
    (hfew : ((backTo pos (starEach [b] X.env)).all (fun x => !x.1) && (backToKw pos (keywordEach [] X.env)).all (fun x => x.1.isSome)
      && decide (([b] : List Expr).length + ([] : List Keyword).length + (if ([] : List Keyword).isEmpty then 0 else 1) < 30)) = true := by rfl)
    (hline : (apos.endLine == pos.line) = true := by rfl) (hs : starEach [b] X.env = (false, eval b X.env) :: starEach [] X.env := by rfl) (hplain : (backTo pos (starEach [] X.env)).any (·.1) = false := by rfl) :
    DE X (.Call (.Attribute a "count" apos) [b] [] pos) ρ M Q := fun σ H F ho hw R k => by
  refine toE (pe_bm PySem.F.plainAttrs_list PySem.F.slot_list_count PySem.F.type_list_count (mt_countD hu) sE (pa_cons sE pa_nil hs) hbase hfew hline hs hplain) ?_
  refine h σ H F ho hw _ fun v1 d1 F1 M1 H1 q1 s1 w1 x1 => ?_
  obtain ⟨l, ps0, rfl, hl0, q1⟩ := q1
  cases (show v1 = V.ref l from x1)
  obtain ⟨_, vs0, e0, _⟩ := w1.mem l _ hl0
  refine ⟨.inl ⟨rfl, _, SqL.of e0⟩, ?_⟩
  refine q1 σ H1 F1 (ho.mono s1) w1 _ fun v2 d2 F2 M2 H2 q2 s2 w2 x2 => ?_
  obtain ⟨ps, p, hl, rfl, h1, h2, h3, q⟩ := q2
  exact ⟨l, v2, p, ps, rfl, rfl, dp_now w2 hl, dp_mono w2.ext _ _ x2, h1, h2, h3, k _ _ F2 M2 H2 q (s1.trans s2) w2 (.int _)⟩
/-- l.index(x), l a list that may change -/
theorem de_indexO (hu : X.A.units + 65 < cLine) (h : DE X a ρ M fun d M1 => ∃ l ps0, d = .o l ∧ M1 l = some (.lst ps0) ∧ DE X b ρ M1 fun d2 M2 => ∃ ps p j z, M2 l = some (.lst ps) ∧ d2 = .d p ∧ SeqAt.shaped (.list ps) = true ∧ SeqAt.shaped p = true ∧ ps[j]? = some z ∧ PyData.eqv z p = true ∧
      (∀ (m : Nat) (z' : PyData), m < j → ps[m]? = some z' → PyData.eqv z' p = false) ∧ Q (I (j : Nat)) M2)
    (hbase : attributeBase a "index" X.env (eval a X.env) = eval a X.env := by rfl)
    (hfew : ((backTo pos (starEach [b] X.env)).all (fun x => !x.1) && (backToKw pos (keywordEach [] X.env)).all (fun x => x.1.isSome)
      && decide (([b] : List Expr).length + ([] : List Keyword).length + (if ([] : List Keyword).isEmpty then 0 else 1) < 30)) = true := by rfl)
    (hline : (apos.endLine == pos.line) = true := by rfl) (hs : starEach [b] X.env = (false, eval b X.env) :: starEach [] X.env := by rfl) (hplain : (backTo pos (starEach [] X.env)).any (·.1) = false := by rfl) :
    DE X (.Call (.Attribute a "index" apos) [b] [] pos) ρ M Q := fun σ H F ho hw R k => by
  refine toE (pe_bm PySem.F.plainAttrs_list PySem.F.slot_list_index PySem.F.type_list_index (mt_indexD hu) sE (pa_cons sE pa_nil hs) hbase hfew hline hs hplain) ?_
  refine h σ H F ho hw _ fun v1 d1 F1 M1 H1 q1 s1 w1 x1 => ?_
  obtain ⟨l, ps0, rfl, hl0, q1⟩ := q1
  cases (show v1 = V.ref l from x1)
  obtain ⟨_, vs0, e0, _⟩ := w1.mem l _ hl0
  refine ⟨.inl ⟨rfl, _, SqL.of e0⟩, ?_⟩
  refine q1 σ H1 F1 (ho.mono s1) w1 _ fun v2 d2 F2 M2 H2 q2 s2 w2 x2 => ?_
  obtain ⟨ps, p, j, z, hl, rfl, h1, h2, h3, h4, h5, q⟩ := q2
  exact ⟨l, v2, p, ps, j, z, rfl, rfl, dp_now w2 hl, dp_mono w2.ext _ _ x2, h1, h2, h3, h4, h5, k _ _ F2 M2 H2 q (s1.trans s2) w2 (.int _)⟩
end
end DL
/-! ### a def that raises nothing, over statements that may -/
namespace DL
open PySem PySem.Spec L2
theorem takes_never (X : Cx) : L2N.Takes X (fun _ _ _ _ => False) := fun u s' ⟨a, B, sI, pins, σ, H, cls, d, e, I, nb, up, sky, na, os, ag, w⟩ => w.elim
def TX0 : TX := fun _ _ _ => False
section
variable {X : Cx} {c a b : Expr} {st : Stmt} {sts : List Stmt} {pos : Pos} {ρ : Ev} {M : Mem} {Q : QE} {D : DEnds} {T : TX}
theorem ds_never (h : DX X st ρ M D TX0) : DS X st ρ M D := fun σ H F ho hw R k => h σ H F ho hw R k _ (takes_never X) fun _ _ _ _ _ _ t _ _ _ => t.elim
theorem dss_never (h : DXs X sts ρ M D TX0) : DSs X sts ρ M D := fun σ H F ho hw R k => h σ H F ho hw R k _ (takes_never X) fun _ _ _ _ _ _ t _ _ _ => t.elim
theorem dxe_if (h : DT X c ρ M fun k M1 => if k = true then DXE X a ρ M1 Q T else DXE X b ρ M1 Q T) : DXE X (.IfExp c a b pos) ρ M Q T := fun σ H F ho hw R k W tk xl => by
  refine toE (pe_ifExp sT sE sE) ?_
  refine h σ H F ho hw _ fun c F1 M1 H1 q1 s1 w1 => ?_
  cases c with
  | true => exact q1 σ H1 F1 (ho.mono s1) w1 R (k.mono s1) W tk (xl.mono s1)
  | false => exact q1 σ H1 F1 (ho.mono s1) w1 R (k.mono s1) W tk (xl.mono s1)
end
/-- the def that tells what was caught -/
theorem defP_ok {P : Program} {w : World} {K : PySem.W.Frag} {mg : Str → Option Value} {base : Heap} {x qual y : Str} {st : Stmt} {f : Addr} {fd : FuncData} {N : List Str} {k : Nat} {Dc : Addr} {out : PyData} (Fd : Fun K x qual st f fd) (Sc : FnScope N [y] (defScope st))
    (hm : mg x = some (.ref f)) (hb : Binds K fd [y] [])
    (body : ∀ (cdv : Value) (A : Around) (outer : List Env) (s : Shared) (H : Hp) (E : XK) (p : Addr × Obj) (Q : QE), L2H.Hot1 A p → L2H.RoomH k (A.deeper (PyProof.Rows.envOfC qual (defScope st) s.heap.objs.size f cdv)) → L2N.Zn (.ref Dc) none p.2 → (∃ ws, p.2.data = .fields ws) → ∀ (M : Mem), (Q (.d out) M) →
      DSs (L2H.cxH CX0 P w K mg base N qual (defScope st) f cdv A outer s H E p) (defBody st) (some (.o p.1) :: List.replicate (N.length - 1) none) M { nx := fun _ _ => False, rt := Q }) : DefP P w K mg base x (k + 1) Dc out := by
  refine ⟨f, fd, [y], hm, Fd.kp, hb, fnP_of Fd Sc (fun p vs H Q E h => by rw [h.1]; rfl) fun cdv A outer s H vs Q E p hot hr h => ?_⟩
  obtain ⟨rfl, hz, hf, F, M, hw, q⟩ := h
  refine body cdv A outer s H E p (fun d M' => d = .d out ∧ M' = M) hot hr hz hf M ⟨rfl, rfl⟩ _ _ F ?_ hw _ ⟨fun _ _ _ _ _ q' => q'.elim, fun v d F' M' H' q' s' w' o' => ?_, fun _ _ _ _ _ q' => q'.elim, fun _ _ _ _ _ q' => q'.elim⟩
  · exact startE_ok (ds := [.o p.1]) (.cons (show EvOk K F (.ref p.1) (.o p.1) from rfl) .nil)
  · obtain ⟨rfl, rfl⟩ := q'
    exact q v F' H' s' w' o'
section
variable {X : Cx} {a : Expr} {es : List Expr} {pos apos pos' : Pos} {ρ : Ev} {M : Mem} {Q : QE}
/-- l.extend([..]) -/
theorem de_extend1 (h : DE X a ρ M fun d M1 => ∃ l ps0, d = .o l ∧ M1 l = some (.lst ps0) ∧ DA X es ρ M1 fun ds M2 => ∃ qs ps, ds = qs.map EV.d ∧ M2 l = some (.lst ps) ∧ Nat.ble qs.length 100000 = true ∧ ps.length + qs.length ≤ 100000 ∧ Q N0 (updM M2 l (.lst (ps ++ qs))))
    (hbase : attributeBase a "extend" X.env (eval a X.env) = eval a X.env := by rfl)
    (hfew : ((backTo pos (starEach [.List es pos'] X.env)).all (fun x => !x.1) && (backToKw pos (keywordEach [] X.env)).all (fun x => x.1.isSome)
      && decide (([.List es pos'] : List Expr).length + ([] : List Keyword).length + (if ([] : List Keyword).isEmpty then 0 else 1) < 30)) = true := by rfl)
    (hline : (apos.endLine == pos.line) = true := by rfl) (hs : starEach [.List es pos'] X.env = (false, eval (.List es pos') X.env) :: starEach [] X.env := by rfl) (hplain : (backTo pos (starEach [] X.env)).any (·.1) = false := by rfl) :
    DE X (.Call (.Attribute a "extend" apos) [.List es pos'] [] pos) ρ M Q := by
  refine de_extend (h.imp fun d M1 q => ?_) hbase hfew hline hs hplain
  obtain ⟨l, ps0, rfl, hl, q⟩ := q
  refine ⟨l, ps0, rfl, hl, de_lst (q.imp fun ds M2 q => ?_)⟩
  obtain ⟨qs, ps, rfl, hl2, hb, hz, q⟩ := q
  refine ⟨qs, rfl, hb, fun r hr => ⟨r, ps, qs, ?_, rfl, updM_same, hz, ?_⟩⟩
  · rw [updM_ne (fun e => by rw [e, hr] at hl2; cases hl2)]
    exact hl2
  · rw [delM_upd hr]
    exact q
end
theorem u65H {k : Nat} {A : Around} (r : L2H.RoomH k A) : A.units + 65 < cLine := by have := r.un; omega
theorem WD.del {K : PySem.W.Frag} {F : Hp} {M : Mem} {H : Hp} {l : Addr} (w : WD K F M H) : WD K F (delM M l) H := ⟨w.ext, fun a m e => by
  unfold delM at e
  by_cases z : a = l
  · rw [if_pos z] at e; cases e
  · rw [if_neg z] at e; exact w.mem a m e⟩
/-- the thing at l is no longer told of -/
theorem de_forget {X : Cx} {e : Expr} {ρ : Ev} {M : Mem} {Q : QE} (l : Addr) (h : DE X e ρ M fun d M1 => Q d (delM M1 l)) : DE X e ρ M Q := fun σ H F ho hw R k => h σ H F ho hw R fun v d F' M' H' q s w x => k v d F' (delM M' l) H' q s w.del x
/-- if c: return .. , c false, the memory changed -/
theorem dss_guardM {X : Cx} {c : Expr} {A : List Stmt} {sts : List Stmt} {pos : Pos} {ρ : Ev} {M : Mem} {D : DEnds} (Mid : Mem → Prop) (h : DT X c ρ M fun k M1 => k = false ∧ Mid M1) (q : ∀ M1, Mid M1 → DSs X sts ρ M1 D) : DSs X (.If c A [] pos :: sts) ρ M D :=
  dss_cons (ds_if fun σ H F ho hw R k => h σ H F ho hw R fun b F' M' H' e s w => k b F' M' H' (by
    obtain ⟨rfl, e⟩ := e
    exact iteF (dss_nil (q _ e))) s w)
/-! facts of classes -/
theorem exm_of1 {K : PySem.W.Frag} {D C : Addr} {b : Bool} (h1 : PySem.W.subIn K (.ref C) (.type "BaseException") = some true) (h2 : PySem.W.isClsIn K C = true) (h3 : PySem.W.typeIn K (.ref C) = some (.type "type")) (h4 : PySem.W.subIn K (.ref D) (.ref C) = some b) : PySem.W.exmOne K (.ref D) (.ref C) = some b := by
  have e1 : (PySem.W.subIn K (.ref C) (.type "BaseException") == some true) = true := by rw [h1] <;> rfl
  have e2 : ((PySem.W.clsIn K C).isSome && PySem.W.typeIn K (.ref C) == some (.type "type")) = true := by
    have h2' : (PySem.W.clsIn K C).isSome = true := h2
    rw [h2', h3] <;> rfl
  unfold PySem.W.exmOne
  rw [if_pos e1]
  unfold PySem.W.kitCls
  show (if ((PySem.W.clsIn K C).isSome && PySem.W.typeIn K (.ref C) == some (.type "type")) = true then PySem.W.subIn K (.ref D) (.ref C) else none) = some b
  rw [if_pos e2]
  exact h4

theorem kit_of {K : PySem.W.Frag} {D C : Addr} {b : Bool} (ne : D ≠ C) (h2 : PySem.W.isClsIn K C = true) (h3 : PySem.W.typeIn K (.ref C) = some (.type "type")) (h4 : PySem.W.subIn K (.ref D) (.ref C) = some b) : PySem.W.kitOne K (.ref D) (.ref C) = some b := by
  have e2 : ((PySem.W.clsIn K C).isSome && PySem.W.typeIn K (.ref C) == some (.type "type")) = true := by
    have h2' : (PySem.W.clsIn K C).isSome = true := h2
    rw [h2', h3] <;> rfl
  have e1 : ¬ ((Value.ref D == Value.ref C) = true) := fun e => ne (by
    have := beq_iff_eq.mp e
    cases this
    rfl)
  show (if (Value.ref D == Value.ref C) = true then some true else (if ((PySem.W.clsIn K C).isSome && PySem.W.typeIn K (.ref C) == some (.type "type")) = true then PySem.W.subIn K (.ref D) (.ref C) else none)) = some b
  rw [if_neg e1, if_pos e2]
  exact h4
theorem kit_self {K : PySem.W.Frag} {D : Addr} : PySem.W.kitOne K (.ref D) (.ref D) = some true := by
  unfold PySem.W.kitOne
  rw [if_pos (beq_self_eq_true _)]
theorem kit_ty {K : PySem.W.Frag} {D : Addr} {b : Bool} (h4 : PySem.W.subIn K (.ref D) (.type "ValueError") = some b) : PySem.W.kitOne K (.ref D) (.type "ValueError") = some b := by
  have e1 : ¬ ((Value.ref D == Value.type "ValueError") = true) := fun e => by cases beq_iff_eq.mp e
  show (if (Value.ref D == Value.type "ValueError") = true then some true else (if PySem.W.kitMeta "ValueError" = true then PySem.W.subIn K (.ref D) (.type "ValueError") else none)) = some b
  rw [if_neg e1, if_pos (by decide +kernel)]
  exact h4
/-! o.m(e, ..) that may raise -/
section
variable {X : Cx} {e o : Expr} {es : List Expr} {pos apos : Pos} {m : Str} {ρ : Ev} {M : Mem} {Q : QE} {T : TX} {t : TA}
theorem pe_mS {pl : Sem Bool} {C f : Addr} {fd : FuncData} {ps : List Str} {k : Nat} {sp : Sp} {CX : CXT} {E : L2.St → XK} {ta : TE} (he : PE X o ta) (c : Cls X.K C) (hm : Meth X.K C m f) (F : FnOk X.prog X.w X.K X.mg X.base CX k f fd ps sp) (hr : Room k X.A) (hb : Binds X.K fd ps []) (hx : ∀ σ, PassesAt CX X σ (E σ)) (ha : PA X (e :: es) t)
    (hst : starEach (e :: es) X.env = (false, eval e X.env) :: starEach es X.env := by rfl) (hpl : (backTo pos (starEach es X.env)).any (·.1) = false := by rfl)
    (ht : eval (.Call (.Attribute o m apos) (e :: es) [] pos) X.env = (do
      let ov ← eval o X.env
      standAt apos.atName
      let (f, first) ← holding [ov] (getMethod ov m pl)
      callWith pos f first (backTo pos (starEach (e :: es) X.env)) (backToKw pos (keywordEach [] X.env))) := by rfl) :
    PE X (.Call (.Attribute o m apos) (e :: es) [] pos) (fun σ H Q => ta σ H fun x H1 => ∃ a dx fs, x = .ref a ∧ H1 a = some (.ins C dx fs) ∧ fs.lookup m = none ∧ t σ H1 fun vs H2 => sp (x :: vs) H2 Q (E σ)) := by
  refine ⟨fun pins s σ H Q I h => PySem.W.methodCall_KW (pl := pl) (thn (he.run pins s σ H _ I h) fun u s1 ⟨x, H1, I1, rx, hh⟩ => ?_) ht⟩
  obtain ⟨a, dx, fs, rfl, ea, l, q⟩ := hh
  cases rx
  refine getmeth_ok I1 ea c hm l ?_
  refine PySem.W.callWith_K (first := [.ref a]) (h₀ := X.base) I.ok.mod.kin hm.kp (thn (ha.run pos pins s1 σ H1 _ I1 q) fun us s2 ⟨vs, H2, I2, r, q2⟩ => ⟨I2.kIn, ?_⟩) hst hpl
  exact run_fnS (us := .ref a :: us) (vs := .ref a :: vs) F hr hb (hx σ) I2 (.cons rfl r) q2
theorem dxe_meth {pl : Sem Bool} {C : Addr} {k : Nat} {S : DXSp} (d : DefMX X.prog X.w X.K X.mg X.base C m k S) (hr : Room k X.A) (h : DE X o ρ M fun d M1 => ∃ l fs, d = .o l ∧ M1 l = some (.ins C fs) ∧ fs.lookup m = none ∧ DA X (e :: es) ρ M1 fun ds M2 => S.wp (.o l :: ds) M2 Q fun C M' => T C ρ M')
    (hst : starEach (e :: es) X.env = (false, eval e X.env) :: starEach es X.env := by rfl) (hpl : (backTo pos (starEach es X.env)).any (·.1) = false := by rfl)
    (ht : eval (.Call (.Attribute o m apos) (e :: es) [] pos) X.env = (do
      let ov ← eval o X.env
      standAt apos.atName
      let (f, first) ← holding [ov] (getMethod ov m pl)
      callWith pos f first (backTo pos (starEach (e :: es) X.env)) (backToKw pos (keywordEach [] X.env))) := by rfl) : DXE X (.Call (.Attribute o m apos) (e :: es) [] pos) ρ M Q T := fun σ H F ho hw R kk W tk xl => by
  obtain ⟨f, fd, ps, hm, hb, hF⟩ := d.ex
  refine toE (pe_mS (pl := pl) sE d.cl hm hF hr hb (fun σ => L2N.passAt tk σ) sA hst hpl ht) ?_
  refine h σ H F ho hw _ fun v d1 F1 M1 H1 q s w x => ?_
  obtain ⟨l, fs, rfl, hl, hn, q⟩ := q
  cases (show v = V.ref l from x)
  obtain ⟨hF1, dx, vs, e1, kv⟩ := w.mem l _ hl
  refine ⟨l, dx, vs, rfl, e1, (kv.at_ (f := m)).2 hn, ?_⟩
  refine q σ H1 F1 (ho.mono s) w _ fun us ds F2 M2 H2 q2 s2 w2 x2 => ?_
  refine ⟨F2, M2, .o l :: ds, w2, .cons (show EvOk X.K F2 (.ref l) (.o l) from rfl) x2, S.mono (fun d' M' q' v F' H' s' w' x' => ?_) (fun C M' u F' H' s' w' => ?_) q2⟩
  · exact kk v d' F' M' H' q' ((s.trans s2).trans s') w' x'
  · exact xl σ ρ C F' M' H' u ((s.trans s2).trans s') w' (ho.mono ((s.trans s2).trans s'))
end
end DL
namespace BP
/-- n / d -/
def rq (n d : Int) : Rat := (n : Rat) / (d : Rat)
theorem rq_div (n d : Int) : rq n d = Rat.divInt n d := (Rat.divInt_eq_div n d).symm
def Fit (i : Int) : Prop := i.natAbs < 2 ^ 2000
def Fit4 (i : Int) : Prop := i.natAbs < 2 ^ 8000
theorem fit_small {i : Int} (h1 : -1000000000000000000 < i) (h2 : i < 1000000000000000000) : Fit i := by
  unfold Fit
  exact Nat.lt_of_lt_of_le (by omega : i.natAbs < 1000000000000000000) (by decide +kernel)
theorem Fit.f4 {i : Int} (h : Fit i) : Fit4 i := Nat.lt_trans h (by decide +kernel)
theorem Fit.mul {i j : Int} (h : Fit i) (g : Fit j) : Fit4 (i * j) := by
  unfold Fit4
  rw [Int.natAbs_mul]
  exact Nat.lt_of_lt_of_le (Nat.mul_lt_mul'' h g) (by decide +kernel)
theorem log_of {n k : Nat} (h : n < 2 ^ k) (hk : 0 < k) : n.log2 < k := by
  by_cases h0 : n = 0
  · subst h0; simpa using hk
  · exact (Nat.log2_lt h0).mpr h
/-! ### lowest terms -/
theorem low_pos {n d : Int} (hd : 0 < d) : n / (Int.gcd n d : Int) = (rq n d).num ∧ d / (Int.gcd n d : Int) = ((rq n d).den : Int) := by
  have h1 := Rat.num_divInt n d
  have h2 := Rat.den_divInt n d
  rw [← rq_div, Int.sign_eq_one_of_pos hd, Int.one_mul, Int.gcd_comm] at h1
  rw [← rq_div, if_neg (by omega), Int.gcd_comm] at h2
  rw [h1, h2]
  refine ⟨rfl, ?_⟩
  rw [Int.natCast_ediv]
  congr 1
  omega
theorem fdiv_neg_gcd {n : Int} {g : Nat} (hg : 0 < g) (h : (g : Int) ∣ n) : n.fdiv (-(g : Int)) = (-n) / (g : Int) := by
  obtain ⟨k, rfl⟩ := h
  have hg' : (g : Int) ≠ 0 := by omega
  have e1 : (g : Int) * k = (-k) * (-(g : Int)) := by rw [Int.neg_mul_neg, Int.mul_comm]
  have e2 : -((g : Int) * k) = (-k) * (g : Int) := by rw [Int.neg_mul, Int.mul_comm]
  rw [e2, Int.mul_ediv_cancel _ hg']
  rw [e1, Int.mul_fdiv_cancel _ (by omega)]
theorem low_neg {n d : Int} (hd : d < 0) : n.fdiv (-(Int.gcd n d : Int)) = (rq n d).num ∧ d.fdiv (-(Int.gcd n d : Int)) = ((rq n d).den : Int) := by
  have h1 := Rat.num_divInt n d
  have h2 := Rat.den_divInt n d
  rw [← rq_div, Int.sign_eq_neg_one_of_neg hd, Int.gcd_comm] at h1
  rw [← rq_div, if_neg (by omega), Int.gcd_comm] at h2
  have hg : 0 < Int.gcd n d := Int.gcd_pos_iff.mpr (.inr (by omega))
  rw [h1, h2, fdiv_neg_gcd hg (Int.gcd_dvd_left ..), fdiv_neg_gcd hg (Int.gcd_dvd_right ..)]
  refine ⟨by congr 1; omega, ?_⟩
  rw [Int.natCast_ediv]
  congr 1
  omega
/-! ### folds -/
def foldI (z m : Int) : Int := if z % (2 * m) ≤ m then z % (2 * m) else 2 * m - z % (2 * m)
def foldQ (z : Rat) (m : Int) : Rat := if z - 2 * m * ((z / (2 * m)).floor : Rat) ≤ m then z - 2 * m * ((z / (2 * m)).floor : Rat) else 2 * m - (z - 2 * m * ((z / (2 * m)).floor : Rat))
theorem floor_rq (n : Int) {d : Int} (hd : 0 < d) : (rq n d).floor = n / d := by
  have h0 : (0 : Rat) < d := Rat.intCast_pos.mpr hd
  apply Int.le_antisymm
  · have h := Rat.floor_le (rq n d)
    have h1 : ((rq n d).floor : Rat) * d ≤ n := by
      have := Rat.mul_le_mul_of_nonneg_right h (Rat.le_of_lt h0)
      unfold rq at this ⊢
      rwa [Rat.div_mul_cancel (Rat.ne_of_gt h0)] at this
    have h2 : (rq n d).floor * d ≤ n := by
      rw [← Rat.intCast_mul] at h1
      exact Rat.intCast_le_intCast.mp h1
    exact (Int.le_ediv_iff_mul_le hd).mpr h2
  · rw [Rat.le_floor_iff]
    have h2 : n / d * d ≤ n := Int.ediv_mul_le n (by omega)
    have h1 : (((n / d : Int)) : Rat) * d ≤ n := by
      rw [← Rat.intCast_mul]
      exact Rat.intCast_le_intCast.mpr h2
    unfold rq
    have h3 : (((n / d : Int)) : Rat) * d ≤ (n : Rat) / d * d := by rwa [Rat.div_mul_cancel (Rat.ne_of_gt h0)]
    exact Rat.le_of_mul_le_mul_right h3 h0
theorem foldQ_rq (n : Int) {d m : Int} (hd : 0 < d) (hm : 0 < m) : foldQ (rq n d) m = rq (foldI n (m * d)) d := by
  have h0 : (0 : Rat) < d := Rat.intCast_pos.mpr hd
  have hm0 : (0 : Rat) < m := Rat.intCast_pos.mpr hm
  have e1 : rq n d / (2 * (m : Rat)) = rq n (2 * (m * d)) := by
    unfold rq
    rw [Rat.intCast_mul, Rat.intCast_mul]
    show (n : Rat) / d / (2 * m) = n / (2 * (m * d))
    grind
  have e2 : rq n d - 2 * (m : Rat) * ((n / (2 * (m * d)) : Int) : Rat) = rq (n % (2 * (m * d))) d := by
    have e3 := Int.emod_def n (2 * (m * d))
    unfold rq
    rw [e3, Rat.intCast_sub, Rat.intCast_mul (2 * (m * d)), Rat.intCast_mul 2, Rat.intCast_mul m]
    show (n : Rat) / d - 2 * m * ((n / (2 * (m * d)) : Int) : Rat) = (n - 2 * (m * d) * ((n / (2 * (m * d)) : Int) : Rat)) / d
    grind
  have hmd : 0 < m * d := Int.mul_pos hm hd
  unfold foldQ
  rw [e1, floor_rq n (by omega), e2]
  unfold foldI
  have e4 : rq (n % (2 * (m * d))) d ≤ m ↔ n % (2 * (m * d)) ≤ m * d := by
    unfold rq
    rw [← Rat.intCast_le_intCast, Rat.intCast_mul]
    constructor
    · intro h
      have := Rat.mul_le_mul_of_nonneg_right h (Rat.le_of_lt h0)
      rwa [Rat.div_mul_cancel (Rat.ne_of_gt h0)] at this
    · intro h
      refine Rat.le_of_mul_le_mul_right ?_ h0
      rwa [Rat.div_mul_cancel (Rat.ne_of_gt h0)]
  by_cases h : n % (2 * (m * d)) ≤ m * d
  · rw [if_pos h, if_pos (e4.mpr h)]
  · rw [if_neg h, if_neg (fun z => h (e4.mp z))]
    unfold rq
    rw [Rat.intCast_sub, Rat.intCast_mul 2, Rat.intCast_mul m]
    show 2 * (m : Rat) - _ = (2 * (m * d) - _) / d
    grind
theorem foldI_min {z m : Int} : (if 2 * m - z % (2 * m) < z % (2 * m) then 2 * m - z % (2 * m) else z % (2 * m)) = foldI z m := by
  unfold foldI
  split <;> split <;> omega
def lcmQ (p q : Rat) : Rat := rq (p.num * q.num / (Int.gcd p.num q.num : Int)) (Int.gcd p.den q.den)
end BP
namespace BP
open PySem PySem.Spec L2 DL
def topS (i : Nat) : Stmt := PySem.Challenge.pw_bouncepaths_k11_runner_errors.main.body.getD i (.Pass ⟨0, 0, 0, 0⟩)
/-- a fraction -/
def fr (q : Rat) : PyData := .tuple [.int q.num, .int q.den]
/-- whether data is an int within bounds -/
def cnt (p : PyData) (lo hi : Int) : Bool := match p with
  | .int i => decide (lo ≤ i) && decide (i ≤ hi)
  | _ => false
theorem cnt_int {p : PyData} {lo hi : Int} (h : cnt p lo hi = true) : ∃ i, p = .int i ∧ lo ≤ i ∧ i ≤ hi := by
  cases p with
  | int i =>
    unfold cnt at h
    simp only [Bool.and_eq_true, decide_eq_true_eq] at h
    exact ⟨i, rfl, h.1, h.2⟩
  | _ => cases h
def cntP (p q : PyData) : Bool := match q with
  | .int w => cnt p 0 w
  | _ => false
def runOk6 (p1 p2 p3 p4 p5 p6 : PyData) : Bool := cnt p1 1 12 && cnt p2 1 12 && cntP p3 p1 && cntP p4 p2 && cnt p5 (-6) 6 && cnt p6 (-6) 6 && !(PyData.eqv (.tuple [p5, p6]) (.tuple [.int 0, .int 0]))
def runOk : PyData → Bool
  | .tuple [p1, p2, p3, p4, p5, p6] => runOk6 p1 p2 p3 p4 p5 p6
  | _ => false
section
variable {P : Program} {w : World} {K : PySem.W.Frag} {mg : Str → Option Value} {base : Heap}
/-! ### common_of -/
def sp_common_of : DSp where
  n := 2
  wp := fun ds M Q => ∃ a b : Int, ds = [I a, I b] ∧ Q (I (Int.gcd a b)) M
  mono := fun h ⟨a, b, e, q⟩ => ⟨a, b, e, h _ _ q⟩
  len := fun ⟨a, b, e, q⟩ => by rw [e]; rfl
theorem gcd_turn (x y : Int) : Int.gcd y (x % y) = Int.gcd x y := by
  rw [Int.emod_def, Int.sub_eq_add_neg, ← Int.mul_neg, Int.gcd_add_mul_left_right, Int.gcd_comm]
abbrev s_common_of : Stmt := topS 18
abbrev nm_common_of : List Str := ["one", "two"]
theorem sc_common_of : FnScope nm_common_of ["one", "two"] (defScope s_common_of) := ⟨rfl, rfl, rfl, by decide +kernel, rfl, by decide +kernel, by decide +kernel⟩
theorem ok_common_of {f : Addr} {fd : FuncData} (Fd : Fun K "common_of" "common_of" s_common_of f fd) (hm : mg "common_of" = some (.ref f)) (hb : Binds K fd ["one", "two"] []) (z_abs : mg "abs" = none) : Def P w K mg base "common_of" 1 sp_common_of := by
  refine def_ok Fd sc_common_of hm hb rfl fun cdv A outer s H E hr ds M Q h => ?_
  obtain ⟨a, b, rfl, q⟩ := h
  -- one, two = (abs(one), abs(two))
  refine dss_cons ?_
  refine ds_par 0 1 sc_common_of.nd ?_
  refine da_cons ?_
  refine de_abs ?_ z_abs
  refine da_cons ?_
  refine de_var 0 rfl ?_  -- one
  refine da_nil ?_
  refine ⟨_, rfl, ?_⟩
  refine da_cons ?_
  refine de_abs ?_ z_abs
  refine da_cons ?_
  refine de_var 1 rfl ?_  -- two
  refine da_nil ?_
  refine ⟨_, rfl, ?_⟩
  refine da_nil ?_
  refine ⟨_, _, rfl, ?_⟩
  -- while two > 0:
  refine dss_cut (fun ρ' M' => ∃ x y : Int, ρ' = [some (I x), some (I y)] ∧ M' = M ∧ x = Int.gcd a b) ?_ ?_
  · refine ds_while (fun m ρ' M' => ∃ x y : Int, ρ' = [some (I x), some (I y)] ∧ M' = M ∧ 0 ≤ x ∧ 0 ≤ y ∧ Int.gcd x y = Int.gcd a b ∧ m = y.toNat) _ ⟨_, _, rfl, rfl, ?_, ?_, ?_, rfl⟩ fun m ρ' M' hW => ?_
    · split <;> omega
    · split <;> omega
    · rw [show (if a < 0 then -a else a) = (a.natAbs : Int) by split <;> omega, show (if b < 0 then -b else b) = (b.natAbs : Int) by split <;> omega]
      simp [Int.gcd]
    · obtain ⟨x, y, rfl, rfl, hx, hy, hg, rfl⟩ := hW
      refine dt_cmpI ci_gt ?_  -- or dt_neD hr.units: two > 0
      refine de_var 1 rfl ?_  -- two
      refine de_int ?_  -- 0
      refine ⟨_, _, rfl, rfl, ?_⟩
      refine ite2 (fun hI => ?_) (fun hI => ?_)
      · have hI : 0 < y := of_decide_eq_true hI
        -- one, two = (two, one % two)
        refine dss_cons ?_
        refine ds_par 0 1 sc_common_of.nd ?_
        refine da_cons ?_
        refine de_var 1 rfl ?_  -- two
        refine da_cons ?_
        refine de_mod ?_
        refine de_var 0 rfl ?_  -- one
        refine de_var 1 rfl ?_  -- two
        refine ⟨_, _, rfl, rfl, hI, ?_⟩  -- one % two
        refine da_nil ?_
        refine ⟨_, _, rfl, ?_⟩
        refine dss_nil ?_
        have h1 := Int.emod_nonneg x (show y ≠ 0 by omega)
        have h2 := Int.emod_lt_of_pos x hI
        exact ⟨(x % y).toNat, by omega, y, x % y, rfl, rfl, hy, h1, by rw [gcd_turn, hg], rfl⟩
      · have hI : ¬ 0 < y := fun z => hI (decide_eq_true z)
        have e : y = 0 := by omega
        subst e
        refine ⟨x, 0, rfl, rfl, ?_⟩
        rw [← hg, Int.gcd_zero_right]
        omega
  rintro ρ' M' ⟨x, y, rfl, rfl, rfl⟩
  -- return one
  refine dss_cons ?_
  refine ds_ret ?_
  refine de_var 0 rfl ?_  -- one
  exact q
/-! ### is_count -/
def sp_is_count : DSp where
  n := 3
  wp := fun ds M Q => ∃ (p : PyData) (lo hi : Int), ds = [.d p, I lo, I hi] ∧ Q (B (cnt p lo hi)) M
  mono := fun h ⟨a, b, c, e, q⟩ => ⟨a, b, c, e, h _ _ q⟩
  len := fun ⟨a, b, c, e, q⟩ => by rw [e]; rfl
abbrev s_is_count : Stmt := topS 13
abbrev nm_is_count : List Str := ["value", "least", "most"]
theorem sc_is_count : FnScope nm_is_count ["value", "least", "most"] (defScope s_is_count) := ⟨rfl, rfl, rfl, by decide +kernel, rfl, by decide +kernel, by decide +kernel⟩
theorem ok_is_count {f : Addr} {fd : FuncData} (Fd : Fun K "is_count" "is_count" s_is_count f fd) (hm : mg "is_count" = some (.ref f)) (hb : Binds K fd ["value", "least", "most"] []) (z_isinstance : mg "isinstance" = none) (z_int : mg "int" = none) (z_bool : mg "bool" = none) : Def P w K mg base "is_count" 1 sp_is_count := by
  refine def_ok Fd sc_is_count hm hb rfl fun cdv A outer s H E hr ds M Q h => ?_
  obtain ⟨p, lo, hi, rfl, q⟩ := h
  refine dss_cons (ds_ret (de_and ?_))
  refine de_isi (Tn := "int") (de_var 0 rfl ⟨_, rfl, _, rfl, ?_⟩) z_isinstance z_int (by decide +kernel) (by decide +kernel)
  rw [isTy_int]
  have fin : ∀ b, cnt p lo hi = b → Q (B b) M := fun b e => by rw [← e]; exact q
  cases p with
  | int i =>
    refine de_and (de_not (de_isi (Tn := "bool") (de_var 0 rfl ⟨_, rfl, _, rfl, ?_⟩) z_isinstance z_bool (by decide +kernel) (by decide +kernel)))
    rw [isTy_bool]
    refine ⟨_, rfl, ?_⟩
    refine de_one (de_chain ci_le ci_le (de_var 1 rfl (de_var 0 rfl ⟨_, _, rfl, rfl, ite2 (fun hC => ?_) (fun hC => ?_)⟩)))
    · refine de_var 2 rfl ⟨_, rfl, fin _ ?_⟩
      show (decide (lo ≤ i) && decide (i ≤ hi)) = _
      rw [hC]
      rfl
    · refine fin _ ?_
      show (decide (lo ≤ i) && decide (i ≤ hi)) = _
      rw [Bool.eq_false_iff.mpr hC]
      rfl
  | bool b =>
    refine de_and (de_not (de_isi (Tn := "bool") (de_var 0 rfl ⟨_, rfl, _, rfl, ?_⟩) z_isinstance z_bool (by decide +kernel) (by decide +kernel)))
    rw [isTy_bool]
    exact ⟨_, rfl, fin _ rfl⟩
  | _ => exact fin _ rfl
/-! ### is_run -/
def sp_is_run : DSp where
  n := 1
  wp := fun ds M Q => ∃ (p : PyData), ds = [.d p] ∧ SeqAt.shaped p = true ∧ Q (B (runOk p)) M
  mono := fun h ⟨a, e, s, q⟩ => ⟨a, e, s, h _ _ q⟩
  len := fun ⟨a, e, s, q⟩ => by rw [e]; rfl
abbrev s_is_run : Stmt := topS 14
abbrev nm_is_run : List Str := ["value", "w", "h", "x", "y", "a", "b"]
theorem sc_is_run : FnScope nm_is_run ["value"] (defScope s_is_run) := ⟨rfl, rfl, rfl, by decide +kernel, rfl, by decide +kernel, by decide +kernel⟩
theorem ok_is_run {f : Addr} {fd : FuncData} (Fd : Fun K "is_run" "is_run" s_is_run f fd) (hm : mg "is_run" = some (.ref f)) (hb : Binds K fd ["value"] []) (z_isinstance : mg "isinstance" = none) (z_tuple : mg "tuple" = none) (z_len : mg "len" = none)
    {t1 t2 : Tok} (c_SIDE : mg "SIDE" = some (.int 12 t1)) (c_SPEED : mg "SPEED" = some (.int 6 t2)) (d_is_count : Def P w K mg base "is_count" 1 sp_is_count) : Def P w K mg base "is_run" 2 sp_is_run := by
  refine def_ok Fd sc_is_run hm hb rfl fun cdv A outer s H E hr ds M Q h => ?_
  obtain ⟨p, rfl, hs, q⟩ := h
  have fin : ∀ b, runOk p = b → Q (B b) M := fun b e => by rw [← e]; exact q
  -- if not isinstance(value, tuple) or len(value) != 6:
  refine dss_cons (ds_if (DW.dt (dw_or (dt_not (DT.of_val (de_isi (Tn := "tuple") (de_var 0 rfl ⟨_, rfl, _, rfl, ?_⟩) z_isinstance z_tuple (by decide +kernel) (by decide +kernel)))))))
  rw [isTy_tuple]
  cases p with
  | tuple ps =>
    refine dw_or1 (dt_cmpI ci_ne (de_len (da_cons (de_var 0 rfl (da_nil ⟨_, _, rfl, rfl, ?_⟩))) z_len))
    refine de_int ⟨_, _, rfl, rfl, ite2 (fun hI => ?_) (fun hI => ?_)⟩
    · have hl : ps.length ≠ 6 := fun e => by rw [e] at hI; cases hI
      refine dss_cons (ds_ret (de_bl (fin _ ?_)))
      match ps, hl with
      | [], _ => rfl
      | [_], _ => rfl
      | [_, _], _ => rfl
      | [_, _, _], _ => rfl
      | [_, _, _, _], _ => rfl
      | [_, _, _, _, _], _ => rfl
      | [_, _, _, _, _, _], h => exact absurd rfl h
      | _ :: _ :: _ :: _ :: _ :: _ :: _ :: _, _ => rfl
    · have hl : ps.length = 6 := by
        by_cases e : ps.length = 6
        · exact e
        · refine absurd ?_ hI
          simp only [Bool.not_eq_true', decide_eq_false_iff_not]
          omega
      obtain ⟨p1, p2, p3, p4, p5, p6, rfl⟩ : ∃ p1 p2 p3 p4 p5 p6, ps = [p1, p2, p3, p4, p5, p6] := by
        match ps, hl with
        | [p1, p2, p3, p4, p5, p6], _ => exact ⟨_, _, _, _, _, _, rfl⟩
      refine dss_nil ?_
      -- w, h, x, y, a, b = value
      refine dss_cons (ds_asg (de_var 0 rfl (dg_tup rfl (dgs_cons (dg_name 1 (dgs_cons (dg_name 2 (dgs_cons (dg_name 3 (dgs_cons (dg_name 4 (dgs_cons (dg_name 5 (dgs_cons (dg_name 6 (dgs_nil ?_) sc_is_run.nd)) sc_is_run.nd)) sc_is_run.nd)) sc_is_run.nd)) sc_is_run.nd)) sc_is_run.nd)) rfl)))
      -- the ifs
      refine dss_cons (ds_if (DW.dt (dw_or (dt_not (DT.of_val (de_call d_is_count hr (da_cons (de_var 1 rfl (da_cons (de_int (da_cons (de_globI c_SIDE (da_nil ⟨_, _, _, rfl, _, rfl, ?_⟩)))))))))))))
      cases h1 : cnt p1 1 12 with
      | false => exact dss_cons (ds_ret (de_bl (fin _ (by simp [runOk, runOk6, h1]))))
      | true =>
      obtain ⟨w', rfl, hw1, hw2⟩ := cnt_int h1
      refine dw_or (dt_not (DT.of_val (de_call d_is_count hr (da_cons (de_var 2 rfl (da_cons (de_int (da_cons (de_globI c_SIDE (da_nil ⟨_, _, _, rfl, _, rfl, ?_⟩))))))))))
      cases h2 : cnt p2 1 12 with
      | false => exact dss_cons (ds_ret (de_bl (fin _ (by simp [runOk, runOk6, h2]))))
      | true =>
      obtain ⟨h', rfl, hh1, hh2⟩ := cnt_int h2
      refine dw_or (dt_not (DT.of_val (de_call d_is_count hr (da_cons (de_var 3 rfl (da_cons (de_int (da_cons (de_var 1 rfl (da_nil ⟨_, _, _, rfl, _, rfl, ?_⟩))))))))))
      cases h3 : cnt p3 0 w' with
      | false => exact dss_cons (ds_ret (de_bl (fin _ (by simp [runOk, runOk6, cntP, h3]))))
      | true =>
      refine dw_or1 (dt_not (DT.of_val (de_call d_is_count hr (da_cons (de_var 4 rfl (da_cons (de_int (da_cons (de_var 2 rfl (da_nil ⟨_, _, _, rfl, _, rfl, ?_⟩))))))))))
      cases h4 : cnt p4 0 h' with
      | false => exact dss_cons (ds_ret (de_bl (fin _ (by simp [runOk, runOk6, cntP, h4]))))
      | true =>
      refine dss_nil ?_
      -- return ..
      refine dss_cons (ds_ret (de_and (de_call d_is_count hr (da_cons (de_var 5 rfl (da_cons (de_neg (de_globI c_SPEED ⟨_, rfl, da_cons (de_globI c_SPEED (da_nil ⟨_, _, _, rfl, _, rfl, ?_⟩))⟩))))))))
      cases h5 : cnt p5 (-6) 6 with
      | false => exact fin _ (by simp [runOk, runOk6, cntP, h5])
      | true =>
      refine de_and (de_call d_is_count hr (da_cons (de_var 6 rfl (da_cons (de_neg (de_globI c_SPEED ⟨_, rfl, da_cons (de_globI c_SPEED (da_nil ⟨_, _, _, rfl, _, rfl, ?_⟩))⟩))))))
      cases h6 : cnt p6 (-6) 6 with
      | false => exact fin _ (by simp [runOk, runOk6, cntP, h6])
      | true =>
      refine de_one (de_neD hr.units ?_)
      refine de_tup (da_cons (de_var 5 rfl (da_cons (de_var 6 rfl (da_nil ⟨[_, _], rfl, rfl, ?_⟩)))))
      refine de_tup (da_cons (de_int (da_cons (de_int (da_nil ⟨[_, _], rfl, rfl, ?_⟩)))))
      obtain ⟨a', rfl, _⟩ := cnt_int h5
      obtain ⟨b', rfl, _⟩ := cnt_int h6
      exact ⟨_, _, rfl, rfl, rfl, rfl, fin _ (by simp [runOk, runOk6, cntP, h1, h2, h3, h4, h5, h6])⟩
  | _ => exact dss_cons (ds_ret (de_bl (fin _ rfl)))
end
/-! ### need_run, need_time: nothing is raised -/
structure Run where
  w : Int
  h : Int
  x : Int
  y : Int
  a : Int
  b : Int
abbrev Run.data (r : Run) : PyData := .tuple [.int r.w, .int r.h, .int r.x, .int r.y, .int r.a, .int r.b]
structure Run.Ok (r : Run) : Prop where
  w1 : 1 ≤ r.w
  w2 : r.w ≤ 12
  h1 : 1 ≤ r.h
  h2 : r.h ≤ 12
  x1 : 0 ≤ r.x
  x2 : r.x ≤ r.w
  y1 : 0 ≤ r.y
  y2 : r.y ≤ r.h
  a1 : -6 ≤ r.a
  a2 : r.a ≤ 6
  b1 : -6 ≤ r.b
  b2 : r.b ≤ 6
  ab : ¬ (r.a = 0 ∧ r.b = 0)
theorem eqv_int (i j : Int) : PyData.eqv (.int i) (.int j) = decide (i = j) := by
  show (i == j) = _
  exact Bool.beq_eq_decide_eq i j
theorem eqv_pair (p q p' q' : PyData) : PyData.eqv (.tuple [p, q]) (.tuple [p', q']) = (PyData.eqv p p' && PyData.eqv q q') := by
  show (PyData.eqv p p' && (PyData.eqv q q' && true)) = _
  rw [Bool.and_true]
theorem Run.Ok.run {r : Run} (k : r.Ok) : runOk r.data = true := by
  obtain ⟨h1, h2, h3, h4, h5, h6, h7, h8, h9, h10, h11, h12, h13⟩ := k
  show runOk6 _ _ _ _ _ _ = true
  unfold runOk6 cntP cnt
  rw [eqv_pair, eqv_int, eqv_int]
  simp only [Bool.and_eq_true, decide_eq_true_eq, Bool.not_eq_true', Bool.and_eq_false_imp, decide_eq_false_iff_not]
  refine ⟨⟨⟨⟨⟨⟨⟨h1, h2⟩, ⟨h3, h4⟩⟩, ⟨h5, h6⟩⟩, ⟨h7, h8⟩⟩, ⟨h9, h10⟩⟩, ⟨h11, h12⟩⟩, fun e1 e2 => h13 ⟨e1, e2⟩⟩
section
variable {P : Program} {w : World} {K : PySem.W.Frag} {mg : Str → Option Value} {base : Heap}
def sp_need_run : DSp where
  n := 1
  wp := fun ds M Q => ∃ r : Run, ds = [.d r.data] ∧ r.Ok ∧ Q N0 M
  mono := fun h ⟨a, e, s, q⟩ => ⟨a, e, s, h _ _ q⟩
  len := fun ⟨a, e, s, q⟩ => by rw [e]; rfl
def sp_need_time : DSp where
  n := 1
  wp := fun ds M Q => ∃ n d : Int, ds = [T [.int n, .int d]] ∧ (0 ≤ n ∧ n ≤ 1000000 ∧ 1 ≤ d ∧ d ≤ 1000) ∧ Q N0 M
  mono := fun h ⟨n, d, e, s, q⟩ => ⟨n, d, e, s, h _ _ q⟩
  len := fun ⟨n, d, e, s, q⟩ => by rw [e]; rfl
abbrev s_need_run : Stmt := topS 15
abbrev nm_need_run : List Str := ["value"]
theorem sc_need_run : FnScope nm_need_run ["value"] (defScope s_need_run) := ⟨rfl, rfl, rfl, by decide +kernel, rfl, by decide +kernel, by decide +kernel⟩
theorem ok_need_run {f : Addr} {fd : FuncData} (Fd : Fun K "need_run" "need_run" s_need_run f fd) (hm : mg "need_run" = some (.ref f)) (hb : Binds K fd ["value"] []) (d_is_run : Def P w K mg base "is_run" 2 sp_is_run) : Def P w K mg base "need_run" 3 sp_need_run := by
  refine def_ok Fd sc_need_run hm hb rfl fun cdv A outer s H E hr ds M Q h => ?_
  obtain ⟨r, rfl, k, q⟩ := h
  refine dss_cons (ds_if (dt_not (DT.of_val (de_call d_is_run hr (da_cons (de_var 0 rfl (da_nil ⟨_, rfl, rfl, _, rfl, ?_⟩)))))))
  rw [k.run]
  exact dss_nil (dss_nil q)
abbrev s_need_time : Stmt := topS 16
abbrev nm_need_time : List Str := ["value"]
theorem sc_need_time : FnScope nm_need_time ["value"] (defScope s_need_time) := ⟨rfl, rfl, rfl, by decide +kernel, rfl, by decide +kernel, by decide +kernel⟩
theorem ok_need_time {f : Addr} {fd : FuncData} (Fd : Fun K "need_time" "need_time" s_need_time f fd) (hm : mg "need_time" = some (.ref f)) (hb : Binds K fd ["value"] []) (d_is_count : Def P w K mg base "is_count" 1 sp_is_count) (z_isinstance : mg "isinstance" = none) (z_len : mg "len" = none) (z_tuple : mg "tuple" = none) : Def P w K mg base "need_time" 2 sp_need_time := by
  refine def_ok Fd sc_need_time hm hb rfl fun cdv A outer s H E hr ds M Q h => ?_
  obtain ⟨n, d, rfl, ⟨h1, h2, h3, h4⟩, q⟩ := h
  -- if not isinstance(value, tuple) or len(value) != 2:
  refine dss_cons (ds_if (DW.dt (dw_or (dt_not (DT.of_val (de_isi (Tn := "tuple") (de_var 0 rfl (⟨_, rfl, ⟨_, rfl, ?_⟩⟩)) z_isinstance z_tuple (by decide +kernel) (by decide +kernel)))))))
  rw [isTy_tuple]
  refine dw_or1 (dt_cmpI ci_ne (de_len (da_cons (de_var 0 rfl (da_nil (⟨_, _, rfl, rfl, de_int (⟨_, _, rfl, rfl, ?_⟩)⟩)))) z_len))
  refine dss_nil ?_
  -- if not is_count(value[0], 0, 1000000) or not is_count(value[1], 1, 1000):
  refine dss_cons (ds_if (DW.dt (dw_or (dt_not (DT.of_val (de_call d_is_count (hr.mono (by decide)) (da_cons (de_ixT (de_var 0 rfl (de_int (⟨_, _, _, rfl, rfl, rfl, da_cons (de_int (da_cons (de_int (da_nil ⟨_, _, _, rfl, ⟨_, rfl, ?_⟩⟩))))⟩)))))))))))
  have e1 : cnt (.int n) 0 1000000 = true := by simp [cnt, h1, h2]
  have e2 : cnt (.int d) 1 1000 = true := by simp [cnt, h3, h4]
  rw [e1]
  refine dw_or1 (dt_not (DT.of_val (de_call d_is_count (hr.mono (by decide)) (da_cons (de_ixT (de_var 0 rfl (de_int (⟨_, _, _, rfl, rfl, rfl, da_cons (de_int (da_cons (de_int (da_nil ⟨_, _, _, rfl, ⟨_, rfl, ?_⟩⟩))))⟩))))))))
  rw [e2]
  exact dss_nil (dss_nil q)
/-! ### lowest -/
def sp_lowest : DSp where
  n := 2
  wp := fun ds M Q => ∃ n d : Int, ds = [I n, I d] ∧ (d ≠ 0 ∧ -1000000000 < d ∧ Fit4 d) ∧ Q (.d (fr (rq n d))) M
  mono := fun h ⟨n, d, e, s, q⟩ => ⟨n, d, e, s, h _ _ q⟩
  len := fun ⟨n, d, e, s, q⟩ => by rw [e]; rfl
abbrev s_lowest : Stmt := topS 19
abbrev nm_lowest : List Str := ["numerator", "denominator", "common"]
theorem sc_lowest : FnScope nm_lowest ["numerator", "denominator"] (defScope s_lowest) := ⟨rfl, rfl, rfl, by decide +kernel, rfl, by decide +kernel, by decide +kernel⟩
theorem ok_lowest {f : Addr} {fd : FuncData} (Fd : Fun K "lowest" "lowest" s_lowest f fd) (hm : mg "lowest" = some (.ref f)) (hb : Binds K fd ["numerator", "denominator"] []) (d_common_of : Def P w K mg base "common_of" 1 sp_common_of) : Def P w K mg base "lowest" 2 sp_lowest := by
  refine def_ok Fd sc_lowest hm hb rfl fun cdv A outer s H E hr ds M Q h => ?_
  obtain ⟨n, d, rfl, ⟨h0, h1, h2⟩, q⟩ := h
  have hg : 0 < Int.gcd n d := Int.gcd_pos_iff.mpr (.inr h0)
  have hl : Int.gcd n d ≤ d.natAbs := Nat.le_of_dvd (by omega) (Nat.gcd_dvd_right _ _)
  -- common = common_of(numerator, denominator)
  refine dss_cons (ds_set 2 sc_lowest.nd (de_call d_common_of hr (da_cons (de_var 0 rfl (da_cons (de_var 1 rfl (da_nil ⟨_, _, rfl, ?_⟩)))))))
  -- if denominator < 0:
  refine dss_cons (ds_if (dt_cmpI ci_lt (de_var 1 rfl (de_int (⟨_, _, rfl, rfl, ite2 (fun hi => ?_) (fun hi => ?_)⟩)))))
  · have hi : d < 0 := of_decide_eq_true hi
    -- common = -common
    refine dss_cons (ds_set 2 sc_lowest.nd (de_neg (de_var 2 rfl (⟨_, rfl, ?_⟩))))
    refine dss_nil ?_
    have hc : CDivN n (-(Int.gcd n d : Int)) := by
      unfold CDivN
      omega
    refine dss_cons (ds_ret (de_tup (da_cons (de_divN (de_var 0 rfl (de_var 2 rfl (⟨_, _, rfl, rfl, hc, da_cons (de_divN (de_var 1 rfl (de_var 2 rfl (⟨_, _, rfl, rfl, hc, da_nil (⟨[_, _], rfl, rfl, ?_⟩)⟩))))⟩)))))))
    rw [(low_neg hi).1, (low_neg hi).2]
    exact q
  · have hi : 0 < d := by
      have : ¬ d < 0 := fun z => hi (decide_eq_true z)
      omega
    refine dss_nil ?_
    have hc : ∀ m, CDivW m (Int.gcd n d : Int) := fun m => by
      refine ⟨by omega, ?_⟩
      exact Nat.lt_trans (log_of (n := (Int.gcd n d : Int).natAbs) (Nat.lt_of_le_of_lt (by omega) h2) (by decide)) (by decide)
    -- return (numerator // common, denominator // common)
    refine dss_cons (ds_ret (de_tup (da_cons (de_divW (de_var 0 rfl (de_var 2 rfl (⟨_, _, rfl, rfl, hc _, da_cons (de_divW (de_var 1 rfl (de_var 2 rfl (⟨_, _, rfl, rfl, hc _, da_nil (⟨[_, _], rfl, rfl, ?_⟩)⟩))))⟩)))))))
    rw [(low_pos hi).1, (low_pos hi).2]
    exact q
end
/-! ### data that == tells apart as equality does -/
mutual
def pln : PyData → Bool
  | .none => true
  | .bool _ => false
  | .int _ => true
  | .str x => PyData.canLay0 (.str x)
  | .list xs => plnAll xs
  | .tuple xs => plnAll xs
  | .dict _ => false
def plnAll : List PyData → Bool
  | [] => true
  | x :: xs => pln x && plnAll xs
end
mutual
theorem eqv_self : ∀ d : PyData, pln d = true → PyData.eqv d d = true
  | .none, _ => rfl
  | .bool _, h => by cases h
  | .int i, _ => by show (i == i) = true; exact beq_self_eq_true i
  | .str x, _ => by show (x == x) = true; exact beq_self_eq_true x
  | .list xs, h => eqvAll_self xs h
  | .tuple xs, h => eqvAll_self xs h
  | .dict _, h => by cases h
theorem eqvAll_self : ∀ ds : List PyData, plnAll ds = true → PyData.eqvAll ds ds = true
  | [], _ => rfl
  | x :: xs, h => by
    have h2 : pln x = true ∧ plnAll xs = true := Bool.and_eq_true_iff.mp h
    show (PyData.eqv x x && PyData.eqvAll xs xs) = true
    rw [eqv_self x h2.1, eqvAll_self xs h2.2]
    rfl
end
mutual
theorem eqv_eq : ∀ d e : PyData, pln d = true → pln e = true → PyData.eqv d e = true → d = e
  | .bool _, _, h, _, _ => by cases h
  | .dict _, _, h, _, _ => by cases h
  | d, .bool _, _, h, _ => by cases h
  | d, .dict _, _, h, _ => by cases h
  | .none, .none, _, _, _ => rfl
  | .none, .int _, _, _, h => by cases h
  | .none, .str _, _, _, h => by cases h
  | .none, .list _, _, _, h => by cases h
  | .none, .tuple _, _, _, h => by cases h
  | .int _, .none, _, _, h => by cases h
  | .int i, .int j, _, _, h => by
    have h : (i == j) = true := h
    rw [eq_of_beq h]
  | .int _, .str _, _, _, h => by cases h
  | .int _, .list _, _, _, h => by cases h
  | .int _, .tuple _, _, _, h => by cases h
  | .str _, .none, _, _, h => by cases h
  | .str _, .int _, _, _, h => by cases h
  | .str x, .str y, _, _, h => by
    have h : (x == y) = true := h
    rw [eq_of_beq h]
  | .str _, .list _, _, _, h => by cases h
  | .str _, .tuple _, _, _, h => by cases h
  | .list _, .none, _, _, h => by cases h
  | .list _, .int _, _, _, h => by cases h
  | .list _, .str _, _, _, h => by cases h
  | .list xs, .list ys, h1, h2, h => by
    have h : PyData.eqvAll xs ys = true := h
    rw [eqvAll_eq xs ys h1 h2 h]
  | .list _, .tuple _, _, _, h => by cases h
  | .tuple _, .none, _, _, h => by cases h
  | .tuple _, .int _, _, _, h => by cases h
  | .tuple _, .str _, _, _, h => by cases h
  | .tuple _, .list _, _, _, h => by cases h
  | .tuple xs, .tuple ys, h1, h2, h => by
    have h : PyData.eqvAll xs ys = true := h
    rw [eqvAll_eq xs ys h1 h2 h]
theorem eqvAll_eq : ∀ ds es : List PyData, plnAll ds = true → plnAll es = true → PyData.eqvAll ds es = true → ds = es
  | [], [], _, _, _ => rfl
  | [], _ :: _, _, _, h => by cases h
  | _ :: _, [], _, _, h => by cases h
  | x :: xs, y :: ys, h1, h2, h => by
    have h3 : pln x = true ∧ plnAll xs = true := Bool.and_eq_true_iff.mp h1
    have h4 : pln y = true ∧ plnAll ys = true := Bool.and_eq_true_iff.mp h2
    have h5 : PyData.eqv x y = true ∧ PyData.eqvAll xs ys = true := Bool.and_eq_true_iff.mp h
    rw [eqv_eq x y h3.1 h4.1 h5.1, eqvAll_eq xs ys h3.2 h4.2 h5.2]
end
theorem eqv_dec {d e : PyData} (h1 : pln d = true) (h2 : pln e = true) [Decidable (d = e)] : PyData.eqv d e = decide (d = e) := by
  by_cases h : d = e
  · subst h; rw [decide_eq_true rfl]; exact eqv_self d h1
  · rw [decide_eq_false h]
    cases q : PyData.eqv d e with
    | false => rfl
    | true => exact absurd (eqv_eq d e h1 h2 q) h
/-- plain data, no deeper than k -/
def Shp (k : Nat) (d : PyData) : Prop := pln d = true ∧ d.depth ≤ k
mutual
theorem pln_lay : ∀ d : PyData, pln d = true → d.canLay0 = true
  | .none, _ => rfl
  | .bool _, h => by cases h
  | .int _, _ => rfl
  | .str _, h => h
  | .list xs, h => plnAll_lay xs h
  | .tuple xs, h => plnAll_lay xs h
  | .dict _, h => by cases h
theorem plnAll_lay : ∀ ds : List PyData, plnAll ds = true → PyData.canLayAll0 ds = true
  | [], _ => rfl
  | x :: xs, h => by
    have h2 : pln x = true ∧ plnAll xs = true := Bool.and_eq_true_iff.mp h
    show (PyData.canLay0 x && PyData.canLayAll0 xs) = true
    rw [pln_lay x h2.1, plnAll_lay xs h2.2]
    rfl
end
theorem Shp.shaped {k : Nat} {d : PyData} (h : Shp k d) (hk : k ≤ 64) : SeqAt.shaped d = true := by
  unfold SeqAt.shaped
  rw [pln_lay d h.1, decide_eq_true (Nat.le_trans h.2 hk)]
  rfl
theorem Shp.mono {j k : Nat} {d : PyData} (h : Shp j d) (hk : j ≤ k) : Shp k d := ⟨h.1, Nat.le_trans h.2 hk⟩
theorem shp_all {k : Nat} : ∀ {ds : List PyData}, (∀ d ∈ ds, Shp k d) → plnAll ds = true ∧ PyData.depthAll ds ≤ k
  | [], _ => ⟨rfl, Nat.zero_le _⟩
  | x :: xs, h => by
    have h1 := h x List.mem_cons_self
    have h2 := shp_all (ds := xs) fun d hd => h d (List.mem_cons_of_mem _ hd)
    refine ⟨?_, ?_⟩
    · show (pln x && plnAll xs) = true
      rw [h1.1, h2.1]; rfl
    · show max x.depth (PyData.depthAll xs) ≤ k
      exact Nat.max_le.mpr ⟨h1.2, h2.2⟩
theorem shp_list {k : Nat} {ds : List PyData} (h : ∀ d ∈ ds, Shp k d) : Shp (k + 1) (.list ds) := ⟨(shp_all h).1, Nat.succ_le_succ (shp_all h).2⟩
theorem shp_tup {k : Nat} {ds : List PyData} (h : ∀ d ∈ ds, Shp k d) : Shp (k + 1) (.tuple ds) := ⟨(shp_all h).1, Nat.succ_le_succ (shp_all h).2⟩
theorem shp_int {k : Nat} (i : Int) : Shp k (.int i) := ⟨rfl, Nat.zero_le _⟩
theorem shp_none {k : Nat} : Shp k .none := ⟨rfl, Nat.zero_le _⟩
theorem shp_fr {k : Nat} (q : Rat) : Shp (k + 1) (fr q) := shp_tup fun d hd => by
  rcases List.mem_cons.mp hd with e | hd
  · rw [e]; exact shp_int _
  · rw [List.mem_singleton.mp hd]; exact shp_int _
theorem shp_pair {k : Nat} {p q : PyData} (h1 : Shp k p) (h2 : Shp k q) : Shp (k + 1) (.tuple [p, q]) := shp_tup fun d hd => by
  rcases List.mem_cons.mp hd with e | hd
  · rw [e]; exact h1
  · rw [List.mem_singleton.mp hd]; exact h2
theorem shaped_ints (ns : List Int) : SeqAt.shaped (.list (ns.map .int)) = true := (shp_list (k := 0) fun d hd => by
  obtain ⟨n, _, rfl⟩ := List.mem_map.mp hd
  exact shp_int n).shaped (by decide)
theorem fr_inj {p q : Rat} (h : fr p = fr q) : p = q := by
  unfold fr at h
  injection h with h
  injection h with h1 h2
  injection h2 with h2 _
  injection h1 with h1
  injection h2 with h2
  exact Rat.ext h1 (by omega)
theorem eqv_fr (p q : Rat) : PyData.eqv (fr p) (fr q) = decide (p = q) := by
  cases h : PyData.eqv (fr p) (fr q) with
  | true => rw [fr_inj (eqv_eq _ _ (shp_fr (k := 0) p).1 (shp_fr (k := 0) q).1 h), decide_eq_true rfl]
  | false =>
    refine (decide_eq_false fun e => ?_).symm
    rw [e, eqv_self _ (shp_fr (k := 0) q).1] at h
    cases h
section
variable {P : Program} {w : World} {K : PySem.W.Frag} {mg : Str → Option Value} {base : Heap}
theorem cmul_l {i j : Int} (h1 : -10000000000000000000 < i) (h2 : i < 10000000000000000000) : CMul i j := .inl ⟨by omega, by omega⟩
theorem cmul_r {i j : Int} (h1 : -10000000000000000000 < j) (h2 : j < 10000000000000000000) : CMul i j := .inr ⟨by omega, by omega⟩
/-! ### fold -/
def sp_fold : DSp where
  n := 2
  wp := fun ds M Q => ∃ n d m : Int, ds = [T [.int n, .int d], I m] ∧ (0 < d ∧ Fit d ∧ 0 < m ∧ m < 1000000) ∧ Q (.d (fr (foldQ (rq n d) m))) M
  mono := fun h ⟨n, d, m, e, s, q⟩ => ⟨n, d, m, e, s, h _ _ q⟩
  len := fun ⟨n, d, m, e, s, q⟩ => by rw [e]; rfl
abbrev s_fold : Stmt := topS 22
abbrev nm_fold : List Str := ["value", "side", "rest"]
theorem sc_fold : FnScope nm_fold ["value", "side"] (defScope s_fold) := ⟨rfl, rfl, rfl, by decide +kernel, rfl, by decide +kernel, by decide +kernel⟩
theorem ok_fold {f : Addr} {fd : FuncData} (Fd : Fun K "fold" "fold" s_fold f fd) (hm : mg "fold" = some (.ref f)) (hb : Binds K fd ["value", "side"] []) (d_lowest : Def P w K mg base "lowest" 2 sp_lowest) (z_min : mg "min" = none) : Def P w K mg base "fold" 3 sp_fold := by
  refine def_ok Fd sc_fold hm hb rfl fun cdv A outer s H E hr ds M Q h => ?_
  obtain ⟨n, d, m, rfl, ⟨h1, h2, h3, h4⟩, q⟩ := h
  have p1 : 0 < 2 * m * d := Int.mul_pos (by omega) h1
  have c1 : CMul 2 m := cmul_l (by omega) (by omega)
  have c2 : CMul (2 * m) d := cmul_l (by omega) (by omega)
  -- rest = value[0] % (2 * side * value[1])
  refine dss_cons (ds_set 2 sc_fold.nd (de_mod (de_ixT (de_var 0 rfl (de_int (⟨_, _, _, rfl, rfl, rfl, de_mul (de_mul (de_int (de_var 1 rfl (⟨_, _, rfl, rfl, c1, de_ixT (de_var 0 rfl (de_int (⟨_, _, _, rfl, rfl, rfl, ⟨_, _, rfl, rfl, c2, ⟨_, _, rfl, rfl, p1, ?_⟩⟩⟩)))⟩))))⟩))))))
  -- return lowest(min(rest, 2 * side * value[1] - rest), value[1])
  refine dss_cons (ds_ret (de_call d_lowest (hr.mono (by decide)) (da_cons (de_min2 (da_cons (de_var 2 rfl (da_cons (de_sub (de_mul (de_mul (de_int (de_var 1 rfl (⟨_, _, rfl, rfl, c1, de_ixT (de_var 0 rfl (de_int (⟨_, _, _, rfl, rfl, rfl, ⟨_, _, rfl, rfl, c2, de_var 2 rfl (⟨_, _, rfl, rfl, da_nil (⟨_, _, rfl, da_cons (de_ixT (de_var 0 rfl (de_int (⟨_, _, _, rfl, rfl, rfl, da_nil ⟨_, _, rfl, ⟨by omega, by omega, h2.f4⟩, ?_⟩⟩))))⟩)⟩)⟩⟩)))⟩))))))))) z_min))))
  rw [foldQ_rq n h1 h3] at q
  rw [Int.mul_assoc, foldI_min]
  exact q
/-! ### place_at -/
def posX (r : Run) (t : Rat) : Rat := foldQ (r.x + r.a * t) r.w
def posY (r : Run) (t : Rat) : Rat := foldQ (r.y + r.b * t) r.h
def placeD (r : Run) (t : Rat) : PyData := .tuple [fr (posX r t), fr (posY r t)]
def sp_place_at : DSp where
  n := 2
  wp := fun ds M Q => ∃ (r : Run) (n d : Int), ds = [.d r.data, T [.int n, .int d]] ∧ r.Ok ∧ (0 < d ∧ Fit d) ∧ Q (.d (placeD r (rq n d))) M
  mono := fun h ⟨n, d, m, e, s, s2, q⟩ => ⟨n, d, m, e, s, s2, h _ _ q⟩
  len := fun ⟨n, d, m, e, s, s2, q⟩ => by rw [e]; rfl
theorem lin_rq (x a n : Int) {d : Int} (hd : 0 < d) : rq (x * d + a * n) d = (x : Rat) + a * rq n d := by
  have h0 : (d : Rat) ≠ 0 := Rat.ne_of_gt (Rat.intCast_pos.mpr hd)
  unfold rq
  rw [Rat.intCast_add, Rat.intCast_mul, Rat.intCast_mul]
  grind
abbrev s_place_at : Stmt := topS 23
abbrev nm_place_at : List Str := ["run", "time", "w", "h", "x", "y", "a", "b", "across", "along"]
theorem sc_place_at : FnScope nm_place_at ["run", "time"] (defScope s_place_at) := ⟨rfl, rfl, rfl, by decide +kernel, rfl, by decide +kernel, by decide +kernel⟩
theorem ok_place_at {f : Addr} {fd : FuncData} (Fd : Fun K "place_at" "place_at" s_place_at f fd) (hm : mg "place_at" = some (.ref f)) (hb : Binds K fd ["run", "time"] []) (d_fold : Def P w K mg base "fold" 3 sp_fold) : Def P w K mg base "place_at" 4 sp_place_at := by
  refine def_ok Fd sc_place_at hm hb rfl fun cdv A outer s H E hr ds M Q h => ?_
  obtain ⟨r, n, d, rfl, ⟨w1, w2, h1, h2, x1, x2, y1, y2, a1, a2, b1, b2, ab⟩, ⟨d1, d2⟩, q⟩ := h
  -- w, h, x, y, a, b = run
  refine dss_cons (ds_asg (de_var 0 rfl (dg_tup rfl (dgs_cons (dg_name 2 (dgs_cons (dg_name 3 (dgs_cons (dg_name 4 (dgs_cons (dg_name 5 (dgs_cons (dg_name 6 (dgs_cons (dg_name 7 (dgs_nil (?_)) sc_place_at.nd)) sc_place_at.nd)) sc_place_at.nd)) sc_place_at.nd)) sc_place_at.nd)) sc_place_at.nd)) rfl)))
  -- across = (x * time[1] + a * time[0], time[1])
  refine dss_cons (ds_set 8 sc_place_at.nd (de_tup (da_cons (de_add (de_mul (de_var 4 rfl (de_ixT (de_var 1 rfl (de_int (⟨_, _, _, rfl, rfl, rfl, ⟨_, _, rfl, rfl, ?_, de_mul (de_var 6 rfl (de_ixT (de_var 1 rfl (de_int (⟨_, _, _, rfl, rfl, rfl, ⟨_, _, rfl, rfl, ?_, ⟨_, _, rfl, rfl, da_cons (de_ixT (de_var 1 rfl (de_int (⟨_, _, _, rfl, rfl, rfl, da_nil (⟨[_, _], rfl, rfl, ?_⟩)⟩))))⟩⟩⟩)))))⟩⟩))))))))))
  · exact cmul_l (by omega) (by omega)
  · exact cmul_l (by omega) (by omega)
  -- along = (y * time[1] + b * time[0], time[1])
  refine dss_cons (ds_set 9 sc_place_at.nd (de_tup (da_cons (de_add (de_mul (de_var 5 rfl (de_ixT (de_var 1 rfl (de_int (⟨_, _, _, rfl, rfl, rfl, ⟨_, _, rfl, rfl, ?_, de_mul (de_var 7 rfl (de_ixT (de_var 1 rfl (de_int (⟨_, _, _, rfl, rfl, rfl, ⟨_, _, rfl, rfl, ?_, ⟨_, _, rfl, rfl, da_cons (de_ixT (de_var 1 rfl (de_int (⟨_, _, _, rfl, rfl, rfl, da_nil (⟨[_, _], rfl, rfl, ?_⟩)⟩))))⟩⟩⟩)))))⟩⟩))))))))))
  · exact cmul_l (by omega) (by omega)
  · exact cmul_l (by omega) (by omega)
  -- return (fold(across, w), fold(along, h))
  refine dss_cons (ds_ret (de_tup (da_cons (de_call d_fold (hr.mono (by decide)) (da_cons (de_var 8 rfl (da_cons (de_var 2 rfl (da_nil (⟨_, _, _, rfl, ⟨d1, d2, by omega, by omega⟩, da_cons (de_call d_fold (hr.mono (by decide)) (da_cons (de_var 9 rfl (da_cons (de_var 3 rfl (da_nil (⟨_, _, _, rfl, ⟨d1, d2, by omega, by omega⟩, da_nil (⟨[_, _], rfl, rfl, ?_⟩)⟩)))))))⟩))))))))))
  rw [lin_rq r.x r.a n d1, lin_rq r.y r.b n d1]
  exact q
/-! ### place -/
def sp_place : DSp where
  n := 2
  wp := fun ds M Q => ∃ (r : Run) (n d : Int), ds = [.d r.data, T [.int n, .int d]] ∧ r.Ok ∧ (0 ≤ n ∧ n ≤ 1000000 ∧ 1 ≤ d ∧ d ≤ 1000) ∧ Q (.d (placeD r (rq n d))) M
  mono := fun h ⟨n, d, m, e, s, s2, q⟩ => ⟨n, d, m, e, s, s2, h _ _ q⟩
  len := fun ⟨n, d, m, e, s, s2, q⟩ => by rw [e]; rfl
/-! ### least_multiple -/
def sp_least_multiple : DSp where
  n := 2
  wp := fun ds M Q => ∃ (p q : Rat), ds = [.d (fr p), .d (fr q)] ∧ (0 < p.num ∧ p.num < 1000000 ∧ 0 < q.num ∧ q.num < 1000000 ∧ p.den < 1000000) ∧ Q (.d (fr (lcmQ p q))) M
  mono := fun h ⟨n, m, e, s, q⟩ => ⟨n, m, e, s, h _ _ q⟩
  len := fun ⟨n, m, e, s, q⟩ => by rw [e]; rfl
-- no least_multiple
/-! ### period_of -/
def perX (r : Run) : Rat := rq (2 * r.w) (r.a.natAbs : Int)
def perY (r : Run) : Rat := rq (2 * r.h) (r.b.natAbs : Int)
def perQ (r : Run) : Rat := if r.a = 0 then perY r else if r.b = 0 then perX r else lcmQ (perX r) (perY r)
theorem abs_if (i : Int) : (if i < 0 then -i else i) = (i.natAbs : Int) := by split <;> omega
theorem rq_pos {n d : Int} (hn : 0 < n) (hd : 0 < d) : 0 < (rq n d).num ∧ (rq n d).num ≤ n ∧ ((rq n d).den : Int) ≤ d := by
  have h := low_pos (n := n) hd
  have hg : 0 < Int.gcd n d := Int.gcd_pos_iff.mpr (.inr (by omega))
  have h1 : (Int.gcd n d : Int) ∣ n := Int.gcd_dvd_left ..
  rw [← h.1, ← h.2]
  refine ⟨?_, Int.ediv_le_self _ (by omega), Int.ediv_le_self _ (by omega)⟩
  exact Int.ediv_pos_of_pos_of_dvd hn (by omega) h1
def sp_period_of : DSp where
  n := 1
  wp := fun ds M Q => ∃ (r : Run), ds = [.d r.data] ∧ r.Ok ∧ Q (.d (fr (perQ r))) M
  mono := fun h ⟨n, e, s, q⟩ => ⟨n, e, s, h _ _ q⟩
  len := fun ⟨n, e, s, q⟩ => by rw [e]; rfl
-- no period_of
def sp_period : DSp where
  n := 1
  wp := fun ds M Q => ∃ (r : Run), ds = [.d r.data] ∧ r.Ok ∧ Q (.d (fr (perQ r))) M
  mono := fun h ⟨n, e, s, q⟩ => ⟨n, e, s, h _ _ q⟩
  len := fun ⟨n, e, s, q⟩ => by rw [e]; rfl
end
section
variable {P : Program} {w : World} {K : PySem.W.Frag} {mg : Str → Option Value} {base : Heap}
/-- the town: two numbers that are not negative, at t -/
def Twn (M0 : Mem) (t : Addr) (M : Mem) : Prop := ∃ p r : Int, M = updM M0 t (.lst [.int p, .int r]) ∧ 0 ≤ p ∧ 0 ≤ r
def sp__law_draw : DSp where
  n := 3
  wp := fun ds M Q => ∃ (ns : List Int) (t : Addr) (many : Int) (M0 : Mem), ds = [L (ns.map .int), .o t, I many] ∧ (Twn M0 t M ∧ ns.length ≤ 63 ∧ 0 < many ∧ many < 1000000000) ∧ ∀ v M', Twn M0 t M' → 0 ≤ v → v < many → Q (I v) M'
  mono := fun h ⟨a, b, c, d, e, s, q⟩ => ⟨a, b, c, d, e, s, fun v M' h1 h2 h3 => h _ _ (q v M' h1 h2 h3)⟩
  len := fun ⟨a, b, c, d, e, s, q⟩ => by rw [e]; rfl
theorem at_map {ns : List Int} {i : Int} (h0 : 0 ≤ i) (h1 : i < ns.length) : atI (ns.map PyData.int) i = some (.int (ns.getD i.toNat 0)) := by
  have h : i.toNat < ns.length := by omega
  have e : i = ((i.toNat : Nat) : Int) := by omega
  rw [e]
  refine atI_nat ?_
  simp only [Int.toNat_natCast, List.getElem?_map, List.getD_eq_getElem?_getD]
  rw [List.getElem?_eq_getElem h]
  rfl
theorem eqv_nil (ns : List Int) : PyData.eqv (.list (ns.map .int)) (.list []) = decide (ns = []) := by
  cases ns with
  | nil => rfl
  | cons n ns => rfl
abbrev s__law_draw : Stmt := topS 30
abbrev nm__law_draw : List Str := ["_law_script", "_law_town", "_law_many", "_law_one", "_law_at", "_law_mixed"]
theorem sc__law_draw : FnScope nm__law_draw ["_law_script", "_law_town", "_law_many"] (defScope s__law_draw) := ⟨rfl, rfl, rfl, by decide +kernel, rfl, by decide +kernel, by decide +kernel⟩
theorem ok__law_draw {f : Addr} {fd : FuncData} (Fd : Fun K "_law_draw" "_law_draw" s__law_draw f fd) (hm : mg "_law_draw" = some (.ref f)) (hb : Binds K fd ["_law_script", "_law_town", "_law_many"] []) (z_len : mg "len" = none) : Def P w K mg base "_law_draw" 1 sp__law_draw := by
  refine def_ok Fd sc__law_draw hm hb rfl fun cdv A outer s H E hr ds M Q h => ?_
  obtain ⟨ns, t, many, M0, rfl, ⟨⟨p, r, rfl, hp, hr0⟩, hn, hm1, hm2⟩, q⟩ := h
  have cd : ∀ i : Int, CDiv i many := fun i => ⟨hm1, by omega⟩
  have hM : updM M0 t (.lst [.int p, .int r]) t = some (.lst [.int p, .int r]) := updM_same
  have m1 : ∀ i : Int, 0 ≤ i % many := fun i => Int.emod_nonneg _ (by omega)
  have m2 : ∀ i : Int, i % many < many := fun i => Int.emod_lt_of_pos _ hm1
  -- if _law_town[1] > 0:
  refine dss_cons (ds_if (dt_cmpI ci_gt (de_ixO (de_var 1 rfl (de_int (⟨_, _, _, _, rfl, hM, rfl, rfl, de_int (⟨_, _, rfl, rfl, ite2 (fun hi => ?_) (fun hi => ?_)⟩)⟩))))))
  · have hi : 0 < r := of_decide_eq_true hi
    -- _law_one = _law_town[1] % _law_many
    refine dss_cons (ds_set 3 sc__law_draw.nd (de_mod (de_ixO (de_var 1 rfl (de_int (⟨_, _, _, _, rfl, hM, rfl, rfl, de_var 2 rfl (⟨_, _, rfl, rfl, hm1, ?_⟩)⟩))))))
    -- _law_town[1] = _law_town[1] // _law_many
    refine dss_cons (ds_asg (de_div (de_ixO (de_var 1 rfl (de_int (⟨_, _, _, _, rfl, hM, rfl, rfl, de_var 2 rfl (⟨_, _, rfl, rfl, cd _, dg_setO (de_var 1 rfl (de_int (⟨_, _, _, _, rfl, hM, rfl, rfl, ?_⟩)))⟩)⟩))))))
    -- return _law_one
    refine dss_cons (ds_ret (de_var 3 rfl (q _ _ ?_ (m1 _) (m2 _))))
    exact ⟨p, r / many, updM_upd, hp, Int.ediv_nonneg hr0 (by omega)⟩
  refine dss_nil ?_
  -- _law_at = _law_town[0]
  refine dss_cons (ds_set 4 sc__law_draw.nd (de_ixO (de_var 1 rfl (de_int (⟨_, _, _, _, rfl, hM, rfl, rfl, ?_⟩)))))
  -- _law_town[0] += 1
  refine dss_cons (ds_augO ip_add (de_var 1 rfl (de_int (⟨_, _, _, _, rfl, hM, rfl, by decide, rfl, de_int (⟨_, _, _, hM, rfl, rfl, ?_⟩)⟩))))
  have tw : ∀ r', 0 ≤ r' → Twn M0 t (updM (updM M0 t (.lst [.int p, .int r])) t (.lst [.int (p + 1), .int r'])) := fun r' h => ⟨p + 1, r', updM_upd, by omega, h⟩
  -- if _law_script == []:
  refine dss_cons (ds_if (dt_eqD hr.units (de_var 0 rfl (de_lstD (da_nil (⟨[], rfl, rfl, ⟨_, _, rfl, rfl, shaped_ints ns, rfl, ite2 (fun hi => ?_) (fun hi => ?_)⟩⟩))))))
  · -- return _law_at % _law_many
    refine dss_cons (ds_ret (de_mod (de_var 4 rfl (de_var 2 rfl (⟨_, _, rfl, rfl, hm1, q _ _ (tw r hr0) (m1 _) (m2 _)⟩)))))
  have hne : 0 < ns.length := by
    rw [eqv_nil] at hi
    rcases Nat.eq_zero_or_pos ns.length with e | e
    · exact absurd (decide_eq_true (List.length_eq_zero_iff.mp e)) hi
    · exact e
  refine dss_nil ?_
  have hl : (ns.map PyData.int).length = ns.length := List.length_map _
  -- if _law_at < len(_law_script) and _law_script[_law_at] >= 10 ** 18:
  refine dss_cut (fun ρ' M' => ρ' = [some (L (ns.map .int)), some (.o t), some (I many), none, some (I p), none] ∧ Twn M0 t M') (ds_if (DW.dt (dw_and (dt_cmpI ci_lt (de_var 4 rfl (de_len (da_cons (de_var 0 rfl (da_nil (⟨_, _, rfl, rfl, ⟨_, _, rfl, rfl, ite2 (fun hb => dw_and1 (dt_cmpI ci_ge (de_ixL (de_var 0 rfl (de_var 4 rfl (⟨_, _, _, rfl, rfl, at_map hp ?_, de_pow (de_int (de_int (⟨_, _, rfl, rfl, ?_, ⟨_, _, rfl, rfl, ite2 (fun hi => ?_) (fun hi => ?_)⟩⟩)))⟩)))))) (fun hb => iteF ?_)⟩⟩)))) z_len)))))) ?_
  · have := of_decide_eq_true hb; rw [hl] at this; exact this
  · exact ⟨by decide, by decide, by decide⟩
  · have hb := of_decide_eq_true hb
    rw [hl] at hb
    -- _law_town[1] = _law_script[_law_at] // _law_many % (10 ** 60 * 10 ** 60)
    refine dss_cons (ds_asg (de_mod (de_div (de_ixL (de_var 0 rfl (de_var 4 rfl (⟨_, _, _, rfl, rfl, at_map hp hb, de_var 2 rfl (⟨_, _, rfl, rfl, cd _, de_mulW (de_pow (de_int (de_int (⟨_, _, rfl, rfl, ?_, de_pow (de_int (de_int (⟨_, _, rfl, rfl, ?_, ⟨_, _, rfl, rfl, ?_, ⟨_, _, rfl, rfl, ?_, dg_setO (de_var 1 rfl (de_int (⟨_, _, _, _, rfl, updM_same, rfl, rfl, ?_⟩)))⟩⟩⟩)))⟩))))⟩)⟩)))))))
    · exact ⟨by decide, by decide, by decide⟩
    · exact ⟨by decide, by decide, by decide⟩
    · exact wide_mul (a := 300) (b := 300) (by decide +kernel) (by decide +kernel) (by decide) (by decide) (by decide)
    · decide +kernel
    -- return _law_script[_law_at] % _law_many
    refine dss_cons (ds_ret (de_mod (de_ixL (de_var 0 rfl (de_var 4 rfl (⟨_, _, _, rfl, rfl, at_map hp hb, de_var 2 rfl (⟨_, _, rfl, rfl, hm1, q _ _ ?_ (m1 _) (m2 _)⟩)⟩))))))
    exact ⟨p + 1, _, by rw [updM_upd, updM_upd]; rfl, by omega, Int.emod_nonneg _ (by decide +kernel)⟩
  · exact dss_nil ⟨rfl, tw r hr0⟩
  · exact dss_nil ⟨rfl, tw r hr0⟩
  rintro ρ' M' ⟨rfl, tw⟩
  have i1 := Int.emod_nonneg p (show (ns.length : Int) ≠ 0 by omega)
  have i2 := Int.emod_lt_of_pos p (show (0 : Int) < ns.length by omega)
  have l2 : lenOf M' (L (ns.map .int)) = some ns.length := congrArg some hl
  -- _law_mixed = (_law_script[_law_at % len(_law_script)] * 1103515245 + 7919 * _law_at + 12345) % 2147483647
  refine dss_cons (ds_set 5 sc__law_draw.nd (de_mod (de_add (de_add (de_mul (de_ixL (de_var 0 rfl (de_mod (de_var 4 rfl (de_len (da_cons (de_var 0 rfl (da_nil (⟨_, _, rfl, l2, ⟨_, _, rfl, rfl, ?_, ⟨_, _, _, rfl, rfl, at_map i1 i2, de_int (⟨_, _, rfl, rfl, ?_, de_mul (de_int (de_var 4 rfl (⟨_, _, rfl, rfl, ?_, ⟨_, _, rfl, rfl, de_int (⟨_, _, rfl, rfl, de_int (⟨_, _, rfl, rfl, ?_, ?_⟩)⟩)⟩⟩)))⟩)⟩⟩⟩)))) z_len))))))))))
  · omega
  · exact cmul_r (by decide) (by decide)
  · exact cmul_l (by decide) (by decide)
  · decide
  -- return _law_mixed ** 5 % 2147483647 % 999983 % _law_many
  refine dss_cons (ds_ret (de_mod (de_mod (de_mod (de_pow (de_var 5 rfl (de_int (⟨_, _, rfl, rfl, ?_, de_int (⟨_, _, rfl, rfl, ?_, de_int (⟨_, _, rfl, rfl, ?_, de_var 2 rfl (⟨_, _, rfl, rfl, ?_, ?_⟩)⟩)⟩)⟩))))))))
  · refine ⟨by decide, by decide, ?_⟩
    have h1 := Int.emod_nonneg (ns.getD (p % ↑ns.length).toNat 0 * 1103515245 + 7919 * p + 12345) (show (2147483647 : Int) ≠ 0 by decide)
    have h2 := Int.emod_lt_of_pos (ns.getD (p % ↑ns.length).toNat 0 * 1103515245 + 7919 * p + 12345) (show (0 : Int) < 2147483647 by decide)
    exact Nat.lt_of_lt_of_le (m := 2147483647) (by omega) (by decide)
  · decide
  · decide
  · exact hm1
  · exact q _ _ tw (m1 _) (m2 _)
end
section
variable {P : Program} {w : World} {K : PySem.W.Frag} {mg : Str → Option Value} {base : Heap}
/-! ### _law_gcd, _law_low -/
def sp__law_gcd : DSp := sp_common_of
def sp__law_low : DSp := sp_lowest
abbrev s__law_gcd : Stmt := topS 33
abbrev nm__law_gcd : List Str := ["_law_one", "_law_two"]
theorem sc__law_gcd : FnScope nm__law_gcd ["_law_one", "_law_two"] (defScope s__law_gcd) := ⟨rfl, rfl, rfl, by decide +kernel, rfl, by decide +kernel, by decide +kernel⟩
theorem ok__law_gcd {f : Addr} {fd : FuncData} (Fd : Fun K "_law_gcd" "_law_gcd" s__law_gcd f fd) (hm : mg "_law_gcd" = some (.ref f)) (hb : Binds K fd ["_law_one", "_law_two"] []) (z_abs : mg "abs" = none) : Def P w K mg base "_law_gcd" 1 sp__law_gcd := by
  refine def_ok Fd sc__law_gcd hm hb rfl fun cdv A outer s H E hr ds M Q h => ?_
  obtain ⟨a, b, rfl, q⟩ := h
  -- one, two = (abs(one), abs(two))
  refine dss_cons ?_
  refine ds_par 0 1 sc__law_gcd.nd ?_
  refine da_cons ?_
  refine de_abs ?_ z_abs
  refine da_cons ?_
  refine de_var 0 rfl ?_  -- one
  refine da_nil ?_
  refine ⟨_, rfl, ?_⟩
  refine da_cons ?_
  refine de_abs ?_ z_abs
  refine da_cons ?_
  refine de_var 1 rfl ?_  -- two
  refine da_nil ?_
  refine ⟨_, rfl, ?_⟩
  refine da_nil ?_
  refine ⟨_, _, rfl, ?_⟩
  -- while two > 0:
  refine dss_cut (fun ρ' M' => ∃ x y : Int, ρ' = [some (I x), some (I y)] ∧ M' = M ∧ x = Int.gcd a b) ?_ ?_
  · refine ds_while (fun m ρ' M' => ∃ x y : Int, ρ' = [some (I x), some (I y)] ∧ M' = M ∧ 0 ≤ x ∧ 0 ≤ y ∧ Int.gcd x y = Int.gcd a b ∧ m = y.toNat) _ ⟨_, _, rfl, rfl, ?_, ?_, ?_, rfl⟩ fun m ρ' M' hW => ?_
    · split <;> omega
    · split <;> omega
    · rw [show (if a < 0 then -a else a) = (a.natAbs : Int) by split <;> omega, show (if b < 0 then -b else b) = (b.natAbs : Int) by split <;> omega]
      simp [Int.gcd]
    · obtain ⟨x, y, rfl, rfl, hx, hy, hg, rfl⟩ := hW
      refine dt_cmpI ci_gt ?_  -- or dt_neD hr.units: two > 0
      refine de_var 1 rfl ?_  -- two
      refine de_int ?_  -- 0
      refine ⟨_, _, rfl, rfl, ?_⟩
      refine ite2 (fun hI => ?_) (fun hI => ?_)
      · have hI : 0 < y := of_decide_eq_true hI
        -- one, two = (two, one % two)
        refine dss_cons ?_
        refine ds_par 0 1 sc__law_gcd.nd ?_
        refine da_cons ?_
        refine de_var 1 rfl ?_  -- two
        refine da_cons ?_
        refine de_mod ?_
        refine de_var 0 rfl ?_  -- one
        refine de_var 1 rfl ?_  -- two
        refine ⟨_, _, rfl, rfl, hI, ?_⟩  -- one % two
        refine da_nil ?_
        refine ⟨_, _, rfl, ?_⟩
        refine dss_nil ?_
        have h1 := Int.emod_nonneg x (show y ≠ 0 by omega)
        have h2 := Int.emod_lt_of_pos x hI
        exact ⟨(x % y).toNat, by omega, y, x % y, rfl, rfl, hy, h1, by rw [gcd_turn, hg], rfl⟩
      · have hI : ¬ 0 < y := fun z => hI (decide_eq_true z)
        have e : y = 0 := by omega
        subst e
        refine ⟨x, 0, rfl, rfl, ?_⟩
        rw [← hg, Int.gcd_zero_right]
        omega
  rintro ρ' M' ⟨x, y, rfl, rfl, rfl⟩
  -- return one
  refine dss_cons ?_
  refine ds_ret ?_
  refine de_var 0 rfl ?_  -- one
  exact q
abbrev s__law_low : Stmt := topS 34
abbrev nm__law_low : List Str := ["_law_top", "_law_bottom", "_law_common"]
theorem sc__law_low : FnScope nm__law_low ["_law_top", "_law_bottom"] (defScope s__law_low) := ⟨rfl, rfl, rfl, by decide +kernel, rfl, by decide +kernel, by decide +kernel⟩
theorem ok__law_low {f : Addr} {fd : FuncData} (Fd : Fun K "_law_low" "_law_low" s__law_low f fd) (hm : mg "_law_low" = some (.ref f)) (hb : Binds K fd ["_law_top", "_law_bottom"] []) (d__law_gcd : Def P w K mg base "_law_gcd" 1 sp__law_gcd) : Def P w K mg base "_law_low" 2 sp__law_low := by
  refine def_ok Fd sc__law_low hm hb rfl fun cdv A outer s H E hr ds M Q h => ?_
  obtain ⟨n, d, rfl, ⟨h0, h1, h2⟩, q⟩ := h
  have hg : 0 < Int.gcd n d := Int.gcd_pos_iff.mpr (.inr h0)
  have hl : Int.gcd n d ≤ d.natAbs := Nat.le_of_dvd (by omega) (Nat.gcd_dvd_right _ _)
  -- common = _law_gcd(numerator, denominator)
  refine dss_cons (ds_set 2 sc__law_low.nd (de_call d__law_gcd hr (da_cons (de_var 0 rfl (da_cons (de_var 1 rfl (da_nil ⟨_, _, rfl, ?_⟩)))))))
  -- if denominator < 0:
  refine dss_cons (ds_if (dt_cmpI ci_lt (de_var 1 rfl (de_int (⟨_, _, rfl, rfl, ite2 (fun hi => ?_) (fun hi => ?_)⟩)))))
  · have hi : d < 0 := of_decide_eq_true hi
    -- common = -common
    refine dss_cons (ds_set 2 sc__law_low.nd (de_neg (de_var 2 rfl (⟨_, rfl, ?_⟩))))
    refine dss_nil ?_
    have hc : CDivN n (-(Int.gcd n d : Int)) := by
      unfold CDivN
      omega
    refine dss_cons (ds_ret (de_tup (da_cons (de_divN (de_var 0 rfl (de_var 2 rfl (⟨_, _, rfl, rfl, hc, da_cons (de_divN (de_var 1 rfl (de_var 2 rfl (⟨_, _, rfl, rfl, hc, da_nil (⟨[_, _], rfl, rfl, ?_⟩)⟩))))⟩)))))))
    rw [(low_neg hi).1, (low_neg hi).2]
    exact q
  · have hi : 0 < d := by
      have : ¬ d < 0 := fun z => hi (decide_eq_true z)
      omega
    refine dss_nil ?_
    have hc : ∀ m, CDivW m (Int.gcd n d : Int) := fun m => by
      refine ⟨by omega, ?_⟩
      exact Nat.lt_trans (log_of (n := (Int.gcd n d : Int).natAbs) (Nat.lt_of_le_of_lt (by omega) h2) (by decide)) (by decide)
    -- return (numerator // common, denominator // common)
    refine dss_cons (ds_ret (de_tup (da_cons (de_divW (de_var 0 rfl (de_var 2 rfl (⟨_, _, rfl, rfl, hc _, da_cons (de_divW (de_var 1 rfl (de_var 2 rfl (⟨_, _, rfl, rfl, hc _, da_nil (⟨[_, _], rfl, rfl, ?_⟩)⟩))))⟩)))))))
    rw [(low_pos hi).1, (low_pos hi).2]
    exact q
/-! ### _law_run -/
def sp__law_run : DSp where
  n := 4
  wp := fun ds M Q => ∃ (ns : List Int) (t : Addr) (side speed : Int) (M0 : Mem), ds = [L (ns.map .int), .o t, I side, I speed] ∧ (Twn M0 t M ∧ ns.length ≤ 63 ∧ 0 < side ∧ side ≤ 12 ∧ 0 < speed ∧ speed ≤ 6) ∧
    ∀ (r : Run) M', Twn M0 t M' → r.Ok → (r.w ≤ side ∧ r.h ≤ side ∧ -speed ≤ r.a ∧ r.a ≤ speed ∧ -speed ≤ r.b ∧ r.b ≤ speed) → Q (.d r.data) M'
  mono := fun h ⟨a, b, c, d, f, e, s, q⟩ => ⟨a, b, c, d, f, e, s, fun v M' h1 h2 h3 => h _ _ (q v M' h1 h2 h3)⟩
  len := fun ⟨a, b, c, d, f, e, s, q⟩ => by rw [e]; rfl
abbrev s__law_run : Stmt := topS 32
abbrev nm__law_run : List Str := ["_law_script", "_law_town", "_law_side", "_law_speed", "_law_w", "_law_h", "_law_a", "_law_b"]
theorem sc__law_run : FnScope nm__law_run ["_law_script", "_law_town", "_law_side", "_law_speed"] (defScope s__law_run) := ⟨rfl, rfl, rfl, by decide +kernel, rfl, by decide +kernel, by decide +kernel⟩
theorem ok__law_run {f : Addr} {fd : FuncData} (Fd : Fun K "_law_run" "_law_run" s__law_run f fd) (hm : mg "_law_run" = some (.ref f)) (hb : Binds K fd ["_law_script", "_law_town", "_law_side", "_law_speed"] []) (d__law_draw : Def P w K mg base "_law_draw" 1 sp__law_draw) : Def P w K mg base "_law_run" 2 sp__law_run := by
  refine def_ok Fd sc__law_run hm hb rfl fun cdv A outer s H E hr ds M Q h => ?_
  obtain ⟨ns, t, side, speed, M0, rfl, ⟨tw, hn, h1, h2, h3, h4⟩, q⟩ := h
  -- _law_w, _law_h
  refine dss_cons (ds_par 4 5 sc__law_run.nd (da_cons (de_add (de_int (de_call d__law_draw (hr.mono (by decide)) (da_cons (de_var 0 rfl (da_cons (de_var 1 rfl (da_cons (de_var 2 rfl (da_nil (⟨_, _, _, M0, rfl, ⟨by assumption, hn, by omega, by omega⟩, fun v1 M1 tw1 v10 v11 => ⟨_, _, rfl, rfl, da_cons (de_add (de_int (de_call d__law_draw (hr.mono (by decide)) (da_cons (de_var 0 rfl (da_cons (de_var 1 rfl (da_cons (de_var 2 rfl (da_nil (⟨_, _, _, M0, rfl, ⟨by assumption, hn, by omega, by omega⟩, fun v2 M2 tw2 v20 v21 => ⟨_, _, rfl, rfl, da_nil (⟨_, _, rfl, ?_⟩)⟩⟩)))))))))))⟩⟩)))))))))))))
  -- _law_a, _law_b
  refine dss_cons (ds_par 6 7 sc__law_run.nd (da_cons (de_sub (de_call d__law_draw (hr.mono (by decide)) (da_cons (de_var 0 rfl (da_cons (de_var 1 rfl (da_cons (de_add (de_mul (de_int (de_var 3 rfl (⟨_, _, rfl, rfl, cmul_l (by omega) (by omega), de_int (⟨_, _, rfl, rfl, da_nil (⟨_, _, _, M0, rfl, ⟨by assumption, hn, by omega, by omega⟩, fun v3 M3 tw3 v30 v31 => de_var 3 rfl (⟨_, _, rfl, rfl, da_cons (de_sub (de_call d__law_draw (hr.mono (by decide)) (da_cons (de_var 0 rfl (da_cons (de_var 1 rfl (da_cons (de_add (de_mul (de_int (de_var 3 rfl (⟨_, _, rfl, rfl, cmul_l (by omega) (by omega), de_int (⟨_, _, rfl, rfl, da_nil (⟨_, _, _, M0, rfl, ⟨by assumption, hn, by omega, by omega⟩, fun v4 M4 tw4 v40 v41 => de_var 3 rfl (⟨_, _, rfl, rfl, da_nil (⟨_, _, rfl, ?_⟩)⟩)⟩)⟩)⟩))))))))))))⟩)⟩)⟩)⟩))))))))))))))
  -- if _law_a == 0 and _law_b == 0:
  refine dss_cut (fun ρ' M' => M' = M4 ∧ ∃ b : Int, (-speed ≤ b ∧ b ≤ speed) ∧ ¬ (v3 - speed = 0 ∧ b = 0) ∧ ρ' = [some (L (ns.map .int)), some (.o t), some (I side), some (I speed), some (I (1 + v1)), some (I (1 + v2)), some (I (v3 - speed)), some (I b)]) (ds_if (DW.dt (dw_and (dt_cmpI ci_eq (de_var 6 rfl (de_int (⟨_, _, rfl, rfl, ite2 (fun hb => dw_and1 (dt_cmpI ci_eq (de_var 7 rfl (de_int (⟨_, _, rfl, rfl, ite2 (fun hi => ?_) (fun hi => ?_)⟩))))) (fun hb => iteF ?_)⟩))))))) ?_
  · -- _law_b = 1
    refine dss_cons (ds_set 7 sc__law_run.nd (de_int (dss_nil ⟨rfl, 1, by omega, by omega, rfl⟩)))
  · exact dss_nil ⟨rfl, v4 - speed, by omega, fun z => hi (decide_eq_true z.2), rfl⟩
  · exact dss_nil ⟨rfl, v4 - speed, by omega, fun z => hb (decide_eq_true z.1), rfl⟩
  rintro ρ' M' ⟨rfl, b, hb, hab, rfl⟩
  -- return ..
  refine dss_cons (ds_ret (de_tup (da_cons (de_var 4 rfl (da_cons (de_var 5 rfl (da_cons (de_call d__law_draw (hr.mono (by decide)) (da_cons (de_var 0 rfl (da_cons (de_var 1 rfl (da_cons (de_add (de_var 4 rfl (de_int (⟨_, _, rfl, rfl, da_nil (⟨_, _, _, M0, rfl, ⟨by assumption, hn, by omega, by omega⟩, fun v5 M5 tw5 v50 v51 => da_cons (de_call d__law_draw (hr.mono (by decide)) (da_cons (de_var 0 rfl (da_cons (de_var 1 rfl (da_cons (de_add (de_var 5 rfl (de_int (⟨_, _, rfl, rfl, da_nil (⟨_, _, _, M0, rfl, ⟨by assumption, hn, by omega, by omega⟩, fun v6 M6 tw6 v60 v61 => da_cons (de_var 6 rfl (da_cons (de_var 7 rfl (da_nil (⟨[_, _, _, _, _, _], rfl, rfl, ?_⟩)))))⟩)⟩))))))))))⟩)⟩)))))))))))))))))
  exact q ⟨1 + v1, 1 + v2, v5, v6, v3 - speed, b⟩ M6 tw6 ⟨by show 1 ≤ 1 + v1; omega, by show 1 + v1 ≤ 12; omega, by show 1 ≤ 1 + v2; omega, by show 1 + v2 ≤ 12; omega, v50, by show v5 ≤ 1 + v1; omega, v60, by show v6 ≤ 1 + v2; omega, by show -6 ≤ v3 - speed; omega, by show v3 - speed ≤ 6; omega, by show -6 ≤ b; omega, by show b ≤ 6; omega, hab⟩ ⟨by show 1 + v1 ≤ side; omega, by show 1 + v2 ≤ side; omega, by show -speed ≤ v3 - speed; omega, by show v3 - speed ≤ speed; omega, hb.1, hb.2⟩
/-! ### _law_unit -/
def unitN (ns : List Int) : Nat := ns.foldl (fun u n => if n = 0 then u else Nat.lcm u n.natAbs) 1
def sp__law_unit : DSp where
  n := 1
  wp := fun ds M Q => ∃ (ns : List Int), ds = [T (ns.map .int)] ∧ (∀ n ∈ ns, -1000000 < n ∧ n < 1000000) ∧ Q (I (unitN ns)) M
  mono := fun h ⟨a, e, s, q⟩ => ⟨a, e, s, h _ _ q⟩
  len := fun ⟨a, e, s, q⟩ => by rw [e]; rfl
theorem unit_step (u : Nat) {n : Int} (h : n ≠ 0) : (u : Int) * (n.natAbs : Int) / (Int.gcd u n : Int) = ((Nat.lcm u n.natAbs : Nat) : Int) := by
  unfold Nat.lcm
  rw [Int.natCast_ediv, Int.natCast_mul]
  rfl
end
/-! ### _law_walk -/
def axStep (W : Int) (s : Int × Int) : Int × Int := (s.1 + s.2, if s.2 ≠ 0 ∧ (s.1 + s.2 = 0 ∨ s.1 + s.2 = W) then (if s.1 + s.2 = 0 then (s.2.natAbs : Int) else -(s.2.natAbs : Int)) else s.2)
def axName (W : Int) (s : Int × Int) (l r : Str) : Str := if s.2 ≠ 0 ∧ (s.1 + s.2 = 0 ∨ s.1 + s.2 = W) then (if s.1 + s.2 = 0 then l else r) else ""
def axInit (W X A : Int) : Int × Int := (X, if X = 0 then (A.natAbs : Int) else if X = W then -(A.natAbs : Int) else A)
def axAt (W X A : Int) : Nat → Int × Int
  | 0 => axInit W X A
  | k + 1 => axStep W (axAt W X A k)
def wX (r : Run) (u : Int) (k : Nat) : Int × Int := axAt (r.w * u) (r.x * u) r.a k
def wY (r : Run) (u : Int) (k : Nat) : Int × Int := axAt (r.h * u) (r.y * u) r.b k
/-- the walls hit at tick k + 1 -/
def wName (r : Run) (u : Int) (k : Nat) : Str := axName (r.w * u) (wX r u k) "L" "R" ++ axName (r.h * u) (wY r u k) "B" "T"
def wSpot (r : Run) (u : Int) (k : Nat) : PyData := .tuple [.int (wX r u k).1, .int (wY r u k).1]
def wWay (r : Run) (u : Int) (k : Nat) : PyData := .tuple [.int (wX r u k).2, .int (wY r u k).2]
def wShut (r : Run) (u : Int) (k : Nat) : Option PyData := if wName r u k = "" then none else some (.tuple [.int (1 + (k : Int)), .str (wName r u k)])
def wSpots (r : Run) (u : Int) (n : Nat) : List PyData := (List.range (n + 1)).map (wSpot r u)
def wWays (r : Run) (u : Int) (n : Nat) : List PyData := (List.range (n + 1)).map (wWay r u)
def wShuts (r : Run) (u : Int) (n : Nat) : List PyData := (List.range n).filterMap (wShut r u)
def walkD (r : Run) (u : Int) (n : Nat) : PyData := .tuple [.list (wSpots r u n), .list (wWays r u n), .list (wShuts r u n)]
theorem wSpots_succ (r : Run) (u : Int) (n : Nat) : wSpots r u (n + 1) = wSpots r u n ++ [wSpot r u (n + 1)] := by
  unfold wSpots; rw [List.range_succ (n := n + 1), List.map_append]; rfl
theorem wWays_succ (r : Run) (u : Int) (n : Nat) : wWays r u (n + 1) = wWays r u n ++ [wWay r u (n + 1)] := by
  unfold wWays; rw [List.range_succ (n := n + 1), List.map_append]; rfl
theorem wShuts_succ (r : Run) (u : Int) (n : Nat) : wShuts r u (n + 1) = wShuts r u n ++ (wShut r u n).toList := by
  unfold wShuts; rw [List.range_succ, List.filterMap_append]
  cases e : wShut r u n <;> simp [e]
theorem wShuts_len (r : Run) (u : Int) (n : Nat) : (wShuts r u n).length ≤ n := by
  unfold wShuts
  refine Nat.le_trans (List.length_filterMap_le _ _) ?_
  rw [List.length_range]
  exact Nat.le_refl _
theorem wSpots_len (r : Run) (u : Int) (n : Nat) : (wSpots r u n).length = n + 1 := by unfold wSpots; rw [List.length_map, List.length_range]
theorem wWays_len (r : Run) (u : Int) (n : Nat) : (wWays r u n).length = n + 1 := by unfold wWays; rw [List.length_map, List.length_range]
theorem str_nil (x : Str) : ("" : Str) ++ x = x := by
  cases x with
  | mk c => show (⟨#[] ++ c⟩ : Str) = ⟨c⟩; rw [Array.empty_append]
theorem str_nil' (x : Str) : x ++ ("" : Str) = x := by
  cases x with
  | mk c => show (⟨c ++ #[]⟩ : Str) = ⟨c⟩; rw [Array.append_empty]
/-- three lists of the memory -/
structure Tri (l1 l2 l3 : Addr) (a b c : List PyData) (M M' : Mem) : Prop where
  e1 : M' l1 = some (.lst a)
  e2 : M' l2 = some (.lst b)
  e3 : M' l3 = some (.lst c)
  rest : ∀ q, q ≠ l1 → q ≠ l2 → q ≠ l3 → M' q = M q
  n12 : l1 ≠ l2
  n13 : l1 ≠ l3
  n23 : l2 ≠ l3
section
variable {l1 l2 l3 : Addr} {a b c x : List PyData} {M M' : Mem}
theorem Tri.p1 (t : Tri l1 l2 l3 a b c M M') : Tri l1 l2 l3 x b c M (updM M' l1 (.lst x)) :=
  ⟨updM_same, by rw [updM_ne t.n12.symm]; exact t.e2, by rw [updM_ne t.n13.symm]; exact t.e3, fun q h1 h2 h3 => by rw [updM_ne h1]; exact t.rest q h1 h2 h3, t.n12, t.n13, t.n23⟩
theorem Tri.p2 (t : Tri l1 l2 l3 a b c M M') : Tri l1 l2 l3 a x c M (updM M' l2 (.lst x)) :=
  ⟨by rw [updM_ne t.n12]; exact t.e1, updM_same, by rw [updM_ne t.n23.symm]; exact t.e3, fun q h1 h2 h3 => by rw [updM_ne h2]; exact t.rest q h1 h2 h3, t.n12, t.n13, t.n23⟩
theorem Tri.p3 (t : Tri l1 l2 l3 a b c M M') : Tri l1 l2 l3 a b x M (updM M' l3 (.lst x)) :=
  ⟨by rw [updM_ne t.n13]; exact t.e1, by rw [updM_ne t.n23]; exact t.e2, updM_same, fun q h1 h2 h3 => by rw [updM_ne h3]; exact t.rest q h1 h2 h3, t.n12, t.n13, t.n23⟩
theorem Tri.out (t : Tri l1 l2 l3 a b c M M') (h1 : M l1 = none) (h2 : M l2 = none) (h3 : M l3 = none) : delM (delM (delM M' l1) l2) l3 = M := by
  funext q
  by_cases q3 : q = l3
  · rw [q3, delM_same, h3]
  · rw [delM_ne q3]
    by_cases q2 : q = l2
    · rw [q2, delM_same, h2]
    · rw [delM_ne q2]
      by_cases q1 : q = l1
      · rw [q1, delM_same, h1]
      · rw [delM_ne q1]; exact t.rest q q1 q2 q3
end
section
variable {P : Program} {w : World} {K : PySem.W.Frag} {mg : Str → Option Value} {base : Heap}
def sp__law_walk : DSp where
  n := 3
  wp := fun ds M Q => ∃ (r : Run) (u n : Int), ds = [.d r.data, I u, I n] ∧ r.Ok ∧ (0 < u ∧ u < 100000000 ∧ 0 ≤ n ∧ n ≤ 90000) ∧ Q (.d (walkD r u n.toNat)) M
  mono := fun h ⟨a, b, c, e, s, t, q⟩ => ⟨a, b, c, e, s, t, h _ _ q⟩
  len := fun ⟨a, b, c, e, s, t, q⟩ => by rw [e]; rfl
end
/-! ### the walk in closed form -/
def dirI (z W A : Int) : Int := if z % (2 * W) = 0 then (A.natAbs : Int) else if z % (2 * W) = W then -(A.natAbs : Int) else if z % (2 * W) < W then A else -A
theorem gap {g a b : Int} (h1 : g ∣ a) (h2 : g ∣ b) (h : a < b) : a + g ≤ b := by
  have := Int.le_of_dvd (by omega : 0 < b - a) (Int.dvd_sub h2 h1)
  omega
theorem emod_step {z g m : Int} (hm : 0 < m) (h0 : 0 ≤ z % m + g) (h1 : z % m + g ≤ m) : (z + g) % m = if z % m + g = m then 0 else z % m + g := by
  have e : (z + g) % m = (z % m + g) % m := by rw [Int.emod_add_emod]
  rw [e]
  split
  · rename_i h; rw [h, Int.emod_self]
  · exact Int.emod_eq_of_lt h0 (by omega)
theorem emod_back {z g m : Int} (hm : 0 < m) (hg : 0 < g) (hgm : g ≤ m) (h1 : z % m = 0 ∨ g ≤ z % m) : (z + -g) % m = if z % m = 0 then m - g else z % m - g := by
  have h2 := Int.emod_lt_of_pos z hm
  have e : (z + -g) % m = (z % m + -g) % m := by rw [Int.emod_add_emod]
  rw [e]
  split
  · rename_i h
    rw [h, Int.zero_add, ← Int.add_emod_right]
    rw [show -g + m = m - g by omega]
    by_cases hh : g = m
    · subst hh; rw [Int.sub_self]; rfl
    · exact Int.emod_eq_of_lt (by omega) (by omega)
  · rw [show z % m + -g = z % m - g by omega]
    exact Int.emod_eq_of_lt (by omega) (by omega)
theorem axAt_fold {W X A : Int} (hW : 0 < W) (h0 : 0 ≤ X) (h1 : X ≤ W) (hd : A ≠ 0 → A ∣ X ∧ A ∣ W) : ∀ k : Nat, (axAt W X A k).1 = foldI (X + A * k) W ∧ (axAt W X A k).2 = dirI (X + A * k) W A
  | 0 => by
    have e : X + A * ((0 : Nat) : Int) = X := by simp
    rw [e]
    have hm : X % (2 * W) = X := Int.emod_eq_of_lt h0 (by omega)
    show X = foldI X W ∧ (if X = 0 then (A.natAbs : Int) else if X = W then -(A.natAbs : Int) else A) = dirI X W A
    unfold foldI dirI
    rw [hm]
    refine ⟨by rw [if_pos h1], ?_⟩
    by_cases hx : X = 0
    · rw [if_pos hx, if_pos hx]
    · rw [if_neg hx, if_neg hx]
      by_cases hx2 : X = W
      · rw [if_pos hx2, if_pos hx2]
      · rw [if_neg hx2, if_neg hx2, if_pos (by omega)]
  | k + 1 => by
    obtain ⟨ih1, ih2⟩ := axAt_fold hW h0 h1 hd k
    have ez : X + A * ((k + 1 : Nat) : Int) = (X + A * k) + A := by
      rw [Int.natCast_add, Int.mul_add, Int.natCast_one, Int.mul_one, Int.add_assoc]
    rw [ez]
    show (axStep W (axAt W X A k)).1 = _ ∧ (axStep W (axAt W X A k)).2 = _
    unfold axStep
    simp only []
    rw [ih1, ih2]
    generalize hz : X + A * (k : Int) = z
    by_cases hA : A = 0
    · subst hA
      have : dirI z W 0 = 0 := by unfold dirI; simp
      rw [this, Int.add_zero, Int.add_zero]
      exact ⟨rfl, by simp [this]⟩
    · obtain ⟨d1, d2⟩ := hd hA
      have dz : A ∣ z := by rw [← hz]; exact Int.dvd_add d1 (Int.dvd_mul_right _ _)
      have d2W : A ∣ 2 * W := Int.dvd_mul_of_dvd_right d2
      have dr : A ∣ z % (2 * W) := by
        rw [Int.emod_def]
        exact Int.dvd_sub dz (Int.dvd_mul_of_dvd_left d2W)
      have r0 := Int.emod_nonneg z (show 2 * W ≠ 0 by omega)
      have r1 := Int.emod_lt_of_pos z (show 0 < 2 * W by omega)
      have hm : 0 < 2 * W := by omega
      rcases Int.lt_or_gt_of_ne hA with hn | hp
      · -- falling
        obtain ⟨g, rfl⟩ : ∃ g, A = -g := ⟨-A, by omega⟩
        have hg : 0 < g := by omega
        have dr' : g ∣ z % (2 * W) := Int.neg_dvd.mp dr
        have d2' : g ∣ W := Int.neg_dvd.mp d2
        have d0 : g ∣ (0 : Int) := Int.dvd_zero _
        have gW := gap d0 d2' hW
        have g0 : z % (2 * W) = 0 ∨ g ≤ z % (2 * W) := by
          rcases Int.lt_or_eq_of_le r0 with h | h
          · have := gap d0 dr' h; omega
          · exact .inl h.symm
        have gl : z % (2 * W) < W → z % (2 * W) + g ≤ W := fun h => gap dr' d2' h
        have gu : W < z % (2 * W) → W + g ≤ z % (2 * W) := fun h => gap d2' dr' h
        have em := emod_back (z := z) hm hg (by omega) g0
        have en : ((-g).natAbs : Int) = g := by omega
        unfold foldI dirI
        rw [em, en]
        generalize z % (2 * W) = r at *
        constructor <;> (repeat' split) <;> omega
      · -- rising
        have hg : 0 < A := hp
        have d0 : A ∣ (0 : Int) := Int.dvd_zero _
        have gW := gap d0 d2 hW
        have g2 := gap dr d2W r1
        have gl : z % (2 * W) < W → z % (2 * W) + A ≤ W := fun h => gap dr d2 h
        have gu : W < z % (2 * W) → W + A ≤ z % (2 * W) := fun h => gap d2 dr h
        have em := emod_step (z := z) (g := A) hm (by omega) g2
        have en : (A.natAbs : Int) = A := by omega
        unfold foldI dirI
        rw [em, en]
        generalize z % (2 * W) = r at *
        constructor <;> (repeat' split) <;> omega
/-! ### the unit -/
theorem unitN_step (u : Nat) (ns : List Int) : ∀ n ∈ ns, n ≠ 0 → n.natAbs ∣ ns.foldl (fun u n => if n = 0 then u else Nat.lcm u n.natAbs) u := by
  have base : ∀ (ns : List Int) (u : Nat), u ∣ ns.foldl (fun u n => if n = 0 then u else Nat.lcm u n.natAbs) u := by
    intro ns
    induction ns with
    | nil => intro u; exact Nat.dvd_refl u
    | cons x xs ih =>
      intro u
      rw [List.foldl_cons]
      refine Nat.dvd_trans ?_ (ih _)
      split
      · exact Nat.dvd_refl u
      · exact Nat.dvd_lcm_left ..
  induction ns generalizing u with
  | nil => intro n hn; cases hn
  | cons x xs ih =>
    intro n hn h0
    rw [List.foldl_cons]
    rcases List.mem_cons.mp hn with e | hn
    · subst e
      rw [if_neg h0]
      exact Nat.dvd_trans (Nat.dvd_lcm_right ..) (base xs _)
    · exact ih _ n hn h0
theorem unitN_dvd {ns : List Int} {n : Int} (h : n ∈ ns) (h0 : n ≠ 0) : n ∣ (unitN ns : Int) := Int.natAbs_dvd.mp (Int.natCast_dvd_natCast.mpr (unitN_step 1 ns n h h0))
theorem unitN_pos (ns : List Int) : 0 < unitN ns := by
  have : ∀ (ns : List Int) (u : Nat), 0 < u → 0 < ns.foldl (fun u n => if n = 0 then u else Nat.lcm u n.natAbs) u := by
    intro ns
    induction ns with
    | nil => intro u h; exact h
    | cons x xs ih =>
      intro u h
      rw [List.foldl_cons]
      refine ih _ ?_
      split
      · exact h
      · exact Nat.lcm_pos h (by omega)
  exact this ns 1 (by decide)
theorem lcm_le {m n : Nat} (hm : 0 < m) (hn : 0 < n) : Nat.lcm m n ≤ m * n := Nat.le_of_dvd (Nat.mul_pos hm hn) (Nat.lcm_dvd_mul m n)
theorem unitN_le (ns : List Int) (c : Nat) (hc : 0 < c) (h : ∀ n ∈ ns, n.natAbs ≤ c) : unitN ns ≤ c ^ ns.length := by
  have : ∀ (ns : List Int) (u : Nat), 0 < u → (∀ n ∈ ns, n.natAbs ≤ c) → ns.foldl (fun u n => if n = 0 then u else Nat.lcm u n.natAbs) u ≤ u * c ^ ns.length := by
    intro ns
    induction ns with
    | nil => intro u h _; simp
    | cons x xs ih =>
      intro u h hb
      rw [List.foldl_cons, List.length_cons, Nat.pow_succ, Nat.mul_comm (c ^ _) c, ← Nat.mul_assoc]
      have hx := hb x List.mem_cons_self
      by_cases h0 : x = 0
      · rw [if_pos h0]
        refine Nat.le_trans (ih u h fun n hn => hb n (List.mem_cons_of_mem _ hn)) (Nat.mul_le_mul_right _ ?_)
        exact Nat.le_mul_of_pos_right _ hc
      · rw [if_neg h0]
        refine Nat.le_trans (ih _ (Nat.lcm_pos h (by omega)) fun n hn => hb n (List.mem_cons_of_mem _ hn)) (Nat.mul_le_mul_right _ ?_)
        exact Nat.le_trans (lcm_le h (by omega)) (Nat.mul_le_mul_left _ hx)
  have := this ns 1 (by decide) h
  rwa [Nat.one_mul] at this
/-! ### the walk's places are the ball's -/
theorem wX_fold {r : Run} (k : r.Ok) {u : Int} (hu : 0 < u) (hd : r.a ≠ 0 → r.a ∣ u) (n : Nat) : (wX r u n).1 = foldI (r.x * u + r.a * n) (r.w * u) ∧ (wX r u n).2 = dirI (r.x * u + r.a * n) (r.w * u) r.a :=
  axAt_fold (Int.mul_pos (by have := k.w1; omega) hu) (Int.mul_nonneg k.x1 (by omega)) (Int.mul_le_mul_of_nonneg_right k.x2 (by omega)) (fun h => ⟨Int.dvd_mul_of_dvd_right (hd h), Int.dvd_mul_of_dvd_right (hd h)⟩) n
theorem wY_fold {r : Run} (k : r.Ok) {u : Int} (hu : 0 < u) (hd : r.b ≠ 0 → r.b ∣ u) (n : Nat) : (wY r u n).1 = foldI (r.y * u + r.b * n) (r.h * u) ∧ (wY r u n).2 = dirI (r.y * u + r.b * n) (r.h * u) r.b :=
  axAt_fold (Int.mul_pos (by have := k.h1; omega) hu) (Int.mul_nonneg k.y1 (by omega)) (Int.mul_le_mul_of_nonneg_right k.y2 (by omega)) (fun h => ⟨Int.dvd_mul_of_dvd_right (hd h), Int.dvd_mul_of_dvd_right (hd h)⟩) n
theorem wX_pos {r : Run} (k : r.Ok) {u : Int} (hu : 0 < u) (hd : r.a ≠ 0 → r.a ∣ u) (n : Nat) : rq (wX r u n).1 u = posX r (rq n u) := by
  rw [(wX_fold k hu hd n).1]
  unfold posX
  rw [← lin_rq r.x r.a n hu, foldQ_rq _ hu (by have := k.w1; omega)]
theorem wY_pos {r : Run} (k : r.Ok) {u : Int} (hu : 0 < u) (hd : r.b ≠ 0 → r.b ∣ u) (n : Nat) : rq (wY r u n).1 u = posY r (rq n u) := by
  rw [(wY_fold k hu hd n).1]
  unfold posY
  rw [← lin_rq r.y r.b n hu, foldQ_rq _ hu (by have := k.h1; omega)]
theorem spots_last (r : Run) (u : Int) (n : Nat) : atI (wSpots r u n) (-1) = some (wSpot r u n) := by
  unfold wSpots
  rw [List.range_succ, List.map_append]
  exact atI_last _ _
/-! ### rationals -/
theorem rq_scale {c n d : Int} (hc : c ≠ 0) : rq (c * n) (c * d) = rq n d := by
  rw [rq_div, rq_div, Rat.divInt_mul_left hc]
theorem rq_eq {a b c d : Int} (hb : b ≠ 0) (hd : d ≠ 0) (h : a * d = c * b) : rq a b = rq c d := by
  rw [rq_div, rq_div]
  exact (Rat.divInt_eq_divInt_iff hb hd).mpr h
/-- the ticks of a time whose denominator divides the unit -/
theorem rq_ticks {top bottom u : Int} (hb : 0 < bottom) (hu : 0 < u) (h : bottom ∣ u) : rq (top * u / bottom) u = rq top bottom := by
  refine rq_eq (by omega) (by omega) ?_
  rw [Int.mul_comm]
  obtain ⟨c, rfl⟩ := h
  rw [show top * (bottom * c) = bottom * (top * c) by rw [Int.mul_left_comm], Int.mul_ediv_cancel_left _ (by omega)]
/-! ### the period -/
theorem foldQ_add (z : Rat) {m : Int} (hm : 0 < m) (j : Int) : foldQ (z + 2 * m * j) m = foldQ z m := by
  have h0 : (0 : Rat) < m := Rat.intCast_pos.mpr hm
  have e1 : (z + 2 * m * j) / (2 * m) = z / (2 * m) + (j : Rat) := by grind
  unfold foldQ
  rw [e1, Rat.floor_add_intCast, Rat.intCast_add]
  have e2 : z + 2 * m * j - 2 * m * ((z / (2 * m)).floor + j : Rat) = z - 2 * m * ((z / (2 * m)).floor : Rat) := by grind
  rw [e2]
theorem posX_add {r : Run} (k : r.Ok) {t p : Rat} {j : Int} (h : r.a * p = 2 * r.w * j) : posX r (t + p) = posX r t := by
  unfold posX
  have e : (r.x : Rat) + r.a * (t + p) = r.x + r.a * t + 2 * r.w * j := by grind
  rw [e, foldQ_add _ (by have := k.w1; omega)]
theorem posY_add {r : Run} (k : r.Ok) {t p : Rat} {j : Int} (h : r.b * p = 2 * r.h * j) : posY r (t + p) = posY r t := by
  unfold posY
  have e : (r.y : Rat) + r.b * (t + p) = r.y + r.b * t + 2 * r.h * j := by grind
  rw [e, foldQ_add _ (by have := k.h1; omega)]
theorem num_den (q : Rat) : q = (q.num : Rat) / (q.den : Rat) := by
  have := Rat.num_divInt_den q
  rw [Rat.divInt_eq_div] at this
  exact this.symm
/-- lcmQ is a whole multiple of either -/
theorem lcmQ_mul {p q : Rat} (hp : 0 < p.num) (hq : 0 < q.num) : (∃ j : Int, 0 < j ∧ lcmQ p q = p * j) ∧ (∃ j : Int, 0 < j ∧ lcmQ p q = q * j) := by
  have g1 : 0 < Int.gcd p.num q.num := Int.gcd_pos_iff.mpr (.inl (by omega))
  have dp := p.den_pos
  have dq := q.den_pos
  have g2 : 0 < Int.gcd p.den q.den := Int.gcd_pos_iff.mpr (.inl (by omega))
  have a1 : (Int.gcd p.num q.num : Int) ∣ p.num := Int.gcd_dvd_left ..
  have a2 : (Int.gcd p.num q.num : Int) ∣ q.num := Int.gcd_dvd_right ..
  have b1 : (Int.gcd p.den q.den : Int) ∣ p.den := Int.gcd_dvd_left ..
  have b2 : (Int.gcd p.den q.den : Int) ∣ q.den := Int.gcd_dvd_right ..
  unfold lcmQ rq
  generalize hg : (Int.gcd p.num q.num : Int) = g at *
  generalize hh : (Int.gcd p.den q.den : Int) = h at *
  have g0 : 0 < g := by omega
  have h0 : 0 < h := by omega
  obtain ⟨c1, e1⟩ := a1
  obtain ⟨c2, e2⟩ := a2
  obtain ⟨c3, e3⟩ := b1
  obtain ⟨c4, e4⟩ := b2
  have p1 : 0 < c1 := by
    rw [e1] at hp
    exact Int.pos_of_mul_pos_right hp (by omega)
  have p2 : 0 < c2 := by
    rw [e2] at hq
    exact Int.pos_of_mul_pos_right hq (by omega)
  have p3 : 0 < c3 := by
    have : (0 : Int) < p.den := by omega
    rw [e3] at this
    exact Int.pos_of_mul_pos_right this (by omega)
  have p4 : 0 < c4 := by
    have : (0 : Int) < q.den := by omega
    rw [e4] at this
    exact Int.pos_of_mul_pos_right this (by omega)
  have top : p.num * q.num / g = c1 * c2 * g := by
    rw [e1, e2, show g * c1 * (g * c2) = g * (c1 * c2 * g) by grind, Int.mul_ediv_cancel_left _ (by omega)]
  rw [top]
  have gq : (g : Rat) ≠ 0 := Rat.ne_of_gt (Rat.intCast_pos.mpr g0)
  have hq' : (h : Rat) ≠ 0 := Rat.ne_of_gt (Rat.intCast_pos.mpr h0)
  have c3q : (c3 : Rat) ≠ 0 := Rat.ne_of_gt (Rat.intCast_pos.mpr p3)
  have c4q : (c4 : Rat) ≠ 0 := Rat.ne_of_gt (Rat.intCast_pos.mpr p4)
  have ep : p = (g * c1 : Rat) / (h * c3) := by
    have := num_den p
    have d : (p.den : Rat) = ((p.den : Int) : Rat) := rfl
    rw [d, e3, e1, Rat.intCast_mul, Rat.intCast_mul] at this
    exact this
  have eq : q = (g * c2 : Rat) / (h * c4) := by
    have := num_den q
    have d : (q.den : Rat) = ((q.den : Int) : Rat) := rfl
    rw [d, e4, e2, Rat.intCast_mul, Rat.intCast_mul] at this
    exact this
  rw [Rat.intCast_mul, Rat.intCast_mul]
  refine ⟨⟨c2 * c3, Int.mul_pos p2 p3, ?_⟩, ⟨c1 * c4, Int.mul_pos p1 p4, ?_⟩⟩
  · rw [ep, Rat.intCast_mul]
    clear ep eq top hg hh
    grind
  · rw [eq, Rat.intCast_mul]
    clear ep eq top hg hh
    grind
theorem perX_mul {r : Run} (h : r.a ≠ 0) : (r.a : Rat) * perX r = 2 * r.w * (r.a.sign : Int) := by
  unfold perX rq
  have e : (r.a : Int) = r.a.sign * r.a.natAbs := by rw [Int.sign_mul_natAbs]
  have n0 : ((r.a.natAbs : Int) : Rat) ≠ 0 := fun z => by
    have := Rat.intCast_inj.mp (z.trans Rat.intCast_zero.symm)
    omega
  have e' : (r.a : Rat) = (r.a.sign : Int) * ((r.a.natAbs : Int) : Rat) := by
    rw [← Rat.intCast_mul, ← e]
  rw [Rat.intCast_mul]
  generalize ((r.a.natAbs : Int) : Rat) = n at *
  rw [e']
  show _ = 2 * (r.w : Rat) * _
  have two : ((2 : Int) : Rat) = 2 := rfl
  rw [two]
  grind
theorem perY_mul {r : Run} (h : r.b ≠ 0) : (r.b : Rat) * perY r = 2 * r.h * (r.b.sign : Int) := by
  unfold perY rq
  have e : (r.b : Int) = r.b.sign * r.b.natAbs := by rw [Int.sign_mul_natAbs]
  have n0 : ((r.b.natAbs : Int) : Rat) ≠ 0 := fun z => by
    have := Rat.intCast_inj.mp (z.trans Rat.intCast_zero.symm)
    omega
  have e' : (r.b : Rat) = (r.b.sign : Int) * ((r.b.natAbs : Int) : Rat) := by
    rw [← Rat.intCast_mul, ← e]
  rw [Rat.intCast_mul]
  generalize ((r.b.natAbs : Int) : Rat) = n at *
  rw [e']
  have two : ((2 : Int) : Rat) = 2 := rfl
  rw [two]
  grind
theorem perX_pos {r : Run} (k : r.Ok) (h : r.a ≠ 0) : 0 < (perX r).num := (rq_pos (by have := k.w1; omega) (by omega)).1
theorem perY_pos {r : Run} (k : r.Ok) (h : r.b ≠ 0) : 0 < (perY r).num := (rq_pos (by have := k.h1; omega) (by omega)).1
theorem perQ_mul {r : Run} (k : r.Ok) : (∃ j : Int, (r.a : Rat) * perQ r = 2 * r.w * j) ∧ (∃ j : Int, (r.b : Rat) * perQ r = 2 * r.h * j) := by
  unfold perQ
  by_cases ha : r.a = 0
  · have hb : r.b ≠ 0 := fun e => k.ab ⟨ha, e⟩
    rw [if_pos ha]
    refine ⟨⟨0, ?_⟩, ⟨_, perY_mul hb⟩⟩
    rw [ha]
    simp
  · rw [if_neg ha]
    by_cases hb : r.b = 0
    · rw [if_pos hb]
      refine ⟨⟨_, perX_mul ha⟩, ⟨0, ?_⟩⟩
      rw [hb]
      simp
    · rw [if_neg hb]
      obtain ⟨⟨j1, _, e1⟩, ⟨j2, _, e2⟩⟩ := lcmQ_mul (perX_pos k ha) (perY_pos k hb)
      refine ⟨⟨r.a.sign * j1, ?_⟩, ⟨r.b.sign * j2, ?_⟩⟩
      · rw [e1, Rat.intCast_mul, ← Rat.mul_assoc, perX_mul ha]
        grind
      · rw [e2, Rat.intCast_mul, ← Rat.mul_assoc, perY_mul hb]
        grind
theorem pos_of_num {q : Rat} (h : 0 < q.num) : 0 < q := by
  have h1 : 0 ≤ q := Rat.num_nonneg.mp (by omega)
  refine Rat.lt_of_le_of_ne h1 fun e => ?_
  rw [← e] at h
  exact absurd h (by decide)
theorem num_pos {q : Rat} (h : 0 < q) : 0 < q.num := by
  have h1 : 0 ≤ q.num := Rat.num_nonneg.mpr (Rat.le_of_lt h)
  have h2 : q.num ≠ 0 := fun e => Rat.ne_of_gt h (Rat.num_eq_zero.mp e)
  omega
theorem perQ_pos {r : Run} (k : r.Ok) : 0 < perQ r := by
  unfold perQ
  by_cases ha : r.a = 0
  · have hb : r.b ≠ 0 := fun e => k.ab ⟨ha, e⟩
    rw [if_pos ha]
    exact pos_of_num (perY_pos k hb)
  · rw [if_neg ha]
    by_cases hb : r.b = 0
    · rw [if_pos hb]
      exact pos_of_num (perX_pos k ha)
    · rw [if_neg hb]
      obtain ⟨⟨j1, p1, e1⟩, _⟩ := lcmQ_mul (perX_pos k ha) (perY_pos k hb)
      rw [e1]
      exact Rat.mul_pos (pos_of_num (perX_pos k ha)) (Rat.intCast_pos.mpr p1)
/-- after so many periods the ball is where it was -/
theorem place_period {r : Run} (k : r.Ok) (t : Rat) (m : Int) : placeD r (t + m * perQ r) = placeD r t := by
  obtain ⟨⟨j1, e1⟩, ⟨j2, e2⟩⟩ := perQ_mul k
  unfold placeD
  rw [posX_add k (j := m * j1) (by rw [Rat.intCast_mul]; grind), posY_add k (j := m * j2) (by rw [Rat.intCast_mul]; grind)]
/-! ### the period in ticks -/
theorem rq_den_dvd (n : Int) {d : Int} (hd : 0 < d) : ((rq n d).den : Int) ∣ d := by
  rw [← (low_pos (n := n) hd).2]
  have h : (Int.gcd n d : Int) ∣ d := Int.gcd_dvd_right ..
  obtain ⟨c, e⟩ := h
  have g : 0 < (Int.gcd n d : Int) := by
    have : 0 < Int.gcd n d := Int.gcd_pos_iff.mpr (.inr (by omega))
    omega
  generalize (Int.gcd n d : Int) = z at *
  rw [e, Int.mul_ediv_cancel_left _ (by omega)]
  exact Int.dvd_mul_left ..
theorem lcmQ_least {p q : Rat} (hp : 0 < p.num) (hq : 0 < q.num) {z : Rat} {m1 m2 : Int} (h1 : z = p * m1) (h2 : z = q * m2) : ∃ m : Int, z = lcmQ p q * m := by
  have cp : p.num.natAbs.Coprime p.den := p.reduced
  have cq : q.num.natAbs.Coprime q.den := q.reduced
  have g1 : 0 < Int.gcd p.num q.num := Int.gcd_pos_iff.mpr (.inl (by omega))
  have dp := p.den_pos
  have dq := q.den_pos
  have g2 : 0 < Int.gcd p.den q.den := Int.gcd_pos_iff.mpr (.inl (by omega))
  -- p * m1 = q * m2, over the integers
  have en : p.num * q.den * m1 = q.num * p.den * m2 := by
    have e := h1.symm.trans h2
    have a := num_den p
    have b := num_den q
    have dp0 : (p.den : Rat) ≠ 0 := Rat.ne_of_gt (Rat.natCast_pos.mpr dp)
    have dq0 : (q.den : Rat) ≠ 0 := Rat.ne_of_gt (Rat.natCast_pos.mpr dq)
    refine Rat.intCast_inj.mp ?_
    rw [Rat.intCast_mul, Rat.intCast_mul, Rat.intCast_mul, Rat.intCast_mul]
    rw [show (((p.den : Nat) : Int) : Rat) = (p.den : Rat) from rfl, show (((q.den : Nat) : Int) : Rat) = (q.den : Rat) from rfl]
    generalize (p.den : Rat) = d1 at *
    generalize (q.den : Rat) = d2 at *
    generalize (p.num : Rat) = n1 at *
    generalize (q.num : Rat) = n2 at *
    rw [a, b] at e
    grind
  -- the lcm of the tops over the gcd of the bottoms, as p * c2 * c3
  obtain ⟨n1, hn1⟩ : ∃ n : Nat, p.num = n := ⟨p.num.natAbs, by omega⟩
  obtain ⟨n2, hn2⟩ : ∃ n : Nat, q.num = n := ⟨q.num.natAbs, by omega⟩
  have cp' : n1.Coprime p.den := by rw [hn1] at cp; exact cp
  have cq' : n2.Coprime q.den := by rw [hn2] at cq; exact cq
  have eg : Int.gcd p.num q.num = Nat.gcd n1 n2 := by rw [hn1, hn2]; rfl
  have eh : Int.gcd p.den q.den = Nat.gcd p.den q.den := rfl
  rw [eg] at g1
  rw [eh] at g2
  obtain ⟨c1, e1⟩ := Nat.gcd_dvd_left n1 n2
  obtain ⟨c2, e2⟩ := Nat.gcd_dvd_right n1 n2
  obtain ⟨c3, e3⟩ := Nat.gcd_dvd_left p.den q.den
  obtain ⟨c4, e4⟩ := Nat.gcd_dvd_right p.den q.den
  have k12 : c1.Coprime c2 := by
    have := Nat.coprime_div_gcd_div_gcd (m := n1) (n := n2) g1
    have a1 : n1 / Nat.gcd n1 n2 = c1 := Nat.div_eq_of_eq_mul_right g1 e1
    have a2 : n2 / Nat.gcd n1 n2 = c2 := Nat.div_eq_of_eq_mul_right g1 e2
    rwa [a1, a2] at this
  have k34 : c3.Coprime c4 := by
    have := Nat.coprime_div_gcd_div_gcd (m := p.den) (n := q.den) g2
    have a1 : p.den / Nat.gcd p.den q.den = c3 := Nat.div_eq_of_eq_mul_right g2 e3
    have a2 : q.den / Nat.gcd p.den q.den = c4 := Nat.div_eq_of_eq_mul_right g2 e4
    rwa [a1, a2] at this
  have k13 : c1.Coprime c3 := Nat.Coprime.coprime_dvd_left ⟨Nat.gcd n1 n2, by rw [Nat.mul_comm]; exact e1⟩ (Nat.Coprime.coprime_dvd_right ⟨Nat.gcd p.den q.den, by rw [Nat.mul_comm]; exact e3⟩ cp')
  have k24 : c2.Coprime c4 := Nat.Coprime.coprime_dvd_left ⟨Nat.gcd n1 n2, by rw [Nat.mul_comm]; exact e2⟩ (Nat.Coprime.coprime_dvd_right ⟨Nat.gcd p.den q.den, by rw [Nat.mul_comm]; exact e4⟩ cq')
  have kk : (c2 * c3).Coprime (c1 * c4) := Nat.Coprime.mul_left (Nat.Coprime.mul_right k12.symm k24) (Nat.Coprime.mul_right k13.symm k34)
  generalize hg : Nat.gcd n1 n2 = g at *
  generalize hh : Nat.gcd p.den q.den = h at *
  have c40 : 0 < c4 := by
    rcases Nat.eq_zero_or_pos c4 with z | z
    · rw [z, Nat.mul_zero] at e4; omega
    · exact z
  have c30 : 0 < c3 := by
    rcases Nat.eq_zero_or_pos c3 with z | z
    · rw [z, Nat.mul_zero] at e3; omega
    · exact z
  have gz : (g : Int) ≠ 0 := by omega
  have hz : (h : Int) ≠ 0 := by omega
  have en2 : (c1 * c4 : Nat) * m1 = ((c2 * c3 : Nat) : Int) * m2 := by
    rw [hn1, hn2, e1, e2, e3, e4] at en
    push_cast at en ⊢
    have : (g * h : Int) * (c1 * c4 * m1) = (g * h : Int) * (c2 * c3 * m2) := by grind
    exact Int.eq_of_mul_eq_mul_left (Int.mul_ne_zero gz hz) this
  have dv : ((c2 * c3 : Nat) : Int) ∣ m1 := by
    have : ((c2 * c3 : Nat) : Int) ∣ (c1 * c4 : Nat) * m1 := ⟨m2, en2⟩
    have t2 := Int.dvd_gcd_mul_iff_dvd_mul.mpr this
    rw [show Int.gcd ((c2 * c3 : Nat) : Int) ((c1 * c4 : Nat) : Int) = 1 from kk] at t2
    simpa using t2
  obtain ⟨m, em⟩ := dv
  refine ⟨m, ?_⟩
  rw [h1, em]
  unfold lcmQ rq
  rw [hn1, hn2, e1, e2]
  rw [show Int.gcd ((g * c1 : Nat) : Int) ((g * c2 : Nat) : Int) = g by rw [← e1, ← e2]; exact hg, show Int.gcd p.den q.den = h from hh]
  have top : ((g * c1 : Nat) : Int) * ((g * c2 : Nat) : Int) / (g : Int) = c1 * c2 * g := by
    rw [show ((g * c1 : Nat) : Int) * ((g * c2 : Nat) : Int) = g * (c1 * c2 * g) by push_cast; grind, Int.mul_ediv_cancel_left _ gz]
  rw [top]
  have a := num_den p
  have d : (p.den : Rat) = ((p.den : Int) : Rat) := rfl
  rw [hn1, d, e1, e3] at a
  rw [a]
  have gq : ((g : Int) : Rat) ≠ 0 := fun z => gz (Rat.intCast_inj.mp (z.trans Rat.intCast_zero.symm))
  have hq' : ((h : Int) : Rat) ≠ 0 := fun z => hz (Rat.intCast_inj.mp (z.trans Rat.intCast_zero.symm))
  have c3q : ((c3 : Int) : Rat) ≠ 0 := fun z => by
    have := Rat.intCast_inj.mp (z.trans Rat.intCast_zero.symm)
    omega
  simp only [Rat.intCast_mul, Int.natCast_mul] at a ⊢
  generalize ((g : Int) : Rat) = x1 at *
  generalize ((h : Int) : Rat) = x2 at *
  generalize ((c3 : Int) : Rat) = x3 at *
  generalize ((c1 : Int) : Rat) = x4 at *
  generalize ((c2 : Int) : Rat) = x5 at *
  clear a top em en2 en h1 h2
  grind
/-- p divides z in whole parts, times u -/
theorem ticks {r : Run} (k : r.Ok) {u : Int} (hu : 0 < u) (ha : r.a ≠ 0 → r.a ∣ u) (hb : r.b ≠ 0 → r.b ∣ u) :
    ∃ T : Int, 0 < T ∧ (perQ r).num * u = T * (perQ r).den ∧ rq T u = perQ r ∧ (perQ r).den ≤ 6 ∧ (perQ r).num ≤ 576 ∧ T ≤ 576 * u := by
  have hdx : r.a ≠ 0 → ((perX r).den : Int) ∣ u ∧ (perX r).den ≤ 6 ∧ (perX r).num ≤ 24 := fun h => by
    have e := rq_den_dvd (2 * r.w) (d := (r.a.natAbs : Int)) (by omega)
    have := k.a1; have := k.a2; have := k.w1; have := k.w2
    have p := rq_pos (n := 2 * r.w) (d := (r.a.natAbs : Int)) (by omega) (by omega)
    refine ⟨Int.dvd_trans e (Int.dvd_trans (Int.natAbs_dvd.mpr (Int.dvd_refl _)) (ha h)), ?_, ?_⟩
    · unfold perX; omega
    · unfold perX; omega
  have hdy : r.b ≠ 0 → ((perY r).den : Int) ∣ u ∧ (perY r).den ≤ 6 ∧ (perY r).num ≤ 24 := fun h => by
    have e := rq_den_dvd (2 * r.h) (d := (r.b.natAbs : Int)) (by omega)
    have := k.b1; have := k.b2; have := k.h1; have := k.h2
    have p := rq_pos (n := 2 * r.h) (d := (r.b.natAbs : Int)) (by omega) (by omega)
    refine ⟨Int.dvd_trans e (Int.dvd_trans (Int.natAbs_dvd.mpr (Int.dvd_refl _)) (hb h)), ?_, ?_⟩
    · unfold perY; omega
    · unfold perY; omega
  have hd : ((perQ r).den : Int) ∣ u ∧ (perQ r).den ≤ 6 ∧ (perQ r).num ≤ 576 := by
    unfold perQ
    by_cases h1 : r.a = 0
    · have h2 : r.b ≠ 0 := fun e => k.ab ⟨h1, e⟩
      rw [if_pos h1]
      have := hdy h2
      exact ⟨this.1, this.2.1, by omega⟩
    · rw [if_neg h1]
      by_cases h2 : r.b = 0
      · rw [if_pos h2]
        have := hdx h1
        exact ⟨this.1, this.2.1, by omega⟩
      · rw [if_neg h2]
        have q1 := hdx h1
        have q2 := hdy h2
        have p1 := perX_pos k h1
        have p2 := perY_pos k h2
        generalize perX r = p at *
        generalize perY r = q at *
        have g2 : 0 < Int.gcd p.den q.den := Int.gcd_pos_iff.mpr (.inl (by have := p.den_pos; omega))
        have e := rq_den_dvd (p.num * q.num / (Int.gcd p.num q.num : Int)) (d := (Int.gcd p.den q.den : Int)) (by omega)
        have g1 : 0 < Int.gcd p.num q.num := Int.gcd_pos_iff.mpr (.inl (by omega))
        have g3 : (Int.gcd p.num q.num : Int) ∣ p.num := Int.gcd_dvd_left ..
        have n0 : 0 < p.num * q.num / (Int.gcd p.num q.num : Int) := Int.ediv_pos_of_pos_of_dvd (Int.mul_pos p1 p2) (by omega) (Int.dvd_mul_of_dvd_left g3)
        have n1 : p.num * q.num / (Int.gcd p.num q.num : Int) ≤ p.num * q.num := Int.ediv_le_self _ (Int.le_of_lt (Int.mul_pos p1 p2))
        have n2 : p.num * q.num ≤ 24 * 24 := Int.mul_le_mul q1.2.2 q2.2.2 (by omega) (by decide)
        have n3 := rq_pos n0 (d := (Int.gcd p.den q.den : Int)) (by omega)
        have g4 : Int.gcd p.den q.den ≤ p.den := Nat.le_of_dvd p.den_pos (Nat.gcd_dvd_left _ _)
        refine ⟨Int.dvd_trans e (Int.dvd_trans (Int.gcd_dvd_left ..) q1.1), ?_, ?_⟩
        · unfold lcmQ; omega
        · unfold lcmQ; omega
  obtain ⟨⟨c, e⟩, hd2, hn⟩ := hd
  have d0 := (perQ r).den_pos
  have np := num_pos (perQ_pos k)
  have c0 : 0 < c := by
    rcases (by omega : 0 < c ∨ c ≤ 0) with z | z
    · exact z
    · exfalso
      have := Int.mul_nonpos_of_nonneg_of_nonpos (show (0 : Int) ≤ (perQ r).den by omega) z
      omega
  refine ⟨(perQ r).num * c, Int.mul_pos np c0, by rw [e]; grind, ?_, hd2, hn, ?_⟩
  · have e2 := num_den (perQ r)
    have : rq ((perQ r).num * c) u = rq (perQ r).num (perQ r).den := rq_eq (by omega) (by omega) (by rw [e]; grind)
    rw [this]
    unfold rq
    rw [show (((perQ r).den : Int) : Rat) = ((perQ r).den : Rat) from rfl, ← e2]
  · have : c ≤ u := by
      have q := Int.mul_le_mul_of_nonneg_right (show (1 : Int) ≤ (perQ r).den by omega) (show 0 ≤ c by omega)
      rw [← e, Int.one_mul] at q
      exact q
    exact Int.mul_le_mul hn this (by omega) (by decide)
theorem perQ_least {r : Run} (k : r.Ok) {z : Rat} (h1 : r.a ≠ 0 → ∃ j : Int, r.a * z = 2 * r.w * j) (h2 : r.b ≠ 0 → ∃ j : Int, r.b * z = 2 * r.h * j) : ∃ m : Int, z = perQ r * m := by
  have hx : r.a ≠ 0 → ∃ m : Int, z = perX r * m := fun h => by
    obtain ⟨j, e⟩ := h1 h
    have a0 : (r.a : Rat) ≠ 0 := fun q => h (Rat.intCast_inj.mp (q.trans Rat.intCast_zero.symm))
    have ep := perX_mul h
    have s2 : r.a.sign * r.a.sign = 1 := by
      rcases Int.lt_or_gt_of_ne h with q | q
      · rw [Int.sign_eq_neg_one_of_neg q]; rfl
      · rw [Int.sign_eq_one_of_pos q]; rfl
    have s3 : ((r.a.sign : Int) : Rat) * (r.a.sign : Int) = 1 := by rw [← Rat.intCast_mul, s2]; rfl
    refine ⟨r.a.sign * j, ?_⟩
    have : (r.a : Rat) * z = r.a * (perX r * (r.a.sign * j : Int)) := by
      rw [e, ← Rat.mul_assoc, ep, Rat.intCast_mul]
      generalize ((r.a.sign : Int) : Rat) = s at *
      grind
    generalize (perX r * (r.a.sign * j : Int)) = y at *
    grind
  have hy : r.b ≠ 0 → ∃ m : Int, z = perY r * m := fun h => by
    obtain ⟨j, e⟩ := h2 h
    have a0 : (r.b : Rat) ≠ 0 := fun q => h (Rat.intCast_inj.mp (q.trans Rat.intCast_zero.symm))
    have ep := perY_mul h
    have s2 : r.b.sign * r.b.sign = 1 := by
      rcases Int.lt_or_gt_of_ne h with q | q
      · rw [Int.sign_eq_neg_one_of_neg q]; rfl
      · rw [Int.sign_eq_one_of_pos q]; rfl
    have s3 : ((r.b.sign : Int) : Rat) * (r.b.sign : Int) = 1 := by rw [← Rat.intCast_mul, s2]; rfl
    refine ⟨r.b.sign * j, ?_⟩
    have : (r.b : Rat) * z = r.b * (perY r * (r.b.sign * j : Int)) := by
      rw [e, ← Rat.mul_assoc, ep, Rat.intCast_mul]
      generalize ((r.b.sign : Int) : Rat) = s at *
      grind
    generalize (perY r * (r.b.sign * j : Int)) = y at *
    grind
  unfold perQ
  by_cases ha : r.a = 0
  · rw [if_pos ha]
    exact hy fun e => k.ab ⟨ha, e⟩
  · rw [if_neg ha]
    by_cases hb : r.b = 0
    · rw [if_pos hb]; exact hx ha
    · rw [if_neg hb]
      obtain ⟨m1, e1⟩ := hx ha
      obtain ⟨m2, e2⟩ := hy hb
      exact lcmQ_least (perX_pos k ha) (perY_pos k hb) e1 e2
/-- the same in ticks -/
theorem ticks_least {r : Run} (k : r.Ok) {u T p : Int} (hu : 0 < u) (hT : rq T u = perQ r) (h1 : r.a ≠ 0 → 2 * r.w * u ∣ r.a * p) (h2 : r.b ≠ 0 → 2 * r.h * u ∣ r.b * p) : T ∣ p := by
  have u0 : (u : Rat) ≠ 0 := Rat.ne_of_gt (Rat.intCast_pos.mpr hu)
  have hh : ∀ {a w : Int}, 2 * w * u ∣ a * p → ∃ j : Int, (a : Rat) * rq p u = 2 * w * j := fun {a w} ⟨j, e⟩ => by
    refine ⟨j, ?_⟩
    have : (a : Rat) * p = 2 * w * u * j := by
      have := congrArg (Int.cast : Int → Rat) e
      rw [Rat.intCast_mul, Rat.intCast_mul, Rat.intCast_mul, Rat.intCast_mul] at this
      exact this
    unfold rq
    grind
  obtain ⟨m, e⟩ := perQ_least k (fun h => hh (h1 h)) (fun h => hh (h2 h))
  refine ⟨m, ?_⟩
  rw [← hT] at e
  unfold rq at e
  refine Rat.intCast_inj.mp ?_
  rw [Rat.intCast_mul]
  grind
theorem rq_inj {m n u : Int} (hu : 0 < u) (h : rq m u = rq n u) : m = n := by
  have u0 : (u : Rat) ≠ 0 := Rat.ne_of_gt (Rat.intCast_pos.mpr hu)
  unfold rq at h
  refine Rat.intCast_inj.mp ?_
  grind
theorem rq_addT {m n u : Int} : rq (m + n) u = rq m u + rq n u := by
  unfold rq
  rw [Rat.intCast_add]
  grind
/-- a tick's spot and the ball's place -/
theorem spot_place {r : Run} (k : r.Ok) {u : Int} (hu : 0 < u) (ha : r.a ≠ 0 → r.a ∣ u) (hb : r.b ≠ 0 → r.b ∣ u) (m n : Nat) (h : placeD r (rq m u) = placeD r (rq n u)) : wSpot r u m = wSpot r u n := by
  unfold placeD at h
  rw [← wX_pos k hu ha, ← wX_pos k hu ha, ← wY_pos k hu hb, ← wY_pos k hu hb] at h
  injection h with h
  injection h with h1 h2
  injection h2 with h2 _
  have e1 := rq_inj hu (fr_inj h1)
  have e2 := rq_inj hu (fr_inj h2)
  unfold wSpot
  rw [e1, e2]
theorem spot_period {r : Run} (k : r.Ok) {u : Int} (hu : 0 < u) (ha : r.a ≠ 0 → r.a ∣ u) (hb : r.b ≠ 0 → r.b ∣ u) {T : Nat} (hT : rq T u = perQ r) (n : Nat) : wSpot r u (n + T) = wSpot r u n := by
  refine spot_place k hu ha hb _ _ ?_
  have e : rq ((n + T : Nat) : Int) u = rq n u + (1 : Int) * perQ r := by
    rw [Int.natCast_add, rq_addT, hT, show ((1 : Int) : Rat) = 1 from rfl, Rat.one_mul]
  rw [e, place_period k]
theorem foldI_zero {z m : Int} (hm : 0 < m) : foldI z m = 0 ↔ 2 * m ∣ z := by
  have r0 := Int.emod_nonneg z (show 2 * m ≠ 0 by omega)
  have r1 := Int.emod_lt_of_pos z (show 0 < 2 * m by omega)
  rw [Int.dvd_iff_emod_eq_zero]
  unfold foldI
  split <;> omega
theorem ax_period {W X A T p : Int} (hW : 0 < W) (hA : A ≠ 0) (dX : A ∣ X) (dW : A ∣ W) (hT : 0 < T) (dT : 2 * W ∣ A * T) (h : ∀ i : Int, 0 ≤ i → i < T → foldI (X + A * (i + p)) W = foldI (X + A * i) W) : 2 * W ∣ A * p := by
  obtain ⟨x, rfl⟩ := dX
  obtain ⟨n, rfl⟩ := dW
  -- in steps: N = 2 |n|
  have n0 : n ≠ 0 := fun e => by rw [e, Int.mul_zero] at hW; omega
  have dv : ∀ z : Int, 2 * (A * n) ∣ A * z ↔ (2 * n) ∣ z := fun z => by
    rw [show 2 * (A * n) = A * (2 * n) by grind]
    exact Int.mul_dvd_mul_iff_left hA
  rw [dv] at dT ⊢
  have i0 : ∃ i : Int, 0 ≤ i ∧ i < T ∧ 2 * n ∣ x + i := by
    refine ⟨(-x) % (2 * n), Int.emod_nonneg _ (by omega), ?_, ?_⟩
    · have h1 : (-x) % (2 * n) < ((2 * n).natAbs : Int) := Int.emod_lt _ (by omega)
      have h2 : ((2 * n).natAbs : Int) ≤ T := Int.le_of_dvd hT (Int.natAbs_dvd.mpr dT)
      omega
    · rw [Int.emod_def]
      refine ⟨-(-x / (2 * n)), ?_⟩
      grind
  obtain ⟨i, h1, h2, h3⟩ := i0
  have e1 := h i h1 h2
  have e2 : foldI (A * x + A * i) (A * n) = 0 := (foldI_zero hW).mpr (by rw [← Int.mul_add, dv]; exact h3)
  rw [e2, foldI_zero hW, show A * x + A * (i + p) = A * (x + i + p) by grind, dv] at e1
  have := Int.dvd_sub e1 h3
  rwa [show x + i + p - (x + i) = p by omega] at this
/-- the places come back to themselves after whole periods alone -/
theorem spots_least {r : Run} (k : r.Ok) {u : Int} (hu : 0 < u) (ha : r.a ≠ 0 → r.a ∣ u) (hb : r.b ≠ 0 → r.b ∣ u) {T p : Nat} (hT0 : 0 < T) (hT : rq T u = perQ r) (h : ∀ i : Nat, i < T → wSpot r u (i + p) = wSpot r u i) : T ∣ p := by
  have u0 : (u : Rat) ≠ 0 := Rat.ne_of_gt (Rat.intCast_pos.mpr hu)
  have hj : ∀ {a w : Int}, (∃ j : Int, (a : Rat) * perQ r = 2 * w * j) → 2 * (w * u) ∣ a * T := fun {a w} ⟨j, e⟩ => by
    refine ⟨j, ?_⟩
    rw [← hT] at e
    unfold rq at e
    refine Rat.intCast_inj.mp ?_
    rw [Rat.intCast_mul, Rat.intCast_mul, Rat.intCast_mul, Rat.intCast_mul, show ((2 : Int) : Rat) = 2 from rfl]
    grind
  have hs : ∀ i : Nat, i < T → (wX r u (i + p)).1 = (wX r u i).1 ∧ (wY r u (i + p)).1 = (wY r u i).1 := fun i hi => by
    have e := h i hi
    unfold wSpot at e
    injection e with e
    injection e with e1 e2
    injection e2 with e2 _
    injection e1 with e1
    injection e2 with e2
    exact ⟨e1, e2⟩
  have hx : r.a ≠ 0 → 2 * r.w * u ∣ r.a * p := fun h0 => by
    rw [Int.mul_assoc]
    refine ax_period (X := r.x * u) (T := T) (Int.mul_pos (by have := k.w1; omega) hu) h0 (Int.dvd_mul_of_dvd_right (ha h0)) (Int.dvd_mul_of_dvd_right (ha h0)) (by omega) (hj (perQ_mul k).1) fun i h1 h2 => ?_
    obtain ⟨n, rfl⟩ : ∃ n : Nat, i = n := ⟨i.toNat, by omega⟩
    have e := (hs n (by omega)).1
    rw [(wX_fold k hu ha _).1, (wX_fold k hu ha _).1] at e
    exact e
  have hy : r.b ≠ 0 → 2 * r.h * u ∣ r.b * p := fun h0 => by
    rw [Int.mul_assoc]
    refine ax_period (X := r.y * u) (T := T) (Int.mul_pos (by have := k.h1; omega) hu) h0 (Int.dvd_mul_of_dvd_right (hb h0)) (Int.dvd_mul_of_dvd_right (hb h0)) (by omega) (hj (perQ_mul k).2) fun i h1 h2 => ?_
    obtain ⟨n, rfl⟩ : ∃ n : Nat, i = n := ⟨i.toNat, by omega⟩
    have e := (hs n (by omega)).2
    rw [(wY_fold k hu hb _).1, (wY_fold k hu hb _).1] at e
    exact e
  exact Int.natCast_dvd_natCast.mp (ticks_least k hu hT hx hy)
/-! ### hits -/
def waitK (x a w n d : Int) : Int := if 0 < a then (x * d + a * n) / (w * d) + 1 else -(-(x * d + a * n) / (w * d)) - 1
def waitQ (x a w : Int) (t : Rat) : Rat := rq (waitK x a w t.num t.den * w - x) a
theorem rq_self (q : Rat) : rq q.num q.den = q := (num_den q).symm
theorem rq_cross (n : Int) {d : Int} (hd : 0 < d) : n * ((rq n d).den : Int) = (rq n d).num * d := by
  have e : rq n d = rq (rq n d).num (rq n d).den := (rq_self _).symm
  have d0 := (rq n d).den_pos
  generalize (rq n d).num = N at *
  generalize (rq n d).den = D at *
  have u0 : (d : Rat) ≠ 0 := Rat.ne_of_gt (Rat.intCast_pos.mpr hd)
  have u1 : ((D : Int) : Rat) ≠ 0 := Rat.ne_of_gt (Rat.intCast_pos.mpr (by omega))
  unfold rq at e
  refine Rat.intCast_inj.mp ?_
  rw [Rat.intCast_mul, Rat.intCast_mul]
  grind
theorem div_rq {p q r s : Int} (hq : 0 < q) (hs : 0 < s) (h : p * s = r * q) : p / q = r / s := by
  rw [← floor_rq p hq, ← floor_rq r hs, rq_eq (by omega) (by omega) h]
theorem waitK_rq (x a : Int) {w : Int} (hw : 0 < w) (n : Int) {d : Int} (hd : 0 < d) : waitK x a w (rq n d).num (rq n d).den = waitK x a w n d := by
  have c := rq_cross n hd
  have d0 := (rq n d).den_pos
  unfold waitK
  generalize (rq n d).num = N at *
  generalize (rq n d).den = D at *
  have p1 : 0 < w * (D : Int) := Int.mul_pos hw (by omega)
  have p2 : 0 < w * d := Int.mul_pos hw hd
  rw [div_rq (p := x * D + a * N) (q := w * D) (r := x * d + a * n) (s := w * d) p1 p2 (by grind),
    div_rq (p := -(x * D + a * N)) (q := w * D) (r := -(x * d + a * n)) (s := w * d) p1 p2 (by grind)]
theorem wait_tick {x a w u : Int} (m : Int) (hw : 0 < w) (hu : 0 < u) (ha : a ≠ 0) (dv : a ∣ u) :
    ∃ m' : Int, waitQ x a w (rq m u) = rq m' u ∧ m < m' ∧ m' ≤ m + w * u ∧ w * u ∣ x * u + a * m' ∧ ∀ i, m < i → i < m' → ¬ (w * u ∣ x * u + a * i) := by
  obtain ⟨c, ec⟩ := dv
  have hW : 0 < w * u := Int.mul_pos hw hu
  unfold waitQ
  rw [waitK_rq x a hw m hu]
  generalize hK : waitK x a w m u = K
  have em : a * ((K * w - x) * c) = K * (w * u) - x * u := by rw [ec]; grind
  refine ⟨(K * w - x) * c, rq_eq ha (by omega) (by rw [ec]; grind), ?_⟩
  generalize hm' : (K * w - x) * c = m' at *
  have key : (0 < a ∧ (K - 1) * (w * u) ≤ x * u + a * m ∧ x * u + a * m < K * (w * u)) ∨ (a < 0 ∧ K * (w * u) < x * u + a * m ∧ x * u + a * m ≤ (K + 1) * (w * u)) := by
    unfold waitK at hK
    generalize x * u + a * m = z at *
    generalize w * u = W at *
    by_cases hp : 0 < a
    · rw [if_pos hp] at hK
      have e := Int.mul_ediv_add_emod z W
      have e1 := Int.emod_nonneg z (show W ≠ 0 by omega)
      have e2 := Int.emod_lt_of_pos z hW
      refine .inl ⟨hp, ?_, ?_⟩
      · rw [← hK, show z / W + 1 - 1 = z / W by omega, Int.mul_comm]; omega
      · rw [← hK, Int.add_mul, Int.one_mul, Int.mul_comm]; omega
    · rw [if_neg hp] at hK
      have e := Int.mul_ediv_add_emod (-z) W
      have e1 := Int.emod_nonneg (-z) (show W ≠ 0 by omega)
      have e2 := Int.emod_lt_of_pos (-z) hW
      refine .inr ⟨by omega, ?_, ?_⟩
      · rw [← hK, Int.sub_mul, Int.neg_mul, Int.one_mul, Int.mul_comm]; omega
      · rw [← hK, show -(-z / W) - 1 + 1 = -(-z / W) by omega, Int.neg_mul, Int.mul_comm]; omega
  have dvm : w * u ∣ x * u + a * m' := ⟨K, by rw [em]; grind⟩
  have noW : ∀ {i j : Int}, x * u + a * i = w * u * j → (j ≤ K - 1 → x * u + a * i ≤ (K - 1) * (w * u)) ∧ (K ≤ j → K * (w * u) ≤ x * u + a * i) ∧ (j ≤ K → x * u + a * i ≤ K * (w * u)) ∧ (K + 1 ≤ j → (K + 1) * (w * u) ≤ x * u + a * i) := fun {i j} e => by
    rw [e, Int.mul_comm (w * u) j]
    exact ⟨fun h => Int.mul_le_mul_of_nonneg_right h (by omega), fun h => Int.mul_le_mul_of_nonneg_right h (by omega), fun h => Int.mul_le_mul_of_nonneg_right h (by omega), fun h => Int.mul_le_mul_of_nonneg_right h (by omega)⟩
  rcases key with ⟨hp, k1, k2⟩ | ⟨hn, k1, k2⟩
  · rw [Int.sub_mul, Int.one_mul] at k1
    have l1 : a * m < a * m' := by omega
    have l2 : a * (m' - m) ≤ a * (w * u) := by
      rw [Int.mul_sub]
      have : w * u ≤ a * (w * u) := by
        have := Int.mul_le_mul_of_nonneg_right (show 1 ≤ a by omega) (show 0 ≤ w * u by omega)
        rwa [Int.one_mul] at this
      omega
    refine ⟨Int.lt_of_mul_lt_mul_left l1 (by omega), by have := Int.le_of_mul_le_mul_left l2 hp; omega, dvm, fun i h1 h2 ⟨j, e⟩ => ?_⟩
    have q1 := Int.mul_lt_mul_of_pos_left h1 hp
    have q2 := Int.mul_lt_mul_of_pos_left h2 hp
    obtain ⟨n1, n2, -, -⟩ := noW e
    rw [Int.sub_mul, Int.one_mul] at n1
    by_cases hj : j ≤ K - 1
    · have := n1 hj; omega
    · have := n2 (by omega); omega
  · rw [Int.add_mul, Int.one_mul] at k2
    have l1 : a * m' < a * m := by omega
    have l1' : -a * m < -a * m' := by rw [Int.neg_mul, Int.neg_mul]; omega
    have l2 : -a * (m' - m) ≤ -a * (w * u) := by
      rw [Int.mul_sub, Int.neg_mul, Int.neg_mul]
      have : w * u ≤ -a * (w * u) := by
        have := Int.mul_le_mul_of_nonneg_right (show 1 ≤ -a by omega) (show 0 ≤ w * u by omega)
        rwa [Int.one_mul] at this
      omega
    refine ⟨Int.lt_of_mul_lt_mul_left l1' (by omega), by have := Int.le_of_mul_le_mul_left l2 (by omega); omega, dvm, fun i h1 h2 ⟨j, e⟩ => ?_⟩
    have q1 := Int.mul_lt_mul_of_pos_left h1 (show 0 < -a by omega)
    have q2 := Int.mul_lt_mul_of_pos_left h2 (show 0 < -a by omega)
    rw [Int.neg_mul, Int.neg_mul] at q1 q2
    obtain ⟨-, -, n3, n4⟩ := noW e
    rw [Int.add_mul, Int.one_mul] at n4
    by_cases hj : j ≤ K
    · have := n3 hj; omega
    · have := n4 (by omega); omega
theorem rq_lt {m n u : Int} (hu : 0 < u) : rq m u < rq n u ↔ m < n := by
  have u0 : (0 : Rat) < u := Rat.intCast_pos.mpr hu
  unfold rq
  rw [Rat.div_lt_iff u0, Rat.div_mul_cancel (Rat.ne_of_gt u0), Rat.intCast_lt_intCast]
/-- the next hit -/
def nextQ (r : Run) (t : Rat) : Rat := if r.a = 0 then waitQ r.y r.b r.h t else if r.b = 0 then waitQ r.x r.a r.w t else if waitQ r.y r.b r.h t < waitQ r.x r.a r.w t then waitQ r.y r.b r.h t else waitQ r.x r.a r.w t
def wallX (r : Run) (u m : Int) : Prop := r.a ≠ 0 ∧ r.w * u ∣ r.x * u + r.a * m
def wallY (r : Run) (u m : Int) : Prop := r.b ≠ 0 ∧ r.h * u ∣ r.y * u + r.b * m
def wallAt (r : Run) (u m : Int) : Prop := wallX r u m ∨ wallY r u m
structure IsNext (r : Run) (u m m' : Int) : Prop where
  lt : m < m'
  le : m' ≤ m + 12 * u
  at_ : wallAt r u m'
  no : ∀ i, m < i → i < m' → ¬ wallAt r u i
theorem next_tick {r : Run} (k : r.Ok) {u : Int} (hu : 0 < u) (ha : r.a ≠ 0 → r.a ∣ u) (hb : r.b ≠ 0 → r.b ∣ u) (m : Int) : ∃ m', nextQ r (rq m u) = rq m' u ∧ IsNext r u m m' := by
  have hw : 0 < r.w := by have := k.w1; omega
  have hh : 0 < r.h := by have := k.h1; omega
  have w12 : r.w * u ≤ 12 * u := Int.mul_le_mul_of_nonneg_right k.w2 (by omega)
  have h12 : r.h * u ≤ 12 * u := Int.mul_le_mul_of_nonneg_right k.h2 (by omega)
  unfold nextQ
  by_cases h1 : r.a = 0
  · have h2 : r.b ≠ 0 := fun e => k.ab ⟨h1, e⟩
    rw [if_pos h1]
    obtain ⟨m', e, l1, l2, d, n⟩ := wait_tick (x := r.y) m hh hu h2 (hb h2)
    exact ⟨m', e, l1, by omega, .inr ⟨h2, d⟩, fun i a b z => z.elim (fun q => q.1 h1) fun q => n i a b q.2⟩
  · rw [if_neg h1]
    obtain ⟨m1, e, l1, l2, d, n⟩ := wait_tick (x := r.x) m hw hu h1 (ha h1)
    by_cases h2 : r.b = 0
    · rw [if_pos h2]
      exact ⟨m1, e, l1, by omega, .inl ⟨h1, d⟩, fun i a b z => z.elim (fun q => n i a b q.2) fun q => q.1 h2⟩
    · rw [if_neg h2]
      obtain ⟨m2, e', l1', l2', d', n'⟩ := wait_tick (x := r.y) m hh hu h2 (hb h2)
      rw [e, e']
      by_cases hl : m2 < m1
      · rw [if_pos ((rq_lt hu).mpr hl)]
        exact ⟨m2, rfl, l1', by omega, .inr ⟨h2, d'⟩, fun i a b z => z.elim (fun q => n i a (by omega) q.2) fun q => n' i a b q.2⟩
      · rw [if_neg fun q => hl ((rq_lt hu).mp q)]
        exact ⟨m1, rfl, l1, by omega, .inl ⟨h1, d⟩, fun i a b z => z.elim (fun q => n i a b q.2) fun q => n' i a (by omega) q.2⟩
theorem IsNext.uniq {r : Run} {u m m1 m2 : Int} (h1 : IsNext r u m m1) (h2 : IsNext r u m m2) : m1 = m2 := by
  rcases (by omega : m1 < m2 ∨ m1 = m2 ∨ m2 < m1) with h | h | h
  · exact absurd h1.at_ (h2.no m1 h1.lt h)
  · exact h
  · exact absurd h2.at_ (h1.no m2 h2.lt h)
def hT (r : Run) : Nat → Rat
  | 0 => 0
  | n + 1 => nextQ r (hT r n)
def hN (r : Run) (u : Int) (n : Nat) : Int := (hT r n * u).floor
theorem hN_of {r : Run} {u m : Int} (hu : 0 < u) {n : Nat} (h : hT r n = rq m u) : hN r u n = m := by
  have u0 : (u : Rat) ≠ 0 := Rat.ne_of_gt (Rat.intCast_pos.mpr hu)
  unfold hN
  rw [h]
  unfold rq
  rw [Rat.div_mul_cancel u0, Rat.floor_intCast]
theorem hT_tick {r : Run} (k : r.Ok) {u : Int} (hu : 0 < u) (ha : r.a ≠ 0 → r.a ∣ u) (hb : r.b ≠ 0 → r.b ∣ u) : ∀ n : Nat, hT r n = rq (hN r u n) u ∧ 0 ≤ hN r u n ∧ hN r u n ≤ 12 * u * n
  | 0 => by
    have e : hT r 0 = rq 0 u := by rw [rq_div, Rat.zero_divInt]; rfl
    rw [hN_of hu e]
    exact ⟨e, Int.le_refl _, by simp⟩
  | n + 1 => by
    obtain ⟨e, h0, h1⟩ := hT_tick k hu ha hb n
    obtain ⟨m', e2, x⟩ := next_tick k hu ha hb (hN r u n)
    have e3 : hT r (n + 1) = rq m' u := by
      show nextQ r (hT r n) = _
      rw [e]
      exact e2
    rw [hN_of hu e3]
    have := x.lt
    have := x.le
    refine ⟨e3, by omega, ?_⟩
    rw [Int.natCast_add, Int.mul_add]
    simp only [Int.natCast_one, Int.mul_one]
    omega
theorem hN_next {r : Run} (k : r.Ok) {u : Int} (hu : 0 < u) (ha : r.a ≠ 0 → r.a ∣ u) (hb : r.b ≠ 0 → r.b ∣ u) (n : Nat) : IsNext r u (hN r u n) (hN r u (n + 1)) := by
  obtain ⟨e, h0, h1⟩ := hT_tick k hu ha hb n
  obtain ⟨m', e2, x⟩ := next_tick k hu ha hb (hN r u n)
  have e3 : hT r (n + 1) = rq m' u := by
    show nextQ r (hT r n) = _
    rw [e]
    exact e2
  rw [hN_of hu e3]
  exact x
/-- the unit of a run -/
def unitOf (r : Run) : Int := (unitN [r.a, r.b] : Int)
theorem unit_facts {r : Run} (k : r.Ok) : 0 < unitOf r ∧ unitOf r ≤ 36 ∧ (r.a ≠ 0 → r.a ∣ unitOf r) ∧ (r.b ≠ 0 → r.b ∣ unitOf r) := by
  have hu := unitN_pos [r.a, r.b]
  have hu2 : unitN [r.a, r.b] ≤ 6 ^ 2 := unitN_le [r.a, r.b] 6 (by decide) (fun n hn => by
    have := k.a1; have := k.a2; have := k.b1; have := k.b2
    simp only [List.mem_cons, List.not_mem_nil, or_false] at hn
    rcases hn with e | e <;> omega)
  unfold unitOf
  exact ⟨by omega, by omega, unitN_dvd (by simp), unitN_dvd (by simp)⟩
/-- how great a hit's time is -/
theorem rq_bound {m u : Int} (hu : 0 < u) (h0 : 0 ≤ m) : 0 ≤ (rq m u).num ∧ (rq m u).num ≤ m ∧ ((rq m u).den : Int) ≤ u := by
  have h := low_pos (n := m) hu
  have g : 0 ≤ (Int.gcd m u : Int) := by omega
  rw [← h.1, ← h.2]
  exact ⟨Int.ediv_nonneg h0 g, Int.ediv_le_self _ h0, Int.ediv_le_self _ (by omega)⟩
theorem hT_bound {r : Run} (k : r.Ok) (n : Nat) (hn : n ≤ 30000) : 0 ≤ (hT r n).num ∧ (hT r n).num ≤ 12960000 ∧ (hT r n).den ≤ 36 := by
  obtain ⟨hu, hu2, ha, hb⟩ := unit_facts k
  obtain ⟨e, h0, h1⟩ := hT_tick k hu ha hb n
  have b := rq_bound hu h0
  rw [← e] at b
  have : 12 * unitOf r * n ≤ 432 * 30000 := Int.mul_le_mul (by omega) (by omega) (by omega) (by decide)
  exact ⟨b.1, by omega, by omega⟩
def wallsX (r : Run) (t : Rat) : Str := if r.a ≠ 0 then (if posX r t = 0 then ("L" : Str) else if posX r t = r.w then ("R" : Str) else ("" : Str)) else ("" : Str)
def wallsY (r : Run) (t : Rat) : Str := if r.b ≠ 0 then (if posY r t = 0 then ("B" : Str) else if posY r t = r.h then ("T" : Str) else ("" : Str)) else ("" : Str)
def wallsS (r : Run) (t : Rat) : Str := wallsX r t ++ wallsY r t
def hitD (r : Run) (i : Nat) : PyData := .tuple [fr (hT r (i + 1)), .str (wallsS r (hT r (i + 1)))]
def hitsL (r : Run) (n : Nat) : List PyData := (List.range n).map (hitD r)
theorem rq_is_zero {m u : Int} (hu : 0 < u) : rq m u = 0 ↔ m = 0 := by
  constructor
  · intro h
    refine rq_inj hu ?_
    rw [h, rq_div, Rat.zero_divInt]
  · intro h; rw [h, rq_div, Rat.zero_divInt]
theorem rq_is_int {m u w : Int} (hu : 0 < u) : rq m u = (w : Rat) ↔ m = w * u := by
  have u0 : (u : Rat) ≠ 0 := Rat.ne_of_gt (Rat.intCast_pos.mpr hu)
  have e : (w : Rat) = rq (w * u) u := by
    unfold rq
    rw [Rat.intCast_mul]
    grind
  rw [e]
  exact ⟨rq_inj hu, fun h => by rw [h]⟩
theorem dirI_zero {z W A : Int} : dirI z W A = 0 ↔ A = 0 := by
  unfold dirI
  repeat' split
  all_goals omega
theorem ax_pos {r : Run} (k : r.Ok) {u : Int} (hu : 0 < u) (hd : r.a ≠ 0 → r.a ∣ u) (n : Nat) : (wX r u n).1 + (wX r u n).2 = (wX r u (n + 1)).1 ∧ ((wX r u n).2 = 0 ↔ r.a = 0) := ⟨rfl, by rw [(wX_fold k hu hd n).2]; exact dirI_zero⟩
theorem ay_pos {r : Run} (k : r.Ok) {u : Int} (hu : 0 < u) (hd : r.b ≠ 0 → r.b ∣ u) (n : Nat) : (wY r u n).1 + (wY r u n).2 = (wY r u (n + 1)).1 ∧ ((wY r u n).2 = 0 ↔ r.b = 0) := ⟨rfl, by rw [(wY_fold k hu hd n).2]; exact dirI_zero⟩
theorem axName_if {W p q : Int} {A : Int} {l r' : Str} (h : q = 0 ↔ A = 0) : axName W (p, q) l r' = if A ≠ 0 then (if p + q = 0 then l else if p + q = W then r' else "") else "" := by
  unfold axName
  simp only []
  by_cases hA : A = 0
  · rw [if_neg (fun z => z.1 (h.mpr hA)), if_neg (fun z => z hA)]
  · have hq : q ≠ 0 := fun z => hA (h.mp z)
    rw [if_pos hA]
    by_cases h1 : p + q = 0
    · rw [if_pos ⟨hq, .inl h1⟩, if_pos h1, if_pos h1]
    · by_cases h2 : p + q = W
      · rw [if_pos ⟨hq, .inr h2⟩, if_neg h1, if_neg h1, if_pos h2]
      · rw [if_neg (fun z => z.2.elim h1 h2), if_neg h1, if_neg h2]
theorem walls_name {r : Run} (k : r.Ok) {u : Int} (hu : 0 < u) (ha : r.a ≠ 0 → r.a ∣ u) (hb : r.b ≠ 0 → r.b ∣ u) (n : Nat) : wallsS r (rq ((n + 1 : Nat) : Int) u) = wName r u n := by
  unfold wallsS wallsX wallsY wName
  rw [← wX_pos k hu ha, ← wY_pos k hu hb]
  rw [show wX r u n = ((wX r u n).1, (wX r u n).2) from rfl, show wY r u n = ((wY r u n).1, (wY r u n).2) from rfl, axName_if (ax_pos k hu ha n).2, axName_if (ay_pos k hu hb n).2, (ax_pos k hu ha n).1, (ay_pos k hu hb n).1]
  simp only [rq_is_zero hu, rq_is_int hu]
theorem foldI_wall {z m : Int} (hm : 0 < m) : (foldI z m = 0 ∨ foldI z m = m) ↔ m ∣ z := by
  have r0 := Int.emod_nonneg z (show 2 * m ≠ 0 by omega)
  have r1 := Int.emod_lt_of_pos z (show 0 < 2 * m by omega)
  have e := Int.mul_ediv_add_emod z (2 * m)
  generalize hq : z / (2 * m) = q at *
  have em : m ∣ z ↔ m ∣ z % (2 * m) := by
    constructor
    · intro h
      rw [Int.emod_def]
      exact Int.dvd_sub h (Int.dvd_mul_of_dvd_left (Int.dvd_mul_left ..))
    · intro h
      rw [← e]
      exact Int.dvd_add (Int.dvd_mul_of_dvd_left (Int.dvd_mul_left ..)) h
  rw [em]
  unfold foldI
  generalize z % (2 * m) = y at *
  constructor
  · intro h
    have : y = 0 ∨ y = m := by
      split at h <;> omega
    rcases this with h | h
    · rw [h]; exact Int.dvd_zero _
    · rw [h]; exact Int.dvd_refl _
  · rintro ⟨j, rfl⟩
    have j0 : 0 ≤ j := by
      rcases (by omega : 0 ≤ j ∨ j ≤ -1) with h | h
      · exact h
      · have := Int.mul_le_mul_of_nonneg_left h (show 0 ≤ m by omega)
        omega
    have j1 : j < 2 := Int.lt_of_mul_lt_mul_left (a := m) (by omega) (by omega)
    rcases (by omega : j = 0 ∨ j = 1) with h | h
    · subst h; rw [Int.mul_zero]; simp; omega
    · subst h; rw [Int.mul_one]; simp
theorem name_ne {r : Run} (k : r.Ok) {u : Int} (hu : 0 < u) (ha : r.a ≠ 0 → r.a ∣ u) (hb : r.b ≠ 0 → r.b ∣ u) (n : Nat) : wName r u n ≠ "" ↔ wallAt r u ((n + 1 : Nat) : Int) := by
  have hw : 0 < r.w * u := Int.mul_pos (by have := k.w1; omega) hu
  have hh : 0 < r.h * u := Int.mul_pos (by have := k.h1; omega) hu
  have e1 : wallX r u ((n + 1 : Nat) : Int) ↔ r.a ≠ 0 ∧ ((wX r u (n + 1)).1 = 0 ∨ (wX r u (n + 1)).1 = r.w * u) := by
    unfold wallX
    rw [(wX_fold k hu ha (n + 1)).1, foldI_wall hw]
  have e2 : wallY r u ((n + 1 : Nat) : Int) ↔ r.b ≠ 0 ∧ ((wY r u (n + 1)).1 = 0 ∨ (wY r u (n + 1)).1 = r.h * u) := by
    unfold wallY
    rw [(wY_fold k hu hb (n + 1)).1, foldI_wall hh]
  unfold wallAt
  rw [e1, e2]
  unfold wName
  rw [show wX r u n = ((wX r u n).1, (wX r u n).2) from rfl, show wY r u n = ((wY r u n).1, (wY r u n).2) from rfl, axName_if (ax_pos k hu ha n).2, axName_if (ay_pos k hu hb n).2, (ax_pos k hu ha n).1, (ay_pos k hu hb n).1]
  generalize (wX r u (n + 1)).1 = p
  generalize (wY r u (n + 1)).1 = q
  by_cases c1 : r.a = 0
  · by_cases c4 : r.b = 0
    · simp [c1, c4]; decide
    · by_cases c5 : q = 0
      · simp [c1, c4, c5]; decide
      · by_cases c6 : q = r.h * u
        · simp [c1, c4, c5, c6]; split <;> decide
        · simp [c1, c4, c5, c6]; decide
  · by_cases c2 : p = 0
    · by_cases c4 : r.b = 0
      · simp [c1, c2, c4]; decide
      · by_cases c5 : q = 0
        · simp [c1, c2, c4, c5]; decide
        · by_cases c6 : q = r.h * u
          · simp [c1, c2, c4, c5, c6]; split <;> decide
          · simp [c1, c2, c4, c5, c6]; decide
    · by_cases c3 : p = r.w * u
      · by_cases c4 : r.b = 0
        · simp [c1, c2, c3, c4]; split <;> decide
        · by_cases c5 : q = 0
          · simp [c1, c2, c3, c4, c5]; split <;> decide
          · by_cases c6 : q = r.h * u
            · simp [c1, c2, c3, c4, c5, c6]; split <;> split <;> decide
            · simp [c1, c2, c3, c4, c5, c6]; split <;> decide
      · by_cases c4 : r.b = 0
        · simp [c1, c2, c3, c4]; decide
        · by_cases c5 : q = 0
          · simp [c1, c2, c3, c4, c5]; decide
          · by_cases c6 : q = r.h * u
            · simp [c1, c2, c3, c4, c5, c6]; split <;> decide
            · simp [c1, c2, c3, c4, c5, c6]; decide
theorem hitsL_succ (r : Run) (n : Nat) : hitsL r (n + 1) = hitsL r n ++ [hitD r n] := by
  unfold hitsL; rw [List.range_succ, List.map_append]; rfl
theorem hitsL_len (r : Run) (n : Nat) : (hitsL r n).length = n := by unfold hitsL; rw [List.length_map, List.length_range]
/-! ### the hits are the walk's -/
theorem fm_congr {α β : Type} {f g : α → Option β} : ∀ {l : List α}, (∀ x ∈ l, f x = g x) → l.filterMap f = l.filterMap g
  | [], _ => rfl
  | x :: xs, h => by rw [List.filterMap_cons, List.filterMap_cons, h x List.mem_cons_self, fm_congr fun y hy => h y (List.mem_cons_of_mem _ hy)]
theorem wShuts_none {r : Run} {u : Int} {m : Nat} : ∀ {j : Nat}, m ≤ j → (∀ i, m ≤ i → i < j → wName r u i = "") → wShuts r u j = wShuts r u m
  | 0, h, _ => by rw [show m = 0 by omega]
  | j + 1, h, n => by
    rcases (by omega : m = j + 1 ∨ m ≤ j) with e | e
    · rw [e]
    · rw [wShuts_succ, wShuts_none e fun i a b => n i a (by omega)]
      unfold wShut
      rw [if_pos (n j e (by omega))]
      simp
def shutD (r : Run) (u : Int) (i : Nat) : PyData := .tuple [.int (hN r u (i + 1)), .str (wallsS r (hT r (i + 1)))]
theorem shuts_hits {r : Run} (k : r.Ok) {u : Int} (hu : 0 < u) (ha : r.a ≠ 0 → r.a ∣ u) (hb : r.b ≠ 0 → r.b ∣ u) : ∀ n : Nat, wShuts r u (hN r u n).toNat = (List.range n).map (shutD r u)
  | 0 => by
    rw [hN_of hu (show hT r 0 = rq 0 u by rw [rq_div, Rat.zero_divInt]; rfl)]
    rfl
  | n + 1 => by
    have ih := shuts_hits k hu ha hb n
    obtain ⟨e0, p0, -⟩ := hT_tick k hu ha hb n
    obtain ⟨e1, p1, -⟩ := hT_tick k hu ha hb (n + 1)
    have x := hN_next k hu ha hb n
    obtain ⟨j, hj⟩ : ∃ j : Nat, (hN r u (n + 1)).toNat = j + 1 := ⟨(hN r u (n + 1)).toNat - 1, by have := x.lt; omega⟩
    have ej : hN r u (n + 1) = ((j + 1 : Nat) : Int) := by omega
    have nm : wName r u j ≠ "" := (name_ne k hu ha hb j).mpr (by rw [← ej]; exact x.at_)
    rw [hj, wShuts_succ, wShuts_none (m := (hN r u n).toNat) (by have := x.lt; omega) fun i a b => by
      by_cases h : wName r u i = ""
      · exact h
      · exact absurd ((name_ne k hu ha hb i).mp h) (x.no _ (by omega) (by omega)), ih, List.range_succ, List.map_append]
    unfold wShut
    rw [if_neg nm]
    show _ ++ [_] = _ ++ [_]
    unfold shutD
    rw [e1, ej, walls_name k hu ha hb, show (1 : Int) + (j : Int) = ((j + 1 : Nat) : Int) by omega]
theorem per_dvd {u T : Int} {r : Run} (k : r.Ok) (hu : 0 < u) (hT : rq T u = perQ r) : r.w * u * 2 ∣ r.a * T ∧ r.h * u * 2 ∣ r.b * T := by
  have u0 : (u : Rat) ≠ 0 := Rat.ne_of_gt (Rat.intCast_pos.mpr hu)
  have hj : ∀ {a w : Int}, (∃ j : Int, (a : Rat) * perQ r = 2 * w * j) → w * u * 2 ∣ a * T := fun {a w} ⟨j, e⟩ => by
    refine ⟨j, ?_⟩
    rw [← hT] at e
    unfold rq at e
    refine Rat.intCast_inj.mp ?_
    rw [Rat.intCast_mul, Rat.intCast_mul, Rat.intCast_mul, Rat.intCast_mul, show ((2 : Int) : Rat) = 2 from rfl]
    grind
  exact ⟨hj (perQ_mul k).1, hj (perQ_mul k).2⟩
theorem wall_shift {u T : Int} {r : Run} (k : r.Ok) (hu : 0 < u) (hT : rq T u = perQ r) (m : Int) : wallAt r u (m + T) ↔ wallAt r u m := by
  obtain ⟨d1, d2⟩ := per_dvd k hu hT
  have e1 : r.w * u ∣ r.a * T := Int.dvd_trans (Int.dvd_mul_right ..) d1
  have e2 : r.h * u ∣ r.b * T := Int.dvd_trans (Int.dvd_mul_right ..) d2
  unfold wallAt wallX wallY
  rw [Int.mul_add, Int.mul_add, ← Int.add_assoc, ← Int.add_assoc, Int.dvd_add_left e1, Int.dvd_add_left e2]
theorem IsNext.shift {u T : Int} {r : Run} (k : r.Ok) (hu : 0 < u) (hT : rq T u = perQ r) {m m' : Int} (x : IsNext r u m m') : IsNext r u (m + T) (m' + T) :=
  ⟨by have := x.lt; omega, by have := x.le; omega, (wall_shift k hu hT m').mpr x.at_, fun i a b z => x.no (i - T) (by omega) (by omega) ((wall_shift k hu hT (i - T)).mp (by rwa [show i - T + T = i by omega]))⟩
/-- the hits behind a whole period -/
theorem hN_shift {u T : Int} {r : Run} (k : r.Ok) (hu : 0 < u) (ha : r.a ≠ 0 → r.a ∣ u) (hb : r.b ≠ 0 → r.b ∣ u) (hT : rq T u = perQ r) {c : Nat} (h0 : hN r u c ≤ T) (h1 : T < hN r u (c + 1)) : ∀ i : Nat, hN r u (c + (i + 1)) = hN r u (i + 1) + T
  | 0 => by
    show hN r u (c + 1) = hN r u 1 + T
    have x := hN_next k hu ha hb c
    have y := (hN_next k hu ha hb 0).shift k hu hT
    have z0 : hN r u 0 = 0 := hN_of hu (show BP.hT r 0 = rq 0 u by rw [rq_div, Rat.zero_divInt]; rfl)
    rw [z0, Int.zero_add] at y
    exact IsNext.uniq ⟨h1, by have := x.le; omega, x.at_, fun i a b => x.no i (by omega) b⟩ y
  | i + 1 => by
    have ih := hN_shift k hu ha hb hT h0 h1 i
    have x := hN_next k hu ha hb (c + (i + 1))
    have y := (hN_next k hu ha hb (i + 1)).shift k hu hT
    rw [← ih] at y
    exact IsNext.uniq x y
theorem hT_shift {u T : Int} {r : Run} (k : r.Ok) (hu : 0 < u) (ha : r.a ≠ 0 → r.a ∣ u) (hb : r.b ≠ 0 → r.b ∣ u) (hT : rq T u = perQ r) {c : Nat} (h0 : hN r u c ≤ T) (h1 : T < hN r u (c + 1)) (i : Nat) : BP.hT r (c + (i + 1)) = BP.hT r (i + 1) + perQ r := by
  rw [(hT_tick k hu ha hb _).1, (hT_tick k hu ha hb (i + 1)).1, hN_shift k hu ha hb hT h0 h1 i, rq_addT, hT]
theorem walls_period {r : Run} (k : r.Ok) (t : Rat) : wallsS r (t + perQ r) = wallsS r t := by
  have e := place_period k t 1
  rw [show ((1 : Int) : Rat) = 1 from rfl, Rat.one_mul] at e
  unfold placeD at e
  injection e with e
  injection e with e1 e2
  injection e2 with e2 _
  unfold wallsS wallsX wallsY
  rw [fr_inj e1, fr_inj e2]
theorem add_rq (p q : Rat) : rq (p.num * q.den + q.num * p.den) (p.den * q.den) = p + q := by
  have e1 := num_den p
  have e2 := num_den q
  have d1 : (p.den : Rat) ≠ 0 := Rat.ne_of_gt (Rat.natCast_pos.mpr p.den_pos)
  have d2 : (q.den : Rat) ≠ 0 := Rat.ne_of_gt (Rat.natCast_pos.mpr q.den_pos)
  unfold rq
  rw [Rat.intCast_add, Rat.intCast_mul, Rat.intCast_mul, Rat.intCast_mul, show ((p.den : Int) : Rat) = (p.den : Rat) from rfl, show ((q.den : Int) : Rat) = (q.den : Rat) from rfl]
  generalize (p.den : Rat) = x at *
  generalize (q.den : Rat) = y at *
  generalize (p.num : Rat) = z at *
  generalize (q.num : Rat) = v at *
  rw [e1, e2]
  grind
theorem rat_lt_le {p q r : Rat} (h1 : p < q) (h2 : q ≤ r) : p < r := Rat.not_le.mp fun h => absurd (Rat.le_trans h2 h) (Rat.not_le.mpr h1)
theorem rat_le_lt {p q r : Rat} (h1 : p ≤ q) (h2 : q < r) : p < r := Rat.not_le.mp fun h => absurd (Rat.le_trans h h1) (Rat.not_le.mpr h2)
/-! ### the hits until a time -/
def cutOut (P : Rat) : PyData → Option PyData
  | .tuple [.tuple [.int n, .int d], z] => if n * (P.den : Int) ≤ P.num * d then some (.tuple [.tuple [.int n, .int d], z]) else none
  | _ => none
theorem cutOut_hit (P : Rat) (r : Run) (i : Nat) : cutOut P (hitD r i) = if hT r (i + 1) ≤ P then some (hitD r i) else none := by
  show (if _ then _ else _) = _
  by_cases h : hT r (i + 1) ≤ P
  · rw [if_pos h, if_pos ((Rat.le_iff _ _).mp h)]; rfl
  · rw [if_neg h, if_neg fun z => h ((Rat.le_iff _ _).mpr z)]
theorem hT_mono {r : Run} (k : r.Ok) (n : Nat) : hT r n < hT r (n + 1) := by
  obtain ⟨hu, -, ha, hb⟩ := unit_facts k
  rw [(hT_tick k hu ha hb n).1, (hT_tick k hu ha hb (n + 1)).1, rq_lt hu]
  exact (hN_next k hu ha hb n).lt
theorem hits_cut {r : Run} (k : r.Ok) (P : Rat) (hP : 0 ≤ P) : ∀ n : Nat, ∃ c, c ≤ n ∧ hT r c ≤ P ∧ (c < n → P < hT r (c + 1)) ∧ (hitsL r n).filterMap (cutOut P) = hitsL r c
  | 0 => ⟨0, Nat.le_refl _, hP, fun h => absurd h (Nat.lt_irrefl _), rfl⟩
  | n + 1 => by
    obtain ⟨c, h1, h2, h3, h4⟩ := hits_cut k P hP n
    rw [hitsL_succ, List.filterMap_append, h4]
    show ∃ c', _ ∧ _ ∧ _ ∧ hitsL r c ++ [hitD r n].filterMap (cutOut P) = _
    rw [List.filterMap_cons, cutOut_hit]
    rcases (by omega : c = n ∨ c < n) with e | e
    · subst e
      by_cases h : hT r (c + 1) ≤ P
      · rw [if_pos h]
        exact ⟨c + 1, Nat.le_refl _, h, fun z => absurd z (Nat.lt_irrefl _), (hitsL_succ r c).symm⟩
      · rw [if_neg h]
        exact ⟨c, by omega, h2, fun _ => Rat.not_le.mp h, by simp⟩
    · have lt : ∀ m, c + 1 ≤ m → P < hT r m := fun m hm => by
        induction m with
        | zero => omega
        | succ m ih =>
          rcases (by omega : c = m ∨ c + 1 ≤ m) with q | q
          · rw [← q]; exact h3 e
          · exact rat_lt_le (ih q) (Rat.le_of_lt (hT_mono k m))
      rw [if_neg fun z => absurd (lt (n + 1) (by omega)) (Rat.not_lt.mpr z)]
      exact ⟨c, by omega, h2, fun _ => h3 e, by simp⟩
theorem hits_take (r : Run) {m n : Nat} (h : m ≤ n) : (hitsL r n).take m = hitsL r m := by
  unfold hitsL
  rw [← List.map_take, List.take_range, Nat.min_eq_left h]
theorem hits_get (r : Run) {n j : Nat} (h : j < n) : (hitsL r n)[j]? = some (hitD r j) := by
  unfold hitsL
  rw [List.getElem?_map, List.getElem?_range h]
  rfl
theorem hits_at {r : Run} {n j : Nat} {z : Int} (e : z = (j : Int)) (h : j < n) : atI (hitsL r n) z = some (hitD r j) := by
  rw [e]
  exact atI_nat (hits_get r h)
theorem pln_walls (r : Run) (t : Rat) : pln (.str (wallsS r t)) = true := by
  unfold wallsS wallsX wallsY
  repeat' split
  all_goals decide +kernel
theorem shp_str {k : Nat} {z : Str} (h : pln (.str z) = true) : Shp k (.str z) := ⟨h, Nat.zero_le _⟩
theorem shp_hit (r : Run) (i : Nat) : Shp 2 (hitD r i) := shp_pair (shp_fr _) (shp_str (pln_walls _ _))
theorem shp_hits {ds : List PyData} (r : Run) (n : Nat) (h : ∀ d ∈ ds, d ∈ hitsL r n) : Shp 3 (.list ds) := shp_list fun d hd => by
  have := h d hd
  unfold hitsL at this
  obtain ⟨m, _, rfl⟩ := List.mem_map.mp this
  exact shp_hit r m
theorem sh_hits (r : Run) (n : Nat) : SeqAt.shaped (.list (hitsL r n)) = true := (shp_hits r n fun _ h => h).shaped (by decide)
theorem eqv_hits (r : Run) (n : Nat) : PyData.eqv (.list (hitsL r n)) (.list (hitsL r n)) = true := eqv_self _ (shp_hits r n fun _ h => h).1
section
variable {P : Program} {w : World} {K : PySem.W.Frag} {mg : Str → Option Value} {base : Heap}
/-! ### is_less -/
def TB (t : Rat) : Prop := -1000000000000000 < t.num ∧ t.num < 1000000000000000 ∧ t.den < 10000000
def sp_is_less : DSp where
  n := 2
  wp := fun ds M Q => ∃ (p q : Rat), ds = [.d (fr p), .d (fr q)] ∧ (TB p ∧ TB q) ∧ Q (B (decide (p < q))) M
  mono := fun h ⟨p, q, e, s, k⟩ => ⟨p, q, e, s, h _ _ k⟩
  len := fun ⟨p, q, e, s, k⟩ => by rw [e]; rfl
abbrev s_is_less : Stmt := topS 21
abbrev nm_is_less : List Str := ["one", "two"]
theorem sc_is_less : FnScope nm_is_less ["one", "two"] (defScope s_is_less) := ⟨rfl, rfl, rfl, by decide +kernel, rfl, by decide +kernel, by decide +kernel⟩
theorem ok_is_less {f : Addr} {fd : FuncData} (Fd : Fun K "is_less" "is_less" s_is_less f fd) (hm : mg "is_less" = some (.ref f)) (hb : Binds K fd ["one", "two"] [])  : Def P w K mg base "is_less" 1 sp_is_less := by
  refine def_ok Fd sc_is_less hm hb rfl fun cdv A outer s H E hr ds M Q h => ?_
  obtain ⟨p, r, rfl, ⟨⟨h1, h2, h3⟩, ⟨h4, h5, h6⟩⟩, q⟩ := h
  -- return
  refine dss_cons (ds_ret (de_cmpI ci_lt (de_mul (de_ixT (de_var 0 rfl (de_int (⟨_, _, _, rfl, rfl, rfl, de_ixT (de_var 1 rfl (de_int (⟨_, _, _, rfl, rfl, rfl, ⟨_, _, rfl, rfl, cmul_l (by omega) (by omega), de_mul (de_ixT (de_var 1 rfl (de_int (⟨_, _, _, rfl, rfl, rfl, de_ixT (de_var 0 rfl (de_int (⟨_, _, _, rfl, rfl, rfl, ⟨_, _, rfl, rfl, cmul_l (by omega) (by omega), ⟨_, _, rfl, rfl, ?_⟩⟩⟩)))⟩))))⟩⟩)))⟩)))))))
  have e : (decide (p.num * (r.den : Int) < r.num * (p.den : Int))) = decide (p < r) := by
    by_cases hh : p < r
    · rw [decide_eq_true hh, decide_eq_true ((Rat.lt_iff _ _).mp hh)]
    · rw [decide_eq_false hh, decide_eq_false fun z => hh ((Rat.lt_iff _ _).mpr z)]
  rw [← e] at q
  exact q
/-! ### wait_for_wall -/
def sp_wait_for_wall : DSp where
  n := 4
  wp := fun ds M Q => ∃ (x a w : Int) (t : Rat), ds = [I x, I a, I w, .d (fr t)] ∧ (0 ≤ x ∧ x ≤ 12 ∧ -6 ≤ a ∧ a ≤ 6 ∧ 1 ≤ w ∧ w ≤ 12 ∧ TB t) ∧ Q (.d (if a = 0 then .none else fr (waitQ x a w t))) M
  mono := fun h ⟨x, a, w, t, e, s, k⟩ => ⟨x, a, w, t, e, s, h _ _ k⟩
  len := fun ⟨x, a, w, t, e, s, k⟩ => by rw [e]; rfl
abbrev s_wait_for_wall : Stmt := topS 24
abbrev nm_wait_for_wall : List Str := ["start", "speed", "side", "time", "here", "unit", "ahead"]
theorem sc_wait_for_wall : FnScope nm_wait_for_wall ["start", "speed", "side", "time"] (defScope s_wait_for_wall) := ⟨rfl, rfl, rfl, by decide +kernel, rfl, by decide +kernel, by decide +kernel⟩
theorem ok_wait_for_wall {f : Addr} {fd : FuncData} (Fd : Fun K "wait_for_wall" "wait_for_wall" s_wait_for_wall f fd) (hm : mg "wait_for_wall" = some (.ref f)) (hb : Binds K fd ["start", "speed", "side", "time"] []) (d_lowest : Def P w K mg base "lowest" 2 sp_lowest) : Def P w K mg base "wait_for_wall" 3 sp_wait_for_wall := by
  refine def_ok Fd sc_wait_for_wall hm hb rfl fun cdv A outer s H E hr ds M Q h => ?_
  obtain ⟨x, a, w', t, rfl, ⟨x1, x2, a1, a2, w1, w2, h1, h2, h3⟩, q⟩ := h
  have d0 := t.den_pos
  have U0 : 0 < w' * (t.den : Int) := Int.mul_pos (by omega) (by omega)
  have U1 : w' * (t.den : Int) ≤ 12 * (t.den : Int) := Int.mul_le_mul_of_nonneg_right w2 (by omega)
  -- if speed == 0:
  refine dss_cons (ds_if (dt_cmpI ci_eq (de_var 1 rfl (de_int (⟨_, _, rfl, rfl, ite2 (fun hi => ?_) (fun hi => ?_)⟩)))))
  · have h0 : a = 0 := of_decide_eq_true hi
    rw [if_pos h0] at q
    exact dss_cons (ds_ret (de_non q))
  have h0 : a ≠ 0 := fun e => hi (decide_eq_true e)
  rw [if_neg h0] at q
  refine dss_nil ?_
  -- here, unit
  refine dss_cons (ds_par 4 5 sc_wait_for_wall.nd (da_cons (de_add (de_mul (de_var 0 rfl (de_ixT (de_var 3 rfl (de_int (⟨_, _, _, rfl, rfl, rfl, ⟨_, _, rfl, rfl, cmul_l (by omega) (by omega), de_mul (de_var 1 rfl (de_ixT (de_var 3 rfl (de_int (⟨_, _, _, rfl, rfl, rfl, ⟨_, _, rfl, rfl, cmul_l (by omega) (by omega), ⟨_, _, rfl, rfl, da_cons (de_mul (de_var 2 rfl (de_ixT (de_var 3 rfl (de_int (⟨_, _, _, rfl, rfl, rfl, ⟨_, _, rfl, rfl, cmul_l (by omega) (by omega), da_nil (⟨_, _, rfl, ?_⟩)⟩⟩))))))⟩⟩⟩)))))⟩⟩)))))))))
  have X1 : x * (t.den : Int) ≤ 12 * t.den := Int.mul_le_mul_of_nonneg_right x2 (by omega)
  have X0 : 0 ≤ x * (t.den : Int) := Int.mul_nonneg x1 (by omega)
  generalize hz : x * (t.den : Int) + a * t.num = z
  generalize hW : w' * (t.den : Int) = W at *
  -- ahead =
  refine dss_cons (ds_set 6 sc_wait_for_wall.nd (de_if (dt_cmpI ci_gt (de_var 1 rfl (de_int (⟨_, _, rfl, rfl, ite2 (fun hi => de_add (de_div (de_var 4 rfl (de_var 5 rfl (⟨_, _, rfl, rfl, ⟨U0, by omega⟩, de_int (⟨_, _, rfl, rfl, ?_⟩)⟩))))) (fun hi => de_sub (de_neg (de_div (de_neg (de_var 4 rfl (⟨_, rfl, de_var 5 rfl (⟨_, _, rfl, rfl, ⟨U0, by omega⟩, ⟨_, rfl, de_int (⟨_, _, rfl, rfl, ?_⟩)⟩⟩)⟩))))))⟩))))))
  · have hp : 0 < a := of_decide_eq_true hi
    have e : waitK x a w' t.num t.den = z / W + 1 := by unfold waitK; rw [if_pos hp, hz, hW]
    rw [← e]
    unfold waitQ at q
    generalize waitK x a w' t.num t.den = k at *
    refine dss_cons (ds_ret (de_call d_lowest (hr.mono (by decide)) (da_cons (de_sub (de_mul (de_var 6 rfl (de_var 2 rfl (⟨_, _, rfl, rfl, cmul_r (by omega) (by omega), de_var 0 rfl (⟨_, _, rfl, rfl, da_cons (de_var 1 rfl (da_nil (⟨_, _, rfl, ⟨h0, by omega, (fit_small (by omega) (by omega)).f4⟩, q⟩)))⟩)⟩))))))))
  · have hp : ¬ 0 < a := fun z => hi (decide_eq_true z)
    have e : waitK x a w' t.num t.den = -(-z / W) - 1 := by unfold waitK; rw [if_neg hp, hz, hW]
    rw [← e]
    unfold waitQ at q
    generalize waitK x a w' t.num t.den = k at *
    refine dss_cons (ds_ret (de_call d_lowest (hr.mono (by decide)) (da_cons (de_sub (de_mul (de_var 6 rfl (de_var 2 rfl (⟨_, _, rfl, rfl, cmul_r (by omega) (by omega), de_var 0 rfl (⟨_, _, rfl, rfl, da_cons (de_var 1 rfl (da_nil (⟨_, _, rfl, ⟨h0, by omega, (fit_small (by omega) (by omega)).f4⟩, q⟩)))⟩)⟩))))))))
/-! ### walls_at -/
def sp_walls_at : DSp where
  n := 2
  wp := fun ds M Q => ∃ (r : Run) (t : Rat), ds = [.d r.data, .d (fr t)] ∧ r.Ok ∧ TB t ∧ Q (S (wallsS r t)) M
  mono := fun h ⟨x, t, e, s, s2, k⟩ => ⟨x, t, e, s, s2, h _ _ k⟩
  len := fun ⟨x, t, e, s, s2, k⟩ => by rw [e]; rfl
theorem fr_zero : fr 0 = .tuple [.int 0, .int 1] := rfl
theorem fr_int (w : Int) : fr (w : Rat) = .tuple [.int w, .int 1] := rfl
theorem eqv_zero (q : Rat) : PyData.eqv (fr q) (.tuple [.int 0, .int 1]) = decide (q = 0) := eqv_fr q 0
theorem eqv_fint (q : Rat) (w : Int) : PyData.eqv (fr q) (.tuple [.int w, .int 1]) = decide (q = (w : Rat)) := eqv_fr q (w : Rat)
theorem sh_fr (q : Rat) : SeqAt.shaped (fr q) = true := (shp_fr (k := 0) q).shaped (by decide)
theorem sh_i2 (w v : Int) : SeqAt.shaped (.tuple [.int w, .int v]) = true := (shp_pair (k := 0) (shp_int w) (shp_int v)).shaped (by decide)
abbrev s_walls_at : Stmt := topS 25
abbrev nm_walls_at : List Str := ["run", "time", "spot", "walls"]
theorem sc_walls_at : FnScope nm_walls_at ["run", "time"] (defScope s_walls_at) := ⟨rfl, rfl, rfl, by decide +kernel, rfl, by decide +kernel, by decide +kernel⟩
theorem ok_walls_at {f : Addr} {fd : FuncData} (Fd : Fun K "walls_at" "walls_at" s_walls_at f fd) (hm : mg "walls_at" = some (.ref f)) (hb : Binds K fd ["run", "time"] []) (d_place_at : Def P w K mg base "place_at" 4 sp_place_at) : Def P w K mg base "walls_at" 5 sp_walls_at := by
  refine def_ok Fd sc_walls_at hm hb rfl fun cdv A outer s H E hr ds M Q h => ?_
  obtain ⟨r, t, rfl, k, ⟨h1, h2, h3⟩, q⟩ := h
  have d0 := t.den_pos
  -- spot, walls
  refine dss_cons (ds_par 2 3 sc_walls_at.nd (da_cons (de_call d_place_at (hr.mono (by decide)) (da_cons (de_var 0 rfl (da_cons (de_var 1 rfl (da_nil (⟨_, _, _, rfl, k, ⟨by omega, fit_small (by omega) (by omega)⟩, da_cons (de_str (da_nil (⟨_, _, rfl, ?_⟩)))⟩)))))))))
  rw [rq_self]
  refine dss_cut (fun ρ' M' => M' = M ∧ ρ' = [some (.d r.data), some (.d (fr t)), some (.d (placeD r t)), some (S (wallsX r t))]) ?_ ?_
  · refine ds_if (dt_cmpI ci_ne (de_ixT (de_var 0 rfl (de_int (⟨_, _, _, rfl, rfl, rfl, de_int (⟨_, _, rfl, rfl, ite2 (fun hi => ?_) (fun hi => ?_)⟩)⟩)))))
    · have ha : r.a ≠ 0 := by simpa using hi
      refine dss_cons (ds_augS 3 sc_walls_at.nd rfl (de_if (dt_eqD hr.units (de_ixT (de_var 2 rfl (de_int (⟨_, _, _, rfl, rfl, rfl, de_tup (da_cons (de_int (da_cons (de_int (da_nil (⟨[_, _], rfl, rfl, ⟨_, _, rfl, rfl, sh_fr _, sh_i2 _ _, ite2 (fun hi => de_str (⟨_, rfl, ?_, ?_⟩)) (fun hi => de_if (dt_eqD hr.units (de_ixT (de_var 2 rfl (de_int (⟨_, _, _, rfl, rfl, rfl, de_tup (da_cons (de_ixT (de_var 0 rfl (de_int (⟨_, _, _, rfl, rfl, rfl, da_cons (de_int (da_nil (⟨[_, _], rfl, rfl, ⟨_, _, rfl, rfl, sh_fr _, sh_i2 _ _, ite2 (fun hi2 => de_str (⟨_, rfl, ?_, ?_⟩)) (fun hi2 => de_str (⟨_, rfl, ?_, ?_⟩))⟩⟩)))⟩)))))⟩))))))⟩⟩))))))⟩)))))))
      · exact (by decide)
      · have e : wallsX r t = "L" := by unfold wallsX; rw [if_pos ha, if_pos (show posX r t = 0 from of_decide_eq_true ((eqv_zero _).symm.trans hi))]
        refine dss_nil ⟨rfl, ?_⟩
        rw [e]
        rfl
      · exact (by decide)
      · have e : wallsX r t = "R" := by unfold wallsX; rw [if_pos ha, if_neg (show ¬ posX r t = 0 from fun z => hi ((eqv_zero _).trans (decide_eq_true z))), if_pos (show posX r t = r.w from of_decide_eq_true ((eqv_fint _ _).symm.trans hi2))]
        refine dss_nil ⟨rfl, ?_⟩
        rw [e]
        rfl
      · exact (by decide)
      · have e : wallsX r t = "" := by unfold wallsX; rw [if_pos ha, if_neg (show ¬ posX r t = 0 from fun z => hi ((eqv_zero _).trans (decide_eq_true z))), if_neg (show ¬ posX r t = r.w from fun z => hi2 ((eqv_fint _ _).trans (decide_eq_true z)))]
        refine dss_nil ⟨rfl, ?_⟩
        rw [e]
        rfl
    · have ha : r.a = 0 := by simpa using hi
      refine dss_nil ⟨rfl, ?_⟩
      have e : wallsX r t = "" := by unfold wallsX; rw [if_neg (fun z => z ha)]
      rw [e]
      rfl
  rintro ρ' M2 ⟨e2, rfl⟩
  subst e2
  refine dss_cut (fun ρ' M' => M' = M2 ∧ ρ' = [some (.d r.data), some (.d (fr t)), some (.d (placeD r t)), some (S (wallsS r t))]) ?_ ?_
  · refine ds_if (dt_cmpI ci_ne (de_ixT (de_var 0 rfl (de_int (⟨_, _, _, rfl, rfl, rfl, de_int (⟨_, _, rfl, rfl, ite2 (fun hi => ?_) (fun hi => ?_)⟩)⟩)))))
    · have ha : r.b ≠ 0 := by simpa using hi
      have lx : (wallsX r t).length ≤ 1 := by unfold wallsX; repeat' split
                                              all_goals decide
      refine dss_cons (ds_augS 3 sc_walls_at.nd rfl (de_if (dt_eqD hr.units (de_ixT (de_var 2 rfl (de_int (⟨_, _, _, rfl, rfl, rfl, de_tup (da_cons (de_int (da_cons (de_int (da_nil (⟨[_, _], rfl, rfl, ⟨_, _, rfl, rfl, sh_fr _, sh_i2 _ _, ite2 (fun hi => de_str (⟨_, rfl, ?_, ?_⟩)) (fun hi => de_if (dt_eqD hr.units (de_ixT (de_var 2 rfl (de_int (⟨_, _, _, rfl, rfl, rfl, de_tup (da_cons (de_ixT (de_var 0 rfl (de_int (⟨_, _, _, rfl, rfl, rfl, da_cons (de_int (da_nil (⟨[_, _], rfl, rfl, ⟨_, _, rfl, rfl, sh_fr _, sh_i2 _ _, ite2 (fun hi2 => de_str (⟨_, rfl, ?_, ?_⟩)) (fun hi2 => de_str (⟨_, rfl, ?_, ?_⟩))⟩⟩)))⟩)))))⟩))))))⟩⟩))))))⟩)))))))
      · exact Nat.le_trans (Nat.add_le_add_right lx _) (by decide)
      · have e : wallsS r t = wallsX r t ++ ("B" : Str) := by unfold wallsS wallsY; rw [if_pos ha, if_pos (show posY r t = 0 from of_decide_eq_true ((eqv_zero _).symm.trans hi))]
        refine dss_nil ⟨rfl, ?_⟩
        rw [e]
        rfl
      · exact Nat.le_trans (Nat.add_le_add_right lx _) (by decide)
      · have e : wallsS r t = wallsX r t ++ ("T" : Str) := by unfold wallsS wallsY; rw [if_pos ha, if_neg (show ¬ posY r t = 0 from fun z => hi ((eqv_zero _).trans (decide_eq_true z))), if_pos (show posY r t = r.h from of_decide_eq_true ((eqv_fint _ _).symm.trans hi2))]
        refine dss_nil ⟨rfl, ?_⟩
        rw [e]
        rfl
      · exact Nat.le_trans (Nat.add_le_add_right lx _) (by decide)
      · have e : wallsS r t = wallsX r t ++ ("" : Str) := by unfold wallsS wallsY; rw [if_pos ha, if_neg (show ¬ posY r t = 0 from fun z => hi ((eqv_zero _).trans (decide_eq_true z))), if_neg (show ¬ posY r t = r.h from fun z => hi2 ((eqv_fint _ _).trans (decide_eq_true z)))]
        refine dss_nil ⟨rfl, ?_⟩
        rw [e]
        rfl
    · have ha : r.b = 0 := by simpa using hi
      refine dss_nil ⟨rfl, ?_⟩
      have e : wallsS r t = wallsX r t := by unfold wallsS wallsY; rw [if_neg (fun z => z ha), str_nil']
      rw [e]
  rintro ρ' M' ⟨rfl, rfl⟩
  exact dss_cons (ds_ret (de_var 3 rfl q))
/-! ### hit_after -/
theorem rq_den_le (n : Int) {d : Int} (h0 : d ≠ 0) (h1 : -6 ≤ d) (h2 : d ≤ 6) : (rq n d).den ≤ 6 := by
  have main : ∀ (n d : Int), 0 < d → d ≤ 6 → (rq n d).den ≤ 6 := fun n d p q => by
    have := Int.le_of_dvd p (rq_den_dvd n p)
    omega
  by_cases h : 0 < d
  · exact main n d h h2
  · have e : rq n d = rq (-n) (-d) := by
      have := rq_scale (c := -1) (n := n) (d := d) (by decide)
      rw [← this]
      congr 1 <;> omega
    rw [e]
    exact main _ _ (by omega) (by omega)
theorem num_le_of {q : Rat} {c : Int} (hc : 0 ≤ c) (h : q ≤ c) : q.num ≤ c * q.den := by
  have := (Rat.le_iff _ _).mp h
  rw [show (c : Rat).num = c from rfl, show (c : Rat).den = 1 from rfl] at this
  omega
theorem wait_TB {x a w : Int} {t : Rat} (hx : 0 ≤ x ∧ x ≤ 12) (ha : a ≠ 0) (ha1 : -6 ≤ a) (ha2 : a ≤ 6) (hw1 : 1 ≤ w) (hw2 : w ≤ 12) (ht : 0 ≤ t.num ∧ t.num < 1000000000 ∧ t.den < 1000000) : TB (waitQ x a w t) := by
  have hd : (waitQ x a w t).den ≤ 6 := rq_den_le _ ha ha1 ha2
  -- through ticks of 720720 times the denominator
  obtain ⟨c, hc⟩ : ∃ c : Int, a * c = 60 * t.den := by
    have : a = -6 ∨ a = -5 ∨ a = -4 ∨ a = -3 ∨ a = -2 ∨ a = -1 ∨ a = 1 ∨ a = 2 ∨ a = 3 ∨ a = 4 ∨ a = 5 ∨ a = 6 := by omega
    rcases this with e | e | e | e | e | e | e | e | e | e | e | e <;> subst e
    · exact ⟨-10 * t.den, by omega⟩
    · exact ⟨-12 * t.den, by omega⟩
    · exact ⟨-15 * t.den, by omega⟩
    · exact ⟨-20 * t.den, by omega⟩
    · exact ⟨-30 * t.den, by omega⟩
    · exact ⟨-60 * t.den, by omega⟩
    · exact ⟨60 * t.den, by omega⟩
    · exact ⟨30 * t.den, by omega⟩
    · exact ⟨20 * t.den, by omega⟩
    · exact ⟨15 * t.den, by omega⟩
    · exact ⟨12 * t.den, by omega⟩
    · exact ⟨10 * t.den, by omega⟩
  have d0 := t.den_pos
  have hu : (0 : Int) < 60 * t.den := by omega
  have et : t = rq (60 * t.num) (60 * t.den) := by rw [rq_scale (by decide), rq_self]
  obtain ⟨m', e, l1, l2, -⟩ := wait_tick (x := x) (a := a) (w := w) (u := 60 * t.den) (60 * t.num) (by omega) hu ha ⟨c, hc.symm⟩
  rw [← et] at e
  have w12 : w * (60 * (t.den : Int)) ≤ 12 * (60 * t.den) := Int.mul_le_mul_of_nonneg_right hw2 (by omega)
  have b := rq_bound (m := m') hu (by omega)
  rw [← e] at b
  exact ⟨by omega, by omega, by omega⟩
def sp_hit_after : DSp where
  n := 2
  wp := fun ds M Q => ∃ (r : Run) (t : Rat), ds = [.d r.data, .d (fr t)] ∧ r.Ok ∧ (0 ≤ t.num ∧ t.num < 1000000000 ∧ t.den < 1000000) ∧ Q (T [fr (nextQ r t), .str (wallsS r (nextQ r t))]) M
  mono := fun h ⟨x, t, e, s, s2, k⟩ => ⟨x, t, e, s, s2, h _ _ k⟩
  len := fun ⟨x, t, e, s, s2, k⟩ => by rw [e]; rfl
abbrev s_hit_after : Stmt := topS 26
abbrev nm_hit_after : List Str := ["run", "time", "times", "first", "one"]
theorem sc_hit_after : FnScope nm_hit_after ["run", "time"] (defScope s_hit_after) := ⟨rfl, rfl, rfl, by decide +kernel, rfl, by decide +kernel, by decide +kernel⟩
theorem ok_hit_after {f : Addr} {fd : FuncData} (Fd : Fun K "hit_after" "hit_after" s_hit_after f fd) (hm : mg "hit_after" = some (.ref f)) (hb : Binds K fd ["run", "time"] []) (d_is_less : Def P w K mg base "is_less" 1 sp_is_less) (z_len : mg "len" = none) (d_wait_for_wall : Def P w K mg base "wait_for_wall" 3 sp_wait_for_wall) (d_walls_at : Def P w K mg base "walls_at" 5 sp_walls_at) : Def P w K mg base "hit_after" 6 sp_hit_after := by
  refine def_ok Fd sc_hit_after hm hb rfl fun cdv A outer s H E hr ds M Q h => ?_
  obtain ⟨r, t, rfl, k, ht, q⟩ := h
  have k' := k
  obtain ⟨w1, w2, h1, h2, x1, x2, y1, y2, a1, a2, b1, b2, ab⟩ := k'
  have tb : TB t := ⟨by omega, by omega, by omega⟩
  have hx : r.a ≠ 0 → TB (waitQ r.x r.a r.w t) := fun e => wait_TB ⟨x1, by omega⟩ e a1 a2 w1 w2 ht
  have hy : r.b ≠ 0 → TB (waitQ r.y r.b r.h t) := fun e => wait_TB ⟨y1, by omega⟩ e b1 b2 h1 h2 ht
  -- times = [wait
  refine dss_cons (ds_set 2 sc_hit_after.nd (de_lstD (da_cons (de_call d_wait_for_wall (hr.mono (by decide)) (da_cons (de_ixT (de_var 0 rfl (de_int (⟨_, _, _, rfl, rfl, rfl, da_cons (de_ixT (de_var 0 rfl (de_int (⟨_, _, _, rfl, rfl, rfl, da_cons (de_ixT (de_var 0 rfl (de_int (⟨_, _, _, rfl, rfl, rfl, da_cons (de_var 1 rfl (da_nil (⟨_, _, _, _, rfl, ⟨x1, by omega, a1, a2, w1, w2, tb⟩, da_cons (de_call d_wait_for_wall (hr.mono (by decide)) (da_cons (de_ixT (de_var 0 rfl (de_int (⟨_, _, _, rfl, rfl, rfl, da_cons (de_ixT (de_var 0 rfl (de_int (⟨_, _, _, rfl, rfl, rfl, da_cons (de_ixT (de_var 0 rfl (de_int (⟨_, _, _, rfl, rfl, rfl, da_cons (de_var 1 rfl (da_nil (⟨_, _, _, _, rfl, ⟨y1, by omega, b1, b2, h1, h2, tb⟩, da_nil (⟨[_, _], rfl, rfl, ?_⟩)⟩)))⟩))))⟩))))⟩))))))⟩)))⟩))))⟩))))⟩)))))))))
  -- times = [one for one in times if one is not None]
  refine dss_cons (ds_lcL 2 (.one 4) [("one", 4)] nm_hit_after (defScope s_hit_after) sc_hit_after.nd (by decide +kernel) (fun _ _ _ _ _ => pg_name sc_hit_after.nd rfl (Or.inl rfl)) (by decide) (de_var 2 rfl (⟨_, fun p => if isNone p = true then none else some p, rfl, Nat.le_of_ble_eq_true rfl, ?_, ?_⟩)))
  · intro p hp
    refine ⟨_, !isNone p, rfl, fun M2 hM2 => ⟨fun _ _ _ _ _ => dts_one (dt_isnotN (de_var 4 rfl (⟨_, rfl, ⟨rfl, rfl⟩⟩))), ?_⟩⟩
    cases h0 : isNone p with
    | true => exact iteF (if_pos h0)
    | false => exact iteT ⟨p, if_neg (by rw [h0]; decide), fun _ _ _ _ _ => de_var 4 rfl (⟨rfl, rfl⟩)⟩
  by_cases ha : r.a = 0
  · have hb0 : r.b ≠ 0 := fun e => ab ⟨ha, e⟩
    have el : [if r.a = 0 then PyData.none else fr (waitQ r.x r.a r.w t), if r.b = 0 then PyData.none else fr (waitQ r.y r.b r.h t)].filterMap (fun p => if isNone p = true then none else some p) = [fr (waitQ r.y r.b r.h t)] := by
      rw [if_pos ha, if_neg hb0]; rfl
    rw [el]
    have en : nextQ r t = waitQ r.y r.b r.h t := by unfold nextQ; rw [if_pos ha]
    rw [en] at q
    have hy := hy hb0
    generalize waitQ r.y r.b r.h t = z at *
    refine dss_cons (ds_set 3 sc_hit_after.nd (de_if (DW.dt (dw_or (dt_cmpI ci_eq (de_len (da_cons (de_var 2 rfl (da_nil (⟨_, _, rfl, rfl, de_int (⟨_, _, rfl, rfl, iteY rfl (iteT (de_ixL (de_var 2 rfl (de_int (⟨_, _, _, rfl, rfl, rfl, ?_⟩)))))⟩)⟩)))) z_len))))))
    exact dss_cons (ds_ret (de_tup (da_cons (de_var 3 rfl (da_cons (de_call d_walls_at (hr.mono (by decide)) (da_cons (de_var 0 rfl (da_cons (de_var 3 rfl (da_nil (⟨_, _, rfl, k, by assumption, da_nil (⟨[_, _], rfl, rfl, q⟩)⟩)))))))))))) 
  by_cases hb0 : r.b = 0
  · have el : [if r.a = 0 then PyData.none else fr (waitQ r.x r.a r.w t), if r.b = 0 then PyData.none else fr (waitQ r.y r.b r.h t)].filterMap (fun p => if isNone p = true then none else some p) = [fr (waitQ r.x r.a r.w t)] := by
      rw [if_neg ha, if_pos hb0]; rfl
    rw [el]
    have en : nextQ r t = waitQ r.x r.a r.w t := by unfold nextQ; rw [if_neg ha, if_pos hb0]
    rw [en] at q
    have hx := hx ha
    generalize waitQ r.x r.a r.w t = z at *
    refine dss_cons (ds_set 3 sc_hit_after.nd (de_if (DW.dt (dw_or (dt_cmpI ci_eq (de_len (da_cons (de_var 2 rfl (da_nil (⟨_, _, rfl, rfl, de_int (⟨_, _, rfl, rfl, iteY rfl (iteT (de_ixL (de_var 2 rfl (de_int (⟨_, _, _, rfl, rfl, rfl, ?_⟩)))))⟩)⟩)))) z_len))))))
    exact dss_cons (ds_ret (de_tup (da_cons (de_var 3 rfl (da_cons (de_call d_walls_at (hr.mono (by decide)) (da_cons (de_var 0 rfl (da_cons (de_var 3 rfl (da_nil (⟨_, _, rfl, k, by assumption, da_nil (⟨[_, _], rfl, rfl, q⟩)⟩)))))))))))) 
  · have el : [if r.a = 0 then PyData.none else fr (waitQ r.x r.a r.w t), if r.b = 0 then PyData.none else fr (waitQ r.y r.b r.h t)].filterMap (fun p => if isNone p = true then none else some p) = [fr (waitQ r.x r.a r.w t), fr (waitQ r.y r.b r.h t)] := by
      rw [if_neg ha, if_neg hb0]; rfl
    rw [el]
    have en : nextQ r t = if waitQ r.y r.b r.h t < waitQ r.x r.a r.w t then waitQ r.y r.b r.h t else waitQ r.x r.a r.w t := by unfold nextQ; rw [if_neg ha, if_neg hb0]
    rw [en] at q
    have hx := hx ha
    have hy := hy hb0
    generalize waitQ r.x r.a r.w t = z at *
    generalize waitQ r.y r.b r.h t = z2 at *
    refine dss_cons (ds_set 3 sc_hit_after.nd (de_if (DW.dt (dw_or (dt_cmpI ci_eq (de_len (da_cons (de_var 2 rfl (da_nil (⟨_, _, rfl, rfl, de_int (⟨_, _, rfl, rfl, iteN rfl (dw_or1 (dt_not (DT.of_val (de_call d_is_less (hr.mono (by decide)) (da_cons (de_ixL (de_var 2 rfl (de_int (⟨_, _, _, rfl, rfl, rfl, da_cons (de_ixL (de_var 2 rfl (de_int (⟨_, _, _, rfl, rfl, rfl, da_nil (⟨_, _, rfl, ⟨hy, hx⟩, ⟨_, rfl, ?_⟩⟩)⟩))))⟩)))))))))⟩)⟩)))) z_len))))))
    by_cases hl : z2 < z
    · rw [if_pos hl] at q
      rw [decide_eq_true hl]
      refine iteF (de_ixL (de_var 2 rfl (de_int (⟨_, _, _, rfl, rfl, rfl, ?_⟩))))
      exact dss_cons (ds_ret (de_tup (da_cons (de_var 3 rfl (da_cons (de_call d_walls_at (hr.mono (by decide)) (da_cons (de_var 0 rfl (da_cons (de_var 3 rfl (da_nil (⟨_, _, rfl, k, by assumption, da_nil (⟨[_, _], rfl, rfl, q⟩)⟩)))))))))))) 
    · rw [if_neg hl] at q
      rw [decide_eq_false hl]
      refine iteT (de_ixL (de_var 2 rfl (de_int (⟨_, _, _, rfl, rfl, rfl, ?_⟩))))
      exact dss_cons (ds_ret (de_tup (da_cons (de_var 3 rfl (da_cons (de_call d_walls_at (hr.mono (by decide)) (da_cons (de_var 0 rfl (da_cons (de_var 3 rfl (da_nil (⟨_, _, rfl, k, by assumption, da_nil (⟨[_, _], rfl, rfl, q⟩)⟩)))))))))))) 
/-! ### hits_of -/
def sp_hits_of : DSp where
  n := 2
  wp := fun ds M Q => ∃ (r : Run) (n : Int), ds = [.d r.data, I n] ∧ r.Ok ∧ (0 ≤ n ∧ n ≤ 20000) ∧ Q (L (hitsL r n.toNat)) M
  mono := fun h ⟨x, t, e, s, s2, k⟩ => ⟨x, t, e, s, s2, h _ _ k⟩
  len := fun ⟨x, t, e, s, s2, k⟩ => by rw [e]; rfl
-- no hits_of
/-! ### hits -/
def sp_hits : DSp where
  n := 2
  wp := fun ds M Q => ∃ (r : Run) (n : Int), ds = [.d r.data, I n] ∧ r.Ok ∧ (0 ≤ n ∧ n ≤ 300) ∧ Q (L (hitsL r n.toNat)) M
  mono := fun h ⟨x, t, e, s, s2, k⟩ => ⟨x, t, e, s, s2, h _ _ k⟩
  len := fun ⟨x, t, e, s, s2, k⟩ => by rw [e]; rfl
end
/-! ### between two hits the ball goes straight -/
theorem seg_pos {W X A m m' : Int} (hW : 0 < W) (hA : 0 < A) (dX : A ∣ X) (dW : A ∣ W) (no : ∀ i, m < i → i < m' → ¬ W ∣ X + A * i) : ∃ j : Int, ∀ i, m ≤ i → i ≤ m' → j * W ≤ X + A * i ∧ X + A * i ≤ (j + 1) * W := by
  have e := Int.mul_ediv_add_emod (X + A * m) W
  have e1 := Int.emod_nonneg (X + A * m) (show W ≠ 0 by omega)
  have e2 := Int.emod_lt_of_pos (X + A * m) hW
  refine ⟨(X + A * m) / W, fun i h1 h2 => ?_⟩
  have mono : A * m ≤ A * i := Int.mul_le_mul_of_nonneg_left h1 (by omega)
  rw [Int.add_mul, Int.one_mul, Int.mul_comm _ W]
  generalize hj : (X + A * m) / W = j at *
  refine ⟨by omega, ?_⟩
  rcases (by omega : X + A * i ≤ W * j + W ∨ W * j + W < X + A * i) with h | h
  · exact h
  · exfalso
    have dv : A ∣ W * j + W - X := Int.dvd_sub (Int.dvd_add (Int.dvd_mul_of_dvd_left dW) dW) dX
    obtain ⟨k, hk⟩ := dv
    have l1 : A * m < A * k := by omega
    have l2 : A * k < A * i := by omega
    have k1 := Int.lt_of_mul_lt_mul_left l1 (by omega)
    have k2 := Int.lt_of_mul_lt_mul_left l2 (by omega)
    refine no k k1 (by omega) ⟨j + 1, ?_⟩
    rw [Int.mul_add, Int.mul_one]
    omega
theorem seg {W X A m m' : Int} (hW : 0 < W) (hA : A ≠ 0) (dX : A ∣ X) (dW : A ∣ W) (no : ∀ i, m < i → i < m' → ¬ W ∣ X + A * i) : ∃ j : Int, ∀ i, m ≤ i → i ≤ m' → j * W ≤ X + A * i ∧ X + A * i ≤ (j + 1) * W := by
  by_cases h : 0 < A
  · exact seg_pos hW h dX dW no
  · obtain ⟨j, hj⟩ := seg_pos (X := -X) (A := -A) (m := m) (m' := m') hW (by omega) (Int.neg_dvd.mpr (Int.dvd_neg.mpr dX)) (Int.neg_dvd.mpr dW) fun i h1 h2 d => no i h1 h2 (by
      rw [show -X + -A * i = -(X + A * i) by rw [Int.neg_mul, Int.neg_add]] at d
      exact Int.dvd_neg.mp d)
    refine ⟨-(j + 1), fun i h1 h2 => ?_⟩
    have q := hj i h1 h2
    rw [Int.neg_mul] at q
    rw [Int.add_mul, Int.one_mul] at q
    rw [show -(j + 1) + 1 = -j by omega, Int.neg_mul, Int.neg_mul, Int.add_mul, Int.one_mul]
    omega
theorem floor_zero {z : Rat} (h0 : 0 ≤ z) (h1 : z < 1) : z.floor = 0 := by
  have a : (0 : Int) ≤ z.floor := Rat.le_floor_iff.mpr h0
  have b : z.floor < 1 := Rat.floor_lt_iff.mpr h1
  omega
theorem foldQ_low {z : Rat} {w : Int} (hw : 0 < w) (h0 : 0 ≤ z) (h1 : z ≤ w) : foldQ z w = z := by
  have w0 : (0 : Rat) < w := Rat.intCast_pos.mpr hw
  have f : (z / (2 * w)).floor = 0 := by
    refine floor_zero ?_ ?_
    · rw [Rat.div_def]
      exact Rat.mul_nonneg h0 (Rat.le_of_lt (Rat.inv_pos.mpr (by grind)))
    · rw [Rat.div_lt_iff (by grind)]
      grind
  unfold foldQ
  rw [f, Rat.intCast_zero, Rat.mul_zero]
  rw [if_pos (by grind)]
  grind
theorem foldQ_high {z : Rat} {w : Int} (hw : 0 < w) (h0 : w ≤ z) (h1 : z ≤ 2 * w) : foldQ z w = 2 * w - z := by
  have w0 : (0 : Rat) < w := Rat.intCast_pos.mpr hw
  by_cases h : z = 2 * w
  · have e := foldQ_add 0 hw 1
    rw [show (0 : Rat) + 2 * (w : Rat) * ((1 : Int) : Rat) = z by rw [h, show ((1 : Int) : Rat) = 1 from rfl]; grind, foldQ_low hw (Rat.le_refl) (Rat.le_of_lt w0)] at e
    rw [e, h]
    grind
  · have f : (z / (2 * w)).floor = 0 := by
      refine floor_zero ?_ ?_
      · rw [Rat.div_def]
        exact Rat.mul_nonneg (Rat.le_trans (Rat.le_of_lt w0) h0) (Rat.le_of_lt (Rat.inv_pos.mpr (by grind)))
      · rw [Rat.div_lt_iff (by grind)]
        grind
    unfold foldQ
    rw [f, Rat.intCast_zero, Rat.mul_zero]
    by_cases h2 : z - 0 ≤ w
    · rw [if_pos h2]; grind
    · rw [if_neg h2]; grind
/-- one straight piece: s is 1 or -1 -/
theorem foldQ_seg {w : Int} (hw : 0 < w) (j : Int) : ∃ (s c : Rat), s * s = 1 ∧ ∀ z : Rat, (j : Rat) * w ≤ z → z ≤ ((j : Rat) + 1) * w → foldQ z w = s * z + c := by
  have w0 : (0 : Rat) < w := Rat.intCast_pos.mpr hw
  have two : ((2 : Int) : Rat) = 2 := rfl
  rcases Int.emod_two_eq j with h | h
  · obtain ⟨c, hc⟩ : ∃ c, j = 2 * c := ⟨j / 2, by omega⟩
    refine ⟨1, -(2 * w * (c : Rat)), by grind, fun z h1 h2 => ?_⟩
    have e := foldQ_add (z - 2 * w * c) hw c
    rw [show z - 2 * (w : Rat) * (c : Rat) + 2 * w * c = z by grind] at e
    have hj : (j : Rat) = 2 * c := by rw [hc, Rat.intCast_mul, two]
    rw [e, foldQ_low hw (by rw [hj] at h1; grind) (by rw [hj] at h2; grind)]
    grind
  · obtain ⟨c, hc⟩ : ∃ c, j = 2 * c + 1 := ⟨j / 2, by omega⟩
    refine ⟨-1, 2 * w + 2 * w * (c : Rat), by grind, fun z h1 h2 => ?_⟩
    have e := foldQ_add (z - 2 * w * c) hw c
    rw [show z - 2 * (w : Rat) * (c : Rat) + 2 * w * c = z by grind] at e
    have hj : (j : Rat) = 2 * c + 1 := by rw [hc, Rat.intCast_add, Rat.intCast_mul, two]; rfl
    rw [e, foldQ_high hw (by rw [hj] at h1; grind) (by rw [hj] at h2; grind)]
    grind
def absQ (q : Rat) : Rat := if q < 0 then -q else q
theorem absQ_mul {s q : Rat} (h : s * s = 1) : absQ (s * q) = absQ q := by
  have : s = 1 ∨ s = -1 := by
    have e : (s - 1) * (s + 1) = 0 := by grind
    rcases Rat.mul_eq_zero.mp e with q | q
    · left; grind
    · right; grind
  unfold absQ
  rcases this with e | e <;> subst e
  · rw [Rat.one_mul]
  · rw [show (-1 : Rat) * q = -q by grind]
    by_cases h0 : q < 0
    · rw [if_pos h0, if_neg (by grind)]
    · rw [if_neg h0]
      by_cases h1 : -q < 0
      · rw [if_pos h1]; grind
      · rw [if_neg h1]; grind
theorem absQ_lin {a : Int} {t : Rat} (h : 0 ≤ t) : absQ ((a : Rat) * t) = t * (a.natAbs : Int) := by
  unfold absQ
  rcases (by omega : 0 ≤ a ∨ a < 0) with h0 | h0
  · have e : ((a.natAbs : Int)) = a := by omega
    rw [e, if_neg (Rat.not_lt.mpr (Rat.mul_nonneg (Rat.intCast_nonneg.mpr h0) h))]
    grind
  · have e : ((a.natAbs : Int)) = -a := by omega
    rw [e, Rat.intCast_neg]
    by_cases hz : (a : Rat) * t < 0
    · rw [if_pos hz]; grind
    · rw [if_neg hz]
      have : 0 ≤ (-(a : Rat)) * t := Rat.mul_nonneg (by
        have := Rat.intCast_nonneg.mpr (show 0 ≤ -a by omega)
        rwa [Rat.intCast_neg] at this) h
      grind
/-- what one axis does between two hits -/
theorem axis_straight {x a w : Int} {u m m' : Int} (hw : 0 < w) (hu : 0 < u) (hd : a ≠ 0 → a ∣ u) (hm : m ≤ m') (no : a ≠ 0 → ∀ i, m < i → i < m' → ¬ w * u ∣ x * u + a * i) :
    absQ (foldQ ((x : Rat) + a * rq m' u) w - foldQ ((x : Rat) + a * rq m u) w) = (rq m' u - rq m u) * (a.natAbs : Int) ∧
    foldQ ((x : Rat) + a * ((rq m u + rq m' u) / 2)) w = (foldQ ((x : Rat) + a * rq m u) w + foldQ ((x : Rat) + a * rq m' u) w) / 2 := by
  have u0 : (0 : Rat) < u := Rat.intCast_pos.mpr hu
  by_cases ha : a = 0
  · subst ha
    have e : ∀ t : Rat, (x : Rat) + ((0 : Int) : Rat) * t = x := fun t => by rw [Rat.intCast_zero]; grind
    rw [e, e, e]
    refine ⟨?_, by grind⟩
    show absQ _ = _ * ((0 : Int) : Rat)
    rw [Rat.intCast_zero, Rat.mul_zero, show foldQ (x : Rat) w - foldQ (x : Rat) w = 0 by grind]
    rfl
  · obtain ⟨j, hj⟩ := seg (W := w * u) (X := x * u) (A := a) (m := m) (m' := m') (Int.mul_pos hw hu) ha (Int.dvd_mul_of_dvd_right (hd ha)) (Int.dvd_mul_of_dvd_right (hd ha)) (no ha)
    obtain ⟨s, c, hs, hf⟩ := foldQ_seg hw j
    have inr : ∀ i, m ≤ i → i ≤ m' → (j : Rat) * w ≤ (x : Rat) + a * rq i u ∧ (x : Rat) + a * rq i u ≤ ((j : Rat) + 1) * w := fun i h1 h2 => by
      obtain ⟨q1, q2⟩ := hj i h1 h2
      have e : (x : Rat) + a * rq i u = ((x * u + a * i : Int) : Rat) / u := by
        unfold rq
        rw [Rat.intCast_add, Rat.intCast_mul, Rat.intCast_mul]
        grind
      rw [e]
      constructor
      · refine Rat.not_lt.mp fun z => ?_
        have z := (Rat.div_lt_iff u0).mp z
        have := Rat.intCast_le_intCast.mpr q1
        rw [Rat.intCast_mul, Rat.intCast_mul] at this
        grind
      · refine Rat.not_lt.mp fun z => ?_
        have z := (Rat.lt_div_iff u0).mp z
        have := Rat.intCast_le_intCast.mpr q2
        rw [Rat.intCast_mul, Rat.intCast_mul, Rat.intCast_add j 1] at this
        rw [show ((1 : Int) : Rat) = 1 from rfl] at this
        grind
    obtain ⟨b1, b2⟩ := inr m (Int.le_refl _) hm
    obtain ⟨b3, b4⟩ := inr m' hm (Int.le_refl _)
    have f1 := hf _ b1 b2
    have f2 := hf _ b3 b4
    have f3 := hf ((x : Rat) + a * ((rq m u + rq m' u) / 2)) (by grind) (by grind)
    rw [f1, f2, f3]
    refine ⟨?_, by grind⟩
    have le : 0 ≤ rq m' u - rq m u := by
      have : rq m u ≤ rq m' u := Rat.not_lt.mp fun z => absurd ((rq_lt hu).mp z) (by omega)
      grind
    rw [show s * ((x : Rat) + a * rq m' u) + c - (s * ((x : Rat) + a * rq m u) + c) = s * ((a : Rat) * (rq m' u - rq m u)) by grind, absQ_mul hs, absQ_lin le]
theorem straight {r : Run} (k : r.Ok) (n : Nat) :
    (absQ (posX r (hT r (n + 1)) - posX r (hT r n)) = (hT r (n + 1) - hT r n) * (r.a.natAbs : Int) ∧ posX r ((hT r n + hT r (n + 1)) / 2) = (posX r (hT r n) + posX r (hT r (n + 1))) / 2) ∧
    (absQ (posY r (hT r (n + 1)) - posY r (hT r n)) = (hT r (n + 1) - hT r n) * (r.b.natAbs : Int) ∧ posY r ((hT r n + hT r (n + 1)) / 2) = (posY r (hT r n) + posY r (hT r (n + 1))) / 2) := by
  obtain ⟨hu, -, ha, hb⟩ := unit_facts k
  have x := hN_next k hu ha hb n
  have e0 := (hT_tick k hu ha hb n).1
  have e1 := (hT_tick k hu ha hb (n + 1)).1
  have := x.lt
  unfold posX posY
  rw [e0, e1]
  exact ⟨axis_straight (by have := k.w1; omega) hu ha (by omega) fun h i a b d => x.no i a b (.inl ⟨h, d⟩), axis_straight (by have := k.h1; omega) hu hb (by omega) fun h i a b d => x.no i a b (.inr ⟨h, d⟩)⟩
abbrev s_plus : Stmt := topS 20
abbrev nm_plus : List Str := ["one", "two"]
theorem sc_plus : FnScope nm_plus ["one", "two"] (defScope s_plus) := ⟨rfl, rfl, rfl, by decide +kernel, rfl, by decide +kernel, by decide +kernel⟩
section
variable {P : Program} {w : World} {K : PySem.W.Frag} {mg : Str → Option Value} {base : Heap}
/-! ### Runner -/
def TR (t : Rat) : Prop := 0 ≤ t.num ∧ t.num < 900000000 ∧ t.den ≤ 10000
def sp_plusR : DSp where
  n := 2
  wp := fun ds M Q => ∃ (p : Rat) (n d : Int), ds = [.d (fr p), T [.int n, .int d]] ∧ (TR p ∧ 0 ≤ n ∧ n ≤ 1000000 ∧ 1 ≤ d ∧ d ≤ 1000) ∧ Q (.d (fr (p + rq n d))) M
  mono := fun h ⟨p, n, d, e, b, k⟩ => ⟨p, n, d, e, b, h _ _ k⟩
  len := fun ⟨p, n, d, e, b, k⟩ => by rw [e]; rfl
theorem add_rqR (p : Rat) (n : Int) {d : Int} (hd : 0 < d) : rq (p.num * d + n * p.den) (p.den * d) = p + rq n d := by
  have h0 : (d : Rat) ≠ 0 := Rat.ne_of_gt (Rat.intCast_pos.mpr hd)
  have h1 : ((p.den : Int) : Rat) ≠ 0 := Rat.ne_of_gt (Rat.intCast_pos.mpr (by have := p.den_pos; omega))
  have e : p = rq p.num p.den := (rq_self p).symm
  have e2 : p + rq n d = rq p.num p.den + rq n d := by rw [← e]
  rw [e2]
  unfold rq
  rw [Rat.intCast_add, Rat.intCast_mul, Rat.intCast_mul, Rat.intCast_mul]
  grind
theorem add_bound {p : Rat} {n d : Int} (h : TR p) (n0 : 0 ≤ n) (n1 : n ≤ 1000000) (d0 : 1 ≤ d) (d1 : d ≤ 1000) : 0 ≤ (p + rq n d).num ∧ (p + rq n d).num ≤ p.num * d + n * p.den ∧ ((p + rq n d).den : Int) ≤ p.den * d := by
  have hd : (0 : Int) < p.den * d := Int.mul_pos (by have := p.den_pos; omega) (by omega)
  have x := Int.mul_nonneg h.1 (show 0 ≤ d by omega)
  have y := Int.mul_nonneg n0 (show (0 : Int) ≤ p.den by omega)
  have b := rq_bound (m := p.num * d + n * p.den) hd (by omega)
  rwa [add_rqR p n (by omega)] at b
theorem ok_plusR {f : Addr} {fd : FuncData} (Fd : Fun K "plus" "plus" s_plus f fd) (hm : mg "plus" = some (.ref f)) (hb : Binds K fd ["one", "two"] []) (d_lowest : Def P w K mg base "lowest" 2 sp_lowest) : Def P w K mg base "plus" 3 sp_plusR := by
  refine def_ok Fd sc_plus hm hb rfl fun cdv A outer s H E hr ds M Q h => ?_
  obtain ⟨p, n, d, rfl, ⟨⟨b1, b2, b3⟩, c1, c2, c3, c4⟩, q⟩ := h
  have d1 := p.den_pos
  have m0 : 0 < (p.den : Int) * d := Int.mul_pos (by omega) (by omega)
  have m1 : (p.den : Int) * d ≤ 10000 * 1000 := Int.mul_le_mul (by omega) (by omega) (by omega) (by decide)
  refine dss_cons (ds_ret (de_call d_lowest (hr.mono (by decide)) (da_cons (de_add (de_mul (de_ixT (de_var 0 rfl (de_int (⟨_, _, _, rfl, rfl, rfl, de_ixT (de_var 1 rfl (de_int (⟨_, _, _, rfl, rfl, rfl, ⟨_, _, rfl, rfl, cmul_l (by omega) (by omega), de_mul (de_ixT (de_var 1 rfl (de_int (⟨_, _, _, rfl, rfl, rfl, de_ixT (de_var 0 rfl (de_int (⟨_, _, _, rfl, rfl, rfl, ⟨_, _, rfl, rfl, cmul_l (by omega) (by omega), ⟨_, _, rfl, rfl, da_cons (de_mul (de_ixT (de_var 0 rfl (de_int (⟨_, _, _, rfl, rfl, rfl, de_ixT (de_var 1 rfl (de_int (⟨_, _, _, rfl, rfl, rfl, ⟨_, _, rfl, rfl, cmul_l (by omega) (by omega), da_nil (⟨_, _, rfl, ⟨by omega, by omega, (fit_small (by omega) (by omega)).f4⟩, ?_⟩)⟩⟩)))⟩)))))⟩⟩⟩)))⟩))))⟩⟩)))⟩)))))))))
  rw [add_rqR p n (by omega)]
  exact q
def rfs (r : Run) (t : Rat) (p : Addr) : List (Str × EV) := [("run", .d r.data), ("now", .d (fr t)), ("past", .o p)]
theorem rfs_len (r : Run) (t : Rat) (p : Addr) : (rfs r t p).length < 1000 := show 3 < 1000 by decide
theorem put2 (x y : EV) : putD "now" y (putD "run" x []) = ([("run", x), ("now", y)] : List (Str × EV)) := by
  show (if ("run" : Str) = "now" then _ else _) = (_ : List (Str × EV))
  rw [if_neg (by decide)]
  rfl
theorem put3 (x y z : EV) : putD "past" z [("run", x), ("now", y)] = ([("run", x), ("now", y), ("past", z)] : List (Str × EV)) := by
  show (if ("run" : Str) = "past" then _ else _ :: (if ("now" : Str) = "past" then _ else _)) = (_ : List (Str × EV))
  rw [if_neg (by decide), if_neg (by decide)]
  rfl
theorem putN (r : Run) (t t' : Rat) (p : Addr) : putD "now" (.d (fr t')) (rfs r t p) = rfs r t' p := by
  show (if ("run" : Str) = "now" then _ else _ :: (if ("now" : Str) = "now" then _ else _)) = _
  rw [if_neg (by decide), if_pos (by decide)]
  rfl
theorem putP (r : Run) (t : Rat) (p p' : Addr) : putD "past" (.o p') (rfs r t p) = rfs r t p' := by
  show (if ("run" : Str) = "past" then _ else _ :: (if ("now" : Str) = "past" then _ else _ :: (if ("past" : Str) = "past" then _ else _))) = _
  rw [if_neg (by decide), if_neg (by decide), if_pos (by decide)]
  rfl
structure RCls (K : PySem.W.Frag) (mg : Str → Option Value) (C : Addr) : Prop where
  cl : Cls K C
  nr : NoAttr K C "run"
  nn : NoAttr K C "now"
  np : NoAttr K C "past"
/-- a runner at a -/
structure RunAt (C a p : Addr) (r : Run) (t : Rat) (ts : List Rat) (M : Mem) : Prop where
  ia : M a = some (.ins C (rfs r t p))
  pa : M p = some (.lst (ts.map fr))
section
variable {C a p : Addr} {r : Run} {t : Rat} {ts : List Rat} {M : Mem}
theorem RunAt.ne (h : RunAt C a p r t ts M) : a ≠ p := fun e => by
  have x := h.ia
  rw [e, h.pa] at x
  cases x
theorem RunAt.step (h : RunAt C a p r t ts M) (t' : Rat) (ts' : List Rat) : RunAt C a p r t' ts' (updM (updM M p (.lst (ts'.map fr))) a (.ins C (rfs r t' p))) :=
  ⟨updM_same, by rw [updM_ne h.ne.symm]; exact updM_same⟩
theorem RunAt.other {b : Addr} {m : MD} (h : RunAt C a p r t ts M) (h1 : b ≠ a) (h2 : b ≠ p) : RunAt C a p r t ts (updM M b m) :=
  ⟨by rw [updM_ne (Ne.symm h1)]; exact h.ia, by rw [updM_ne (Ne.symm h2)]; exact h.pa⟩
end
def sp_init (C : Addr) : DSp where
  n := 2
  wp := fun ds M Q => ∃ (r : Run) (a : Addr), ds = [.o a, .d r.data] ∧ r.Ok ∧ M a = some (.ins C []) ∧ ∀ p, M p = none → Q N0 (updM (updM M p (.lst [])) a (.ins C (rfs r 0 p)))
  mono := fun h ⟨r, a, e, b, c, q⟩ => ⟨r, a, e, b, c, fun p hp => h _ _ (q p hp)⟩
  len := fun ⟨r, a, e, b, c, q⟩ => by rw [e]; rfl
def sp_go (C : Addr) : DSp where
  n := 2
  wp := fun ds M Q => ∃ (a p : Addr) (r : Run) (t : Rat) (ts : List Rat) (n d : Int), ds = [.o a, T [.int n, .int d]] ∧ RunAt C a p r t ts M ∧ (r.Ok ∧ TR t ∧ ts.length < 1000 ∧ 0 ≤ n ∧ n ≤ 1000000 ∧ 1 ≤ d ∧ d ≤ 1000) ∧
    Q (.d (placeD r (t + rq n d))) (updM (updM M p (.lst ((ts ++ [t]).map fr))) a (.ins C (rfs r (t + rq n d) p)))
  mono := fun h ⟨a, p, r, t, ts, n, d, e, b, c, q⟩ => ⟨a, p, r, t, ts, n, d, e, b, c, h _ _ q⟩
  len := fun ⟨a, p, r, t, ts, n, d, e, b, c, q⟩ => by rw [e]; rfl
def sp_next_hit (C : Addr) : DSp where
  n := 1
  wp := fun ds M Q => ∃ (a p : Addr) (r : Run) (t : Rat) (ts : List Rat), ds = [.o a] ∧ RunAt C a p r t ts M ∧ (r.Ok ∧ TR t ∧ ts.length < 1000) ∧
    Q (T [fr (nextQ r t), .str (wallsS r (nextQ r t))]) (updM (updM M p (.lst ((ts ++ [t]).map fr))) a (.ins C (rfs r (nextQ r t) p)))
  mono := fun h ⟨a, p, r, t, ts, e, b, c, q⟩ => ⟨a, p, r, t, ts, e, b, c, h _ _ q⟩
  len := fun ⟨a, p, r, t, ts, e, b, c, q⟩ => by rw [e]; rfl
/-- undo, something to undo -/
def sp_undo (C : Addr) : DSp where
  n := 1
  wp := fun ds M Q => ∃ (a p : Addr) (r : Run) (t u : Rat) (ts : List Rat), ds = [.o a] ∧ RunAt C a p r t (ts ++ [u]) M ∧ ts.length < 1000 ∧
    Q (.d (fr u)) (updM (updM M p (.lst (ts.map fr))) a (.ins C (rfs r u p)))
  mono := fun h ⟨a, p, r, t, u, ts, e, b, c, q⟩ => ⟨a, p, r, t, u, ts, e, b, c, h _ _ q⟩
  len := fun ⟨a, p, r, t, u, ts, e, b, c, q⟩ => by rw [e]; rfl
/-- undo, nothing to undo -/
def sp_undoX (C D : Addr) : DXSp where
  n := 1
  wp := fun ds M Q U => ∃ (a p : Addr) (r : Run) (t : Rat), ds = [.o a] ∧ RunAt C a p r t [] M ∧ U D M
  mono := fun _ h2 ⟨a, p, r, t, e, b, q⟩ => ⟨a, p, r, t, e, b, h2 _ _ q⟩
  len := fun ⟨a, p, r, t, e, b, q⟩ => by rw [e]; rfl
def sp_time (C : Addr) : DSp where
  n := 1
  wp := fun ds M Q => ∃ (a p : Addr) (r : Run) (t : Rat) (ts : List Rat), ds = [.o a] ∧ RunAt C a p r t ts M ∧ Q (.d (fr t)) M
  mono := fun h ⟨a, p, r, t, ts, e, b, q⟩ => ⟨a, p, r, t, ts, e, b, h _ _ q⟩
  len := fun ⟨a, p, r, t, ts, e, b, q⟩ => by rw [e]; rfl
def sp_lenR (C : Addr) : DSp where
  n := 1
  wp := fun ds M Q => ∃ (a p : Addr) (r : Run) (t : Rat) (ts : List Rat), ds = [.o a] ∧ RunAt C a p r t ts M ∧ Q (I ((ts.length : Nat) : Int)) M
  mono := fun h ⟨a, p, r, t, ts, e, b, q⟩ => ⟨a, p, r, t, ts, e, b, h _ _ q⟩
  len := fun ⟨a, p, r, t, ts, e, b, q⟩ => by rw [e]; rfl
def sp_copy (C : Addr) : DSp where
  n := 1
  wp := fun ds M Q => ∃ (a p : Addr) (r : Run) (t : Rat) (ts : List Rat), ds = [.o a] ∧ RunAt C a p r t ts M ∧ r.Ok ∧
    ∀ b q M', (∀ c, M c ≠ none → M' c = M c) → M b = none → M q = none → RunAt C b q r t ts M' → Q (.o b) M'
  mono := fun {ds M Q Q'} h x => by
    obtain ⟨a, p, r, t, ts, e, b, k, q⟩ := x
    exact ⟨a, p, r, t, ts, e, b, k, fun b q' M' h1 h2 h3 h4 => h _ _ (q b q' M' h1 h2 h3 h4)⟩
  len := fun ⟨a, p, r, t, ts, e, b, k, q⟩ => by rw [e]; rfl
abbrev s_Runner___init__ : Stmt := inClass (topS 28) 0
abbrev nm_Runner___init__ : List Str := ["self", "run"]
theorem sc_Runner___init__ : FnScope nm_Runner___init__ ["self", "run"] (defScope s_Runner___init__) := ⟨rfl, rfl, rfl, by decide +kernel, rfl, by decide +kernel, by decide +kernel⟩
theorem ok_Runner___init__ {f cRunner : Addr} {fd : FuncData} (Fd : Fun K "__init__" "Runner.__init__" s_Runner___init__ f fd) (hb : Binds K fd ["self", "run"] []) (R_Runner : RCls K mg cRunner) (g_Runner : mg "Runner" = some (.ref cRunner)) (k_Runner : Mk K cRunner f) (d_need_run : Def P w K mg base "need_run" 3 sp_need_run) : DefC P w K mg base "Runner" cRunner 4 (sp_init cRunner) := by
  refine ⟨g_Runner, f, fd, _, k_Runner, hb, def_okF Fd sc_Runner___init__ rfl fun cdv A outer s H E hr ds M Q h => ?_⟩
  obtain ⟨r, a, rfl, k, ha, q⟩ := h
  refine dss_cons (ds_expr (de_call d_need_run (hr.mono (by decide)) (da_cons (de_var 1 rfl (da_nil ⟨_, rfl, k, ?_⟩)))))
  refine dss_cons (ds_fld (de_var 1 rfl (de_var 0 rfl ⟨a, cRunner, _, rfl, ha, R_Runner.cl, R_Runner.nr, (show 0 < 1000 by decide), ?_⟩)))
  refine dss_cons (ds_fld (de_tup (da_cons (de_int (da_cons (de_int (da_nil ⟨[_, _], rfl, rfl, de_var 0 rfl ⟨a, cRunner, _, rfl, updM_same, R_Runner.cl, R_Runner.nn, (show 1 < 1000 by decide), ?_⟩⟩)))))))
  rw [updM_upd, put2]
  refine dss_cons (ds_fld (de_lst (da_nil ⟨[], rfl, rfl, fun p hp => de_var 0 rfl ⟨a, cRunner, ([("run", .d r.data), ("now", .d (fr 0))] : List (Str × EV)), rfl, ?_, R_Runner.cl, R_Runner.np, (show 2 < 1000 by decide), dss_nil ?_⟩⟩)))
  · have ne : a ≠ p := fun e => by rw [e, updM_same] at hp; cases hp
    rw [updM_ne ne, updM_same]
    rfl
  · have ne : a ≠ p := fun e => by rw [e, updM_same] at hp; cases hp
    rw [updM_ne ne.symm] at hp
    rw [updM_comm ne, updM_upd, put3]
    exact q p hp
abbrev s_Runner_go : Stmt := inClass (topS 28) 1
abbrev nm_Runner_go : List Str := ["self", "time"]
theorem sc_Runner_go : FnScope nm_Runner_go ["self", "time"] (defScope s_Runner_go) := ⟨rfl, rfl, rfl, by decide +kernel, rfl, by decide +kernel, by decide +kernel⟩
theorem ok_Runner_go {f cRunner : Addr} {fd : FuncData} (Fd : Fun K "go" "Runner.go" s_Runner_go f fd) (hb : Binds K fd ["self", "time"] []) (R_Runner : RCls K mg cRunner) (e_Runner_go : Meth K cRunner "go" f) (d_need_time : Def P w K mg base "need_time" 2 sp_need_time) (d_plusR : Def P w K mg base "plus" 3 sp_plusR) (d_place_at : Def P w K mg base "place_at" 4 sp_place_at) : DefM P w K mg base cRunner "go" 5 (sp_go cRunner) := by
  refine defM_ok Fd sc_Runner_go R_Runner.cl e_Runner_go hb rfl fun cdv A outer s H E hr ds M Q h => ?_
  obtain ⟨a, p, r, t, ts, n, d, rfl, ra, ⟨k, tr, hl, n0, n1, d0, d1⟩, q⟩ := h
  have b := add_bound tr n0 n1 d0 d1
  have dd : (t.den : Int) * d ≤ 10000 * 1000 := Int.mul_le_mul (by have := tr.2.2; omega) d1 (by omega) (by decide)
  have dp := (t + rq n d).den_pos
  refine dss_cons (ds_expr (de_call d_need_time (hr.mono (by decide)) (da_cons (de_var 1 rfl (da_nil ⟨_, _, rfl, ⟨n0, n1, d0, d1⟩, ?_⟩)))))
  refine dss_cons (ds_expr (de_append (de_fld (de_var 0 rfl ⟨a, _, _, _, rfl, ra.ia, R_Runner.cl, R_Runner.np, rfl, _, _, rfl, ra.pa, de_fld (de_var 0 rfl ⟨a, _, _, _, rfl, ra.ia, R_Runner.cl, R_Runner.nn, rfl, _, _, ra.pa, rfl, by rw [List.length_map]; omega, ?_⟩)⟩))))
  have ia : updM M p (.lst (ts.map fr ++ [fr t])) a = some (.ins cRunner (rfs r t p)) := by rw [updM_ne ra.ne]; exact ra.ia
  refine dss_cons (ds_fld (de_call d_plusR (hr.mono (by decide)) (da_cons (de_fld (de_var 0 rfl ⟨a, _, _, _, rfl, ia, R_Runner.cl, R_Runner.nn, rfl, da_cons (de_var 1 rfl (da_nil ⟨_, _, _, rfl, ⟨tr, n0, n1, d0, d1⟩, de_var 0 rfl ⟨a, _, _, rfl, ia, R_Runner.cl, R_Runner.nn, rfs_len _ _ _, ?_⟩⟩))⟩)))))
  rw [putN]
  refine dss_cons (ds_ret (de_call d_place_at (hr.mono (by decide)) (da_cons (de_fld (de_var 0 rfl ⟨a, _, _, _, rfl, updM_same, R_Runner.cl, R_Runner.nr, rfl, da_cons (de_fld (de_var 0 rfl ⟨a, _, _, _, rfl, updM_same, R_Runner.cl, R_Runner.nn, rfl, da_nil ⟨r, _, _, rfl, k, ⟨by omega, fit_small (by omega) (by omega)⟩, ?_⟩⟩))⟩)))))
  rw [rq_self]
  rw [List.map_append] at q
  exact q
abbrev s_Runner_next_hit : Stmt := inClass (topS 28) 2
abbrev nm_Runner_next_hit : List Str := ["self", "hit"]
theorem sc_Runner_next_hit : FnScope nm_Runner_next_hit ["self"] (defScope s_Runner_next_hit) := ⟨rfl, rfl, rfl, by decide +kernel, rfl, by decide +kernel, by decide +kernel⟩
theorem ok_Runner_next_hit {f cRunner : Addr} {fd : FuncData} (Fd : Fun K "next_hit" "Runner.next_hit" s_Runner_next_hit f fd) (hb : Binds K fd ["self"] []) (R_Runner : RCls K mg cRunner) (e_Runner_next_hit : Meth K cRunner "next_hit" f) (d_hit_after : Def P w K mg base "hit_after" 6 sp_hit_after) : DefM P w K mg base cRunner "next_hit" 7 (sp_next_hit cRunner) := by
  refine defM_ok Fd sc_Runner_next_hit R_Runner.cl e_Runner_next_hit hb rfl fun cdv A outer s H E hr ds M Q h => ?_
  obtain ⟨a, p, r, t, ts, rfl, ra, ⟨k, tr, hl⟩, q⟩ := h
  refine dss_cons (ds_set 1 sc_Runner_next_hit.nd (de_call d_hit_after (hr.mono (by decide)) (da_cons (de_fld (de_var 0 rfl ⟨a, _, _, _, rfl, ra.ia, R_Runner.cl, R_Runner.nr, rfl, da_cons (de_fld (de_var 0 rfl ⟨a, _, _, _, rfl, ra.ia, R_Runner.cl, R_Runner.nn, rfl, da_nil ⟨r, t, rfl, k, ⟨tr.1, by have := tr.2.1; omega, by have := tr.2.2; omega⟩, ?_⟩⟩))⟩)))))
  refine dss_cons (ds_expr (de_append (de_fld (de_var 0 rfl ⟨a, _, _, _, rfl, ra.ia, R_Runner.cl, R_Runner.np, rfl, _, _, rfl, ra.pa, de_fld (de_var 0 rfl ⟨a, _, _, _, rfl, ra.ia, R_Runner.cl, R_Runner.nn, rfl, _, _, ra.pa, rfl, by rw [List.length_map]; omega, ?_⟩)⟩))))
  have ia : updM M p (.lst (ts.map fr ++ [fr t])) a = some (.ins cRunner (rfs r t p)) := by rw [updM_ne ra.ne]; exact ra.ia
  refine dss_cons (ds_fld (de_ixT (de_var 1 rfl (de_int ⟨_, _, _, rfl, rfl, rfl, de_var 0 rfl ⟨a, _, _, rfl, ia, R_Runner.cl, R_Runner.nn, rfs_len _ _ _, ?_⟩⟩))))
  rw [show (EV.d (fr (nextQ r t))) = .d (fr (nextQ r t)) from rfl, putN]
  rw [List.map_append] at q
  exact dss_cons (ds_ret (de_var 1 rfl q))
abbrev s_Runner_undo : Stmt := inClass (topS 28) 3
abbrev nm_Runner_undo : List Str := ["self"]
theorem sc_Runner_undo : FnScope nm_Runner_undo ["self"] (defScope s_Runner_undo) := ⟨rfl, rfl, rfl, by decide +kernel, rfl, by decide +kernel, by decide +kernel⟩
theorem ok_Runner_undo {f cRunner : Addr} {fd : FuncData} (Fd : Fun K "undo" "Runner.undo" s_Runner_undo f fd) (hb : Binds K fd ["self"] []) (R_Runner : RCls K mg cRunner) (e_Runner_undo : Meth K cRunner "undo" f) : DefM P w K mg base cRunner "undo" 1 (sp_undo cRunner) := by
  refine defM_ok Fd sc_Runner_undo R_Runner.cl e_Runner_undo hb rfl fun cdv A outer s H E hr ds M Q h => ?_
  obtain ⟨a, p, r, t, u, ts, rfl, ra, hl, q⟩ := h
  refine dss_guard (dt_eqO hr.units (de_fld (de_var 0 rfl ⟨a, _, _, _, rfl, ra.ia, R_Runner.cl, R_Runner.np, rfl, de_lstD (da_nil ⟨[], rfl, rfl, p, _, .list [], rfl, ra.pa, rfl, ?_, rfl, ?_, rfl⟩)⟩))) ?_
  · exact (shp_list (k := 1) fun d hd => by
      obtain ⟨x, -, rfl⟩ := List.mem_map.mp hd
      exact shp_fr x).shaped (by decide)
  · rw [List.map_append]
    cases ts <;> rfl
  have hg : ((ts ++ [u]).map fr)[((ts ++ [u]).map fr).length - 1]? = some (fr u) := by
    rw [← List.getLast?_eq_getElem?, List.map_append]
    simp
  refine dss_cons (ds_fld (de_pop (de_fld (de_var 0 rfl ⟨a, _, _, _, rfl, ra.ia, R_Runner.cl, R_Runner.np, rfl, p, _, fr u, rfl, ra.pa, hg, de_var 0 rfl ⟨a, _, _, rfl, (updM_ne ra.ne).trans ra.ia, R_Runner.cl, R_Runner.nn, rfs_len _ _ _, ?_⟩⟩))))
  rw [putN]
  refine dss_cons (ds_ret (de_fld (de_var 0 rfl ⟨a, _, _, _, rfl, updM_same, R_Runner.cl, R_Runner.nn, rfl, ?_⟩)))
  rw [List.map_append, List.map_singleton, List.dropLast_concat]
  exact q
theorem ok_Runner_undoX {f cRunner cNothingToUndo : Addr} {fd : FuncData} (Fd : Fun K "undo" "Runner.undo" s_Runner_undo f fd) (hb : Binds K fd ["self"] []) (R_Runner : RCls K mg cRunner) (e_Runner_undo : Meth K cRunner "undo" f) (x_NothingToUndo : ExcX K mg "NothingToUndo" cNothingToUndo) : DefMX P w K mg base cRunner "undo" 1 (sp_undoX cRunner cNothingToUndo) := by
  refine ⟨R_Runner.cl, f, fd, _, e_Runner_undo, hb, defX_fn Fd sc_Runner_undo rfl fun cdv A outer s H E hr ds M Q U h => ?_⟩
  obtain ⟨a, p, r, t, rfl, ra, q⟩ := h
  refine dxs_cons (dx_if (dt_eqO hr.units (de_fld (de_var 0 rfl ⟨a, _, _, _, rfl, ra.ia, R_Runner.cl, R_Runner.np, rfl, de_lstD (da_nil ⟨[], rfl, rfl, p, _, .list [], rfl, ra.pa, rfl, rfl, rfl, iteT ?_⟩)⟩))))
  refine dxs_cons ?_
  exact dx_raise x_NothingToUndo q
abbrev s_Runner_time : Stmt := inClass (topS 28) 4
abbrev nm_Runner_time : List Str := ["self"]
theorem sc_Runner_time : FnScope nm_Runner_time ["self"] (defScope s_Runner_time) := ⟨rfl, rfl, rfl, by decide +kernel, rfl, by decide +kernel, by decide +kernel⟩
theorem ok_Runner_time {f cRunner : Addr} {fd : FuncData} (Fd : Fun K "time" "Runner.time" s_Runner_time f fd) (hb : Binds K fd ["self"] []) (R_Runner : RCls K mg cRunner) (e_Runner_time : Meth K cRunner "time" f) : DefM P w K mg base cRunner "time" 1 (sp_time cRunner) := by
  refine defM_ok Fd sc_Runner_time R_Runner.cl e_Runner_time hb rfl fun cdv A outer s H E hr ds M Q h => ?_
  obtain ⟨a, p, r, t, ts, rfl, ra, q⟩ := h
  exact dss_cons (ds_ret (de_fld (de_var 0 rfl ⟨a, _, _, _, rfl, ra.ia, R_Runner.cl, R_Runner.nn, rfl, q⟩)))
abbrev s_Runner___len__ : Stmt := inClass (topS 28) 6
abbrev nm_Runner___len__ : List Str := ["self"]
theorem sc_Runner___len__ : FnScope nm_Runner___len__ ["self"] (defScope s_Runner___len__) := ⟨rfl, rfl, rfl, by decide +kernel, rfl, by decide +kernel, by decide +kernel⟩
theorem ok_Runner___len__ {f cRunner : Addr} {fd : FuncData} (Fd : Fun K "__len__" "Runner.__len__" s_Runner___len__ f fd) (hb : Binds K fd ["self"] []) (R_Runner : RCls K mg cRunner) (e_Runner___len__ : Meth K cRunner "__len__" f) (z_len : mg "len" = none) : DefM P w K mg base cRunner "__len__" 1 (sp_lenR cRunner) := by
  refine defM_ok Fd sc_Runner___len__ R_Runner.cl e_Runner___len__ hb rfl fun cdv A outer s H E hr ds M Q h => ?_
  obtain ⟨a, p, r, t, ts, rfl, ra, q⟩ := h
  refine dss_cons (ds_ret (de_len (da_cons (de_fld (de_var 0 rfl ⟨a, _, _, _, rfl, ra.ia, R_Runner.cl, R_Runner.np, rfl, da_nil ⟨_, (ts.map fr).length, rfl, by simp [lenOf, ra.pa], ?_⟩⟩))) z_len))
  rw [List.length_map]
  exact q
-- no Runner.copy
end
section
variable {P : Program} {w : World} {K : PySem.W.Frag} {mg : Str → Option Value} {base : Heap}
/-! ### a time that is none: need_time, go raise -/
def timeOk : PyData → Bool
  | .tuple [p, q] => cnt p 0 1000000 && cnt q 1 1000
  | _ => false
def sp_need_timeX (D : Addr) : DXSp where
  n := 1
  wp := fun ds M Q U => ∃ p : PyData, ds = [.d p] ∧ timeOk p = false ∧ U D M
  mono := fun _ h2 ⟨p, e, b, q⟩ => ⟨p, e, b, h2 _ _ q⟩
  len := fun ⟨p, e, b, q⟩ => by rw [e]; rfl
theorem ok_need_timeX {f cInvalidTime : Addr} {fd : FuncData} (Fd : Fun K "need_time" "need_time" s_need_time f fd) (hm : mg "need_time" = some (.ref f)) (hb : Binds K fd ["value"] []) (d_is_count : Def P w K mg base "is_count" 1 sp_is_count) (x_InvalidTime : ExcX K mg "InvalidTime" cInvalidTime) (z_isinstance : mg "isinstance" = none) (z_len : mg "len" = none) (z_tuple : mg "tuple" = none) : DefX P w K mg base "need_time" 2 (sp_need_timeX cInvalidTime) := by
  refine defX_ok Fd sc_need_time hm hb rfl fun cdv A outer s H E hr ds M Q U h => ?_
  obtain ⟨p, rfl, hp, q⟩ := h
  have rz : ∀ {ρ : Ev} {D : DEnds} {sts : List Stmt} {p1 p2 p3 : Pos}, DXs (cxOf (L2N.CX P w) P w K mg base nm_need_time "need_time" (defScope s_need_time) f cdv A outer s H E) (.Raise (some (.Call (.Name "InvalidTime" p1) [] [] p2)) none p3 :: sts) ρ M D fun C _ M' => U C M' := fun {ρ D sts p1 p2 p3} => by
    refine dxs_cons ?_
    exact dx_raise x_InvalidTime q
  refine dxs_cons (dx_if (DW.dt (dw_or (dt_not (DT.of_val (de_isi (Tn := "tuple") (de_var 0 rfl (⟨_, rfl, ⟨_, rfl, ?_⟩⟩)) z_isinstance z_tuple (by decide +kernel) (by decide +kernel)))))))
  rw [isTy_tuple]
  cases p with
  | tuple ps =>
    refine dw_or1 (dt_cmpI ci_ne (de_len (da_cons (de_var 0 rfl (da_nil (⟨_, _, rfl, rfl, de_int (⟨_, _, rfl, rfl, ite2 (fun hI => rz) (fun hI => ?_)⟩)⟩)))) z_len))
    have hl : ps.length = 2 := by
      by_cases e : ps.length = 2
      · exact e
      · refine absurd ?_ hI
        simp only [Bool.not_eq_true', decide_eq_false_iff_not]
        omega
    obtain ⟨p1, p2, rfl⟩ : ∃ p1 p2, ps = [p1, p2] := by
      match ps, hl with
      | [p1, p2], _ => exact ⟨_, _, rfl⟩
    refine dxs_nil ?_
    refine dxs_cons (dx_if (DW.dt (dw_or (dt_not (DT.of_val (de_call d_is_count (hr.mono (by decide)) (da_cons (de_ixT (de_var 0 rfl (de_int (⟨_, _, _, rfl, rfl, rfl, da_cons (de_int (da_cons (de_int (da_nil ⟨_, _, _, rfl, ⟨_, rfl, ?_⟩⟩))))⟩)))))))))))
    cases h1 : cnt p1 0 1000000 with
    | false => exact rz
    | true =>
    refine dw_or1 (dt_not (DT.of_val (de_call d_is_count (hr.mono (by decide)) (da_cons (de_ixT (de_var 0 rfl (de_int (⟨_, _, _, rfl, rfl, rfl, da_cons (de_int (da_cons (de_int (da_nil ⟨_, _, _, rfl, ⟨_, rfl, ?_⟩⟩))))⟩))))))))
    have h2 : cnt p2 1 1000 = false := by
      have hp : (cnt p1 0 1000000 && cnt p2 1 1000) = false := hp
      rw [h1] at hp
      exact hp
    rw [h2]
    exact rz
  | _ => exact rz
def sp_goX (C D : Addr) : DXSp where
  n := 2
  wp := fun ds M Q U => ∃ (a p : Addr) (r : Run) (t : Rat) (ts : List Rat) (x : PyData), ds = [.o a, .d x] ∧ RunAt C a p r t ts M ∧ timeOk x = false ∧ U D M
  mono := fun _ h2 ⟨a, p, r, t, ts, x, e, b, c, q⟩ => ⟨a, p, r, t, ts, x, e, b, c, h2 _ _ q⟩
  len := fun ⟨a, p, r, t, ts, x, e, b, c, q⟩ => by rw [e]; rfl
theorem ok_Runner_goX {f cRunner cInvalidTime : Addr} {fd : FuncData} (Fd : Fun K "go" "Runner.go" s_Runner_go f fd) (hb : Binds K fd ["self", "time"] []) (R_Runner : RCls K mg cRunner) (e_Runner_go : Meth K cRunner "go" f) (d_need_timeX : DefX P w K mg base "need_time" 2 (sp_need_timeX cInvalidTime)) : DefMX P w K mg base cRunner "go" 5 (sp_goX cRunner cInvalidTime) := by
  refine ⟨R_Runner.cl, f, fd, _, e_Runner_go, hb, defX_fn Fd sc_Runner_go rfl fun cdv A outer s H E hr ds M Q U h => ?_⟩
  obtain ⟨a, p, r, t, ts, x, rfl, ra, hx, q⟩ := h
  exact dxs_cons (dx_expr (dxe_call d_need_timeX (hr.mono (by decide)) (da_cons (de_var 1 rfl (da_nil ⟨x, rfl, hx, q⟩)))))
end
section
variable {P : Program} {w : World} {K : PySem.W.Frag} {mg : Str → Option Value} {base : Heap}
abbrev s__law_which : Stmt := topS 35
abbrev nm__law_which : List Str := ["_law_error", "_law_own"]
theorem sc__law_which : FnScope nm__law_which ["_law_error"] (defScope s__law_which) := ⟨rfl, rfl, rfl, by decide +kernel, rfl, by decide +kernel, by decide +kernel⟩
theorem ok__law_which_InvalidTime {f cInvalidRun cInvalidTime cInvalidNumber cInvalidPlace cOtherBox cNothingToUndo cInvalidFormat : Addr} {fd : FuncData} (Fd : Fun K "_law_which" "_law_which" s__law_which f fd) (hm : mg "_law_which" = some (.ref f)) (hb : Binds K fd ["_law_error"] []) (g_InvalidRun : mg "InvalidRun" = some (.ref cInvalidRun)) (g_InvalidTime : mg "InvalidTime" = some (.ref cInvalidTime)) (g_InvalidNumber : mg "InvalidNumber" = some (.ref cInvalidNumber)) (g_InvalidPlace : mg "InvalidPlace" = some (.ref cInvalidPlace)) (g_OtherBox : mg "OtherBox" = some (.ref cOtherBox)) (g_NothingToUndo : mg "NothingToUndo" = some (.ref cNothingToUndo)) (g_InvalidFormat : mg "InvalidFormat" = some (.ref cInvalidFormat)) (i_InvalidTime : ExcC K cInvalidTime) (t_InvalidTime_InvalidRun : PySem.W.kitOne K (.ref cInvalidTime) (.ref cInvalidRun) = some false) (t_InvalidTime_InvalidTime : PySem.W.kitOne K (.ref cInvalidTime) (.ref cInvalidTime) = some true) (t_InvalidTime_InvalidNumber : PySem.W.kitOne K (.ref cInvalidTime) (.ref cInvalidNumber) = some false) (t_InvalidTime_InvalidPlace : PySem.W.kitOne K (.ref cInvalidTime) (.ref cInvalidPlace) = some false) (t_InvalidTime_OtherBox : PySem.W.kitOne K (.ref cInvalidTime) (.ref cOtherBox) = some false) (t_InvalidTime_NothingToUndo : PySem.W.kitOne K (.ref cInvalidTime) (.ref cNothingToUndo) = some false) (t_InvalidTime_InvalidFormat : PySem.W.kitOne K (.ref cInvalidTime) (.ref cInvalidFormat) = some false) (u_InvalidTime : PySem.W.kitOne K (.ref cInvalidTime) (.type "ValueError") = some true) (z_isinstance : mg "isinstance" = none) (z_ValueError : mg "ValueError" = none) : DefP P w K mg base "_law_which" 1 cInvalidTime (.tuple [.str "raised", .int 1]) := by
  refine defP_ok Fd sc__law_which hm hb fun cdv A outer s H E p Q hot hr hz hf M q => ?_
  refine dss_cons (ds_set 1 sc__law_which.nd (de_lst (da_cons (de_isP (hm := z_isinstance) (c := p) (List.mem_singleton_self _) i_InvalidTime hz hf g_InvalidRun t_InvalidTime_InvalidRun (de_var 0 rfl (And.intro rfl (da_cons (de_isP (hm := z_isinstance) (c := p) (List.mem_singleton_self _) i_InvalidTime hz hf g_InvalidTime t_InvalidTime_InvalidTime (de_var 0 rfl (And.intro rfl (da_nil ⟨[.bool false, .bool true], rfl, rfl, fun l hl => ?_⟩)))))))))))
  refine dss_cons (ds_expr (de_extend1 (de_var 1 rfl ⟨l, _, rfl, updM_same, da_cons (de_isP (hm := z_isinstance) (c := p) (List.mem_singleton_self _) i_InvalidTime hz hf g_InvalidNumber t_InvalidTime_InvalidNumber (de_var 0 rfl (And.intro rfl (da_nil ⟨[.bool false], _, rfl, updM_same, rfl, by decide, ?_⟩))))⟩)))
  rw [updM_upd]
  refine dss_cons (ds_expr (de_extend1 (de_var 1 rfl ⟨l, _, rfl, updM_same, da_cons (de_isP (hm := z_isinstance) (c := p) (List.mem_singleton_self _) i_InvalidTime hz hf g_InvalidPlace t_InvalidTime_InvalidPlace (de_var 0 rfl (And.intro rfl (da_cons (de_isP (hm := z_isinstance) (c := p) (List.mem_singleton_self _) i_InvalidTime hz hf g_OtherBox t_InvalidTime_OtherBox (de_var 0 rfl (And.intro rfl (da_nil ⟨[.bool false, .bool false], _, rfl, updM_same, rfl, by decide, ?_⟩))))))))⟩)))
  rw [updM_upd]
  refine dss_cons (ds_expr (de_extend1 (de_var 1 rfl ⟨l, _, rfl, updM_same, da_cons (de_isP (hm := z_isinstance) (c := p) (List.mem_singleton_self _) i_InvalidTime hz hf g_NothingToUndo t_InvalidTime_NothingToUndo (de_var 0 rfl (And.intro rfl (da_nil ⟨[.bool false], _, rfl, updM_same, rfl, by decide, ?_⟩))))⟩)))
  rw [updM_upd]
  refine dss_cons (ds_expr (de_append (de_var 1 rfl ⟨l, _, rfl, updM_same, de_isP (hm := z_isinstance) (c := p) (List.mem_singleton_self _) i_InvalidTime hz hf g_InvalidFormat t_InvalidTime_InvalidFormat (de_var 0 rfl (And.intro rfl ⟨_, _, updM_same, rfl, by decide, ?_⟩))⟩)))
  rw [updM_upd]
  refine dss_guard (DW.dt (dw_or (dt_cmpI ci_ne (de_countO (u65H hr) (de_var 1 rfl ⟨l, _, rfl, updM_same, de_bl ⟨_, _, updM_same, rfl, rfl, rfl, rfl, de_int ⟨_, _, rfl, rfl, iteN (by decide) (dw_or1 (dt_not (DT.of_val (de_isPB (c := p) (List.mem_singleton_self _) i_InvalidTime hz hf z_ValueError (by decide +kernel) u_InvalidTime (de_var 0 rfl ⟨rfl, ⟨_, rfl, ⟨rfl, rfl⟩⟩⟩) z_isinstance))))⟩⟩⟩))))) ?_
  refine dss_cons (ds_ret (de_forget l (de_tup (da_cons (de_str (da_cons (de_indexO (u65H hr) (de_var 1 rfl ⟨l, _, rfl, updM_same, de_bl ⟨_, _, 1, .bool true, updM_same, rfl, rfl, rfl, rfl, rfl, ?_, da_nil ⟨[_, _], rfl, rfl, ?_⟩⟩⟩))))))))
  · intro m z' hm hz'
    match m, hm with
    | 0, _ => cases hz'; rfl
    | m + 1, h => omega
  · rw [delM_upd hl]; exact q
theorem ok__law_which_NothingToUndo {f cInvalidRun cInvalidTime cInvalidNumber cInvalidPlace cOtherBox cNothingToUndo cInvalidFormat : Addr} {fd : FuncData} (Fd : Fun K "_law_which" "_law_which" s__law_which f fd) (hm : mg "_law_which" = some (.ref f)) (hb : Binds K fd ["_law_error"] []) (g_InvalidRun : mg "InvalidRun" = some (.ref cInvalidRun)) (g_InvalidTime : mg "InvalidTime" = some (.ref cInvalidTime)) (g_InvalidNumber : mg "InvalidNumber" = some (.ref cInvalidNumber)) (g_InvalidPlace : mg "InvalidPlace" = some (.ref cInvalidPlace)) (g_OtherBox : mg "OtherBox" = some (.ref cOtherBox)) (g_NothingToUndo : mg "NothingToUndo" = some (.ref cNothingToUndo)) (g_InvalidFormat : mg "InvalidFormat" = some (.ref cInvalidFormat)) (i_NothingToUndo : ExcC K cNothingToUndo) (t_NothingToUndo_InvalidRun : PySem.W.kitOne K (.ref cNothingToUndo) (.ref cInvalidRun) = some false) (t_NothingToUndo_InvalidTime : PySem.W.kitOne K (.ref cNothingToUndo) (.ref cInvalidTime) = some false) (t_NothingToUndo_InvalidNumber : PySem.W.kitOne K (.ref cNothingToUndo) (.ref cInvalidNumber) = some false) (t_NothingToUndo_InvalidPlace : PySem.W.kitOne K (.ref cNothingToUndo) (.ref cInvalidPlace) = some false) (t_NothingToUndo_OtherBox : PySem.W.kitOne K (.ref cNothingToUndo) (.ref cOtherBox) = some false) (t_NothingToUndo_NothingToUndo : PySem.W.kitOne K (.ref cNothingToUndo) (.ref cNothingToUndo) = some true) (t_NothingToUndo_InvalidFormat : PySem.W.kitOne K (.ref cNothingToUndo) (.ref cInvalidFormat) = some false) (u_NothingToUndo : PySem.W.kitOne K (.ref cNothingToUndo) (.type "ValueError") = some true) (z_isinstance : mg "isinstance" = none) (z_ValueError : mg "ValueError" = none) : DefP P w K mg base "_law_which" 1 cNothingToUndo (.tuple [.str "raised", .int 5]) := by
  refine defP_ok Fd sc__law_which hm hb fun cdv A outer s H E p Q hot hr hz hf M q => ?_
  refine dss_cons (ds_set 1 sc__law_which.nd (de_lst (da_cons (de_isP (hm := z_isinstance) (c := p) (List.mem_singleton_self _) i_NothingToUndo hz hf g_InvalidRun t_NothingToUndo_InvalidRun (de_var 0 rfl (And.intro rfl (da_cons (de_isP (hm := z_isinstance) (c := p) (List.mem_singleton_self _) i_NothingToUndo hz hf g_InvalidTime t_NothingToUndo_InvalidTime (de_var 0 rfl (And.intro rfl (da_nil ⟨[.bool false, .bool false], rfl, rfl, fun l hl => ?_⟩)))))))))))
  refine dss_cons (ds_expr (de_extend1 (de_var 1 rfl ⟨l, _, rfl, updM_same, da_cons (de_isP (hm := z_isinstance) (c := p) (List.mem_singleton_self _) i_NothingToUndo hz hf g_InvalidNumber t_NothingToUndo_InvalidNumber (de_var 0 rfl (And.intro rfl (da_nil ⟨[.bool false], _, rfl, updM_same, rfl, by decide, ?_⟩))))⟩)))
  rw [updM_upd]
  refine dss_cons (ds_expr (de_extend1 (de_var 1 rfl ⟨l, _, rfl, updM_same, da_cons (de_isP (hm := z_isinstance) (c := p) (List.mem_singleton_self _) i_NothingToUndo hz hf g_InvalidPlace t_NothingToUndo_InvalidPlace (de_var 0 rfl (And.intro rfl (da_cons (de_isP (hm := z_isinstance) (c := p) (List.mem_singleton_self _) i_NothingToUndo hz hf g_OtherBox t_NothingToUndo_OtherBox (de_var 0 rfl (And.intro rfl (da_nil ⟨[.bool false, .bool false], _, rfl, updM_same, rfl, by decide, ?_⟩))))))))⟩)))
  rw [updM_upd]
  refine dss_cons (ds_expr (de_extend1 (de_var 1 rfl ⟨l, _, rfl, updM_same, da_cons (de_isP (hm := z_isinstance) (c := p) (List.mem_singleton_self _) i_NothingToUndo hz hf g_NothingToUndo t_NothingToUndo_NothingToUndo (de_var 0 rfl (And.intro rfl (da_nil ⟨[.bool true], _, rfl, updM_same, rfl, by decide, ?_⟩))))⟩)))
  rw [updM_upd]
  refine dss_cons (ds_expr (de_append (de_var 1 rfl ⟨l, _, rfl, updM_same, de_isP (hm := z_isinstance) (c := p) (List.mem_singleton_self _) i_NothingToUndo hz hf g_InvalidFormat t_NothingToUndo_InvalidFormat (de_var 0 rfl (And.intro rfl ⟨_, _, updM_same, rfl, by decide, ?_⟩))⟩)))
  rw [updM_upd]
  refine dss_guard (DW.dt (dw_or (dt_cmpI ci_ne (de_countO (u65H hr) (de_var 1 rfl ⟨l, _, rfl, updM_same, de_bl ⟨_, _, updM_same, rfl, rfl, rfl, rfl, de_int ⟨_, _, rfl, rfl, iteN (by decide) (dw_or1 (dt_not (DT.of_val (de_isPB (c := p) (List.mem_singleton_self _) i_NothingToUndo hz hf z_ValueError (by decide +kernel) u_NothingToUndo (de_var 0 rfl ⟨rfl, ⟨_, rfl, ⟨rfl, rfl⟩⟩⟩) z_isinstance))))⟩⟩⟩))))) ?_
  refine dss_cons (ds_ret (de_forget l (de_tup (da_cons (de_str (da_cons (de_indexO (u65H hr) (de_var 1 rfl ⟨l, _, rfl, updM_same, de_bl ⟨_, _, 5, .bool true, updM_same, rfl, rfl, rfl, rfl, rfl, ?_, da_nil ⟨[_, _], rfl, rfl, ?_⟩⟩⟩))))))))
  · intro m z' hm hz'
    match m, hm with
    | 0, _ => cases hz'; rfl
    | 1, _ => cases hz'; rfl
    | 2, _ => cases hz'; rfl
    | 3, _ => cases hz'; rfl
    | 4, _ => cases hz'; rfl
    | m + 5, h => omega
  · rw [delM_upd hl]; exact q
end

section
variable {P : Program} {w : World} {K : PySem.W.Frag} {mg : Str → Option Value} {base : Heap}
/-! ### _law_do -/
def DoOut (C a p : Addr) (r : Run) (t : Rat) (ts : List Rat) (what : Int) (tm : EV) (M : Mem) (out : PyData) (M2 : Mem) : Prop :=
  (what = 0 ∧ ∃ n d : Int, tm = T [.int n, .int d] ∧ (r.Ok ∧ TR t ∧ ts.length < 1000) ∧ (0 ≤ n ∧ n ≤ 1000000 ∧ 1 ≤ d ∧ d ≤ 1000) ∧ out = placeD r (t + rq n d) ∧ M2 = updM (updM M p (.lst ((ts ++ [t]).map fr))) a (.ins C (rfs r (t + rq n d) p))) ∨
  (what = 0 ∧ ∃ x : PyData, tm = .d x ∧ timeOk x = false ∧ out = .tuple [.str "raised", .int 1] ∧ M2 = M) ∨
  (what = 1 ∧ ts = [] ∧ out = .tuple [.str "raised", .int 5] ∧ M2 = M)
def sp__law_do (C : Addr) : DSp where
  n := 3
  wp := fun ds M Q => ∃ (a p : Addr) (r : Run) (t : Rat) (ts : List Rat) (what : Int) (tm : EV) (out : PyData) (M2 : Mem), ds = [.o a, I what, tm] ∧ RunAt C a p r t ts M ∧ DoOut C a p r t ts what tm M out M2 ∧ Q (.d out) M2
  mono := fun h ⟨a, p, r, t, ts, what, tm, out, M2, e, b, d, q⟩ => ⟨a, p, r, t, ts, what, tm, out, M2, e, b, d, h _ _ q⟩
  len := fun ⟨a, p, r, t, ts, what, tm, out, M2, e, b, d, q⟩ => by rw [e]; rfl
theorem hot_of {A : Around} {a : Addr} {oe : Obj} {C : Value} (hz : L2N.Zn C none oe) (hf : ∃ vs, oe.data = .fields vs) (hh : A.handled = some (.ref a)) : L2H.Hot1 A (a, oe) :=
  ⟨hh, hf.elim fun vs e => ⟨vs, e, hz.2.2 vs e⟩⟩
abbrev s__law_do : Stmt := topS 36
abbrev nm__law_do : List Str := ["_law_runner", "_law_what", "_law_time", "_law_error"]
theorem sc__law_do : FnScope nm__law_do ["_law_runner", "_law_what", "_law_time"] (defScope s__law_do) := ⟨rfl, rfl, rfl, by decide +kernel, rfl, by decide +kernel, by decide +kernel⟩
theorem ok__law_do {f cRunner cNothingToUndo cInvalidTime cBounceError : Addr} {fd : FuncData} (Fd : Fun K "_law_do" "_law_do" s__law_do f fd) (hm : mg "_law_do" = some (.ref f)) (hb : Binds K fd ["_law_runner", "_law_what", "_law_time"] []) (m_Runner_go : DefM P w K mg base cRunner "go" 5 (sp_go cRunner)) (m_Runner_goX : DefMX P w K mg base cRunner "go" 5 (sp_goX cRunner cInvalidTime)) (m_Runner_undoX : DefMX P w K mg base cRunner "undo" 1 (sp_undoX cRunner cNothingToUndo)) (p__law_which_NothingToUndo : DefP P w K mg base "_law_which" 1 cNothingToUndo (.tuple [.str "raised", .int 5])) (p__law_which_InvalidTime : DefP P w K mg base "_law_which" 1 cInvalidTime (.tuple [.str "raised", .int 1])) (g_BounceError : mg "BounceError" = some (.ref cBounceError)) (x_NothingToUndo_BounceError : PySem.W.exmOne K (.ref cNothingToUndo) (.ref cBounceError) = some true) (x_InvalidTime_BounceError : PySem.W.exmOne K (.ref cInvalidTime) (.ref cBounceError) = some true) : Def P w K mg base "_law_do" 6 (sp__law_do cRunner) := by
  refine def_ok Fd sc__law_do hm hb rfl fun cdv A outer s H E hr ds M Q h => ?_
  obtain ⟨a, p, r, t, ts, what, tm, out, M2, rfl, ra, do_, q⟩ := h
  refine dss_cons (ds_never (dx_try_as 3 sc__law_do.nd g_BounceError fun pn xe hp => ?_))
  rcases do_ with ⟨rfl, n, d, rfl, ⟨k, tr, hl⟩, bd, rfl, rfl⟩ | ⟨rfl, x, rfl, hx, rfl, rfl⟩ | ⟨rfl, rfl, rfl, rfl⟩
  · exact dxs_cons (dx_ret (dxe_if (dt_cmpI ci_eq (de_var 1 rfl (de_int ⟨_, _, rfl, rfl, iteT (dxe_lift (de_meth m_Runner_go (hr.mono (by decide)) (de_var 0 rfl ⟨a, _, rfl, ra.ia, rfl, da_cons (de_var 2 rfl (da_nil ⟨a, p, r, t, ts, n, d, rfl, ra, ⟨k, tr, hl, bd⟩, q⟩))⟩)))⟩)))))
  · refine dxs_cons (dx_ret (dxe_if (dt_cmpI ci_eq (de_var 1 rfl (de_int ⟨_, _, rfl, rfl, iteT (dxe_meth m_Runner_goX (hr.mono (by decide)) (de_var 0 rfl ⟨a, _, rfl, ra.ia, rfl, da_cons (de_var 2 rfl (da_nil ⟨a, p, r, t, ts, x, rfl, ra, hx, true, x_InvalidTime_BounceError, fun _ a' oe pn' hfr hz hf => ?_, fun e => nomatch e⟩))⟩))⟩)))))
    exact dss_cons (ds_ret (de_callP (c := (a', oe)) p__law_which_InvalidTime ⟨(hr.mono (show 1 ≤ 5 by decide)).dp, (hr.mono (show 1 ≤ 5 by decide)).un⟩ (hot_of hz hf rfl) (List.mem_cons_self) hz hf (de_var 3 rfl ⟨rfl, q⟩)))
  · refine dxs_cons (dx_ret (dxe_if (dt_cmpI ci_eq (de_var 1 rfl (de_int ⟨_, _, rfl, rfl, iteF (dxe_meth0 m_Runner_undoX (hr.mono (by decide)) (de_var 0 rfl ⟨a, _, rfl, ra.ia, rfl, a, p, r, t, rfl, ra, true, x_NothingToUndo_BounceError, fun _ a' oe pn' hfr hz hf => ?_, fun e => nomatch e⟩))⟩)))))
    exact dss_cons (ds_ret (de_callP (c := (a', oe)) p__law_which_NothingToUndo ⟨(hr.mono (show 1 ≤ 5 by decide)).dp, (hr.mono (show 1 ≤ 5 by decide)).un⟩ (hot_of hz hf rfl) (List.mem_cons_self) hz hf (de_var 3 rfl ⟨rfl, q⟩)))
end
theorem RunAt.cast {C a p : Addr} {r : Run} {t t' : Rat} {ts ts' : List Rat} {M : Mem} (h : RunAt C a p r t ts M) (e1 : t = t') (e2 : ts = ts') : RunAt C a p r t' ts' M := by
  subst e1 e2
  exact h
def tq (i : Nat) : Rat := rq (1000000 * (i : Int)) 1
def tl (i : Nat) : List Rat := (List.range i).map tq
theorem tl_succ (i : Nat) : tl i ++ [tq i] = tl (i + 1) := by
  unfold tl
  rw [List.range_succ, List.map_append]
  rfl
theorem rq_one1 (n : Int) : rq n 1 = (n : Rat) := by
  unfold rq
  rw [Rat.intCast_one]
  grind
theorem tq_succ (i : Nat) : tq i + rq 1000000 1 = tq (i + 1) := by
  unfold tq
  rw [rq_one1, rq_one1, rq_one1, ← Rat.intCast_add]
  congr 1
theorem tq_tr (i : Nat) (h : i ≤ 10) : TR (tq i) := by
  unfold tq
  rw [rq_one1]
  refine ⟨?_, ?_, ?_⟩
  · rw [Rat.num_intCast]; omega
  · rw [Rat.num_intCast]; omega
  · rw [Rat.den_intCast]; decide
theorem add_zero7 (t : Rat) {d : Int} (hd : 0 < d) : t + rq 0 d = t := by
  rw [(rq_is_zero hd).mpr rfl, Rat.add_zero]
theorem take_last {F : List Rat} {N : Rat} {n : Nat} (h : n < F.length) : F.take (n + 1) = F.take n ++ [(F ++ [N]).getD n 0] := by
  rw [List.take_add_one, List.getElem?_eq_getElem h, List.getD_eq_getElem?_getD, List.getElem?_append_left h, List.getElem?_eq_getElem h]
  rfl
theorem eqv_strS (x y : Str) : PyData.eqv (.str x) (.str y) = decide (x = y) := by
  show (x == y) = _
  exact Bool.beq_eq_decide_eq x y
/-- the hit behind 3000000 -/
theorem hit_big {r : Run} (k : r.Ok) (i : Nat) : (nextQ r (tq i)).num > 1000000 * (i : Int) * (nextQ r (tq i)).den ∧ wallsS r (nextQ r (tq i)) ≠ "" ∧ (nextQ r (tq i)).num < 1000000 * (i : Int) * 36 + 100000 ∧ (nextQ r (tq i)).den ≤ 36 := by
  obtain ⟨hu, hu2, ha, hb⟩ := unit_facts k
  have e : tq i = rq (1000000 * (i : Int) * unitOf r) (unitOf r) := by
    unfold tq
    exact rq_eq (by decide) (by omega) (by omega)
  obtain ⟨m', en, x⟩ := next_tick k hu ha hb (1000000 * (i : Int) * unitOf r)
  rw [← e] at en
  have lt := x.lt
  have le := x.le
  have n0 : 0 ≤ 1000000 * (i : Int) * unitOf r := Int.mul_nonneg (by omega) (by omega)
  have n1 : 1000000 * (i : Int) * unitOf r ≤ 1000000 * (i : Int) * 36 := Int.mul_le_mul_of_nonneg_left hu2 (by omega)
  have b := rq_bound (m := m') hu (by omega)
  rw [← en] at b
  refine ⟨?_, ?_, by omega, by omega⟩
  · have z : tq i < nextQ r (tq i) := by rw [en, e]; exact (rq_lt hu).mpr lt
    have z2 := (Rat.lt_iff _ _).mp z
    have z3 : (tq i).num = 1000000 * (i : Int) ∧ (tq i).den = 1 := by
      unfold tq
      rw [rq_one1]
      exact ⟨Rat.num_intCast _, Rat.den_intCast _⟩
    rw [z3.1, z3.2] at z2
    simpa using z2
  · obtain ⟨j, rfl⟩ : ∃ j : Nat, m' = ((j + 1 : Nat) : Int) := ⟨(m' - 1).toNat, by omega⟩
    rw [en, walls_name k hu ha hb j]
    exact (name_ne k hu ha hb j).mpr x.at_
def kinds11 : List PyData := [.none, .int 5, .tuple [.int 1], .tuple [.int 1, .int 0], .tuple [.int (-1), .int 1], .tuple [.int 1, .int (-1)], .list [.int 1, .int 1], .tuple [.int 1, .int 2, .int 3], .tuple [.bool true, .int 1], .tuple [.int 1, .bool true]]
def kinds11b : List PyData := [.tuple [.int 1000001, .int 1], .tuple [.int 1, .int 1001]]
theorem kinds_bad : ∀ x ∈ kinds11 ++ kinds11b, timeOk x = false := by
  have h : (kinds11 ++ kinds11b).all (fun x => !timeOk x) = true := by decide +kernel
  intro x hx
  have := List.all_eq_true.mp h x hx
  simpa using this
theorem raised_sh (j : Int) : SeqAt.shaped (.tuple [.str "raised", .int j]) = true := (shp_pair (k := 1) (shp_str (by decide +kernel)) (shp_int j)).shaped (by decide)
theorem raised_eq (j : Int) : PyData.eqv (.tuple [.str "raised", .int j]) (.tuple [.str "raised", .int j]) = true := eqv_self _ (shp_pair (k := 1) (shp_str (by decide +kernel)) (shp_int j)).1
theorem place_sh (r : Run) (t : Rat) : SeqAt.shaped (placeD r t) = true := (shp_pair (k := 1) (shp_fr (posX r t)) (shp_fr (posY r t))).shaped (by decide)
theorem place_eq (r : Run) (t : Rat) : PyData.eqv (placeD r t) (placeD r t) = true := eqv_self _ (shp_pair (k := 1) (shp_fr (posX r t)) (shp_fr (posY r t))).1
theorem fr_eq (t : Rat) : PyData.eqv (fr t) (fr t) = true := eqv_self _ (shp_fr (k := 0) t).1
section
variable {P : Program} {w : World} {K : PySem.W.Frag} {mg : Str → Option Value} {base : Heap}
def sp_law : DSp where
  n := 1
  wp := fun ds M Q => ∃ (ns : List Int), ds = [L (ns.map .int)] ∧ ns.length ≤ 63 ∧ ∀ M', Q (B true) M'
  mono := fun h ⟨a, e, s, q⟩ => ⟨a, e, s, fun M' => h _ _ (q M')⟩
  len := fun ⟨a, e, s, q⟩ => by rw [e]; rfl
abbrev s_law : Stmt := topS 37
abbrev nm_law : List Str := ["_law_script", "_law_town", "_law_run_here", "_law_runner", "_law_kinds", "_law_bad", "_law_k", "_law_time", "_law_shuts"]
theorem sc_law : FnScope nm_law ["_law_script"] (defScope s_law) := ⟨rfl, rfl, rfl, by decide +kernel, rfl, by decide +kernel, by decide +kernel⟩
theorem ok_law {f cRunner : Addr} {fd : FuncData} (Fd : Fun K "law" "law" s_law f fd) (d__law_run : Def P w K mg base "_law_run" 2 sp__law_run) (m_Runner___init__ : DefC P w K mg base "Runner" cRunner 4 (sp_init cRunner)) (m_Runner_go : DefM P w K mg base cRunner "go" 5 (sp_go cRunner)) (m_Runner_next_hit : DefM P w K mg base cRunner "next_hit" 7 (sp_next_hit cRunner)) (m_Runner_time : DefM P w K mg base cRunner "time" 1 (sp_time cRunner)) (m_Runner_undo : DefM P w K mg base cRunner "undo" 1 (sp_undo cRunner)) (m_Runner___len__ : DefM P w K mg base cRunner "__len__" 1 (sp_lenR cRunner)) (d__law_do : Def P w K mg base "_law_do" 6 (sp__law_do cRunner)) (z_len : mg "len" = none) (z_range : mg "range" = none) : FnOk P w K mg base CX0 8 f fd ["_law_script"] (toSp K sp_law) := by
  refine def_okF Fd sc_law rfl fun cdv A outer s H E hr ds M0 Q hh => ?_
  obtain ⟨ns, rfl, hn, fin⟩ := hh
  refine dss_cons (ds_set 1 sc_law.nd (de_lst (da_cons (de_int (da_cons (de_int (da_nil (⟨[_, _], rfl, rfl, fun t ht => ?_⟩))))))))
  have tw0 : Twn M0 t (updM M0 t (.lst [.int 0, .int 0])) := ⟨0, 0, rfl, by decide, by decide⟩
  refine dss_cons (ds_set 2 sc_law.nd (de_call d__law_run (hr.mono (by decide)) (da_cons (de_var 0 rfl (da_cons (de_var 1 rfl (da_cons (de_int (da_cons (de_int (da_nil (⟨_, _, _, _, M0, rfl, ⟨by assumption, hn, by omega, by omega, by omega, by omega⟩, fun r M1 tw1 k b1 => ?_⟩))))))))))))
  refine dss_cons (ds_set 3 sc_law.nd (de_make m_Runner___init__ (hr.mono (by decide)) (da_cons (de_var 2 rfl (da_nil fun a ha => ⟨r, a, rfl, k, updM_same, fun p hp => ⟨rfl, ?_⟩⟩)))))
  have ra : RunAt cRunner a p r (tq 0) (tl 0) (updM (updM (updM M1 a (.ins cRunner [])) p (.lst [])) a (.ins cRunner (rfs r 0 p))) := by
    refine RunAt.cast (t := 0) (ts := []) ⟨updM_same, by rw [updM_ne (fun e => by rw [e, updM_same] at hp; cases hp), updM_same]; rfl⟩ ?_ rfl
    unfold tq
    rw [rq_one1]
    rfl
  revert ra
  generalize updM (updM (updM M1 a (.ins cRunner [])) p (.lst [])) a (.ins cRunner (rfs r 0 p)) = M2
  intro ra
  have t0 : fr (tq 0) = .tuple [.int 0, .int 1] := by
    unfold tq
    rw [rq_one1]
    rfl
  have t3 : fr (tq 3) = .tuple [.int 3000000, .int 1] := by
    unfold tq
    rw [rq_one1]
    rfl
  -- the guards
  refine dss_guard (DW.dt (dw_or (dt_neD hr.units (de_call d__law_do (hr.mono (by decide)) (da_cons (de_var 3 rfl (da_cons (de_int (da_cons (de_non (da_nil ⟨a, p, r, tq 0, tl 0, 1, _, _, _, rfl, ra, .inr (.inr ⟨rfl, rfl, rfl, rfl⟩), de_tup (da_cons (de_str (da_cons (de_int (da_nil (⟨[_, _], rfl, rfl, ⟨_, _, rfl, rfl, raised_sh 5, raised_sh 5, iteN (by rw [raised_eq]; rfl) (dw_or1 (dt_neD hr.units (de_meth0 m_Runner_time (hr.mono (by decide)) (de_var 3 rfl ⟨a, _, rfl, ra.ia, rfl, a, p, r, tq 0, tl 0, rfl, ra, de_tup (da_cons (de_int (da_cons (de_int (da_nil (⟨[_, _], rfl, rfl, ⟨_, _, rfl, rfl, sh_fr _, sh_i2 _ _, ⟨by rw [← t0, fr_eq]; rfl, rfl⟩⟩⟩))))))⟩))))⟩⟩))))))⟩))))))))))) ?_
  refine dss_cons (ds_set 4 sc_law.nd (de_lst (da_cons (de_non (da_cons (de_int (da_cons (de_tup (da_cons (de_int (da_nil (⟨[_], rfl, rfl, da_cons (de_tup (da_cons (de_int (da_cons (de_int (da_nil (⟨[_, _], rfl, rfl, da_cons (de_tup (da_cons (de_neg (de_int (⟨_, rfl, da_cons (de_int (da_nil (⟨[_, _], rfl, rfl, da_cons (de_tup (da_cons (de_int (da_cons (de_neg (de_int (⟨_, rfl, da_nil (⟨[_, _], rfl, rfl, da_cons (de_lstD (da_cons (de_int (da_cons (de_int (da_nil (⟨[_, _], rfl, rfl, da_cons (de_tup (da_cons (de_int (da_cons (de_int (da_cons (de_int (da_nil (⟨[_, _, _], rfl, rfl, da_cons (de_tup (da_cons (de_bl (da_cons (de_int (da_nil (⟨[_, _], rfl, rfl, da_cons (de_tup (da_cons (de_int (da_cons (de_bl (da_nil (⟨[_, _], rfl, rfl, da_nil (⟨kinds11, rfl, rfl, fun l hl => ?_⟩)⟩)))))))⟩)))))))⟩)))))))))⟩)))))))⟩)⟩)))))))⟩)))⟩)))))⟩)))))))⟩))))))))))))
  refine dss_cons (ds_expr (de_extend1 (de_var 4 rfl ⟨l, _, rfl, updM_same, da_cons (de_tup (da_cons (de_int (da_cons (de_int (da_nil ⟨[_, _], rfl, rfl, da_cons (de_tup (da_cons (de_int (da_cons (de_int (da_nil ⟨[_, _], rfl, rfl, da_nil ⟨kinds11b, _, rfl, updM_same, rfl, by decide, ?_⟩⟩))))))⟩))))))⟩)))
  rw [updM_upd]
  refine dss_freeze 4 rfl updM_same ?_
  rw [delM_upd hl]
  let In : Nat → QM := fun i ρ' M' => M2 = M' ∧ ∃ v5, ρ' = [some (L (ns.map .int)), some (.o t), some (.d r.data), some (.o a), some (L (kinds11 ++ kinds11b)), v5, none, none, none]
  refine dss_cut (In 12) ?_ ?_
  · refine ds_forL (de_var 4 rfl (⟨_, rfl, In, ⟨rfl, none, rfl⟩, ⟨fun i ρ' M' d hi hd hW => ?_, fun ρ' M' hW => hW⟩⟩))
    obtain ⟨x, hx, rfl⟩ := hd
    obtain ⟨rfl, v5, rfl⟩ := hW
    have bad := kinds_bad x (List.mem_of_getElem? hx)
    refine dg_name 5 (?_) sc_law.nd
    refine dss_guard (dt_neD hr.units (de_call d__law_do (hr.mono (by decide)) (da_cons (de_var 3 rfl (da_cons (de_int (da_cons (de_var 5 rfl (da_nil ⟨a, p, r, tq 0, tl 0, 0, _, _, _, rfl, ra, .inr (.inl ⟨rfl, x, rfl, bad, rfl, rfl⟩), de_tup (da_cons (de_str (da_cons (de_int (da_nil (⟨[_, _], rfl, rfl, ⟨_, _, rfl, rfl, raised_sh 1, raised_sh 1, ⟨by rw [raised_eq]; rfl, rfl⟩⟩⟩))))))⟩))))))))) ?_
    exact dss_nil ⟨rfl, _, rfl⟩
  rintro ρ' M' ⟨rfl, v5, rfl⟩
  refine dss_guard (DW.dt (dw_or (dt_cmpI ci_ne (de_lenOwn (hm := z_len) m_Runner___len__ (hr.mono (by decide)) (da_cons (de_var 3 rfl (da_nil ⟨a, _, rfl, ra.ia, a, p, r, tq 0, tl 0, rfl, ra, _, rfl, by decide, by decide, de_int ⟨_, _, rfl, rfl, iteN (by decide) (dw_or1 (dt_neD hr.units (de_meth0 m_Runner_time (hr.mono (by decide)) (de_var 3 rfl ⟨a, _, rfl, ra.ia, rfl, a, p, r, tq 0, tl 0, rfl, ra, de_tup (da_cons (de_int (da_cons (de_int (da_nil (⟨[_, _], rfl, rfl, ⟨_, _, rfl, rfl, sh_fr _, sh_i2 _ _, ⟨by rw [← t0, fr_eq]; rfl, rfl⟩⟩⟩))))))⟩))))⟩⟩))))))) ?_
  -- three goes
  let Ib : Nat → QM := fun i ρ' M' => RunAt cRunner a p r (tq i) (tl i) M' ∧ ∃ v6, ρ' = [some (L (ns.map .int)), some (.o t), some (.d r.data), some (.o a), some (L (kinds11 ++ kinds11b)), v5, v6, none, none]
  refine dss_cut (Ib 3) ?_ ?_
  · refine ds_forR1 (da_cons (de_int (da_nil (⟨_, rfl, by decide, by decide, Ib, ⟨ra, none, rfl⟩, ⟨fun i ρ' M' d hi hd hW => ?_, fun ρ' M' hW => hW⟩⟩)))) z_range
    obtain ⟨ra, v6, rfl⟩ := hW
    have hi : i < 3 := hi
    refine dg_name 6 (?_) sc_law.nd
    refine dss_cons (ds_expr (de_meth m_Runner_go (hr.mono (by decide)) (de_var 3 rfl ⟨a, _, rfl, ra.ia, rfl, da_cons (de_tup (da_cons (de_int (da_cons (de_int (da_nil ⟨[_, _], rfl, rfl, da_nil ⟨a, p, r, tq i, tl i, _, _, rfl, ra, ⟨k, tq_tr i (by omega), by unfold tl; rw [List.length_map, List.length_range]; omega, by decide, by decide, by decide, by decide⟩, ?_⟩⟩))))))⟩)))
    exact dss_nil ⟨(ra.step _ _).cast (tq_succ i) (tl_succ i), _, rfl⟩
  rintro ρ' M' ⟨ra, v6, rfl⟩
  refine dss_guard (DW.dt (dw_or (dt_neD hr.units (de_meth0 m_Runner_time (hr.mono (by decide)) (de_var 3 rfl ⟨a, _, rfl, ra.ia, rfl, a, p, r, tq 3, tl 3, rfl, ra, de_tup (da_cons (de_int (da_cons (de_int (da_nil (⟨[_, _], rfl, rfl, ⟨_, _, rfl, rfl, sh_fr _, sh_i2 _ _, iteN (by rw [← t3, fr_eq]; rfl) (dw_or1 (dt_cmpI ci_ne (de_lenOwn (hm := z_len) m_Runner___len__ (hr.mono (by decide)) (da_cons (de_var 3 rfl (da_nil ⟨a, _, rfl, ra.ia, a, p, r, tq 3, tl 3, rfl, ra, _, rfl, by decide, by decide, de_int ⟨_, _, rfl, rfl, rfl, rfl⟩⟩))))))⟩⟩))))))⟩))))) ?_
  -- (0, 7) and (0, 1)
  have z7 : tq 3 + rq 0 7 = tq 3 := add_zero7 _ (by decide)
  have z1 : tq 3 + rq 0 7 + rq 0 1 = tq 3 := by rw [z7]; exact add_zero7 _ (by decide)
  have ra4 := ra.step (tq 3 + rq 0 7) (tl 3 ++ [tq 3])
  have ra5 := ra4.step (tq 3 + rq 0 7 + rq 0 1) (tl 3 ++ [tq 3] ++ [tq 3 + rq 0 7])
  have tr3 := tq_tr 3 (by decide)
  refine dss_guardM (fun M' => RunAt cRunner a p r (tq 3) (tl 3 ++ [tq 3] ++ [tq 3]) M') (dt_neD hr.units (de_call d__law_do (hr.mono (by decide)) (da_cons (de_var 3 rfl (da_cons (de_int (da_cons (de_tup (da_cons (de_int (da_cons (de_int (da_nil (⟨[_, _], rfl, rfl, da_nil ⟨a, p, r, tq 3, tl 3, 0, _, _, _, rfl, ra, .inl ⟨rfl, 0, 7, rfl, ⟨k, tr3, by decide⟩, ⟨by decide, by decide, by decide, by decide⟩, rfl, rfl⟩, de_meth m_Runner_go (hr.mono (by decide)) (de_var 3 rfl ⟨a, _, rfl, ra4.ia, rfl, da_cons (de_tup (da_cons (de_int (da_cons (de_int (da_nil ⟨[_, _], rfl, rfl, da_nil ⟨a, p, r, tq 3 + rq 0 7, tl 3 ++ [tq 3], 0, 1, rfl, ra4, ⟨k, by rw [z7]; exact tr3, by decide, by decide, by decide, by decide, by decide⟩, ⟨_, _, rfl, rfl, place_sh _ _, place_sh _ _, by rw [z1, z7, place_eq]; rfl, ra5.cast z1 (by rw [z7])⟩⟩⟩))))))⟩)⟩⟩)))))))))))))) fun M5 ra => ?_
  clear ra4 ra5
  refine dss_guard (DW.dt (dw_or (dt_neD hr.units (de_meth0 m_Runner_time (hr.mono (by decide)) (de_var 3 rfl ⟨a, _, rfl, ra.ia, rfl, a, p, r, tq 3, _, rfl, ra, de_tup (da_cons (de_int (da_cons (de_int (da_nil (⟨[_, _], rfl, rfl, ⟨_, _, rfl, rfl, sh_fr _, sh_i2 _ _, iteN (by rw [← t3, fr_eq]; rfl) (dw_or1 (dt_cmpI ci_ne (de_lenOwn (hm := z_len) m_Runner___len__ (hr.mono (by decide)) (da_cons (de_var 3 rfl (da_nil ⟨a, _, rfl, ra.ia, a, p, r, tq 3, _, rfl, ra, _, rfl, by decide, by decide, de_int ⟨_, _, rfl, rfl, rfl, rfl⟩⟩))))))⟩⟩))))))⟩))))) ?_
  -- the next hit
  have hb := hit_big k 3
  have ra6 := ra.step (nextQ r (tq 3)) (tl 3 ++ [tq 3] ++ [tq 3] ++ [tq 3])
  have nn0 : 0 < (nextQ r (tq 3)).den := (nextQ r (tq 3)).den_pos
  refine dss_cons (ds_asg (de_meth0 m_Runner_next_hit (hr.mono (by decide)) (de_var 3 rfl ⟨a, _, rfl, ra.ia, rfl, a, p, r, tq 3, _, rfl, ra, ⟨k, tr3, by decide⟩, dg_tup rfl (dgs_cons (dg_name 7 (dgs_cons (dg_name 8 (dgs_nil (?_)) sc_law.nd)) sc_law.nd)) rfl⟩)))
  revert ra6
  generalize updM (updM M5 p (.lst ((tl 3 ++ [tq 3] ++ [tq 3] ++ [tq 3]).map fr))) a (.ins cRunner (rfs r (nextQ r (tq 3)) p)) = M6
  intro ra6
  refine dss_guard (DW.dt (dw_or (dt_cmpI ci_le (de_ixT (de_var 7 rfl (de_int (⟨_, _, _, rfl, rfl, rfl, de_mul (de_int (de_ixT (de_var 7 rfl (de_int (⟨_, _, _, rfl, rfl, rfl, ⟨_, _, rfl, rfl, cmul_l (by omega) (by omega), ⟨_, _, rfl, rfl, iteN (decide_eq_false (by omega)) (dw_or (dt_eqD hr.units (de_var 8 rfl (de_str (⟨_, _, rfl, rfl, (shp_str (k := 0) (pln_walls _ _)).shaped (by decide), (shp_str (k := 0) (by decide +kernel)).shaped (by decide), iteN (by rw [eqv_strS]; exact decide_eq_false hb.2.1) (dw_or1 (dt_neD hr.units (de_meth0 m_Runner_time (hr.mono (by decide)) (de_var 3 rfl ⟨a, _, rfl, ra6.ia, rfl, a, p, r, _, _, rfl, ra6, de_var 7 rfl (⟨_, _, rfl, rfl, sh_fr _, sh_fr _, ⟨by rw [fr_eq]; rfl, rfl⟩⟩)⟩))))⟩)))))⟩⟩⟩)))))⟩))))))) ?_
  -- six times back
  obtain ⟨F, eF⟩ : ∃ F, F = tl 3 ++ [tq 3] ++ [tq 3] ++ [tq 3] := ⟨_, rfl⟩
  obtain ⟨N, eN⟩ : ∃ N, N = nextQ r (tq 3) := ⟨_, rfl⟩
  rw [← eN]
  have lF : F.length = 6 := by rw [eF]; rfl
  let Ic : Nat → QM := fun i ρ' M' => RunAt cRunner a p r ((F ++ [N]).getD (6 - i) 0) (F.take (6 - i)) M' ∧ ∃ v6, ρ' = [some (L (ns.map .int)), some (.o t), some (.d r.data), some (.o a), some (L (kinds11 ++ kinds11b)), v5, v6, some (.d (fr N)), some (S (wallsS r N))]
  refine dss_cut (Ic 6) ?_ ?_
  · refine ds_forR1 (da_cons (de_int (da_nil (⟨_, rfl, by decide, by decide, Ic, ⟨ra6.cast (by rw [eN, eF]; rfl) (by rw [← eF, List.take_of_length_le (by omega)]), _, rfl⟩, ⟨fun i ρ' M' d hi hd hW => ?_, fun ρ' M' hW => hW⟩⟩)))) z_range
    obtain ⟨ra, v6, rfl⟩ := hW
    have hi : i < 6 := hi
    have e1 : 6 - i = 6 - (i + 1) + 1 := by omega
    have e2 : F.take (6 - i) = F.take (6 - (i + 1)) ++ [(F ++ [N]).getD (6 - (i + 1)) 0] := by
      rw [e1]
      exact take_last (by omega)
    replace ra := ra.cast rfl e2
    refine dg_name 6 (?_) sc_law.nd
    refine dss_cons (ds_expr (de_meth0 m_Runner_undo (hr.mono (by decide)) (de_var 3 rfl ⟨a, _, rfl, ra.ia, rfl, a, p, r, _, _, _, rfl, ra, by rw [List.length_take]; omega, ?_⟩)))
    exact dss_nil ⟨ra.step _ _, _, rfl⟩
  rintro ρ' M' ⟨ra, v6, rfl⟩
  refine dss_cons (ds_ret (de_and (de_eqD hr.units (de_meth0 m_Runner_time (hr.mono (by decide)) (de_var 3 rfl ⟨a, _, rfl, ra.ia, rfl, a, p, r, _, _, rfl, ra, de_tup (da_cons (de_int (da_cons (de_int (da_nil (⟨[_, _], rfl, rfl, ⟨_, _, rfl, rfl, sh_fr _, sh_i2 _ _, ⟨_, rfl, iteY (by rw [eF]; exact (by rw [← t0]; exact fr_eq (tq 0))) (de_one (de_eqD hr.units (de_call d__law_do (hr.mono (by decide)) (da_cons (de_var 3 rfl (da_cons (de_int (da_cons (de_non (da_nil ⟨a, p, r, _, [], 1, _, _, _, rfl, ra, .inr (.inr ⟨rfl, rfl, rfl, rfl⟩), de_tup (da_cons (de_str (da_cons (de_int (da_nil (⟨[_, _], rfl, rfl, ⟨_, _, rfl, rfl, raised_sh 5, raised_sh 5, ?_⟩⟩))))))⟩))))))))))⟩⟩⟩))))))⟩)))))
  rw [raised_eq]
  exact fin _
end
open PyProof.Rows in
theorem all_mk {l : PySem.W.OpenLaw} {w : World} {K : PySem.W.Frag} {h : Heap} {mg : Str → Option Value} {fa f_common_of f_is_count f_is_run f_need_run f_need_time f_lowest f_fold f_place_at f__law_draw f__law_run f_is_less f_wait_for_wall f_walls_at f_hit_after f_plusR f_Runner___init__ f_Runner_go f_Runner_next_hit f_Runner_undo f_Runner_undoX f_Runner_time f_Runner___len__ f_need_timeX f_Runner_goX f__law_which_InvalidTime f__law_which_NothingToUndo f__law_do f_law cRunner cNothingToUndo cInvalidTime cInvalidRun cInvalidNumber cInvalidPlace cOtherBox cInvalidFormat cBounceError : Addr} (X : K.In h) (G : h.Ns mainGlobals mg) (hfa : mg "law" = some (.ref fa))
    {od_common_of an_common_of od_is_count an_is_count od_is_run an_is_run od_need_run an_need_run od_need_time an_need_time od_lowest an_lowest od_fold an_fold od_place_at an_place_at od__law_draw an__law_draw od__law_run an__law_run od_is_less an_is_less od_wait_for_wall an_wait_for_wall od_walls_at an_walls_at od_hit_after an_hit_after od_plusR an_plusR od_Runner___init__ an_Runner___init__ od_Runner_go an_Runner_go od_Runner_next_hit an_Runner_next_hit od_Runner_undo an_Runner_undo od_Runner_undoX an_Runner_undoX od_Runner_time an_Runner_time od_Runner___len__ an_Runner___len__ od_need_timeX an_need_timeX od_Runner_goX an_Runner_goX od__law_which_InvalidTime an__law_which_InvalidTime od__law_which_NothingToUndo an__law_which_NothingToUndo od__law_do an__law_do od_law an_law : Option Addr} {sl_common_of sl_is_count sl_is_run sl_need_run sl_need_time sl_lowest sl_fold sl_place_at sl__law_draw sl__law_run sl_is_less sl_wait_for_wall sl_walls_at sl_hit_after sl_plusR sl_Runner___init__ sl_Runner_go sl_Runner_next_hit sl_Runner_undo sl_Runner_undoX sl_Runner_time sl_Runner___len__ sl_need_timeX sl_Runner_goX sl__law_which_InvalidTime sl__law_which_NothingToUndo sl__law_do sl_law : Array (Option Value)} {oc_common_of kV_common_of dc_common_of pm_common_of cd_common_of ct_common_of oc_is_count kV_is_count dc_is_count pm_is_count cd_is_count ct_is_count oc_is_run kV_is_run dc_is_run pm_is_run cd_is_run ct_is_run oc_need_run kV_need_run dc_need_run pm_need_run cd_need_run ct_need_run oc_need_time kV_need_time dc_need_time pm_need_time cd_need_time ct_need_time oc_lowest kV_lowest dc_lowest pm_lowest cd_lowest ct_lowest oc_fold kV_fold dc_fold pm_fold cd_fold ct_fold oc_place_at kV_place_at dc_place_at pm_place_at cd_place_at ct_place_at oc__law_draw kV__law_draw dc__law_draw pm__law_draw cd__law_draw ct__law_draw oc__law_run kV__law_run dc__law_run pm__law_run cd__law_run ct__law_run oc_is_less kV_is_less dc_is_less pm_is_less cd_is_less ct_is_less oc_wait_for_wall kV_wait_for_wall dc_wait_for_wall pm_wait_for_wall cd_wait_for_wall ct_wait_for_wall oc_walls_at kV_walls_at dc_walls_at pm_walls_at cd_walls_at ct_walls_at oc_hit_after kV_hit_after dc_hit_after pm_hit_after cd_hit_after ct_hit_after oc_plusR kV_plusR dc_plusR pm_plusR cd_plusR ct_plusR oc_Runner___init__ kV_Runner___init__ dc_Runner___init__ pm_Runner___init__ cd_Runner___init__ ct_Runner___init__ oc_Runner_go kV_Runner_go dc_Runner_go pm_Runner_go cd_Runner_go ct_Runner_go oc_Runner_next_hit kV_Runner_next_hit dc_Runner_next_hit pm_Runner_next_hit cd_Runner_next_hit ct_Runner_next_hit oc_Runner_undo kV_Runner_undo dc_Runner_undo pm_Runner_undo cd_Runner_undo ct_Runner_undo oc_Runner_undoX kV_Runner_undoX dc_Runner_undoX pm_Runner_undoX cd_Runner_undoX ct_Runner_undoX oc_Runner_time kV_Runner_time dc_Runner_time pm_Runner_time cd_Runner_time ct_Runner_time oc_Runner___len__ kV_Runner___len__ dc_Runner___len__ pm_Runner___len__ cd_Runner___len__ ct_Runner___len__ oc_need_timeX kV_need_timeX dc_need_timeX pm_need_timeX cd_need_timeX ct_need_timeX oc_Runner_goX kV_Runner_goX dc_Runner_goX pm_Runner_goX cd_Runner_goX ct_Runner_goX oc__law_which_InvalidTime kV__law_which_InvalidTime dc__law_which_InvalidTime pm__law_which_InvalidTime cd__law_which_InvalidTime ct__law_which_InvalidTime oc__law_which_NothingToUndo kV__law_which_NothingToUndo dc__law_which_NothingToUndo pm__law_which_NothingToUndo cd__law_which_NothingToUndo ct__law_which_NothingToUndo oc__law_do kV__law_do dc__law_do pm__law_do cd__law_do ct__law_do oc_law kV_law dc_law pm_law cd_law ct_law : Value} {t_SIDE t_SPEED : Tok}
    (g_Runner : PySem.W.nsIn K mainGlobals "Runner" = some (some (.ref cRunner)))
    (g_NothingToUndo : PySem.W.nsIn K mainGlobals "NothingToUndo" = some (some (.ref cNothingToUndo)))
    (g_InvalidTime : PySem.W.nsIn K mainGlobals "InvalidTime" = some (some (.ref cInvalidTime)))
    (g_InvalidRun : PySem.W.nsIn K mainGlobals "InvalidRun" = some (some (.ref cInvalidRun)))
    (g_InvalidNumber : PySem.W.nsIn K mainGlobals "InvalidNumber" = some (some (.ref cInvalidNumber)))
    (g_InvalidPlace : PySem.W.nsIn K mainGlobals "InvalidPlace" = some (some (.ref cInvalidPlace)))
    (g_OtherBox : PySem.W.nsIn K mainGlobals "OtherBox" = some (some (.ref cOtherBox)))
    (g_InvalidFormat : PySem.W.nsIn K mainGlobals "InvalidFormat" = some (some (.ref cInvalidFormat)))
    (g_BounceError : PySem.W.nsIn K mainGlobals "BounceError" = some (some (.ref cBounceError)))
    (a_common_of : PySem.W.nsIn K mainGlobals "common_of" = some (some (.ref f_common_of)))
    (l_common_of : K.lookup f_common_of = some ⟨oc_common_of, od_common_of, .func (PySem.W.fnOf "common_of" "common_of" (defArgs s_common_of) (defBody s_common_of) (defScope s_common_of) .none kV_common_of dc_common_of pm_common_of an_common_of cd_common_of ct_common_of), sl_common_of⟩)
    (c_common_of : PySem.W.codeIn K cd_common_of "common_of" = true)
    (k_common_of : PySem.W.keepIn K (.ref f_common_of) = true)
    (a_is_count : PySem.W.nsIn K mainGlobals "is_count" = some (some (.ref f_is_count)))
    (l_is_count : K.lookup f_is_count = some ⟨oc_is_count, od_is_count, .func (PySem.W.fnOf "is_count" "is_count" (defArgs s_is_count) (defBody s_is_count) (defScope s_is_count) .none kV_is_count dc_is_count pm_is_count an_is_count cd_is_count ct_is_count), sl_is_count⟩)
    (c_is_count : PySem.W.codeIn K cd_is_count "is_count" = true)
    (k_is_count : PySem.W.keepIn K (.ref f_is_count) = true)
    (a_is_run : PySem.W.nsIn K mainGlobals "is_run" = some (some (.ref f_is_run)))
    (l_is_run : K.lookup f_is_run = some ⟨oc_is_run, od_is_run, .func (PySem.W.fnOf "is_run" "is_run" (defArgs s_is_run) (defBody s_is_run) (defScope s_is_run) .none kV_is_run dc_is_run pm_is_run an_is_run cd_is_run ct_is_run), sl_is_run⟩)
    (c_is_run : PySem.W.codeIn K cd_is_run "is_run" = true)
    (k_is_run : PySem.W.keepIn K (.ref f_is_run) = true)
    (a_need_run : PySem.W.nsIn K mainGlobals "need_run" = some (some (.ref f_need_run)))
    (l_need_run : K.lookup f_need_run = some ⟨oc_need_run, od_need_run, .func (PySem.W.fnOf "need_run" "need_run" (defArgs s_need_run) (defBody s_need_run) (defScope s_need_run) .none kV_need_run dc_need_run pm_need_run an_need_run cd_need_run ct_need_run), sl_need_run⟩)
    (c_need_run : PySem.W.codeIn K cd_need_run "need_run" = true)
    (k_need_run : PySem.W.keepIn K (.ref f_need_run) = true)
    (a_need_time : PySem.W.nsIn K mainGlobals "need_time" = some (some (.ref f_need_time)))
    (l_need_time : K.lookup f_need_time = some ⟨oc_need_time, od_need_time, .func (PySem.W.fnOf "need_time" "need_time" (defArgs s_need_time) (defBody s_need_time) (defScope s_need_time) .none kV_need_time dc_need_time pm_need_time an_need_time cd_need_time ct_need_time), sl_need_time⟩)
    (c_need_time : PySem.W.codeIn K cd_need_time "need_time" = true)
    (k_need_time : PySem.W.keepIn K (.ref f_need_time) = true)
    (a_lowest : PySem.W.nsIn K mainGlobals "lowest" = some (some (.ref f_lowest)))
    (l_lowest : K.lookup f_lowest = some ⟨oc_lowest, od_lowest, .func (PySem.W.fnOf "lowest" "lowest" (defArgs s_lowest) (defBody s_lowest) (defScope s_lowest) .none kV_lowest dc_lowest pm_lowest an_lowest cd_lowest ct_lowest), sl_lowest⟩)
    (c_lowest : PySem.W.codeIn K cd_lowest "lowest" = true)
    (k_lowest : PySem.W.keepIn K (.ref f_lowest) = true)
    (a_fold : PySem.W.nsIn K mainGlobals "fold" = some (some (.ref f_fold)))
    (l_fold : K.lookup f_fold = some ⟨oc_fold, od_fold, .func (PySem.W.fnOf "fold" "fold" (defArgs s_fold) (defBody s_fold) (defScope s_fold) .none kV_fold dc_fold pm_fold an_fold cd_fold ct_fold), sl_fold⟩)
    (c_fold : PySem.W.codeIn K cd_fold "fold" = true)
    (k_fold : PySem.W.keepIn K (.ref f_fold) = true)
    (a_place_at : PySem.W.nsIn K mainGlobals "place_at" = some (some (.ref f_place_at)))
    (l_place_at : K.lookup f_place_at = some ⟨oc_place_at, od_place_at, .func (PySem.W.fnOf "place_at" "place_at" (defArgs s_place_at) (defBody s_place_at) (defScope s_place_at) .none kV_place_at dc_place_at pm_place_at an_place_at cd_place_at ct_place_at), sl_place_at⟩)
    (c_place_at : PySem.W.codeIn K cd_place_at "place_at" = true)
    (k_place_at : PySem.W.keepIn K (.ref f_place_at) = true)
    (a__law_draw : PySem.W.nsIn K mainGlobals "_law_draw" = some (some (.ref f__law_draw)))
    (l__law_draw : K.lookup f__law_draw = some ⟨oc__law_draw, od__law_draw, .func (PySem.W.fnOf "_law_draw" "_law_draw" (defArgs s__law_draw) (defBody s__law_draw) (defScope s__law_draw) .none kV__law_draw dc__law_draw pm__law_draw an__law_draw cd__law_draw ct__law_draw), sl__law_draw⟩)
    (c__law_draw : PySem.W.codeIn K cd__law_draw "_law_draw" = true)
    (k__law_draw : PySem.W.keepIn K (.ref f__law_draw) = true)
    (a__law_run : PySem.W.nsIn K mainGlobals "_law_run" = some (some (.ref f__law_run)))
    (l__law_run : K.lookup f__law_run = some ⟨oc__law_run, od__law_run, .func (PySem.W.fnOf "_law_run" "_law_run" (defArgs s__law_run) (defBody s__law_run) (defScope s__law_run) .none kV__law_run dc__law_run pm__law_run an__law_run cd__law_run ct__law_run), sl__law_run⟩)
    (c__law_run : PySem.W.codeIn K cd__law_run "_law_run" = true)
    (k__law_run : PySem.W.keepIn K (.ref f__law_run) = true)
    (a_is_less : PySem.W.nsIn K mainGlobals "is_less" = some (some (.ref f_is_less)))
    (l_is_less : K.lookup f_is_less = some ⟨oc_is_less, od_is_less, .func (PySem.W.fnOf "is_less" "is_less" (defArgs s_is_less) (defBody s_is_less) (defScope s_is_less) .none kV_is_less dc_is_less pm_is_less an_is_less cd_is_less ct_is_less), sl_is_less⟩)
    (c_is_less : PySem.W.codeIn K cd_is_less "is_less" = true)
    (k_is_less : PySem.W.keepIn K (.ref f_is_less) = true)
    (a_wait_for_wall : PySem.W.nsIn K mainGlobals "wait_for_wall" = some (some (.ref f_wait_for_wall)))
    (l_wait_for_wall : K.lookup f_wait_for_wall = some ⟨oc_wait_for_wall, od_wait_for_wall, .func (PySem.W.fnOf "wait_for_wall" "wait_for_wall" (defArgs s_wait_for_wall) (defBody s_wait_for_wall) (defScope s_wait_for_wall) .none kV_wait_for_wall dc_wait_for_wall pm_wait_for_wall an_wait_for_wall cd_wait_for_wall ct_wait_for_wall), sl_wait_for_wall⟩)
    (c_wait_for_wall : PySem.W.codeIn K cd_wait_for_wall "wait_for_wall" = true)
    (k_wait_for_wall : PySem.W.keepIn K (.ref f_wait_for_wall) = true)
    (a_walls_at : PySem.W.nsIn K mainGlobals "walls_at" = some (some (.ref f_walls_at)))
    (l_walls_at : K.lookup f_walls_at = some ⟨oc_walls_at, od_walls_at, .func (PySem.W.fnOf "walls_at" "walls_at" (defArgs s_walls_at) (defBody s_walls_at) (defScope s_walls_at) .none kV_walls_at dc_walls_at pm_walls_at an_walls_at cd_walls_at ct_walls_at), sl_walls_at⟩)
    (c_walls_at : PySem.W.codeIn K cd_walls_at "walls_at" = true)
    (k_walls_at : PySem.W.keepIn K (.ref f_walls_at) = true)
    (a_hit_after : PySem.W.nsIn K mainGlobals "hit_after" = some (some (.ref f_hit_after)))
    (l_hit_after : K.lookup f_hit_after = some ⟨oc_hit_after, od_hit_after, .func (PySem.W.fnOf "hit_after" "hit_after" (defArgs s_hit_after) (defBody s_hit_after) (defScope s_hit_after) .none kV_hit_after dc_hit_after pm_hit_after an_hit_after cd_hit_after ct_hit_after), sl_hit_after⟩)
    (c_hit_after : PySem.W.codeIn K cd_hit_after "hit_after" = true)
    (k_hit_after : PySem.W.keepIn K (.ref f_hit_after) = true)
    (a_plusR : PySem.W.nsIn K mainGlobals "plus" = some (some (.ref f_plusR)))
    (l_plusR : K.lookup f_plusR = some ⟨oc_plusR, od_plusR, .func (PySem.W.fnOf "plus" "plus" (defArgs s_plus) (defBody s_plus) (defScope s_plus) .none kV_plusR dc_plusR pm_plusR an_plusR cd_plusR ct_plusR), sl_plusR⟩)
    (c_plusR : PySem.W.codeIn K cd_plusR "plus" = true)
    (k_plusR : PySem.W.keepIn K (.ref f_plusR) = true)
    (a_Runner___init__ : PySem.W.findIn K (.ref cRunner) "__init__" = some (some (.ref f_Runner___init__)))
    (i_Runner___init__ : PySem.W.isFn K (.ref f_Runner___init__) = true)
    (l_Runner___init__ : K.lookup f_Runner___init__ = some ⟨oc_Runner___init__, od_Runner___init__, .func (PySem.W.fnOf "__init__" "Runner.__init__" (defArgs s_Runner___init__) (defBody s_Runner___init__) (defScope s_Runner___init__) .none kV_Runner___init__ dc_Runner___init__ pm_Runner___init__ an_Runner___init__ cd_Runner___init__ ct_Runner___init__), sl_Runner___init__⟩)
    (c_Runner___init__ : PySem.W.codeIn K cd_Runner___init__ "Runner.__init__" = true)
    (k_Runner___init__ : PySem.W.keepIn K (.ref f_Runner___init__) = true)
    (a_Runner_go : PySem.W.findIn K (.ref cRunner) "go" = some (some (.ref f_Runner_go)))
    (i_Runner_go : PySem.W.isFn K (.ref f_Runner_go) = true)
    (l_Runner_go : K.lookup f_Runner_go = some ⟨oc_Runner_go, od_Runner_go, .func (PySem.W.fnOf "go" "Runner.go" (defArgs s_Runner_go) (defBody s_Runner_go) (defScope s_Runner_go) .none kV_Runner_go dc_Runner_go pm_Runner_go an_Runner_go cd_Runner_go ct_Runner_go), sl_Runner_go⟩)
    (c_Runner_go : PySem.W.codeIn K cd_Runner_go "Runner.go" = true)
    (k_Runner_go : PySem.W.keepIn K (.ref f_Runner_go) = true)
    (a_Runner_next_hit : PySem.W.findIn K (.ref cRunner) "next_hit" = some (some (.ref f_Runner_next_hit)))
    (i_Runner_next_hit : PySem.W.isFn K (.ref f_Runner_next_hit) = true)
    (l_Runner_next_hit : K.lookup f_Runner_next_hit = some ⟨oc_Runner_next_hit, od_Runner_next_hit, .func (PySem.W.fnOf "next_hit" "Runner.next_hit" (defArgs s_Runner_next_hit) (defBody s_Runner_next_hit) (defScope s_Runner_next_hit) .none kV_Runner_next_hit dc_Runner_next_hit pm_Runner_next_hit an_Runner_next_hit cd_Runner_next_hit ct_Runner_next_hit), sl_Runner_next_hit⟩)
    (c_Runner_next_hit : PySem.W.codeIn K cd_Runner_next_hit "Runner.next_hit" = true)
    (k_Runner_next_hit : PySem.W.keepIn K (.ref f_Runner_next_hit) = true)
    (a_Runner_undo : PySem.W.findIn K (.ref cRunner) "undo" = some (some (.ref f_Runner_undo)))
    (i_Runner_undo : PySem.W.isFn K (.ref f_Runner_undo) = true)
    (l_Runner_undo : K.lookup f_Runner_undo = some ⟨oc_Runner_undo, od_Runner_undo, .func (PySem.W.fnOf "undo" "Runner.undo" (defArgs s_Runner_undo) (defBody s_Runner_undo) (defScope s_Runner_undo) .none kV_Runner_undo dc_Runner_undo pm_Runner_undo an_Runner_undo cd_Runner_undo ct_Runner_undo), sl_Runner_undo⟩)
    (c_Runner_undo : PySem.W.codeIn K cd_Runner_undo "Runner.undo" = true)
    (k_Runner_undo : PySem.W.keepIn K (.ref f_Runner_undo) = true)
    (a_Runner_undoX : PySem.W.findIn K (.ref cRunner) "undo" = some (some (.ref f_Runner_undoX)))
    (i_Runner_undoX : PySem.W.isFn K (.ref f_Runner_undoX) = true)
    (l_Runner_undoX : K.lookup f_Runner_undoX = some ⟨oc_Runner_undoX, od_Runner_undoX, .func (PySem.W.fnOf "undo" "Runner.undo" (defArgs s_Runner_undo) (defBody s_Runner_undo) (defScope s_Runner_undo) .none kV_Runner_undoX dc_Runner_undoX pm_Runner_undoX an_Runner_undoX cd_Runner_undoX ct_Runner_undoX), sl_Runner_undoX⟩)
    (c_Runner_undoX : PySem.W.codeIn K cd_Runner_undoX "Runner.undo" = true)
    (k_Runner_undoX : PySem.W.keepIn K (.ref f_Runner_undoX) = true)
    (a_Runner_time : PySem.W.findIn K (.ref cRunner) "time" = some (some (.ref f_Runner_time)))
    (i_Runner_time : PySem.W.isFn K (.ref f_Runner_time) = true)
    (l_Runner_time : K.lookup f_Runner_time = some ⟨oc_Runner_time, od_Runner_time, .func (PySem.W.fnOf "time" "Runner.time" (defArgs s_Runner_time) (defBody s_Runner_time) (defScope s_Runner_time) .none kV_Runner_time dc_Runner_time pm_Runner_time an_Runner_time cd_Runner_time ct_Runner_time), sl_Runner_time⟩)
    (c_Runner_time : PySem.W.codeIn K cd_Runner_time "Runner.time" = true)
    (k_Runner_time : PySem.W.keepIn K (.ref f_Runner_time) = true)
    (a_Runner___len__ : PySem.W.findIn K (.ref cRunner) "__len__" = some (some (.ref f_Runner___len__)))
    (i_Runner___len__ : PySem.W.isFn K (.ref f_Runner___len__) = true)
    (l_Runner___len__ : K.lookup f_Runner___len__ = some ⟨oc_Runner___len__, od_Runner___len__, .func (PySem.W.fnOf "__len__" "Runner.__len__" (defArgs s_Runner___len__) (defBody s_Runner___len__) (defScope s_Runner___len__) .none kV_Runner___len__ dc_Runner___len__ pm_Runner___len__ an_Runner___len__ cd_Runner___len__ ct_Runner___len__), sl_Runner___len__⟩)
    (c_Runner___len__ : PySem.W.codeIn K cd_Runner___len__ "Runner.__len__" = true)
    (k_Runner___len__ : PySem.W.keepIn K (.ref f_Runner___len__) = true)
    (a_need_timeX : PySem.W.nsIn K mainGlobals "need_time" = some (some (.ref f_need_timeX)))
    (l_need_timeX : K.lookup f_need_timeX = some ⟨oc_need_timeX, od_need_timeX, .func (PySem.W.fnOf "need_time" "need_time" (defArgs s_need_time) (defBody s_need_time) (defScope s_need_time) .none kV_need_timeX dc_need_timeX pm_need_timeX an_need_timeX cd_need_timeX ct_need_timeX), sl_need_timeX⟩)
    (c_need_timeX : PySem.W.codeIn K cd_need_timeX "need_time" = true)
    (k_need_timeX : PySem.W.keepIn K (.ref f_need_timeX) = true)
    (a_Runner_goX : PySem.W.findIn K (.ref cRunner) "go" = some (some (.ref f_Runner_goX)))
    (i_Runner_goX : PySem.W.isFn K (.ref f_Runner_goX) = true)
    (l_Runner_goX : K.lookup f_Runner_goX = some ⟨oc_Runner_goX, od_Runner_goX, .func (PySem.W.fnOf "go" "Runner.go" (defArgs s_Runner_go) (defBody s_Runner_go) (defScope s_Runner_go) .none kV_Runner_goX dc_Runner_goX pm_Runner_goX an_Runner_goX cd_Runner_goX ct_Runner_goX), sl_Runner_goX⟩)
    (c_Runner_goX : PySem.W.codeIn K cd_Runner_goX "Runner.go" = true)
    (k_Runner_goX : PySem.W.keepIn K (.ref f_Runner_goX) = true)
    (a__law_which_InvalidTime : PySem.W.nsIn K mainGlobals "_law_which" = some (some (.ref f__law_which_InvalidTime)))
    (l__law_which_InvalidTime : K.lookup f__law_which_InvalidTime = some ⟨oc__law_which_InvalidTime, od__law_which_InvalidTime, .func (PySem.W.fnOf "_law_which" "_law_which" (defArgs s__law_which) (defBody s__law_which) (defScope s__law_which) .none kV__law_which_InvalidTime dc__law_which_InvalidTime pm__law_which_InvalidTime an__law_which_InvalidTime cd__law_which_InvalidTime ct__law_which_InvalidTime), sl__law_which_InvalidTime⟩)
    (c__law_which_InvalidTime : PySem.W.codeIn K cd__law_which_InvalidTime "_law_which" = true)
    (k__law_which_InvalidTime : PySem.W.keepIn K (.ref f__law_which_InvalidTime) = true)
    (a__law_which_NothingToUndo : PySem.W.nsIn K mainGlobals "_law_which" = some (some (.ref f__law_which_NothingToUndo)))
    (l__law_which_NothingToUndo : K.lookup f__law_which_NothingToUndo = some ⟨oc__law_which_NothingToUndo, od__law_which_NothingToUndo, .func (PySem.W.fnOf "_law_which" "_law_which" (defArgs s__law_which) (defBody s__law_which) (defScope s__law_which) .none kV__law_which_NothingToUndo dc__law_which_NothingToUndo pm__law_which_NothingToUndo an__law_which_NothingToUndo cd__law_which_NothingToUndo ct__law_which_NothingToUndo), sl__law_which_NothingToUndo⟩)
    (c__law_which_NothingToUndo : PySem.W.codeIn K cd__law_which_NothingToUndo "_law_which" = true)
    (k__law_which_NothingToUndo : PySem.W.keepIn K (.ref f__law_which_NothingToUndo) = true)
    (a__law_do : PySem.W.nsIn K mainGlobals "_law_do" = some (some (.ref f__law_do)))
    (l__law_do : K.lookup f__law_do = some ⟨oc__law_do, od__law_do, .func (PySem.W.fnOf "_law_do" "_law_do" (defArgs s__law_do) (defBody s__law_do) (defScope s__law_do) .none kV__law_do dc__law_do pm__law_do an__law_do cd__law_do ct__law_do), sl__law_do⟩)
    (c__law_do : PySem.W.codeIn K cd__law_do "_law_do" = true)
    (k__law_do : PySem.W.keepIn K (.ref f__law_do) = true)
    (a_law : PySem.W.nsIn K mainGlobals "law" = some (some (.ref f_law)))
    (l_law : K.lookup f_law = some ⟨oc_law, od_law, .func (PySem.W.fnOf "law" "law" (defArgs s_law) (defBody s_law) (defScope s_law) .none kV_law dc_law pm_law an_law cd_law ct_law), sl_law⟩)
    (c_law : PySem.W.codeIn K cd_law "law" = true)
    (k_law : PySem.W.keepIn K (.ref f_law) = true)
    (b_abs : PySem.W.nsIn K mainGlobals "abs" = some none)
    (b_isinstance : PySem.W.nsIn K mainGlobals "isinstance" = some none)
    (b_int : PySem.W.nsIn K mainGlobals "int" = some none)
    (b_bool : PySem.W.nsIn K mainGlobals "bool" = some none)
    (b_tuple : PySem.W.nsIn K mainGlobals "tuple" = some none)
    (b_len : PySem.W.nsIn K mainGlobals "len" = some none)
    (gl_SIDE : PySem.W.nsIn K mainGlobals "SIDE" = some (some (.int 12 t_SIDE)))
    (gl_SPEED : PySem.W.nsIn K mainGlobals "SPEED" = some (some (.int 6 t_SPEED)))
    (b_min : PySem.W.nsIn K mainGlobals "min" = some none)
    (pg_Runner : PySem.W.plainGet K cRunner Str.empty = true)
    (hd_Runner : PySem.W.hasDictIn K cRunner = true)
    (po_Runner : PySem.W.plainOver K cRunner = true)
    (sa_Runner : PySem.W.findIn K (.ref cRunner) "__setattr__" = some (some (.builtin "object.__setattr__")))
    (no_Runner_run : PySem.W.findIn K (.ref cRunner) "run" = some none)
    (no_Runner_now : PySem.W.findIn K (.ref cRunner) "now" = some none)
    (no_Runner_past : PySem.W.findIn K (.ref cRunner) "past" = some none)
    (mk_Runner : PySem.W.makesIn K cRunner = true)
    (keep_Runner : PySem.W.keepIn K (.ref cRunner) = true)
    (keep_NothingToUndo : PySem.W.keepIn K (.ref cNothingToUndo) = true)
    (exc_NothingToUndo : PySem.W.excIn K cNothingToUndo [.type "ValueError", .type "Exception", .type "BaseException", .type "object"] "ValueError.__new__" = true)
    (subB_NothingToUndo : PySem.W.subIn K (.ref cNothingToUndo) (.type "BaseException") = some true)
    (ty_NothingToUndo : PySem.W.typeIn K (.ref cNothingToUndo) = some (.type "type"))
    (keep_InvalidTime : PySem.W.keepIn K (.ref cInvalidTime) = true)
    (exc_InvalidTime : PySem.W.excIn K cInvalidTime [.type "ValueError", .type "Exception", .type "BaseException", .type "object"] "ValueError.__new__" = true)
    (subB_InvalidTime : PySem.W.subIn K (.ref cInvalidTime) (.type "BaseException") = some true)
    (ty_InvalidTime : PySem.W.typeIn K (.ref cInvalidTime) = some (.type "type"))
    (hg_InvalidTime : PySem.W.findIn K (.ref cInvalidTime) "__getattribute__" = some (some (.builtin "BaseException.__getattribute__")))
    (hk_InvalidTime : PySem.W.findIn K (.ref cInvalidTime) "__getattr__" = some none)
    (xd_InvalidTime : PySem.W.hasDictIn K cInvalidTime = true)
    (ha_InvalidTime : PySem.W.findIn K (.ref cInvalidTime) "__class__" = some (some (.builtin "object.__class__")))
    (hn_class : PySem.W.specialIn K (.builtin "object.__class__") "__get__" = some (some (.builtin "getset_descriptor.__get__")))
    (ht_class : PySem.W.takesIn K (.builtin "object.__class__") = some true)
    (hm_InvalidTime : PySem.W.mroIn K cInvalidTime (.type "object") = some true)
    (ne_InvalidTime_InvalidRun : cInvalidTime ≠ cInvalidRun)
    (cls_InvalidRun : PySem.W.isClsIn K cInvalidRun = true)
    (ty_InvalidRun : PySem.W.typeIn K (.ref cInvalidRun) = some (.type "type"))
    (sub_InvalidTime_InvalidRun : PySem.W.subIn K (.ref cInvalidTime) (.ref cInvalidRun) = some false)
    (ne_InvalidTime_InvalidNumber : cInvalidTime ≠ cInvalidNumber)
    (cls_InvalidNumber : PySem.W.isClsIn K cInvalidNumber = true)
    (ty_InvalidNumber : PySem.W.typeIn K (.ref cInvalidNumber) = some (.type "type"))
    (sub_InvalidTime_InvalidNumber : PySem.W.subIn K (.ref cInvalidTime) (.ref cInvalidNumber) = some false)
    (ne_InvalidTime_InvalidPlace : cInvalidTime ≠ cInvalidPlace)
    (cls_InvalidPlace : PySem.W.isClsIn K cInvalidPlace = true)
    (ty_InvalidPlace : PySem.W.typeIn K (.ref cInvalidPlace) = some (.type "type"))
    (sub_InvalidTime_InvalidPlace : PySem.W.subIn K (.ref cInvalidTime) (.ref cInvalidPlace) = some false)
    (ne_InvalidTime_OtherBox : cInvalidTime ≠ cOtherBox)
    (cls_OtherBox : PySem.W.isClsIn K cOtherBox = true)
    (ty_OtherBox : PySem.W.typeIn K (.ref cOtherBox) = some (.type "type"))
    (sub_InvalidTime_OtherBox : PySem.W.subIn K (.ref cInvalidTime) (.ref cOtherBox) = some false)
    (ne_InvalidTime_NothingToUndo : cInvalidTime ≠ cNothingToUndo)
    (cls_NothingToUndo : PySem.W.isClsIn K cNothingToUndo = true)
    (sub_InvalidTime_NothingToUndo : PySem.W.subIn K (.ref cInvalidTime) (.ref cNothingToUndo) = some false)
    (ne_InvalidTime_InvalidFormat : cInvalidTime ≠ cInvalidFormat)
    (cls_InvalidFormat : PySem.W.isClsIn K cInvalidFormat = true)
    (ty_InvalidFormat : PySem.W.typeIn K (.ref cInvalidFormat) = some (.type "type"))
    (sub_InvalidTime_InvalidFormat : PySem.W.subIn K (.ref cInvalidTime) (.ref cInvalidFormat) = some false)
    (subV_InvalidTime : PySem.W.subIn K (.ref cInvalidTime) (.type "ValueError") = some true)
    (b_ValueError : PySem.W.nsIn K mainGlobals "ValueError" = some none)
    (hg_NothingToUndo : PySem.W.findIn K (.ref cNothingToUndo) "__getattribute__" = some (some (.builtin "BaseException.__getattribute__")))
    (hk_NothingToUndo : PySem.W.findIn K (.ref cNothingToUndo) "__getattr__" = some none)
    (xd_NothingToUndo : PySem.W.hasDictIn K cNothingToUndo = true)
    (ha_NothingToUndo : PySem.W.findIn K (.ref cNothingToUndo) "__class__" = some (some (.builtin "object.__class__")))
    (hm_NothingToUndo : PySem.W.mroIn K cNothingToUndo (.type "object") = some true)
    (ne_NothingToUndo_InvalidRun : cNothingToUndo ≠ cInvalidRun)
    (sub_NothingToUndo_InvalidRun : PySem.W.subIn K (.ref cNothingToUndo) (.ref cInvalidRun) = some false)
    (ne_NothingToUndo_InvalidTime : cNothingToUndo ≠ cInvalidTime)
    (cls_InvalidTime : PySem.W.isClsIn K cInvalidTime = true)
    (sub_NothingToUndo_InvalidTime : PySem.W.subIn K (.ref cNothingToUndo) (.ref cInvalidTime) = some false)
    (ne_NothingToUndo_InvalidNumber : cNothingToUndo ≠ cInvalidNumber)
    (sub_NothingToUndo_InvalidNumber : PySem.W.subIn K (.ref cNothingToUndo) (.ref cInvalidNumber) = some false)
    (ne_NothingToUndo_InvalidPlace : cNothingToUndo ≠ cInvalidPlace)
    (sub_NothingToUndo_InvalidPlace : PySem.W.subIn K (.ref cNothingToUndo) (.ref cInvalidPlace) = some false)
    (ne_NothingToUndo_OtherBox : cNothingToUndo ≠ cOtherBox)
    (sub_NothingToUndo_OtherBox : PySem.W.subIn K (.ref cNothingToUndo) (.ref cOtherBox) = some false)
    (ne_NothingToUndo_InvalidFormat : cNothingToUndo ≠ cInvalidFormat)
    (sub_NothingToUndo_InvalidFormat : PySem.W.subIn K (.ref cNothingToUndo) (.ref cInvalidFormat) = some false)
    (subV_NothingToUndo : PySem.W.subIn K (.ref cNothingToUndo) (.type "ValueError") = some true)
    (subB_BounceError : PySem.W.subIn K (.ref cBounceError) (.type "BaseException") = some true)
    (cls_BounceError : PySem.W.isClsIn K cBounceError = true)
    (ty_BounceError : PySem.W.typeIn K (.ref cBounceError) = some (.type "type"))
    (sub_NothingToUndo_BounceError : PySem.W.subIn K (.ref cNothingToUndo) (.ref cBounceError) = some true)
    (sub_InvalidTime_BounceError : PySem.W.subIn K (.ref cInvalidTime) (.ref cBounceError) = some true)
    (b_range : PySem.W.nsIn K mainGlobals "range" = some none)
    : ∃ fd : FuncData, (∀ (s : Shared) (v : Value), BindsTo s fd ⟨[v], []⟩ [("_law_script", v)]) ∧ ∀ base : Heap, K.In base → base.Ns mainGlobals mg → FnOk l.prog w K mg base CX0 8 fa fd ["_law_script"] (toSp K sp_law) := by
  have e := hfa.symm.trans (PySem.W.mg_of X G a_law)
  cases e
  refine ⟨PySem.W.fnOf "law" "law" (defArgs s_law) (defBody s_law) (defScope s_law) .none kV_law dc_law pm_law an_law cd_law ct_law, fun s v => .of_eq rfl, fun base _ _ => ?_⟩
  have D_common_of : Def l.prog w K mg base "common_of" 1 sp_common_of := ok_common_of (Fd := fun_mk (st := s_common_of) l_common_of c_common_of k_common_of) (hm := PySem.W.mg_of X G a_common_of) (hb := (fun_mk (st := s_common_of) l_common_of c_common_of k_common_of).binds (ps := ["one", "two"]) fun _ _ _ _ _ _ us hl => match us, hl with | [_, _], _ => rfl) (z_abs := PySem.W.mg_none_of X G b_abs)
  have D_is_count : Def l.prog w K mg base "is_count" 1 sp_is_count := ok_is_count (Fd := fun_mk (st := s_is_count) l_is_count c_is_count k_is_count) (hm := PySem.W.mg_of X G a_is_count) (hb := (fun_mk (st := s_is_count) l_is_count c_is_count k_is_count).binds (ps := ["value", "least", "most"]) fun _ _ _ _ _ _ us hl => match us, hl with | [_, _, _], _ => rfl) (z_isinstance := PySem.W.mg_none_of X G b_isinstance) (z_int := PySem.W.mg_none_of X G b_int) (z_bool := PySem.W.mg_none_of X G b_bool)
  have D_is_run : Def l.prog w K mg base "is_run" 2 sp_is_run := ok_is_run (Fd := fun_mk (st := s_is_run) l_is_run c_is_run k_is_run) (hm := PySem.W.mg_of X G a_is_run) (hb := (fun_mk (st := s_is_run) l_is_run c_is_run k_is_run).binds (ps := ["value"]) fun _ _ _ _ _ _ us hl => match us, hl with | [_], _ => rfl) (z_isinstance := PySem.W.mg_none_of X G b_isinstance) (z_tuple := PySem.W.mg_none_of X G b_tuple) (z_len := PySem.W.mg_none_of X G b_len) (c_SIDE := PySem.W.mg_of X G gl_SIDE) (c_SPEED := PySem.W.mg_of X G gl_SPEED) (d_is_count := D_is_count)
  have D_need_run : Def l.prog w K mg base "need_run" 3 sp_need_run := ok_need_run (Fd := fun_mk (st := s_need_run) l_need_run c_need_run k_need_run) (hm := PySem.W.mg_of X G a_need_run) (hb := (fun_mk (st := s_need_run) l_need_run c_need_run k_need_run).binds (ps := ["value"]) fun _ _ _ _ _ _ us hl => match us, hl with | [_], _ => rfl) (d_is_run := D_is_run)
  have D_need_time : Def l.prog w K mg base "need_time" 2 sp_need_time := ok_need_time (Fd := fun_mk (st := s_need_time) l_need_time c_need_time k_need_time) (hm := PySem.W.mg_of X G a_need_time) (hb := (fun_mk (st := s_need_time) l_need_time c_need_time k_need_time).binds (ps := ["value"]) fun _ _ _ _ _ _ us hl => match us, hl with | [_], _ => rfl) (d_is_count := D_is_count) (z_isinstance := PySem.W.mg_none_of X G b_isinstance) (z_len := PySem.W.mg_none_of X G b_len) (z_tuple := PySem.W.mg_none_of X G b_tuple)
  have D_lowest : Def l.prog w K mg base "lowest" 2 sp_lowest := ok_lowest (Fd := fun_mk (st := s_lowest) l_lowest c_lowest k_lowest) (hm := PySem.W.mg_of X G a_lowest) (hb := (fun_mk (st := s_lowest) l_lowest c_lowest k_lowest).binds (ps := ["numerator", "denominator"]) fun _ _ _ _ _ _ us hl => match us, hl with | [_, _], _ => rfl) (d_common_of := D_common_of)
  have D_fold : Def l.prog w K mg base "fold" 3 sp_fold := ok_fold (Fd := fun_mk (st := s_fold) l_fold c_fold k_fold) (hm := PySem.W.mg_of X G a_fold) (hb := (fun_mk (st := s_fold) l_fold c_fold k_fold).binds (ps := ["value", "side"]) fun _ _ _ _ _ _ us hl => match us, hl with | [_, _], _ => rfl) (d_lowest := D_lowest) (z_min := PySem.W.mg_none_of X G b_min)
  have D_place_at : Def l.prog w K mg base "place_at" 4 sp_place_at := ok_place_at (Fd := fun_mk (st := s_place_at) l_place_at c_place_at k_place_at) (hm := PySem.W.mg_of X G a_place_at) (hb := (fun_mk (st := s_place_at) l_place_at c_place_at k_place_at).binds (ps := ["run", "time"]) fun _ _ _ _ _ _ us hl => match us, hl with | [_, _], _ => rfl) (d_fold := D_fold)
  have D__law_draw : Def l.prog w K mg base "_law_draw" 1 sp__law_draw := ok__law_draw (Fd := fun_mk (st := s__law_draw) l__law_draw c__law_draw k__law_draw) (hm := PySem.W.mg_of X G a__law_draw) (hb := (fun_mk (st := s__law_draw) l__law_draw c__law_draw k__law_draw).binds (ps := ["_law_script", "_law_town", "_law_many"]) fun _ _ _ _ _ _ us hl => match us, hl with | [_, _, _], _ => rfl) (z_len := PySem.W.mg_none_of X G b_len)
  have D__law_run : Def l.prog w K mg base "_law_run" 2 sp__law_run := ok__law_run (Fd := fun_mk (st := s__law_run) l__law_run c__law_run k__law_run) (hm := PySem.W.mg_of X G a__law_run) (hb := (fun_mk (st := s__law_run) l__law_run c__law_run k__law_run).binds (ps := ["_law_script", "_law_town", "_law_side", "_law_speed"]) fun _ _ _ _ _ _ us hl => match us, hl with | [_, _, _, _], _ => rfl) (d__law_draw := D__law_draw)
  have D_is_less : Def l.prog w K mg base "is_less" 1 sp_is_less := ok_is_less (Fd := fun_mk (st := s_is_less) l_is_less c_is_less k_is_less) (hm := PySem.W.mg_of X G a_is_less) (hb := (fun_mk (st := s_is_less) l_is_less c_is_less k_is_less).binds (ps := ["one", "two"]) fun _ _ _ _ _ _ us hl => match us, hl with | [_, _], _ => rfl)
  have D_wait_for_wall : Def l.prog w K mg base "wait_for_wall" 3 sp_wait_for_wall := ok_wait_for_wall (Fd := fun_mk (st := s_wait_for_wall) l_wait_for_wall c_wait_for_wall k_wait_for_wall) (hm := PySem.W.mg_of X G a_wait_for_wall) (hb := (fun_mk (st := s_wait_for_wall) l_wait_for_wall c_wait_for_wall k_wait_for_wall).binds (ps := ["start", "speed", "side", "time"]) fun _ _ _ _ _ _ us hl => match us, hl with | [_, _, _, _], _ => rfl) (d_lowest := D_lowest)
  have D_walls_at : Def l.prog w K mg base "walls_at" 5 sp_walls_at := ok_walls_at (Fd := fun_mk (st := s_walls_at) l_walls_at c_walls_at k_walls_at) (hm := PySem.W.mg_of X G a_walls_at) (hb := (fun_mk (st := s_walls_at) l_walls_at c_walls_at k_walls_at).binds (ps := ["run", "time"]) fun _ _ _ _ _ _ us hl => match us, hl with | [_, _], _ => rfl) (d_place_at := D_place_at)
  have D_hit_after : Def l.prog w K mg base "hit_after" 6 sp_hit_after := ok_hit_after (Fd := fun_mk (st := s_hit_after) l_hit_after c_hit_after k_hit_after) (hm := PySem.W.mg_of X G a_hit_after) (hb := (fun_mk (st := s_hit_after) l_hit_after c_hit_after k_hit_after).binds (ps := ["run", "time"]) fun _ _ _ _ _ _ us hl => match us, hl with | [_, _], _ => rfl) (d_is_less := D_is_less) (z_len := PySem.W.mg_none_of X G b_len) (d_wait_for_wall := D_wait_for_wall) (d_walls_at := D_walls_at)
  have D_plusR : Def l.prog w K mg base "plus" 3 sp_plusR := ok_plusR (Fd := fun_mk (st := s_plus) l_plusR c_plusR k_plusR) (hm := PySem.W.mg_of X G a_plusR) (hb := (fun_mk (st := s_plus) l_plusR c_plusR k_plusR).binds (ps := ["one", "two"]) fun _ _ _ _ _ _ us hl => match us, hl with | [_, _], _ => rfl) (d_lowest := D_lowest)
  have D_Runner___init__ : DefC l.prog w K mg base "Runner" cRunner 4 (sp_init cRunner) := ok_Runner___init__ (Fd := fun_mk (st := s_Runner___init__) l_Runner___init__ c_Runner___init__ k_Runner___init__) (hb := (fun_mk (st := s_Runner___init__) l_Runner___init__ c_Runner___init__ k_Runner___init__).binds (ps := ["self", "run"]) fun _ _ _ _ _ _ us hl => match us, hl with | [_, _], _ => rfl) (R_Runner := ⟨⟨pg_Runner, hd_Runner, po_Runner, sa_Runner⟩, no_Runner_run, no_Runner_now, no_Runner_past⟩) (g_Runner := PySem.W.mg_of X G g_Runner) (k_Runner := ⟨mk_Runner, a_Runner___init__, i_Runner___init__, keep_Runner⟩) (d_need_run := D_need_run)
  have D_Runner_go : DefM l.prog w K mg base cRunner "go" 5 (sp_go cRunner) := ok_Runner_go (Fd := fun_mk (st := s_Runner_go) l_Runner_go c_Runner_go k_Runner_go) (hb := (fun_mk (st := s_Runner_go) l_Runner_go c_Runner_go k_Runner_go).binds (ps := ["self", "time"]) fun _ _ _ _ _ _ us hl => match us, hl with | [_, _], _ => rfl) (R_Runner := ⟨⟨pg_Runner, hd_Runner, po_Runner, sa_Runner⟩, no_Runner_run, no_Runner_now, no_Runner_past⟩) (e_Runner_go := ⟨a_Runner_go, i_Runner_go, k_Runner_go⟩) (d_need_time := D_need_time) (d_plusR := D_plusR) (d_place_at := D_place_at)
  have D_Runner_next_hit : DefM l.prog w K mg base cRunner "next_hit" 7 (sp_next_hit cRunner) := ok_Runner_next_hit (Fd := fun_mk (st := s_Runner_next_hit) l_Runner_next_hit c_Runner_next_hit k_Runner_next_hit) (hb := (fun_mk (st := s_Runner_next_hit) l_Runner_next_hit c_Runner_next_hit k_Runner_next_hit).binds (ps := ["self"]) fun _ _ _ _ _ _ us hl => match us, hl with | [_], _ => rfl) (R_Runner := ⟨⟨pg_Runner, hd_Runner, po_Runner, sa_Runner⟩, no_Runner_run, no_Runner_now, no_Runner_past⟩) (e_Runner_next_hit := ⟨a_Runner_next_hit, i_Runner_next_hit, k_Runner_next_hit⟩) (d_hit_after := D_hit_after)
  have D_Runner_undo : DefM l.prog w K mg base cRunner "undo" 1 (sp_undo cRunner) := ok_Runner_undo (Fd := fun_mk (st := s_Runner_undo) l_Runner_undo c_Runner_undo k_Runner_undo) (hb := (fun_mk (st := s_Runner_undo) l_Runner_undo c_Runner_undo k_Runner_undo).binds (ps := ["self"]) fun _ _ _ _ _ _ us hl => match us, hl with | [_], _ => rfl) (R_Runner := ⟨⟨pg_Runner, hd_Runner, po_Runner, sa_Runner⟩, no_Runner_run, no_Runner_now, no_Runner_past⟩) (e_Runner_undo := ⟨a_Runner_undo, i_Runner_undo, k_Runner_undo⟩)
  have D_Runner_undoX : DefMX l.prog w K mg base cRunner "undo" 1 (sp_undoX cRunner cNothingToUndo) := ok_Runner_undoX (Fd := fun_mk (st := s_Runner_undo) l_Runner_undoX c_Runner_undoX k_Runner_undoX) (hb := (fun_mk (st := s_Runner_undo) l_Runner_undoX c_Runner_undoX k_Runner_undoX).binds (ps := ["self"]) fun _ _ _ _ _ _ us hl => match us, hl with | [_], _ => rfl) (R_Runner := ⟨⟨pg_Runner, hd_Runner, po_Runner, sa_Runner⟩, no_Runner_run, no_Runner_now, no_Runner_past⟩) (e_Runner_undo := ⟨a_Runner_undoX, i_Runner_undoX, k_Runner_undoX⟩) (x_NothingToUndo := ⟨PySem.W.mg_of X G g_NothingToUndo, keep_NothingToUndo, exc_NothingToUndo, subB_NothingToUndo, ty_NothingToUndo⟩)
  have D_Runner_time : DefM l.prog w K mg base cRunner "time" 1 (sp_time cRunner) := ok_Runner_time (Fd := fun_mk (st := s_Runner_time) l_Runner_time c_Runner_time k_Runner_time) (hb := (fun_mk (st := s_Runner_time) l_Runner_time c_Runner_time k_Runner_time).binds (ps := ["self"]) fun _ _ _ _ _ _ us hl => match us, hl with | [_], _ => rfl) (R_Runner := ⟨⟨pg_Runner, hd_Runner, po_Runner, sa_Runner⟩, no_Runner_run, no_Runner_now, no_Runner_past⟩) (e_Runner_time := ⟨a_Runner_time, i_Runner_time, k_Runner_time⟩)
  have D_Runner___len__ : DefM l.prog w K mg base cRunner "__len__" 1 (sp_lenR cRunner) := ok_Runner___len__ (Fd := fun_mk (st := s_Runner___len__) l_Runner___len__ c_Runner___len__ k_Runner___len__) (hb := (fun_mk (st := s_Runner___len__) l_Runner___len__ c_Runner___len__ k_Runner___len__).binds (ps := ["self"]) fun _ _ _ _ _ _ us hl => match us, hl with | [_], _ => rfl) (R_Runner := ⟨⟨pg_Runner, hd_Runner, po_Runner, sa_Runner⟩, no_Runner_run, no_Runner_now, no_Runner_past⟩) (e_Runner___len__ := ⟨a_Runner___len__, i_Runner___len__, k_Runner___len__⟩) (z_len := PySem.W.mg_none_of X G b_len)
  have D_need_timeX : DefX l.prog w K mg base "need_time" 2 (sp_need_timeX cInvalidTime) := ok_need_timeX (Fd := fun_mk (st := s_need_time) l_need_timeX c_need_timeX k_need_timeX) (hm := PySem.W.mg_of X G a_need_timeX) (hb := (fun_mk (st := s_need_time) l_need_timeX c_need_timeX k_need_timeX).binds (ps := ["value"]) fun _ _ _ _ _ _ us hl => match us, hl with | [_], _ => rfl) (d_is_count := D_is_count) (x_InvalidTime := ⟨PySem.W.mg_of X G g_InvalidTime, keep_InvalidTime, exc_InvalidTime, subB_InvalidTime, ty_InvalidTime⟩) (z_isinstance := PySem.W.mg_none_of X G b_isinstance) (z_len := PySem.W.mg_none_of X G b_len) (z_tuple := PySem.W.mg_none_of X G b_tuple)
  have D_Runner_goX : DefMX l.prog w K mg base cRunner "go" 5 (sp_goX cRunner cInvalidTime) := ok_Runner_goX (Fd := fun_mk (st := s_Runner_go) l_Runner_goX c_Runner_goX k_Runner_goX) (hb := (fun_mk (st := s_Runner_go) l_Runner_goX c_Runner_goX k_Runner_goX).binds (ps := ["self", "time"]) fun _ _ _ _ _ _ us hl => match us, hl with | [_, _], _ => rfl) (R_Runner := ⟨⟨pg_Runner, hd_Runner, po_Runner, sa_Runner⟩, no_Runner_run, no_Runner_now, no_Runner_past⟩) (e_Runner_go := ⟨a_Runner_goX, i_Runner_goX, k_Runner_goX⟩) (d_need_timeX := D_need_timeX)
  have D__law_which_InvalidTime : DefP l.prog w K mg base "_law_which" 1 cInvalidTime (.tuple [.str "raised", .int 1]) := ok__law_which_InvalidTime (Fd := fun_mk (st := s__law_which) l__law_which_InvalidTime c__law_which_InvalidTime k__law_which_InvalidTime) (hm := PySem.W.mg_of X G a__law_which_InvalidTime) (hb := (fun_mk (st := s__law_which) l__law_which_InvalidTime c__law_which_InvalidTime k__law_which_InvalidTime).binds (ps := ["_law_error"]) fun _ _ _ _ _ _ us hl => match us, hl with | [_], _ => rfl) (g_InvalidRun := PySem.W.mg_of X G g_InvalidRun) (g_InvalidTime := PySem.W.mg_of X G g_InvalidTime) (g_InvalidNumber := PySem.W.mg_of X G g_InvalidNumber) (g_InvalidPlace := PySem.W.mg_of X G g_InvalidPlace) (g_OtherBox := PySem.W.mg_of X G g_OtherBox) (g_NothingToUndo := PySem.W.mg_of X G g_NothingToUndo) (g_InvalidFormat := PySem.W.mg_of X G g_InvalidFormat) (i_InvalidTime := ⟨hg_InvalidTime, hk_InvalidTime, subB_InvalidTime, xd_InvalidTime, ha_InvalidTime, hn_class, ht_class, hm_InvalidTime⟩) (t_InvalidTime_InvalidRun := kit_of ne_InvalidTime_InvalidRun cls_InvalidRun ty_InvalidRun sub_InvalidTime_InvalidRun) (t_InvalidTime_InvalidTime := kit_self) (t_InvalidTime_InvalidNumber := kit_of ne_InvalidTime_InvalidNumber cls_InvalidNumber ty_InvalidNumber sub_InvalidTime_InvalidNumber) (t_InvalidTime_InvalidPlace := kit_of ne_InvalidTime_InvalidPlace cls_InvalidPlace ty_InvalidPlace sub_InvalidTime_InvalidPlace) (t_InvalidTime_OtherBox := kit_of ne_InvalidTime_OtherBox cls_OtherBox ty_OtherBox sub_InvalidTime_OtherBox) (t_InvalidTime_NothingToUndo := kit_of ne_InvalidTime_NothingToUndo cls_NothingToUndo ty_NothingToUndo sub_InvalidTime_NothingToUndo) (t_InvalidTime_InvalidFormat := kit_of ne_InvalidTime_InvalidFormat cls_InvalidFormat ty_InvalidFormat sub_InvalidTime_InvalidFormat) (u_InvalidTime := kit_ty subV_InvalidTime) (z_isinstance := PySem.W.mg_none_of X G b_isinstance) (z_ValueError := PySem.W.mg_none_of X G b_ValueError)
  have D__law_which_NothingToUndo : DefP l.prog w K mg base "_law_which" 1 cNothingToUndo (.tuple [.str "raised", .int 5]) := ok__law_which_NothingToUndo (Fd := fun_mk (st := s__law_which) l__law_which_NothingToUndo c__law_which_NothingToUndo k__law_which_NothingToUndo) (hm := PySem.W.mg_of X G a__law_which_NothingToUndo) (hb := (fun_mk (st := s__law_which) l__law_which_NothingToUndo c__law_which_NothingToUndo k__law_which_NothingToUndo).binds (ps := ["_law_error"]) fun _ _ _ _ _ _ us hl => match us, hl with | [_], _ => rfl) (g_InvalidRun := PySem.W.mg_of X G g_InvalidRun) (g_InvalidTime := PySem.W.mg_of X G g_InvalidTime) (g_InvalidNumber := PySem.W.mg_of X G g_InvalidNumber) (g_InvalidPlace := PySem.W.mg_of X G g_InvalidPlace) (g_OtherBox := PySem.W.mg_of X G g_OtherBox) (g_NothingToUndo := PySem.W.mg_of X G g_NothingToUndo) (g_InvalidFormat := PySem.W.mg_of X G g_InvalidFormat) (i_NothingToUndo := ⟨hg_NothingToUndo, hk_NothingToUndo, subB_NothingToUndo, xd_NothingToUndo, ha_NothingToUndo, hn_class, ht_class, hm_NothingToUndo⟩) (t_NothingToUndo_InvalidRun := kit_of ne_NothingToUndo_InvalidRun cls_InvalidRun ty_InvalidRun sub_NothingToUndo_InvalidRun) (t_NothingToUndo_InvalidTime := kit_of ne_NothingToUndo_InvalidTime cls_InvalidTime ty_InvalidTime sub_NothingToUndo_InvalidTime) (t_NothingToUndo_InvalidNumber := kit_of ne_NothingToUndo_InvalidNumber cls_InvalidNumber ty_InvalidNumber sub_NothingToUndo_InvalidNumber) (t_NothingToUndo_InvalidPlace := kit_of ne_NothingToUndo_InvalidPlace cls_InvalidPlace ty_InvalidPlace sub_NothingToUndo_InvalidPlace) (t_NothingToUndo_OtherBox := kit_of ne_NothingToUndo_OtherBox cls_OtherBox ty_OtherBox sub_NothingToUndo_OtherBox) (t_NothingToUndo_NothingToUndo := kit_self) (t_NothingToUndo_InvalidFormat := kit_of ne_NothingToUndo_InvalidFormat cls_InvalidFormat ty_InvalidFormat sub_NothingToUndo_InvalidFormat) (u_NothingToUndo := kit_ty subV_NothingToUndo) (z_isinstance := PySem.W.mg_none_of X G b_isinstance) (z_ValueError := PySem.W.mg_none_of X G b_ValueError)
  have D__law_do : Def l.prog w K mg base "_law_do" 6 (sp__law_do cRunner) := ok__law_do (Fd := fun_mk (st := s__law_do) l__law_do c__law_do k__law_do) (hm := PySem.W.mg_of X G a__law_do) (hb := (fun_mk (st := s__law_do) l__law_do c__law_do k__law_do).binds (ps := ["_law_runner", "_law_what", "_law_time"]) fun _ _ _ _ _ _ us hl => match us, hl with | [_, _, _], _ => rfl) (m_Runner_go := D_Runner_go) (m_Runner_goX := D_Runner_goX) (m_Runner_undoX := D_Runner_undoX) (p__law_which_NothingToUndo := D__law_which_NothingToUndo) (p__law_which_InvalidTime := D__law_which_InvalidTime) (g_BounceError := PySem.W.mg_of X G g_BounceError) (x_NothingToUndo_BounceError := exm_of1 subB_BounceError cls_BounceError ty_BounceError sub_NothingToUndo_BounceError) (x_InvalidTime_BounceError := exm_of1 subB_BounceError cls_BounceError ty_BounceError sub_InvalidTime_BounceError)
  exact ok_law (Fd := fun_mk (st := s_law) l_law c_law k_law) (d__law_run := D__law_run) (m_Runner___init__ := D_Runner___init__) (m_Runner_go := D_Runner_go) (m_Runner_next_hit := D_Runner_next_hit) (m_Runner_time := D_Runner_time) (m_Runner_undo := D_Runner_undo) (m_Runner___len__ := D_Runner___len__) (d__law_do := D__law_do) (z_len := PySem.W.mg_none_of X G b_len) (z_range := PySem.W.mg_none_of X G b_range)
theorem walk {l : PySem.W.OpenLaw} {q : Program} {loose : List Str} {XP : (Str → Option Value) → Heap → Prop} {YP : World → Heap → Prop} {d : DefRec} {K : Params → PySem.W.Frag} (hn : l.most = some 63) (hdf : d.params.defaults = [])
    (hY : ∀ (w : World) (h : Heap), YP w h → (K w.params).In h)
    (F : ∀ (w : World) (mg : Str → Option Value) (fa : Addr) (h : Heap), (K w.params).In h → h.Ns mainGlobals mg → mg d.name = some (.ref fa) →
      ∃ fd : FuncData, (∀ (s : Shared) (u : Value), BindsTo s fd ⟨[u], []⟩ [("_law_script", u)]) ∧ ∀ base : Heap, (K w.params).In base → base.Ns mainGlobals mg → FnOk l.prog w (K w.params) mg base CX0 8 fa fd ["_law_script"] (toSp (K w.params) sp_law)) :
    PySem.W.WalkO q loose XP YP l.row.toRowW d [] (fun f vs => PySem.call f vs) :=
  L2.walk_of (n := 63) (k := 8) (x := "_law_script") (CX := fun _ => CX0) (sp := fun w => toSp (K w.params) sp_law) hn (by decide) hdf ⟨rfl, by decide, by decide⟩ hY F (fun _ H a ns hl _ hS => sp_start (S := sp_law) (fun ns hl => ⟨ns, rfl, hl, fun _ => rfl⟩) H a ns hl hS) fun _ _ _ _ _ z => z
end BP

open PySem PySem.W PyProof.Rows in
set_option maxRecDepth 100000 in
set_option maxHeartbeats 0 in
theorem PySem.Challenge.cw_bouncepaths_k11_runner_errors_holds : PySem.Challenge.rw_bouncepaths_k11_runner_errors.Holds := by
  w_on; o_law; k_head; (case hw => w_witness2)
  k_fill
  refine BP.walk (l := PySem.Challenge.rw_bouncepaths_k11_runner_errors) rfl rfl (fun w h Y => PySem.W.kIn_of Y) ?F
  case F =>
    intro w mg fa h KX G hmg
    refine' BP.all_mk KX G hmg ?g_Runner ?g_NothingToUndo ?g_InvalidTime ?g_InvalidRun ?g_InvalidNumber ?g_InvalidPlace ?g_OtherBox ?g_InvalidFormat ?g_BounceError ?a_common_of ?l_common_of ?c_common_of ?k_common_of ?a_is_count ?l_is_count ?c_is_count ?k_is_count ?a_is_run ?l_is_run ?c_is_run ?k_is_run ?a_need_run ?l_need_run ?c_need_run ?k_need_run ?a_need_time ?l_need_time ?c_need_time ?k_need_time ?a_lowest ?l_lowest ?c_lowest ?k_lowest ?a_fold ?l_fold ?c_fold ?k_fold ?a_place_at ?l_place_at ?c_place_at ?k_place_at ?a__law_draw ?l__law_draw ?c__law_draw ?k__law_draw ?a__law_run ?l__law_run ?c__law_run ?k__law_run ?a_is_less ?l_is_less ?c_is_less ?k_is_less ?a_wait_for_wall ?l_wait_for_wall ?c_wait_for_wall ?k_wait_for_wall ?a_walls_at ?l_walls_at ?c_walls_at ?k_walls_at ?a_hit_after ?l_hit_after ?c_hit_after ?k_hit_after ?a_plusR ?l_plusR ?c_plusR ?k_plusR ?a_Runner___init__ ?i_Runner___init__ ?l_Runner___init__ ?c_Runner___init__ ?k_Runner___init__ ?a_Runner_go ?i_Runner_go ?l_Runner_go ?c_Runner_go ?k_Runner_go ?a_Runner_next_hit ?i_Runner_next_hit ?l_Runner_next_hit ?c_Runner_next_hit ?k_Runner_next_hit ?a_Runner_undo ?i_Runner_undo ?l_Runner_undo ?c_Runner_undo ?k_Runner_undo ?a_Runner_undoX ?i_Runner_undoX ?l_Runner_undoX ?c_Runner_undoX ?k_Runner_undoX ?a_Runner_time ?i_Runner_time ?l_Runner_time ?c_Runner_time ?k_Runner_time ?a_Runner___len__ ?i_Runner___len__ ?l_Runner___len__ ?c_Runner___len__ ?k_Runner___len__ ?a_need_timeX ?l_need_timeX ?c_need_timeX ?k_need_timeX ?a_Runner_goX ?i_Runner_goX ?l_Runner_goX ?c_Runner_goX ?k_Runner_goX ?a__law_which_InvalidTime ?l__law_which_InvalidTime ?c__law_which_InvalidTime ?k__law_which_InvalidTime ?a__law_which_NothingToUndo ?l__law_which_NothingToUndo ?c__law_which_NothingToUndo ?k__law_which_NothingToUndo ?a__law_do ?l__law_do ?c__law_do ?k__law_do ?a_law ?l_law ?c_law ?k_law ?b_abs ?b_isinstance ?b_int ?b_bool ?b_tuple ?b_len ?gl_SIDE ?gl_SPEED ?b_min ?pg_Runner ?hd_Runner ?po_Runner ?sa_Runner ?no_Runner_run ?no_Runner_now ?no_Runner_past ?mk_Runner ?keep_Runner ?keep_NothingToUndo ?exc_NothingToUndo ?subB_NothingToUndo ?ty_NothingToUndo ?keep_InvalidTime ?exc_InvalidTime ?subB_InvalidTime ?ty_InvalidTime ?hg_InvalidTime ?hk_InvalidTime ?xd_InvalidTime ?ha_InvalidTime ?hn_class ?ht_class ?hm_InvalidTime ?ne_InvalidTime_InvalidRun ?cls_InvalidRun ?ty_InvalidRun ?sub_InvalidTime_InvalidRun ?ne_InvalidTime_InvalidNumber ?cls_InvalidNumber ?ty_InvalidNumber ?sub_InvalidTime_InvalidNumber ?ne_InvalidTime_InvalidPlace ?cls_InvalidPlace ?ty_InvalidPlace ?sub_InvalidTime_InvalidPlace ?ne_InvalidTime_OtherBox ?cls_OtherBox ?ty_OtherBox ?sub_InvalidTime_OtherBox ?ne_InvalidTime_NothingToUndo ?cls_NothingToUndo ?sub_InvalidTime_NothingToUndo ?ne_InvalidTime_InvalidFormat ?cls_InvalidFormat ?ty_InvalidFormat ?sub_InvalidTime_InvalidFormat ?subV_InvalidTime ?b_ValueError ?hg_NothingToUndo ?hk_NothingToUndo ?xd_NothingToUndo ?ha_NothingToUndo ?hm_NothingToUndo ?ne_NothingToUndo_InvalidRun ?sub_NothingToUndo_InvalidRun ?ne_NothingToUndo_InvalidTime ?cls_InvalidTime ?sub_NothingToUndo_InvalidTime ?ne_NothingToUndo_InvalidNumber ?sub_NothingToUndo_InvalidNumber ?ne_NothingToUndo_InvalidPlace ?sub_NothingToUndo_InvalidPlace ?ne_NothingToUndo_OtherBox ?sub_NothingToUndo_OtherBox ?ne_NothingToUndo_InvalidFormat ?sub_NothingToUndo_InvalidFormat ?subV_NothingToUndo ?subB_BounceError ?cls_BounceError ?ty_BounceError ?sub_NothingToUndo_BounceError ?sub_InvalidTime_BounceError ?b_range
    (case g_Runner => k_is)
    (case g_NothingToUndo => k_is)
    (case g_InvalidTime => k_is)
    (case g_InvalidRun => k_is)
    (case g_InvalidNumber => k_is)
    (case g_InvalidPlace => k_is)
    (case g_OtherBox => k_is)
    (case g_InvalidFormat => k_is)
    (case g_BounceError => k_is)
    (case a_common_of => k_is)
    (case l_common_of => k_is)
    (case c_common_of => k_is)
    (case k_common_of => k_is)
    (case a_is_count => k_is)
    (case l_is_count => k_is)
    (case c_is_count => k_is)
    (case k_is_count => k_is)
    (case a_is_run => k_is)
    (case l_is_run => k_is)
    (case c_is_run => k_is)
    (case k_is_run => k_is)
    (case a_need_run => k_is)
    (case l_need_run => k_is)
    (case c_need_run => k_is)
    (case k_need_run => k_is)
    (case a_need_time => k_is)
    (case l_need_time => k_is)
    (case c_need_time => k_is)
    (case k_need_time => k_is)
    (case a_lowest => k_is)
    (case l_lowest => k_is)
    (case c_lowest => k_is)
    (case k_lowest => k_is)
    (case a_fold => k_is)
    (case l_fold => k_is)
    (case c_fold => k_is)
    (case k_fold => k_is)
    (case a_place_at => k_is)
    (case l_place_at => k_is)
    (case c_place_at => k_is)
    (case k_place_at => k_is)
    (case a__law_draw => k_is)
    (case l__law_draw => k_is)
    (case c__law_draw => k_is)
    (case k__law_draw => k_is)
    (case a__law_run => k_is)
    (case l__law_run => k_is)
    (case c__law_run => k_is)
    (case k__law_run => k_is)
    (case a_is_less => k_is)
    (case l_is_less => k_is)
    (case c_is_less => k_is)
    (case k_is_less => k_is)
    (case a_wait_for_wall => k_is)
    (case l_wait_for_wall => k_is)
    (case c_wait_for_wall => k_is)
    (case k_wait_for_wall => k_is)
    (case a_walls_at => k_is)
    (case l_walls_at => k_is)
    (case c_walls_at => k_is)
    (case k_walls_at => k_is)
    (case a_hit_after => k_is)
    (case l_hit_after => k_is)
    (case c_hit_after => k_is)
    (case k_hit_after => k_is)
    (case a_plusR => k_is)
    (case l_plusR => k_is)
    (case c_plusR => k_is)
    (case k_plusR => k_is)
    (case a_Runner___init__ => k_is)
    (case i_Runner___init__ => k_is)
    (case l_Runner___init__ => k_is)
    (case c_Runner___init__ => k_is)
    (case k_Runner___init__ => k_is)
    (case a_Runner_go => k_is)
    (case i_Runner_go => k_is)
    (case l_Runner_go => k_is)
    (case c_Runner_go => k_is)
    (case k_Runner_go => k_is)
    (case a_Runner_next_hit => k_is)
    (case i_Runner_next_hit => k_is)
    (case l_Runner_next_hit => k_is)
    (case c_Runner_next_hit => k_is)
    (case k_Runner_next_hit => k_is)
    (case a_Runner_undo => k_is)
    (case i_Runner_undo => k_is)
    (case l_Runner_undo => k_is)
    (case c_Runner_undo => k_is)
    (case k_Runner_undo => k_is)
    (case a_Runner_undoX => k_is)
    (case i_Runner_undoX => k_is)
    (case l_Runner_undoX => k_is)
    (case c_Runner_undoX => k_is)
    (case k_Runner_undoX => k_is)
    (case a_Runner_time => k_is)
    (case i_Runner_time => k_is)
    (case l_Runner_time => k_is)
    (case c_Runner_time => k_is)
    (case k_Runner_time => k_is)
    (case a_Runner___len__ => k_is)
    (case i_Runner___len__ => k_is)
    (case l_Runner___len__ => k_is)
    (case c_Runner___len__ => k_is)
    (case k_Runner___len__ => k_is)
    (case a_need_timeX => k_is)
    (case l_need_timeX => k_is)
    (case c_need_timeX => k_is)
    (case k_need_timeX => k_is)
    (case a_Runner_goX => k_is)
    (case i_Runner_goX => k_is)
    (case l_Runner_goX => k_is)
    (case c_Runner_goX => k_is)
    (case k_Runner_goX => k_is)
    (case a__law_which_InvalidTime => k_is)
    (case l__law_which_InvalidTime => k_is)
    (case c__law_which_InvalidTime => k_is)
    (case k__law_which_InvalidTime => k_is)
    (case a__law_which_NothingToUndo => k_is)
    (case l__law_which_NothingToUndo => k_is)
    (case c__law_which_NothingToUndo => k_is)
    (case k__law_which_NothingToUndo => k_is)
    (case a__law_do => k_is)
    (case l__law_do => k_is)
    (case c__law_do => k_is)
    (case k__law_do => k_is)
    (case a_law => k_is)
    (case l_law => k_is)
    (case c_law => k_is)
    (case k_law => k_is)
    (case b_abs => k_is)
    (case b_isinstance => k_is)
    (case b_int => k_is)
    (case b_bool => k_is)
    (case b_tuple => k_is)
    (case b_len => k_is)
    (case gl_SIDE => k_is)
    (case gl_SPEED => k_is)
    (case b_min => k_is)
    (case pg_Runner => k_is)
    (case hd_Runner => k_is)
    (case po_Runner => k_is)
    (case sa_Runner => k_is)
    (case no_Runner_run => k_is)
    (case no_Runner_now => k_is)
    (case no_Runner_past => k_is)
    (case mk_Runner => k_is)
    (case keep_Runner => k_is)
    (case keep_NothingToUndo => k_is)
    (case exc_NothingToUndo => k_exc)
    (case subB_NothingToUndo => k_is)
    (case ty_NothingToUndo => k_is)
    (case keep_InvalidTime => k_is)
    (case exc_InvalidTime => k_exc)
    (case subB_InvalidTime => k_is)
    (case ty_InvalidTime => k_is)
    (case hg_InvalidTime => k_is)
    (case hk_InvalidTime => k_is)
    (case xd_InvalidTime => k_is)
    (case ha_InvalidTime => k_is)
    (case hn_class => k_is)
    (case ht_class => k_is)
    (case hm_InvalidTime => k_is)
    (case ne_InvalidTime_InvalidRun => decide)
    (case cls_InvalidRun => k_is)
    (case ty_InvalidRun => k_is)
    (case sub_InvalidTime_InvalidRun => k_is)
    (case ne_InvalidTime_InvalidNumber => decide)
    (case cls_InvalidNumber => k_is)
    (case ty_InvalidNumber => k_is)
    (case sub_InvalidTime_InvalidNumber => k_is)
    (case ne_InvalidTime_InvalidPlace => decide)
    (case cls_InvalidPlace => k_is)
    (case ty_InvalidPlace => k_is)
    (case sub_InvalidTime_InvalidPlace => k_is)
    (case ne_InvalidTime_OtherBox => decide)
    (case cls_OtherBox => k_is)
    (case ty_OtherBox => k_is)
    (case sub_InvalidTime_OtherBox => k_is)
    (case ne_InvalidTime_NothingToUndo => decide)
    (case cls_NothingToUndo => k_is)
    (case sub_InvalidTime_NothingToUndo => k_is)
    (case ne_InvalidTime_InvalidFormat => decide)
    (case cls_InvalidFormat => k_is)
    (case ty_InvalidFormat => k_is)
    (case sub_InvalidTime_InvalidFormat => k_is)
    (case subV_InvalidTime => k_is)
    (case b_ValueError => k_is)
    (case hg_NothingToUndo => k_is)
    (case hk_NothingToUndo => k_is)
    (case xd_NothingToUndo => k_is)
    (case ha_NothingToUndo => k_is)
    (case hm_NothingToUndo => k_is)
    (case ne_NothingToUndo_InvalidRun => decide)
    (case sub_NothingToUndo_InvalidRun => k_is)
    (case ne_NothingToUndo_InvalidTime => decide)
    (case cls_InvalidTime => k_is)
    (case sub_NothingToUndo_InvalidTime => k_is)
    (case ne_NothingToUndo_InvalidNumber => decide)
    (case sub_NothingToUndo_InvalidNumber => k_is)
    (case ne_NothingToUndo_InvalidPlace => decide)
    (case sub_NothingToUndo_InvalidPlace => k_is)
    (case ne_NothingToUndo_OtherBox => decide)
    (case sub_NothingToUndo_OtherBox => k_is)
    (case ne_NothingToUndo_InvalidFormat => decide)
    (case sub_NothingToUndo_InvalidFormat => k_is)
    (case subV_NothingToUndo => k_is)
    (case subB_BounceError => k_is)
    (case cls_BounceError => k_is)
    (case ty_BounceError => k_is)
    (case sub_NothingToUndo_BounceError => k_is)
    (case sub_InvalidTime_BounceError => k_is)
    (case b_range => k_is)
