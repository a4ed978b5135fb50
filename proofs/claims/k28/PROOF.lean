import PyProof.Rows.All
import Wide.All
import OpenK.AllK
import Wide.FinOn
import PySem.Challenge.RW_leastcells_k28_whole_recorders
import KE.KStateDown
import HandS.Head0
import HandS.Head1
import HandS.Head2
import HandS.EndBits
import HandS.ForMost
import HandS.Lambda
import HandS.EndTab
import HandS.NestedK
import HandS.Defaults
import HandS.HeadEnd
import HandS.HeadHook1
import HandS.HeadHook2
import HandS.HeadHook3
import HandS.HeadHook4
import HandS.HeadWalk
import HandS.ExcField
import HandS.Property
import HandS.More
import HandS.TupMul
import HandS.TupAny
import HandS.DictComp
import HandS.SortInts
import HandS.Exc
import HandS.Star
import HandS.Walk
import HandS.IsInst
import HandS.WordsExc
import KE.GoesMore
import KE.GoesEnum
import PyProof.ReprRoads
import PyProof.Fits
import HandS.RaiseMore
import HandS.Base
import HandS.Call
import HandS.Small
import OpenK.KOps
import KE.KExcSuper
import HandS.ExcOwn
import HandS.ExcInit
import HandS.ExcSuper
import HandS.Nested
import PyProof.ListMulRoad
import PyProof.FactsAll.tuple_2
import HandS.List
import KE.KDflt
set_option Elab.async false
set_option linter.all false
set_option maxRecDepth 100000
set_option maxHeartbeats 200000
-- KText
/-! KText: the law's text by places. Printed by gen_text.py. -/
namespace K28
open PySem L2
def top (i : Nat) : Stmt := PySem.Challenge.pw_leastcells_k28_whole_recorders.main.body.getD i (.Pass ⟨0, 0, 0, 0⟩)
abbrev s_BadNumber_init : Stmt := inClass (top 3) 0
abbrev s_Busy_init : Stmt := inClass (top 4) 0
abbrev s_Idle_init : Stmt := inClass (top 5) 0
abbrev s_is_integer : Stmt := top 10
abbrev s_is_between : Stmt := top 11
abbrev s_calls_of : Stmt := top 12
abbrev s_near_of : Stmt := top 13
abbrev s_far_of : Stmt := top 14
abbrev s_is_forced_in : Stmt := top 15
abbrev s_are_odd_in : Stmt := top 16
abbrev s_is_forward : Stmt := top 20
abbrev s_forwards_in : Stmt := top 21
abbrev s_backwards_in : Stmt := top 22
abbrev s_crowd_in : Stmt := top 23
abbrev s_all_spots : Stmt := top 24
abbrev s_crowds_in : Stmt := top 25
abbrev s_greatest_in : Stmt := top 26
abbrev s_many_in : Stmt := top 28
abbrev s_need_cells : Stmt := top 29
abbrev s_is_name : Stmt := top 34
abbrev s_Stand_init : Stmt := inClass (top 36) 0
abbrev s_Stand_with_busy : Stmt := inClass (top 36) 1
abbrev s_Stand_begun : Stmt := inClass (top 36) 2
abbrev s_Stand_ended : Stmt := inClass (top 36) 3
abbrev s_Stand_names_so : Stmt := inClass (top 36) 4
abbrev s_Stand_record : Stmt := inClass (top 36) 5
abbrev s_Stand_has_room : Stmt := inClass (top 36) 6
abbrev s_Recorder_init : Stmt := inClass (top 37) 0
abbrev s_Recorder_hands : Stmt := inClass (top 37) 1
abbrev s_Recorder_stand : Stmt := inClass (top 37) 2
abbrev s_Recorder_now : Stmt := inClass (top 37) 3
abbrev s_Recorder_need_hand : Stmt := inClass (top 37) 4
abbrev s_Recorder_need_free : Stmt := inClass (top 37) 5
abbrev s_Recorder_go_on : Stmt := inClass (top 37) 6
abbrev s_Recorder_write : Stmt := inClass (top 37) 7
abbrev s_Recorder_read : Stmt := inClass (top 37) 8
abbrev s_Recorder_done : Stmt := inClass (top 37) 9
abbrev s_Recorder_doing : Stmt := inClass (top 37) 10
abbrev s_Recorder_names : Stmt := inClass (top 37) 11
abbrev s_Recorder_record_now : Stmt := inClass (top 37) 12
abbrev s_Recorder_fewest_now : Stmt := inClass (top 37) 13
abbrev s_Recorder_first_beyond : Stmt := inClass (top 37) 14
abbrev s_Recorder_free : Stmt := inClass (top 37) 15
abbrev s_Recorder_len : Stmt := inClass (top 37) 19
abbrev s_law_mixed : Stmt := top 39
abbrev s_law_begin : Stmt := top 40
abbrev s_law_draw : Stmt := top 41
abbrev s_law_of : Stmt := top 42
abbrev s_law_calls : Stmt := top 43
abbrev s_law_zone : Stmt := top 44
abbrev s_law_forced : Stmt := top 45
abbrev s_law_odd : Stmt := top 46
abbrev s_law_crowd : Stmt := top 47
abbrev s_law_empty : Stmt := top 48
abbrev s_law_now : Stmt := top 49
abbrev s_law_done : Stmt := top 50
abbrev s_law_open : Stmt := top 51
abbrev s_law_deed : Stmt := top 52
abbrev s_law_do : Stmt := top 53
abbrev s_law_shows : Stmt := top 54
abbrev s_law_stands : Stmt := top 55
abbrev s_law_heard : Stmt := top 56
abbrev s_law_are : Stmt := top 57
abbrev s_law_asked_right : Stmt := top 58
abbrev s_law_hands_right : Stmt := top 59
abbrev s_law_names_right : Stmt := top 60
abbrev s_law_right : Stmt := top 61
abbrev s_law : Stmt := top 62
end K28
set_option maxHeartbeats 4000000
-- KJ
/-! KJ: judgements without readings: what a piece of syntax does at one state of slots and one abstract heap; data by value (Dp). -/
namespace K28
open PySem PySem.Spec PyProof.Rows L2
/-! ### judgements at a state -/
def JE (X : Cx) (e : Expr) (σ : L2.St) (H : Hp) (Q : VK) : Prop := ∀ (pins : List (Addr × Obj)) (s : Shared), Inv X pins σ H s → wpAny (model X.prog X.w) X.A (eval e X.env) (EP X pins σ Q) X.xe s
def JT (X : Cx) (e : Expr) (σ : L2.St) (H : Hp) (Q : Bool → Hp → Prop) : Prop := ∀ (pins : List (Addr × Obj)) (s : Shared), Inv X pins σ H s → wpAny (model X.prog X.w) X.A (isTrue e X.env (eval e X.env)) (TP X pins σ Q) X.xe s
def JW (X : Cx) (e : Expr) (σ : L2.St) (H : Hp) (Q : Bool → Hp → Prop) : Prop := ∀ (whole : Sem Value) (pins : List (Addr × Obj)) (s : Shared), Inv X pins σ H s → wpAny (model X.prog X.w) X.A (isTrue e X.env whole) (TP X pins σ Q) X.xe s
def JA (X : Cx) (es : List Expr) (σ : L2.St) (H : Hp) (Q : List V → Hp → Prop) : Prop := ∀ (pos : Pos) (pins : List (Addr × Obj)) (s : Shared), Inv X pins σ H s → wpAny (model X.prog X.w) X.A (spliced (backTo pos (starEach es X.env))) (AP X pins σ Q) X.xe s
def JS (X : Cx) (st : Stmt) (D : Ends) (σ : L2.St) (H : Hp) : Prop := ∀ (pins : List (Addr × Obj)) (s : Shared), Inv X pins σ H s → wpAny (model X.prog X.w) X.A (exec st X.env) (SP X pins D) X.xe s
def JSs (X : Cx) (sts : List Stmt) (D : Ends) (σ : L2.St) (H : Hp) : Prop := ∀ (pins : List (Addr × Obj)) (s : Shared), Inv X pins σ H s → wpAny (model X.prog X.w) X.A (execs sts X.env) (SP X pins D) X.xe s
section
variable {X : Cx} {e : Expr} {es : List Expr} {st : Stmt} {sts : List Stmt} {σ : L2.St} {H : Hp} {D : Ends}
theorem pej : PE X e (JE X e) := ⟨fun pins s _ _ _ I h => h pins s I⟩
theorem ptj : PT X e (JT X e) := ⟨fun pins s _ _ _ I h => h pins s I⟩
theorem pwj : PW X e (JW X e) := ⟨fun whole pins s _ _ _ I h => h whole pins s I⟩
theorem paj : PA X es (JA X es) := ⟨fun pos pins s _ _ _ I h => h pos pins s I⟩
theorem psj : PS X st (JS X st) := ⟨fun pins s _ _ _ I h => h pins s I⟩
theorem pssj : PSs X sts (JSs X sts) := ⟨fun pins s _ _ _ I h => h pins s I⟩
theorem je_of {t : TE} {Q : VK} (h : PE X e t) (q : t σ H Q) : JE X e σ H Q := fun pins s I => h.run pins s σ H Q I q
theorem jt_of {t : TT} {Q : Bool → Hp → Prop} (h : PT X e t) (q : t σ H Q) : JT X e σ H Q := fun pins s I => h.run pins s σ H Q I q
theorem jw_of {t : TT} {Q : Bool → Hp → Prop} (h : PW X e t) (q : t σ H Q) : JW X e σ H Q := fun whole pins s I => h.run whole pins s σ H Q I q
theorem ja_of {t : TA} {Q : List V → Hp → Prop} (h : PA X es t) (q : t σ H Q) : JA X es σ H Q := fun pos pins s I => h.run pos pins s σ H Q I q
theorem js_of {t : TS} (h : PS X st t) (q : t D σ H) : JS X st D σ H := fun pins s I => h.run pins s σ H D I q
theorem jss_of {t : TS} (h : PSs X sts t) (q : t D σ H) : JSs X sts D σ H := fun pins s I => h.run pins s σ H D I q
theorem JE.mono {Q Q' : VK} (h : JE X e σ H Q) (q : ∀ v H', Q v H' → Q' v H') : JE X e σ H Q' := fun pins s I => thn (h pins s I) fun _ _ ⟨v, H', I', r, z⟩ => ⟨v, H', I', r, q v H' z⟩
theorem JT.mono {Q Q' : Bool → Hp → Prop} (h : JT X e σ H Q) (q : ∀ v H', Q v H' → Q' v H') : JT X e σ H Q' := fun pins s I => thn (h pins s I) fun _ _ ⟨H', I', z⟩ => ⟨H', I', q _ H' z⟩
theorem JA.mono {Q Q' : List V → Hp → Prop} (h : JA X es σ H Q) (q : ∀ v H', Q v H' → Q' v H') : JA X es σ H Q' := fun pos pins s I => thn (h pos pins s I) fun _ _ ⟨v, H', I', r, z⟩ => ⟨v, H', I', r, q v H' z⟩
theorem jw_t {Q : Bool → Hp → Prop} (h : JW X e σ H Q) : JT X e σ H Q := fun pins s I => h _ pins s I
end
end K28
namespace L2
open PySem PySem.Spec PyProof.Rows
/-! ### data that stays -/
section
variable {K : PySem.W.Frag} {H H' : Hp}
theorem same_sqt {a : Addr} {xs : List V} (e : Same H H') (h : SqT K H a xs) : SqT K H' a xs := by
  rcases h with (h | ⟨o, h⟩) | h
  · exact .inl (.inl (e _ _ h))
  · exact .inl (.inr ⟨o, e _ _ h⟩)
  · exact .inr h
theorem same_new {p : Addr} {o : HO} (h : H p = none) : Same H (upd H p o) := fun a u e => by rw [upd_ne (ne_of_none e h)]; exact e
mutual
theorem dp_same (s : Same H H') : ∀ (d : PyData) (v : V), Dp K H v d → Dp K H' v d
  | .none, _, h => by cases h; exact .non
  | .bool b, _, h => by cases h; exact .bl b
  | .int i, _, h => by cases h; exact .int i
  | .str x, _, h => by cases h; exact .str x
  | .list ds, _, h => by cases h with | lst h1 h2 => exact .lst (s.seq h1) (dpa_same s ds _ h2)
  | .tuple ds, _, h => by cases h with | tup h1 h2 => exact .tup (same_sqt s h1) (dpa_same s ds _ h2)
  | .dict _, _, h => by cases h
theorem dpa_same (s : Same H H') : ∀ (ds : List PyData) (vs : List V), DpAll K H vs ds → DpAll K H' vs ds
  | [], _, h => by cases h; exact .nil
  | d :: ds, _, h => by cases h with | cons h1 h2 => exact .cons (dp_same s d _ h1) (dpa_same s ds _ h2)
end
theorem Dp.on {v : V} {d : PyData} (h : Dp K H v d) (s : Same H H') : Dp K H' v d := dp_same s d v h
theorem DpAll.on {vs : List V} {ds : List PyData} (h : DpAll K H vs ds) (s : Same H H') : DpAll K H' vs ds := dpa_same s ds vs h
theorem DpAll.len : ∀ {vs : List V} {ds : List PyData}, DpAll K H vs ds → vs.length = ds.length
  | _, _, .nil => rfl
  | _, _, .cons _ t => congrArg (· + 1) (DpAll.len t)
theorem DpAll.at_ : ∀ {vs : List V} {ds : List PyData} {i : Nat} {v : V}, DpAll K H vs ds → vs[i]? = some v → ∃ d, ds[i]? = some d ∧ Dp K H v d
  | _, _, 0, _, .cons h _, e => by
    cases e
    exact ⟨_, rfl, h⟩
  | _, _, i + 1, v, .cons _ t, e => by
    obtain ⟨d, h1, h2⟩ := DpAll.at_ (i := i) (v := v) t (by simpa using e)
    exact ⟨d, by simpa using h1, h2⟩
theorem DpAll.item : ∀ {vs : List V} {ds : List PyData} {i : Nat} {d : PyData}, DpAll K H vs ds → ds[i]? = some d → ∃ v, vs[i]? = some v ∧ Dp K H v d
  | _, _, 0, _, .cons h _, e => by
    cases e
    exact ⟨_, rfl, h⟩
  | _, _, i + 1, d, .cons _ t, e => by
    obtain ⟨v, h1, h2⟩ := DpAll.item (i := i) (d := d) t (by simpa using e)
    exact ⟨v, by simpa using h1, h2⟩
theorem DpAll.app : ∀ {vs ws : List V} {ds es : List PyData}, DpAll K H vs ds → DpAll K H ws es → DpAll K H (vs ++ ws) (ds ++ es)
  | _, _, _, _, .nil, h => h
  | _, _, _, _, .cons h t, q => .cons h (DpAll.app t q)
theorem DpAll.ints : ∀ {vs : List V} {ns : List Int}, DpAll K H vs (ns.map PyData.int) → vs = ns.map V.int
  | _, [], .nil => rfl
  | _, n :: ns, .cons h t => by
    cases h
    rw [DpAll.ints t, List.map_cons]
theorem DpAll.ofInts : ∀ (ns : List Int), DpAll K H (ns.map V.int) (ns.map PyData.int)
  | [] => .nil
  | n :: ns => .cons (.int n) (DpAll.ofInts ns)
end
end L2
namespace K28
open PySem PySem.Spec PyProof.Rows L2
/-! ### evaluation to data -/
/-- e gives data d, at every heap that holds what H holds -/
def JD (X : Cx) (e : Expr) (σ : L2.St) (H : Hp) (d : PyData) : Prop := ∀ H1, Same H H1 → ∀ Q : VK, (∀ v H2, Same H1 H2 → Dp X.K H2 v d → Q v H2) → JE X e σ H1 Q
/-- e gives just v -/
def JV (X : Cx) (e : Expr) (σ : L2.St) (H : Hp) (v : V) : Prop := ∀ H1, Same H H1 → ∀ Q : VK, (∀ H2, Same H1 H2 → Q v H2) → JE X e σ H1 Q
/-- a test -/
def JB (X : Cx) (e : Expr) (σ : L2.St) (H : Hp) (b : Bool) : Prop := ∀ H1, Same H H1 → ∀ Q : Bool → Hp → Prop, (∀ H2, Same H1 H2 → Q b H2) → JT X e σ H1 Q
def JBw (X : Cx) (e : Expr) (σ : L2.St) (H : Hp) (b : Bool) : Prop := ∀ H1, Same H H1 → ∀ Q : Bool → Hp → Prop, (∀ H2, Same H1 H2 → Q b H2) → JW X e σ H1 Q
def JDs (X : Cx) (es : List Expr) (σ : L2.St) (H : Hp) (ds : List PyData) : Prop := ∀ H1, Same H H1 → ∀ Q : List V → Hp → Prop, (∀ vs H2, Same H1 H2 → DpAll X.K H2 vs ds → Q vs H2) → JA X es σ H1 Q
def JVs (X : Cx) (es : List Expr) (σ : L2.St) (H : Hp) (vs : List V) : Prop := ∀ H1, Same H H1 → ∀ Q : List V → Hp → Prop, (∀ H2, Same H1 H2 → Q vs H2) → JA X es σ H1 Q
section
variable {X : Cx} {e a b c f : Expr} {es : List Expr} {σ : L2.St} {H H' : Hp} {pos : Pos} {d : PyData} {v : V}
theorem JD.on (h : JD X e σ H d) (s : Same H H') : JD X e σ H' d := fun H1 e1 => h H1 (s.trans e1)
theorem JV.on (h : JV X e σ H v) (s : Same H H') : JV X e σ H' v := fun H1 e1 => h H1 (s.trans e1)
theorem JB.on {b : Bool} (h : JB X e σ H b) (s : Same H H') : JB X e σ H' b := fun H1 e1 => h H1 (s.trans e1)
theorem JDs.on {ds : List PyData} (h : JDs X es σ H ds) (s : Same H H') : JDs X es σ H' ds := fun H1 e1 => h H1 (s.trans e1)
theorem JV.dd (h : JV X e σ H v) (hd : Dp X.K H v d) : JD X e σ H d := fun H1 s Q q => h H1 s Q fun H2 s2 => q v H2 s2 (hd.on (s.trans s2))
theorem JD.je {Q : VK} (h : JD X e σ H d) (q : ∀ v H2, Same H H2 → Dp X.K H2 v d → Q v H2) : JE X e σ H Q := h H (Same.refl H) Q q
theorem JV.je {Q : VK} (h : JV X e σ H v) (q : ∀ H2, Same H H2 → Q v H2) : JE X e σ H Q := h H (Same.refl H) Q q
/-- scalars: the data is the value -/
theorem JD.int {i : Int} (h : JD X e σ H (.int i)) : JV X e σ H (.int i) := fun H1 s Q q => h H1 s Q fun v H2 s2 hv => by
  cases hv
  exact q H2 s2
theorem JD.bl {b : Bool} (h : JD X e σ H (.bool b)) : JV X e σ H (.bl b) := fun H1 s Q q => h H1 s Q fun v H2 s2 hv => by
  cases hv
  exact q H2 s2
theorem JV.int {i : Int} (h : JV X e σ H (.int i)) : JD X e σ H (.int i) := h.dd (.int i)
theorem JV.bl {b : Bool} (h : JV X e σ H (.bl b)) : JD X e σ H (.bool b) := h.dd (.bl b)
/-- names, constants -/
theorem jv_var (i : Nat) {x : Str} (hs : σ[i]? = some (some v)) (hN : X.N[i]? = some x := by rfl) (hv : Vis X.env.scope x := by first | exact Or.inl rfl | exact Or.inr (Or.inl rfl) | exact Or.inr (Or.inr rfl)) (hd : (x == ("__debug__" : Str)) = false := by decide)
    (hcd : (x == ("__classdict__" : Str)) = false := by decide) : JV X (.Name x pos) σ H v := fun H1 s Q q => je_of (pe_var hN hv hd hcd) ⟨v, hs, q H1 (Same.refl H1)⟩
theorem jd_var (i : Nat) {x : Str} (hs : σ[i]? = some (some v)) (hp : Dp X.K H v d) (hN : X.N[i]? = some x := by rfl) (hv : Vis X.env.scope x := by first | exact Or.inl rfl | exact Or.inr (Or.inl rfl) | exact Or.inr (Or.inr rfl)) (hd : (x == ("__debug__" : Str)) = false := by decide)
    (hcd : (x == ("__classdict__" : Str)) = false := by decide) : JD X (.Name x pos) σ H d := (jv_var i hs hN hv hd hcd).dd hp
theorem jv_int {i j} : JV X (.Constant (.int i) j pos) σ H (.int i) := fun H1 _ _ q => je_of pe_int (q H1 (Same.refl H1))
theorem jv_bl {b j} : JV X (.Constant (.bool b) j pos) σ H (.bl b) := fun H1 _ _ q => je_of pe_bl (q H1 (Same.refl H1))
theorem jv_non {j} : JV X (.Constant .none j pos) σ H .non := fun H1 _ _ q => je_of pe_non (q H1 (Same.refl H1))
theorem jv_str {x j} : JV X (.Constant (.str x) j pos) σ H (.str x) := fun H1 _ _ q => je_of pe_str (q H1 (Same.refl H1))
theorem jv_glob {x : Str} {u : Value} (hm : X.mg x = some u) (r : RelV v u) (hg : Gl X x := by rfl) (hd : (x == ("__debug__" : Str)) = false := by decide) : JV X (.Name x pos) σ H v := fun H1 _ _ q => je_of (pe_glob hg hm r hd) (q H1 (Same.refl H1))
theorem jd_int {i j} : JD X (.Constant (.int i) j pos) σ H (.int i) := jv_int.int
theorem jd_str {x j} : JD X (.Constant (.str x) j pos) σ H (.str x) := jv_str.dd (.str x)
theorem jd_non {j} : JD X (.Constant .none j pos) σ H .none := jv_non.dd .non
theorem jd_bl {b j} : JD X (.Constant (.bool b) j pos) σ H (.bool b) := jv_bl.dd (.bl b)
/-- two values and an operator of values -/
theorem jv_op {op : Operator} {r : R2} {x y z : V} (ho : OpR X (binaryOp op) r) (ha : JV X a σ H x) (hb : JV X b σ H y) (hr : ∀ H1, Same H H1 → ∀ Q : VK, Q z H1 → r x y H1 Q) : JV X (.BinOp a op b pos) σ H z :=
  fun H1 s Q q => je_of (pe_op ho pej pej) (ha H1 s _ fun H2 s2 => hb H2 (s.trans s2) _ fun H3 s3 => hr H3 ((s.trans s2).trans s3) Q (q H3 (s2.trans s3)))
theorem jd_add {i j : Int} (ha : JD X a σ H (.int i)) (hb : JD X b σ H (.int j)) : JD X (.BinOp a .Add b pos) σ H (.int (i + j)) := (jv_op op_add ha.int hb.int fun H1 _ Q q => ⟨i, j, rfl, rfl, q⟩).int
theorem jd_sub {i j : Int} (ha : JD X a σ H (.int i)) (hb : JD X b σ H (.int j)) : JD X (.BinOp a .Sub b pos) σ H (.int (i - j)) := (jv_op op_sub ha.int hb.int fun H1 _ Q q => ⟨i, j, rfl, rfl, q⟩).int
theorem jd_mul {i j : Int} (ha : JD X a σ H (.int i)) (hb : JD X b σ H (.int j)) (hm : CMul i j) : JD X (.BinOp a .Mult b pos) σ H (.int (i * j)) := (jv_op op_mul ha.int hb.int fun H1 _ Q q => ⟨i, j, rfl, rfl, hm, q⟩).int
theorem jd_mod {i j : Int} (ha : JD X a σ H (.int i)) (hb : JD X b σ H (.int j)) (hm : 0 < j) : JD X (.BinOp a .Mod b pos) σ H (.int (i % j)) := (jv_op op_mod ha.int hb.int fun H1 _ Q q => ⟨i, j, rfl, rfl, hm, q⟩).int
theorem jd_fdiv {i j : Int} (ha : JD X a σ H (.int i)) (hb : JD X b σ H (.int j)) (hm : CDiv i j) : JD X (.BinOp a .FloorDiv b pos) σ H (.int (i / j)) := (jv_op op_fdiv ha.int hb.int fun H1 _ Q q => ⟨i, j, rfl, rfl, hm, q⟩).int
theorem jd_pow {i j : Int} (ha : JD X a σ H (.int i)) (hb : JD X b σ H (.int j)) (hm : CPow i j) : JD X (.BinOp a .Pow b pos) σ H (.int (i ^ j.toNat)) := (jv_op op_pow ha.int hb.int fun H1 _ Q q => ⟨i, j, rfl, rfl, hm, q⟩).int
theorem jd_neg {i : Int} (ha : JD X a σ H (.int i)) : JD X (.UnaryOp .USub a pos) σ H (.int (-i)) := JV.int fun H1 s Q q => je_of (pe_un un_neg pej) (ha.int H1 s _ fun H2 s2 => ⟨i, rfl, q H2 s2⟩)
/-- comparisons -/
theorem jv_cmp {op : CmpOp} {r : R2} {x y z : V} (ho : OpR X (compareOp op) r) (hm : behindInMarks op b = false) (ha : JV X a σ H x) (hb : JV X b σ H y) (hr : ∀ H1, Same H H1 → ∀ Q : VK, Q z H1 → r x y H1 Q) : JV X (.Compare a [op] [b] pos) σ H z :=
  fun H1 s Q q => je_of (pe_cmpR ho pej pej hm) (ha H1 s _ fun H2 s2 => hb H2 (s.trans s2) _ fun H3 s3 => hr H3 ((s.trans s2).trans s3) Q (q H3 (s2.trans s3)))
theorem jd_lt {i j : Int} (ha : JD X a σ H (.int i)) (hb : JD X b σ H (.int j)) : JD X (.Compare a [.Lt] [b] pos) σ H (.bool (decide (i < j))) := (jv_cmp op_lt (nomark _) ha.int hb.int fun H1 _ Q q => ⟨i, j, rfl, rfl, q⟩).bl
theorem jd_le {i j : Int} (ha : JD X a σ H (.int i)) (hb : JD X b σ H (.int j)) : JD X (.Compare a [.LtE] [b] pos) σ H (.bool (decide (i ≤ j))) := (jv_cmp op_le (nomark _) ha.int hb.int fun H1 _ Q q => ⟨i, j, rfl, rfl, q⟩).bl
theorem jd_gt {i j : Int} (ha : JD X a σ H (.int i)) (hb : JD X b σ H (.int j)) : JD X (.Compare a [.Gt] [b] pos) σ H (.bool (decide (j < i))) := (jv_cmp op_gt (nomark _) ha.int hb.int fun H1 _ Q q => ⟨i, j, rfl, rfl, q⟩).bl
theorem jd_ge {i j : Int} (ha : JD X a σ H (.int i)) (hb : JD X b σ H (.int j)) : JD X (.Compare a [.GtE] [b] pos) σ H (.bool (decide (j ≤ i))) := (jv_cmp op_ge (nomark _) ha.int hb.int fun H1 _ Q q => ⟨i, j, rfl, rfl, q⟩).bl
theorem jv_eqS {x y : V} (ha : JV X a σ H x) (hb : JV X b σ H y) (hs : scal x y = true) : JV X (.Compare a [.Eq] [b] pos) σ H (.bl (decide (x = y))) := jv_cmp op_eq (nomark _) ha hb fun H1 _ Q q => ⟨hs, q⟩
theorem jv_neS {x y : V} (ha : JV X a σ H x) (hb : JV X b σ H y) (hs : scal x y = true) : JV X (.Compare a [.NotEq] [b] pos) σ H (.bl (!decide (x = y))) := jv_cmp op_ne (nomark _) ha hb fun H1 _ Q q => ⟨hs, q⟩
theorem jd_eqI {i j : Int} (ha : JD X a σ H (.int i)) (hb : JD X b σ H (.int j)) : JD X (.Compare a [.Eq] [b] pos) σ H (.bool (decide (i = j))) := by
  have e : decide (V.int i = V.int j) = decide (i = j) := by simp
  rw [← e]
  exact (jv_eqS ha.int hb.int rfl).bl
theorem jd_neI {i j : Int} (ha : JD X a σ H (.int i)) (hb : JD X b σ H (.int j)) : JD X (.Compare a [.NotEq] [b] pos) σ H (.bool (!decide (i = j))) := by
  have e : decide (V.int i = V.int j) = decide (i = j) := by simp
  rw [← e]
  exact (jv_neS ha.int hb.int rfl).bl
theorem jv_isN {j p2} (ha : JV X a σ H v) : JV X (.Compare a [.Is] [.Constant .none j p2] pos) σ H (.bl (decide (v = .non))) := jv_cmp op_isN (nomark _) ha jv_non fun H1 _ Q q => ⟨rfl, q⟩
theorem jv_notN {j p2} (ha : JV X a σ H v) : JV X (.Compare a [.IsNot] [.Constant .none j p2] pos) σ H (.bl (!decide (v = .non))) := jv_cmp op_notN (nomark _) ha jv_non fun H1 _ Q q => ⟨rfl, q⟩
/-- nested data == -/
theorem jd_cmpD {op : CmpOp} {d1 d2 : PyData} {k : PyData → PyData → Bool} (ho : OpR X (compareOp op) (fun x y H Q => ∃ d e, Dp X.K H x d ∧ Dp X.K H y e ∧ SeqAt.shaped d = true ∧ SeqAt.shaped e = true ∧ Q (.bl (k d e)) H)) (ha : JD X a σ H d1) (hb : JD X b σ H d2)
    (h1 : SeqAt.shaped d1 = true) (h2 : SeqAt.shaped d2 = true) (hm : behindInMarks op b = false) : JD X (.Compare a [op] [b] pos) σ H (.bool (k d1 d2)) := fun H1 s Q q =>
  je_of (pe_cmpR ho pej pej hm) (ha H1 s _ fun x H2 s2 hx => hb H2 (s.trans s2) _ fun y H3 s3 hy => ⟨d1, d2, hx.on s3, hy, h1, h2, q _ H3 (s2.trans s3) (.bl _)⟩)
theorem jd_eqD {k : Nat} {d1 d2 : PyData} (hr : Room k X.A) (ha : JD X a σ H d1) (hb : JD X b σ H d2) (h1 : SeqAt.shaped d1 = true) (h2 : SeqAt.shaped d2 = true) : JD X (.Compare a [.Eq] [b] pos) σ H (.bool (PyData.eqv d1 d2)) := jd_cmpD (op_eqD hr.units) ha hb h1 h2 (nomark _)
theorem jd_neD {k : Nat} {d1 d2 : PyData} (hr : Room k X.A) (ha : JD X a σ H d1) (hb : JD X b σ H d2) (h1 : SeqAt.shaped d1 = true) (h2 : SeqAt.shaped d2 = true) : JD X (.Compare a [.NotEq] [b] pos) σ H (.bool (!PyData.eqv d1 d2)) := jd_cmpD (k := fun d e => !PyData.eqv d e) (op_neD hr.units) ha hb h1 h2 (nomark _)
/-- a < b < c -/
theorem jv_chain {o1 o2 : CmpOp} {r1 r2 : R2} {x y z w : V} {k : Bool} (h1 : OpR X (compareOp o1) r1) (h2 : OpR X (compareOp o2) r2) (ha : JV X a σ H x) (hb : JV X b σ H y) (hc : k = true → JV X c σ H z)
    (hr1 : ∀ H1, Same H H1 → ∀ Q : VK, Q (.bl k) H1 → r1 x y H1 Q) (hr2 : k = true → ∀ H1, Same H H1 → ∀ Q : VK, Q w H1 → r2 y z H1 Q) (hw : k = false → w = .bl false) (hm : lastMarks [o1, o2] [b, c] = false := by with_unfolding_all rfl) : JV X (.Compare a [o1, o2] [b, c] pos) σ H w := fun H1 s Q q =>
  je_of (pe_chain h1 h2 pej pej pej (hm := hm)) (ha H1 s _ fun H2 s2 => hb H2 (s.trans s2) _ fun H3 s3 => hr1 H3 ((s.trans s2).trans s3) _ ⟨k, rfl, by
    cases k with
    | true => exact iteT (hc rfl H3 ((s.trans s2).trans s3) _ fun H4 s4 => hr2 rfl H4 (((s.trans s2).trans s3).trans s4) Q (q H4 ((s2.trans s3).trans s4)))
    | false =>
      have e := hw rfl
      subst e
      exact iteF (q H3 (s2.trans s3))⟩)
theorem jd_lele {i j k : Int} (ha : JD X a σ H (.int i)) (hb : JD X b σ H (.int j)) (hc : JD X c σ H (.int k)) (hm : lastMarks [.LtE, .LtE] [b, c] = false := by with_unfolding_all rfl) : JD X (.Compare a [.LtE, .LtE] [b, c] pos) σ H (.bool (decide (i ≤ j) && decide (j ≤ k))) :=
  JV.bl (jv_chain op_le op_le ha.int hb.int (fun _ => hc.int) (fun H1 _ Q q => ⟨i, j, rfl, rfl, q⟩) (fun z H1 _ Q q => ⟨j, k, rfl, rfl, by rw [z] at q; exact q⟩) (fun z => by rw [z]; rfl) hm)
theorem jd_lelt {i j k : Int} (ha : JD X a σ H (.int i)) (hb : JD X b σ H (.int j)) (hc : JD X c σ H (.int k)) (hm : lastMarks [.LtE, .Lt] [b, c] = false := by with_unfolding_all rfl) : JD X (.Compare a [.LtE, .Lt] [b, c] pos) σ H (.bool (decide (i ≤ j) && decide (j < k))) :=
  JV.bl (jv_chain op_le op_lt ha.int hb.int (fun _ => hc.int) (fun H1 _ Q q => ⟨i, j, rfl, rfl, q⟩) (fun z H1 _ Q q => ⟨j, k, rfl, rfl, by rw [z] at q; exact q⟩) (fun z => by rw [z]; rfl) hm)
/-- and, or, not as values -/
theorem jd_one {op : BoolOp} (h : JD X a σ H d) : JD X (.BoolOp op [a] pos) σ H d := fun H1 s Q q => je_of (pe_one pej) (h H1 s Q q)
theorem jd_and {p q : Bool} (ha : JD X a σ H (.bool p)) (hb : p = true → JD X (.BoolOp .And (b :: es) pos) σ H (.bool q)) : JD X (.BoolOp .And (a :: b :: es) pos) σ H (.bool (p && q)) := fun H1 s Q z =>
  je_of (pe_and pej pej) (ha.bl H1 s _ fun H2 s2 => ⟨p, rfl, by
    cases p with
    | true => exact iteT ((hb rfl) H2 (s.trans s2) _ fun v H3 s3 hv => z v H3 (s2.trans s3) hv)
    | false => exact iteF (z _ H2 s2 (.bl false))⟩)
theorem jd_or {p q : Bool} (ha : JD X a σ H (.bool p)) (hb : p = false → JD X (.BoolOp .Or (b :: es) pos) σ H (.bool q)) : JD X (.BoolOp .Or (a :: b :: es) pos) σ H (.bool (p || q)) := fun H1 s Q z =>
  je_of (pe_or pej pej) (ha.bl H1 s _ fun H2 s2 => ⟨p, rfl, by
    cases p with
    | true => exact iteT (z _ H2 s2 (.bl true))
    | false => exact iteF ((hb rfl) H2 (s.trans s2) _ fun v H3 s3 hv => z v H3 (s2.trans s3) hv)⟩)
theorem jd_not {p : Bool} (ha : JD X a σ H (.bool p)) : JD X (.UnaryOp .Not a pos) σ H (.bool (!p)) := fun H1 s Q z => je_of (pe_not pej) (ha.bl H1 s _ fun H2 s2 => ⟨p, rfl, z _ H2 s2 (.bl _)⟩)
/-- tests -/
theorem jb_val {b : Bool} (h : JD X e σ H (.bool b)) (he : ∀ whole, isTrue e X.env whole = (do let v ← whole; standAt e.pos; holding [v] (truthy v)) := by intro _; rfl) : JB X e σ H b := fun H1 s Q q => jt_of (pt_val pej he) (h.bl H1 s _ fun H2 s2 => ⟨b, rfl, q H2 s2⟩)
theorem jb_of {b0 : Bool} (h : JBw X e σ H b0) : JB X e σ H b0 := fun H1 s Q q => jw_t (h H1 s Q q)
theorem jb_cmpR {op : CmpOp} {r : R2} {x y : V} {k : Bool} (ho : OpR X (compareOp op) r) (hm : behindInMarks op b = false) (ha : JV X a σ H x) (hb : JV X b σ H y) (hr : ∀ H1, Same H H1 → ∀ Q : VK, Q (.bl k) H1 → r x y H1 Q) : JB X (.Compare a [op] [b] pos) σ H k :=
  fun H1 s Q q => jt_of (pt_cmpR ho pej pej hm) (ha H1 s _ fun H2 s2 => hb H2 (s.trans s2) _ fun H3 s3 => hr H3 ((s.trans s2).trans s3) _ ⟨k, rfl, q H3 (s2.trans s3)⟩)
theorem jb_cmpD {op : CmpOp} {d1 d2 : PyData} {k : PyData → PyData → Bool} (ho : OpR X (compareOp op) (fun x y H Q => ∃ d e, Dp X.K H x d ∧ Dp X.K H y e ∧ SeqAt.shaped d = true ∧ SeqAt.shaped e = true ∧ Q (.bl (k d e)) H)) (ha : JD X a σ H d1) (hb : JD X b σ H d2)
    (h1 : SeqAt.shaped d1 = true) (h2 : SeqAt.shaped d2 = true) (hm : behindInMarks op b = false) : JB X (.Compare a [op] [b] pos) σ H (k d1 d2) := fun H1 s Q q =>
  jt_of (pt_cmpR ho pej pej hm) (ha H1 s _ fun x H2 s2 hx => hb H2 (s.trans s2) _ fun y H3 s3 hy => ⟨d1, d2, hx.on s3, hy, h1, h2, _, rfl, q H3 (s2.trans s3)⟩)
theorem jb_eqD {k : Nat} {d1 d2 : PyData} (hr : Room k X.A) (ha : JD X a σ H d1) (hb : JD X b σ H d2) (h1 : SeqAt.shaped d1 = true) (h2 : SeqAt.shaped d2 = true) : JB X (.Compare a [.Eq] [b] pos) σ H (PyData.eqv d1 d2) := jb_cmpD (op_eqD hr.units) ha hb h1 h2 (nomark _)
theorem jb_neD {k : Nat} {d1 d2 : PyData} (hr : Room k X.A) (ha : JD X a σ H d1) (hb : JD X b σ H d2) (h1 : SeqAt.shaped d1 = true) (h2 : SeqAt.shaped d2 = true) : JB X (.Compare a [.NotEq] [b] pos) σ H (!PyData.eqv d1 d2) := jb_cmpD (k := fun d e => !PyData.eqv d e) (op_neD hr.units) ha hb h1 h2 (nomark _)
theorem jb_lt {i j : Int} (ha : JD X a σ H (.int i)) (hb : JD X b σ H (.int j)) : JB X (.Compare a [.Lt] [b] pos) σ H (decide (i < j)) := jb_cmpR op_lt (nomark _) ha.int hb.int fun H1 _ Q q => ⟨i, j, rfl, rfl, q⟩
theorem jb_le {i j : Int} (ha : JD X a σ H (.int i)) (hb : JD X b σ H (.int j)) : JB X (.Compare a [.LtE] [b] pos) σ H (decide (i ≤ j)) := jb_cmpR op_le (nomark _) ha.int hb.int fun H1 _ Q q => ⟨i, j, rfl, rfl, q⟩
theorem jb_gt {i j : Int} (ha : JD X a σ H (.int i)) (hb : JD X b σ H (.int j)) : JB X (.Compare a [.Gt] [b] pos) σ H (decide (j < i)) := jb_cmpR op_gt (nomark _) ha.int hb.int fun H1 _ Q q => ⟨i, j, rfl, rfl, q⟩
theorem jb_ge {i j : Int} (ha : JD X a σ H (.int i)) (hb : JD X b σ H (.int j)) : JB X (.Compare a [.GtE] [b] pos) σ H (decide (j ≤ i)) := jb_cmpR op_ge (nomark _) ha.int hb.int fun H1 _ Q q => ⟨i, j, rfl, rfl, q⟩
theorem jb_eqS {x y : V} (ha : JV X a σ H x) (hb : JV X b σ H y) (hs : scal x y = true) : JB X (.Compare a [.Eq] [b] pos) σ H (decide (x = y)) := jb_cmpR op_eq (nomark _) ha hb fun H1 _ Q q => ⟨hs, q⟩
theorem jb_neS {x y : V} (ha : JV X a σ H x) (hb : JV X b σ H y) (hs : scal x y = true) : JB X (.Compare a [.NotEq] [b] pos) σ H (!decide (x = y)) := jb_cmpR op_ne (nomark _) ha hb fun H1 _ Q q => ⟨hs, q⟩
theorem jb_isN {j p2} (ha : JV X a σ H v) : JB X (.Compare a [.Is] [.Constant .none j p2] pos) σ H (decide (v = .non)) := jb_cmpR op_isN (nomark _) ha jv_non fun H1 _ Q q => ⟨rfl, q⟩
theorem jb_notN {j p2} (ha : JV X a σ H v) : JB X (.Compare a [.IsNot] [.Constant .none j p2] pos) σ H (!decide (v = .non)) := jb_cmpR op_notN (nomark _) ha jv_non fun H1 _ Q q => ⟨rfl, q⟩
theorem jb_lelt {i j k : Int} (ha : JD X a σ H (.int i)) (hb : JD X b σ H (.int j)) (hc : JD X c σ H (.int k)) (hm : lastMarks [.LtE, .Lt] [b, c] = false := by with_unfolding_all rfl) : JB X (.Compare a [.LtE, .Lt] [b, c] pos) σ H (decide (i ≤ j) && decide (j < k)) := fun H1 s Q q =>
  jt_of (pt_chain op_le op_lt pej pej pej (hm := hm)) (ha.int H1 s _ fun H2 s2 => hb.int H2 (s.trans s2) _ fun H3 s3 => ⟨i, j, rfl, rfl, decide (i ≤ j), rfl, by
    cases e : decide (i ≤ j) with
    | true => exact iteT (hc.int H3 ((s.trans s2).trans s3) _ fun H4 s4 => ⟨j, k, rfl, rfl, _, rfl, by rw [e] at q; exact q H4 ((s2.trans s3).trans s4)⟩)
    | false => exact iteF ⟨_, rfl, by rw [e] at q; exact q H3 (s2.trans s3)⟩⟩)
theorem jb_lele {i j k : Int} (ha : JD X a σ H (.int i)) (hb : JD X b σ H (.int j)) (hc : JD X c σ H (.int k)) (hm : lastMarks [.LtE, .LtE] [b, c] = false := by with_unfolding_all rfl) : JB X (.Compare a [.LtE, .LtE] [b, c] pos) σ H (decide (i ≤ j) && decide (j ≤ k)) := fun H1 s Q q =>
  jt_of (pt_chain op_le op_le pej pej pej (hm := hm)) (ha.int H1 s _ fun H2 s2 => hb.int H2 (s.trans s2) _ fun H3 s3 => ⟨i, j, rfl, rfl, decide (i ≤ j), rfl, by
    cases e : decide (i ≤ j) with
    | true => exact iteT (hc.int H3 ((s.trans s2).trans s3) _ fun H4 s4 => ⟨j, k, rfl, rfl, _, rfl, by rw [e] at q; exact q H4 ((s2.trans s3).trans s4)⟩)
    | false => exact iteF ⟨_, rfl, by rw [e] at q; exact q H3 (s2.trans s3)⟩⟩)
theorem jw_and1 {k : Bool} (h : JB X a σ H k) : JBw X (.BoolOp .And [a] pos) σ H k := fun H1 s Q q => jw_of (pw_and1 ptj) (h H1 s Q q)
theorem jw_or1 {k : Bool} (h : JB X a σ H k) : JBw X (.BoolOp .Or [a] pos) σ H k := fun H1 s Q q => jw_of (pw_or1 ptj) (h H1 s Q q)
theorem jw_and {p q : Bool} (ha : JB X a σ H p) (hb : p = true → JBw X (.BoolOp .And (b :: es) pos) σ H q) : JBw X (.BoolOp .And (a :: b :: es) pos) σ H (p && q) := fun H1 s Q z => jw_of (pw_and ptj pwj) (ha H1 s _ fun H2 s2 => by
  cases p with
  | true => exact iteT ((hb rfl) H2 (s.trans s2) _ fun H3 s3 => z H3 (s2.trans s3))
  | false => exact iteF (z H2 s2))
theorem jw_or {p q : Bool} (ha : JB X a σ H p) (hb : p = false → JBw X (.BoolOp .Or (b :: es) pos) σ H q) : JBw X (.BoolOp .Or (a :: b :: es) pos) σ H (p || q) := fun H1 s Q z => jw_of (pw_or ptj pwj) (ha H1 s _ fun H2 s2 => by
  cases p with
  | true => exact iteT (z H2 s2)
  | false => exact iteF ((hb rfl) H2 (s.trans s2) _ fun H3 s3 => z H3 (s2.trans s3)))
theorem jb_not {p : Bool} (ha : JB X a σ H p) : JB X (.UnaryOp .Not a pos) σ H (!p) := fun H1 s Q z => jt_of (pt_not ptj) (ha H1 s _ fun H2 s2 => z H2 s2)
/-- x if t else y -/
theorem jd_if {p : Bool} (ht : JB X c σ H p) (h1 : p = true → JD X a σ H d) (h2 : p = false → JD X b σ H d) : JD X (.IfExp c a b pos) σ H d := fun H1 s Q q => je_of (pe_ifExp ptj pej pej) (ht H1 s _ fun H2 s2 => by
  cases p with
  | true => exact iteT ((h1 rfl) H2 (s.trans s2) _ fun v H3 s3 hv => q v H3 (s2.trans s3) hv)
  | false => exact iteF ((h2 rfl) H2 (s.trans s2) _ fun v H3 s3 hv => q v H3 (s2.trans s3) hv))
/-- argument lists -/
theorem jds_nil : JDs X [] σ H [] := fun H1 _ Q q => ja_of pa_nil (q [] H1 (Same.refl H1) .nil)
theorem jds_cons {ds : List PyData} (ha : JD X a σ H d) (hr : JDs X es σ H ds) (hs : starEach (a :: es) X.env = (false, eval a X.env) :: starEach es X.env := by rfl) : JDs X (a :: es) σ H (d :: ds) := fun H1 s Q q =>
  ja_of (pa_cons pej paj hs) (ha H1 s _ fun v H2 s2 hv => hr H2 (s.trans s2) _ fun vs H3 s3 hvs => q _ H3 (s2.trans s3) (.cons (hv.on s3) hvs))
theorem jds_star {ds ds2 : List PyData} {p : Pos} (ha : JD X a σ H (.tuple ds)) (hr : JDs X es σ H ds2) : JDs X (.Starred a p :: es) σ H (ds ++ ds2) := fun H1 s Q q =>
  ja_of (StX.pa_star pej paj) (ha H1 s _ fun v H2 s2 hv => by
    cases hv with
    | tup h1 h2 => exact ⟨_, _, rfl, .inl h1, hr H2 (s.trans s2) _ fun vs H3 s3 hvs => q _ H3 (s2.trans s3) (DpAll.app (h2.on s3) hvs)⟩)
theorem jds_starL {ds ds2 : List PyData} {p : Pos} (ha : JD X a σ H (.list ds)) (hr : JDs X es σ H ds2) : JDs X (.Starred a p :: es) σ H (ds ++ ds2) := fun H1 s Q q =>
  ja_of (StX.pa_star pej paj) (ha H1 s _ fun v H2 s2 hv => by
    cases hv with
    | lst h1 h2 => exact ⟨_, _, rfl, .inr h1, hr H2 (s.trans s2) _ fun vs H3 s3 hvs => q _ H3 (s2.trans s3) (DpAll.app (h2.on s3) hvs)⟩)
theorem jvs_nil : JVs X [] σ H [] := fun H1 _ Q q => ja_of pa_nil (q H1 (Same.refl H1))
theorem jvs_cons {vs : List V} (ha : JV X a σ H v) (hr : JVs X es σ H vs) (hs : starEach (a :: es) X.env = (false, eval a X.env) :: starEach es X.env := by rfl) : JVs X (a :: es) σ H (v :: vs) := fun H1 s Q q =>
  ja_of (pa_cons pej paj hs) (ha H1 s _ fun H2 s2 => hr H2 (s.trans s2) _ fun H3 s3 => q H3 (s2.trans s3))
/-- displays -/
theorem jd_tup {ds : List PyData} {x1} (h : JDs X es σ H ds) (hz : ds.length ≤ sizeLine) : JD X (.Tuple es x1 pos) σ H (.tuple ds) := fun H1 s Q q =>
  je_of (pe_tup paj) (h H1 s _ fun vs H2 s2 hv => ⟨by rw [hv.len]; exact hz, fun p hp => q _ _ (s2.trans (same_new hp)) (.tup (SqT.of upd_same) (hv.on (same_new hp)))⟩)
theorem jd_lst {ds : List PyData} (h : JDs X es σ H ds) (hz : ds.length ≤ sizeLine) : JD X (.List es pos) σ H (.list ds) := fun H1 s Q q =>
  je_of (pe_lst paj) (h H1 s _ fun vs H2 s2 hv => ⟨by rw [hv.len]; exact hz, fun p hp => q _ _ (s2.trans (same_new hp)) (.lst (SqL.of upd_same) (hv.on (same_new hp)))⟩)
/-- items -/
theorem atI_d {K : PySem.W.Frag} {vs : List V} {ds : List PyData} {i : Int} (h : DpAll K H vs ds) (hi : atI ds i = some d) : ∃ v, atI vs i = some v ∧ Dp K H v d := by
  unfold atI at hi ⊢
  rw [h.len]
  cases e : ixN ds.length i with
  | none =>
    rw [e] at hi
    cases hi
  | some j =>
    rw [e] at hi
    exact h.item hi
theorem jd_ixT {ds : List PyData} {i : Int} (ha : JD X a σ H (.tuple ds)) (hb : JD X b σ H (.int i)) (hi : atI ds i = some d) (hs : PlainIx b := by exact fun _ _ => rfl) : JD X (.Subscript a b pos) σ H d := fun H1 s Q q =>
  je_of (pe_ix ix_tup pej pej hs) (ha H1 s _ fun v H2 s2 hv => hb.int H2 (s.trans s2) _ fun H3 s3 => by
    cases hv with
    | tup h1 h2 =>
      obtain ⟨x, hx, hd⟩ := atI_d (h2.on s3) hi
      exact ⟨_, _, _, _, rfl, rfl, same_sqt s3 h1, hx, q _ H3 (s2.trans s3) hd⟩)
theorem jd_ixL {ds : List PyData} {i : Int} (ha : JD X a σ H (.list ds)) (hb : JD X b σ H (.int i)) (hi : atI ds i = some d) (hs : PlainIx b := by exact fun _ _ => rfl) : JD X (.Subscript a b pos) σ H d := fun H1 s Q q =>
  je_of (pe_ix ix_list pej pej hs) (ha H1 s _ fun v H2 s2 hv => hb.int H2 (s.trans s2) _ fun H3 s3 => by
    cases hv with
    | lst h1 h2 =>
      obtain ⟨x, hx, hd⟩ := atI_d (h2.on s3) hi
      exact ⟨_, _, _, _, rfl, rfl, s3.seq h1, hx, q _ H3 (s2.trans s3) hd⟩)
end
end K28
-- KEnum
/-! KEnum: for i, x in enumerate(t), t a tuple. -/
namespace K28
open PySem PySem.Spec PyProof.Rows L2
theorem meets_enum1 {v : Value} {o : Obj} {G : Heap → Prop} (B : Begins v o G) :
    Meets (Builtin.«enumerate.__new__» ⟨[.type "enumerate", v], []⟩) (fun _ R s => G s.heap ∧
      R (.ok (.ret (.ref (s.heap.push o).objs.size))) { s with heap := (s.heap.push o).push { cls := .type "enumerate", data := .fields #[.none, .bool false, .ref s.heap.objs.size, rawInt 0, .none, .none] } }) :=
  .of_wp fun prog w A R s z => by
    obtain ⟨hp, gg, dd, tk, os⟩ := s
    obtain ⟨hG, z⟩ := z
    have hse := sub_enumerate
    have q1 : ∀ {A' : Around} {E : Value → Shared → Prop} {Q : Value → Shared → Prop}, Q (.ref hp.objs.size) ⟨hp.push o, gg, dd, tk, os⟩ → wpAny (model prog w) A' (pyIter v) Q E ⟨hp, gg, dd, tk, os⟩ :=
      fun q => B.iter prog w _ _ ⟨hp, gg, dd, tk, os⟩ _ hG q
    wp_walk using q1
    refine wpAny_stack_any fun _ => wpAny_pure ?_
    split
    · rename_i c _ _ _ _ _
      cases (c == Value.type "enumerate")
      all_goals
        wp_walk using q1
        exact ⟨_, rfl, z⟩
    · wp_walk using q1
      exact ⟨_, rfl, z⟩
theorem call_enum1 {prog : Program} {w : World} {A : Around} {E : Value → Shared → Prop} {s : Shared} {v : Value} {o : Obj} {G : Heap → Prop} {Q : Value → Shared → Prop} (B : Begins v o G) (hG : G s.heap)
    (h : ∀ h', IsEnum h' (s.heap.objs.size + 1) s.heap.objs.size 0 .none → h'.get? s.heap.objs.size = some o → h'.objs.size = s.heap.objs.size + 2 → (∀ b o, s.heap.get? b = some o → h'.get? b = some o) → Q (.ref (s.heap.objs.size + 1)) { s with heap := h' }) :
    wpAny (model prog w) A (call (.type "enumerate") [v]) Q E s := by
  refine callType_new F.called_enumerate (by decide) (F.typeCall_enumerate_1 _) (F.newCall_enumerate_1 _) (fun obj => F.args_object_init_2 obj _) F.entry_enumerate_new (meets_enum1 B) ⟨hG, ?_⟩
  have hz : (s.heap.push o).objs.size = s.heap.objs.size + 1 := Heap.size_push ..
  show _ ∧ _
  rw [hz]
  have he : IsEnum ((s.heap.push o).push { cls := .type "enumerate", data := .fields #[.none, .bool false, .ref s.heap.objs.size, rawInt 0, .none, .none] }) (s.heap.objs.size + 1) s.heap.objs.size 0 .none := by
    have q := Heap.get?_push_size (s.heap.push o) (o := { cls := .type "enumerate", data := .fields #[.none, .bool false, .ref s.heap.objs.size, rawInt 0, .none, .none] }) rfl
    rw [hz] at q
    exact q
  exact ⟨⟨_, he, rfl⟩, h _ he (Heap.get?_push_of_some _ (Heap.get?_push_size _ B.free)) (by rw [Heap.size_push, hz]) fun b o x => Heap.get?_push_of_some _ (Heap.get?_push_of_some _ x)⟩
/-- the tuple at a as it stands at each turn, each item in a new pair -/
def IteT (K : PySem.W.Frag) (a : Addr) : It :=
  ⟨fun i H => ∃ (xs : List V) (x : V), SqT K H a xs ∧ xs[i]? = some x, fun i H v H' => ∃ T x, v = .ref T ∧ H T = none ∧ H' = upd H T (.tup [.int (i : Nat), x]) ∧ ∀ xs, SqT K H a xs → xs[i]? = some x, fun i H => ∃ xs : List V, SqT K H a xs ∧ xs.length ≤ i⟩
theorem isTup_of {h : Heap} {a : Addr} {its : Array Value} (t : IsTup h a its) : h.IsTuple a its := by
  obtain ⟨o, h1, h2, n, h3⟩ := t
  exact ⟨o, h1, h2, n, h3⟩
theorem turn_enumT {P : Program} {w : World} {K : PySem.W.Frag} {elts : List Expr} {kk : Nat} {tpos : Pos} (a e it : Addr) :
    Turn P w K (.Tuple elts kk tpos) (IteT K a) [e, it] e (fun i h => (∃ old, IsEnum h e it ((i : Nat) : Int) old) ∧ h.IsTupleIter it a i ∧ e ≠ it ∧ a ≠ e ∧ a ≠ it) where
  mem := by simp
  obj := fun i h st b hb => by
    obtain ⟨⟨old, he⟩, ⟨o, ho, hc, hd⟩, _⟩ := st
    have e' : b = e ∨ b = it := by simpa using hb
    rcases e' with z | z
    · rw [z]; exact ⟨_, he, fun v q => nomatch q⟩
    · rw [z]; exact ⟨o, ho, fun v q => by rw [hd] at q; cases q⟩
  keep := fun i h h' st k => let ⟨⟨old, he⟩, hi, hne⟩ := st; ⟨⟨old, k e (by simp) _ he⟩, hi.at fun o q => k it (by simp) o q, hne⟩
  item := by
    intro X hP hw hK hc i pins s σ H E I hf st hg
    subst hP hw hK
    obtain ⟨⟨old, he⟩, hit, hne, nae, nai⟩ := st
    obtain ⟨xs, x, hq, hx⟩ := hg
    obtain ⟨its, rv, p, hz⟩ := I.tuple hq
    obtain ⟨u, hu, ru⟩ := rv.get hx
    have hel : e < s.heap.objs.size := Heap.lt_size he
    have hil : it < s.heap.objs.size := by obtain ⟨_, q, _⟩ := hit; exact Heap.lt_size q
    have hh : X.A.in1.handled = none := I.ok.hd hc
    have hlt : i < its.toArray.size := by
      have q := (List.getElem?_eq_some_iff.mp hu).1
      simpa using q
    refine wpAny_pyNext_enum_itemD (Draws.tuple hh it a nai its.toArray) he ⟨hit, isTup_of p⟩ hlt hne (fun z => by
      rcases List.mem_cons.mp z with z | z
      · exact hne z
      · exact nae (List.mem_singleton.mp z).symm) fun u' h' tk hP ho hst' hT hsz hk => ?_
    have eu : u' = u := by
      have q : its.toArray[i]? = some u := by simpa using hu
      rw [q] at hP
      exact (Option.some.inj hP).symm
    subst eu
    refine ⟨_, rfl, wpAny_letOwnedTupleGo_enum (s := { s with heap := h', toks := tk + 1 }) ho fun h'' he' sb => ?_⟩
    have hT2 : h''.get? s.heap.objs.size = some { cls := .type "tuple", data := .seq #[.int i tk, u'] } := (sb.2 _ (Nat.ne_of_gt hel)).trans hT
    have new : ObjOk X.prog X.w (upd H s.heap.objs.size (.tup [.int (i : Nat), x])) h'' s.heap.objs.size (.tup [.int (i : Nat), x]) :=
      ⟨by show 2 ≤ sizeLine; decide, [.int i tk, u'], .cons ⟨_, rfl⟩ (.cons ru .nil), ⟨_, hT2, rfl, _, rfl⟩⟩
    have I1 : Inv X pins σ (upd H s.heap.objs.size (.tup [.int (i : Nat), x])) { s with heap := h'', toks := tk + 1 } :=
      I.turnedNew (ch := [e, it]) (fun b ob hb q => (sb.2 b (fun z => hb (by simp [z]))).trans (hk b ob (fun z => hb (by simp [z])) (fun z => hb (by simp [z])) q)) hf (Nat.le_refl _) new
    refine ⟨.ref s.heap.objs.size, _, I1, rfl, ⟨_, x, rfl, I.hok.fresh (Nat.le_refl _), rfl, fun ys hy => by rw [I.tuple_inj hy hq]; exact hx⟩, ⟨⟨u', ?_⟩, hst'.1.at fun o q => (sb.2 it (Ne.symm hne)).trans q, hne, nae, nai⟩, fun b hb => ?_⟩
    · have e1 : ((i + 1 : Nat) : Int) = (i : Int) + 1 := by omega
      rw [e1]; exact he'
    · have hb' : b < s.heap.objs.size := by
        have e' : b = e ∨ b = it := by simpa using hb
        rcases e' with z | z
        · rw [z]; exact hel
        · rw [z]; exact hil
      rw [upd_ne (Nat.ne_of_lt hb')]
      exact (hf b hb).1
  done := by
    intro X hP hw hK hc i pins s σ H E I hf st hg
    subst hP hw hK
    obtain ⟨⟨old, he⟩, hit, hne, nae, nai⟩ := st
    obtain ⟨xs, hq, hx⟩ := hg
    obtain ⟨its, rv, p, hz⟩ := I.tuple hq
    obtain ⟨f0, f1, f2, f3, f4, f5⟩ := hf it (by simp)
    have hl := rv.length
    have hh : X.A.in1.handled = none := I.ok.hd hc
    unfold pyNext
    have hT : s.TypeIs (.ref e) "enumerate" := ⟨_, he, rfl⟩
    refine wpAny_bind (wpAny_attempt (wpAny_callSpecial?_slot (name := Str.ofString "__next__") hT F.slot_enumerate_next (wpAny_call_entry F.slot_enumerate_next hT F.entry_enumerate_next ?_ (F.args_enumerate_next_1 _))))
    show wpAny _ _ (field (.ref e) 2 >>= _) _ _ _
    refine wpAny_bind (wpAny_field he rfl (x := .ref it) rfl ?_)
    refine wpAny_bind (wpAny_nextOf_tuple_end hh hit (isTup_of p) (by simp; omega) fun h' x he' hx' => ?_)
    obtain ⟨o, ho, hcl⟩ := hx'
    refine wpAny_bind (wpAny_isInstance (T := "StopIteration") (b := true) ⟨o, ho, hcl⟩ isSubtype_stop ?_)
    exact wpAny_pure ⟨rfl, I.turned (t' := s.toks) (fun b o hb q => he' b o hb q) f0 f1 f3 f4 f5⟩
  self := fun A i s Q E st h => let ⟨⟨_, he⟩, _⟩ := st; wpAny_pyIter_enum he h
def iEnumT (K : PySem.W.Frag) (ta : TA) : TI := fun σ H R => ta σ H fun vs H1 => ∃ a xs, vs = [.ref a] ∧ SqT K H1 a xs ∧ R (IteT K a) H1
theorem pi_enumT {X : Cx} {e : Expr} {ta : TA} {p pos tpos : Pos} {elts : List Expr} {kk : Nat} (hg : Gl X "enumerate") (hm : X.mg "enumerate" = none) (ha : PA X [e] ta) (hs : starEach [e] X.env = [(false, eval e X.env)] := by rfl) :
    PI X (.Tuple elts kk tpos) (.Call (.Name "enumerate" p) [e] [] pos) (iEnumT X.K ta) := by
  refine ⟨fun pins s σ H R I h => ?_⟩
  refine Call_ (ld_blt I hg hm boot_enumerate (PyProof.Rows.callWith_type1 (thn (ha.run pos pins s σ H _ I h) fun us s1 ⟨vs, H1, I1, r1, q1⟩ => ?_) hs rfl))
  obtain ⟨a, xs, ex, hq, q⟩ := q1
  subst ex
  cases r1 with
  | cons r rr =>
    cases rr
    cases r
    obtain ⟨its, rv, p', hz⟩ := I1.tuple hq
    have hal : a < s1.heap.objs.size := p'.lt
    refine call_enum1 (begins_tuple a its.toArray) (isTup_of p') fun h' he hit hsz hk => wpAny_pyIter_enum he ?_
    have I2 : Inv X pins σ H1 { s1 with heap := h' } := I1.kept (t' := s1.toks) hk
    refine ⟨s1.heap.objs.size + 1, [s1.heap.objs.size + 1, s1.heap.objs.size], _, _, H1, rfl, I2, turn_enumT a (s1.heap.objs.size + 1) s1.heap.objs.size, ⟨⟨.none, he⟩, ⟨_, hit, rfl, rfl⟩, Nat.succ_ne_self _, Nat.ne_of_lt (Nat.lt_succ_of_lt hal), Nat.ne_of_lt hal⟩, fun b hb => ?_, q⟩
    have e' : b = s1.heap.objs.size + 1 ∨ b = s1.heap.objs.size := by simpa using hb
    have hle : s1.heap.objs.size ≤ b := by
      rcases e' with z | z
      · rw [z]; exact Nat.le_add_right _ _
      · rw [z]; exact Nat.le_refl _
    exact I1.fpOk hle (I1.hok.fresh hle)
theorem walk_enumT {K : PySem.W.Frag} {a : Addr} {xs : List V} : Walk (IteT K a) xs.length (fun H => SqT K H a xs) (YPair (fun i => some (.int (i : Nat))) (fun i => xs[i]?)) := by
  refine ⟨fun i _ hi q => ⟨xs, xs[i], q, by simp [hi]⟩, fun _ q => ⟨xs, q, Nat.le_refl _⟩, fun i H v H' _ q y => ?_⟩
  obtain ⟨T, x, h1, h2, h3, h4⟩ := y
  exact ⟨T, .int (i : Nat), x, h1, h2, h3, rfl, h4 xs q⟩
end K28
-- KJ2
/-! KJ2: statements, calls, built-ins, comprehensions, over KJ. -/
namespace K28
open PySem PySem.Spec PyProof.Rows L2
/-! ### blocks, statements -/
section
variable {X : Cx} {e a b c : Expr} {es : List Expr} {st : Stmt} {sts l1 l2 : List Stmt} {σ : L2.St} {H : Hp} {D : Ends} {pos : Pos} {d : PyData} {v : V}
theorem jss_nil (h : D.nx σ H) : JSs X [] D σ H := jss_of pss_nil h
theorem jss_cons (h : JS X st { D with nx := fun σ' H' => JSs X sts D σ' H' } σ H) : JSs X (st :: sts) D σ H := jss_of (pss_cons psj pssj) h
theorem jss_one (h : JS X st D σ H) : JSs X [st] D σ H := jss_of (pss_one psj) h
theorem js_ret (h : JE X e σ H D.rt) : JS X (.Return (some e) pos) D σ H := js_of (ps_ret pej) h
theorem js_retN (h : D.rt .non H) : JS X (.Return none pos) D σ H := js_of ps_retN h
theorem js_expr (h : JE X e σ H fun _ H1 => D.nx σ H1) (hs : swapsWith e none pos.line X.env = pure false := by rfl) : JS X (.Expr e pos) D σ H := js_of (ps_expr pej hs) h
theorem js_set {i : Nat} {x : Str} {pos' : Pos} (hN : X.N.Nodup) (h : JE X e σ H fun v H1 => D.nx (σ.set i (some v)) H1) (hi : X.N[i]? = some x := by rfl) (hx : Loc X.env.scope x := by first | exact Or.inl rfl | exact Or.inr rfl) (hs : swapsWith e (some (.Name x pos')) pos.line X.env = pure false := by rfl)
    (hf : X.fn x = true ∨ X.env.scope.names.lookup x = some .local := by first | exact .inl rfl | exact .inr rfl) : JS X (.Assign [.Name x pos'] e pos) D σ H := js_of (ps_set hN hi hx pej hs hf) h
theorem js_par {i j : Nat} {x y : Str} {px py pt : Pos} {kt k2 : Nat} {pt2 : Pos} (hc : X.calm = true) (hN : X.N.Nodup) (h : JE X a σ H fun v H1 => JE X b σ H1 fun w H2 => D.nx ((σ.set i (some v)).set j (some w)) H2) {t : TS}
    (hp : PS X (.Assign [.Tuple [.Name x px, .Name y py] kt pt] (.Tuple [a, b] k2 pt2) pos) (tPar i j (tCons (JE X a) (tCons (JE X b) tNil)))) : JS X (.Assign [.Tuple [.Name x px, .Name y py] kt pt] (.Tuple [a, b] k2 pt2) pos) D σ H :=
  js_of hp (JE.mono h fun v H1 q => JE.mono q fun w H2 z => ⟨v, w, rfl, z⟩)
theorem js_if (h : JT X c σ H fun k H1 => if k = true then JSs X l1 D σ H1 else JSs X l2 D σ H1) : JS X (.If c l1 l2 pos) D σ H := js_of (ps_if ptj pssj pssj) h
theorem js_ifB {k : Bool} (h : JB X c σ H k) (h1 : k = true → ∀ H1, Same H H1 → JSs X l1 D σ H1) (h2 : k = false → ∀ H1, Same H H1 → JSs X l2 D σ H1) : JS X (.If c l1 l2 pos) D σ H := js_if (h H (Same.refl H) _ fun H1 s => by
  cases k with
  | true => exact iteT (h1 rfl H1 s)
  | false => exact iteF (h2 rfl H1 s))
theorem js_ifT (h : JB X c σ H true) (h1 : ∀ H1, Same H H1 → JSs X l1 D σ H1) : JS X (.If c l1 l2 pos) D σ H := js_ifB h (fun _ => h1) fun z => nomatch z
theorem js_ifF (h : JB X c σ H false) (h1 : ∀ H1, Same H H1 → JSs X l2 D σ H1) : JS X (.If c l1 l2 pos) D σ H := js_ifB h (fun z => nomatch z) fun _ => h1
end
/-! ### defs -/
section
variable {P : Program} {w : World} {K : PySem.W.Frag} {mg : Str → Option Value} {base : Heap}
theorem fnj {x qual : Str} {st : Stmt} {f : Addr} {fd : FuncData} {dvs : List V} {kws : List (Str × V)} {N ps : List Str} {k : Nat} {sp : Sp} (F : FunD K x qual (defArgs st) (defBody st) (defScope st) dvs kws f fd) (S : FnScope N ps (defScope st)) (len : ∀ vs H Q E, sp vs H Q E → vs.length = ps.length)
    (hb : ∀ (cdv : Value) (A : Around) (outer : List Env) (s : Shared) (H : Hp) (vs : List V) (Q : VK) (E : XK), Room k (A.deeper (envOfC qual (defScope st) s.heap.objs.size f cdv)) → sp vs H Q E →
      JSs (cxOf (L2.CX P w) P w K mg base N qual (defScope st) f cdv A outer s H E) (defBody st) { nx := fun _ H' => Q .non H', rt := Q } (start N vs) H) : FnOk P w K mg base (L2.CX P w) (k + 1) f fd ps sp :=
  F.ok S len fun cdv A outer s H vs Q E hr h => ⟨JSs _ _, pssj, hb cdv A outer s H vs Q E hr h⟩
/-- a def of the module, by its name: its promise, how its arguments bind -/
structure FnG (P : Program) (w : World) (K : PySem.W.Frag) (mg : Str → Option Value) (base : Heap) (k : Nat) (x : Str) (ps : List Str) (sp : Sp) : Prop where
  ex : ∃ fd, FnOk P w K mg base (L2.CX P w) k (He.ga K x) fd ps sp ∧ Binds K fd ps []
  kp : PySem.W.keepIn K (.ref (He.ga K x)) = true
  gl : mg x = some (.ref (He.ga K x))
/-- a method of the class that the module's name C stands for -/
structure MtG (P : Program) (w : World) (K : PySem.W.Frag) (mg : Str → Option Value) (base : Heap) (k : Nat) (C m : Str) (ps : List Str) (sp : Sp) : Prop where
  ex : ∃ fd, FnOk P w K mg base (L2.CX P w) k (He.ma K (He.ga K C) m) fd ps sp ∧ Binds K fd ps []
  cl : Cls K (He.ga K C)
  mt : Meth K (He.ga K C) m (He.ma K (He.ga K C) m)
end
section
variable {X : Cx} {e o a : Expr} {es : List Expr} {σ : L2.St} {H : Hp} {p pos apos : Pos} {d : PyData} {k n : Nat} {x C m : Str} {ps : List Str} {sp : Sp} {E : XK} {Q : VK}
theorem je_call (G : FnG X.prog X.w X.K X.mg X.base k x ps sp) (hr : Room n X.A) (hx : Passes (L2.CX X.prog X.w) X E) (ha : JA X (e :: es) σ H fun vs H1 => sp vs H1 Q E) (hk : k ≤ n := by decide) (hg : Gl X x := by rfl) (hdb : (x == ("__debug__" : Str)) = false := by decide)
    (he : starEach (e :: es) X.env = (false, eval e X.env) :: starEach es X.env := by rfl) (hpl : (backTo pos (starEach es X.env)).any (·.1) = false := by rfl) : JE X (.Call (.Name x p) (e :: es) [] pos) σ H Q := by
  obtain ⟨fd, F, b⟩ := G.ex
  refine je_of (pe_call F (hr.mono hk) hg G.gl G.kp b .nil hx paj hdb he hpl) (JA.mono ha fun vs H1 h => ?_)
  show sp (vs ++ []) H1 Q E
  rw [List.append_nil]
  exact h
theorem je_meth {pl : Sem Bool} (G : MtG X.prog X.w X.K X.mg X.base k C m ps sp) (hr : Room n X.A) (hx : Passes (L2.CX X.prog X.w) X E) (ho : JE X o σ H fun v H1 => ∃ a dx fs, v = .ref a ∧ H1 a = some (.ins (He.ga X.K C) dx fs) ∧ fs.lookup m = none ∧ JA X (e :: es) σ H1 fun vs H2 => sp (v :: vs) H2 Q E)
    (hk : k ≤ n := by decide) (hst : starEach (e :: es) X.env = (false, eval e X.env) :: starEach es X.env := by rfl) (hpl : (backTo pos (starEach es X.env)).any (·.1) = false := by rfl)
    (ht : eval (.Call (.Attribute o m apos) (e :: es) [] pos) X.env = (do
      let ov ← eval o X.env
      standAt apos.atName
      let (f, first) ← holding [ov] (getMethod ov m pl)
      callWith pos f first (backTo pos (starEach (e :: es) X.env)) (backToKw pos (keywordEach [] X.env))) := by rfl) : JE X (.Call (.Attribute o m apos) (e :: es) [] pos) σ H Q := by
  obtain ⟨fd, F, b⟩ := G.ex
  refine je_of (pe_meth pej G.cl G.mt F (hr.mono hk) b .nil hx paj hst hpl ht) (JE.mono ho fun v H1 h => ?_)
  obtain ⟨a, dx, fs, e1, e2, e3, h⟩ := h
  refine ⟨a, dx, fs, e1, e2, e3, JA.mono h fun vs H2 h => ?_⟩
  show sp (v :: (vs ++ [])) H2 Q E
  rw [List.append_nil]
  exact h
theorem je_meth0 {pl : Sem Bool} (G : MtG X.prog X.w X.K X.mg X.base k C m ps sp) (hr : Room n X.A) (hx : Passes (L2.CX X.prog X.w) X E) (ho : JE X o σ H fun v H1 => ∃ a dx fs, v = .ref a ∧ H1 a = some (.ins (He.ga X.K C) dx fs) ∧ fs.lookup m = none ∧ sp [v] H1 Q E) (hk : k ≤ n := by decide)
    (ht : eval (.Call (.Attribute o m apos) [] [] pos) X.env = (do
      let ov ← eval o X.env
      standAt apos.atName
      let (f, first) ← holding [ov] (getMethod ov m pl)
      callWith pos f first (backTo pos (starEach [] X.env)) (backToKw pos (keywordEach [] X.env))) := by rfl) : JE X (.Call (.Attribute o m apos) [] [] pos) σ H Q := by
  obtain ⟨fd, F, b⟩ := G.ex
  refine je_of (pe_meth0 pej G.cl G.mt F (hr.mono hk) b .nil hx ht) (JE.mono ho fun v H1 h => ?_)
  obtain ⟨a, dx, fs, e1, e2, e3, h⟩ := h
  exact ⟨a, dx, fs, e1, e2, e3, h⟩
/-- e.f -/
theorem je_fld {f : Str} (h : JE X e σ H fun v H1 => ∃ a C dx fs u, v = .ref a ∧ H1 a = some (.ins C dx fs) ∧ Cls X.K C ∧ NoAttr X.K C f ∧ fs.lookup f = some u ∧ Q u H1) (hb : attributeBase e f X.env (eval e X.env) = eval e X.env := by rfl) : JE X (.Attribute e f pos) σ H Q := je_of (pe_fld pej hb) h
/-- o.f = e -/
theorem js_fld {f : Str} {D : Ends} {value : Expr} {pos' : Pos} (h : JE X value σ H fun y H1 => JE X o σ H1 fun v H2 => ∃ a C dx fs, v = .ref a ∧ H2 a = some (.ins C dx fs) ∧ Cls X.K C ∧ NoAttr X.K C f ∧ fs.length < 1000 ∧ D.nx σ (upd H2 a (.ins C dx (putF f y fs))))
    (hs : swapsWith value (some (.Attribute o f pos')) pos.line X.env = pure false := by rfl) : JS X (.Assign [.Attribute o f pos'] value pos) D σ H := js_of (ps_fld pej pej hs) h
/-! ### promises of defs that reckon data from data -/
def spP {α : Type} (K : PySem.W.Frag) (args : α → List PyData) (res : α → PyData) (pre : α → Prop) : Sp := fun vs H Q _ => ∃ z : α, pre z ∧ DpAll K H vs (args z) ∧ ∀ v H', Same H H' → Dp K H' v (res z) → Q v H'
theorem spP_len {α : Type} {K : PySem.W.Frag} {args : α → List PyData} {res : α → PyData} {pre : α → Prop} {n : Nat} (h : ∀ z, (args z).length = n) : ∀ vs H Q E, spP K args res pre vs H Q E → vs.length = n := fun vs H Q E ⟨z, _, h2, _⟩ => h2.len.trans (h z)
theorem jd_call {α : Type} {args : α → List PyData} {res : α → PyData} {pre : α → Prop} (G : FnG X.prog X.w X.K X.mg X.base k x ps (spP X.K args res pre)) (hr : Room n X.A) (z : α) (hp : pre z) (ha : JDs X (e :: es) σ H (args z)) (hk : k ≤ n := by decide) (hg : Gl X x := by rfl) (hdb : (x == ("__debug__" : Str)) = false := by decide)
    (he : starEach (e :: es) X.env = (false, eval e X.env) :: starEach es X.env := by rfl) (hpl : (backTo pos (starEach es X.env)).any (·.1) = false := by rfl) : JD X (.Call (.Name x p) (e :: es) [] pos) σ H (res z) := fun H1 s Q q =>
  je_call (E := E0) G hr passL (ha H1 s _ fun vs H2 s2 hv => ⟨z, hp, hv, fun v H3 s3 hd => q v H3 (s2.trans s3) hd⟩) hk hg hdb he hpl
/-! ### built-ins -/
theorem je_blt {id : String} {r : List V → Hp → VK → Prop} (hc : CallR X (.builtin id) r) (hm : X.mg x = none) (hv : bootBuiltins x = some (.builtin id)) (ha : JA X (e :: es) σ H fun vs H1 => r vs H1 Q) (hg : Gl X x := by rfl) (he : starEach (e :: es) X.env = (false, eval e X.env) :: starEach es X.env := by rfl)
    (hpl : (backTo pos (starEach es X.env)).any (·.1) = false := by rfl) (hn : x ≠ "__name__" := by decide) (hd : (x == ("__debug__" : Str)) = false := by decide) : JE X (.Call (.Name x p) (e :: es) [] pos) σ H Q := je_of (pe_callB hc hg hm hv paj hn hd he hpl) ha
theorem je_ty {T : String} {r : List V → Hp → VK → Prop} (hc : CallR X (.type T) r) (hm : X.mg x = none) (hv : bootBuiltins x = some (.type T)) (ha : JA X (e :: es) σ H fun vs H1 => r vs H1 Q) (hg : Gl X x := by rfl) (he : starEach (e :: es) X.env = (false, eval e X.env) :: starEach es X.env := by rfl)
    (hpl : (backTo pos (starEach es X.env)).any (·.1) = false := by rfl) (hn : x ≠ "__name__" := by decide) (hd : (x == ("__debug__" : Str)) = false := by decide) : JE X (.Call (.Name x p) (e :: es) [] pos) σ H Q := je_of (pe_callTy hc hg hm hv paj hn hd he hpl) ha
end
end K28
-- KJ3
/-! KJ3: fresh lists, built-ins over data, comprehensions, loops. -/
namespace K28
open PySem PySem.Spec PyProof.Rows L2
/-! ### data of tuples alone -/
mutual
def lf : PyData → Bool
  | .list _ => false
  | .dict _ => false
  | .tuple ds => lfs ds
  | _ => true
def lfs : List PyData → Bool
  | [] => true
  | d :: ds => lf d && lfs ds
end
/-- the tuples stay -/
def TupS (H H' : Hp) : Prop := ∀ b xs, (H b = some (.tup xs) → H' b = some (.tup xs)) ∧ ∀ o, H b = some (.frz o (.tup xs)) → H' b = some (.frz o (.tup xs))
section
variable {K : PySem.W.Frag} {H H' H2 : Hp}
theorem tups_same (s : Same H H') : TupS H H' := fun b xs => ⟨s b _, fun o => s b _⟩
theorem TupS.trans (a : TupS H H') (b : TupS H' H2) : TupS H H2 := fun c xs => ⟨fun e => (b c xs).1 ((a c xs).1 e), fun o e => (b c xs).2 o ((a c xs).2 o e)⟩
theorem tups_upd {p : Addr} {o u : HO} (h : H p = some u) (hu : ∀ xs, u ≠ .tup xs) (hf : ∀ ob xs, u ≠ .frz ob (.tup xs)) : TupS H (upd H p o) := fun b xs =>
  ⟨fun e => by rw [upd_ne (ne_of e h fun q => hu xs q.symm)]; exact e, fun ob e => by rw [upd_ne (ne_of e h fun q => hf ob xs q.symm)]; exact e⟩
theorem tups_lst {p : Addr} {o : HO} {ys : List V} (h : H p = some (.lst ys)) : TupS H (upd H p o) := tups_upd h (fun _ q => nomatch q) fun _ _ q => nomatch q
theorem tups_sqt {a : Addr} {xs : List V} (e : TupS H H') (h : SqT K H a xs) : SqT K H' a xs := by
  rcases h with (h | ⟨o, h⟩) | h
  · exact .inl (.inl ((e _ _).1 h))
  · exact .inl (.inr ⟨o, (e _ _).2 o h⟩)
  · exact .inr h
mutual
theorem dp_tups (s : TupS H H') : ∀ (d : PyData) (v : V), lf d = true → Dp K H v d → Dp K H' v d
  | .none, _, _, h => by cases h; exact .non
  | .bool b, _, _, h => by cases h; exact .bl b
  | .int i, _, _, h => by cases h; exact .int i
  | .str x, _, _, h => by cases h; exact .str x
  | .list ds, _, q, h => by exact absurd q (by simp [lf])
  | .tuple ds, _, q, h => by cases h with | tup h1 h2 => exact .tup (tups_sqt s h1) (dpa_tups s ds _ (by simpa [lf] using q) h2)
  | .dict _, _, _, h => by cases h
theorem dpa_tups (s : TupS H H') : ∀ (ds : List PyData) (vs : List V), lfs ds = true → DpAll K H vs ds → DpAll K H' vs ds
  | [], _, _, h => by cases h; exact .nil
  | d :: ds, _, q, h => by
    simp only [lfs, Bool.and_eq_true] at q
    cases h with | cons h1 h2 => exact .cons (dp_tups s d _ q.1 h1) (dpa_tups s ds _ q.2 h2)
end
theorem lfs_app : ∀ {a b : List PyData}, lfs a = true → lfs b = true → lfs (a ++ b) = true
  | [], b, _, h => h
  | d :: a, b, h, q => by
    simp only [lfs, Bool.and_eq_true, List.cons_append] at h ⊢
    exact ⟨h.1, lfs_app h.2 q⟩
theorem lfs_map {α : Type} {f : α → PyData} : ∀ {l : List α}, (∀ x ∈ l, lf (f x) = true) → lfs (l.map f) = true
  | [], _ => rfl
  | x :: l, h => by
    simp only [List.map_cons, lfs, Bool.and_eq_true]
    exact ⟨h x List.mem_cons_self, lfs_map fun y hy => h y (List.mem_cons_of_mem _ hy)⟩
theorem lfs_ints (l : List Int) : lfs (l.map PyData.int) = true := lfs_map fun _ _ => rfl
end
/-! ### fresh lists -/
/-- e gives a new list of data ds; JR: a list that may be written -/
def JL (X : Cx) (e : Expr) (σ : L2.St) (H : Hp) (ds : List PyData) : Prop := ∀ H1, Same H H1 → ∀ Q : VK, (∀ a vs H2, Same H1 H2 → H1 a = none → H2 a = some (.lst vs) → DpAll X.K H2 vs ds → Q (.ref a) H2) → JE X e σ H1 Q
def JR (X : Cx) (e : Expr) (σ : L2.St) (H : Hp) (ds : List PyData) : Prop := ∀ H1, Same H H1 → ∀ Q : VK, (∀ a vs H2, Same H1 H2 → H2 a = some (.lst vs) → DpAll X.K H2 vs ds → Q (.ref a) H2) → JE X e σ H1 Q
section
variable {X : Cx} {e a b c f : Expr} {es : List Expr} {σ : L2.St} {H H' : Hp} {p pos : Pos} {d : PyData} {v : V} {ds ds2 : List PyData}
theorem SqL.len {K : PySem.W.Frag} {q : Addr} {xs : List V} (h : H q = some (.lst xs)) : SqL K H q xs := .inl (.inl h)
theorem je_len {q : Addr} {xs : List V} {Q : VK} (h : SqL X.K H q xs) (k : xs.length ≤ sizeLine → JE X e σ H Q) : JE X e σ H Q := fun pins s I => by
  obtain ⟨_, _, _, hz⟩ := I.list h
  exact k hz pins s I
theorem je_lenT {q : Addr} {xs : List V} {Q : VK} (h : SqT X.K H q xs) (k : xs.length ≤ sizeLine → JE X e σ H Q) : JE X e σ H Q := fun pins s I => by
  obtain ⟨_, _, _, hz⟩ := I.tuple h
  exact k hz pins s I
theorem jss_len {q : Addr} {xs : List V} {D : Ends} {sts : List Stmt} (h : SqL X.K H q xs) (k : xs.length ≤ sizeLine → JSs X sts D σ H) : JSs X sts D σ H := fun pins s I => by
  obtain ⟨_, _, _, hz⟩ := I.list h
  exact k hz pins s I
theorem jss_lenT {q : Addr} {xs : List V} {D : Ends} {sts : List Stmt} (h : SqT X.K H q xs) (k : xs.length ≤ sizeLine → JSs X sts D σ H) : JSs X sts D σ H := fun pins s I => by
  obtain ⟨_, _, _, hz⟩ := I.tuple h
  exact k hz pins s I
theorem JL.jr (h : JL X e σ H ds) : JR X e σ H ds := fun H1 s Q q => h H1 s Q fun a vs H2 s2 _ => q a vs H2 s2
theorem JR.jd (h : JR X e σ H ds) : JD X e σ H (.list ds) := fun H1 s Q q => h H1 s Q fun a vs H2 s2 h1 h2 => q _ H2 s2 (.lst (.inl (.inl h1)) h2)
theorem JL.jd (h : JL X e σ H ds) : JD X e σ H (.list ds) := h.jr.jd
theorem JL.on (h : JL X e σ H ds) (s : Same H H') : JL X e σ H' ds := fun H1 e1 => h H1 (s.trans e1)
theorem JR.on (h : JR X e σ H ds) (s : Same H H') : JR X e σ H' ds := fun H1 e1 => h H1 (s.trans e1)
theorem JL.je {Q : VK} (h : JL X e σ H ds) (q : ∀ a vs H2, Same H H2 → H a = none → H2 a = some (.lst vs) → DpAll X.K H2 vs ds → Q (.ref a) H2) : JE X e σ H Q := h H (Same.refl H) Q q
theorem jr_var (i : Nat) {x : Str} {q : Addr} {vs : List V} (hs : σ[i]? = some (some (.ref q))) (hq : H q = some (.lst vs)) (hp : DpAll X.K H vs ds) (hN : X.N[i]? = some x := by rfl) (hv : Vis X.env.scope x := by first | exact Or.inl rfl | exact Or.inr (Or.inl rfl) | exact Or.inr (Or.inr rfl)) (hd : (x == ("__debug__" : Str)) = false := by decide)
    (hcd : (x == ("__classdict__" : Str)) = false := by decide) : JR X (.Name x pos) σ H ds := fun H1 s Q k => jv_var i hs hN hv hd hcd H1 s Q fun H2 s2 => k q vs H2 s2 ((s.trans s2) _ _ hq) (hp.on (s.trans s2))
theorem jl_lst (h : JDs X es σ H ds) (hz : ds.length ≤ sizeLine) : JL X (.List es pos) σ H ds := fun H1 s Q q =>
  je_of (pe_lst paj) (h H1 s _ fun vs H2 s2 hv => ⟨by rw [hv.len]; exact hz, fun p hp => q _ vs _ (s2.trans (same_new hp)) (by cases e : H1 p with | none => rfl | some u => exact absurd (s2 _ _ e) (by rw [hp]; exact fun z => nomatch z)) upd_same (hv.on (same_new hp))⟩)
theorem same_none {p : Addr} (s : Same H H') (h : H' p = none) : H p = none := by
  cases e : H p with
  | none => rfl
  | some u => exact absurd (s _ _ e) (by rw [h]; exact fun z => nomatch z)
theorem jl_cat (ha : JR X a σ H ds) (hb : JR X b σ H ds2) (hz : ds.length + ds2.length ≤ sizeLine) : JL X (.BinOp a .Add b pos) σ H (ds ++ ds2) := fun H1 s Q q =>
  je_of (pe_op op_cat pej pej) (ha H1 s _ fun l xs H2 s2 h1 h2 => hb H2 (s.trans s2) _ fun m ys H3 s3 k1 k2 => ⟨l, m, xs, ys, rfl, rfl, s3 _ _ h1, k1, by rw [h2.len, k2.len]; exact hz, fun p hp =>
    q p _ _ ((s2.trans s3).trans (same_new hp)) (same_none (s2.trans s3) hp) upd_same (DpAll.app (h2.on (s3.trans (same_new hp))) (k2.on (same_new hp)))⟩)
/-! ### built-ins -/
theorem jl_list1 (hm : X.mg "list" = none) (ha : JD X e σ H (.list ds)) (hg : Gl X "list" := by rfl) (he : starEach [e] X.env = (false, eval e X.env) :: starEach [] X.env := by rfl) (hpl : (backTo pos (starEach [] X.env)).any (·.1) = false := by rfl) : JL X (.Call (.Name "list" p) [e] [] pos) σ H ds := fun H1 s Q q =>
  je_ty call_list_of hm boot_list (ja_of (pa_cons pej pa_nil he) (ha H1 s _ fun v H2 s2 hv => by
    cases hv with
    | lst h1 h2 => exact ⟨_, _, rfl, .inl h1, fun l hl => q l _ _ (s2.trans (same_new hl)) (same_none s2 hl) upd_same (h2.on (same_new hl))⟩)) hg he hpl
theorem jl_list1T (hm : X.mg "list" = none) (ha : JD X e σ H (.tuple ds)) (hg : Gl X "list" := by rfl) (he : starEach [e] X.env = (false, eval e X.env) :: starEach [] X.env := by rfl) (hpl : (backTo pos (starEach [] X.env)).any (·.1) = false := by rfl) : JL X (.Call (.Name "list" p) [e] [] pos) σ H ds := fun H1 s Q q =>
  je_ty call_list_of hm boot_list (ja_of (pa_cons pej pa_nil he) (ha H1 s _ fun v H2 s2 hv => by
    cases hv with
    | tup h1 h2 => exact ⟨_, _, rfl, .inr h1, fun l hl => q l _ _ (s2.trans (same_new hl)) (same_none s2 hl) upd_same (h2.on (same_new hl))⟩)) hg he hpl
theorem jd_tuple1 (hm : X.mg "tuple" = none) (ha : JD X e σ H (.list ds)) (hg : Gl X "tuple" := by rfl) (he : starEach [e] X.env = (false, eval e X.env) :: starEach [] X.env := by rfl) (hpl : (backTo pos (starEach [] X.env)).any (·.1) = false := by rfl) : JD X (.Call (.Name "tuple" p) [e] [] pos) σ H (.tuple ds) := fun H1 s Q q =>
  je_ty call_tuple_of hm boot_tuple (ja_of (pa_cons pej pa_nil he) (ha H1 s _ fun v H2 s2 hv => by
    cases hv with
    | lst h1 h2 => exact ⟨_, _, rfl, .inl ⟨h1, fun l hl => q _ _ (s2.trans (same_new hl)) (.tup (SqT.of upd_same) (h2.on (same_new hl)))⟩⟩)) hg he hpl
theorem jd_len (hm : X.mg "len" = none) (ha : JD X e σ H (.list ds)) (hg : Gl X "len" := by rfl) (he : starEach [e] X.env = (false, eval e X.env) :: starEach [] X.env := by rfl) (hpl : (backTo pos (starEach [] X.env)).any (·.1) = false := by rfl) : JD X (.Call (.Name "len" p) [e] [] pos) σ H (.int ds.length) := fun H1 s Q q =>
  je_blt call_len_seq hm boot_len (ja_of (pa_cons pej pa_nil he) (ha H1 s _ fun v H2 s2 hv => by
    cases hv with
    | lst h1 h2 => exact ⟨_, _, rfl, .inl h1, q _ _ s2 (by rw [h2.len]; exact .int _)⟩)) hg he hpl
theorem jd_lenT (hm : X.mg "len" = none) (ha : JD X e σ H (.tuple ds)) (hg : Gl X "len" := by rfl) (he : starEach [e] X.env = (false, eval e X.env) :: starEach [] X.env := by rfl) (hpl : (backTo pos (starEach [] X.env)).any (·.1) = false := by rfl) : JD X (.Call (.Name "len" p) [e] [] pos) σ H (.int ds.length) := fun H1 s Q q =>
  je_blt call_len_seq hm boot_len (ja_of (pa_cons pej pa_nil he) (ha H1 s _ fun v H2 s2 hv => by
    cases hv with
    | tup h1 h2 => exact ⟨_, _, rfl, .inr h1, q _ _ s2 (by rw [h2.len]; exact .int _)⟩)) hg he hpl
theorem jd_max {ns : List Int} {m : Int} (hc : X.calm = true) (hm : X.mg "max" = none) (ha : JD X e σ H (.list (ns.map PyData.int))) (h0 : 0 < ns.length) (hb : ∀ k, k ∈ ns → (∀ y ∈ ns, y ≤ k) → k = m) (hg : Gl X "max" := by rfl) (he : starEach [e] X.env = (false, eval e X.env) :: starEach [] X.env := by rfl)
    (hpl : (backTo pos (starEach [] X.env)).any (·.1) = false := by rfl) : JD X (.Call (.Name "max" p) [e] [] pos) σ H (.int m) := fun H1 s Q q =>
  je_blt (cr_max hc) hm rfl (ja_of (pa_cons pej pa_nil he) (ha H1 s _ fun v H2 s2 hv => by
    cases hv with
    | lst h1 h2 =>
      have e := h2.ints
      subst e
      exact ⟨_, ns, rfl, h1, h0, fun k k1 k2 => by rw [hb k k1 k2]; exact q _ _ s2 (.int _)⟩)) hg he hpl
theorem jd_min {ns : List Int} {m : Int} (hc : X.calm = true) (hm : X.mg "min" = none) (ha : JD X e σ H (.list (ns.map PyData.int))) (h0 : 0 < ns.length) (hb : ∀ k, k ∈ ns → (∀ y ∈ ns, k ≤ y) → k = m) (hg : Gl X "min" := by rfl) (he : starEach [e] X.env = (false, eval e X.env) :: starEach [] X.env := by rfl)
    (hpl : (backTo pos (starEach [] X.env)).any (·.1) = false := by rfl) : JD X (.Call (.Name "min" p) [e] [] pos) σ H (.int m) := fun H1 s Q q =>
  je_blt (cr_min hc) hm rfl (ja_of (pa_cons pej pa_nil he) (ha H1 s _ fun v H2 s2 hv => by
    cases hv with
    | lst h1 h2 =>
      have e := h2.ints
      subst e
      exact ⟨_, ns, rfl, h1, h0, fun k k1 k2 => by rw [hb k k1 k2]; exact q _ _ s2 (.int _)⟩)) hg he hpl
theorem jl_sorted {ns ms : List Int} (hm : X.mg "sorted" = none) (ha : JD X e σ H (.list (ns.map PyData.int))) (hb : ∀ k : List Int, k.Perm ns → k.Pairwise (· ≤ ·) → k = ms) (hg : Gl X "sorted" := by rfl) (he : starEach [e] X.env = (false, eval e X.env) :: starEach [] X.env := by rfl)
    (hpl : (backTo pos (starEach [] X.env)).any (·.1) = false := by rfl) : JL X (.Call (.Name "sorted" p) [e] [] pos) σ H (ms.map PyData.int) := fun H1 s Q q =>
  je_blt cr_sortedI hm rfl (ja_of (pa_cons pej pa_nil he) (ha H1 s _ fun v H2 s2 hv => by
    cases hv with
    | lst h1 h2 =>
      have e := h2.ints
      subst e
      exact ⟨_, ns, rfl, h1, fun k l k1 k2 hl => by rw [hb k k1 k2]; exact q l _ _ (s2.trans (same_new hl)) (same_none s2 hl) upd_same (DpAll.ofInts ms)⟩)) hg he hpl
end
/-! ### what is walked -/
def JI (X : Cx) (tg iter : Expr) (σ : L2.St) (H : Hp) (R : It → Hp → Prop) : Prop := ∀ (pins : List (Addr × Obj)) (s : Shared), Inv X pins σ H s →
  wpAny (model X.prog X.w) X.A (eval iter X.env) (fun v s1 => wpAny (model X.prog X.w) X.A (pyIter v) (PIE X pins σ tg R) X.xe s1) X.xe s
section
variable {X : Cx} {e a b c f tg iter elt : Expr} {es ifs : List Expr} {σ : L2.St} {H H' : Hp} {p pos tpos : Pos} {d : PyData} {v : V} {ds ds2 : List PyData}
theorem pij : PI X tg iter (JI X tg iter) := ⟨fun pins s _ _ _ I h => h pins s I⟩
theorem ji_of {wi : TI} {R : It → Hp → Prop} (h : PI X tg iter wi) (q : wi σ H R) : JI X tg iter σ H R := fun pins s I => h.run pins s σ H R I q
/-- turn i gives the i-th of ds -/
def YD (K : PySem.W.Frag) (ds : List PyData) : Nat → Hp → V → Hp → Prop := fun i Hc x H' => Same Hc H' ∧ ∃ d, ds[i]? = some d ∧ Dp K H' x d
def JDI (X : Cx) (tg iter : Expr) (σ : L2.St) (H : Hp) (ds : List PyData) : Prop := ∀ H1, Same H H1 → ∀ R : It → Hp → Prop, (∀ J H2, Same H1 H2 → Walk J ds.length (Same H2) (YD X.K ds) → R J H2) → JI X tg iter σ H1 R
theorem jdi_list (h : JD X iter σ H (.list ds)) : JDI X tg iter σ H ds := fun H1 s R q => ji_of (pi_list pej) (h H1 s _ fun v H2 s2 hv => by
  cases hv with
  | @lst a xs _ h1 h2 =>
    refine ⟨a, rfl, ⟨xs, h1⟩, q _ _ s2 ?_⟩
    rw [← h2.len]
    refine walk_list.mono (fun H3 s3 => s3.seq h1) fun i H3 x H4 hi s3 y => ?_
    obtain ⟨e1, e2⟩ := y
    subst e1
    obtain ⟨d, h3, h4⟩ := h2.at_ e2
    exact ⟨Same.refl _, d, h3, h4.on s3⟩)
theorem jdi_tup (h : JD X iter σ H (.tuple ds)) : JDI X tg iter σ H ds := fun H1 s R q => ji_of (pi_tup pej) (h H1 s _ fun v H2 s2 hv => by
  cases hv with
  | @tup a xs _ h1 h2 =>
    refine ⟨a, rfl, ⟨xs, h1⟩, q _ _ s2 ?_⟩
    rw [← h2.len]
    refine walk_tup.mono (fun H3 s3 => same_sqt s3 h1) fun i H3 x H4 hi s3 y => ?_
    obtain ⟨e1, e2⟩ := y
    subst e1
    obtain ⟨d, h3, h4⟩ := h2.at_ e2
    exact ⟨Same.refl _, d, h3, h4.on s3⟩)
theorem jdi_range {n : Nat} (hm : X.mg "range" = none) (h : JD X e σ H (.int n)) (hz : n < 2 ^ 62) (hg : Gl X "range" := by rfl) (he : starEach [e] X.env = [(false, eval e X.env)] := by rfl) : JDI X tg (.Call (.Name "range" p) [e] [] pos) σ H ((List.range n).map fun i => PyData.int (i : Nat)) := fun H1 s R q =>
  ji_of (pi_range1 hg hm (pa_cons pej pa_nil he) he) (h H1 s _ fun v H2 s2 hv => by
    cases hv
    refine ⟨(n : Int), rfl, by omega, by omega, q _ _ s2 ?_⟩
    rw [List.length_map, List.length_range]
    refine walk_range.mono (fun _ _ => trivial) fun i H3 x H4 hi s3 y => ?_
    obtain ⟨e1, e2⟩ := y
    subst e1 e2
    refine ⟨Same.refl _, .int i, ?_, ?_⟩
    · have : i < n := hi
      simp [this]
    · show Dp _ _ (V.int (0 + (i : Int))) _
      rw [Int.zero_add]
      exact .int _)
/-- the data of enumerate -/
def enumD : Nat → List PyData → List PyData
  | _, [] => []
  | k, d :: ds => .tuple [.int (k : Nat), d] :: enumD (k + 1) ds
theorem enumD_len : ∀ (k : Nat) (ds : List PyData), (enumD k ds).length = ds.length
  | _, [] => rfl
  | k, d :: ds => congrArg (· + 1) (enumD_len (k + 1) ds)
theorem enumD_at : ∀ (k : Nat) (ds : List PyData) (i : Nat) (d : PyData), ds[i]? = some d → (enumD k ds)[i]? = some (.tuple [.int ((k + i : Nat) : Int), d])
  | k, d :: ds, 0, _, h => by
    cases h
    rfl
  | k, _ :: ds, i + 1, d, h => by
    have q := enumD_at (k + 1) ds i d (by simpa using h)
    have e : k + 1 + i = k + (i + 1) := by omega
    rw [e] at q
    simpa [enumD] using q
theorem yd_pair {xs : List V} {ds : List PyData} {H2 : Hp} (h2 : DpAll X.K H2 xs ds) {i : Nat} {H3 H4 : Hp} {x : V} (s3 : Same H2 H3) (y : YPair (fun i => some (.int (i : Nat))) (fun i => xs[i]?) i H3 x H4) : YD X.K (enumD 0 ds) i H3 x H4 := by
  obtain ⟨T, u, w, e1, e2, e3, e4, e5⟩ := y
  subst e1 e3
  cases e4
  obtain ⟨d, h3, h4⟩ := h2.at_ e5
  refine ⟨same_new e2, _, enumD_at 0 ds i d h3, ?_⟩
  rw [Nat.zero_add]
  exact .tup (SqT.of upd_same) (.cons (.int _) (.cons (h4.on (s3.trans (same_new e2))) .nil))
theorem jdi_enumT {elts : List Expr} {kk : Nat} (hm : X.mg "enumerate" = none) (h : JD X e σ H (.tuple ds)) (hg : Gl X "enumerate" := by rfl) (he : starEach [e] X.env = [(false, eval e X.env)] := by rfl) : JDI X (.Tuple elts kk tpos) (.Call (.Name "enumerate" p) [e] [] pos) σ H (enumD 0 ds) := fun H1 s R q =>
  ji_of (pi_enumT hg hm (pa_cons pej pa_nil he) he) (h H1 s _ fun v H2 s2 hv => by
    cases hv with
    | @tup a xs _ h1 h2 =>
      refine ⟨a, xs, rfl, h1, q _ _ s2 ?_⟩
      rw [enumD_len, ← h2.len]
      exact walk_enumT.mono (fun H3 s3 => same_sqt s3 h1) fun i H3 x H4 hi s3 y => yd_pair h2 s3 y)
/-! ### comprehensions -/
abbrev BX (X : Cx) (scope : Scope) (s : Shared) (H : Hp) (C : Addr) (cl : List (Str × Addr)) (fp : List Addr) : Cx := X.blk s H scope (compEnvC scope cl C X.env) fp
def JTs (X : Cx) (ifs : List Expr) (σ : L2.St) (H : Hp) (Q : Bool → Hp → Prop) : Prop := ∀ (pins : List (Addr × Obj)) (s : Shared), Inv X pins σ H s →
  wpAny (model X.prog X.w) X.A (forIn ifs true fun c r => if r = true then do let ok ← isTrue c X.env (eval c X.env); pure (ForInStep.yield ok) else pure (ForInStep.yield r)) (TP X pins σ Q) X.xe s
/-- the tests of a comprehension -/
def JBs (X : Cx) (ifs : List Expr) (σ : L2.St) (H : Hp) (b : Bool) : Prop := ∀ H1, Same H H1 → ∀ Q : Bool → Hp → Prop, (∀ H2, Same H1 H2 → Q b H2) → JTs X ifs σ H1 Q
theorem jbs_nil : JBs X [] σ H true := fun H1 s Q q pins sh I => pts_nil.run pins sh σ H1 Q I (q H1 (Same.refl H1))
theorem jbs_one {b : Bool} (h : JB X c σ H b) : JBs X [c] σ H b := fun H1 s Q q pins sh I => (pts_one ptj).run pins sh σ H1 Q I (h H1 s Q q)
def tIfs (X : Cx) (scope : Scope) (ifs : List Expr) : TT := fun σ H Q => ∀ s H0 C cl fp, JTs (BX X scope s H0 C cl fp) ifs σ H Q
def tElt (X : Cx) (scope : Scope) (elt : Expr) : TE := fun σ H Q => ∀ s H0 C cl fp, JE (BX X scope s H0 C cl fp) elt σ H Q
theorem at_map {α : Type} {f : α → PyData} : ∀ {xs : List α} {i : Nat} {d : PyData}, (xs.map f)[i]? = some d → ∃ x, xs[i]? = some x ∧ d = f x := fun {xs i d} h => by
  rw [List.getElem?_map] at h
  cases e : xs[i]? with
  | none => rw [e] at h; cases h
  | some x => rw [e] at h; exact ⟨x, rfl, (Option.some.inj h).symm⟩
theorem filter_take {α β : Type} {p : α → Bool} {r : α → β} {xs : List α} {i : Nat} {x : α} (h : xs[i]? = some x) : ((xs.take (i + 1)).filter p).map r = ((xs.take i).filter p).map r ++ (if p x = true then [r x] else []) := by
  rw [List.take_add_one, h, List.filter_append, List.map_append]
  cases e : p x <;> simp [e]
/-- what a comprehension makes, as a reading -/
def JLC (X : Cx) (elt tg iter : Expr) (ifs : List Expr) (scope : Scope) (own : List (Str × Nat)) (σ : L2.St) (H : Hp) (ds : List PyData) : Prop :=
  ∃ g : TG, (∀ (s : Shared) (H : Hp) (C : Addr) (cl : List (Str × Addr)) (fp : List Addr), PG (BX X scope s H C cl fp) tg g) ∧ BlkOk X.N X.env.scope scope own ∧ (∀ x, foldedSetIterable iter X.env x = pure x) ∧
    ∀ H1, Same H H1 → ∀ Q : VK, (∀ a vs H2, Same H1 H2 → H1 a = none → H2 a = some (.lst vs) → DpAll X.K H2 vs ds → Q (.ref a) H2) → tLc (JI X tg iter) g (tIfs X scope ifs) (tElt X scope elt) (own.map (·.2)) σ H1 Q
theorem jl_of {scope : Scope} {own : List (Str × Nat)} (hc : X.calm = true) (hN : X.N.Nodup) (h : JLC X elt tg iter ifs scope own σ H ds) : JL X (.ListComp elt [⟨tg, iter, ifs, 0⟩] scope pos) σ H ds := fun H1 s1 Q q => by
  obtain ⟨g, hg, ok, hs, h⟩ := h
  exact je_of (pe_lc hc hN pij ok hg (fun s H C cl fp => ⟨fun pins sh σ H' Q I h => h s H C cl fp pins sh I⟩) (fun s H C cl fp => ⟨fun pins sh σ H' Q I h => h s H C cl fp pins sh I⟩) hs) (h H1 s1 Q q)
/-- name = [..] on one line -/
theorem jss_setC {st : List Stmt} {D : Ends} {spos : Pos} (i : Nat) {y : Str} {py : Pos} {scope : Scope} {own : List (Str × Nat)} (hc : X.calm = true) (hN : X.N.Nodup) (h : JLC X elt tg iter ifs scope own σ H ds) (k : ∀ q vs H1, Same H H1 → H q = none → H1 q = some (.lst vs) → DpAll X.K H1 vs ds → JSs X st D (σ.set i (some (.ref q))) H1)
    (hy : X.N[i]? = some y := by rfl) (hyl : X.env.scope.names.lookup y = some .local := by rfl) (hsw : swapsWith (.ListComp elt [⟨tg, iter, ifs, 0⟩] scope pos) (some (.Name y py)) spos.line X.env = pure true := by rfl) : JSs X (.Assign [.Name y py] (.ListComp elt [⟨tg, iter, ifs, 0⟩] scope pos) spos :: st) D σ H := by
  obtain ⟨g, hg, ok, hs, h⟩ := h
  exact jss_of (pss_cons psj pssj) (js_of (ps_setLc (tt := tIfs X scope ifs) (te := tElt X scope elt) hc hN hy hyl hsw pij ok hg (fun s H C cl fp => ⟨fun pins sh σ H' Q I h => h s H C cl fp pins sh I⟩) (fun s H C cl fp => ⟨fun pins sh σ H' Q I h => h s H C cl fp pins sh I⟩) hs) (h H (Same.refl H) (fun v H1 => JSs X st D (σ.set i (some v)) H1) k))
theorem jlc {α : Type} {xs : List α} {da r : α → PyData} {pr : α → Bool} {scope : Scope} {own : List (Str × Nat)} {g : TG} (hc : X.calm = true) (hN : X.N.Nodup) (ok : BlkOk X.N X.env.scope scope own) (hi : JDI X tg iter σ H (xs.map da))
    (hg : ∀ (s : Shared) (H : Hp) (C : Addr) (cl : List (Str × Addr)) (fp : List Addr), PG (BX X scope s H C cl fp) tg g) (hz : xs.length ≤ sizeLine)
    (turn : ∀ x ∈ xs, ∀ v H2, Same H H2 → Dp X.K H2 v (da x) → g v (wipe σ (own.map (·.2))) H2 fun σ2 H3 => wipe σ2 (own.map (·.2)) = wipe σ (own.map (·.2)) ∧ Same H2 H3 ∧ (∀ s H0 C cl fp, JBs (BX X scope s H0 C cl fp) ifs σ2 H3 (pr x)) ∧ (pr x = true → ∀ s H0 C cl fp, JD (BX X scope s H0 C cl fp) elt σ2 H3 (r x)))
    (hlf : ∀ x ∈ xs, pr x = true → lf (r x) = true) (mg : ∀ v σ H Q Q', g v σ H Q → (∀ σ H, Q σ H → Q' σ H) → g v σ H Q') (hs : ∀ x, foldedSetIterable iter X.env x = pure x := by intro _; rfl) : JLC X elt tg iter ifs scope own σ H ((xs.filter pr).map r) := ⟨g, hg, ok, hs, fun H1 s1 Q q =>
  (hi H1 s1 _ fun J H2 s2 w D hD => by
      have wl : (xs.map da).length = xs.length := List.length_map ..
      rw [wl] at w
      refine lc_it (g := g) (tt := tIfs X scope ifs) (te := tElt X scope elt) (vs := own.map (·.2)) (σ := σ) (Qd := fun H => Q (.ref D) H) w (fun i Hc => ∃ acc, Same H2 Hc ∧ Hc D = some (.lst acc) ∧ acc.length ≤ i ∧ DpAll X.K Hc acc (((xs.take i).filter pr).map r)) ⟨[], same_new hD, upd_same, Nat.le_refl _, by simpa using DpAll.nil⟩ (fun i Hc _ ⟨_, h, _⟩ => h) ?_ ?_
      · rintro i v Hc H' hi ⟨acc, sc, hDc, hl, ha⟩ ⟨sy, d, hd, hv⟩
        obtain ⟨x, hx, e⟩ := at_map hd
        subst e
        have hmem : x ∈ xs := List.mem_of_getElem? hx
        refine mg _ _ _ _ _ (turn x hmem v H' (s1.trans (s2.trans (sc.trans sy))) hv) ?_
        rintro σ2 H3 ⟨e1, s3, hb, he⟩
        refine ⟨e1, fun s H0 C cl fp => hb s H0 C cl fp H3 (Same.refl H3) _ fun H4 s4 => ?_⟩
        have sH4 : Same Hc H4 := sy.trans (s3.trans s4)
        cases ep : pr x with
        | false =>
          simp only [Bool.false_eq_true, if_false]
          exact ⟨acc, sc.trans sH4, sH4 _ _ hDc, by omega, by rw [filter_take hx, ep]; simpa using ha.on sH4⟩
        | true =>
          simp only [if_true]
          refine fun s' H0' C' cl' fp' => he ep s' H0' C' cl' fp' H4 s4 _ fun y H5 s5 hy => ⟨acc, s5 _ _ (sH4 _ _ hDc), by omega, acc ++ [y], ?_, upd_same, by simp; omega, ?_⟩
          · intro b o e
            have hb : b ≠ D := ne_of_none e hD
            rw [upd_ne hb]
            exact s5 _ _ (sH4 _ _ (sc _ _ e))
          · have hD5 := s5 _ _ (sH4 _ _ hDc)
            have tp : TupS H5 (upd H5 D (.lst (acc ++ [y]))) := tups_lst hD5
            rw [filter_take hx, ep]
            simp only [if_true]
            refine DpAll.app (dpa_tups tp _ _ ?_ (ha.on (sH4.trans s5))) (.cons (dp_tups tp _ _ (hlf x hmem ep) hy) .nil)
            exact lfs_map fun z hz => hlf z (List.mem_of_mem_take (List.mem_filter.mp hz).1) (List.mem_filter.mp hz).2
      · rintro Hc ⟨acc, sc, hDc, hl, ha⟩
        rw [List.take_of_length_le (Nat.le_refl _)] at ha
        exact q D acc Hc (s2.trans sc) (same_none s2 hD) hDc ha)⟩
theorem mg_name {i : Nat} : ∀ v σ H Q Q', gName i v σ H Q → (∀ σ H, Q σ H → Q' σ H) → gName i v σ H Q' := fun _ _ _ _ _ h k => k _ _ h
theorem mg_two {K : PySem.W.Frag} {n i j : Nat} : ∀ v σ H Q Q', gTup K n (gCons (gName i) (gCons (gName j) gNil)) v σ H Q → (∀ σ H, Q σ H → Q' σ H) → gTup K n (gCons (gName i) (gCons (gName j) gNil)) v σ H Q' := fun _ _ _ _ _ h k => by
  obtain ⟨a, xs, h1, h2, h3, v, r, h4, v2, r2, h5, h6, h7⟩ := h
  exact ⟨a, xs, h1, h2, h3, v, r, h4, v2, r2, h5, h6, k _ _ h7⟩
/-- [elt for x in .. if ..] -/
theorem jlc1 {α : Type} {xs : List α} {da r : α → PyData} {pr : α → Bool} {scope : Scope} {own : List (Str × Nat)} (i : Nat) {x : Str} {px : Pos} (hc : X.calm = true) (hN : X.N.Nodup) (ok : BlkOk X.N X.env.scope scope own) (hi : JDI X (.Name x px) iter σ H (xs.map da)) (hz : xs.length ≤ sizeLine) (hd : (xs.filter pr).map r = ds)
    (turn : ∀ x ∈ xs, ∀ v H2, Same H H2 → Dp X.K H2 v (da x) → ∀ s H0 C cl fp, JBs (BX X scope s H0 C cl fp) ifs ((wipe σ (own.map (·.2))).set i (some v)) H2 (pr x) ∧ (pr x = true → JD (BX X scope s H0 C cl fp) elt ((wipe σ (own.map (·.2))).set i (some v)) H2 (r x)))
    (hw : ∀ v, wipe ((wipe σ (own.map (·.2))).set i (some v)) (own.map (·.2)) = wipe σ (own.map (·.2)) := by intro v; rfl) (hlf : ∀ x ∈ xs, pr x = true → lf (r x) = true := by first | exact fun _ _ _ => rfl | assumption)
    (hx : X.N[i]? = some x := by rfl) (hl : ∀ (s : Shared) (H : Hp) (C : Addr) (cl : List (Str × Addr)) (fp : List Addr), Loc (BX X scope s H C cl fp).env.scope x := by intros; first | exact Or.inl rfl | exact Or.inr rfl)
    (hf : ∀ (s : Shared) (H : Hp) (C : Addr) (cl : List (Str × Addr)) (fp : List Addr), (BX X scope s H C cl fp).fn x = true ∨ (BX X scope s H C cl fp).env.scope.names.lookup x = some .local := by intros; first | exact .inl rfl | exact .inr rfl)
    (hs : ∀ x, foldedSetIterable iter X.env x = pure x := by intro _; rfl) : JLC X elt (.Name x px) iter ifs scope own σ H ds := hd ▸
  jlc (g := gName i) hc hN ok hi (fun s H C cl fp => pg_name hN hx (hl s H C cl fp) (hf s H C cl fp)) hz (fun y hy v H2 s2 hv => ⟨hw v, Same.refl _, fun s H0 C cl fp => (turn y hy v H2 s2 hv s H0 C cl fp).1, fun e s H0 C cl fp => (turn y hy v H2 s2 hv s H0 C cl fp).2 e⟩) hlf mg_name hs
theorem jl_lc1 {α : Type} {xs : List α} {da r : α → PyData} {pr : α → Bool} {scope : Scope} {own : List (Str × Nat)} (i : Nat) {x : Str} {px : Pos} (hc : X.calm = true) (hN : X.N.Nodup) (ok : BlkOk X.N X.env.scope scope own) (hi : JDI X (.Name x px) iter σ H (xs.map da)) (hz : xs.length ≤ sizeLine) (hd : (xs.filter pr).map r = ds)
    (turn : ∀ x ∈ xs, ∀ v H2, Same H H2 → Dp X.K H2 v (da x) → ∀ s H0 C cl fp, JBs (BX X scope s H0 C cl fp) ifs ((wipe σ (own.map (·.2))).set i (some v)) H2 (pr x) ∧ (pr x = true → JD (BX X scope s H0 C cl fp) elt ((wipe σ (own.map (·.2))).set i (some v)) H2 (r x)))
    (hw : ∀ v, wipe ((wipe σ (own.map (·.2))).set i (some v)) (own.map (·.2)) = wipe σ (own.map (·.2)) := by intro v; rfl) (hlf : ∀ x ∈ xs, pr x = true → lf (r x) = true := by first | exact fun _ _ _ => rfl | assumption)
    (hx : X.N[i]? = some x := by rfl) (hl : ∀ (s : Shared) (H : Hp) (C : Addr) (cl : List (Str × Addr)) (fp : List Addr), Loc (BX X scope s H C cl fp).env.scope x := by intros; first | exact Or.inl rfl | exact Or.inr rfl)
    (hf : ∀ (s : Shared) (H : Hp) (C : Addr) (cl : List (Str × Addr)) (fp : List Addr), (BX X scope s H C cl fp).fn x = true ∨ (BX X scope s H C cl fp).env.scope.names.lookup x = some .local := by intros; first | exact .inl rfl | exact .inr rfl)
    (hs : ∀ x, foldedSetIterable iter X.env x = pure x := by intro _; rfl) : JL X (.ListComp elt [⟨.Name x px, iter, ifs, 0⟩] scope pos) σ H ds := jl_of hc hN (jlc1 i hc hN ok hi hz hd turn hw hlf hx hl hf hs)
/-- [elt for x, y in .. if ..] -/
theorem jlc2 {α : Type} {xs : List α} {d1 d2 r : α → PyData} {pr : α → Bool} {scope : Scope} {own : List (Str × Nat)} (i j : Nat) {x y : Str} {px py pt : Pos} {kt : Nat} (hc : X.calm = true) (hN : X.N.Nodup) (ok : BlkOk X.N X.env.scope scope own)
    (hi : JDI X (.Tuple [.Name x px, .Name y py] kt pt) iter σ H (xs.map fun z => .tuple [d1 z, d2 z])) (hz : xs.length ≤ sizeLine) (hd : (xs.filter pr).map r = ds)
    (turn : ∀ x ∈ xs, ∀ u v H2, Same H H2 → Dp X.K H2 u (d1 x) → Dp X.K H2 v (d2 x) → ∀ s H0 C cl fp, JBs (BX X scope s H0 C cl fp) ifs (((wipe σ (own.map (·.2))).set i (some u)).set j (some v)) H2 (pr x) ∧ (pr x = true → JD (BX X scope s H0 C cl fp) elt (((wipe σ (own.map (·.2))).set i (some u)).set j (some v)) H2 (r x)))
    (hw : ∀ u v, wipe (((wipe σ (own.map (·.2))).set i (some u)).set j (some v)) (own.map (·.2)) = wipe σ (own.map (·.2)) := by intro u v; rfl) (hlf : ∀ x ∈ xs, pr x = true → lf (r x) = true := by first | exact fun _ _ _ => rfl | assumption)
    (hx : X.N[i]? = some x := by rfl) (hy : X.N[j]? = some y := by rfl) (hl : ∀ (s : Shared) (H : Hp) (C : Addr) (cl : List (Str × Addr)) (fp : List Addr), Loc (BX X scope s H C cl fp).env.scope x := by intros; first | exact Or.inl rfl | exact Or.inr rfl)
    (hl2 : ∀ (s : Shared) (H : Hp) (C : Addr) (cl : List (Str × Addr)) (fp : List Addr), Loc (BX X scope s H C cl fp).env.scope y := by intros; first | exact Or.inl rfl | exact Or.inr rfl)
    (hf : ∀ (s : Shared) (H : Hp) (C : Addr) (cl : List (Str × Addr)) (fp : List Addr), (BX X scope s H C cl fp).fn x = true ∨ (BX X scope s H C cl fp).env.scope.names.lookup x = some .local := by intros; first | exact .inl rfl | exact .inr rfl)
    (hf2 : ∀ (s : Shared) (H : Hp) (C : Addr) (cl : List (Str × Addr)) (fp : List Addr), (BX X scope s H C cl fp).fn y = true ∨ (BX X scope s H C cl fp).env.scope.names.lookup y = some .local := by intros; first | exact .inl rfl | exact .inr rfl)
    (hs : ∀ x, foldedSetIterable iter X.env x = pure x := by intro _; rfl) : JLC X elt (.Tuple [.Name x px, .Name y py] kt pt) iter ifs scope own σ H ds := hd ▸
  jlc (g := gTup X.K 2 (gCons (gName i) (gCons (gName j) gNil))) hc hN ok hi (fun s H C cl fp => pg_tup (X := BX X scope s H C cl fp) hc (pgs_cons (pg_name hN hx (hl s H C cl fp) (hf s H C cl fp)) (pgs_cons (pg_name hN hy (hl2 s H C cl fp) (hf2 s H C cl fp)) pgs_nil))) hz (fun z hz v H2 s2 hv => by
    cases hv with
    | tup h1 h2 =>
      cases h2 with
      | cons k1 h2 =>
        cases h2 with
        | cons k2 h2 =>
          cases h2
          exact ⟨_, _, rfl, h1, rfl, _, _, rfl, _, _, rfl, rfl, hw _ _, Same.refl _, fun s H0 C cl fp => (turn z hz _ _ H2 s2 k1 k2 s H0 C cl fp).1, fun e s H0 C cl fp => (turn z hz _ _ H2 s2 k1 k2 s H0 C cl fp).2 e⟩) hlf mg_two hs
theorem jl_lc2 {α : Type} {xs : List α} {d1 d2 r : α → PyData} {pr : α → Bool} {scope : Scope} {own : List (Str × Nat)} (i j : Nat) {x y : Str} {px py pt : Pos} {kt : Nat} (hc : X.calm = true) (hN : X.N.Nodup) (ok : BlkOk X.N X.env.scope scope own)
    (hi : JDI X (.Tuple [.Name x px, .Name y py] kt pt) iter σ H (xs.map fun z => .tuple [d1 z, d2 z])) (hz : xs.length ≤ sizeLine) (hd : (xs.filter pr).map r = ds)
    (turn : ∀ x ∈ xs, ∀ u v H2, Same H H2 → Dp X.K H2 u (d1 x) → Dp X.K H2 v (d2 x) → ∀ s H0 C cl fp, JBs (BX X scope s H0 C cl fp) ifs (((wipe σ (own.map (·.2))).set i (some u)).set j (some v)) H2 (pr x) ∧ (pr x = true → JD (BX X scope s H0 C cl fp) elt (((wipe σ (own.map (·.2))).set i (some u)).set j (some v)) H2 (r x)))
    (hw : ∀ u v, wipe (((wipe σ (own.map (·.2))).set i (some u)).set j (some v)) (own.map (·.2)) = wipe σ (own.map (·.2)) := by intro u v; rfl) (hlf : ∀ x ∈ xs, pr x = true → lf (r x) = true := by first | exact fun _ _ _ => rfl | assumption)
    (hx : X.N[i]? = some x := by rfl) (hy : X.N[j]? = some y := by rfl) (hl : ∀ (s : Shared) (H : Hp) (C : Addr) (cl : List (Str × Addr)) (fp : List Addr), Loc (BX X scope s H C cl fp).env.scope x := by intros; first | exact Or.inl rfl | exact Or.inr rfl)
    (hl2 : ∀ (s : Shared) (H : Hp) (C : Addr) (cl : List (Str × Addr)) (fp : List Addr), Loc (BX X scope s H C cl fp).env.scope y := by intros; first | exact Or.inl rfl | exact Or.inr rfl)
    (hf : ∀ (s : Shared) (H : Hp) (C : Addr) (cl : List (Str × Addr)) (fp : List Addr), (BX X scope s H C cl fp).fn x = true ∨ (BX X scope s H C cl fp).env.scope.names.lookup x = some .local := by intros; first | exact .inl rfl | exact .inr rfl)
    (hf2 : ∀ (s : Shared) (H : Hp) (C : Addr) (cl : List (Str × Addr)) (fp : List Addr), (BX X scope s H C cl fp).fn y = true ∨ (BX X scope s H C cl fp).env.scope.names.lookup y = some .local := by intros; first | exact .inl rfl | exact .inr rfl)
    (hs : ∀ x, foldedSetIterable iter X.env x = pure x := by intro _; rfl) : JL X (.ListComp elt [⟨.Tuple [.Name x px, .Name y py] kt pt, iter, ifs, 0⟩] scope pos) σ H ds := jl_of hc hN (jlc2 i j hc hN ok hi hz hd turn hw hlf hx hy hl hl2 hf hf2 hs)
end
end K28
-- KPlain
/-! KPlain: what the program reckons, in plain words. -/
namespace K28
open PySem PySem.Spec PyProof.Rows L2
/-! ### ints -/
def srt (l : List Int) : List Int := l.mergeSort fun a b => decide (a ≤ b)
theorem srt_perm (l : List Int) : (srt l).Perm l := List.mergeSort_perm ..
theorem srt_le (l : List Int) : (srt l).Pairwise (· ≤ ·) := by
  have h := List.pairwise_mergeSort (le := fun (a b : Int) => decide (a ≤ b)) (fun a b c h1 h2 => by simp only [decide_eq_true_eq] at *; omega) (fun a b => by simp only [Bool.or_eq_true, decide_eq_true_eq]; omega) l
  exact h.imp fun h => by simpa using h
theorem srt_only {k ns : List Int} (h : k.Perm ns) (p : k.Pairwise (· ≤ ·)) : k = srt ns :=
  List.Perm.eq_of_pairwise (le := fun a b => a ≤ b) (fun a b _ _ h1 h2 => Int.le_antisymm h1 h2) p (srt_le ns) (h.trans (srt_perm ns).symm)
theorem srt_len (l : List Int) : (srt l).length = l.length := (srt_perm l).length_eq
def minL : Int → List Int → Int
  | m, [] => m
  | m, x :: l => minL (if x < m then x else m) l
def maxL : Int → List Int → Int
  | m, [] => m
  | m, x :: l => maxL (if m < x then x else m) l
theorem minL_le : ∀ (l : List Int) (m : Int), minL m l ≤ m ∧ (∀ x ∈ l, minL m l ≤ x) ∧ (minL m l = m ∨ minL m l ∈ l)
  | [], m => ⟨Int.le_refl _, fun _ h => by simp at h, .inl rfl⟩
  | x :: l, m => by
    obtain ⟨h1, h2, h3⟩ := minL_le l (if x < m then x else m)
    have e1 : (if x < m then x else m) ≤ m := by split <;> omega
    have e2 : (if x < m then x else m) ≤ x := by split <;> omega
    unfold minL
    refine ⟨Int.le_trans h1 e1, fun y hy => ?_, ?_⟩
    · rcases List.mem_cons.mp hy with e | hy
      · subst e
        exact Int.le_trans h1 e2
      · exact h2 y hy
    · rcases h3 with e | h3
      · rw [e]
        split
        · exact .inr List.mem_cons_self
        · exact .inl rfl
      · exact .inr (List.mem_cons_of_mem _ h3)
theorem maxL_ge : ∀ (l : List Int) (m : Int), m ≤ maxL m l ∧ (∀ x ∈ l, x ≤ maxL m l) ∧ (maxL m l = m ∨ maxL m l ∈ l)
  | [], m => ⟨Int.le_refl _, fun _ h => by simp at h, .inl rfl⟩
  | x :: l, m => by
    obtain ⟨h1, h2, h3⟩ := maxL_ge l (if m < x then x else m)
    have e1 : m ≤ (if m < x then x else m) := by split <;> omega
    have e2 : x ≤ (if m < x then x else m) := by split <;> omega
    unfold maxL
    refine ⟨Int.le_trans e1 h1, fun y hy => ?_, ?_⟩
    · rcases List.mem_cons.mp hy with e | hy
      · subst e
        exact Int.le_trans e2 h1
      · exact h2 y hy
    · rcases h3 with e | h3
      · rw [e]
        split
        · exact .inr List.mem_cons_self
        · exact .inl rfl
      · exact .inr (List.mem_cons_of_mem _ h3)
theorem minL_only {m k : Int} {l : List Int} (h1 : k ∈ m :: l) (h2 : ∀ y ∈ m :: l, k ≤ y) : k = minL m l := by
  obtain ⟨a, b, c⟩ := minL_le l m
  refine Int.le_antisymm ?_ ?_
  · rcases c with c | c
    · rw [c]; exact h2 _ List.mem_cons_self
    · exact h2 _ (List.mem_cons_of_mem _ c)
  · rcases List.mem_cons.mp h1 with e | h1
    · rw [e]; exact a
    · exact b _ h1
theorem maxL_only {m k : Int} {l : List Int} (h1 : k ∈ m :: l) (h2 : ∀ y ∈ m :: l, y ≤ k) : k = maxL m l := by
  obtain ⟨a, b, c⟩ := maxL_ge l m
  refine Int.le_antisymm ?_ ?_
  · rcases List.mem_cons.mp h1 with e | h1
    · rw [e]; exact a
    · exact b _ h1
  · rcases c with c | c
    · rw [c]; exact h2 _ List.mem_cons_self
    · exact h2 _ (List.mem_cons_of_mem _ c)
/-! ### values: the write, the reads -/
abbrev Pr := Int × Int
abbrev Vl := Pr × List Pr
def pC (c : Pr) : PyData := .tuple [.int c.1, .int c.2]
def pCs (l : List Pr) : PyData := .tuple (l.map pC)
def pV (v : Vl) : PyData := .tuple [pC v.1, pCs v.2]
def pR (r : List Vl) : PyData := .tuple (r.map pV)
theorem lf_pC (c : Pr) : lf (pC c) = true := rfl
theorem lf_pCs (l : List Pr) : lf (pCs l) = true := by unfold pCs lf; exact lfs_map fun c _ => lf_pC c
theorem lf_pV (v : Vl) : lf (pV v) = true := by
  show lfs [pC v.1, pCs v.2] = true
  simp only [lfs, lf_pC, lf_pCs, Bool.and_self]
theorem lf_pR (r : List Vl) : lf (pR r) = true := by unfold pR lf; exact lfs_map fun v _ => lf_pV v
def nr (v : Vl) : Int := minL v.1.2 (v.2.map (·.2))
def fr (v : Vl) : Int := maxL v.1.1 (v.2.map (·.1))
def fwd (v : Vl) : Bool := decide (nr v < fr v)
def vd : Vl := ((0, 0), [])
def at_ (r : List Vl) (i : Nat) : Vl := r.getD i vd
def forced (r : List Vl) (i j : Nat) : Bool := !decide (i = j) && decide (nr (at_ r i) < fr (at_ r j))
def odd (r : List Vl) (i j : Nat) : Bool := forced r i j && forced r j i
def fwds (r : List Vl) : List Nat := (r.zipIdx.filter fun z => fwd z.1).map (·.2)
def bwds (r : List Vl) : List Nat := (r.zipIdx.filter fun z => !fwd z.1).map (·.2)
inductive Spot where
  | gap (t : Int)
  | zone (i : Nat)
def pSpot : Spot → PyData
  | .gap t => .tuple [.str "gap", .int t]
  | .zone i => .tuple [.str "zone", .int (i : Nat)]
def nI (i : Nat) : Int := (i : Int)
def pN (i : Nat) : PyData := .int (i : Nat)
def crowd (r : List Vl) : Spot → List Int
  | .gap t => ((fwds r).filter fun i => decide (nr (at_ r i) ≤ t) && decide (t < fr (at_ r i))).map nI
  | .zone i => srt ((i : Int) :: ((fwds r).filter fun j => odd r j i).map nI)
def addK (ks : List Int) (k : Int) : List Int := if k ∈ ks then ks else ks ++ [k]
def gaps (r : List Vl) : List Int := srt (((fwds r).map fun i => nr (at_ r i)).foldl addK [])
def spots (r : List Vl) : List Spot := (gaps r).map .gap ++ (bwds r).map .zone
def crowds (r : List Vl) : List (List Int) := (spots r).map (crowd r)
def pI (l : List Int) : PyData := .tuple (l.map PyData.int)
def most (r : List Vl) : Int := maxL 0 ((crowds r).map fun c => (c.length : Int))
def greatest (r : List Vl) : List (List Int) := ([] :: crowds r).filter fun c => decide ((c.length : Int) = most r)
theorem most_in (r : List Vl) : ∃ c ∈ [] :: crowds r, (c.length : Int) = most r := by
  obtain ⟨_, _, h⟩ := maxL_ge ((crowds r).map fun c => (c.length : Int)) 0
  rcases h with h | h
  · exact ⟨[], List.mem_cons_self, by rw [most, h]; rfl⟩
  · obtain ⟨c, h1, h2⟩ := List.mem_map.mp h
    exact ⟨c, List.mem_cons_of_mem _ h1, h2⟩
theorem greatest_ne (r : List Vl) : greatest r ≠ [] := by
  obtain ⟨c, h1, h2⟩ := most_in r
  intro e
  have : c ∈ greatest r := List.mem_filter.mpr ⟨h1, by simp [h2]⟩
  rw [e] at this
  simp at this
theorem greatest_len (r : List Vl) {c : List Int} (h : c ∈ greatest r) : (c.length : Int) = most r := by
  have := (List.mem_filter.mp h).2
  simpa using this
theorem fwds_lt {r : List Vl} {i : Nat} (h : i ∈ fwds r) : i < r.length := by
  obtain ⟨z, h1, h2⟩ := List.mem_map.mp h
  have h3 := (List.mem_filter.mp h1).1
  obtain ⟨v, j⟩ := z
  have h2 : j = i := h2
  subst h2
  have := List.mem_zipIdx h3
  simpa using this.2.1
theorem bwds_lt {r : List Vl} {i : Nat} (h : i ∈ bwds r) : i < r.length := by
  obtain ⟨z, h1, h2⟩ := List.mem_map.mp h
  have h3 := (List.mem_filter.mp h1).1
  obtain ⟨v, j⟩ := z
  have h2 : j = i := h2
  subst h2
  have := List.mem_zipIdx h3
  simpa using this.2.1
theorem at_get {r : List Vl} {i : Nat} (h : i < r.length) : (r.map pV)[i]? = some (pV (at_ r i)) := by
  simp [at_, List.getD, h]
theorem atI_nat {α : Type} {ds : List α} {i : Nat} {d : α} (h : ds[i]? = some d) : atI ds (i : Int) = some d := by
  have hl : i < ds.length := (List.getElem?_eq_some_iff.mp h).1
  unfold atI ixN
  rw [if_pos (by omega), if_pos (by omega)]
  simpa using h
theorem enum_zip (r : List Vl) : ∀ k, enumD k (r.map pV) = (r.zipIdx k).map fun z => .tuple [pN z.2, pV z.1] := by
  induction r with
  | nil => intro k; rfl
  | cons v r ih => intro k; simp only [List.map_cons, enumD, List.zipIdx_cons, ih (k + 1)]; rfl
end K28
-- KJ4
/-! KJ4: assignments, dict comprehensions, tuples. -/
namespace K28
open PySem PySem.Spec PyProof.Rows L2
section
variable {X : Cx} {e a b c o i₀ iter kx vx : Expr} {es ifs : List Expr} {st : Stmt} {sts : List Stmt} {σ : L2.St} {H H' : Hp} {D : Ends} {p pos : Pos} {d : PyData} {v : V} {ds ds2 : List PyData}
theorem JD.sv {x : Str} (h : JD X e σ H (.str x)) : JV X e σ H (.str x) := fun H1 s Q q => h H1 s Q fun v H2 s2 hv => by
  cases hv
  exact q H2 s2
theorem jss_set (i : Nat) {x : Str} {pos' : Pos} (hN : X.N.Nodup) (h : JD X e σ H d) (k : ∀ v H1, Same H H1 → Dp X.K H1 v d → JSs X sts D (σ.set i (some v)) H1) (hi : X.N[i]? = some x := by rfl) (hx : Loc X.env.scope x := by first | exact Or.inl rfl | exact Or.inr rfl) (hs : swapsWith e (some (.Name x pos')) pos.line X.env = pure false := by rfl)
    (hf : X.fn x = true ∨ X.env.scope.names.lookup x = some .local := by first | exact .inl rfl | exact .inr rfl) : JSs X (.Assign [.Name x pos'] e pos :: sts) D σ H := jss_cons (js_set hN (h.je k) hi hx hs hf)
theorem jss_setE (i : Nat) {x : Str} {pos' : Pos} (hN : X.N.Nodup) (h : JE X e σ H fun v H1 => JSs X sts D (σ.set i (some v)) H1) (hi : X.N[i]? = some x := by rfl) (hx : Loc X.env.scope x := by first | exact Or.inl rfl | exact Or.inr rfl) (hs : swapsWith e (some (.Name x pos')) pos.line X.env = pure false := by rfl)
    (hf : X.fn x = true ∨ X.env.scope.names.lookup x = some .local := by first | exact .inl rfl | exact .inr rfl) : JSs X (.Assign [.Name x pos'] e pos :: sts) D σ H := jss_cons (js_set hN h hi hx hs hf)
theorem jss_setL (i : Nat) {x : Str} {pos' : Pos} (hN : X.N.Nodup) (h : JL X e σ H ds) (k : ∀ q vs H1, Same H H1 → H q = none → H1 q = some (.lst vs) → DpAll X.K H1 vs ds → JSs X sts D (σ.set i (some (.ref q))) H1) (hi : X.N[i]? = some x := by rfl) (hx : Loc X.env.scope x := by first | exact Or.inl rfl | exact Or.inr rfl) (hs : swapsWith e (some (.Name x pos')) pos.line X.env = pure false := by rfl)
    (hf : X.fn x = true ∨ X.env.scope.names.lookup x = some .local := by first | exact .inl rfl | exact .inr rfl) : JSs X (.Assign [.Name x pos'] e pos :: sts) D σ H := jss_cons (js_set hN (h.je k) hi hx hs hf)
/-- x, y = e -/
theorem jss_set2 (i j : Nat) {x y : Str} {px py pt : Pos} {kt : Nat} (hc : X.calm = true) (hN : X.N.Nodup) (h : JE X e σ H fun v H1 => ∃ q u w, v = .ref q ∧ SqT X.K H1 q [u, w] ∧ JSs X sts D ((σ.set i (some u)).set j (some w)) H1) (hi : X.N[i]? = some x := by rfl) (hj : X.N[j]? = some y := by rfl)
    (hx : Loc X.env.scope x := by first | exact Or.inl rfl | exact Or.inr rfl) (hy : Loc X.env.scope y := by first | exact Or.inl rfl | exact Or.inr rfl) (hf : X.fn x = true ∨ X.env.scope.names.lookup x = some .local := by first | exact .inl rfl | exact .inr rfl) (hf2 : X.fn y = true ∨ X.env.scope.names.lookup y = some .local := by first | exact .inl rfl | exact .inr rfl)
    (hs : swapsWithSole [.Tuple [.Name x px, .Name y py] kt pt] e pos.line X.env = pure false := by rfl) (hw : swappedStores [.Tuple [.Name x px, .Name y py] kt pt] e X.env = pure none := by rfl) : JSs X (.Assign [.Tuple [.Name x px, .Name y py] kt pt] e pos :: sts) D σ H :=
  jss_cons (js_of (ps_asg pej (pg_tup hc (pgs_cons (pg_name hN hi hx hf) (pgs_cons (pg_name hN hj hy hf2) pgs_nil))) hs hw) (JE.mono h fun v H1 ⟨q, u, w, h1, h2, h3⟩ => ⟨q, [u, w], h1, h2, rfl, _, _, rfl, _, _, rfl, rfl, h3⟩))
theorem jss_set2D (i j : Nat) {x y : Str} {px py pt : Pos} {kt : Nat} {d1 d2 : PyData} (hc : X.calm = true) (hN : X.N.Nodup) (h : JD X e σ H (.tuple [d1, d2])) (k : ∀ u w H1, Same H H1 → Dp X.K H1 u d1 → Dp X.K H1 w d2 → JSs X sts D ((σ.set i (some u)).set j (some w)) H1) (hi : X.N[i]? = some x := by rfl) (hj : X.N[j]? = some y := by rfl)
    (hx : Loc X.env.scope x := by first | exact Or.inl rfl | exact Or.inr rfl) (hy : Loc X.env.scope y := by first | exact Or.inl rfl | exact Or.inr rfl) (hf : X.fn x = true ∨ X.env.scope.names.lookup x = some .local := by first | exact .inl rfl | exact .inr rfl) (hf2 : X.fn y = true ∨ X.env.scope.names.lookup y = some .local := by first | exact .inl rfl | exact .inr rfl)
    (hs : swapsWithSole [.Tuple [.Name x px, .Name y py] kt pt] e pos.line X.env = pure false := by rfl) (hw : swappedStores [.Tuple [.Name x px, .Name y py] kt pt] e X.env = pure none := by rfl) : JSs X (.Assign [.Tuple [.Name x px, .Name y py] kt pt] e pos :: sts) D σ H :=
  jss_set2 i j hc hN (h.je fun v H1 s hv => by
    cases hv with
    | tup h1 h2 =>
      cases h2 with
      | cons k1 h2 =>
        cases h2 with
        | cons k2 h2 =>
          cases h2
          exact ⟨_, _, _, rfl, h1, k _ _ H1 s k1 k2⟩) hi hj hx hy hf hf2 hs hw
/-- x, y, z = e -/
theorem jss_set3 (i j l : Nat) {x y z : Str} {px py pz pt : Pos} {kt : Nat} (hc : X.calm = true) (hN : X.N.Nodup) (h : JE X e σ H fun v H1 => ∃ q u w t, v = .ref q ∧ SqT X.K H1 q [u, w, t] ∧ JSs X sts D (((σ.set i (some u)).set j (some w)).set l (some t)) H1) (hi : X.N[i]? = some x := by rfl) (hj : X.N[j]? = some y := by rfl) (hl : X.N[l]? = some z := by rfl)
    (hx : Loc X.env.scope x := by first | exact Or.inl rfl | exact Or.inr rfl) (hy : Loc X.env.scope y := by first | exact Or.inl rfl | exact Or.inr rfl) (hz : Loc X.env.scope z := by first | exact Or.inl rfl | exact Or.inr rfl) (hf : X.fn x = true ∨ X.env.scope.names.lookup x = some .local := by first | exact .inl rfl | exact .inr rfl) (hf2 : X.fn y = true ∨ X.env.scope.names.lookup y = some .local := by first | exact .inl rfl | exact .inr rfl)
    (hf3 : X.fn z = true ∨ X.env.scope.names.lookup z = some .local := by first | exact .inl rfl | exact .inr rfl)
    (hs : swapsWithSole [.Tuple [.Name x px, .Name y py, .Name z pz] kt pt] e pos.line X.env = pure false := by rfl) (hw : swappedStores [.Tuple [.Name x px, .Name y py, .Name z pz] kt pt] e X.env = pure none := by rfl) : JSs X (.Assign [.Tuple [.Name x px, .Name y py, .Name z pz] kt pt] e pos :: sts) D σ H :=
  jss_cons (js_of (ps_asg pej (pg_tup hc (pgs_cons (pg_name hN hi hx hf) (pgs_cons (pg_name hN hj hy hf2) (pgs_cons (pg_name hN hl hz hf3) pgs_nil)))) hs hw) (JE.mono h fun v H1 ⟨q, u, w, t, h1, h2, h3⟩ => ⟨q, [u, w, t], h1, h2, rfl, _, _, rfl, _, _, rfl, _, _, rfl, rfl, h3⟩))
/-- a, b = x, y : two names, each value in turn -/
theorem jss_par (i j : Nat) {x y : Str} {px py pt pt2 : Pos} {kt k2 : Nat} (hc : X.calm = true) (hN : X.N.Nodup) (h : JE X a σ H fun v H1 => JE X b σ H1 fun w H2 => JSs X sts D ((σ.set i (some v)).set j (some w)) H2) (hi : X.N[i]? = some x := by rfl) (hj : X.N[j]? = some y := by rfl) (hij : i ≠ j := by decide)
    (hx : X.env.scope.names.lookup x = some .local := by rfl) (hy : X.env.scope.names.lookup y = some .local := by rfl)
    (hw : swappedStores [.Tuple [.Name x px, .Name y py] kt pt] (.Tuple [a, b] k2 pt2) X.env = pure (some [x, y]) := by rfl) (hs : swapsWithSole [.Tuple [.Name x px, .Name y py] kt pt] (.Tuple [a, b] k2 pt2) pos.line X.env = pure false := by rfl)
    (e1 : starEach [a, b] X.env = (false, eval a X.env) :: starEach [b] X.env := by rfl) (e2 : starEach [b] X.env = (false, eval b X.env) :: starEach [] X.env := by rfl) :
    JSs X (.Assign [.Tuple [.Name x px, .Name y py] kt pt] (.Tuple [a, b] k2 pt2) pos :: sts) D σ H :=
  jss_cons (js_of (ps_par hc hN hi hj hij hx hy (pa_cons pej (pa_cons pej pa_nil e2) e1) hw hs) (JE.mono h fun v H1 q => JE.mono q fun w H2 z => ⟨v, w, rfl, z⟩))
/-! ### {k: True for x in ..} -/
theorem any_key (kvs : List (Key × V)) (k : Key) : (kvs.any fun kv => decide (kv.1 = k)) = true ↔ k ∈ kvs.map (·.1) := by
  rw [List.any_eq_true]
  constructor
  · rintro ⟨q, h1, h2⟩
    have h2 : q.1 = k := of_decide_eq_true h2
    rw [← h2]
    exact List.mem_map_of_mem h1
  · intro h
    obtain ⟨q, h1, h2⟩ := List.mem_map.mp h
    exact ⟨q, h1, decide_eq_true h2⟩
theorem keys_putK_in {kvs : List (Key × V)} {k : Key} (v : V) (h : k ∈ kvs.map (·.1)) : (putK kvs k v).map (·.1) = kvs.map (·.1) := by
  unfold putK
  rw [if_pos ((any_key kvs k).mpr h), List.map_map]
  refine List.map_congr_left fun q _ => ?_
  show (if q.1 = k then (q.1, v) else q).1 = q.1
  split <;> rfl
theorem keys_putK_out {kvs : List (Key × V)} {k : Key} (v : V) (h : k ∉ kvs.map (·.1)) : (putK kvs k v).map (·.1) = kvs.map (·.1) ++ [k] := by
  unfold putK
  rw [if_neg fun z => h ((any_key kvs k).mp z), List.map_append]
  rfl
theorem keys_add {kvs : List (Key × V)} {ks : List Int} {v : V} (k : Int) (h : kvs.map (·.1) = ks.map Sum.inl) : (putK kvs (Sum.inl k) v).map (·.1) = (addK ks k).map Sum.inl := by
  unfold addK
  by_cases q : k ∈ ks
  · rw [if_pos q, keys_putK_in v (by rw [h]; exact List.mem_map_of_mem q), h]
  · rw [if_neg q, keys_putK_out v (by
      rw [h]
      intro z
      obtain ⟨a, h1, h2⟩ := List.mem_map.mp z
      cases h2
      exact q h1), h, List.map_append]
    rfl
theorem addK_len (ks : List Int) (k : Int) : (addK ks k).length ≤ ks.length + 1 := by
  unfold addK
  split
  · omega
  · simp
theorem foldK_len : ∀ (l ks : List Int), (l.foldl addK ks).length ≤ ks.length + l.length
  | [], _ => Nat.le_refl _
  | k :: l, ks => by
    have := foldK_len l (addK ks k)
    have := addK_len ks k
    simp only [List.foldl_cons, List.length_cons]
    omega
def tKey (X : Cx) (scope : Scope) (elt : Expr) : TE := fun σ H Q => ∀ s H0 C cl fp, JE (BX X scope s H0 C cl fp) elt σ H Q
theorem je_dc1 {α : Type} {xs : List α} {da : α → PyData} {kf : α → Int} {z : V} {scope : Scope} {own : List (Str × Nat)} (i : Nat) {x : Str} {px : Pos} {Q : VK} (hc : X.calm = true) (hN : X.N.Nodup) (ok : BlkOk X.N X.env.scope scope own) (hi : JDI X (.Name x px) iter σ H (xs.map da)) (hz : xs.length ≤ sizeLine)
    (turn : ∀ x ∈ xs, ∀ v H2, Same H H2 → Dp X.K H2 v (da x) → ∀ s H0 C cl fp, JV (BX X scope s H0 C cl fp) kx ((wipe σ (own.map (·.2))).set i (some v)) H2 (.int (kf x)) ∧ JV (BX X scope s H0 C cl fp) vx ((wipe σ (own.map (·.2))).set i (some v)) H2 z)
    (q : ∀ a kvs H2, Same H H2 → H a = none → H2 a = some (.dK kvs) → kvs.map (·.1) = ((xs.map kf).foldl addK []).map Sum.inl → Q (.ref a) H2)
    (hw : ∀ v, wipe ((wipe σ (own.map (·.2))).set i (some v)) (own.map (·.2)) = wipe σ (own.map (·.2)) := by intro v; rfl)
    (hx : X.N[i]? = some x := by rfl) (hl : ∀ (s : Shared) (H : Hp) (C : Addr) (cl : List (Str × Addr)) (fp : List Addr), Loc (BX X scope s H C cl fp).env.scope x := by intros; first | exact Or.inl rfl | exact Or.inr rfl)
    (hf : ∀ (s : Shared) (H : Hp) (C : Addr) (cl : List (Str × Addr)) (fp : List Addr), (BX X scope s H C cl fp).fn x = true ∨ (BX X scope s H C cl fp).env.scope.names.lookup x = some .local := by intros; first | exact .inl rfl | exact .inr rfl)
    (hs : ∀ x, foldedSetIterable iter X.env x = pure x := by intro _; rfl) : JE X (.DictComp kx vx [⟨.Name x px, iter, [], 0⟩] scope pos) σ H Q :=
  je_of (pe_dc (g := gName i) (tt := tIfs X scope []) (tk := tKey X scope kx) (tv := tKey X scope vx) hc hN pij ok (fun s H C cl fp => pg_name hN hx (hl s H C cl fp) (hf s H C cl fp))
    (fun s H C cl fp => ⟨fun pins sh σ H' Q I h => h s H C cl fp pins sh I⟩) (fun s H C cl fp => ⟨fun pins sh σ H' Q I h => h s H C cl fp pins sh I⟩) (fun s H C cl fp => ⟨fun pins sh σ H' Q I h => h s H C cl fp pins sh I⟩) hs) (hi H (Same.refl H) _ fun J H2 s2 w D hD => by
      have wl : (xs.map da).length = xs.length := List.length_map ..
      rw [wl] at w
      refine ⟨fun i m Hc => m = xs.length - i ∧ i ≤ xs.length ∧ ∃ kvs, Same H2 Hc ∧ Hc D = some (.dK kvs) ∧ kvs.length ≤ i ∧ kvs.map (·.1) = (((xs.take i).map kf).foldl addK []).map Sum.inl, ⟨xs.length, by simp, Nat.zero_le _, [], same_new hD, upd_same, Nat.le_refl _, rfl⟩, ?_⟩
      rintro j m Hc ⟨rfl, hj, kvs, sc, hDc, hl2, hk⟩
      by_cases hlt : j < xs.length
      · refine .inr ⟨w.goes j Hc hlt sc, fun Hc => j + 1 ≤ xs.length ∧ ∃ kvs, Same H2 Hc ∧ Hc D = some (.dK kvs) ∧ kvs.length ≤ j + 1 ∧ kvs.map (·.1) = (((xs.take (j + 1)).map kf).foldl addK []).map Sum.inl, fun H' p' => ⟨xs.length - (j + 1), by omega, rfl, p'⟩, fun v H' y => ?_⟩
        obtain ⟨sy, d, hd, hv⟩ := w.yields j Hc v H' hlt sc y
        obtain ⟨x, hx, e⟩ := at_map hd
        subst e
        have hmem : x ∈ xs := List.mem_of_getElem? hx
        have tn := turn x hmem v H' (s2.trans (sc.trans sy)) hv
        refine ⟨hw v, fun s H0 C cl fp => jbs_nil H' (Same.refl H') _ fun H4 s4 => ?_⟩
        simp only [if_true]
        have sH4 : Same Hc H4 := sy.trans s4
        refine fun s' H0' C' cl' fp' => (tn s' H0' C' cl' fp').1 H4 s4 _ fun H5 s5 => fun s'' H0'' C'' cl'' fp'' => (tn s'' H0'' C'' cl'' fp'').2 H5 (s4.trans s5) _ fun H6 s6 => ?_
        have hD6 : H6 D = some (.dK kvs) := (sH4.trans (s5.trans s6)) _ _ hDc
        refine ⟨kvs, Sum.inl (kf x), rfl, hD6, by omega, hlt, putK kvs (Sum.inl (kf x)) z, ?_, upd_same, ?_, ?_⟩
        · intro b o e
          have hb : b ≠ D := ne_of_none e hD
          rw [upd_ne hb]
          exact (sH4.trans (s5.trans s6)) _ _ (sc _ _ e)
        · have := length_putK kvs (Sum.inl (kf x)) z
          omega
        · rw [keys_add _ hk, List.take_add_one, hx]
          simp
      · have e : j = xs.length := by omega
        subst e
        rw [List.take_of_length_le (Nat.le_refl _)] at hk
        exact .inl ⟨w.stops Hc sc, q D kvs Hc (s2.trans sc) (same_none s2 hD) hDc hk⟩)
end
end K28
-- KMo
/-! KMo: what the module holds. Printed by gen_mo.py. -/
namespace K28
open PySem PySem.Spec PyProof.Rows L2
/-- a def of the module's top -/
structure Top (K : PySem.W.Frag) (mg : Str → Option Value) (x : Str) (st : Stmt) : Prop where
  df : ∃ fd, FunD K x x (defArgs st) (defBody st) (defScope st) [] [] (He.ga K x) fd
  gl : mg x = some (.ref (He.ga K x))
/-- a method -/
structure Mtd (K : PySem.W.Frag) (C m qual : Str) (st : Stmt) (dvs : List V) : Prop where
  df : ∃ fd, FunD K m qual (defArgs st) (defBody st) (defScope st) dvs [] (He.ma K (He.ga K C) m) fd
section
variable {P : Program} {w : World} {K : PySem.W.Frag} {mg : Str → Option Value} {base : Heap}
theorem fng {x : Str} {st : Stmt} {N ps : List Str} {k : Nat} {sp : Sp} (T : Top K mg x st) (S : FnScope N ps (defScope st)) (len : ∀ vs H Q E, sp vs H Q E → vs.length = ps.length)
    (hb : ∀ (f : Addr) (cdv : Value) (A : Around) (outer : List Env) (s : Shared) (H : Hp) (vs : List V) (Q : VK) (E : XK), Room k (A.deeper (envOfC x (defScope st) s.heap.objs.size f cdv)) → sp vs H Q E →
      JSs (cxOf (L2.CX P w) P w K mg base N x (defScope st) f cdv A outer s H E) (defBody st) { nx := fun _ H' => Q .non H', rt := Q } (start N vs) H)
    (bi : ∀ (kV doc pm : Value) (an : Option Addr) (cdv ct : Value) (us : List Value), us.length = ps.length → bindArgs (PySem.W.fnOf x x (defArgs st) (defBody st) (defScope st) .none kV doc pm an cdv ct) ⟨us, []⟩ = pure (ps.zip us)) : FnG P w K mg base (k + 1) x ps sp := by
  obtain ⟨⟨fd, F⟩, gl⟩ := T
  exact ⟨⟨fd, fnj F S len fun cdv A outer s H vs Q E hr h => hb _ cdv A outer s H vs Q E hr h, F.bindsN bi⟩, F.kp, gl⟩
theorem mtg {C m qual : Str} {st : Stmt} {N ps : List Str} {k : Nat} {sp : Sp} (T : Mtd K C m qual st []) (cl : Cls K (He.ga K C)) (mt : Meth K (He.ga K C) m (He.ma K (He.ga K C) m)) (S : FnScope N ps (defScope st)) (len : ∀ vs H Q E, sp vs H Q E → vs.length = ps.length)
    (hb : ∀ (f : Addr) (cdv : Value) (A : Around) (outer : List Env) (s : Shared) (H : Hp) (vs : List V) (Q : VK) (E : XK), Room k (A.deeper (envOfC qual (defScope st) s.heap.objs.size f cdv)) → sp vs H Q E →
      JSs (cxOf (L2.CX P w) P w K mg base N qual (defScope st) f cdv A outer s H E) (defBody st) { nx := fun _ H' => Q .non H', rt := Q } (start N vs) H)
    (bi : ∀ (kV doc pm : Value) (an : Option Addr) (cdv ct : Value) (us : List Value), us.length = ps.length → bindArgs (PySem.W.fnOf m qual (defArgs st) (defBody st) (defScope st) .none kV doc pm an cdv ct) ⟨us, []⟩ = pure (ps.zip us)) : MtG P w K mg base (k + 1) C m ps sp := by
  obtain ⟨fd, F⟩ := T.df
  exact ⟨⟨fd, fnj F S len fun cdv A outer s H vs Q E hr h => hb _ cdv A outer s H vs Q E hr h, F.bindsN bi⟩, cl, mt⟩
end
structure Mo (K : PySem.W.Frag) (mg : Str → Option Value) : Prop where
  d_is_integer : Top K mg "is_integer" s_is_integer
  d_is_between : Top K mg "is_between" s_is_between
  d_calls_of : Top K mg "calls_of" s_calls_of
  d_near_of : Top K mg "near_of" s_near_of
  d_far_of : Top K mg "far_of" s_far_of
  d_is_forced_in : Top K mg "is_forced_in" s_is_forced_in
  d_are_odd_in : Top K mg "are_odd_in" s_are_odd_in
  d_is_forward : Top K mg "is_forward" s_is_forward
  d_forwards_in : Top K mg "forwards_in" s_forwards_in
  d_backwards_in : Top K mg "backwards_in" s_backwards_in
  d_crowd_in : Top K mg "crowd_in" s_crowd_in
  d_all_spots : Top K mg "all_spots" s_all_spots
  d_crowds_in : Top K mg "crowds_in" s_crowds_in
  d_greatest_in : Top K mg "greatest_in" s_greatest_in
  d_many_in : Top K mg "many_in" s_many_in
  d_need_cells : Top K mg "need_cells" s_need_cells
  d_is_name : Top K mg "is_name" s_is_name
  m_Stand_init : Mtd K "Stand" "__init__" "Stand.__init__" s_Stand_init []
  m_Stand_with_busy : Mtd K "Stand" "with_busy" "Stand.with_busy" s_Stand_with_busy []
  t_Stand_with_busy : Meth K (He.ga K "Stand") "with_busy" (He.ma K (He.ga K "Stand") "with_busy")
  m_Stand_begun : Mtd K "Stand" "begun" "Stand.begun" s_Stand_begun []
  t_Stand_begun : Meth K (He.ga K "Stand") "begun" (He.ma K (He.ga K "Stand") "begun")
  m_Stand_ended : Mtd K "Stand" "ended" "Stand.ended" s_Stand_ended []
  t_Stand_ended : Meth K (He.ga K "Stand") "ended" (He.ma K (He.ga K "Stand") "ended")
  m_Stand_names_so : Mtd K "Stand" "names_so" "Stand.names_so" s_Stand_names_so []
  t_Stand_names_so : Meth K (He.ga K "Stand") "names_so" (He.ma K (He.ga K "Stand") "names_so")
  m_Stand_record : Mtd K "Stand" "record" "Stand.record" s_Stand_record []
  t_Stand_record : Meth K (He.ga K "Stand") "record" (He.ma K (He.ga K "Stand") "record")
  m_Stand_has_room : Mtd K "Stand" "has_room" "Stand.has_room" s_Stand_has_room []
  t_Stand_has_room : Meth K (He.ga K "Stand") "has_room" (He.ma K (He.ga K "Stand") "has_room")
  m_Recorder_init : Mtd K "Recorder" "__init__" "Recorder.__init__" s_Recorder_init []
  m_Recorder_stand : Mtd K "Recorder" "stand" "Recorder.stand" s_Recorder_stand []
  t_Recorder_stand : Meth K (He.ga K "Recorder") "stand" (He.ma K (He.ga K "Recorder") "stand")
  m_Recorder_now : Mtd K "Recorder" "now" "Recorder.now" s_Recorder_now []
  t_Recorder_now : Meth K (He.ga K "Recorder") "now" (He.ma K (He.ga K "Recorder") "now")
  m_Recorder_need_hand : Mtd K "Recorder" "need_hand" "Recorder.need_hand" s_Recorder_need_hand []
  t_Recorder_need_hand : Meth K (He.ga K "Recorder") "need_hand" (He.ma K (He.ga K "Recorder") "need_hand")
  m_Recorder_need_free : Mtd K "Recorder" "need_free" "Recorder.need_free" s_Recorder_need_free []
  t_Recorder_need_free : Meth K (He.ga K "Recorder") "need_free" (He.ma K (He.ga K "Recorder") "need_free")
  m_Recorder_go_on : Mtd K "Recorder" "go_on" "Recorder.go_on" s_Recorder_go_on []
  t_Recorder_go_on : Meth K (He.ga K "Recorder") "go_on" (He.ma K (He.ga K "Recorder") "go_on")
  m_Recorder_write : Mtd K "Recorder" "write" "Recorder.write" s_Recorder_write []
  t_Recorder_write : Meth K (He.ga K "Recorder") "write" (He.ma K (He.ga K "Recorder") "write")
  m_Recorder_read : Mtd K "Recorder" "read" "Recorder.read" s_Recorder_read []
  t_Recorder_read : Meth K (He.ga K "Recorder") "read" (He.ma K (He.ga K "Recorder") "read")
  m_Recorder_done : Mtd K "Recorder" "done" "Recorder.done" s_Recorder_done [.non]
  t_Recorder_done : Meth K (He.ga K "Recorder") "done" (He.ma K (He.ga K "Recorder") "done")
  m_Recorder_doing : Mtd K "Recorder" "doing" "Recorder.doing" s_Recorder_doing []
  t_Recorder_doing : Meth K (He.ga K "Recorder") "doing" (He.ma K (He.ga K "Recorder") "doing")
  m_Recorder_names : Mtd K "Recorder" "names" "Recorder.names" s_Recorder_names []
  t_Recorder_names : Meth K (He.ga K "Recorder") "names" (He.ma K (He.ga K "Recorder") "names")
  m_Recorder_record_now : Mtd K "Recorder" "record_now" "Recorder.record_now" s_Recorder_record_now []
  t_Recorder_record_now : Meth K (He.ga K "Recorder") "record_now" (He.ma K (He.ga K "Recorder") "record_now")
  m_Recorder_fewest_now : Mtd K "Recorder" "fewest_now" "Recorder.fewest_now" s_Recorder_fewest_now []
  t_Recorder_fewest_now : Meth K (He.ga K "Recorder") "fewest_now" (He.ma K (He.ga K "Recorder") "fewest_now")
  m_Recorder_first_beyond : Mtd K "Recorder" "first_beyond" "Recorder.first_beyond" s_Recorder_first_beyond []
  t_Recorder_first_beyond : Meth K (He.ga K "Recorder") "first_beyond" (He.ma K (He.ga K "Recorder") "first_beyond")
  m_Recorder_free : Mtd K "Recorder" "free" "Recorder.free" s_Recorder_free []
  t_Recorder_free : Meth K (He.ga K "Recorder") "free" (He.ma K (He.ga K "Recorder") "free")
  m_Recorder_len : Mtd K "Recorder" "__len__" "Recorder.__len__" s_Recorder_len []
  t_Recorder_len : Meth K (He.ga K "Recorder") "__len__" (He.ma K (He.ga K "Recorder") "__len__")
  d_law_mixed : Top K mg "_law_mixed" s_law_mixed
  d_law_begin : Top K mg "_law_begin" s_law_begin
  d_law_draw : Top K mg "_law_draw" s_law_draw
  d_law_of : Top K mg "_law_of" s_law_of
  d_law_calls : Top K mg "_law_calls" s_law_calls
  d_law_zone : Top K mg "_law_zone" s_law_zone
  d_law_forced : Top K mg "_law_forced" s_law_forced
  d_law_odd : Top K mg "_law_odd" s_law_odd
  d_law_crowd : Top K mg "_law_crowd" s_law_crowd
  d_law_empty : Top K mg "_law_empty" s_law_empty
  d_law_now : Top K mg "_law_now" s_law_now
  d_law_done : Top K mg "_law_done" s_law_done
  d_law_open : Top K mg "_law_open" s_law_open
  d_law_deed : Top K mg "_law_deed" s_law_deed
  d_law_do : Top K mg "_law_do" s_law_do
  d_law_shows : Top K mg "_law_shows" s_law_shows
  d_law_stands : Top K mg "_law_stands" s_law_stands
  d_law_heard : Top K mg "_law_heard" s_law_heard
  d_law_are : Top K mg "_law_are" s_law_are
  d_law_asked_right : Top K mg "_law_asked_right" s_law_asked_right
  d_law_hands_right : Top K mg "_law_hands_right" s_law_hands_right
  d_law_names_right : Top K mg "_law_names_right" s_law_names_right
  d_law_right : Top K mg "_law_right" s_law_right
  d_law : Top K mg "law" s_law
  c_Stand : Cls K (He.ga K "Stand")
  k_Stand : Mk K (He.ga K "Stand") (He.ma K (He.ga K "Stand") "__init__")
  c_Recorder : Cls K (He.ga K "Recorder")
  k_Recorder : Mk K (He.ga K "Recorder") (He.ma K (He.ga K "Recorder") "__init__")
  g_CellError : mg "CellError" = some (.ref (He.ga K "CellError"))
  g_BadNumber : mg "BadNumber" = some (.ref (He.ga K "BadNumber"))
  g_Busy : mg "Busy" = some (.ref (He.ga K "Busy"))
  g_Idle : mg "Idle" = some (.ref (He.ga K "Idle"))
  g_Stand : mg "Stand" = some (.ref (He.ga K "Stand"))
  g_Recorder : mg "Recorder" = some (.ref (He.ga K "Recorder"))
  a_busy_ones : NoAttr K (He.ga K "Stand") "busy_ones"
  a_begins : NoAttr K (He.ga K "Stand") "begins"
  a_ends : NoAttr K (He.ga K "Stand") "ends"
  a_reads_of : NoAttr K (He.ga K "Stand") "reads_of"
  a_own_hands : NoAttr K (He.ga K "Recorder") "own_hands"
  a_own_past : NoAttr K (He.ga K "Recorder") "own_past"
  i_MOST_TICK : ∃ t, mg "MOST_TICK" = some (.int 1000000000 t)
  i_MOST_VALUES : ∃ t, mg "MOST_VALUES" = some (.int 12 t)
  i_MOST_READS : ∃ t, mg "MOST_READS" = some (.int 4 t)
  i_MOST_HANDS : ∃ t, mg "MOST_HANDS" = some (.int 6 t)
  s_GAP : ∃ t, mg "GAP" = some (.str "gap" t)
  s_ZONE : ∃ t, mg "ZONE" = some (.str "zone" t)
  s_WRITE : ∃ t, mg "WRITE" = some (.str "write" t)
  s_READ : ∃ t, mg "READ" = some (.str "read" t)
  f_isinstance : mg "isinstance" = none
  f_int : mg "int" = none
  f_bool : mg "bool" = none
  f_min : mg "min" = none
  f_max : mg "max" = none
  f_len : mg "len" = none
  f_sorted : mg "sorted" = none
  f_tuple : mg "tuple" = none
  f_enumerate : mg "enumerate" = none
  f_list : mg "list" = none
  f_dict : mg "dict" = none
  f_range : mg "range" = none
  f_repr : mg "repr" = none
  f_super : mg "super" = none
  f_ValueError : mg "ValueError" = none
end K28
-- KD1
/-! KD1: the small defs, near and far, crowds. -/
namespace K28
open PySem PySem.Spec PyProof.Rows L2
/-! ### things -/
inductive Th (H : Hp) : V → String → Prop where
  | non : Th H .non "NoneType"
  | bl (b : Bool) : Th H (.bl b) "bool"
  | int (i : Int) : Th H (.int i) "int"
  | str (x : Str) : Th H (.str x) "str"
  | lst {a : Addr} {xs : List V} (e : H a = some (.lst xs)) : Th H (.ref a) "list"
  | tup {a : Addr} {xs : List V} (e : H a = some (.tup xs)) : Th H (.ref a) "tuple"
  | dK {a : Addr} {kvs : List (Key × V)} (e : H a = some (.dK kvs)) : Th H (.ref a) "dict"
theorem Th.on {H H' : Hp} {v : V} {T : String} (h : Th H v T) (s : Same H H') : Th H' v T := by
  cases h with
  | non => exact .non
  | bl b => exact .bl b
  | int i => exact .int i
  | str x => exact .str x
  | lst e => exact .lst (s _ _ e)
  | tup e => exact .tup (s _ _ e)
  | dK e => exact .dK (s _ _ e)
theorem Th.ty {K : PySem.W.Frag} {H : Hp} {v : V} {T : String} (h : Th H v T) : TyX K H v (.type T) := by
  cases h with
  | non => exact .base .non
  | bl b => exact .base (.bl b)
  | int i => exact .base (.int i)
  | str x => exact .base (.str x)
  | lst e => exact .base (.lst e)
  | tup e => exact .base (.tup e)
  | dK e => exact .base (.dK e)
def isI : V → Bool
  | .int _ => true
  | _ => false
def btw (v : V) (a b : Int) : Bool := match v with
  | .int i => decide (a ≤ i) && decide (i ≤ b)
  | _ => false
theorem Th.int_of {H : Hp} {v : V} {T : String} (h : Th H v T) : ∃ b c : Bool, kitB T "int" = some b ∧ kitB T "bool" = some c ∧ (b && !c) = isI v := by
  cases h with
  | non => exact ⟨false, false, by decide, by decide, rfl⟩
  | bl b => exact ⟨true, true, by decide, by decide, rfl⟩
  | int i => exact ⟨true, false, by decide, by decide, rfl⟩
  | str x => exact ⟨false, false, by decide, by decide, rfl⟩
  | lst e => exact ⟨false, false, by decide, by decide, rfl⟩
  | tup e => exact ⟨false, false, by decide, by decide, rfl⟩
  | dK e => exact ⟨false, false, by decide, by decide, rfl⟩
section
variable {X : Cx} {e : Expr} {σ : L2.St} {H : Hp} {p p2 pos : Pos} {v : V}
theorem jd_isi {T U : String} {x : Str} {r : Bool} (hm : X.mg "isinstance" = none) (hm2 : X.mg x = none) (hv : bootBuiltins x = some (.type U)) (ha : JV X e σ H v) (h : Th H v T) (hk : kitB T U = some r) (hn : x ≠ "__name__" := by decide) (hdb : (x == ("__debug__" : Str)) = false := by decide) (hg : Gl X "isinstance" := by rfl) (hg2 : Gl X x := by rfl)
    (he : starEach [e, .Name x p2] X.env = (false, eval e X.env) :: starEach [.Name x p2] X.env := by rfl) (he2 : starEach [.Name x p2] X.env = (false, eval (.Name x p2) X.env) :: starEach [] X.env := by rfl) (hpl : (backTo pos (starEach [.Name x p2] X.env)).any (·.1) = false := by rfl) :
    JD X (.Call (.Name "isinstance" p) [e, .Name x p2] [] pos) σ H (.bool r) := JV.bl fun H1 s Q q =>
  je_blt call_isi hm (by first | exact boot_isinstance | rfl) (ja_of (pa_cons pej (pa_cons (pe_bltn hg2 hm2 hv (show L2.RelV (.ty U) (.type U) from rfl) hn hdb) pa_nil he2) he) (ha H1 s _ fun H2 s2 => ⟨v, .ty U, .type T, .type U, r, rfl, .ty U, (h.on (s.trans s2)).ty, kit_ty hk, q H2 s2⟩)) hg he hpl
end
def spInt : Sp := fun vs H Q _ => ∃ v T, vs = [v] ∧ Th H v T ∧ ∀ H', Same H H' → Q (.bl (isI v)) H'
def spBtw : Sp := fun vs H Q _ => ∃ v T a b, vs = [v, .int a, .int b] ∧ Th H v T ∧ ∀ H', Same H H' → Q (.bl (btw v a b)) H'
section
variable {P : Program} {w : World} {K : PySem.W.Frag} {mg : Str → Option Value} {base : Heap}
theorem S_is_integer : FnScope ["thing"] ["thing"] (defScope s_is_integer) := ⟨rfl, rfl, rfl, by decide +kernel, rfl, by decide +kernel, by decide +kernel⟩
theorem g_is_integer (M : Mo K mg) : FnG P w K mg base 1 "is_integer" ["thing"] spInt := by
  refine fng M.d_is_integer S_is_integer (fun vs H Q E ⟨v, T, h, _⟩ => by rw [h]; rfl) (fun f cdv A outer s H vs Q E hr ⟨v, T, e, h, q⟩ => ?_) (fun _ _ _ _ _ _ us hl => match us, hl with | [_], _ => rfl)
  subst e
  obtain ⟨b, c, h1, h2, h3⟩ := h.int_of
  refine jss_one (js_ret ((jd_and (jd_isi M.f_isinstance M.f_int boot_int (jv_var 0 rfl) h h1) fun _ => jd_one (jd_not (jd_isi M.f_isinstance M.f_bool boot_bool (jv_var 0 rfl) h h2))).je fun v' H' s' hv => ?_))
  cases hv
  rw [h3]
  exact q H' s'
theorem je_isI {X : Cx} {e : Expr} {σ : L2.St} {H : Hp} {p pos : Pos} {k n : Nat} {v : V} {T : String} (G : FnG X.prog X.w X.K X.mg X.base k "is_integer" ["thing"] spInt) (hr : Room n X.A) (ha : JV X e σ H v) (h : Th H v T) (hk : k ≤ n := by decide) (hg : Gl X "is_integer" := by rfl)
    (he : starEach [e] X.env = (false, eval e X.env) :: starEach [] X.env := by rfl) (hpl : (backTo pos (starEach [] X.env)).any (·.1) = false := by rfl) : JD X (.Call (.Name "is_integer" p) [e] [] pos) σ H (.bool (isI v)) := fun H1 s Q q =>
  je_call (E := E0) G hr passL (ja_of (pa_cons pej pa_nil he) (ha H1 s _ fun H2 s2 => ⟨v, T, rfl, h.on (s.trans s2), fun H3 s3 => q _ H3 (s2.trans s3) (.bl _)⟩)) hk hg (by decide) he hpl
theorem S_is_between : FnScope ["thing", "least", "most"] ["thing", "least", "most"] (defScope s_is_between) := ⟨rfl, rfl, rfl, by decide +kernel, rfl, by decide +kernel, by decide +kernel⟩
theorem g_is_between (M : Mo K mg) : FnG P w K mg base 2 "is_between" ["thing", "least", "most"] spBtw := by
  refine fng M.d_is_between S_is_between (fun vs H Q E ⟨v, T, a, b, h, _⟩ => by rw [h]; rfl) (fun f cdv A outer s H vs Q E hr ⟨v, T, a, b, e, h, q⟩ => ?_) (fun _ _ _ _ _ _ us hl => match us, hl with | [_, _, _], _ => rfl)
  subst e
  have key : (isI v && btw v a b) = btw v a b := by
    cases v <;> rfl
  refine jss_one (js_ret ((jd_and (q := btw v a b) (je_isI (g_is_integer M) hr (jv_var 0 rfl) h) fun hi => ?_).je fun v' H' s' hv => ?_))
  · cases v with
    | int i => exact jd_one (jd_lele (jv_var 1 rfl).int (jv_var 0 rfl).int (jv_var 2 rfl).int)
    | _ => cases hi
  · cases hv
    rw [key]
    exact q H' s'
/-! ### values -/
theorem S_calls_of : FnScope ["value"] ["value"] (defScope s_calls_of) := ⟨rfl, rfl, rfl, by decide +kernel, rfl, by decide +kernel, by decide +kernel⟩
def spV (K : PySem.W.Frag) (res : Vl → PyData) : Sp := spP K (fun v : Vl => [pV v]) res (fun v => v.2.length ≤ 1000)
theorem atI0 {α : Type} {a : α} {l : List α} : atI (a :: l) 0 = some a := atI_nat (i := 0) rfl
theorem atI1 {α : Type} {a b : α} {l : List α} : atI (a :: b :: l) 1 = some b := atI_nat (i := 1) rfl
theorem small1 {n : Nat} (h : n ≤ 2000) : n ≤ sizeLine := by rw [sizeLine_eq]; omega
theorem g_calls_of (M : Mo K mg) : FnG P w K mg base 1 "calls_of" ["value"] (spV K fun v => .list ((v.1 :: v.2).map pC)) := by
  refine fng M.d_calls_of S_calls_of (spP_len fun _ => rfl) (fun f cdv A outer s H vs Q E hr ⟨v, hp, ha, q⟩ => ?_) (fun _ _ _ _ _ _ us hl => match us, hl with | [_], _ => rfl)
  cases ha with
  | cons h1 h2 =>
    cases h2
    refine jss_one (js_ret ((jl_lst (ds := pC v.1 :: (v.2.map pC ++ [])) (jds_cons (jd_ixT (jd_var 0 rfl h1) jd_int atI0) (jds_star (jd_ixT (jd_var 0 rfl h1) jd_int atI1) jds_nil)) (by simp; exact small1 (by omega))).jd.je fun v' H' s' hv => ?_))
    refine q _ H' s' ?_
    rw [List.append_nil] at hv
    exact hv
theorem S_near_of : FnScope ["value", "call"] ["value"] (defScope s_near_of) := ⟨rfl, rfl, rfl, by decide +kernel, rfl, by decide +kernel, by decide +kernel⟩
theorem S_far_of : FnScope ["value", "call"] ["value"] (defScope s_far_of) := ⟨rfl, rfl, rfl, by decide +kernel, rfl, by decide +kernel, by decide +kernel⟩
theorem filter_yes {α : Type} (l : List α) : l.filter (fun _ => true) = l := List.filter_eq_self.mpr fun _ _ => rfl
theorem g_near_of (M : Mo K mg) : FnG P w K mg base 2 "near_of" ["value"] (spV K fun v => .int (nr v)) := by
  refine fng M.d_near_of S_near_of (spP_len fun _ => rfl) (fun f cdv A outer s H vs Q E hr ⟨v, hp, ha, q⟩ => ?_) (fun _ _ _ _ _ _ us hl => match us, hl with | [_], _ => rfl)
  cases ha with
  | cons h1 h2 =>
    cases h2
    refine jss_one (js_ret ((jd_min (ns := v.1.2 :: v.2.map (·.2)) (m := nr v) rfl M.f_min (JL.jd (jl_lc1 (xs := v.1 :: v.2) (da := pC) (pr := fun _ => true) (r := fun c => PyData.int c.2) 1 rfl S_near_of.nd (blkOk_by (own := [("call", 1)]) rfl)
      (jdi_list (jd_call (g_calls_of M) hr v hp (jds_cons (jd_var 0 rfl h1) jds_nil))) (by simp; exact small1 (by omega)) (by rw [filter_yes, List.map_cons, List.map_cons, List.map_map]; rfl) (fun c _ u H2 s2 hu s0 H0 C cl fp => ⟨jbs_nil, fun _ => jd_ixT (jd_var 1 rfl hu) jd_int atI1⟩)))
      (by simp) (fun k h1 h2 => minL_only h1 h2)).je fun v' H' s' hv => q _ H' s' hv))
end
end K28
-- KD2
/-! KD2: the program's crowds. -/
namespace K28
open PySem PySem.Spec PyProof.Rows L2
/-- a record that fits -/
structure ROk (r : List Vl) : Prop where
  len : r.length < 64
  rd : ∀ v ∈ r, v.2.length ≤ 1000
theorem ROk.at_ {r : List Vl} (h : ROk r) {i : Nat} (hi : i < r.length) : (at_ r i).2.length ≤ 1000 := by
  have e : K28.at_ r i = r[i] := by simp [K28.at_, List.getD, hi]
  rw [e]
  exact h.rd _ (List.getElem_mem hi)
theorem ROk.sz {r : List Vl} (h : ROk r) : r.length ≤ sizeLine := small1 (by have := h.len; omega)
theorem fwds_len (r : List Vl) : (fwds r).length ≤ r.length := by
  unfold fwds
  rw [List.length_map]
  refine Nat.le_trans (List.length_filter_le ..) ?_
  rw [List.length_zipIdx]
  exact Nat.le_refl _
theorem bwds_len (r : List Vl) : (bwds r).length ≤ r.length := by
  unfold bwds
  rw [List.length_map]
  refine Nat.le_trans (List.length_filter_le ..) ?_
  rw [List.length_zipIdx]
  exact Nat.le_refl _
theorem gaps_len (r : List Vl) : (gaps r).length ≤ r.length := by
  unfold gaps
  rw [srt_len]
  refine Nat.le_trans (foldK_len _ _) ?_
  rw [List.length_map, List.length_nil, Nat.zero_add]
  exact fwds_len r
theorem crowd_len (r : List Vl) (s : Spot) : (crowd r s).length ≤ r.length + 1 := by
  have hf := fwds_len r
  cases s with
  | gap t =>
    show ((List.filter _ _).map _).length ≤ _
    rw [List.length_map]
    have := List.length_filter_le (fun i => decide (nr (at_ r i) ≤ t) && decide (t < fr (at_ r i))) (fwds r)
    omega
  | zone i =>
    show (srt _).length ≤ _
    rw [srt_len, List.length_cons, List.length_map]
    have := List.length_filter_le (fun j => odd r j i) (fwds r)
    omega
theorem spots_len (r : List Vl) : (spots r).length ≤ r.length + r.length := by
  unfold spots
  have h1 := gaps_len r
  have h2 := bwds_len r
  simp only [List.length_append, List.length_map]
  omega
section
variable {P : Program} {w : World} {K : PySem.W.Frag} {mg : Str → Option Value} {base : Heap}
theorem g_far_of (M : Mo K mg) : FnG P w K mg base 2 "far_of" ["value"] (spV K fun v => .int (fr v)) := by
  refine fng M.d_far_of S_far_of (spP_len fun _ => rfl) (fun f cdv A outer s H vs Q E hr ⟨v, hp, ha, q⟩ => ?_) (fun _ _ _ _ _ _ us hl => match us, hl with | [_], _ => rfl)
  cases ha with
  | cons h1 h2 =>
    cases h2
    refine jss_one (js_ret ((jd_max (ns := v.1.1 :: v.2.map (·.1)) (m := fr v) rfl M.f_max (JL.jd (jl_lc1 (xs := v.1 :: v.2) (da := pC) (pr := fun _ => true) (r := fun c => PyData.int c.1) 1 rfl S_far_of.nd (blkOk_by (own := [("call", 1)]) rfl)
      (jdi_list (jd_call (g_calls_of M) hr v hp (jds_cons (jd_var 0 rfl h1) jds_nil))) (by simp; exact small1 (by omega)) (by rw [filter_yes, List.map_cons, List.map_cons, List.map_map]; rfl) (fun c _ u H2 s2 hu s0 H0 C cl fp => ⟨jbs_nil, fun _ => jd_ixT (jd_var 1 rfl hu) jd_int atI0⟩)))
      (by simp) (fun k h1 h2 => maxL_only h1 h2)).je fun v' H' s' hv => q _ H' s' hv))
/-- a record and two places -/
structure Two where
  r : List Vl
  i : Nat
  j : Nat
def spF (K : PySem.W.Frag) (res : Two → Bool) : Sp := spP K (fun z : Two => [pR z.r, pN z.i, pN z.j]) (fun z => .bool (res z)) (fun z => ROk z.r ∧ z.i < z.r.length ∧ z.j < z.r.length)
theorem S_is_forced_in : FnScope ["record", "one", "other"] ["record", "one", "other"] (defScope s_is_forced_in) := ⟨rfl, rfl, rfl, by decide +kernel, rfl, by decide +kernel, by decide +kernel⟩
theorem nat_eq (i j : Nat) : decide ((i : Int) = (j : Int)) = decide (i = j) := by
  by_cases h : i = j
  · subst h; simp
  · rw [decide_eq_false h, decide_eq_false (by omega)]
theorem jd_rec {X : Cx} {a b : Expr} {σ : L2.St} {H : Hp} {pos : Pos} {r : List Vl} {i : Nat} (ha : JD X a σ H (pR r)) (hb : JD X b σ H (pN i)) (hi : i < r.length) (hs : PlainIx b := by exact fun _ _ => rfl) : JD X (.Subscript a b pos) σ H (pV (at_ r i)) :=
  jd_ixT ha hb (atI_nat (at_get hi)) hs
theorem jd_neN {X : Cx} {a b : Expr} {σ : L2.St} {H : Hp} {pos : Pos} {i j : Nat} (ha : JD X a σ H (pN i)) (hb : JD X b σ H (pN j)) : JD X (.Compare a [.NotEq] [b] pos) σ H (.bool (!decide (i = j))) := by
  rw [← nat_eq]
  exact jd_neI ha hb
theorem g_is_forced_in (M : Mo K mg) : FnG P w K mg base 3 "is_forced_in" ["record", "one", "other"] (spF K fun z => forced z.r z.i z.j) := by
  refine fng M.d_is_forced_in S_is_forced_in (spP_len fun _ => rfl) (fun f cdv A outer s H vs Q E hr ⟨z, ⟨hp, hi, hj⟩, ha, q⟩ => ?_) (fun _ _ _ _ _ _ us hl => match us, hl with | [_, _, _], _ => rfl)
  match vs, ha with
  | [v0, v1, v2], .cons h1 (.cons h2 (.cons h3 .nil)) =>
    refine jss_one (js_ret ((jd_and (jd_neN (jd_var 1 rfl h2) (jd_var 2 rfl h3)) fun _ => jd_one (jd_lt (jd_call (g_near_of M) hr (at_ z.r z.i) (hp.at_ hi) (jds_cons (jd_rec (jd_var 0 rfl h1) (jd_var 1 rfl h2) hi) jds_nil)) (jd_call (g_far_of M) hr (at_ z.r z.j) (hp.at_ hj) (jds_cons (jd_rec (jd_var 0 rfl h1) (jd_var 2 rfl h3) hj) jds_nil)))).je fun v' H' s' hv => q _ H' s' hv))
theorem S_are_odd_in : FnScope ["record", "one", "other"] ["record", "one", "other"] (defScope s_are_odd_in) := ⟨rfl, rfl, rfl, by decide +kernel, rfl, by decide +kernel, by decide +kernel⟩
theorem g_are_odd_in (M : Mo K mg) : FnG P w K mg base 4 "are_odd_in" ["record", "one", "other"] (spF K fun z => odd z.r z.i z.j) := by
  refine fng M.d_are_odd_in S_are_odd_in (spP_len fun _ => rfl) (fun f cdv A outer s H vs Q E hr ⟨z, ⟨hp, hi, hj⟩, ha, q⟩ => ?_) (fun _ _ _ _ _ _ us hl => match us, hl with | [_, _, _], _ => rfl)
  match vs, ha with
  | [v0, v1, v2], .cons h1 (.cons h2 (.cons h3 .nil)) =>
    refine jss_one (js_ret ((jd_and (jd_call (g_is_forced_in M) hr ⟨z.r, z.i, z.j⟩ ⟨hp, hi, hj⟩ (jds_cons (jd_var 0 rfl h1) (jds_cons (jd_var 1 rfl h2) (jds_cons (jd_var 2 rfl h3) jds_nil))))
      fun _ => jd_one (jd_call (g_is_forced_in M) hr ⟨z.r, z.j, z.i⟩ ⟨hp, hj, hi⟩ (jds_cons (jd_var 0 rfl h1) (jds_cons (jd_var 2 rfl h3) (jds_cons (jd_var 1 rfl h2) jds_nil))))).je fun v' H' s' hv => q _ H' s' hv))
theorem S_is_forward : FnScope ["value"] ["value"] (defScope s_is_forward) := ⟨rfl, rfl, rfl, by decide +kernel, rfl, by decide +kernel, by decide +kernel⟩
theorem g_is_forward (M : Mo K mg) : FnG P w K mg base 3 "is_forward" ["value"] (spV K fun v => .bool (fwd v)) := by
  refine fng M.d_is_forward S_is_forward (spP_len fun _ => rfl) (fun f cdv A outer s H vs Q E hr ⟨v, hp, ha, q⟩ => ?_) (fun _ _ _ _ _ _ us hl => match us, hl with | [_], _ => rfl)
  match vs, ha with
  | [v0], .cons h1 .nil =>
    exact jss_one (js_ret ((jd_lt (jd_call (g_near_of M) hr v hp (jds_cons (jd_var 0 rfl h1) jds_nil)) (jd_call (g_far_of M) hr v hp (jds_cons (jd_var 0 rfl h1) jds_nil))).je fun v' H' s' hv => q _ H' s' hv))
def spR (K : PySem.W.Frag) (res : List Vl → PyData) : Sp := spP K (fun r : List Vl => [pR r]) res ROk
theorem S_forwards_in : FnScope ["record", "number", "value"] ["record"] (defScope s_forwards_in) := ⟨rfl, rfl, rfl, by decide +kernel, rfl, by decide +kernel, by decide +kernel⟩
theorem S_backwards_in : FnScope ["record", "number", "value"] ["record"] (defScope s_backwards_in) := ⟨rfl, rfl, rfl, by decide +kernel, rfl, by decide +kernel, by decide +kernel⟩
theorem zip_rd {r : List Vl} (h : ROk r) {z : Vl × Nat} (hz : z ∈ r.zipIdx) : z.1.2.length ≤ 1000 := by
  obtain ⟨v, i⟩ := z
  have q := List.mem_zipIdx hz
  rw [q.2.2]
  exact h.rd _ (List.getElem_mem _)
theorem g_forwards_in (M : Mo K mg) : FnG P w K mg base 4 "forwards_in" ["record"] (spR K fun r => .list ((fwds r).map pN)) := by
  refine fng M.d_forwards_in S_forwards_in (spP_len fun _ => rfl) (fun f cdv A outer s H vs Q E hr ⟨r, hp, ha, q⟩ => ?_) (fun _ _ _ _ _ _ us hl => match us, hl with | [_], _ => rfl)
  match vs, ha with
  | [v0], .cons h1 .nil =>
    exact jss_one (js_ret ((JL.jd (jl_lc2 (xs := r.zipIdx) (d1 := fun z => pN z.2) (d2 := fun z => pV z.1) (pr := fun z => fwd z.1) (r := fun z => pN z.2) 1 2 rfl S_forwards_in.nd (blkOk_by (own := [("number", 1), ("value", 2)]) rfl)
      (by rw [← enum_zip]; exact jdi_enumT M.f_enumerate (jd_var 0 rfl h1)) (by rw [List.length_zipIdx]; exact hp.sz) (by rw [fwds, List.map_map]; rfl) (fun z hz u v H2 s2 hu hv s0 H0 C cl fp => ⟨jbs_one (jb_val (jd_call (g_is_forward M) hr z.1 (zip_rd hp hz) (jds_cons (jd_var 2 rfl hv) jds_nil))), fun _ => jd_var 1 rfl hu⟩))).je fun v' H' s' hv => q _ H' s' hv))
theorem g_backwards_in (M : Mo K mg) : FnG P w K mg base 4 "backwards_in" ["record"] (spR K fun r => .list ((bwds r).map pN)) := by
  refine fng M.d_backwards_in S_backwards_in (spP_len fun _ => rfl) (fun f cdv A outer s H vs Q E hr ⟨r, hp, ha, q⟩ => ?_) (fun _ _ _ _ _ _ us hl => match us, hl with | [_], _ => rfl)
  match vs, ha with
  | [v0], .cons h1 .nil =>
    exact jss_one (js_ret ((JL.jd (jl_lc2 (xs := r.zipIdx) (d1 := fun z => pN z.2) (d2 := fun z => pV z.1) (pr := fun z => !fwd z.1) (r := fun z => pN z.2) 1 2 rfl S_backwards_in.nd (blkOk_by (own := [("number", 1), ("value", 2)]) rfl)
      (by rw [← enum_zip]; exact jdi_enumT M.f_enumerate (jd_var 0 rfl h1)) (by rw [List.length_zipIdx]; exact hp.sz) (by rw [bwds, List.map_map]; rfl) (fun z hz u v H2 s2 hu hv s0 H0 C cl fp => ⟨jbs_one (jb_not (jb_val (jd_call (g_is_forward M) hr z.1 (zip_rd hp hz) (jds_cons (jd_var 2 rfl hv) jds_nil)))), fun _ => jd_var 1 rfl hu⟩))).je fun v' H' s' hv => q _ H' s' hv))
/-! ### crowds -/
structure RS where
  r : List Vl
  s : Spot
theorem S_crowd_in : FnScope ["record", "spot", "word", "place", "some", "number"] ["record", "spot"] (defScope s_crowd_in) := ⟨rfl, rfl, rfl, by decide +kernel, rfl, by decide +kernel, by decide +kernel⟩
theorem map_nN (l : List Nat) : l.map pN = (l.map nI).map PyData.int := by rw [List.map_map]; rfl
theorem g_crowd_in (M : Mo K mg) : FnG P w K mg base 5 "crowd_in" ["record", "spot"] (spP K (fun z : RS => [pR z.r, pSpot z.s]) (fun z => pI (crowd z.r z.s)) (fun z => ROk z.r ∧ ∀ i, z.s = .zone i → i < z.r.length)) := by
  refine fng M.d_crowd_in S_crowd_in (spP_len fun _ => rfl) (fun f cdv A outer s H vs Q E hr ⟨⟨r, sp⟩, ⟨hp, hz⟩, ha, q⟩ => ?_) (fun _ _ _ _ _ _ us hl => match us, hl with | [_, _], _ => rfl)
  have hp : ROk r := hp
  have fl : (fwds r).length ≤ sizeLine := Nat.le_trans (fwds_len r) hp.sz
  obtain ⟨tg, gG⟩ := M.s_GAP
  match vs, ha with
  | [v0, v1], .cons h1 (.cons h2 .nil) =>
    cases sp with
    | gap t =>
      refine jss_set2D 2 3 rfl S_crowd_in.nd (jd_var 1 rfl h2) fun u x H1 s1 hu hx => ?_
      refine jss_set 4 S_crowd_in.nd (jd_call (g_forwards_in M) hr r hp (jds_cons (jd_var 0 rfl (h1.on s1)) jds_nil)) fun l H2 s2 hl => ?_
      cases hu
      refine jss_cons (js_ifT (by
        have e : decide (V.str "gap" = V.str "gap") = true := by decide
        rw [← e]
        exact jb_eqS (jv_var 2 rfl) (jv_glob (v := .str "gap") gG ⟨_, rfl⟩) rfl) fun H3 s3 => ?_)
      refine jss_one (js_ret ((jd_tuple1 M.f_tuple (JL.jd (jl_lc1 (xs := fwds r) (da := pN) (pr := fun i => decide (nr (at_ r i) ≤ t) && decide (t < fr (at_ r i))) (r := pN) 5 rfl S_crowd_in.nd (blkOk_by (own := [("number", 5)]) rfl) (jdi_list (jd_var 4 rfl (hl.on s3))) fl rfl (fun i hi v H4 s4 hv s0 H0 C cl fp =>
        ⟨jbs_one (jb_lelt (jd_call (g_near_of M) hr (at_ r i) (hp.at_ (fwds_lt hi)) (jds_cons (jd_rec (jd_var 0 rfl (h1.on (s1.trans (s2.trans (s3.trans s4))))) (jd_var 5 rfl hv) (fwds_lt hi)) jds_nil)) (jd_var 3 rfl (hx.on (s2.trans (s3.trans s4))))
          (jd_call (g_far_of M) hr (at_ r i) (hp.at_ (fwds_lt hi)) (jds_cons (jd_rec (jd_var 0 rfl (h1.on (s1.trans (s2.trans (s3.trans s4))))) (jd_var 5 rfl hv) (fwds_lt hi)) jds_nil))), fun _ => jd_var 5 rfl hv⟩)))).je fun v' H' s' hv => q _ H' (s1.trans (s2.trans (s3.trans s'))) ?_))
      rw [map_nN] at hv
      exact hv
    | zone i =>
      have hi : i < r.length := hz i rfl
      refine jss_set2D 2 3 rfl S_crowd_in.nd (jd_var 1 rfl h2) fun u x H1 s1 hu hx => ?_
      refine jss_set 4 S_crowd_in.nd (jd_call (g_forwards_in M) hr r hp (jds_cons (jd_var 0 rfl (h1.on s1)) jds_nil)) fun l H2 s2 hl => ?_
      cases hu
      refine jss_cons (js_ifF (by
        have e : decide (V.str "zone" = V.str "gap") = false := by decide
        rw [← e]
        exact jb_eqS (jv_var 2 rfl) (jv_glob (v := .str "gap") gG ⟨_, rfl⟩) rfl) fun H3 s3 => ?_)
      have fl2 : ((fwds r).filter fun j => odd r j i).length ≤ 64 := by
        have := List.length_filter_le (fun j => odd r j i) (fwds r)
        have := fwds_len r
        have h3 : r.length < 64 := hp.len
        omega
      refine jss_nil ?_
      refine jss_one (js_ret ((jd_tuple1 M.f_tuple (JL.jd (jl_sorted (ns := (i : Int) :: ((fwds r).filter fun j => odd r j i).map nI) (ms := crowd r (.zone i)) M.f_sorted (JL.jd ?_) (fun k k1 k2 => srt_only k1 k2)))).je fun v' H' s' hv => q _ H' (s1.trans (s2.trans (s3.trans s'))) hv))
      have e : ((i : Int) :: ((fwds r).filter fun j => odd r j i).map nI).map PyData.int = [pN i] ++ (((fwds r).filter fun j => odd r j i).map pN) := by
        rw [map_nN]; rfl
      rw [e]
      refine jl_cat (jl_lst (jds_cons (jd_var 3 rfl (hx.on (s2.trans s3))) jds_nil) (small1 (by simp))).jr (JL.jr (jl_lc1 (xs := fwds r) (da := pN) (pr := fun j => odd r j i) (r := pN) 5 rfl S_crowd_in.nd (blkOk_by (own := [("number", 5)]) rfl) (jdi_list (jd_var 4 rfl (hl.on s3))) fl rfl (fun j hj v H4 s4 hv s0 H0 C cl fp =>
        ⟨jbs_one (jb_val (jd_call (g_are_odd_in M) hr ⟨r, j, i⟩ ⟨hp, fwds_lt hj, hi⟩ (jds_cons (jd_var 0 rfl (h1.on (s1.trans (s2.trans (s3.trans s4))))) (jds_cons (jd_var 5 rfl hv) (jds_cons (jd_var 3 rfl (hx.on (s2.trans (s3.trans s4)))) jds_nil))))), fun _ => jd_var 5 rfl hv⟩))) ?_
      refine small1 ?_
      rw [List.length_map]
      simp only [List.length_cons, List.length_nil]
      omega
theorem S_all_spots : FnScope ["record", "gaps", "number", "tick"] ["record"] (defScope s_all_spots) := ⟨rfl, rfl, rfl, by decide +kernel, rfl, by decide +kernel, by decide +kernel⟩
theorem lf_spot (s : Spot) : lf (pSpot s) = true := by cases s <;> rfl
theorem g_all_spots (M : Mo K mg) : FnG P w K mg base 5 "all_spots" ["record"] (spR K fun r => .list ((spots r).map pSpot)) := by
  refine fng M.d_all_spots S_all_spots (spP_len fun _ => rfl) (fun f cdv A outer s H vs Q E hr ⟨r, hp, ha, q⟩ => ?_) (fun _ _ _ _ _ _ us hl => match us, hl with | [_], _ => rfl)
  have hl64 : r.length < 64 := hp.len
  have fl := fwds_len r
  have gl := gaps_len r
  have bl := bwds_len r
  obtain ⟨tg, gG⟩ := M.s_GAP
  obtain ⟨tz, gZ⟩ := M.s_ZONE
  match vs, ha with
  | [v0], .cons h1 .nil =>
    refine jss_setE 1 S_all_spots.nd (je_blt (call_sortedDI rfl) M.f_sorted rfl (ja_of (pa_cons pej pa_nil) (je_dc1 (xs := fwds r) (da := pN) (kf := fun i => nr (at_ r i)) (z := .bl true) 2 rfl S_all_spots.nd (blkOk_by (own := [("number", 2)]) rfl)
      (jdi_list (jd_call (g_forwards_in M) hr r hp (jds_cons (jd_var 0 rfl h1) jds_nil))) (small1 (by omega)) (fun i hi v H2 s2 hv s0 H0 C cl fp => ⟨JD.int (jd_call (g_near_of M) hr (at_ r i) (hp.at_ (fwds_lt hi)) (jds_cons (jd_rec (jd_var 0 rfl (h1.on s2)) (jd_var 2 rfl hv) (fwds_lt hi)) jds_nil)), jv_bl⟩)
      fun a kvs H1 s1 ha0 ha1 hk => ⟨a, kvs, _, rfl, .inl ha1, hk, ?_, fun ys p hys hyp hn => ?_⟩)))
    · refine Nat.lt_of_le_of_lt (foldK_len _ _) ?_
      rw [List.length_map, List.length_nil]
      omega
    · have e : ys = gaps r := srt_only hys hyp
      subst e
      have s2 : Same H (upd H1 p (.lst ((gaps r).map V.int))) := s1.trans (same_new hn)
      have dg : Dp K (upd H1 p (.lst ((gaps r).map V.int))) (.ref p) (.list ((gaps r).map PyData.int)) := .lst (.inl (.inl upd_same)) (DpAll.ofInts _)
      refine jss_one (js_ret ((JL.jd (jl_cat (ds := (gaps r).map fun t => pSpot (.gap t)) (ds2 := (bwds r).map fun i => pSpot (.zone i))
        (JL.jr (jl_lc1 (xs := gaps r) (da := PyData.int) (pr := fun _ => true) (r := fun t => pSpot (.gap t)) 3 rfl S_all_spots.nd (blkOk_by (own := [("tick", 3)]) rfl) (jdi_list (jd_var 1 rfl dg)) (small1 (by omega)) (by rw [filter_yes]) (fun t ht v H3 s3 hv s0 H0 C cl fp => ⟨jbs_nil, fun _ => jd_tup (jds_cons ((jv_glob (v := .str "gap") gG ⟨_, rfl⟩).dd (.str _)) (jds_cons (jd_var 3 rfl hv) jds_nil)) (small1 (by simp))⟩)))
        (JL.jr (jl_lc1 (xs := bwds r) (da := pN) (pr := fun _ => true) (r := fun i => pSpot (.zone i)) 2 rfl S_all_spots.nd (blkOk_by (own := [("number", 2)]) rfl) (jdi_list (jd_call (g_backwards_in M) hr r hp (jds_cons (jd_var 0 rfl (h1.on s2)) jds_nil))) (small1 (by omega)) (by rw [filter_yes]) (fun t ht v H3 s3 hv s0 H0 C cl fp => ⟨jbs_nil, fun _ => jd_tup (jds_cons ((jv_glob (v := .str "zone") gZ ⟨_, rfl⟩).dd (.str _)) (jds_cons (jd_var 2 rfl hv) jds_nil)) (small1 (by simp))⟩)))
        (small1 (by simp only [List.length_map]; omega)))).je fun v' H' s' hv => q _ H' (s2.trans s') ?_))
      show Dp K H' v' (.list (((gaps r).map Spot.gap ++ (bwds r).map Spot.zone).map pSpot))
      rw [List.map_append, List.map_map, List.map_map]
      exact hv
theorem spots_zone {r : List Vl} {s : Spot} (h : s ∈ spots r) : ∀ i, s = .zone i → i < r.length := by
  rintro i rfl
  unfold spots at h
  rcases List.mem_append.mp h with h | h
  · obtain ⟨t, _, e⟩ := List.mem_map.mp h
    cases e
  · obtain ⟨t, h1, e⟩ := List.mem_map.mp h
    cases e
    exact bwds_lt h1
theorem S_crowds_in : FnScope ["record", "spot"] ["record"] (defScope s_crowds_in) := ⟨rfl, rfl, rfl, by decide +kernel, rfl, by decide +kernel, by decide +kernel⟩
theorem lf_pI (l : List Int) : lf (pI l) = true := lfs_ints l
theorem g_crowds_in (M : Mo K mg) : FnG P w K mg base 6 "crowds_in" ["record"] (spR K fun r => .list ((crowds r).map pI)) := by
  refine fng M.d_crowds_in S_crowds_in (spP_len fun _ => rfl) (fun f cdv A outer s H vs Q E hr ⟨r, hp, ha, q⟩ => ?_) (fun _ _ _ _ _ _ us hl => match us, hl with | [_], _ => rfl)
  have hl64 : r.length < 64 := hp.len
  have sl := spots_len r
  match vs, ha with
  | [v0], .cons h1 .nil =>
    exact jss_one (js_ret ((JL.jd (jl_lc1 (xs := spots r) (da := pSpot) (pr := fun _ => true) (r := fun sp => pI (crowd r sp)) 1 rfl S_crowds_in.nd (blkOk_by (own := [("spot", 1)]) rfl) (jdi_list (jd_call (g_all_spots M) hr r hp (jds_cons (jd_var 0 rfl h1) jds_nil))) (small1 (by omega)) (by rw [filter_yes, crowds, List.map_map]; rfl)
      (fun sp hsp v H2 s2 hv s0 H0 C cl fp => ⟨jbs_nil, fun _ => jd_call (g_crowd_in M) hr ⟨r, sp⟩ ⟨hp, spots_zone hsp⟩ (jds_cons (jd_var 0 rfl (h1.on s2)) (jds_cons (jd_var 1 rfl hv) jds_nil))⟩) (hlf := fun sp _ _ => lf_pI _))).je fun v' H' s' hv => q _ H' s' hv))
theorem S_greatest_in : FnScope ["record", "some", "most", "crowd"] ["record"] (defScope s_greatest_in) := ⟨rfl, rfl, rfl, by decide +kernel, rfl, by decide +kernel, by decide +kernel⟩
theorem jd_lenI {X : Cx} {e : Expr} {σ : L2.St} {H : Hp} {p pos : Pos} {c : List Int} (hm : X.mg "len" = none) (ha : JD X e σ H (pI c)) (hg : Gl X "len" := by rfl) (he : starEach [e] X.env = (false, eval e X.env) :: starEach [] X.env := by rfl) (hpl : (backTo pos (starEach [] X.env)).any (·.1) = false := by rfl) :
    JD X (.Call (.Name "len" p) [e] [] pos) σ H (.int (c.length : Int)) := by
  have := jd_lenT (p := p) hm ha hg he hpl
  rw [List.length_map] at this
  exact this
theorem jb_eqI {X : Cx} {a b : Expr} {σ : L2.St} {H : Hp} {pos : Pos} {i j : Int} (ha : JD X a σ H (.int i)) (hb : JD X b σ H (.int j)) : JB X (.Compare a [.Eq] [b] pos) σ H (decide (i = j)) := by
  have e : decide (V.int i = V.int j) = decide (i = j) := by simp
  rw [← e]
  exact jb_eqS ha.int hb.int rfl
theorem jb_neI {X : Cx} {a b : Expr} {σ : L2.St} {H : Hp} {pos : Pos} {i j : Int} (ha : JD X a σ H (.int i)) (hb : JD X b σ H (.int j)) : JB X (.Compare a [.NotEq] [b] pos) σ H (!decide (i = j)) := by
  have e : decide (V.int i = V.int j) = decide (i = j) := by simp
  rw [← e]
  exact jb_neS ha.int hb.int rfl
theorem crowds_len (r : List Vl) : (crowds r).length ≤ r.length + r.length := by
  unfold crowds
  rw [List.length_map]
  exact spots_len r
theorem g_greatest_in (M : Mo K mg) : FnG P w K mg base 7 "greatest_in" ["record"] (spR K fun r => .list ((greatest r).map pI)) := by
  refine fng M.d_greatest_in S_greatest_in (spP_len fun _ => rfl) (fun f cdv A outer s H vs Q E hr ⟨r, hp, ha, q⟩ => ?_) (fun _ _ _ _ _ _ us hl => match us, hl with | [_], _ => rfl)
  have hl64 : r.length < 64 := hp.len
  have cl := crowds_len r
  match vs, ha with
  | [v0], .cons h1 .nil =>
    refine jss_set 1 S_greatest_in.nd (JL.jd (jl_lst (ds := pI [] :: ((crowds r).map pI ++ [])) (jds_cons (jd_tup jds_nil (small1 (by simp))) (jds_starL (jd_call (g_crowds_in M) hr r hp (jds_cons (jd_var 0 rfl h1) jds_nil)) jds_nil)) (small1 (by simp; omega)))) fun v H1 s1 hv => ?_
    have e : pI [] :: ((crowds r).map pI ++ []) = ([] :: crowds r).map pI := by rw [List.append_nil, List.map_cons]
    rw [e] at hv
    refine jss_set 2 S_greatest_in.nd (jd_max (ns := 0 :: (crowds r).map fun c => (c.length : Int)) (m := most r) rfl M.f_max (JL.jd (jl_lc1 (xs := [] :: crowds r) (da := pI) (pr := fun _ => true) (r := fun c => PyData.int (c.length : Int)) 3 rfl S_greatest_in.nd (blkOk_by (own := [("crowd", 3)]) rfl) (jdi_list (jd_var 1 rfl hv)) (small1 (by simp; omega)) (by rw [filter_yes, List.map_cons, List.map_cons, List.map_map]; rfl)
      (fun c hc v H2 s2 hv s0 H0 C cl fp => ⟨jbs_nil, fun _ => jd_lenI M.f_len (jd_var 3 rfl hv)⟩))) (by simp) (fun k k1 k2 => maxL_only k1 k2)) fun v2 H2 s2 hv2 => ?_
    cases hv2
    refine jss_one (js_ret ((JL.jd (jl_lc1 (xs := [] :: crowds r) (da := pI) (pr := fun c => decide ((c.length : Int) = most r)) (r := pI) 3 rfl S_greatest_in.nd (blkOk_by (own := [("crowd", 3)]) rfl) (jdi_list (jd_var 1 rfl (hv.on s2))) (small1 (by simp; omega)) rfl
      (fun c hc v H3 s3 hv s0 H0 C cl fp => ⟨jbs_one (jb_eqI (jd_lenI M.f_len (jd_var 3 rfl hv)) (jv_var 2 rfl).int), fun _ => jd_var 3 rfl hv⟩) (hlf := fun c _ _ => lf_pI _))).je fun v' H' s' hv => q _ H' (s1.trans (s2.trans s')) hv))
theorem S_many_in : FnScope ["record"] ["record"] (defScope s_many_in) := ⟨rfl, rfl, rfl, by decide +kernel, rfl, by decide +kernel, by decide +kernel⟩
theorem g_many_in (M : Mo K mg) : FnG P w K mg base 8 "many_in" ["record"] (spR K fun r => .int (most r)) := by
  refine fng M.d_many_in S_many_in (spP_len fun _ => rfl) (fun f cdv A outer s H vs Q E hr ⟨r, hp, ha, q⟩ => ?_) (fun _ _ _ _ _ _ us hl => match us, hl with | [_], _ => rfl)
  match vs, ha with
  | [v0], .cons h1 .nil =>
    obtain ⟨c, cs, e⟩ := List.exists_cons_of_ne_nil (greatest_ne r)
    have hc : (c.length : Int) = most r := greatest_len r (by rw [e]; exact List.mem_cons_self)
    refine jss_one (js_ret ((jd_lenT (ds := c.map PyData.int) M.f_len (jd_ixL (ds := (greatest r).map pI) (jd_call (g_greatest_in M) hr r hp (jds_cons (jd_var 0 rfl h1) jds_nil)) jd_int (by rw [e]; exact atI0))).je fun v' H' s' hv => q _ H' s' ?_))
    rw [List.length_map, hc] at hv
    exact hv
end
end K28
-- KJ5
/-! KJ5: dicts by ints, instances. -/
namespace K28
open PySem PySem.Spec PyProof.Rows L2
/-! ### association lists -/
section
variable {α : Type}
def getM (m : List (Int × α)) (k : Int) : Option α := (m.find? fun p => decide (p.1 = k)).map (·.2)
def putM (m : List (Int × α)) (k : Int) (x : α) : List (Int × α) := if (m.any fun p => decide (p.1 = k)) = true then m.map (fun p => if p.1 = k then (p.1, x) else p) else m ++ [(k, x)]
def keysM (m : List (Int × α)) : List Int := m.map (·.1)
theorem anyM {m : List (Int × α)} {k : Int} : (m.any fun p => decide (p.1 = k)) = true ↔ k ∈ keysM m := by
  rw [List.any_eq_true]
  constructor
  · rintro ⟨q, h1, h2⟩
    have h2 : q.1 = k := of_decide_eq_true h2
    rw [← h2]
    exact List.mem_map_of_mem h1
  · intro h
    obtain ⟨q, h1, h2⟩ := List.mem_map.mp h
    exact ⟨q, h1, decide_eq_true h2⟩
theorem getM_nil (k : Int) : getM ([] : List (Int × α)) k = none := rfl
theorem getM_cons (p : Int × α) (m : List (Int × α)) (k : Int) : getM (p :: m) k = if p.1 = k then some p.2 else getM m k := by
  unfold getM
  rw [List.find?_cons]
  by_cases h : p.1 = k
  · simp [h]
  · simp [h]
theorem getM_app (m : List (Int × α)) (k j : Int) (x : α) : getM (m ++ [(k, x)]) j = (getM m j).orElse fun _ => if k = j then some x else none := by
  induction m with
  | nil =>
    rw [List.nil_append, getM_cons, getM_nil]
    rfl
  | cons p m ih =>
    rw [List.cons_append, getM_cons, getM_cons, ih]
    by_cases h : p.1 = j
    · simp [h]
    · simp [h]
theorem getM_map (m : List (Int × α)) (k j : Int) (x : α) : getM (m.map fun p => if p.1 = k then (p.1, x) else p) j = if j = k then (if (getM m j).isSome = true then some x else none) else getM m j := by
  induction m with
  | nil => by_cases h : j = k <;> simp [getM_nil, h]
  | cons p m ih =>
    rw [List.map_cons, getM_cons, getM_cons, ih]
    by_cases h : p.1 = k
    · rw [if_pos h]
      by_cases h2 : p.1 = j
      · rw [if_pos h2, if_pos h2, if_pos (by omega)]
        simp
      · rw [if_neg h2, if_neg h2]
    · rw [if_neg h]
      by_cases h2 : p.1 = j
      · rw [if_pos h2, if_pos h2, if_neg (by omega)]
      · rw [if_neg h2, if_neg h2]
theorem getM_none {m : List (Int × α)} {k : Int} : getM m k = none ↔ k ∉ keysM m := by
  induction m with
  | nil => simp [getM_nil, keysM]
  | cons p m ih =>
    rw [getM_cons]
    unfold keysM at ih ⊢
    rw [List.map_cons, List.mem_cons, not_or]
    by_cases h : p.1 = k
    · rw [if_pos h]
      exact ⟨fun q => (nomatch q), fun q => absurd h.symm q.1⟩
    · rw [if_neg h, ih]
      exact ⟨fun q => ⟨fun z => h z.symm, q⟩, fun q => q.2⟩
theorem getM_some {m : List (Int × α)} {k : Int} : (getM m k).isSome = true ↔ k ∈ keysM m := by
  cases e : getM m k with
  | none => simp [getM_none.mp e]
  | some x =>
    simp only [Option.isSome_some, true_iff]
    refine Classical.byContradiction fun h => ?_
    rw [getM_none.mpr h] at e
    cases e
theorem getM_put (m : List (Int × α)) (k j : Int) (x : α) : getM (putM m k x) j = if j = k then some x else getM m j := by
  unfold putM
  by_cases h : (m.any fun p => decide (p.1 = k)) = true
  · rw [if_pos h, getM_map]
    by_cases h2 : j = k
    · rw [if_pos h2, if_pos h2, h2, if_pos (getM_some.mpr (anyM.mp h))]
    · rw [if_neg h2, if_neg h2]
  · rw [if_neg h, getM_app]
    by_cases h2 : j = k
    · rw [if_pos h2, h2, getM_none.mpr fun z => h (anyM.mpr z), if_pos rfl]
      rfl
    · rw [if_neg h2, if_neg (fun z => h2 z.symm)]
      cases getM m j <;> rfl
theorem keys_put (m : List (Int × α)) (k : Int) (x : α) : keysM (putM m k x) = if k ∈ keysM m then keysM m else keysM m ++ [k] := by
  unfold putM
  by_cases h : (m.any fun p => decide (p.1 = k)) = true
  · rw [if_pos h, if_pos (anyM.mp h)]
    unfold keysM
    rw [List.map_map]
    refine List.map_congr_left fun q _ => ?_
    show (if q.1 = k then (q.1, x) else q).1 = q.1
    split <;> rfl
  · rw [if_neg h, if_neg fun z => h (anyM.mpr z)]
    unfold keysM
    rw [List.map_append]
    rfl
theorem len_put (m : List (Int × α)) (k : Int) (x : α) : (putM m k x).length ≤ m.length + 1 := by
  unfold putM
  split <;> simp
/-- the dict of such a list -/
def KD (K : PySem.W.Frag) (H : Hp) (da : α → PyData) : List (Key × V) → List (Int × α) → Prop := Paired fun p q => p.1 = Sum.inl q.1 ∧ Dp K H p.2 (da q.2)
def DM (K : PySem.W.Frag) (H : Hp) (a : Addr) (da : α → PyData) (m : List (Int × α)) : Prop := ∃ kvs, H a = some (.dK kvs) ∧ KD K H da kvs m
variable {K : PySem.W.Frag} {H H' : Hp} {da : α → PyData} {kvs : List (Key × V)} {m : List (Int × α)} {a : Addr}
theorem KD.on (h : KD K H da kvs m) (s : Same H H') : KD K H' da kvs m := Paired.mapP h fun _ _ q => ⟨q.1, q.2.on s⟩
theorem KD.tups (h : KD K H da kvs m) (s : TupS H H') (hl : ∀ x, lf (da x) = true) : KD K H' da kvs m := Paired.mapP h fun _ _ q => ⟨q.1, dp_tups s _ _ (hl _) q.2⟩
theorem DM.on (h : DM K H a da m) (s : Same H H') : DM K H' a da m := let ⟨kvs, h1, h2⟩ := h; ⟨kvs, s _ _ h1, h2.on s⟩
theorem KD.len (h : KD K H da kvs m) : kvs.length = m.length := Paired.length h
theorem KD.keys (h : KD K H da kvs m) : kvs.map (·.1) = (keysM m).map Sum.inl := by
  unfold KD at h
  induction h with
  | nil => rfl
  | cons h t ih =>
    unfold keysM at ih ⊢
    rw [List.map_cons, List.map_cons, List.map_cons, ih, h.1]
theorem KD.get (h : KD K H da kvs m) (k : Int) : (valV kvs (Sum.inl k) = none ∧ getM m k = none) ∨ ∃ v x, valV kvs (Sum.inl k) = some v ∧ getM m k = some x ∧ Dp K H v (da x) := by
  unfold KD at h
  induction h with
  | nil => exact .inl ⟨rfl, rfl⟩
  | @cons p q ps qs h t ih =>
    have e : valV (p :: ps) (Sum.inl k) = if p.1 = Sum.inl k then some p.2 else valV ps (Sum.inl k) := by
      unfold valV
      rw [List.find?_cons]
      by_cases h : p.1 = Sum.inl k
      · simp [h]
      · simp [h]
    rw [e, getM_cons]
    by_cases hk : q.1 = k
    · rw [if_pos (by rw [h.1, hk]), if_pos hk]
      exact .inr ⟨_, _, rfl, rfl, h.2⟩
    · rw [if_neg (by rw [h.1]; exact fun z => hk (Sum.inl.inj z)), if_neg hk]
      exact ih
theorem KD.put (h : KD K H da kvs m) {k : Int} {v : V} {x : α} (hv : Dp K H v (da x)) : KD K H da (putK kvs (Sum.inl k) v) (putM m k x) := by
  have e : (kvs.any fun kv => decide (kv.1 = (Sum.inl k : Key))) = (m.any fun p => decide (p.1 = k)) := by
    unfold KD at h
    induction h with
    | nil => rfl
    | @cons p q ps qs h t ih =>
      rw [List.any_cons, List.any_cons, ih, h.1]
      congr 1
      by_cases z : q.1 = k
      · rw [decide_eq_true z, decide_eq_true (by rw [z])]
      · rw [decide_eq_false z, decide_eq_false fun y => z (Sum.inl.inj y)]
  unfold putK putM
  rw [e]
  by_cases hh : (m.any fun p => decide (p.1 = k)) = true
  · rw [if_pos hh, if_pos hh]
    clear e hh
    unfold KD at h ⊢
    induction h with
    | nil => exact .nil
    | @cons p q ps qs h t ih =>
      rw [List.map_cons, List.map_cons]
      refine .cons ?_ ih
      by_cases z : q.1 = k
      · rw [if_pos z, if_pos (by rw [h.1, z])]
        exact ⟨h.1, hv⟩
      · rw [if_neg z, if_neg (by rw [h.1]; exact fun y => z (Sum.inl.inj y))]
        exact h
  · rw [if_neg hh, if_neg hh]
    clear e hh
    unfold KD at h ⊢
    induction h with
    | nil => exact .cons ⟨rfl, hv⟩ .nil
    | cons h t ih => exact .cons h ih
theorem DM.nil {p : Addr} (h : H p = some (.dK [])) : DM K H p da [] := ⟨[], h, .nil⟩
end
section
variable {α : Type} {X : Cx} {e a b c o i f : Expr} {es : List Expr} {st : Stmt} {sts : List Stmt} {σ : L2.St} {H H' : Hp} {D : Ends} {p pos apos : Pos} {d : PyData} {v : V} {da : α → PyData} {m : List (Int × α)} {k : Int} {x : α}
/-- e gives a dict that holds m -/
def JM (X : Cx) (e : Expr) (σ : L2.St) (H : Hp) (da : α → PyData) (m : List (Int × α)) : Prop := ∀ H1, Same H H1 → ∀ Q : VK, (∀ a H2, Same H1 H2 → DM X.K H2 a da m → Q (.ref a) H2) → JE X e σ H1 Q
theorem JV.jm {q : Addr} (h : JV X e σ H (.ref q)) (hm : DM X.K H q da m) : JM X e σ H da m := fun H1 s Q z => h H1 s Q fun H2 s2 => z q H2 s2 (hm.on (s.trans s2))
theorem jd_dget {n : Nat} (hr : Room n X.A) (ho : JM X o σ H da m) (hi : JD X i σ H (.int k)) (hk : getM m k = some x) (hs : NoSl i := by exact fun _ _ => rfl) : JD X (.Subscript o i pos) σ H (da x) := fun H1 s Q q =>
  je_of (pe_dget (by have := hr.un; omega) pej pej hs) (ho H1 s _ fun a H2 s2 hm => hi.int H2 (s.trans s2) _ fun H3 s3 => by
    obtain ⟨kvs, h1, h2⟩ := hm.on s3
    rcases h2.get k with ⟨_, z⟩ | ⟨v, y, z1, z2, z3⟩
    · rw [hk] at z; cases z
    · rw [hk] at z2
      cases z2
      refine ⟨a, v, rfl, ?_, q v H3 (s2.trans s3) z3⟩
      rw [← z1]
      exact DGet.k (k := Sum.inl k) h1)
theorem jd_dget2 {n : Nat} (hr : Room n X.A) (ho : JM X o σ H da m) (hi : JD X i σ H (.int k)) (hf : JD X f σ H d) (y : PyData) (hy : (match getM m k with | some x => da x | none => d) = y) (mm : M2 X o "get" apos i f pos := by exact ⟨rfl, rfl, rfl, rfl⟩) : JD X (.Call (.Attribute o "get" apos) [i, f] [] pos) σ H y := fun H1 s Q q =>
  je_of (pe_dget2 (by have := hr.un; omega) pej pej pej mm) (ho H1 s _ fun a H2 s2 hm => by
    obtain ⟨kvs, h1, h2⟩ := hm
    refine ⟨a, rfl, .inl ⟨kvs, .inl h1⟩, hi.int H2 (s.trans s2) _ fun H3 s3 => hf H3 (s.trans (s2.trans s3)) _ fun z H4 s4 hz => ?_⟩
    refine ⟨valV kvs (Sum.inl k), DGet.k (k := Sum.inl k) ((s3.trans s4) _ _ h1), ?_⟩
    rcases (h2.on (s3.trans s4)).get k with ⟨z1, z2⟩ | ⟨v, y, z1, z2, z3⟩
    · rw [z2] at hy
      subst hy
      rw [z1]
      exact q _ _ (s2.trans (s3.trans s4)) hz
    · rw [z2] at hy
      subst hy
      rw [z1]
      exact q _ _ (s2.trans (s3.trans s4)) z3)
theorem jb_din {n : Nat} (hr : Room n X.A) (hi : JD X i σ H (.int k)) (ho : JM X o σ H da m) (h1 : behindInMarks .In o = false := by first | exact nobehind _ (by decide) (by decide) | rfl) : JB X (.Compare i [.In] [o] pos) σ H (getM m k).isSome := fun H1 s Q q =>
  jt_of (pt_cmp (pc_din (by have := hr.un; omega) pej pej) h1) (hi.int H1 s _ fun H2 s2 => ho H2 (s.trans s2) _ fun a H3 s3 hm => by
    obtain ⟨kvs, h1, h2⟩ := hm
    refine ⟨a, valV kvs (Sum.inl k), rfl, DGet.k (k := Sum.inl k) h1, _, rfl, ?_⟩
    have e : (valV kvs (Sum.inl k)).isSome = (getM m k).isSome := by
      rcases h2.get k with ⟨z1, z2⟩ | ⟨v, y, z1, z2, z3⟩ <;> rw [z1, z2] <;> rfl
    rw [e]
    exact q H3 (s2.trans s3))
theorem jb_dnotin {n : Nat} (hr : Room n X.A) (hi : JD X i σ H (.int k)) (ho : JM X o σ H da m) (h1 : behindInMarks .NotIn o = false := by first | exact nobehind _ (by decide) (by decide) | rfl) : JB X (.Compare i [.NotIn] [o] pos) σ H (!(getM m k).isSome) := fun H1 s Q q =>
  jt_of (pt_cmp (pc_dnotin (by have := hr.un; omega) pej pej) h1) (hi.int H1 s _ fun H2 s2 => ho H2 (s.trans s2) _ fun a H3 s3 hm => by
    obtain ⟨kvs, h1, h2⟩ := hm
    refine ⟨a, valV kvs (Sum.inl k), rfl, DGet.k (k := Sum.inl k) h1, _, rfl, ?_⟩
    have e : (valV kvs (Sum.inl k)).isSome = (getM m k).isSome := by
      rcases h2.get k with ⟨z1, z2⟩ | ⟨v, y, z1, z2, z3⟩ <;> rw [z1, z2] <;> rfl
    rw [e]
    exact q H3 (s2.trans s3))
theorem jd_din {n : Nat} (hr : Room n X.A) (hi : JD X i σ H (.int k)) (ho : JM X o σ H da m) (h1 : behindInMarks .In o = false := by first | exact nobehind _ (by decide) (by decide) | rfl) : JD X (.Compare i [.In] [o] pos) σ H (.bool (getM m k).isSome) := fun H1 s Q q =>
  je_of (pe_cmp (pc_din (by have := hr.un; omega) pej pej) h1) (hi.int H1 s _ fun H2 s2 => ho H2 (s.trans s2) _ fun a H3 s3 hm => by
    obtain ⟨kvs, h1, h2⟩ := hm
    refine ⟨a, valV kvs (Sum.inl k), rfl, DGet.k (k := Sum.inl k) h1, ?_⟩
    have e : (valV kvs (Sum.inl k)).isSome = (getM m k).isSome := by
      rcases h2.get k with ⟨z1, z2⟩ | ⟨v, y, z1, z2, z3⟩ <;> rw [z1, z2] <;> rfl
    rw [e]
    exact q _ H3 (s2.trans s3) (.bl _))
theorem jl_sortedM (hc : X.calm = true) (hm : X.mg "sorted" = none) (ha : JM X e σ H da m) (h64 : m.length < 64) (hg : Gl X "sorted" := by rfl) (he : starEach [e] X.env = (false, eval e X.env) :: starEach [] X.env := by rfl) (hpl : (backTo pos (starEach [] X.env)).any (·.1) = false := by rfl) :
    JL X (.Call (.Name "sorted" p) [e] [] pos) σ H ((srt (keysM m)).map PyData.int) := fun H1 s Q q =>
  je_blt (call_sortedDI hc) hm rfl (ja_of (pa_cons pej pa_nil he) (ha H1 s _ fun a H2 s2 hm => by
    obtain ⟨kvs, h1, h2⟩ := hm
    refine ⟨a, kvs, keysM m, rfl, .inl h1, h2.keys, by unfold keysM; rw [List.length_map]; exact h64, fun ys l h3 h4 hl => ?_⟩
    rw [srt_only h3 h4]
    exact q l _ _ (s2.trans (same_new hl)) (same_none s2 hl) upd_same (DpAll.ofInts _))) hg he hpl
/-- dict(d): a new one -/
def JMF (X : Cx) (e : Expr) (σ : L2.St) (H : Hp) (da : α → PyData) (m : List (Int × α)) : Prop := ∀ H1, Same H H1 → ∀ Q : VK, (∀ a H2, Same H1 H2 → H1 a = none → DM X.K H2 a da m → Q (.ref a) H2) → JE X e σ H1 Q
theorem JMF.je {Q : VK} (h : JMF X e σ H da m) (q : ∀ a H2, Same H H2 → H a = none → DM X.K H2 a da m → Q (.ref a) H2) : JE X e σ H Q := h H (Same.refl H) Q q
theorem JM.je {Q : VK} (h : JM X e σ H da m) (q : ∀ a H2, Same H H2 → DM X.K H2 a da m → Q (.ref a) H2) : JE X e σ H Q := h H (Same.refl H) Q q
theorem JMF.jm (h : JMF X e σ H da m) : JM X e σ H da m := fun H1 s Q q => h H1 s Q fun a H2 s2 _ => q a H2 s2
theorem jmf_dict (hm : X.mg "dict" = none) (ha : JM X e σ H da m) (hg : Gl X "dict" := by rfl) (he : starEach [e] X.env = (false, eval e X.env) :: starEach [] X.env := by rfl) (hpl : (backTo pos (starEach [] X.env)).any (·.1) = false := by rfl) : JMF X (.Call (.Name "dict" p) [e] [] pos) σ H da m := fun H1 s Q q =>
  je_ty call_dictD hm rfl (ja_of (pa_cons pej pa_nil he) (ha H1 s _ fun a H2 s2 hm => by
    obtain ⟨kvs, h1, h2⟩ := hm
    exact ⟨a, kvs, rfl, .inl h1, fun l hl => q l _ (s2.trans (same_new hl)) (same_none s2 hl) ⟨kvs, upd_same, h2.on (same_new hl)⟩⟩)) hg he hpl
theorem jmf_new : JMF X (.Dict [] [] pos) σ H da [] := fun H1 s Q q => je_of pe_dnewK fun l hl => q l _ (same_new hl) hl (DM.nil upd_same)
theorem same_upd {H1 : Hp} {p : Addr} {o : HO} (s : Same H H1) (h : H p = none) : Same H (upd H1 p o) := fun b u e => by
  rw [upd_ne (ne_of_none e h)]
  exact s _ _ e
theorem tups_dK {q : Addr} {ob : HO} {kvs : List (Key × V)} (h : H q = some (.dK kvs)) : TupS H (upd H q ob) := tups_upd h (fun _ z => nomatch z) fun _ _ z => nomatch z
/-- d[k] = v -/
theorem jss_dput {n : Nat} {q : Addr} {value : Expr} {pos' : Pos} (hr : Room n X.A) (ho : JV X o σ H (.ref q)) (hi : JD X i σ H (.int k)) (hv : JD X value σ H (da x)) (hm : DM X.K H q da m) (hl : m.length < sizeLine) (hlf : ∀ x, lf (da x) = true)
    (h : ∀ H1 kvs, Same H H1 → H1 q = some (.dK kvs) → DM X.K (upd H1 q (.dK (putK kvs (Sum.inl k) v))) q da (putM m k x) → JSs X sts D σ (upd H1 q (.dK (putK kvs (Sum.inl k) v)))) (hh : ∀ u H1, Same H H1 → Dp X.K H1 u (da x) → u = v)
    (hs : swapsWith value (some (.Subscript o i pos')) pos.line X.env = pure false := by rfl) : JSs X (.Assign [.Subscript o i pos'] value pos :: sts) D σ H :=
  jss_cons (js_of (ps_dput (by have := hr.un; omega) pej pej pej hs) (hv H (Same.refl H) _ fun u H1 s1 hu => ho H1 s1 _ fun H2 s2 => hi.int H2 (s1.trans s2) _ fun H3 s3 => by
    have e := hh u H1 s1 hu
    subst e
    obtain ⟨kvs, h1, h2⟩ := hm.on (s1.trans (s2.trans s3))
    refine ⟨q, _, rfl, DPut.k (k := Sum.inl k) h1 (by rw [h2.len]; exact hl), h H3 kvs (s1.trans (s2.trans s3)) h1 ⟨_, upd_same, ?_⟩⟩
    exact (h2.put (hu.on (s2.trans s3))).tups (tups_dK h1) hlf))
theorem jss_dputD {n : Nat} {q : Addr} {value : Expr} {pos' : Pos} (hr : Room n X.A) (ho : JV X o σ H (.ref q)) (hi : JD X i σ H (.int k)) (hv : JD X value σ H (da x)) (hm : DM X.K H q da m) (hl : m.length < sizeLine) (hlf : ∀ x, lf (da x) = true)
    (h : ∀ H1 ob, Same H H1 → DM X.K (upd H1 q ob) q da (putM m k x) → JSs X sts D σ (upd H1 q ob))
    (hs : swapsWith value (some (.Subscript o i pos')) pos.line X.env = pure false := by rfl) : JSs X (.Assign [.Subscript o i pos'] value pos :: sts) D σ H :=
  jss_cons (js_of (ps_dput (by have := hr.un; omega) pej pej pej hs) (hv H (Same.refl H) _ fun u H1 s1 hu => ho H1 s1 _ fun H2 s2 => hi.int H2 (s1.trans s2) _ fun H3 s3 => by
    obtain ⟨kvs, h1, h2⟩ := hm.on (s1.trans (s2.trans s3))
    refine ⟨q, _, rfl, DPut.k (k := Sum.inl k) h1 (by rw [h2.len]; exact hl), h H3 _ (s1.trans (s2.trans s3)) ⟨_, upd_same, ?_⟩⟩
    exact (h2.put (hu.on (s2.trans s3))).tups (tups_dK h1) hlf))
/-- e.f -/
theorem jv_fld {f : Str} {q C dx : Addr} {fs : List (Str × V)} {u : V} (h : JV X e σ H (.ref q)) (hq : H q = some (.ins C dx fs)) (cl : Cls X.K C) (na : NoAttr X.K C f) (l : fs.lookup f = some u) (hb : attributeBase e f X.env (eval e X.env) = eval e X.env := by rfl) : JV X (.Attribute e f pos) σ H u := fun H1 s Q z =>
  je_fld (h H1 s _ fun H2 s2 => ⟨q, C, dx, fs, u, rfl, (s.trans s2) _ _ hq, cl, na, l, z H2 s2⟩) hb
end
end K28
-- KJ6
/-! KJ6: loops, tuples cut and joined, lists that grow. -/
namespace K28
open PySem PySem.Spec PyProof.Rows L2
theorem ne_of_none' {H : Hp} {a b : Addr} {o : HO} (h : H a = some o) (h' : H b = none) : b ≠ a := Ne.symm (ne_of_none h h')
theorem small1' {n : Nat} (h : n ≤ 2000) : n < sizeLine := by rw [sizeLine_eq]; omega
section
variable {K : PySem.W.Frag} {H : Hp} {vs : List V} {d1 d2 d3 d4 : PyData}
theorem dpa1 (h : DpAll K H vs [d1]) : ∃ v1, vs = [v1] ∧ Dp K H v1 d1 := by
  cases h with
  | cons h1 h => cases h; exact ⟨_, rfl, h1⟩
theorem dpa2 (h : DpAll K H vs [d1, d2]) : ∃ v1 v2, vs = [v1, v2] ∧ Dp K H v1 d1 ∧ Dp K H v2 d2 := by
  cases h with
  | cons h1 h => obtain ⟨v2, rfl, h2⟩ := dpa1 h; exact ⟨_, _, rfl, h1, h2⟩
theorem dpa3 (h : DpAll K H vs [d1, d2, d3]) : ∃ v1 v2 v3, vs = [v1, v2, v3] ∧ Dp K H v1 d1 ∧ Dp K H v2 d2 ∧ Dp K H v3 d3 := by
  cases h with
  | cons h1 h => obtain ⟨v2, v3, rfl, h2⟩ := dpa2 h; exact ⟨_, _, _, rfl, h1, h2⟩
theorem dpa4 (h : DpAll K H vs [d1, d2, d3, d4]) : ∃ v1 v2 v3 v4, vs = [v1, v2, v3, v4] ∧ Dp K H v1 d1 ∧ Dp K H v2 d2 ∧ Dp K H v3 d3 ∧ Dp K H v4 d4 := by
  cases h with
  | cons h1 h => obtain ⟨v2, v3, v4, rfl, h2⟩ := dpa3 h; exact ⟨_, _, _, _, rfl, h1, h2⟩
end
section
variable {X : Cx} {e a b c o iter tg lo hi : Expr} {es : List Expr} {st : Stmt} {body sts : List Stmt} {σ : L2.St} {H H' : Hp} {D : Ends} {p p2 pos apos tpos : Pos} {d : PyData} {v : V} {ds ds2 : List PyData}
/-! ### tuples -/
theorem jd_catT (ha : JD X a σ H (.tuple ds)) (hb : JD X b σ H (.tuple ds2)) (hz : ds.length + ds2.length ≤ sizeLine) : JD X (.BinOp a .Add b pos) σ H (.tuple (ds ++ ds2)) := fun H1 s Q q =>
  je_of (pe_op op_catA pej pej) (ha H1 s _ fun u H2 s2 hu => hb H2 (s.trans s2) _ fun w H3 s3 hw => by
    cases hu with
    | @tup a1 xs _ h1 h2 =>
      cases hw with
      | @tup a2 ys _ k1 k2 =>
        have h1' := same_sqt s3 h1
        have h2' := h2.on s3
        refine ⟨a1, a2, xs, ys, rfl, rfl, h1', k1, by rw [h2.len, k2.len]; exact hz, fun e => ?_, fun e1 e2 => ?_, fun _ _ p hp => ?_⟩
        · subst e
          cases h2
          exact q _ _ (s2.trans s3) (.tup k1 k2)
        · subst e2
          cases k2
          exact q _ _ (s2.trans s3) (.tup h1' (by rw [List.append_nil]; exact h2'))
        · exact q _ _ ((s2.trans s3).trans (same_new hp)) (.tup (SqT.of upd_same) (DpAll.app (h2'.on (same_new hp)) (k2.on (same_new hp)))))
/-- the items of ds[lo:hi] -/
def cutD (ds : List PyData) (lo hi : Option Int) : List PyData := (ds.drop (HT.sIx ds.length 0 lo)).take (HT.sIx ds.length ds.length hi - HT.sIx ds.length 0 lo)
theorem DpAll.drop {K : PySem.W.Frag} {H : Hp} : ∀ {vs : List V} {ds : List PyData} (n : Nat), DpAll K H vs ds → DpAll K H (vs.drop n) (ds.drop n)
  | _, _, 0, h => by simpa using h
  | _, _, n + 1, .nil => by simpa using DpAll.nil
  | _, _, n + 1, .cons _ t => by simpa using DpAll.drop n t
theorem DpAll.take {K : PySem.W.Frag} {H : Hp} : ∀ {vs : List V} {ds : List PyData} (n : Nat), DpAll K H vs ds → DpAll K H (vs.take n) (ds.take n)
  | _, _, 0, h => by simpa using DpAll.nil
  | _, _, n + 1, .nil => by simpa using DpAll.nil
  | _, _, n + 1, .cons h t => by simpa using DpAll.cons h (DpAll.take n t)
theorem cut_d {K : PySem.W.Frag} {H : Hp} {vs : List V} {ds : List PyData} (h : DpAll K H vs ds) (lo hi : Option Int) : DpAll K H (cutV vs lo hi) (cutD ds lo hi) := by
  unfold cutV cutD
  rw [h.len]
  exact DpAll.take _ (DpAll.drop _ h)
/-- a slice's part -/
def JO (X : Cx) (e : Option Expr) (σ : L2.St) (H : Hp) (o : Option Int) : Prop := ∃ t : TO, PO X e t ∧ ∀ H1, Same H H1 → ∀ Q : Option Int → Hp → Prop, (∀ H2, Same H1 H2 → Q o H2) → t σ H1 Q
theorem jo_none : JO X none σ H none := ⟨tNoPart, po_none, fun H1 s Q q => q H1 (Same.refl H1)⟩
theorem jo_some {i : Int} (h : JD X e σ H (.int i)) : JO X (some e) σ H (some i) := ⟨tPart (JE X e), po_some pej, fun H1 s Q q => h.int H1 s _ fun H2 s2 => ⟨i, rfl, q H2 s2⟩⟩
theorem JO.on {e : Option Expr} {i : Option Int} (h : JO X e σ H i) (s : Same H H') : JO X e σ H' i := let ⟨t, h1, h2⟩ := h; ⟨t, h1, fun H1 s1 => h2 H1 (s.trans s1)⟩
theorem jd_cutT {lo hi : Option Expr} {i j : Option Int} (ha : JD X e σ H (.tuple ds)) (hl : JO X lo σ H i) (hu : JO X hi σ H j) : JD X (.Subscript e (.Slice lo hi none p2) pos) σ H (.tuple (cutD ds i j)) := fun H1 s Q q => by
  obtain ⟨tl, l1, l2⟩ := hl
  obtain ⟨th, u1, u2⟩ := hu
  refine je_of (pe_slice sl_tupA pej l1 u1) (ha H1 s _ fun v H2 s2 hv => l2 H2 (s.trans s2) _ fun H3 s3 => u2 H3 (s.trans (s2.trans s3)) _ fun H4 s4 => ?_)
  cases hv with
  | @tup a1 xs _ h1 h2 =>
    have h1' := same_sqt (s3.trans s4) h1
    have h2' := h2.on (s3.trans s4)
    refine ⟨a1, xs, rfl, h1', fun w => ?_, fun _ p hp => ?_⟩
    · have e : cutD ds i j = ds := by
        have hl := h2.len
        unfold cutD
        rw [hl] at w
        rw [w.1, w.2]
        simp
      exact q _ _ (s2.trans (s3.trans s4)) (by rw [e]; exact .tup h1' h2')
    · exact q _ _ ((s2.trans (s3.trans s4)).trans (same_new hp)) (.tup (SqT.of upd_same) ((cut_d h2' i j).on (same_new hp)))
theorem jl_cutL {lo hi : Option Expr} {i j : Option Int} (ha : JD X e σ H (.list ds)) (hl : JO X lo σ H i) (hu : JO X hi σ H j) : JL X (.Subscript e (.Slice lo hi none p2) pos) σ H (cutD ds i j) := fun H1 s Q q => by
  obtain ⟨tl, l1, l2⟩ := hl
  obtain ⟨th, u1, u2⟩ := hu
  refine je_of (pe_slice sl_list pej l1 u1) (ha H1 s _ fun v H2 s2 hv => l2 H2 (s.trans s2) _ fun H3 s3 => u2 H3 (s.trans (s2.trans s3)) _ fun H4 s4 => ?_)
  cases hv with
  | @lst a1 xs _ h1 h2 =>
    have h2' := h2.on (s3.trans s4)
    exact ⟨a1, xs, rfl, (s3.trans s4).seq h1, fun p hp => q _ _ _ ((s2.trans (s3.trans s4)).trans (same_new hp)) (same_none (s2.trans (s3.trans s4)) hp) upd_same ((cut_d h2' i j).on (same_new hp))⟩
theorem cut_to {n : Nat} : cutD ds none (some (n : Int)) = ds.take n := by
  unfold cutD
  rw [HT.sIx_none, HT.sIx_nat, List.drop_zero, Nat.sub_zero]
  by_cases h : n ≤ ds.length
  · rw [Nat.min_eq_left h]
  · rw [Nat.min_eq_right (by omega), List.take_of_length_le (Nat.le_refl _), List.take_of_length_le (by omega)]
theorem cut_from {n : Nat} : cutD ds (some (n : Int)) none = ds.drop n := by
  unfold cutD
  rw [HT.sIx_none, HT.sIx_nat]
  by_cases h : n ≤ ds.length
  · rw [Nat.min_eq_left h, List.take_of_length_le (by rw [List.length_drop]; exact Nat.le_refl _)]
  · rw [Nat.min_eq_right (by omega), List.drop_of_length_le (Nat.le_refl _), List.drop_of_length_le (by omega)]
    simp
/-! ### is it empty? -/
theorem eqv_nilL : PyData.eqv (.list ds) (.list []) = ds.isEmpty := by
  cases ds <;> simp [PyData.eqv, PyData.eqvAll]
theorem eqv_nilT : PyData.eqv (.tuple ds) (.tuple []) = ds.isEmpty := by
  cases ds <;> simp [PyData.eqv, PyData.eqvAll]
theorem shaped_nilL : SeqAt.shaped (.list []) = true := by decide
theorem shaped_nilT : SeqAt.shaped (.tuple []) = true := by decide
theorem jb_emptyL {k : Nat} (hr : Room k X.A) (ha : JD X a σ H (.list ds)) (hs : SeqAt.shaped (.list ds) = true) : JB X (.Compare a [.Eq] [.List [] p] pos) σ H ds.isEmpty := by
  rw [← eqv_nilL]
  exact jb_eqD hr ha (jl_lst jds_nil (small1 (by simp))).jd hs shaped_nilL
theorem jb_fullL {k : Nat} (hr : Room k X.A) (ha : JD X a σ H (.list ds)) (hs : SeqAt.shaped (.list ds) = true) : JB X (.Compare a [.NotEq] [.List [] p] pos) σ H (!ds.isEmpty) := by
  rw [← eqv_nilL]
  exact jb_neD hr ha (jl_lst jds_nil (small1 (by simp))).jd hs shaped_nilL
theorem jb_fullT {k : Nat} {kt : Nat} (hr : Room k X.A) (ha : JD X a σ H (.tuple ds)) (hs : SeqAt.shaped (.tuple ds) = true) : JB X (.Compare a [.NotEq] [.Tuple [] kt p] pos) σ H (!ds.isEmpty) := by
  rw [← eqv_nilT]
  exact jb_neD hr ha (jd_tup jds_nil (small1 (by simp))) hs shaped_nilT
/-! ### loops that change nothing old -/
theorem js_forD {g : TG} (Pv : Nat → L2.St → Hp → Prop) (hp : PassesOwn (model X.prog X.w) X.A X.env X.xe) (hc : X.calm = true) (hi : JDI X tg iter σ H ds) (hg : PG X tg g) (h0 : ∀ H1, Same H H1 → Pv 0 σ H1)
    (step : ∀ i d v σ1 H1 H2, ds[i]? = some d → Same H H1 → Pv i σ1 H1 → Same H1 H2 → Dp X.K H2 v d → ∀ N : L2.St → Hp → Prop, (∀ σ' H', Same H1 H' → Pv (i + 1) σ' H' → N σ' H') → g v σ1 H2 fun σ2 H3 => JSs X body { D with nx := N, ct := N, bk := D.nx } σ2 H3)
    (hd : ∀ σ1 H1, Same H H1 → Pv ds.length σ1 H1 → D.nx σ1 H1) (hs : ∀ x, foldedSetIterable iter X.env x = pure x := by intro _; rfl) : JS X (.For tg iter body [] pos) D σ H :=
  js_of (ps_for hp hc pij hg pssj hs) (hi H (Same.refl H) _ fun J H2 s2 w => for_it w (fun i σ1 Hc => Same H2 Hc ∧ Pv i σ1 Hc) ⟨Same.refl _, h0 H2 s2⟩ (fun i σ1 Hc _ z => z.1) (fun i x σ1 Hc H' hi2 z y => by
    obtain ⟨sy, d, hd2, hv⟩ := y
    exact step i d x σ1 Hc H' hd2 (s2.trans z.1) z.2 sy hv _ fun σ' H'' s3 pv => ⟨z.1.trans s3, pv⟩) fun σ1 Hc z => hd σ1 Hc (s2.trans z.1) z.2)
theorem js_for1 (i : Nat) {x : Str} {px : Pos} (Pv : Nat → L2.St → Hp → Prop) (hp : PassesOwn (model X.prog X.w) X.A X.env X.xe) (hc : X.calm = true) (hN : X.N.Nodup) (hi : JDI X (.Name x px) iter σ H ds) (h0 : ∀ H1, Same H H1 → Pv 0 σ H1)
    (step : ∀ j d v σ1 H1 H2, ds[j]? = some d → Same H H1 → Pv j σ1 H1 → Same H1 H2 → Dp X.K H2 v d → ∀ N : L2.St → Hp → Prop, (∀ σ' H', Same H1 H' → Pv (j + 1) σ' H' → N σ' H') → JSs X body { D with nx := N, ct := N, bk := D.nx } (σ1.set i (some v)) H2)
    (hd : ∀ σ1 H1, Same H H1 → Pv ds.length σ1 H1 → D.nx σ1 H1) (hx : X.N[i]? = some x := by rfl) (hl : Loc X.env.scope x := by first | exact Or.inl rfl | exact Or.inr rfl) (hf : X.fn x = true ∨ X.env.scope.names.lookup x = some .local := by first | exact .inl rfl | exact .inr rfl)
    (hs : ∀ x, foldedSetIterable iter X.env x = pure x := by intro _; rfl) : JS X (.For (.Name x px) iter body [] pos) D σ H := js_forD (g := gName i) Pv hp hc hi (pg_name hN hx hl hf) h0 step hd hs
theorem js_for2 (i j : Nat) {x y : Str} {px py : Pos} {kt : Nat} (Pv : Nat → L2.St → Hp → Prop) (hp : PassesOwn (model X.prog X.w) X.A X.env X.xe) (hc : X.calm = true) (hN : X.N.Nodup) (hi : JDI X (.Tuple [.Name x px, .Name y py] kt tpos) iter σ H ds) (h0 : ∀ H1, Same H H1 → Pv 0 σ H1)
    (step : ∀ l d1 d2 u v σ1 H1 H2, ds[l]? = some (PyData.tuple [d1, d2]) → Same H H1 → Pv l σ1 H1 → Same H1 H2 → Dp X.K H2 u d1 → Dp X.K H2 v d2 → ∀ N : L2.St → Hp → Prop, (∀ σ' H', Same H1 H' → Pv (l + 1) σ' H' → N σ' H') → JSs X body { D with nx := N, ct := N, bk := D.nx } ((σ1.set i (some u)).set j (some v)) H2)
    (hpair : ∀ (l : Nat) d, ds[l]? = some d → ∃ d1 d2, d = PyData.tuple [d1, d2]) (hd : ∀ σ1 H1, Same H H1 → Pv ds.length σ1 H1 → D.nx σ1 H1) (hx : X.N[i]? = some x := by rfl) (hy : X.N[j]? = some y := by rfl) (hl : Loc X.env.scope x := by first | exact Or.inl rfl | exact Or.inr rfl) (hl2 : Loc X.env.scope y := by first | exact Or.inl rfl | exact Or.inr rfl)
    (hf : X.fn x = true ∨ X.env.scope.names.lookup x = some .local := by first | exact .inl rfl | exact .inr rfl) (hf2 : X.fn y = true ∨ X.env.scope.names.lookup y = some .local := by first | exact .inl rfl | exact .inr rfl) (hs : ∀ x, foldedSetIterable iter X.env x = pure x := by intro _; rfl) :
    JS X (.For (.Tuple [.Name x px, .Name y py] kt tpos) iter body [] pos) D σ H :=
  js_forD (g := gTup X.K 2 (gCons (gName i) (gCons (gName j) gNil))) Pv hp hc hi (pg_tup hc (pgs_cons (pg_name hN hx hl hf) (pgs_cons (pg_name hN hy hl2 hf2) pgs_nil))) h0 (fun l d v σ1 H1 H2 h1 h2 h3 h4 h5 N hN => by
    obtain ⟨d1, d2, e⟩ := hpair l d h1
    subst e
    cases h5 with
    | tup k1 k2 =>
      cases k2 with
      | cons k3 k2 =>
        cases k2 with
        | cons k4 k2 =>
          cases k2
          exact ⟨_, _, rfl, k1, rfl, _, _, rfl, _, _, rfl, rfl, step l d1 d2 _ _ σ1 H1 H2 h1 h2 h3 h4 k3 k4 N hN⟩) hd hs
/-- over a list, what stands of the heap told by Pv -/
theorem js_forL (i : Nat) {x : Str} {px : Pos} (hp : PassesOwn (model X.prog X.w) X.A X.env X.xe) (hc : X.calm = true) (hN : X.N.Nodup)
    (hl : JE X iter σ H fun y H1 => ∃ a xs, ∃ Pv : Nat → L2.St → Hp → Prop, y = .ref a ∧ Pv 0 σ H1 ∧ (∀ j σ1 H2, Pv j σ1 H2 → SqL X.K H2 a xs) ∧ (∀ j v σ1 H2, xs[j]? = some v → Pv j σ1 H2 → JSs X body { D with nx := Pv (j + 1), ct := Pv (j + 1), bk := D.nx } (σ1.set i (some v)) H2) ∧ ∀ σ1 H2, Pv xs.length σ1 H2 → D.nx σ1 H2)
    (hx : X.N[i]? = some x := by rfl) (hlo : Loc X.env.scope x := by first | exact Or.inl rfl | exact Or.inr rfl) (hf : X.fn x = true ∨ X.env.scope.names.lookup x = some .local := by first | exact .inl rfl | exact .inr rfl)
    (hs : ∀ x, foldedSetIterable iter X.env x = pure x := by intro _; rfl) : JS X (.For (.Name x px) iter body [] pos) D σ H :=
  js_of (ps_for hp hc (pi_list pej) (pg_name hN hx hlo hf) pssj hs) (JE.mono hl fun y H1 ⟨a, xs, Pv, h1, h2, h3, h4, h5⟩ => ⟨a, h1, ⟨xs, h3 _ _ _ h2⟩, for_it walk_list Pv h2 (fun j σ1 H2 _ z => h3 j σ1 H2 z) (fun j v σ1 H2 H' hj z y => by
    obtain ⟨e1, e2⟩ := y
    subst e1
    exact h4 j v σ1 _ e2 z) h5⟩)
/-- for x in range(n) -/
theorem js_forR (i : Nat) {x : Str} {px : Pos} {n : Nat} (hp : PassesOwn (model X.prog X.w) X.A X.env X.xe) (hc : X.calm = true) (hN : X.N.Nodup) (hm : X.mg "range" = none)
    (hl : JE X e σ H fun y H1 => y = .int (n : Int) ∧ ∃ Pv : Nat → L2.St → Hp → Prop, Pv 0 σ H1 ∧ (∀ j σ1 H2, j < n → Pv j σ1 H2 → JSs X body { D with nx := Pv (j + 1), ct := Pv (j + 1), bk := D.nx } (σ1.set i (some (.int (j : Int)))) H2) ∧ ∀ σ1 H2, Pv n σ1 H2 → D.nx σ1 H2) (hz : n < 2 ^ 62)
    (hx : X.N[i]? = some x := by rfl) (hlo : Loc X.env.scope x := by first | exact Or.inl rfl | exact Or.inr rfl) (hf : X.fn x = true ∨ X.env.scope.names.lookup x = some .local := by first | exact .inl rfl | exact .inr rfl) (hg : Gl X "range" := by rfl) (he : starEach [e] X.env = [(false, eval e X.env)] := by rfl)
    (hs : ∀ x, foldedSetIterable (.Call (.Name "range" p) [e] [] p2) X.env x = pure x := by intro _; rfl) : JS X (.For (.Name x px) (.Call (.Name "range" p) [e] [] p2) body [] pos) D σ H :=
  js_of (ps_for hp hc (pi_range1 hg hm (pa_cons pej pa_nil he) he) (pg_name hN hx hlo hf) pssj hs) (JE.mono hl fun y H1 ⟨h1, Pv, h2, h3, h4⟩ => by
    subst h1
    refine ⟨(n : Int), rfl, by omega, by omega, ?_⟩
    have e : (n : Int).toNat = n := rfl
    rw [e]
    refine for_it walk_range Pv h2 (fun _ _ _ _ _ => trivial) (fun j v σ1 H2 H' hj z y => ?_) h4
    obtain ⟨e1, e2⟩ := y
    subst e1 e2
    have e3 : (0 : Int) + (j : Int) = (j : Int) := Int.zero_add _
    show gName i (V.int (0 + (j : Int))) σ1 _ _
    rw [e3]
    exact h3 j σ1 _ hj z)
/-! ### fields -/
/-- all but x stands -/
def SameX (x : Addr) (H H' : Hp) : Prop := ∀ b o, b ≠ x → H b = some o → H' b = some o
theorem sx_refl {x : Addr} : SameX x H H := fun _ _ _ e => e
theorem sx_same {x : Addr} {H2 : Hp} (a : SameX x H H') (b : Same H' H2) : SameX x H H2 := fun c o h e => b _ _ (a c o h e)
theorem same_sx {x : Addr} (a : Same H H') : SameX x H H' := fun c o _ e => a _ _ e
theorem sx_trans {x : Addr} {H2 : Hp} (a : SameX x H H') (b : SameX x H' H2) : SameX x H H2 := fun c o h e => b _ _ h (a c o h e)
theorem sx_upd {x : Addr} {u : HO} (a : SameX x H H') : SameX x H (upd H' x u) := fun c o h e => by rw [upd_ne h]; exact a c o h e
/-- o.f = e -/
theorem jss_fldV {f : Str} {q C dx : Addr} {fs : List (Str × V)} {value : Expr} {pos' : Pos} {u : V} (hv : JV X value σ H u) (ho : JV X o σ H (.ref q)) (hq : H q = some (.ins C dx fs)) (cl : Cls X.K C) (na : NoAttr X.K C f) (k : ∀ H1, Same H H1 → JSs X sts D σ (upd H1 q (.ins C dx (putF f u fs)))) (hl : fs.length < 1000 := by first | decide | exact of_decide_eq_true rfl)
    (hs : swapsWith value (some (.Attribute o f pos')) pos.line X.env = pure false := by rfl) : JSs X (.Assign [.Attribute o f pos'] value pos :: sts) D σ H :=
  jss_cons (js_fld (JV.je hv fun H1 s1 => ho H1 s1 _ fun H2 s2 => ⟨q, C, dx, fs, rfl, (s1.trans s2) _ _ hq, cl, na, hl, k H2 (s1.trans s2)⟩) hs)
theorem jss_fldD {f : Str} {q C dx : Addr} {fs : List (Str × V)} {value : Expr} {pos' : Pos} (hv : JD X value σ H d) (ho : JV X o σ H (.ref q)) (hq : H q = some (.ins C dx fs)) (cl : Cls X.K C) (na : NoAttr X.K C f) (k : ∀ u H1, Same H H1 → Dp X.K H1 u d → JSs X sts D σ (upd H1 q (.ins C dx (putF f u fs)))) (hl : fs.length < 1000 := by first | decide | exact of_decide_eq_true rfl)
    (hs : swapsWith value (some (.Attribute o f pos')) pos.line X.env = pure false := by rfl) : JSs X (.Assign [.Attribute o f pos'] value pos :: sts) D σ H :=
  jss_cons (js_fld (JD.je hv fun u H1 s1 hu => ho H1 s1 _ fun H2 s2 => ⟨q, C, dx, fs, rfl, (s1.trans s2) _ _ hq, cl, na, hl, k u H2 (s1.trans s2) (hu.on s2)⟩) hs)
/-! ### lists that grow -/
theorem jss_append {q : Addr} {xs : List V} (ho : JV X o σ H (.ref q)) (ha : JD X e σ H d) (hq : H q = some (.lst xs)) (hz : xs.length < sizeLine) (k : ∀ y H2, Same H H2 → Dp X.K H2 y d → JSs X sts D σ (upd H2 q (.lst (xs ++ [y]))))
    (hb : attributeBase o "append" X.env (eval o X.env) = eval o X.env := by rfl)
    (hfew : ((backTo pos (starEach (e :: []) X.env)).all (fun x => !x.1) && (backToKw pos (keywordEach [] X.env)).all (fun x => x.1.isSome) && decide ((e :: []).length + ([] : List Keyword).length + (if ([] : List Keyword).isEmpty then 0 else 1) < 30)) = true := by rfl)
    (hline : (apos.endLine == pos.line) = true := by rfl) (hs : starEach (e :: []) X.env = (false, eval e X.env) :: starEach [] X.env := by rfl) (hplain : (backTo pos (starEach [] X.env)).any (·.1) = false := by rfl)
    (hsw : swapsWith (.Call (.Attribute o "append" apos) [e] [] pos) none p2.line X.env = pure false := by rfl) : JSs X (.Expr (.Call (.Attribute o "append" apos) [e] [] pos) p2 :: sts) D σ H :=
  jss_cons (js_expr (je_of (pe_bm PySem.F.plainAttrs_list PySem.F.slot_list_append PySem.F.type_list_append mt_append pej (pa_cons pej pa_nil hs) hb hfew hline hs hplain) (ho H (Same.refl H) _ fun H1 s1 =>
    ⟨.inl ⟨rfl, xs, .inl (.inl (s1 _ _ hq))⟩, ha H1 s1 _ fun y H2 s2 hy => ⟨q, xs, y, rfl, rfl, (s1.trans s2) _ _ hq, hz, k y H2 (s1.trans s2) hy⟩⟩)) hsw)
theorem jss_extend {q : Addr} {xs : List V} (ho : JV X o σ H (.ref q)) (ha : JR X e σ H ds) (hq : H q = some (.lst xs)) (hz : xs.length + ds.length ≤ sizeLine) (k : ∀ ys H2, Same H H2 → DpAll X.K H2 ys ds → JSs X sts D σ (upd H2 q (.lst (xs ++ ys))))
    (hb : attributeBase o "extend" X.env (eval o X.env) = eval o X.env := by rfl)
    (hfew : ((backTo pos (starEach (e :: []) X.env)).all (fun x => !x.1) && (backToKw pos (keywordEach [] X.env)).all (fun x => x.1.isSome) && decide ((e :: []).length + ([] : List Keyword).length + (if ([] : List Keyword).isEmpty then 0 else 1) < 30)) = true := by rfl)
    (hline : (apos.endLine == pos.line) = true := by rfl) (hs : starEach (e :: []) X.env = (false, eval e X.env) :: starEach [] X.env := by rfl) (hplain : (backTo pos (starEach [] X.env)).any (·.1) = false := by rfl)
    (hsw : swapsWith (.Call (.Attribute o "extend" apos) [e] [] pos) none p2.line X.env = pure false := by rfl) : JSs X (.Expr (.Call (.Attribute o "extend" apos) [e] [] pos) p2 :: sts) D σ H :=
  jss_cons (js_expr (je_of (pe_bm PySem.F.plainAttrs_list PySem.F.slot_list_extend PySem.F.type_list_extend mt_extend pej (pa_cons pej pa_nil hs) hb hfew hline hs hplain) (ho H (Same.refl H) _ fun H1 s1 =>
    ⟨.inl ⟨rfl, xs, .inl (.inl (s1 _ _ hq))⟩, ha H1 s1 _ fun b ys H2 s2 hb hy => ⟨q, b, xs, ys, rfl, rfl, (s1.trans s2) _ _ hq, hb, by rw [hy.len]; exact hz, k ys H2 (s1.trans s2) hy⟩⟩)) hsw)
theorem same_sxn {x : Addr} {H1 H2 : Hp} (s : Same H H1) (t : SameX x H1 H2) (h : H x = none) : Same H H2 := fun b o e => t b o (ne_of_none e h) (s b o e)
/-! ### methods of an instance whose place is known -/
theorem je_methV {C m : Str} {ps : List Str} {sp : Sp} {E : XK} {Q : VK} {k n : Nat} {q dx : Addr} {fs : List (Str × V)} {pl : Sem Bool} (G : MtG X.prog X.w X.K X.mg X.base k C m ps sp) (hr : Room n X.A) (hx : Passes (L2.CX X.prog X.w) X E) (ho : JV X o σ H (.ref q)) (hq : H q = some (.ins (He.ga X.K C) dx fs)) (hl : fs.lookup m = none)
    (ha : ∀ H2, Same H H2 → JA X (e :: es) σ H2 fun vs H3 => sp (.ref q :: vs) H3 Q E) (hk : k ≤ n := by decide) (hst : starEach (e :: es) X.env = (false, eval e X.env) :: starEach es X.env := by rfl) (hpl : (backTo pos (starEach es X.env)).any (·.1) = false := by rfl)
    (ht : eval (.Call (.Attribute o m apos) (e :: es) [] pos) X.env = (do
      let ov ← eval o X.env
      standAt apos.atName
      let (f, first) ← holding [ov] (getMethod ov m pl)
      callWith pos f first (backTo pos (starEach (e :: es) X.env)) (backToKw pos (keywordEach [] X.env))) := by rfl) : JE X (.Call (.Attribute o m apos) (e :: es) [] pos) σ H Q :=
  je_meth (pl := pl) G hr hx (ho H (Same.refl H) _ fun H2 s2 => ⟨q, dx, fs, rfl, s2 _ _ hq, hl, ha H2 s2⟩) hk hst hpl ht
theorem je_meth0V {C m : Str} {ps : List Str} {sp : Sp} {E : XK} {Q : VK} {k n : Nat} {q dx : Addr} {fs : List (Str × V)} {pl : Sem Bool} (G : MtG X.prog X.w X.K X.mg X.base k C m ps sp) (hr : Room n X.A) (hx : Passes (L2.CX X.prog X.w) X E) (ho : JV X o σ H (.ref q)) (hq : H q = some (.ins (He.ga X.K C) dx fs)) (hl : fs.lookup m = none)
    (ha : ∀ H2, Same H H2 → sp [.ref q] H2 Q E) (hk : k ≤ n := by decide)
    (ht : eval (.Call (.Attribute o m apos) [] [] pos) X.env = (do
      let ov ← eval o X.env
      standAt apos.atName
      let (f, first) ← holding [ov] (getMethod ov m pl)
      callWith pos f first (backTo pos (starEach [] X.env)) (backToKw pos (keywordEach [] X.env))) := by rfl) : JE X (.Call (.Attribute o m apos) [] [] pos) σ H Q :=
  je_meth0 (pl := pl) G hr hx (ho H (Same.refl H) _ fun H2 s2 => ⟨q, dx, fs, rfl, s2 _ _ hq, hl, ha H2 s2⟩) hk ht
end
end K28
-- KJ7
/-! KJ7: tuples of just such values; comprehensions over things of any kind. -/
namespace K28
open PySem PySem.Spec PyProof.Rows L2
theorem paired_at {α β : Type} {F : α → β → Prop} : ∀ {l : List α} {m : List β} {i : Nat} {x : α}, Paired F l m → l[i]? = some x → ∃ y, m[i]? = some y ∧ F x y
  | _, _, _, _, .nil, h => by simp at h
  | _, _, 0, _, .cons q t, h => by
    cases h
    exact ⟨_, rfl, q⟩
  | _, _, i + 1, x, .cons q t, h => by
    obtain ⟨y, h1, h2⟩ := paired_at (i := i) (x := x) t (by simpa using h)
    exact ⟨y, by simpa using h1, h2⟩
theorem paired_to {α β : Type} {F : α → β → Prop} : ∀ {l : List α} {m : List β} {i : Nat} {y : β}, Paired F l m → m[i]? = some y → ∃ x, l[i]? = some x ∧ F x y
  | _, _, _, _, .nil, h => by simp at h
  | _, _, 0, _, .cons q t, h => by
    cases h
    exact ⟨_, rfl, q⟩
  | _, _, i + 1, x, .cons q t, h => by
    obtain ⟨y, h1, h2⟩ := paired_to (i := i) (y := x) t (by simpa using h)
    exact ⟨y, by simpa using h1, h2⟩
theorem paired_drop {α β : Type} {F : α → β → Prop} : ∀ {l : List α} {m : List β} (n : Nat), Paired F l m → Paired F (l.drop n) (m.drop n)
  | _, _, 0, h => h
  | _, _, _ + 1, .nil => .nil
  | _, _, n + 1, .cons q t => paired_drop n t
theorem paired_app {α β : Type} {F : α → β → Prop} : ∀ {l l2 : List α} {m m2 : List β}, Paired F l m → Paired F l2 m2 → Paired F (l ++ l2) (m ++ m2)
  | _, _, _, _, .nil, h => h
  | _, _, _, _, .cons q t, h => .cons q (paired_app t h)
section
variable {X : Cx} {e a b c o iter tg elt lo hi : Expr} {es ifs : List Expr} {st : Stmt} {sts : List Stmt} {σ : L2.St} {H H' : Hp} {D : Ends} {p p2 pos tpos : Pos} {d : PyData} {v : V} {ds : List PyData}
/-- t[i] -/
theorem jv_ixT {q : Addr} {vs : List V} {i : Int} {x : V} (ha : JV X a σ H (.ref q)) (hq : SqT X.K H q vs) (hb : JD X b σ H (.int i)) (hx : atI vs i = some x) (hs : PlainIx b := by exact fun _ _ => rfl) : JV X (.Subscript a b pos) σ H x := fun H1 s Q k =>
  je_of (pe_ix ix_tup pej pej hs) (ha H1 s _ fun H2 s2 => hb.int H2 (s.trans s2) _ fun H3 s3 => ⟨_, _, _, _, rfl, rfl, same_sqt (s.trans (s2.trans s3)) hq, hx, k H3 (s2.trans s3)⟩)
theorem atI_last {α : Type} {l : List α} {x : α} (h : l.getLast? = some x) : atI l (-1) = some x := by
  have hne : l ≠ [] := by
    intro e
    rw [e] at h
    cases h
  have hl : 0 < l.length := List.length_pos_iff.mpr hne
  unfold atI ixN
  rw [if_neg (by omega), if_pos (by omega)]
  rw [List.getLast?_eq_getElem?] at h
  have e : (-1 + (l.length : Int)).toNat = l.length - 1 := by omega
  simpa [e] using h
/-- e gives a tuple of just vs -/
def JT_ (X : Cx) (e : Expr) (σ : L2.St) (H : Hp) (vs : List V) : Prop := ∀ H1, Same H H1 → ∀ Q : VK, (∀ a H2, Same H1 H2 → SqT X.K H2 a vs → Q (.ref a) H2) → JE X e σ H1 Q
theorem JV.jt {q : Addr} {vs : List V} (h : JV X e σ H (.ref q)) (hq : SqT X.K H q vs) : JT_ X e σ H vs := fun H1 s Q k => h H1 s Q fun H2 s2 => k q H2 s2 (same_sqt (s.trans s2) hq)
theorem jt_cut {lo hi : Option Expr} {i j : Option Int} {vs : List V} (ha : JT_ X e σ H vs) (hl : JO X lo σ H i) (hu : JO X hi σ H j) : JT_ X (.Subscript e (.Slice lo hi none p2) pos) σ H (cutV vs i j) := fun H1 s Q q => by
  obtain ⟨tl, l1, l2⟩ := hl
  obtain ⟨th, u1, u2⟩ := hu
  refine je_of (pe_slice sl_tupA pej l1 u1) (ha H1 s _ fun a H2 s2 hv => l2 H2 (s.trans s2) _ fun H3 s3 => u2 H3 (s.trans (s2.trans s3)) _ fun H4 s4 => ?_)
  have h1' := same_sqt (s3.trans s4) hv
  refine ⟨a, vs, rfl, h1', fun w => ?_, fun _ p hp => q _ _ ((s2.trans (s3.trans s4)).trans (same_new hp)) (SqT.of upd_same)⟩
  have e : cutV vs i j = vs := by
    unfold cutV
    rw [w.1, w.2]
    simp
  exact q _ _ (s2.trans (s3.trans s4)) (by rw [e]; exact h1')
theorem cutv_from {vs : List V} {n : Nat} : cutV vs (some (n : Int)) none = vs.drop n := by
  unfold cutV
  rw [HT.sIx_none, HT.sIx_nat]
  by_cases h : n ≤ vs.length
  · rw [Nat.min_eq_left h, List.take_of_length_le (by rw [List.length_drop]; exact Nat.le_refl _)]
  · rw [Nat.min_eq_right (by omega), List.drop_of_length_le (Nat.le_refl _), List.drop_of_length_le (by omega)]
    simp
theorem jd_lenV {vs : List V} (hm : X.mg "len" = none) (ha : JT_ X e σ H vs) (hg : Gl X "len" := by rfl) (he : starEach [e] X.env = (false, eval e X.env) :: starEach [] X.env := by rfl) (hpl : (backTo pos (starEach [] X.env)).any (·.1) = false := by rfl) : JD X (.Call (.Name "len" p) [e] [] pos) σ H (.int vs.length) := fun H1 s Q q =>
  je_blt call_len_seq hm boot_len (ja_of (pa_cons pej pa_nil he) (ha H1 s _ fun a H2 s2 hv => ⟨_, _, rfl, .inr hv, q _ _ s2 (.int _)⟩)) hg he hpl
/-! ### things that are walked -/
def YX {α : Type} (R : α → Hp → V → Prop) (xs : List α) : Nat → Hp → V → Hp → Prop := fun i Hc x H' => Same Hc H' ∧ ∃ z, xs[i]? = some z ∧ R z H' x
def JXI {α : Type} (X : Cx) (tg iter : Expr) (σ : L2.St) (H : Hp) (xs : List α) (R : α → Hp → V → Prop) : Prop := ∀ H1, Same H H1 → ∀ Rr : It → Hp → Prop, (∀ J H2, Same H1 H2 → Walk J xs.length (Same H2) (YX R xs) → Rr J H2) → JI X tg iter σ H1 Rr
theorem JXI.mono {α : Type} {xs : List α} {R R' : α → Hp → V → Prop} (h : JXI X tg iter σ H xs R) (k : ∀ z H v, R z H v → R' z H v) : JXI X tg iter σ H xs R' := fun H1 s Rr q => h H1 s Rr fun J H2 s2 w => q J H2 s2 (w.mono (fun _ h => h) fun i Hc x H' _ _ y => ⟨y.1, y.2.elim fun z hz => ⟨z, hz.1, k _ _ _ hz.2⟩⟩)
/-- enumerate over a tuple of values of which something is known -/
theorem jxi_enumT {α : Type} {elts : List Expr} {kk : Nat} {vs : List V} {xs : List α} {R : α → Hp → V → Prop} (hm : X.mg "enumerate" = none) (h : JT_ X e σ H vs) (hR : ∀ z H1 H2 v, R z H1 v → Same H1 H2 → R z H2 v) (hv : Paired (fun v z => R z H v) vs xs) (hg : Gl X "enumerate" := by rfl) (he : starEach [e] X.env = [(false, eval e X.env)] := by rfl) :
    JXI X (.Tuple elts kk tpos) (.Call (.Name "enumerate" p) [e] [] pos) σ H xs.zipIdx (fun z H v => ∃ T u, v = .ref T ∧ SqT X.K H T [.int (z.2 : Nat), u] ∧ R z.1 H u) := fun H1 s Rr q =>
  ji_of (pi_enumT hg hm (pa_cons pej pa_nil he) he) (h H1 s _ fun a H2 s2 h1 => by
    refine ⟨a, vs, rfl, h1, q _ _ s2 ?_⟩
    have hl : vs.length = xs.zipIdx.length := by rw [List.length_zipIdx]; exact Paired.length hv
    rw [← hl]
    refine walk_enumT.mono (fun H3 s3 => same_sqt s3 h1) fun i H3 x H4 hi s3 y => ?_
    obtain ⟨T, u, w, e1, e2, e3, e4, e5⟩ := y
    subst e1 e3
    cases e4
    obtain ⟨z, hz, hR2⟩ := paired_at hv e5
    refine ⟨same_new e2, (z, i), by simp [List.getElem?_zipIdx, hz], T, w, rfl, SqT.of upd_same, hR _ _ _ _ hR2 (s.trans (s2.trans (s3.trans (same_new e2))))⟩)
theorem jlx {α : Type} {xs : List α} {R : α → Hp → V → Prop} {r : α → PyData} {pr : α → Bool} {scope : Scope} {own : List (Str × Nat)} {g : TG} (hc : X.calm = true) (hN : X.N.Nodup) (ok : BlkOk X.N X.env.scope scope own) (hi : JXI X tg iter σ H xs R)
    (hg : ∀ (s : Shared) (H : Hp) (C : Addr) (cl : List (Str × Addr)) (fp : List Addr), PG (BX X scope s H C cl fp) tg g) (hz : xs.length ≤ sizeLine)
    (turn : ∀ x ∈ xs, ∀ v H2, Same H H2 → R x H2 v → g v (wipe σ (own.map (·.2))) H2 fun σ2 H3 => wipe σ2 (own.map (·.2)) = wipe σ (own.map (·.2)) ∧ Same H2 H3 ∧ (∀ s H0 C cl fp, JBs (BX X scope s H0 C cl fp) ifs σ2 H3 (pr x)) ∧ (pr x = true → ∀ s H0 C cl fp, JD (BX X scope s H0 C cl fp) elt σ2 H3 (r x)))
    (hlf : ∀ x ∈ xs, pr x = true → lf (r x) = true) (mg : ∀ v σ H Q Q', g v σ H Q → (∀ σ H, Q σ H → Q' σ H) → g v σ H Q') (hs : ∀ x, foldedSetIterable iter X.env x = pure x := by intro _; rfl) : JLC X elt tg iter ifs scope own σ H ((xs.filter pr).map r) := ⟨g, hg, ok, hs, fun H1 s1 Q q =>
  (hi H1 s1 _ fun J H2 s2 w D hD => by
      refine lc_it (g := g) (tt := tIfs X scope ifs) (te := tElt X scope elt) (vs := own.map (·.2)) (σ := σ) (Qd := fun H => Q (.ref D) H) w (fun i Hc => ∃ acc, Same H2 Hc ∧ Hc D = some (.lst acc) ∧ acc.length ≤ i ∧ DpAll X.K Hc acc (((xs.take i).filter pr).map r)) ⟨[], same_new hD, upd_same, Nat.le_refl _, by simpa using DpAll.nil⟩ (fun i Hc _ ⟨_, h, _⟩ => h) ?_ ?_
      · rintro i v Hc H' hi ⟨acc, sc, hDc, hl, ha⟩ ⟨sy, x, hx, hv⟩
        have hmem : x ∈ xs := List.mem_of_getElem? hx
        refine mg _ _ _ _ _ (turn x hmem v H' (s1.trans (s2.trans (sc.trans sy))) hv) ?_
        rintro σ2 H3 ⟨e1, s3, hb, he⟩
        refine ⟨e1, fun s H0 C cl fp => hb s H0 C cl fp H3 (Same.refl H3) _ fun H4 s4 => ?_⟩
        have sH4 : Same Hc H4 := sy.trans (s3.trans s4)
        cases ep : pr x with
        | false =>
          simp only [Bool.false_eq_true, if_false]
          exact ⟨acc, sc.trans sH4, sH4 _ _ hDc, by omega, by rw [filter_take hx, ep]; simpa using ha.on sH4⟩
        | true =>
          simp only [if_true]
          refine fun s' H0' C' cl' fp' => he ep s' H0' C' cl' fp' H4 s4 _ fun y H5 s5 hy => ⟨acc, s5 _ _ (sH4 _ _ hDc), by omega, acc ++ [y], ?_, upd_same, by simp; omega, ?_⟩
          · intro b o e
            have hb : b ≠ D := ne_of_none e hD
            rw [upd_ne hb]
            exact s5 _ _ (sH4 _ _ (sc _ _ e))
          · have hD5 := s5 _ _ (sH4 _ _ hDc)
            have tp : TupS H5 (upd H5 D (.lst (acc ++ [y]))) := tups_lst hD5
            rw [filter_take hx, ep]
            simp only [if_true]
            refine DpAll.app (dpa_tups tp _ _ ?_ (ha.on (sH4.trans s5))) (.cons (dp_tups tp _ _ (hlf x hmem ep) hy) .nil)
            exact lfs_map fun z hz => hlf z (List.mem_of_mem_take (List.mem_filter.mp hz).1) (List.mem_filter.mp hz).2
      · rintro Hc ⟨acc, sc, hDc, hl, ha⟩
        rw [List.take_of_length_le (Nat.le_refl _)] at ha
        exact q D acc Hc (s2.trans sc) (same_none s2 hD) hDc ha)⟩
theorem jlx2 {α : Type} {xs : List α} {R1 R2 : α → Hp → V → Prop} {r : α → PyData} {pr : α → Bool} {scope : Scope} {own : List (Str × Nat)} (i j : Nat) {x y : Str} {px py pt : Pos} {kt : Nat} (hc : X.calm = true) (hN : X.N.Nodup) (ok : BlkOk X.N X.env.scope scope own)
    (hi : JXI X (.Tuple [.Name x px, .Name y py] kt pt) iter σ H xs fun z H v => ∃ T u w, v = .ref T ∧ SqT X.K H T [u, w] ∧ R1 z H u ∧ R2 z H w) (hz : xs.length ≤ sizeLine) (hd : (xs.filter pr).map r = ds)
    (turn : ∀ x ∈ xs, ∀ u v H2, Same H H2 → R1 x H2 u → R2 x H2 v → ∀ s H0 C cl fp, JBs (BX X scope s H0 C cl fp) ifs (((wipe σ (own.map (·.2))).set i (some u)).set j (some v)) H2 (pr x) ∧ (pr x = true → JD (BX X scope s H0 C cl fp) elt (((wipe σ (own.map (·.2))).set i (some u)).set j (some v)) H2 (r x)))
    (hw : ∀ u v, wipe (((wipe σ (own.map (·.2))).set i (some u)).set j (some v)) (own.map (·.2)) = wipe σ (own.map (·.2)) := by intro u v; rfl) (hlf : ∀ x ∈ xs, pr x = true → lf (r x) = true := by first | exact fun _ _ _ => rfl | assumption)
    (hx : X.N[i]? = some x := by rfl) (hy : X.N[j]? = some y := by rfl) (hl : ∀ (s : Shared) (H : Hp) (C : Addr) (cl : List (Str × Addr)) (fp : List Addr), Loc (BX X scope s H C cl fp).env.scope x := by intros; first | exact Or.inl rfl | exact Or.inr rfl)
    (hl2 : ∀ (s : Shared) (H : Hp) (C : Addr) (cl : List (Str × Addr)) (fp : List Addr), Loc (BX X scope s H C cl fp).env.scope y := by intros; first | exact Or.inl rfl | exact Or.inr rfl)
    (hf : ∀ (s : Shared) (H : Hp) (C : Addr) (cl : List (Str × Addr)) (fp : List Addr), (BX X scope s H C cl fp).fn x = true ∨ (BX X scope s H C cl fp).env.scope.names.lookup x = some .local := by intros; first | exact .inl rfl | exact .inr rfl)
    (hf2 : ∀ (s : Shared) (H : Hp) (C : Addr) (cl : List (Str × Addr)) (fp : List Addr), (BX X scope s H C cl fp).fn y = true ∨ (BX X scope s H C cl fp).env.scope.names.lookup y = some .local := by intros; first | exact .inl rfl | exact .inr rfl)
    (hs : ∀ x, foldedSetIterable iter X.env x = pure x := by intro _; rfl) : JLC X elt (.Tuple [.Name x px, .Name y py] kt pt) iter ifs scope own σ H ds := hd ▸
  jlx (g := gTup X.K 2 (gCons (gName i) (gCons (gName j) gNil))) hc hN ok hi (fun s H C cl fp => pg_tup (X := BX X scope s H C cl fp) hc (pgs_cons (pg_name hN hx (hl s H C cl fp) (hf s H C cl fp)) (pgs_cons (pg_name hN hy (hl2 s H C cl fp) (hf2 s H C cl fp)) pgs_nil))) hz (fun z hz v H2 s2 hv => by
    obtain ⟨T, u, w, rfl, h1, k1, k2⟩ := hv
    exact ⟨_, _, rfl, h1, rfl, _, _, rfl, _, _, rfl, rfl, hw _ _, Same.refl _, fun s H0 C cl fp => (turn z hz _ _ H2 s2 k1 k2 s H0 C cl fp).1, fun e s H0 C cl fp => (turn z hz _ _ H2 s2 k1 k2 s H0 C cl fp).2 e⟩) hlf mg_two hs
end
end K28
-- KRaw
/-! KRaw: comprehensions of things that are not data. -/
namespace K28
open PySem PySem.Spec PyProof.Rows L2
/-- all but the lists stay -/
def KeepNL (H H' : Hp) : Prop := ∀ b o, (∀ xs, o ≠ .lst xs) → H b = some o → H' b = some o
theorem same_nl {H H' : Hp} (s : Same H H') : KeepNL H H' := fun b o _ e => s b o e
theorem Paired.mono' {α β : Type} {R R' : α → β → Prop} {l : List α} {m : List β} (h : Paired R l m) (k : ∀ a b, R a b → R' a b) : Paired R' l m := Paired.mapP h k
section
variable {X : Cx} {elt iter : Expr} {σ : L2.St} {H : Hp} {pos : Pos}
theorem jxi_list {α : Type} {tg : Expr} {vs : List V} {xs : List α} {R : α → Hp → V → Prop} {a : Addr} (h : JV X iter σ H (.ref a)) (ha : H a = some (.lst vs)) (hR : ∀ z H1 H2 v, R z H1 v → Same H1 H2 → R z H2 v) (hv : Paired (fun v z => R z H v) vs xs) : JXI X tg iter σ H xs R := fun H1 s Rr q =>
  ji_of (pi_list pej) (h H1 s _ fun H2 s2 => by
    have s02 := s.trans s2
    refine ⟨a, rfl, ⟨vs, SqL.len (s02 _ _ ha)⟩, q _ _ s2 ?_⟩
    rw [← Paired.length hv]
    refine walk_list.mono (fun H3 s3 => SqL.len (s3 _ _ (s02 _ _ ha))) fun i H3 x H4 hi s3 y => ?_
    obtain ⟨e1, e2⟩ := y
    subst e1
    obtain ⟨z, hz, r⟩ := paired_at hv e2
    exact ⟨Same.refl _, z, hz, hR _ _ _ _ r (s02.trans s3)⟩)
theorem jl_raw {α : Type} {xs : List α} {R : α → Hp → V → Prop} {Y : α → V → Hp → Prop} {scope : Scope} {own : List (Str × Nat)} (i : Nat) {x : Str} {px : Pos} (hc : X.calm = true) (hN : X.N.Nodup) (ok : BlkOk X.N X.env.scope scope own) (hi : JXI X (.Name x px) iter σ H xs R) (hR : ∀ z H1 H2 v, R z H1 v → Same H1 H2 → R z H2 v) (hz : xs.length ≤ sizeLine)
    (turn : ∀ z ∈ xs, ∀ v H2, Same H H2 → R z H2 v → ∀ s H0 C cl fp, ∀ Q : VK, (∀ y H3, Same H2 H3 → Y z y H3 → Q y H3) → JE (BX X scope s H0 C cl fp) elt ((wipe σ (own.map (·.2))).set i (some v)) H2 Q)
    (hY : ∀ z y H H', Y z y H → KeepNL H H' → Y z y H')
    (hw : ∀ v, wipe ((wipe σ (own.map (·.2))).set i (some v)) (own.map (·.2)) = wipe σ (own.map (·.2)) := by intro v; rfl)
    (hx : X.N[i]? = some x := by rfl) (hl : ∀ (s : Shared) (H : Hp) (C : Addr) (cl : List (Str × Addr)) (fp : List Addr), Loc (BX X scope s H C cl fp).env.scope x := by intros; first | exact Or.inl rfl | exact Or.inr rfl)
    (hf : ∀ (s : Shared) (H : Hp) (C : Addr) (cl : List (Str × Addr)) (fp : List Addr), (BX X scope s H C cl fp).fn x = true ∨ (BX X scope s H C cl fp).env.scope.names.lookup x = some .local := by intros; first | exact .inl rfl | exact .inr rfl)
    (hs : ∀ x, foldedSetIterable iter X.env x = pure x := by intro _; rfl) {Q : VK} (q : ∀ a vs H2, Same H H2 → H a = none → H2 a = some (.lst vs) → Paired (fun v z => Y z v H2) vs xs → Q (.ref a) H2) : JE X (.ListComp elt [⟨.Name x px, iter, [], 0⟩] scope pos) σ H Q :=
  je_of (pe_lc (tt := tIfs X scope []) (te := tElt X scope elt) hc hN pij ok (fun s H C cl fp => pg_name hN hx (hl s H C cl fp) (hf s H C cl fp)) (fun s H C cl fp => ⟨fun pins sh σ H' Q I h => h s H C cl fp pins sh I⟩) (fun s H C cl fp => ⟨fun pins sh σ H' Q I h => h s H C cl fp pins sh I⟩) hs)
    (hi H (Same.refl H) _ fun J H2 s2 w D hD => by
      refine lc_it (g := gName i) (tt := tIfs X scope []) (te := tElt X scope elt) (vs := own.map (·.2)) (σ := σ) (Qd := fun H => Q (.ref D) H) w (fun i Hc => ∃ acc, Same H2 Hc ∧ Hc D = some (.lst acc) ∧ acc.length ≤ i ∧ Paired (fun v z => Y z v Hc) acc (xs.take i)) ⟨[], same_new hD, upd_same, Nat.le_refl _, by simpa using Paired.nil⟩ (fun i Hc _ ⟨_, h, _⟩ => h) ?_ ?_
      · rintro i v Hc H' hi ⟨acc, sc, hDc, hl, ha⟩ ⟨sy, z, hx, hv⟩
        have hmem : z ∈ xs := List.mem_of_getElem? hx
        refine ⟨hw _, fun s H0 C cl fp => jbs_nil H' (Same.refl H') _ fun H4 s4 => ?_⟩
        rw [if_pos rfl]
        have sH4 : Same Hc H4 := sy.trans s4
        refine fun s' H0' C' cl' fp' => turn z hmem v H4 (s2.trans (sc.trans sH4)) (hR _ _ _ _ hv s4) s' H0' C' cl' fp' _ fun y H5 s5 hy => ⟨acc, s5 _ _ (sH4 _ _ hDc), by omega, acc ++ [y], ?_, upd_same, by simp; omega, ?_⟩
        · intro b o e
          have hb : b ≠ D := ne_of_none e hD
          rw [upd_ne hb]
          exact s5 _ _ (sH4 _ _ (sc _ _ e))
        · have hD5 := s5 _ _ (sH4 _ _ hDc)
          have kn : KeepNL H5 (upd H5 D (.lst (acc ++ [y]))) := fun b o n e => by
            have hb : b ≠ D := fun z => by
              rw [z, hD5] at e
              exact n acc (Option.some.inj e).symm
            rw [upd_ne hb]
            exact e
          rw [List.take_add_one, hx]
          exact paired_app (Paired.mapP ha fun v z h => hY _ _ _ _ (hY _ _ _ _ h (same_nl (sH4.trans s5))) kn) (.cons (hY _ _ _ _ hy kn) .nil)
      · rintro Hc ⟨acc, sc, hDc, hl, ha⟩
        rw [List.take_of_length_le (Nat.le_refl _)] at ha
        exact q D acc Hc (s2.trans sc) (same_none s2 hD) hDc ha)
end
end K28
-- KRpr
/-! KRpr: repr of data, an empty dict among it. -/
namespace K28
open PySem PySem.Spec PyProof.Rows L2
mutual
inductive Rp (K : PySem.W.Frag) (H : Hp) : V → PyData → Prop
  | non : Rp K H .non .none
  | bl (b : Bool) : Rp K H (.bl b) (.bool b)
  | int (i : Int) : Rp K H (.int i) (.int i)
  | str (x : Str) : Rp K H (.str x) (.str x)
  | mt {a : Addr} : H a = some (.dK []) → Rp K H (.ref a) (.dict [])
  | lst {a : Addr} {xs : List V} {ds : List PyData} : SqL K H a xs → RpAll K H xs ds → Rp K H (.ref a) (.list ds)
  | tup {a : Addr} {xs : List V} {ds : List PyData} : SqT K H a xs → RpAll K H xs ds → Rp K H (.ref a) (.tuple ds)
inductive RpAll (K : PySem.W.Frag) (H : Hp) : List V → List PyData → Prop
  | nil : RpAll K H [] []
  | cons {v : V} {vs : List V} {d : PyData} {ds : List PyData} : Rp K H v d → RpAll K H vs ds → RpAll K H (v :: vs) (d :: ds)
end
section
variable {K : PySem.W.Frag} {H H' : Hp}
mutual
theorem rp_dp : ∀ (d : PyData) (v : V), Dp K H v d → Rp K H v d
  | .none, _, h => by cases h; exact .non
  | .bool b, _, h => by cases h; exact .bl b
  | .int i, _, h => by cases h; exact .int i
  | .str x, _, h => by cases h; exact .str x
  | .list ds, _, h => by cases h with | lst h1 h2 => exact .lst h1 (rpa_dp ds _ h2)
  | .tuple ds, _, h => by cases h with | tup h1 h2 => exact .tup h1 (rpa_dp ds _ h2)
  | .dict _, _, h => by cases h
theorem rpa_dp : ∀ (ds : List PyData) (vs : List V), DpAll K H vs ds → RpAll K H vs ds
  | [], _, h => by cases h; exact .nil
  | d :: ds, _, h => by cases h with | cons h1 h2 => exact .cons (rp_dp d _ h1) (rpa_dp ds _ h2)
end
mutual
theorem rp_on (s : Same H H') : ∀ (d : PyData) (v : V), Rp K H v d → Rp K H' v d
  | .none, _, h => by cases h; exact .non
  | .bool b, _, h => by cases h; exact .bl b
  | .int i, _, h => by cases h; exact .int i
  | .str x, _, h => by cases h; exact .str x
  | .list ds, _, h => by cases h with | lst h1 h2 => exact .lst (s.seq h1) (rpa_on s ds _ h2)
  | .tuple ds, _, h => by cases h with | tup h1 h2 => exact .tup (same_sqt s h1) (rpa_on s ds _ h2)
  | .dict _, _, h => by cases h with | mt h1 => exact .mt (s _ _ h1)
theorem rpa_on (s : Same H H') : ∀ (ds : List PyData) (vs : List V), RpAll K H vs ds → RpAll K H' vs ds
  | [], _, h => by cases h; exact .nil
  | d :: ds, _, h => by cases h with | cons h1 h2 => exact .cons (rp_on s d _ h1) (rpa_on s ds _ h2)
end
end
/-- the kept heap has sys.modules, a dict -/
def SysK (K : PySem.W.Frag) : Prop := ∃ o, K.lookup sysModules = some o ∧ o.cls = .type "dict"
section
variable {X : Cx} {pins : List (Addr × Obj)} {σ : L2.St} {H : Hp} {s : Shared}
mutual
theorem rp_reads (I : Inv X pins σ H s) (hk : SysK X.K) : ∀ (d : PyData) (v : V) (u : Value), Rp X.K H v d → RelV v u → ∃ as, Reads s.heap u d as ∧ sysModules ∉ as
  | .none, _, _, h, r => by
    cases h
    cases r
    exact ⟨_, Reads.none, by simp⟩
  | .bool b, _, _, h, r => by
    cases h
    cases r
    exact ⟨_, Reads.bool b, by simp⟩
  | .int i, _, _, h, r => by
    cases h
    obtain ⟨t, rfl⟩ := r
    exact ⟨_, Reads.int i t, by simp⟩
  | .str x, _, _, h, r => by
    cases h
    obtain ⟨t, rfl⟩ := r
    exact ⟨_, Reads.str x t, by simp⟩
  | .list ds, _, _, h, r => by
    cases h with
    | lst hs ha =>
      cases r
      obtain ⟨its, rv, ⟨o, n, ho, hc, _, hd⟩, _⟩ := I.list hs
      obtain ⟨as, q1, q2⟩ := rpa_reads I hk ds _ its ha rv
      refine ⟨_, Reads.list ho hc hd q1, fun hm => ?_⟩
      rcases List.mem_cons.mp hm with e | e
      · obtain ⟨o2, k1, k2⟩ := hk
        have := I.kIn _ _ k1
        rw [e, ho] at this
        cases this
        rw [hc] at k2
        exact absurd k2 (by decide)
      · exact q2 e
  | .tuple ds, _, _, h, r => by
    cases h with
    | tup hs ha =>
      cases r
      obtain ⟨its, rv, ⟨o, ho, hc, n, hd⟩, _⟩ := I.tuple hs
      obtain ⟨as, q1, q2⟩ := rpa_reads I hk ds _ its ha rv
      exact ⟨_, Reads.tuple ho hc hd q1, q2⟩
  | .dict kvs, _, _, h, r => by
    cases h with
    | @mt a h1 =>
      cases r
      obtain ⟨_, hy, vs, kv, o, es, ep, ho, ex, hd, _, he, _⟩ := I.hok _ _ h1
      cases kv
      have e0 : es.toList = [] := by
        generalize es.toList = l at he
        cases he
        rfl
      refine ⟨_, Reads.dict (as := []) (bs := []) ho ex.1 hd (by rw [e0]; exact ReadsAll.nil) (by rw [e0]; exact ReadsAll.nil), fun hm => ?_⟩
      have : sysModules = a := by simpa using hm
      rw [← this] at hy
      simp at hy
theorem rpa_reads (I : Inv X pins σ H s) (hk : SysK X.K) : ∀ (ds : List PyData) (vs : List V) (us : List Value), RpAll X.K H vs ds → Vals vs us → ∃ as, ReadsAll s.heap us ds as ∧ sysModules ∉ as
  | [], _, _, h, r => by
    cases h
    cases r
    exact ⟨_, ReadsAll.nil, by simp⟩
  | d :: ds, _, _, h, r => by
    cases h with
    | cons h1 h2 =>
      cases r with
      | cons r1 r2 =>
        obtain ⟨as, q1, q2⟩ := rp_reads I hk d _ _ h1 r1
        obtain ⟨bs, q3, q4⟩ := rpa_reads I hk ds _ _ h2 r2
        exact ⟨_, ReadsAll.cons q1 q3, fun hm => (List.mem_append.mp hm).elim q2 q4⟩
end
/-- data that repr tells -/
structure ShOk (d : PyData) : Prop where
  sh : d.showable = true
  dp : d.depth ≤ 20
  ln : d.shown.length ≤ sizeLine
theorem call_reprD {n : Nat} (hr : Room n X.A) (hg : X.A.guards = some []) (hk : SysK X.K) : CallR X (.builtin "repr") (fun xs H Q => ∃ a d, xs = [.ref a] ∧ Rp X.K H (.ref a) d ∧ ShOk d ∧ Q (.str d.shown) H) := by
  intro pins s σ H xs us Q I r h
  obtain ⟨a, d, rfl, hd, ok, q⟩ := h
  cases r with
  | cons r1 r2 =>
    cases r2
    obtain rfl : _ = Value.ref a := r1
    obtain ⟨as, q1, q2⟩ := rp_reads I hk d _ _ hd rfl
    have := ok.dp
    have := hr.un
    exact PySem.repr_of_reads' q1 ok.sh (fun _ => q2) hg (by omega) (fun _ _ e => e) (fun h' u tk k => ⟨.str d.shown, H, I.kept k, ⟨u, rfl⟩, q⟩) ok.ln
end
/-! ### how long the text is -/
theorem textFrom_le : ∀ (ts : List Str) (k : Nat) (acc : Str), (textFrom k acc ts).length ≤ acc.length + piled ts
  | [], _, acc => by show acc.length ≤ _; omega
  | t :: r, k, acc => by
    refine Nat.le_trans (textFrom_le r (k + 1) _) ?_
    have e : (acc ++ (if k > 0 then ", " else "" : String) ++ t).length ≤ acc.length + 2 + t.length := by
      rw [strLen_append, strLen_append]
      split
      · exact Nat.le_refl _
      · show acc.length + 0 + t.length ≤ _; omega
    rw [piled_cons]
    omega
theorem listText_le (ts : List Str) : (listText ts).length ≤ piled ts + 2 := by
  unfold listText
  rw [strLen_append]
  have := textFrom_le ts 0 "["
  have e1 : (("[" : String) : Str).length = 1 := rfl
  have e2 : (("]" : String) : Str).length = 1 := rfl
  omega
theorem tupleText_le (ts : List Str) : (tupleText ts).length ≤ piled ts + 3 := by
  unfold tupleText
  rw [strLen_append, strLen_append]
  have e1 : (("(" : String) : Str).length = 1 := rfl
  have e2 : ((if ts.length == 1 then ",)" else ")" : String) : Str).length ≤ 2 := by
    split
    · exact Nat.le_refl 2
    · show 1 ≤ 2; omega
  have e3 : (Str.join ", " ts).length ≤ piled ts := by
    by_cases h : ts = []
    · subst h
      exact Nat.le_refl 0
    · have := join_length_add ts h
      omega
  omega
/-- data of a size: each item's, two more; m: the depth -/
structure Sz (d : PyData) (n m : Nat) : Prop where
  sh : d.showable = true
  dp : d.depth ≤ m
  ln : d.shown.length ≤ n
theorem Sz.ok {d : PyData} {n m : Nat} (h : Sz d n m) (hn : n ≤ 16000000 := by decide) (hm : m ≤ 20 := by decide) : ShOk d := ⟨h.sh, Nat.le_trans h.dp hm, Nat.le_trans h.ln (Nat.le_trans hn (by decide))⟩
theorem Sz.mono {d : PyData} {n m n' m' : Nat} (h : Sz d n m) (hn : n ≤ n') (hm : m ≤ m') : Sz d n' m' := ⟨h.sh, Nat.le_trans h.dp hm, Nat.le_trans h.ln hn⟩
theorem sz_all {n m : Nat} : ∀ {ds : List PyData}, (∀ d ∈ ds, Sz d n m) → PyData.showableAll ds = true ∧ PyData.depthAll ds ≤ m ∧ piled (PyData.shownAll ds) ≤ (n + 2) * ds.length
  | [], _ => ⟨rfl, by simp [PyData.depthAll], by simp [PyData.shownAll, piled]⟩
  | d :: ds, h => by
    obtain ⟨h1, h2, h3⟩ := sz_all fun e he => h e (List.mem_cons_of_mem _ he)
    have z := h d List.mem_cons_self
    have z1 := z.dp
    have z2 := z.ln
    refine ⟨by simp [PyData.showableAll, z.sh, h1], by simp only [PyData.depthAll]; omega, ?_⟩
    simp only [PyData.shownAll, piled_cons, List.length_cons, Nat.mul_succ]
    omega
theorem sz_list {n m k : Nat} {ds : List PyData} (h : ∀ d ∈ ds, Sz d n m) (hk : ds.length ≤ k) : Sz (.list ds) ((n + 2) * k + 2) (m + 1) := by
  obtain ⟨h1, h2, h3⟩ := sz_all h
  have h4 := Nat.mul_le_mul_left (n + 2) hk
  have h5 := listText_le (PyData.shownAll ds)
  exact ⟨by simpa [PyData.showable] using h1, by simp only [PyData.depth]; omega, by simp only [PyData.shown]; omega⟩
theorem sz_tup {n m k : Nat} {ds : List PyData} (h : ∀ d ∈ ds, Sz d n m) (hk : ds.length ≤ k) : Sz (.tuple ds) ((n + 2) * k + 3) (m + 1) := by
  obtain ⟨h1, h2, h3⟩ := sz_all h
  have h4 := Nat.mul_le_mul_left (n + 2) hk
  have h5 := tupleText_le (PyData.shownAll ds)
  exact ⟨by simpa [PyData.showable] using h1, by simp only [PyData.depth]; omega, by simp only [PyData.shown]; omega⟩
theorem sz_nat {n : Nat} (h : n < 10 ^ 10) : Sz (.int (n : Int)) 10 0 := by
  refine ⟨?_, by simp [PyData.depth], ?_⟩
  · show decide ((n : Int).natAbs.log2 < 1920) = true
    have : n < 2 ^ 34 := Nat.lt_of_lt_of_le h (by decide)
    have h2 : n.log2 < 1920 := by
      by_cases h0 : n = 0
      · subst h0; decide
      · exact Nat.lt_of_lt_of_le ((Nat.log2_lt h0).mpr this) (by decide)
    simpa using h2
  · show (Str.ofString (toString (n : Int))).length ≤ 10
    rw [PySem.ofString_length]
    show (Nat.repr n).length ≤ 10
    exact (Nat.length_repr_le_iff (by decide)).mpr h
theorem sz_int0 {i : Int} (h0 : 0 ≤ i) (h : i < 10 ^ 10) : Sz (.int i) 10 0 := by
  obtain ⟨n, rfl⟩ : ∃ n : Nat, i = (n : Int) := ⟨i.toNat, by omega⟩
  exact sz_nat (by omega)
theorem sz_none : Sz .none 10 0 := ⟨rfl, by simp [PyData.depth], by decide +kernel⟩
theorem sz_write : Sz (.str "write") 10 0 := ⟨rfl, by simp [PyData.depth], by decide +kernel⟩
theorem sz_read : Sz (.str "read") 10 0 := ⟨rfl, by simp [PyData.depth], by decide +kernel⟩
end K28
-- KLend
/-! KLend: cells and function objects are lent to a callee: they stand in its heap as things that never change. -/
namespace K28
open PySem PySem.Spec PyProof.Rows L2
/-- a thing that stays as it is -/
def Frz (c : Addr) (o : Obj) : HO := .frz o (.ext fun h => ∃ o, h.get? c = some o)
/-- what is lent -/
abbrev Lot := List (Addr × Obj)
def lend (L : Lot) (H : Hp) : Hp := fun b => match L.lookup b with
  | some o => some (Frz b o)
  | none => H b
def hide (L : Lot) (H : Hp) : Hp := fun b => match L.lookup b with
  | some _ => none
  | none => H b
def LotIn (L : Lot) (H : Hp) : Prop := ∀ b o, L.lookup b = some o → H b = some (Frz b o)
def LotOut (L : Lot) (H : Hp) (h : Heap) : Prop := ∀ b o, L.lookup b = some o → H b = none ∧ h.get? b = some o
section
variable {P : Program} {w : World} {L : Lot} {H H' : Hp} {h h' B : Heap} {fs : List Addr} {b : Addr} {o : Obj}
theorem lend_at (e : L.lookup b = some o) : lend L H b = some (Frz b o) := by unfold lend; rw [e]
theorem lend_no (e : L.lookup b = none) : lend L H b = H b := by unfold lend; rw [e]
theorem hide_at (e : L.lookup b = some o) : hide L H b = none := by unfold hide; rw [e]
theorem hide_no (e : L.lookup b = none) : hide L H b = H b := by unfold hide; rw [e]
theorem hide_none (e : H b = none) : hide L H b = none := by
  cases q : L.lookup b with
  | none => rw [hide_no q, e]
  | some o => exact hide_at q
theorem frz_ok (e : h.get? b = some o) : ObjOk P w H h b (Frz b o) := ⟨e, ⟨o, e⟩, ⟨o, e⟩, fun h1 h2 ⟨u, q⟩ st => ⟨u, st _ q⟩⟩
theorem hide_other {u : HO} (i : LotIn L H) (e : H b = some u) (n : ∀ o, u ≠ Frz b o) : hide L H b = some u := by
  cases q : L.lookup b with
  | none => rw [hide_no q, e]
  | some o =>
    rw [i b o q] at e
    exact absurd (Option.some.inj e).symm (n o)
theorem lend_other {u : HO} (i : LotOut L H h) (e : H b = some u) : lend L H b = some u := by
  cases q : L.lookup b with
  | none => rw [lend_no q, e]
  | some o =>
    rw [(i b o q).1] at e
    cases e
theorem hok_hide (x : HOk P w H h) (i : LotIn L H) : HOk P w (hide L H) h := fun a u e => by
  cases q : L.lookup a with
  | some o =>
    rw [hide_at q] at e
    cases e
  | none =>
    rw [hide_no q] at e
    exact (x a u e).stay (fun _ _ _ k => k) (fun c k => hide_other i k fun _ z => by cases z) fun c xs k => hide_other i k fun _ z => by cases z
theorem hok_lend (x : HOk P w H h) (i : LotOut L H h) : HOk P w (lend L H) h := fun a u e => by
  cases q : L.lookup a with
  | some o =>
    rw [lend_at q] at e
    cases e
    exact frz_ok (i a o q).2
  | none =>
    rw [lend_no q] at e
    exact (x a u e).stay (fun _ _ _ k => k) (fun c k => lend_other i k) fun c xs k => lend_other i k
theorem out_no (i : LotOut L H h) (e : H b ≠ none) : L.lookup b = none := by
  cases q : L.lookup b with
  | none => rfl
  | some o => exact absurd (i b o q).1 e
/-- a callee to whom things were lent is done -/
theorem back_in (i : LotOut L H h) (u : Un fs [] (lend L H) H' h h') : LotIn L H' := fun b o e => u.frzs b o _ (lend_at e)
theorem back_un (i : LotOut L H h) (u : Un fs [] (lend L H) H' h h') (x : HOk P w H' h') : Un fs [] H (hide L H') h h' := by
  have li := back_in i u
  have same : ∀ {b o u0}, L.lookup b = some u0 → h.get? b = some o → h'.get? b = some o := fun {b o u0} q e => by
    have h1 := (i b u0 q).2
    rw [h1] at e
    cases e
    exact (x b _ (li b _ q)).1
  refine ⟨fun b o e n hf hx => ?_, fun b o e n hf hx => ?_, fun b o e n hx => ?_, u.there, fun b xs e => ?_, fun b o v e => ?_, fun b ps e => ?_⟩
  · cases q : L.lookup b with
    | some u0 => exact same q e
    | none => exact u.keep b o e (by rw [lend_no q]; exact n) hf hx
  · cases q : L.lookup b with
    | some u0 => exact ⟨o.slots, same q e⟩
    | none => exact u.slot b o e (by rw [lend_no q]; exact n) hf hx
  · cases q : L.lookup b with
    | some u0 => exact hide_at q
    | none => rw [hide_no q]; exact u.free b o e (by rw [lend_no q]; exact n) hx
  · have q := out_no i (b := b) (by rw [e]; simp)
    rw [hide_no q]
    exact u.tups b xs (by rw [lend_no q]; exact e)
  · have q := out_no i (b := b) (by rw [e]; simp)
    rw [hide_no q]
    exact u.frzs b o v (by rw [lend_no q]; exact e)
  · have q := out_no i (b := b) (by rw [e]; simp)
    obtain ⟨more, z⟩ := u.tbls b ps (by rw [lend_no q]; exact e)
    exact ⟨more, by rw [hide_no q]; exact z⟩
theorem back_ub (i : LotOut L H h) (u : UB fs (lend L H) H' h B h') (x : HOk P w H' B) : UB fs H (hide L H') h B h' := by
  have li : LotIn L H' := fun b o e => u.frzs b o _ (lend_at e)
  refine ⟨fun b o e n hf => ?_, u.slot, fun b o e n => ?_, u.there, fun b xs e => ?_, fun b o v e => ?_, fun b ps e => ?_⟩
  · cases q : L.lookup b with
    | some u0 =>
      have h1 := (i b u0 q).2
      rw [e] at h1
      cases h1
      exact (x b _ (li b _ q)).1
    | none => exact u.keep b o e (by rw [lend_no q]; exact n) hf
  · cases q : L.lookup b with
    | some u0 => exact hide_at q
    | none => rw [hide_no q]; exact u.free b o e (by rw [lend_no q]; exact n)
  · have q := out_no i (b := b) (by rw [e]; simp)
    rw [hide_no q]
    exact u.tups b xs (by rw [lend_no q]; exact e)
  · have q := out_no i (b := b) (by rw [e]; simp)
    rw [hide_no q]
    exact u.frzs b o v (by rw [lend_no q]; exact e)
  · have q := out_no i (b := b) (by rw [e]; simp)
    obtain ⟨more, z⟩ := u.tbls b ps (by rw [lend_no q]; exact e)
    exact ⟨more, by rw [hide_no q]; exact z⟩
/-- things that are lent to us are hidden while a body runs whose own cells they are -/
theorem own_un (i : LotIn L H) (hf : ∀ b o, L.lookup b = some o → b ∉ fs) (x : HOk P w H h) (u : Un fs [] (hide L H) H' h h') : LotOut L H' h' ∧ Un fs [] H (lend L H') h h' := by
  have lo : LotOut L H' h' := fun b o e => by
    have h1 : h.get? b = some o := (x b _ (i b o e)).1
    exact ⟨u.free b o h1 (hide_at e) (by simp), u.keep b o h1 (hide_at e) (hf b o e) (by simp)⟩
  have no : ∀ {b : Addr}, H b = none → L.lookup b = none := fun {b} n => by
    cases q : L.lookup b with
    | none => rfl
    | some o => rw [i b o q] at n; cases n
  refine ⟨lo, fun b o e n hf hx => u.keep b o e (hide_none n) hf hx, fun b o e n hf hx => u.slot b o e (hide_none n) hf hx, fun b o e n hx => ?_, u.there, fun b xs e => ?_, fun b o v e => ?_, fun b ps e => ?_⟩
  · rw [lend_no (no n)]
    exact u.free b o e (hide_none n) hx
  · exact lend_other lo (u.tups b xs (hide_other i e fun _ z => by cases z))
  · cases q : L.lookup b with
    | some o2 =>
      rw [i b o2 q] at e
      rw [lend_at q]
      exact e
    | none =>
      rw [lend_no q]
      exact u.frzs b o v (by rw [hide_no q]; exact e)
  · obtain ⟨more, z⟩ := u.tbls b ps (hide_other i e fun _ z => by cases z)
    exact ⟨more, lend_other lo z⟩
theorem own_ub (i : LotIn L H) (hf : ∀ b o, L.lookup b = some o → b ∉ fs) (x : HOk P w H h) (u : UB fs (hide L H) H' h B h') : LotOut L H' B ∧ UB fs H (lend L H') h B h' := by
  have lo : LotOut L H' B := fun b o e => by
    have h1 : h.get? b = some o := (x b _ (i b o e)).1
    exact ⟨u.free b o h1 (hide_at e), u.keep b o h1 (hide_at e) (hf b o e)⟩
  have no : ∀ {b : Addr}, H b = none → L.lookup b = none := fun {b} n => by
    cases q : L.lookup b with
    | none => rfl
    | some o => rw [i b o q] at n; cases n
  refine ⟨lo, fun b o e n hf => u.keep b o e (hide_none n) hf, u.slot, fun b o e n => ?_, u.there, fun b xs e => ?_, fun b o v e => ?_, fun b ps e => ?_⟩
  · rw [lend_no (no n)]
    exact u.free b o e (hide_none n)
  · exact lend_other lo (u.tups b xs (hide_other i e fun _ z => by cases z))
  · cases q : L.lookup b with
    | some o2 =>
      rw [i b o2 q] at e
      rw [lend_at q]
      exact e
    | none =>
      rw [lend_no q]
      exact u.frzs b o v (by rw [hide_no q]; exact e)
  · obtain ⟨more, z⟩ := u.tbls b ps (hide_other i e fun _ z => by cases z)
    exact ⟨more, lend_other lo z⟩
end
/-! ### calls -/
section
variable {P : Program} {w : World} {K : PySem.W.Frag} {mg : Str → Option Value} {base : Heap} {L : Lot} {H : Hp} {A : Around} {outer : List Env} {s s' : Shared} {Q Q' : VK} {E E' : XK} {r : Result}
theorem env0_lend (e : Env0 P w K mg base A outer s H) (i : LotOut L H s.heap) (n : ∀ b o, L.lookup b = some o → base.get? b = none ∧ b ∉ frs outer) : Env0 P w K mg base A outer s (lend L H) :=
  ⟨e.frames, e.mod, fun b o q => ⟨(e.bs b o q).1, by
    cases z : L.lookup b with
    | none => rw [lend_no z]; exact (e.bs b o q).2
    | some u => rw [(n b u z).1] at q; cases q⟩, e.bsz, e.funs, fun b hb => by
    cases z : L.lookup b with
    | none => rw [lend_no z]; exact e.frf b hb
    | some u => exact absurd hb (n b u z).2, hok_lend e.hok i, e.bare⟩
theorem env0_hide (e : Env0 P w K mg base A outer s H) (i : LotIn L H) : Env0 P w K mg base A outer s (hide L H) :=
  ⟨e.frames, e.mod, fun b o q => ⟨(e.bs b o q).1, hide_none (e.bs b o q).2⟩, e.bsz, e.funs, fun b hb => hide_none (e.frf b hb), hok_hide e.hok i, e.bare⟩
theorem cr_back (i : LotOut L H s.heap) (c : CR (L2.CX P w) outer P w (lend L H) s Q' E' r s') (hQ : ∀ v H', LotIn L H' → Q' v H' → Q v (hide L H')) (hE : ∀ cls d H', LotIn L H' → E' cls d H' → E cls d (hide L H')) : CR (L2.CX P w) outer P w H s Q E r s' := by
  cases r with
  | error e =>
    obtain ⟨a, B, H', cls, d, e1, fl, hok, ub, na, os, ag, he⟩ := c
    exact ⟨a, B, hide L H', cls, d, e1, fl, hok_hide hok fun b o q => ub.frzs b o _ (lend_at q), back_ub i ub hok, hide_none na, os, ag, hE _ _ _ (fun b o q => ub.frzs b o _ (lend_at q)) he⟩
  | ok fl =>
    cases fl with
    | ret u =>
      obtain ⟨v, H', os, ag, un, hok, rv, q⟩ := c
      exact ⟨v, hide L H', os, ag, back_un i un hok, hok_hide hok (back_in i un), rv, hQ _ _ (back_in i un) q⟩
    | next => exact c
    | brk => exact c
    | cont => exact c
theorem cr_own (i : LotIn L H) (hf : ∀ b ∈ frs outer, H b = none) (x : HOk P w H s.heap) (c : CR (L2.CX P w) outer P w (hide L H) s Q' E' r s') (hQ : ∀ v H', (∀ b o, L.lookup b = some o → H' b = none) → Q' v H' → Q v (lend L H')) (hE : ∀ cls d H', (∀ b o, L.lookup b = some o → H' b = none) → E' cls d H' → E cls d (lend L H')) : CR (L2.CX P w) outer P w H s Q E r s' := by
  have nf : ∀ b o, L.lookup b = some o → b ∉ frs outer := fun b o q hb => by
    have := hf b hb
    rw [i b o q] at this
    cases this
  cases r with
  | error e =>
    obtain ⟨a, B, H', cls, d, e1, fl, hok, ub, na, os, ag, he⟩ := c
    obtain ⟨lo, ub2⟩ := own_ub i nf x ub
    refine ⟨a, B, lend L H', cls, d, e1, fl, hok_lend hok lo, ub2, ?_, os, ag, hE _ _ _ (fun b o q => (lo b o q).1) he⟩
    cases z : L.lookup a with
    | none => rw [lend_no z]; exact na
    | some u =>
      have h1 := (lo a u z).2
      rw [fl.2.1] at h1
      cases h1
  | ok fl =>
    cases fl with
    | ret u =>
      obtain ⟨v, H', os, ag, un, hok, rv, q⟩ := c
      obtain ⟨lo, un2⟩ := own_un i nf x un
      exact ⟨v, lend L H', os, ag, un2, hok_lend hok lo, rv, hQ _ _ (fun b o q => (lo b o q).1) q⟩
    | next => exact c
    | brk => exact c
    | cont => exact c
end
end K28
-- KG2
/-! KG2: defs whose promise asks that nothing is being shown (repr), and whose callers lend their cells. -/
namespace K28
open PySem PySem.Spec PyProof.Rows L2
/-- a def of the module, called where no repr is under way -/
structure FnG2 (P : Program) (w : World) (K : PySem.W.Frag) (mg : Str → Option Value) (base : Heap) (k : Nat) (x : Str) (ps : List Str) (sp : Sp) : Prop where
  ex : ∃ fd, (∀ vs H Q E, sp vs H Q E → vs.length = ps.length) ∧
    (∀ (A : Around) (outer : List Env) (s : Shared) (H : Hp) (args : Args) (us : List Value) (vs : List V) (Q : VK) (E : XK), Room k A → A.guards = some [] → Env0 P w K mg base A outer s H → BindsTo s fd args (ps.zip us) → Vals vs us → sp vs H Q E →
      codeAny (model P w) A (.call (.ref (He.ga K x)) args) (CR (L2.CX P w) outer P w H s Q E) s) ∧ Binds K fd ps []
  kp : PySem.W.keepIn K (.ref (He.ga K x)) = true
  gl : mg x = some (.ref (He.ga K x))
theorem FnG.two {P : Program} {w : World} {K : PySem.W.Frag} {mg : Str → Option Value} {base : Heap} {k : Nat} {x : Str} {ps : List Str} {sp : Sp} (G : FnG P w K mg base k x ps sp) : FnG2 P w K mg base k x ps sp := by
  obtain ⟨fd, F, b⟩ := G.ex
  exact ⟨⟨fd, F.len, fun A outer s H args us vs Q E hr _ e0 hb r h => F.run A outer s H args us vs Q E hr e0 hb r h, b⟩, G.kp, G.gl⟩
section
variable {P : Program} {w : World} {K : PySem.W.Frag} {mg : Str → Option Value} {base : Heap}
/-- the code object that a def of the module has -/
def CodeOf (K : PySem.W.Frag) (x : Str) (cdv : Value) : Prop := ∃ o fd, K.lookup (He.ga K x) = some o ∧ o.data = .func fd ∧ fd.code = cdv
theorem fng2 {x : Str} {st : Stmt} {N ps : List Str} {k : Nat} {sp : Sp} (T : Top K mg x st) (S : FnScope N ps (defScope st)) (len : ∀ vs H Q E, sp vs H Q E → vs.length = ps.length)
    (hb : ∀ (f : Addr) (cdv : Value) (A : Around) (outer : List Env) (s : Shared) (H : Hp) (vs : List V) (Q : VK) (E : XK), Room k (A.deeper (envOfC x (defScope st) s.heap.objs.size f cdv)) → A.guards = some [] → CodeOf K x cdv → sp vs H Q E →
      JSs (cxOf (L2.CX P w) P w K mg base N x (defScope st) f cdv A outer s H E) (defBody st) { nx := fun _ H' => Q .non H', rt := Q } (start N vs) H)
    (bi : ∀ (kV doc pm : Value) (an : Option Addr) (cdv ct : Value) (us : List Value), us.length = ps.length → bindArgs (PySem.W.fnOf x x (defArgs st) (defBody st) (defScope st) .none kV doc pm an cdv ct) ⟨us, []⟩ = pure (ps.zip us)) : FnG2 P w K mg base (k + 1) x ps sp := by
  obtain ⟨⟨fd, F⟩, gl⟩ := T
  have b := F.bindsN bi
  obtain ⟨oc, od, dV, kV, doc, pm, an, cdv, ct, osl, rfl, lk, hcd, _, _⟩ := F.ex
  exact ⟨⟨_, len, fun A outer s H args us vs Q E hr hg e0 hbd r h => LamX.run_ofS lk hcd S hr e0 hbd r (len _ _ _ _ h) fun hr' => ⟨_, pssj, hb _ cdv A outer s H vs Q E hr' hg ⟨_, _, lk, rfl, rfl⟩ h⟩, b⟩, F.kp, gl⟩
end
/-! ### calls -/
/-- the cells of X, lent -/
structure CellsOf (X : Cx) (L : Lot) (σ : L2.St) (H : Hp) : Prop where
  out : ∀ b o, L.lookup b = some o → H b = none
  all : ∀ y c, X.env.cells.lookup y = some c → ∃ o, L.lookup c = some o ∧ ∃ v, o.data = .cell v
  has : ∀ x, (X.env.kindOf x = some .cell ∨ X.env.kindOf x = some .free) → ∃ c, X.env.cells.lookup x = some c
  inj : ∀ x y c, X.env.cells.lookup x = some c → X.env.cells.lookup y = some c → x = y
  slot : ∀ (i : Nat) (x : Str) (v : V), X.N[i]? = some x → σ[i]? = some (some v) → (X.env.kindOf x = some .cell ∨ X.env.kindOf x = some .free) → ∃ c o u, X.env.cells.lookup x = some c ∧ L.lookup c = some o ∧ o.data = .cell (some u) ∧ RelV v u
def lotOf (cells : List (Str × Addr)) (h : Heap) : Lot := (cells.map (·.1)).filterMap fun y => (cells.lookup y).bind fun c => (h.get? c).map fun o => (c, o)
theorem lk_cons {c c2 : Addr} {o2 : Obj} {l : Lot} : ((c2, o2) :: l : Lot).lookup c = if c = c2 then some o2 else l.lookup c := by
  by_cases e : c = c2
  · rw [if_pos e, e]
    simp [List.lookup]
  · rw [if_neg e]
    have z : (c == c2) = false := beq_eq_false_iff_ne.mpr e
    show (match c == c2 with | true => some o2 | false => l.lookup c) = _
    rw [z]
theorem mem_look {c : Addr} {o : Obj} : ∀ {l : Lot}, (c, o) ∈ l → ∃ o2, l.lookup c = some o2
  | (c2, o2) :: l, h => by
    rw [lk_cons]
    by_cases e : c = c2
    · exact ⟨o2, if_pos e⟩
    · rw [if_neg e]
      rcases List.mem_cons.mp h with z | z
      · cases z
        exact absurd rfl e
      · exact mem_look z
theorem look_mem {c : Addr} {o : Obj} : ∀ {l : Lot}, l.lookup c = some o → (c, o) ∈ l
  | [], h => by cases h
  | (c2, o2) :: l, h => by
    rw [lk_cons] at h
    by_cases e : c = c2
    · rw [if_pos e] at h
      cases h
      rw [e]
      exact List.mem_cons_self
    · rw [if_neg e] at h
      exact List.mem_cons_of_mem _ (look_mem h)
theorem lot_mem {cells : List (Str × Addr)} {h : Heap} {c : Addr} {o : Obj} (e : (c, o) ∈ lotOf cells h) : ∃ y, cells.lookup y = some c ∧ h.get? c = some o := by
  obtain ⟨y, _, z⟩ := List.mem_filterMap.mp e
  cases k : cells.lookup y with
  | none => rw [k] at z; cases z
  | some c2 =>
    rw [k] at z
    cases k2 : h.get? c2 with
    | none => simp [k2] at z
    | some o2 =>
      simp [k2] at z
      obtain ⟨rfl, rfl⟩ := z
      exact ⟨y, k, k2⟩
theorem lot_look {cells : List (Str × Addr)} {h : Heap} {c : Addr} {o : Obj} (e : (lotOf cells h).lookup c = some o) : ∃ y, cells.lookup y = some c ∧ h.get? c = some o := lot_mem (look_mem e)
theorem lot_has {cells : List (Str × Addr)} {h : Heap} {y : Str} {c : Addr} {o : Obj} (e : cells.lookup y = some c) (k : h.get? c = some o) : (lotOf cells h).lookup c = some o := by
  have hm : (c, o) ∈ lotOf cells h := List.mem_filterMap.mpr ⟨y, List.mem_map.mpr ⟨(y, c), PySem.mem_of_lookup e, rfl⟩, by simp [e, k]⟩
  obtain ⟨o2, h2⟩ := mem_look hm
  obtain ⟨y2, _, z⟩ := lot_look h2
  rw [k] at z
  cases z
  exact h2
section
variable {X : Cx} {pins : List (Addr × Obj)} {σ : L2.St} {H : Hp} {s : Shared}
theorem lot_out (I : Inv X pins σ H s) : LotOut (lotOf X.env.cells s.heap) H s.heap := fun b o e => by
  obtain ⟨y, h1, h2⟩ := lot_look e
  exact ⟨I.freeC y b h1, h2⟩
theorem lot_cells (I : Inv X pins σ H s) : CellsOf X (lotOf X.env.cells s.heap) σ H := by
  refine ⟨fun b o e => (lot_out I b o e).1, fun y c e => ?_, I.ok.has, I.ok.inj, fun i x v e1 e2 k => ?_⟩
  · obtain ⟨v, o, ho, hd⟩ := I.cell y c e
    exact ⟨o, lot_has e ho, v, hd⟩
  · obtain ⟨m, _, hl⟩ := I.loc
    obtain ⟨u, r, q⟩ := hl i x v e1 e2 (k.elim (fun k => .inr (.inl k)) fun k => .inr (.inr k))
    rcases q with ⟨z, _⟩ | ⟨_, c, e, o, ho, hd⟩
    · rcases k with k | k <;> rw [k] at z <;> cases z
    · exact ⟨c, o, u, e, lot_has e ho, hd, r⟩
theorem lot_new (I : Inv X pins σ H s) (hf : ∀ x, X.fn x = true) : ∀ b o, (lotOf X.env.cells s.heap).lookup b = some o → X.base.get? b = none ∧ b ∉ frs X.stack := fun b o e => by
  obtain ⟨y, h1, h2⟩ := lot_look e
  have h3 := I.ok.cab y b (hf y) h1
  refine ⟨Heap.get?_none_of_le (Nat.le_trans I.ok.bsz h3), fun hm => ?_⟩
  rcases List.mem_cons.mp (I.stkSub _ hm) with z | z
  · exact I.cne y b h1 z
  · obtain ⟨_, o2, ho2, _⟩ := I.ok.funs.mem z
    exact absurd (Nat.lt_of_lt_of_le (Heap.lt_size ho2) h3) (Nat.lt_irrefl _)
end
section
variable {X : Cx} {e : Expr} {es : List Expr} {σ : L2.St} {H : Hp} {p pos : Pos} {k n : Nat} {x : Str} {ps : List Str} {sp : Sp} {E : XK} {Q : VK}
theorem je_callL (G : FnG2 X.prog X.w X.K X.mg X.base k x ps sp) (hr : Room n X.A) (hgd : X.A.guards = some []) (hf : ∀ x, X.fn x = true) (hx : Passes (L2.CX X.prog X.w) X E)
    (ha : JA X (e :: es) σ H fun vs H1 => ∀ L : Lot, CellsOf X L σ H1 → sp vs (lend L H1) (fun v H' => LotIn L H' → Q v (hide L H')) (fun cls d H' => LotIn L H' → E cls d (hide L H'))) (hk : k ≤ n := by decide) (hg : Gl X x := by rfl) (hdb : (x == ("__debug__" : Str)) = false := by decide)
    (he : starEach (e :: es) X.env = (false, eval e X.env) :: starEach es X.env := by rfl) (hpl : (backTo pos (starEach es X.env)).any (·.1) = false := by rfl) : JE X (.Call (.Name x p) (e :: es) [] pos) σ H Q := fun pins s I => by
  obtain ⟨fd, len, run, b⟩ := G.ex
  refine wpAny_Call_Name_kw (ld_glob I hg G.gl ?_ hdb)
  refine PySem.W.callWith_K (h₀ := X.base) I.ok.mod.kin G.kp (thn (ha pos pins s I) fun us s1 ⟨vs, H1, I1, r, q⟩ => ⟨I1.kIn, ?_⟩) he hpl
  have h := q _ (lot_cells I1)
  have hl : us.length = ps.length := by rw [← r.length]; exact len _ _ _ _ h
  have hbd : BindsTo s1 fd ⟨us, []⟩ (ps.zip us) := by
    have := b s1 us I1.kIn (by rw [List.append_nil]; exact hl)
    rw [List.append_nil] at this
    exact this
  refine wpAny_call (codeAny_mono (run X.A X.stack s1 _ ⟨us, []⟩ us vs _ _ (hr.mono hk) hgd (env0_lend I1.env0 (lot_out I1) (lot_new I1 hf)) hbd r h) fun r2 s2 hq => ?_)
  have hq := cr_back (lot_out I1) hq (fun v H' li z => z li) (fun cls d H' li z => z li)
  cases r2 with
  | error e => exact hx pins σ H1 s1 e s2 I1 hq
  | ok fl =>
    cases fl with
    | ret u => exact I1.after hq
    | next => exact False.elim hq
    | brk => exact False.elim hq
    | cont => exact False.elim hq
/-- without lending -/
theorem je_call2 (G : FnG2 X.prog X.w X.K X.mg X.base k x ps sp) (hr : Room n X.A) (hgd : X.A.guards = some []) (hx : Passes (L2.CX X.prog X.w) X E)
    (ha : JA X (e :: es) σ H fun vs H1 => sp vs H1 Q E) (hk : k ≤ n := by decide) (hg : Gl X x := by rfl) (hdb : (x == ("__debug__" : Str)) = false := by decide)
    (he : starEach (e :: es) X.env = (false, eval e X.env) :: starEach es X.env := by rfl) (hpl : (backTo pos (starEach es X.env)).any (·.1) = false := by rfl) : JE X (.Call (.Name x p) (e :: es) [] pos) σ H Q := fun pins s I => by
  obtain ⟨fd, len, run, b⟩ := G.ex
  refine wpAny_Call_Name_kw (ld_glob I hg G.gl ?_ hdb)
  refine PySem.W.callWith_K (h₀ := X.base) I.ok.mod.kin G.kp (thn (ha pos pins s I) fun us s1 ⟨vs, H1, I1, r, h⟩ => ⟨I1.kIn, ?_⟩) he hpl
  have hl : us.length = ps.length := by rw [← r.length]; exact len _ _ _ _ h
  have hbd : BindsTo s1 fd ⟨us, []⟩ (ps.zip us) := by
    have := b s1 us I1.kIn (by rw [List.append_nil]; exact hl)
    rw [List.append_nil] at this
    exact this
  refine wpAny_call (codeAny_mono (run X.A X.stack s1 H1 ⟨us, []⟩ us vs Q E (hr.mono hk) hgd I1.env0 hbd r h) fun r2 s2 hq => ?_)
  cases r2 with
  | error e => exact hx pins σ H1 s1 e s2 I1 hq
  | ok fl =>
    cases fl with
    | ret u => exact I1.after hq
    | next => exact False.elim hq
    | brk => exact False.elim hq
    | cont => exact False.elim hq
end
end K28
-- KTry
/-! KTry: several except clauses, each with one and the same name. -/
namespace K28
open PySem PySem.Spec PyProof.Rows L2
/-- slot i goes when a suite is done -/
def goneAt (i : Nat) (D : Ends) : Ends := { nx := fun σ H => D.nx (σ.set i none) H, rt := D.rt, bk := fun σ H => D.bk (σ.set i none) H, ct := fun σ H => D.ct (σ.set i none) H }
/-- what the clauses wish; one of them must answer -/
def wEach (K : PySem.W.Frag) (D : Ends) (i : Nat) : List (Value × (Addr → Value → Option Addr → TS)) → WX
  | [] => fun _ _ _ _ => False
  | (c, ts) :: l => fun cls d σ H => ∃ b, PySem.W.exmOne K cls c = some b ∧ (b = true → ∀ a, H a = none → ts a cls d (goneAt i D) (σ.set i (some (.ref a))) H) ∧ (b = false → wEach K D i l cls d σ H)
inductive ClOk (X : Cx) (n : Str) : List ExceptHandler → List (Value × (Addr → Value → Option Addr → TS)) → Prop
  | nil : ClOk X n [] []
  | cons {x : Str} {c : Value} {ts : Addr → Value → Option Addr → TS} {st : Stmt} {sts : List Stmt} {np hp : Pos} {hds : List ExceptHandler} {l : List (Value × (Addr → Value → Option Addr → TS))} (nm : Names X x c)
      (su : ∀ (a : Addr) (oe : Obj) (cls : Value) (d : Option Addr) (pn : List (Addr × Obj)), Zc cls d oe → (∃ vs, oe.data = .fields vs) → PSs (X.suite a ((a, oe) :: pn)) (st :: sts) (ts a cls d)) (r : ClOk X n hds l) :
      ClOk X n (.ExceptHandler (some (.Name x np)) (some n) (st :: sts) hp :: hds) ((c, ts) :: l)
/-- an exception is caught in X at s -/
structure Caught (X : Cx) (pins : List (Addr × Obj)) (a : Addr) (cls : Value) (d : Option Addr) (σ : L2.St) (H : Hp) (B : Heap) (s : Shared) : Prop where
  fly : HandSPX.FlyingZ B (X.env :: X.outer) a (Zc cls d) s.heap
  inv : ∀ h, B.StaysIn h → s.heap.UpToSlots h → Inv X pins σ H { s with heap := h }
  new : H a = none
section
variable {X : Cx} {n : Str} {i : Nat} {pins : List (Addr × Obj)} {a : Addr} {cls : Value} {d : Option Addr} {σ : L2.St} {H : Hp} {B : Heap} {s : Shared} {D : Ends}
theorem Caught.here (c : Caught X pins a cls d σ H B s) : Inv X pins σ H s := c.inv s.heap c.fly.1 (Heap.UpToSlots.refl _)
theorem Caught.apart (c : Caught X pins a cls d σ H B s) (hf : X.env.frame = some X.env.locals) : a ≠ X.env.locals ∧ a ∉ X.fs := by
  obtain ⟨oe, vs, e, _, dd⟩ := c.fly.there
  have no : ∀ y ∈ X.env :: X.outer, y.frame ≠ some a := fun y hy z => by
    obtain ⟨_, o2, e2, nf⟩ := Heap.FunFrames.mem c.fly.2.2.1 (List.mem_filterMap.mpr ⟨y, hy, z⟩)
    rw [e] at e2
    cases e2
    exact nf vs dd
  refine ⟨fun z => no X.env (List.mem_cons_self) (by rw [hf, z]), fun hm => ?_⟩
  obtain ⟨y, hy, z⟩ := List.mem_filterMap.mp hm
  exact no y (List.mem_cons_of_mem _ hy) z
theorem clauses (hf : X.env.frame = some X.env.locals) (hN : X.N.Nodup) (hi : X.N[i]? = some n) (hln : X.env.kindOf n = some .local) {hds : List ExceptHandler} {l : List (Value × (Addr → Value → Option Addr → TS))} (k : ClOk X n hds l) (c : Caught X pins a cls d σ H B s) (w : wEach X.K D i l cls d σ H) :
    wpAny (model X.prog X.w) X.A (handleBy (.ref a) X.env hds) (SP X pins D) X.xe s := by
  induction k with
  | nil => exact w.elim
  | @cons x cv ts st sts np hp hds2 l2 nm su r ih =>
    obtain ⟨b, hb, yes, no⟩ := w
    obtain ⟨ne1, ne2⟩ := c.apart hf
    obtain ⟨oe, vs, e, z, dd⟩ := c.fly.there
    have J := c.here
    have S := J.suite e dd c.new ne1 ne2
    have see : PySem.W.Looks (model X.prog X.w) s.heap (typeOf (.ref a)) cls := fun _ _ _ _ kp q => wpAny_typeOf_ref (kp _ _ e) (by rw [z.1]; exact q)
    have out := PySem.W.exm_one (M := model X.prog X.w) J.kIn see hb
    refine wpAny_handleBy_cons (codeAny_handlers_test ?_) (fun q => nomatch q)
    have nameOk : ∀ {T U : Value → Shared → Prop}, T cv s → wpAny (model X.prog X.w) (X.A.mark (some (.ref a))) (eval (.Name x np) X.env) T U s := fun q => by
      obtain ⟨g, g2, m | ⟨m, v, nn⟩⟩ := nm
      · exact ld_glob (X := X.suite a ((a, oe) :: (X.pn ++ pins))) S g m q g2
      · exact ld_blt (X := X.suite a ((a, oe) :: (X.pn ++ pins))) S g m v q nn g2
    refine nameOk (out.here ?_)
    cases b with
    | false => exact ih (no rfl)
    | true =>
      refine codeAny_handlers_suite_as (HandSPX.lands_againZ c.fly fun h2 fly2 up2 => ?_)
      have J2 := c.inv h2 fly2.1 up2
      obtain ⟨oe2, vs2, e2, z2, dd2⟩ := fly2.there
      have S2 := J2.suite e2 dd2 c.new ne1 ne2
      refine store_ok (X := X.suite a ((a, oe2) :: (X.pn ++ pins))) (v := .ref a) S2 hN hi (.inl hln) rfl (fun s3 S3 => ?_) (.inr hln)
      refine wpAny_mono ((su a oe2 cls d (X.pn ++ pins) z2 ⟨_, dd2⟩).run [] s3 _ H _ S3 (yes rfl a c.new)) (fun f s4 hs => ?_) (fun _ _ q => False.elim q)
      have off : ∀ {σ4 : L2.St} {H4 : Hp} {R : Shared → Prop}, Inv (X.suite a ((a, oe2) :: (X.pn ++ pins))) [] σ4 H4 s4 → (∀ s5, Inv X pins (σ4.set i none) H4 s5 → R s5) →
          wpAny (model X.prog X.w) X.A (do bindName X.env n .none; unbindBehindTheSuite X.env n hp) (fun _ s5 => R s5) X.xe s4 := fun {_ _ _} S4 q => gone_ok (S4.unsuite J.ok) hN hi hln q
      cases f with
      | ret u =>
        obtain ⟨v4, σ4, H4, S4, rv, q⟩ := hs
        exact off S4 fun s5 J5 => ⟨_, _, _, J5, rv, q⟩
      | next =>
        obtain ⟨σ4, H4, S4, q⟩ := hs
        exact off S4 fun s5 J5 => ⟨_, _, J5, q⟩
      | brk =>
        obtain ⟨σ4, H4, S4, q⟩ := hs
        exact off S4 fun s5 J5 => ⟨_, _, J5, q⟩
      | cont =>
        obtain ⟨σ4, H4, S4, q⟩ := hs
        exact off S4 fun s5 J5 => ⟨_, _, J5, q⟩
/-- try: body / except x as n: .. / except y as n: .. -/
theorem ps_tryEach {body : List Stmt} {hd : ExceptHandler} {hds : List ExceptHandler} {l : List (Value × (Addr → Value → Option Addr → TS))} {pos : Pos} {tb : WX → TS} (hs : X.stack = X.env :: X.outer) (hf : X.env.frame = some X.env.locals) (hN : X.N.Nodup) (hi : X.N[i]? = some n) (hln : X.env.kindOf n = some .local)
    (hb : ∀ (W : WX) (pn : List (Addr × Obj)) (xe : Value → Shared → Prop), Takes (X.tr pn xe) W → PassesOwn (model X.prog X.w) X.A X.env xe → PSs (X.tr pn xe) body (tb W)) (hh : ClOk X n (hd :: hds) l) :
    PS X (.Try body (hd :: hds) [] [] pos) (fun D σ H => tb (wEach X.K D i l) D σ H) := by
  refine ⟨fun pins s σ H D I h => ?_⟩
  have ok := I.ok
  have hfr : X.A.frames = some (X.env :: X.outer) := by rw [ok.frames, hs]
  let xe : Value → Shared → Prop := fun e s₁ => wpAny (model X.prog X.w) X.A (noteFrame e X.env) (fun _ s₂ => wpAny (model X.prog X.w) X.A (setFlight e none) (fun _ s₃ => wpAny (model X.prog X.w) X.A (handleBy e X.env (hd :: hds)) (SP X pins D) X.xe s₃) X.xe s₂) X.xe s₁
  have tk : Takes (X.tr (X.pn ++ pins) xe) (wEach X.K D i l) := fun u s' x => by
    obtain ⟨a, B, sI, pins', σ', H', cls, d, rfl, J', nb, up, sky, na, os, ag, w⟩ := x
    have J := J'.ofTry ok
    have sky' : Sky B (X.env :: X.outer) a (Zc cls d) X.env.locals s'.heap := by rw [← hs]; exact sky
    refine Sky.land Zc.steady hfr hf sky' fun h3 fl3 up3 => ?_
    exact clauses hf hN hi hln hh ⟨fl3, fun h st up4 => J.landed (s' := { s' with heap := h }) nb st ((up.trans up3).trans up4) os ag, na⟩ w
  refine wpAny_Try_except ?_
  refine wpAny_mono ((hb _ _ xe tk PassesOwn.looking).run [] s σ H D (I.toTry _) h) (fun f s1 q => ?_) fun _ _ q => q
  cases f with
  | ret u =>
    obtain ⟨v, σ', H', J, r, q⟩ := q
    exact ⟨v, σ', H', J.ofTry ok, r, q⟩
  | next =>
    obtain ⟨σ', H', J, q⟩ := q
    exact wpAny_execs_nil ⟨σ', H', J.ofTry ok, q⟩
  | brk =>
    obtain ⟨σ', H', J, q⟩ := q
    exact ⟨σ', H', J.ofTry ok, q⟩
  | cont =>
    obtain ⟨σ', H', J, q⟩ := q
    exact ⟨σ', H', J.ofTry ok, q⟩
end
end K28
-- KD4
/-! KD4: Stand. -/
namespace K28
open PySem PySem.Spec PyProof.Rows L2
/-! ### what a Stand holds -/
inductive Bz where
  | free
  | wr (n t : Int)
  | rd (t : Int)
def pB : Bz → PyData
  | .free => .none
  | .wr n t => .tuple [.str "write", .int n, .int t]
  | .rd t => .tuple [.str "read", .none, .int t]
theorem lf_pB (b : Bz) : lf (pB b) = true := by cases b <;> rfl
structure SD where
  busy : List Bz
  begins : List (Int × Int)
  ends : List (Int × Int)
  reads : List (Int × List Pr)
def pBs (l : List Bz) : PyData := .tuple (l.map pB)
theorem lf_pBs (l : List Bz) : lf (pBs l) = true := by unfold pBs lf; exact lfs_map fun b _ => lf_pB b
def standF (u : V) (b2 b3 b4 : Addr) : List (Str × V) := [("busy_ones", u), ("begins", .ref b2), ("ends", .ref b3), ("reads_of", .ref b4)]
structure StandP (K : PySem.W.Frag) (H : Hp) (S : SD) (a dx : Addr) (u : V) (b2 b3 b4 : Addr) : Prop where
  at_ : H a = some (.ins (He.ga K "Stand") dx (standF u b2 b3 b4))
  bu : Dp K H u (pBs S.busy)
  be : DM K H b2 PyData.int S.begins
  en : DM K H b3 PyData.int S.ends
  re : DM K H b4 pCs S.reads
def StandAt (K : PySem.W.Frag) (H : Hp) (v : V) (S : SD) : Prop := ∃ a dx u b2 b3 b4, v = .ref a ∧ StandP K H S a dx u b2 b3 b4
theorem StandP.on {K : PySem.W.Frag} {H H' : Hp} {S : SD} {a dx : Addr} {u : V} {b2 b3 b4 : Addr} (h : StandP K H S a dx u b2 b3 b4) (s : Same H H') : StandP K H' S a dx u b2 b3 b4 := ⟨s _ _ h.at_, h.bu.on s, h.be.on s, h.en.on s, h.re.on s⟩
theorem StandAt.on {K : PySem.W.Frag} {H H' : Hp} {v : V} {S : SD} (h : StandAt K H v S) (s : Same H H') : StandAt K H' v S := let ⟨a, dx, u, b2, b3, b4, e, p⟩ := h; ⟨a, dx, u, b2, b3, b4, e, p.on s⟩
/-- bounds -/
structure SOk (S : SD) : Prop where
  be : S.begins.length < 60
  en : S.ends.length < 60
  re : S.reads.length < 60
  rd : ∀ n l, getM S.reads n = some l → l.length ≤ 1000
  bu : S.busy.length ≤ 6
section
variable {P : Program} {w : World} {K : PySem.W.Frag} {mg : Str → Option Value} {base : Heap}
/-! ### making one -/
def spStI (K : PySem.W.Frag) : Sp := fun vs H Q _ => ∃ x dx u b2 b3 b4, vs = [.ref x, u, .ref b2, .ref b3, .ref b4] ∧ H x = some (.ins (He.ga K "Stand") dx []) ∧ ∀ H', SameX x H H' → H' x = some (.ins (He.ga K "Stand") dx (standF u b2 b3 b4)) → Q .non H'
theorem S_Stand_init : FnScope ["self", "busy_ones", "begins", "ends", "reads_of"] ["self", "busy_ones", "begins", "ends", "reads_of"] (defScope s_Stand_init) := ⟨rfl, rfl, rfl, by decide +kernel, rfl, by decide +kernel, by decide +kernel⟩
theorem g_Stand_init (M : Mo K mg) : ∃ fd, FnOk P w K mg base (L2.CX P w) 1 (He.ma K (He.ga K "Stand") "__init__") fd ["self", "busy_ones", "begins", "ends", "reads_of"] (spStI K) ∧ Binds K fd ["self", "busy_ones", "begins", "ends", "reads_of"] [] := by
  obtain ⟨fd, F⟩ := M.m_Stand_init.df
  refine ⟨fd, fnj F S_Stand_init (fun vs H Q E ⟨x, dx, u, b2, b3, b4, h, _⟩ => by rw [h]; rfl) (fun cdv A outer s H vs Q E hr ⟨x, dx, u, b2, b3, b4, e, hx, q⟩ => ?_), F.bindsN fun _ _ _ _ _ _ us hl => match us, hl with | [_, _, _, _, _], _ => rfl⟩
  subst e
  refine jss_fldV (jv_var 1 rfl) (jv_var 0 rfl) hx M.c_Stand M.a_busy_ones fun H1 s1 => ?_
  refine jss_fldV (jv_var 2 rfl) (jv_var 0 rfl) upd_same M.c_Stand M.a_begins fun H2 s2 => ?_
  refine jss_fldV (jv_var 3 rfl) (jv_var 0 rfl) upd_same M.c_Stand M.a_ends fun H3 s3 => ?_
  refine jss_fldV (jv_var 4 rfl) (jv_var 0 rfl) upd_same M.c_Stand M.a_reads_of fun H4 s4 => ?_
  exact jss_nil (q _ (sx_upd (sx_same (sx_upd (sx_same (sx_upd (sx_same (sx_upd (same_sx s1)) s2)) s3)) s4)) upd_same)
/-- Stand(..) -/
theorem je_Stand {X : Cx} {e : Expr} {es : List Expr} {σ : L2.St} {H : Hp} {p pos : Pos} {n : Nat} {Q : VK} {S : SD} (M : Mo X.K X.mg) (hr : Room (n + 2) X.A)
    (ha : JA X (e :: es) σ H fun vs H1 => ∃ u b2 b3 b4, vs = [u, .ref b2, .ref b3, .ref b4] ∧ Same H H1 ∧ Dp X.K H1 u (pBs S.busy) ∧ DM X.K H1 b2 PyData.int S.begins ∧ DM X.K H1 b3 PyData.int S.ends ∧ DM X.K H1 b4 pCs S.reads) (hq : ∀ v H', Same H H' → StandAt X.K H' v S → Q v H')
    (hg : Gl X "Stand" := by rfl) (he : starEach (e :: es) X.env = (false, eval e X.env) :: starEach es X.env := by rfl) (hpl : (backTo pos (starEach es X.env)).any (·.1) = false := by rfl) : JE X (.Call (.Name "Stand" p) (e :: es) [] pos) σ H Q := by
  obtain ⟨fd, F, b⟩ := g_Stand_init (P := X.prog) (w := X.w) (base := X.base) M
  refine je_of (pe_make M.k_Stand F (hr.mono (by omega)) hg M.g_Stand b .nil (passL (X := X)) paj (by decide) he hpl) (JA.mono ha fun vs H1 ⟨u, b2, b3, b4, e1, s1, h1, h2, h3, h4⟩ x dx hx hdx hne => ?_)
  subst e1
  have s2 : Same H1 (upd (upd H1 dx (.own x)) x (.ins (He.ga X.K "Stand") dx [])) := (same_new hdx).trans (same_new (by rw [upd_ne (Ne.symm hne)]; exact hx))
  refine ⟨x, dx, u, b2, b3, b4, rfl, upd_same, fun H' sx hx' => ⟨rfl, ?_⟩⟩
  have s3 : Same H1 H' := fun c o e => sx _ _ (ne_of_none e hx) (s2 _ _ e)
  exact hq _ _ (s1.trans s3) ⟨x, dx, u, b2, b3, b4, rfl, hx', h1.on s3, h2.on s3, h3.on s3, h4.on s3⟩
/-! ### its methods -/
theorem S_Stand_with_busy : FnScope ["self", "hand", "thing"] ["self", "hand", "thing"] (defScope s_Stand_with_busy) := ⟨rfl, rfl, rfl, by decide +kernel, rfl, by decide +kernel, by decide +kernel⟩
def spWB (K : PySem.W.Frag) : Sp := fun vs H Q _ => ∃ v S i u z, vs = [v, .int (i : Nat), u] ∧ StandAt K H v S ∧ SOk S ∧ i < S.busy.length ∧ Dp K H u (pB z) ∧ ∀ r H', Same H H' → Dp K H' r (pBs (S.busy.set i z)) → Q r H'
theorem set_split {α : Type} {l : List α} {i : Nat} (h : i < l.length) (x : α) : l.take i ++ x :: l.drop (i + 1) = l.set i x := by
  rw [List.set_eq_take_append_cons_drop, if_pos h]
theorem g_with_busy (M : Mo K mg) : MtG P w K mg base 1 "Stand" "with_busy" ["self", "hand", "thing"] (spWB K) := by
  refine mtg M.m_Stand_with_busy M.c_Stand M.t_Stand_with_busy S_Stand_with_busy (fun vs H Q E ⟨v, S, i, u, z, h, _⟩ => by rw [h]; rfl) (fun f cdv A outer s H vs Q E hr ⟨v, S, i, u, z, e, hS, ok, hi, hu, q⟩ => ?_) (fun _ _ _ _ _ _ us hl => match us, hl with | [_, _, _], _ => rfl)
  subst e
  obtain ⟨a, dx, bu, b2, b3, b4, e, p⟩ := hS
  subst e
  have hb6 := ok.bu
  refine jss_one (js_ret ((jd_tup (ds := (S.busy.map pB).take i ++ (pB z :: ((S.busy.map pB).drop (i + 1) ++ []))) (jds_star ?_ (jds_cons (jd_var 2 rfl hu) (jds_star ?_ jds_nil))) (small1 ?_)).je fun r H' s' hr => q r H' s' ?_))
  · rw [← cut_to]
    exact jd_cutT (JV.dd (jv_fld (jv_var 0 rfl) p.at_ M.c_Stand M.a_busy_ones rfl) p.bu) jo_none (jo_some (jv_var 1 rfl).int)
  · have e : ((i + 1 : Nat) : Int) = (i : Int) + 1 := by omega
    rw [← cut_from, e]
    exact jd_cutT (JV.dd (jv_fld (jv_var 0 rfl) p.at_ M.c_Stand M.a_busy_ones rfl) p.bu) (jo_some (jd_add (jv_var 1 rfl).int jd_int)) jo_none
  · simp only [List.length_append, List.length_take, List.length_cons, List.length_drop, List.length_map, List.length_nil]
    omega
  · have e : (S.busy.map pB).take i ++ (pB z :: ((S.busy.map pB).drop (i + 1) ++ [])) = (S.busy.set i z).map pB := by
      rw [List.append_nil, set_split (by rw [List.length_map]; exact hi), List.map_set]
    rw [e] at hr
    exact hr
theorem je_with_busy {X : Cx} {o e1 e2 : Expr} {σ : L2.St} {H : Hp} {pos apos : Pos} {n : Nat} {v : V} {S : SD} {i : Nat} {z : Bz} {pl : Sem Bool} (M : Mo X.K X.mg) (hr : Room (n + 1) X.A) (ho : JV X o σ H v) (hS : StandAt X.K H v S) (ok : SOk S) (hi : i < S.busy.length) (h1 : JD X e1 σ H (.int (i : Nat))) (h2 : JD X e2 σ H (pB z))
    (hst : starEach (e1 :: [e2]) X.env = (false, eval e1 X.env) :: starEach [e2] X.env := by rfl) (hst2 : starEach [e2] X.env = (false, eval e2 X.env) :: starEach [] X.env := by rfl) (hpl : (backTo pos (starEach [e2] X.env)).any (·.1) = false := by rfl)
    (ht : eval (.Call (.Attribute o "with_busy" apos) (e1 :: [e2]) [] pos) X.env = (do
      let ov ← eval o X.env
      standAt apos.atName
      let (f, first) ← holding [ov] (getMethod ov "with_busy" pl)
      callWith pos f first (backTo pos (starEach (e1 :: [e2]) X.env)) (backToKw pos (keywordEach [] X.env))) := by rfl) : JD X (.Call (.Attribute o "with_busy" apos) (e1 :: [e2]) [] pos) σ H (pBs (S.busy.set i z)) := fun H1 s Q q =>
  je_meth (pl := pl) (E := E0) (g_with_busy (P := X.prog) (w := X.w) (base := X.base) M) hr passL (ho H1 s _ fun H2 s2 => by
    have hS2 := hS.on (s.trans s2)
    obtain ⟨a, dx, u, b2, b3, b4, e, p⟩ := id hS2
    subst e
    exact ⟨a, dx, _, rfl, p.at_, rfl, ja_of (pa_cons pej (pa_cons pej pa_nil hst2) hst) (h1.int H2 (s.trans s2) _ fun H3 s3 => h2 H3 ((s.trans s2).trans s3) _ fun u2 H4 s4 hu => ⟨_, S, i, u2, z, rfl, hS2.on (s3.trans s4), ok, hi, hu, fun r H' s5 hr => q r H' (((s2.trans s3).trans s4).trans s5) hr⟩)⟩) (by omega) hst hpl ht
theorem je_Stand4 {X : Cx} {e1 e2 e3 e4 : Expr} {σ : L2.St} {H : Hp} {p pos : Pos} {n : Nat} {Q : VK} {S : SD} (M : Mo X.K X.mg) (hr : Room (n + 2) X.A) (h1 : JD X e1 σ H (pBs S.busy)) (h2 : JM X e2 σ H PyData.int S.begins) (h3 : JM X e3 σ H PyData.int S.ends) (h4 : JM X e4 σ H pCs S.reads)
    (hq : ∀ v H', Same H H' → StandAt X.K H' v S → Q v H') (hg : Gl X "Stand" := by rfl) (s1 : starEach [e1, e2, e3, e4] X.env = (false, eval e1 X.env) :: starEach [e2, e3, e4] X.env := by rfl) (s2 : starEach [e2, e3, e4] X.env = (false, eval e2 X.env) :: starEach [e3, e4] X.env := by rfl)
    (s3 : starEach [e3, e4] X.env = (false, eval e3 X.env) :: starEach [e4] X.env := by rfl) (s4 : starEach [e4] X.env = (false, eval e4 X.env) :: starEach [] X.env := by rfl) (hpl : (backTo pos (starEach [e2, e3, e4] X.env)).any (·.1) = false := by rfl) : JE X (.Call (.Name "Stand" p) [e1, e2, e3, e4] [] pos) σ H Q :=
  je_Stand M hr (ja_of (pa_cons pej (pa_cons pej (pa_cons pej (pa_cons pej pa_nil s4) s3) s2) s1) (h1 H (Same.refl H) _ fun u H1 k1 hu => h2 H1 k1 _ fun a2 H2 k2 d2 => h3 H2 (k1.trans k2) _ fun a3 H3 k3 d3 => h4 H3 ((k1.trans k2).trans k3) _ fun a4 H4 k4 d4 =>
    ⟨u, a2, a3, a4, rfl, ((k1.trans k2).trans k3).trans k4, hu.on ((k2.trans k3).trans k4), d2.on (k3.trans k4), d3.on k4, d4⟩)) hq hg s1 hpl
/-! ### begun -/
inductive Bg where
  | w (n : Int)
  | r
def Bg.word : Bg → Str
  | .w _ => "write"
  | .r => "read"
def Bg.name : Bg → V
  | .w n => .int n
  | .r => .non
def Bg.pn : Bg → PyData
  | .w n => .int n
  | .r => .none
def Bg.z : Bg → Int → Bz
  | .w n, t => .wr n t
  | .r, t => .rd t
def Bg.be (S : SD) (t : Int) : Bg → List (Int × Int)
  | .w n => putM S.begins n t
  | .r => S.begins
def begunS (S : SD) (i : Nat) (b : Bg) (t : Int) : SD := { S with busy := S.busy.set i (b.z t), begins := b.be S t }
theorem Bg.dp {K : PySem.W.Frag} {H : Hp} (b : Bg) : Dp K H b.name b.pn := by
  cases b with
  | w n => exact .int n
  | r => exact .non
def spBegun (K : PySem.W.Frag) : Sp := fun vs H Q _ => ∃ v S i b t, vs = [v, .int (i : Nat), .str (Bg.word b), Bg.name b, .int t] ∧ StandAt K H v S ∧ SOk S ∧ i < S.busy.length ∧ ∀ r H', Same H H' → StandAt K H' r (begunS S i b t) → Q r H'
theorem S_Stand_begun : FnScope ["self", "hand", "word", "name", "tick", "begins"] ["self", "hand", "word", "name", "tick"] (defScope s_Stand_begun) := ⟨rfl, rfl, rfl, by decide +kernel, rfl, by decide +kernel, by decide +kernel⟩
theorem g_begun (M : Mo K mg) : MtG P w K mg base 4 "Stand" "begun" ["self", "hand", "word", "name", "tick"] (spBegun K) := by
  refine mtg M.m_Stand_begun M.c_Stand M.t_Stand_begun S_Stand_begun (fun vs H Q E ⟨v, S, i, b, t, h, _⟩ => by rw [h]; rfl) (fun f cdv A outer s H vs Q E hr ⟨v, S, i, b, t, e, hS, ok, hi, q⟩ => ?_) (fun _ _ _ _ _ _ us hl => match us, hl with | [_, _, _, _, _], _ => rfl)
  subst e
  obtain ⟨a, dx, bu, b2, b3, b4, e, p⟩ := id hS
  subst e
  have hbe := ok.be
  obtain ⟨tW, gW⟩ := M.s_WRITE
  refine jss_setE 5 S_Stand_begun.nd (JMF.je (jmf_dict M.f_dict (JV.jm (jv_fld (jv_var 0 rfl) p.at_ M.c_Stand M.a_begins rfl) p.be)) fun a5 H1 s1 hn5 hd5 => ?_)
  -- the return
  have tail : ∀ H2, Same H H2 → DM K H2 a5 PyData.int (b.be S t) → JSs (cxOf (L2.CX P w) P w K mg base ["self", "hand", "word", "name", "tick", "begins"] "Stand.begun" (defScope s_Stand_begun) f cdv A outer s H E) ((defBody s_Stand_begun).drop 2) { nx := fun _ H' => Q .non H', rt := Q } ((start ["self", "hand", "word", "name", "tick", "begins"] [.ref a, .int (i : Nat), .str (Bg.word b), Bg.name b, .int t]).set 5 (some (.ref a5))) H2 := by
    intro H2 s2 hd2
    have p2 := p.on s2
    have hz : pB (b.z t) = .tuple [.str b.word, b.pn, .int t] := by cases b <;> rfl
    refine jss_one (js_ret (je_Stand4 (S := begunS S i b t) M (n := 1) hr (je_with_busy (n := 2) (z := b.z t) M hr (jv_var 0 rfl) (hS.on s2) ok hi (jv_var 1 rfl).int ?_) (JV.jm (jv_var 5 rfl) hd2) (jmf_dict M.f_dict (JV.jm (jv_fld (jv_var 0 rfl) p2.at_ M.c_Stand M.a_ends rfl) p2.en)).jm (jmf_dict M.f_dict (JV.jm (jv_fld (jv_var 0 rfl) p2.at_ M.c_Stand M.a_reads_of rfl) p2.re)).jm
      fun r H' s' hr => q r H' (s2.trans s') hr))
    rw [hz]
    exact jd_tup (jds_cons ((jv_var 2 rfl).dd (.str _)) (jds_cons ((jv_var 3 rfl).dd b.dp) (jds_cons (jv_var 4 rfl).int jds_nil))) (small1 (by simp))
  have hb : ∀ {H2 : Hp} {p1 p2 pos : Pos}, JB (cxOf (L2.CX P w) P w K mg base ["self", "hand", "word", "name", "tick", "begins"] "Stand.begun" (defScope s_Stand_begun) f cdv A outer s H E) (.Compare (.Name "word" p1) [.Eq] [.Name "WRITE" p2] pos) ((start ["self", "hand", "word", "name", "tick", "begins"] [.ref a, .int (i : Nat), .str (Bg.word b), Bg.name b, .int t]).set 5 (some (.ref a5))) H2 (decide (V.str b.word = V.str "write")) := fun {H2 p1 p2 pos} =>
    jb_eqS (jv_var 2 rfl) (jv_glob (v := .str "write") gW ⟨_, rfl⟩) rfl
  cases b with
  | w n =>
    refine jss_cons (js_ifT hb fun H2 s2 => ?_)
    exact jss_dputD hr (jv_var 5 rfl) (jv_var 3 rfl).int (jv_var 4 rfl).int (hd5.on s2) (small1 (by omega)) (fun _ => rfl) fun H3 ob s3 hd3 => jss_nil (tail _ (same_upd (s1.trans (s2.trans s3)) hn5) hd3)
  | r =>
    refine jss_cons (js_ifF hb fun H2 s2 => ?_)
    exact jss_nil (tail _ (s1.trans s2) (hd5.on s2))
/-! ### ended -/
inductive En where
  | w (n b : Int)
  | r (b m : Int)
def En.z : En → Bz
  | .w n b => .wr n b
  | .r b _ => .rd b
def En.isW : En → Bool
  | .w _ _ => true
  | .r _ _ => false
def endedS (S : SD) (i : Nat) (e : En) (t : Int) : SD := match e with
  | .w n _ => { S with busy := S.busy.set i .free, ends := putM S.ends n t }
  | .r b m => { S with busy := S.busy.set i .free, reads := putM S.reads m ((getM S.reads m).getD [] ++ [(b, t)]) }
def spEnded (K : PySem.W.Frag) : Sp := fun vs H Q _ => ∃ v S i e t u, vs = [v, .int (i : Nat), u, .int t] ∧ (∀ b m, e = En.r b m → u = .int m) ∧ StandAt K H v S ∧ SOk S ∧ S.busy[i]? = some (En.z e) ∧ ∀ r H', Same H H' → StandAt K H' r (endedS S i e t) → Q r H'
theorem S_Stand_ended : FnScope ["self", "hand", "name", "tick", "word", "own", "begin", "ends", "reads_of"] ["self", "hand", "name", "tick"] (defScope s_Stand_ended) := ⟨rfl, rfl, rfl, by decide +kernel, rfl, by decide +kernel, by decide +kernel⟩
theorem busy_at {S : SD} {i : Nat} {z : Bz} (h : S.busy[i]? = some z) : atI (S.busy.map pB) (i : Int) = some (pB z) := atI_nat (by rw [List.getElem?_map, h]; rfl)
def endN : List Str := ["self", "hand", "name", "tick", "word", "own", "begin", "ends", "reads_of"]
theorem g_ended (M : Mo K mg) : MtG P w K mg base 4 "Stand" "ended" ["self", "hand", "name", "tick"] (spEnded K) := by
  refine mtg M.m_Stand_ended M.c_Stand M.t_Stand_ended S_Stand_ended (fun vs H Q E ⟨v, S, i, e, t, u, h, _⟩ => by rw [h]; rfl) (fun f cdv A outer s H vs Q E hr ⟨v, S, i, en, t, u, e, hu, hS, ok, hi, q⟩ => ?_) (fun _ _ _ _ _ _ us hl => match us, hl with | [_, _, _, _], _ => rfl)
  subst e
  obtain ⟨a, dx, bu, b2, b3, b4, e, p⟩ := id hS
  subst e
  have hbe := ok.be
  have hen := ok.en
  have hre := ok.re
  have hil : i < S.busy.length := (List.getElem?_eq_some_iff.mp hi).1
  obtain ⟨tW, gW⟩ := M.s_WRITE
  have h3 : ∃ w0 d1 b0, pB en.z = .tuple [.str w0, d1, .int b0] ∧ decide (V.str w0 = V.str "write") = en.isW ∧ (∀ n b, en = .w n b → d1 = .int n) ∧ ∀ b m, en = .r b m → b0 = b := by
    cases en with
    | w n b => exact ⟨_, _, _, rfl, (show decide (V.str "write" = V.str "write") = true by decide), fun _ _ h => by cases h; rfl, fun _ _ h => nomatch h⟩
    | r b m => exact ⟨_, _, _, rfl, (show decide (V.str "read" = V.str "write") = false by decide), fun _ _ h => (nomatch h), fun _ _ h => by cases h; rfl⟩
  obtain ⟨w0, d1, b0, hz, hw, hn, hb⟩ := h3
  refine jss_set3 4 5 6 rfl S_Stand_ended.nd (JD.je (jd_ixT (JV.dd (jv_fld (jv_var 0 rfl) p.at_ M.c_Stand M.a_busy_ones rfl) p.bu) (jv_var 1 rfl).int (busy_at hi)) fun v1 H1 s1 hv1 => ?_)
  rw [hz] at hv1
  cases hv1 with
  | tup k1 k2 =>
    obtain ⟨x1, x2, x3, rfl, j1, j2, j3⟩ := dpa3 k2
    refine ⟨_, x1, x2, x3, rfl, k1, ?_⟩
    cases j1
    cases j3
    have p1 := p.on s1
    refine jss_par 7 8 rfl S_Stand_ended.nd (JMF.je (jmf_dict M.f_dict (JV.jm (jv_fld (jv_var 0 rfl) p1.at_ M.c_Stand M.a_ends rfl) p1.en)) fun a7 H2 s2 hn7 hd7 => JMF.je (jmf_dict M.f_dict (JV.jm (jv_fld (jv_var 0 rfl) (p1.on s2).at_ M.c_Stand M.a_reads_of rfl) (p1.on s2).re)) fun a8 H3 s3 hn8 hd8 => ?_)
    have p3 := p1.on (s2.trans s3)
    have s03 := s1.trans (s2.trans s3)
    have hn7' : H a7 = none := same_none s1 hn7
    have hn8' : H a8 = none := same_none (s1.trans s2) hn8
    have hne : a7 ≠ a8 := by
      obtain ⟨kv, z1, _⟩ := hd7
      exact ne_of_none z1 hn8
    have tail : ∀ H4, Same H H4 → DM K H4 a7 PyData.int (endedS S i en t).ends → DM K H4 a8 pCs (endedS S i en t).reads → JSs (cxOf (L2.CX P w) P w K mg base endN "Stand.ended" (defScope s_Stand_ended) f cdv A outer s H E) ((defBody s_Stand_ended).drop 3) { nx := fun _ H' => Q .non H', rt := Q }
        [some (.ref a), some (.int (i : Nat)), some u, some (.int t), some (.str w0), some x2, some (.int b0), some (.ref a7), some (.ref a8)] H4 := by
      intro H4 s4 e7 e8
      have p4 := p.on s4
      have hb : pBs (S.busy.set i .free) = pBs (endedS S i en t).busy := by cases en <;> rfl
      have hg : S.begins = (endedS S i en t).begins := by cases en <;> rfl
      refine jss_one (js_ret (je_Stand4 (S := endedS S i en t) M (n := 1) hr ?_ ?_ (JV.jm (jv_var 7 rfl) e7) (JV.jm (jv_var 8 rfl) e8) fun r H' s' hr => q r H' (s4.trans s') hr))
      · rw [← hb]
        exact je_with_busy (n := 2) (z := .free) M hr (jv_var 0 rfl) (hS.on s4) ok hil (jv_var 1 rfl).int jd_non
      · rw [← hg]
        exact (jmf_dict M.f_dict (JV.jm (jv_fld (jv_var 0 rfl) p4.at_ M.c_Stand M.a_begins rfl) p4.be)).jm
    have hbt : ∀ {H2 : Hp} {p1 p2 pos : Pos}, JB (cxOf (L2.CX P w) P w K mg base endN "Stand.ended" (defScope s_Stand_ended) f cdv A outer s H E) (.Compare (.Name "word" p1) [.Eq] [.Name "WRITE" p2] pos) [some (.ref a), some (.int (i : Nat)), some u, some (.int t), some (.str w0), some x2, some (.int b0), some (.ref a7), some (.ref a8)] H2 (decide (V.str w0 = V.str "write")) := fun {H2 p1 p2 pos} =>
      jb_eqS (jv_var 4 rfl) (jv_glob (v := .str "write") gW ⟨_, rfl⟩) rfl
    rw [hw] at hbt
    cases en with
    | w n b =>
      have hd1 := hn n b rfl
      subst hd1
      cases j2
      refine jss_cons (js_ifT hbt fun H4 s4 => ?_)
      exact jss_dputD hr (jv_var 7 rfl) (jv_var 5 rfl).int (jv_var 3 rfl).int (hd7.on (s3.trans s4)) (small1 (by omega)) (fun _ => rfl) fun H5 ob s5 hd5 => jss_nil (tail _ (same_upd (s03.trans (s4.trans s5)) hn7') hd5 (by
        obtain ⟨kv, z1, z2⟩ := hd8.on (s4.trans s5)
        obtain ⟨kv7, z3, _⟩ := hd7.on (s3.trans (s4.trans s5))
        exact ⟨kv, by rw [upd_ne (Ne.symm hne)]; exact z1, z2.tups (tups_dK z3) lf_pCs⟩))
    | r b m =>
      have hb0 := hb b m rfl
      subst hb0
      have hu0 := hu b0 m rfl
      subst hu0
      refine jss_cons (js_ifF hbt fun H4 s4 => ?_)
      have hd84 := hd8.on s4
      have lr : ((getM S.reads m).getD []).length ≤ 1000 := by
        cases e : getM S.reads m with
        | none => simp
        | some l => exact ok.rd m l e
      refine jss_dputD (x := (getM S.reads m).getD [] ++ [(b0, t)]) hr (jv_var 8 rfl) (jv_var 2 rfl).int ?_ hd84 (small1 (by omega)) lf_pCs fun H5 ob s5 hd5 => jss_nil (tail _ (same_upd (s03.trans (s4.trans s5)) hn8') (by
        obtain ⟨kv, z1, z2⟩ := hd7.on (s3.trans (s4.trans s5))
        obtain ⟨kv8, z3, _⟩ := hd84.on s5
        exact ⟨kv, by rw [upd_ne hne]; exact z1, z2.tups (tups_dK z3) (fun _ => rfl)⟩) hd5)
      have e : pCs ((getM S.reads m).getD [] ++ [(b0, t)]) = .tuple (((getM S.reads m).getD []).map pC ++ ([pC (b0, t)])) := by unfold pCs; rw [List.map_append]; rfl
      rw [e]
      refine jd_tup (jds_star (jd_dget2 hr (JV.jm (jv_var 8 rfl) hd84) (jv_var 2 rfl).int (jd_tup jds_nil (small1 (by simp))) (pCs ((getM S.reads m).getD [])) (by cases getM S.reads m <;> rfl)) (jds_cons (jd_tup (jds_cons (jv_var 6 rfl).int (jds_cons (jv_var 3 rfl).int jds_nil)) (small1 (by simp))) jds_nil)) (small1 (by simp; omega))
/-! ### names_so, record, has_room -/
def namesS (S : SD) : List Int := srt (keysM S.begins)
def recV (S : SD) (n : Int) : Vl := (((getM S.begins n).getD 0, (getM S.ends n).getD 1000000000), (getM S.reads n).getD [])
def recS (S : SD) : List Vl := (namesS S).map (recV S)
def spNames (K : PySem.W.Frag) : Sp := fun vs H Q _ => ∃ v S, vs = [v] ∧ StandAt K H v S ∧ SOk S ∧ ∀ a us H', Same H H' → H a = none → H' a = some (.lst us) → DpAll K H' us ((namesS S).map PyData.int) → Q (.ref a) H'
theorem S_Stand_names_so : FnScope ["self"] ["self"] (defScope s_Stand_names_so) := ⟨rfl, rfl, rfl, by decide +kernel, rfl, by decide +kernel, by decide +kernel⟩
theorem g_names_so (M : Mo K mg) : MtG P w K mg base 1 "Stand" "names_so" ["self"] (spNames K) := by
  refine mtg M.m_Stand_names_so M.c_Stand M.t_Stand_names_so S_Stand_names_so (fun vs H Q E ⟨v, S, h, _⟩ => by rw [h]; rfl) (fun f cdv A outer s H vs Q E hr ⟨v, S, e, hS, ok, q⟩ => ?_) (fun _ _ _ _ _ _ us hl => match us, hl with | [_], _ => rfl)
  subst e
  obtain ⟨a, dx, bu, b2, b3, b4, e, p⟩ := id hS
  subst e
  have hbe := ok.be
  exact jss_one (js_ret (JL.je (jl_sortedM rfl M.f_sorted (JV.jm (jv_fld (jv_var 0 rfl) p.at_ M.c_Stand M.a_begins rfl) p.be) (by omega)) q))
theorem jl_names {X : Cx} {o : Expr} {σ : L2.St} {H : Hp} {pos apos : Pos} {n : Nat} {v : V} {S : SD} {pl : Sem Bool} (M : Mo X.K X.mg) (hr : Room (n + 1) X.A) (ho : JV X o σ H v) (hS : StandAt X.K H v S) (ok : SOk S)
    (ht : eval (.Call (.Attribute o "names_so" apos) [] [] pos) X.env = (do
      let ov ← eval o X.env
      standAt apos.atName
      let (f, first) ← holding [ov] (getMethod ov "names_so" pl)
      callWith pos f first (backTo pos (starEach [] X.env)) (backToKw pos (keywordEach [] X.env))) := by rfl) : JL X (.Call (.Attribute o "names_so" apos) [] [] pos) σ H ((namesS S).map PyData.int) := fun H1 s Q q => by
  obtain ⟨a, dx, u, b2, b3, b4, e, p⟩ := id hS
  subst e
  exact je_meth0V (pl := pl) (E := E0) (g_names_so (P := X.prog) (w := X.w) (base := X.base) M) hr passL (ho.on s) (p.on s).at_ rfl (fun H2 s2 => ⟨_, S, rfl, hS.on (s.trans s2), ok, fun b us H' s' h1 h2 h3 => q b us H' (s2.trans s') (same_none s2 h1) h2 h3⟩) (by omega) ht
end
end K28
-- KD5
/-! KD5: Stand.record, has_room; small defs of the recorder. -/
namespace K28
open PySem PySem.Spec PyProof.Rows L2
theorem namesS_len {S : SD} (ok : SOk S) : (namesS S).length < 60 := by
  unfold namesS keysM
  rw [srt_len, List.length_map]
  exact ok.be
theorem recV_rd {S : SD} (ok : SOk S) (n : Int) : (recV S n).2.length ≤ 1000 := by
  unfold recV
  cases e : getM S.reads n with
  | none => simp
  | some l => exact ok.rd n l e
theorem rok_rec {S : SD} (ok : SOk S) : ROk (recS S) := by
  have h := namesS_len ok
  refine ⟨by unfold recS; rw [List.length_map]; omega, fun v hv => ?_⟩
  obtain ⟨n, _, e⟩ := List.mem_map.mp hv
  subst e
  exact recV_rd ok n
theorem names_in {S : SD} {n : Int} (h : n ∈ namesS S) : n ∈ keysM S.begins := (srt_perm _).mem_iff.mp h
theorem getM_of {α : Type} {m : List (Int × α)} {k : Int} (d : α) (h : k ∈ keysM m) : getM m k = some ((getM m k).getD d) := by
  have := getM_some.mpr h
  cases e : getM m k with
  | none => rw [e] at this; cases this
  | some x => rfl
def spRec (K : PySem.W.Frag) : Sp := fun vs H Q _ => ∃ v S, vs = [v] ∧ StandAt K H v S ∧ SOk S ∧ ∀ r H', Same H H' → Dp K H' r (pR (recS S)) → Q r H'
section
variable {P : Program} {w : World} {K : PySem.W.Frag} {mg : Str → Option Value} {base : Heap}
theorem S_Stand_record : FnScope ["self", "found", "name", "write"] ["self"] (defScope s_Stand_record) := ⟨rfl, rfl, rfl, by decide +kernel, rfl, by decide +kernel, by decide +kernel⟩
theorem g_record (M : Mo K mg) : MtG P w K mg base 2 "Stand" "record" ["self"] (spRec K) := by
  refine mtg M.m_Stand_record M.c_Stand M.t_Stand_record S_Stand_record (fun vs H Q E ⟨v, S, h, _⟩ => by rw [h]; rfl) (fun f cdv A outer s H vs Q E hr ⟨v, S, e, hS, ok, q⟩ => ?_) (fun _ _ _ _ _ _ us hl => match us, hl with | [_], _ => rfl)
  subst e
  obtain ⟨a, dx, bu, b2, b3, b4, e, p⟩ := id hS
  subst e
  have hnl := namesS_len ok
  obtain ⟨tM, gM⟩ := M.i_MOST_TICK
  refine jss_setL 1 S_Stand_record.nd (ds := []) (jl_lst jds_nil (small1 (by simp))) fun l us H1 s1 hn1 hl1 hd1 => ?_
  cases hd1
  refine jss_cons (js_forL 2 (passes_of rfl) rfl S_Stand_record.nd (JL.je (jl_names (n := 0) M hr (jv_var 0 rfl) (hS.on s1) ok) fun la ns H2 s2 hna hla hda => ?_))
  have hns := hda.ints
  subst hns
  have hne : la ≠ l := ne_of_none' hl1 hna
  refine ⟨la, (namesS S).map V.int, fun j σ' H' => ∃ vs x y, σ' = [some (.ref a), some (.ref l), x, y] ∧ SameX l H2 H' ∧ H' l = some (.lst vs) ∧ DpAll K H' vs (((namesS S).take j).map fun n => pV (recV S n)), rfl, ⟨[], none, none, rfl, sx_refl, s2 _ _ hl1, by simpa using DpAll.nil⟩, ?_, ?_, ?_⟩
  · rintro j σ' H' ⟨vs, x, y, _, sx, _, _⟩
    exact .inl (.inl (sx _ _ hne hla))
  · rintro j v σ' H' hj ⟨vs, x, y, e, sx, hl, hd⟩
    subst e
    rw [List.getElem?_map] at hj
    cases hnj : (namesS S)[j]? with
    | none => rw [hnj] at hj; cases hj
    | some n =>
      rw [hnj] at hj
      cases hj
      have hj : j < (namesS S).length := (List.getElem?_eq_some_iff.mp hnj).1
      have hmem := names_in (List.mem_of_getElem? hnj)
      have s3 : Same H H' := same_sxn (s1.trans s2) sx hn1
      have p3 := p.on s3
      have hvl := hd.len
      rw [List.length_map, List.length_take] at hvl
      refine jss_set 3 S_Stand_record.nd (d := pC (recV S n).1) (jd_tup (jds_cons (jd_dget hr (JV.jm (jv_fld (jv_var 0 rfl) p3.at_ M.c_Stand M.a_begins rfl) p3.be) (jv_var 2 rfl).int (getM_of 0 hmem)) (jds_cons (jd_dget2 hr (JV.jm (jv_fld (jv_var 0 rfl) p3.at_ M.c_Stand M.a_ends rfl) p3.en) (jv_var 2 rfl).int (jv_glob (v := .int 1000000000) gM ⟨_, rfl⟩).int (.int ((getM S.ends n).getD 1000000000)) (by cases getM S.ends n <;> rfl)) jds_nil)) (small1 (by simp))) fun v4 H4 s4 hv4 => ?_
      have p4 := p3.on s4
      refine jss_append (d := pV (recV S n)) (jv_var 1 rfl) (jd_tup (jds_cons (jd_var 3 rfl hv4) (jds_cons (jd_dget2 hr (JV.jm (jv_fld (jv_var 0 rfl) p4.at_ M.c_Stand M.a_reads_of rfl) p4.re) (jv_var 2 rfl).int (jd_tup jds_nil (small1 (by simp))) (pCs (recV S n).2) (by unfold recV; cases getM S.reads n <;> rfl)) jds_nil)) (small1 (by simp))) (s4 _ _ hl) (small1' (by omega)) fun y H5 s5 hy => ?_
      have hl5 := s5 _ _ (s4 _ _ hl)
      refine jss_nil ⟨_, _, _, rfl, sx_upd (sx_same (sx_same sx s4) s5), upd_same, ?_⟩
      rw [List.take_add_one, hnj, List.map_append]
      exact DpAll.app (dpa_tups (tups_lst hl5) _ _ (lfs_map fun _ _ => lf_pV _) (hd.on (s4.trans s5))) (.cons (dp_tups (tups_lst hl5) _ _ (lf_pV _) hy) .nil)
  · rintro σ' H' ⟨vs, x, y, e, sx, hl, hd⟩
    subst e
    rw [List.length_map, List.take_of_length_le (Nat.le_refl _)] at hd
    have s3 : Same H H' := same_sxn (s1.trans s2) sx hn1
    refine jss_one (js_ret ((jd_tuple1 M.f_tuple (jr_var 1 rfl hl hd).jd).je fun r H4 s4 hr => q r H4 (s3.trans s4) ?_))
    unfold recS pR
    rw [List.map_map]
    exact hr
theorem je_record {X : Cx} {o : Expr} {σ : L2.St} {H : Hp} {pos apos : Pos} {n : Nat} {v : V} {S : SD} {pl : Sem Bool} (M : Mo X.K X.mg) (hr : Room (n + 2) X.A) (ho : JV X o σ H v) (hS : StandAt X.K H v S) (ok : SOk S)
    (ht : eval (.Call (.Attribute o "record" apos) [] [] pos) X.env = (do
      let ov ← eval o X.env
      standAt apos.atName
      let (f, first) ← holding [ov] (getMethod ov "record" pl)
      callWith pos f first (backTo pos (starEach [] X.env)) (backToKw pos (keywordEach [] X.env))) := by rfl) : JD X (.Call (.Attribute o "record" apos) [] [] pos) σ H (pR (recS S)) := fun H1 s Q q => by
  obtain ⟨a, dx, u, b2, b3, b4, e, p⟩ := id hS
  subst e
  exact je_meth0V (pl := pl) (E := E0) (g_record (P := X.prog) (w := X.w) (base := X.base) M) hr passL (ho.on s) (p.on s).at_ rfl (fun H2 s2 => ⟨_, S, rfl, hS.on (s.trans s2), ok, fun r H' s' h => q r H' (s2.trans s') h⟩) (by omega) ht
def hasR (S : SD) : V → Bool
  | .int m => (getM S.begins m).isSome && decide (((getM S.reads m).getD []).length < 4)
  | _ => false
def spRoom (K : PySem.W.Frag) : Sp := fun vs H Q _ => ∃ v S u T, vs = [v, u] ∧ StandAt K H v S ∧ SOk S ∧ Th H u T ∧ ∀ H', Same H H' → Q (.bl (hasR S u)) H'
theorem S_Stand_has_room : FnScope ["self", "name"] ["self", "name"] (defScope s_Stand_has_room) := ⟨rfl, rfl, rfl, by decide +kernel, rfl, by decide +kernel, by decide +kernel⟩
theorem g_has_room (M : Mo K mg) : MtG P w K mg base 2 "Stand" "has_room" ["self", "name"] (spRoom K) := by
  refine mtg M.m_Stand_has_room M.c_Stand M.t_Stand_has_room S_Stand_has_room (fun vs H Q E ⟨v, S, u, T, h, _⟩ => by rw [h]; rfl) (fun f cdv A outer s H vs Q E hr ⟨v, S, u, T, e, hS, ok, hu, q⟩ => ?_) (fun _ _ _ _ _ _ us hl => match us, hl with | [_, _], _ => rfl)
  subst e
  obtain ⟨a, dx, bu, b2, b3, b4, e, p⟩ := id hS
  subst e
  obtain ⟨t4, g4⟩ := M.i_MOST_READS
  have key : (isI u && hasR S u) = hasR S u := by cases u <;> rfl
  refine jss_one (js_ret ((jd_and (q := hasR S u) (je_isI (g_is_integer M) hr (jv_var 1 rfl) hu) fun hi => ?_).je fun v' H' s' hv => ?_))
  · cases u with
    | int m =>
      refine jd_and (jd_din hr (jv_var 1 rfl).int (JV.jm (jv_fld (jv_var 0 rfl) p.at_ M.c_Stand M.a_begins rfl) p.be)) fun _ => jd_one ?_
      have e : decide (((getM S.reads m).getD []).length < 4) = decide ((((getM S.reads m).getD []).length : Int) < 4) := by
        by_cases h : ((getM S.reads m).getD []).length < 4
        · rw [decide_eq_true h, decide_eq_true (by omega)]
        · rw [decide_eq_false h, decide_eq_false (by omega)]
      rw [e, ← List.length_map (f := pC)]
      exact jd_lt (jd_lenT M.f_len (jd_dget2 hr (JV.jm (jv_fld (jv_var 0 rfl) p.at_ M.c_Stand M.a_reads_of rfl) p.re) (jv_var 1 rfl).int (jd_tup jds_nil (small1 (by simp))) (pCs ((getM S.reads m).getD [])) (by cases getM S.reads m <;> rfl))) (jv_glob (v := .int 4) g4 ⟨_, rfl⟩).int
    | _ => cases hi
  · cases hv
    rw [key]
    exact q H' s'
theorem je_has_room {X : Cx} {o e1 : Expr} {σ : L2.St} {H : Hp} {pos apos : Pos} {n : Nat} {v u : V} {T : String} {S : SD} {pl : Sem Bool} (M : Mo X.K X.mg) (hr : Room (n + 2) X.A) (ho : JV X o σ H v) (hS : StandAt X.K H v S) (ok : SOk S) (h1 : JV X e1 σ H u) (hT : Th H u T)
    (hst : starEach (e1 :: []) X.env = (false, eval e1 X.env) :: starEach [] X.env := by rfl) (hpl : (backTo pos (starEach [] X.env)).any (·.1) = false := by rfl)
    (ht : eval (.Call (.Attribute o "has_room" apos) (e1 :: []) [] pos) X.env = (do
      let ov ← eval o X.env
      standAt apos.atName
      let (f, first) ← holding [ov] (getMethod ov "has_room" pl)
      callWith pos f first (backTo pos (starEach (e1 :: []) X.env)) (backToKw pos (keywordEach [] X.env))) := by rfl) : JD X (.Call (.Attribute o "has_room" apos) (e1 :: []) [] pos) σ H (.bool (hasR S u)) := fun H1 s Q q => by
  obtain ⟨a, dx, bu, b2, b3, b4, e, p⟩ := id hS
  subst e
  exact je_methV (pl := pl) (E := E0) (g_has_room (P := X.prog) (w := X.w) (base := X.base) M) hr passL (ho.on s) (p.on s).at_ rfl (fun H2 s2 => ja_of (pa_cons pej pa_nil hst) (h1 H2 (s.trans s2) _ fun H3 s3 => ⟨_, S, u, T, rfl, hS.on (s.trans (s2.trans s3)), ok, hT.on (s.trans (s2.trans s3)), fun H' s' => q _ H' (s2.trans (s3.trans s')) (.bl _)⟩)) (by omega) hst hpl ht
end
end K28
-- KExc
/-! KExc: own exceptions whose __init__ says super().__init__(given); self.given = given. -/
namespace K28
open PySem PySem.Spec PyProof.Rows L2 NdefX LamX
/-- what the written part says of such a class -/
structure ExF (P : Program) (K : PySem.W.Frag) (mg : Str → Option Value) (Cn qual : Str) (st : Stmt) : Prop where
  oex : OexC K (He.ga K Cn)
  fn : ∃ (fI cc c : Addr) (od : Option Addr) (doc pm ctv : Value) (sl : Array (Option Value)), PySem.W.findIn K (.ref (He.ga K Cn)) "__init__" = some (some (.ref fI)) ∧ PySem.W.typeIn K (.ref fI) = some (.type "function") ∧
    K.lookup fI = some ⟨.type "function", od, .func (PySem.W.fnX "__init__" qual (defArgs st) (defBody st) (defScope st) [("__class__", cc)] .none .none doc pm none (.ref c) ctv), sl⟩ ∧ PySem.W.codeIn K (.ref c) qual = true ∧
    (∃ oc vs file tf, K.lookup c = some oc ∧ oc.data = .fields vs ∧ vs[2]? = some (.str file tf) ∧ ((P.main.file : Str) == file) = true) ∧ ∃ o, K.lookup cc = some o ∧ o.data = .cell (some (.ref (He.ga K Cn)))
  statics : PySem.W.nsIn K cStatics "thirdparty.any" = some none
  sup : PySem.W.ks_superIn K (He.ga K Cn) (He.ga K Cn) "__init__" = some (some (.builtin "ValueError.__init__"))
  sub : PySem.W.subIn K (.ref (He.ga K Cn)) (.type "ValueError") = some true
  self : PySem.W.subIn K (.ref (He.ga K Cn)) (.ref (He.ga K Cn)) = some true
  given : NoAttr K (He.ga K Cn) "given"
  gl : mg Cn = some (.ref (He.ga K Cn))
  htop : (P.main.scope.names.lookup ("super" : Str)).isSome = false
section
open PySem.W PySem.Calls
variable {prog : Program} {w : World} {A : Around} {E : Value → Shared → Prop} {h : Heap} {g : Array GenState} {d : Drawn} {t : Nat} {os : OsState}
variable {nm q : Str} {C N : Addr} {bs bm : List Value} {hdct : Bool} {sn : List Str} {sub : List Value} {ab : Bool} {col : Option Bool} {dd : Option Addr} {k0 k1 k2 k3 k5 : Option Value}
theorem call_vw {u e t0 : Addr} {rest : List Value} {Q : Value → Shared → Prop}
    (hC : h.get? C = some (excClassObj nm q C N bs bm hdct sn sub ab col dd k0 k1 k2 k3 k5 "ValueError.__new__")) (he : h.get? e = some (HandSPX.excO C t0)) (hu : h.get? u = some (kxs_mw "ValueError.__init__" e)) (hrest : rest.length ≤ sizeLine)
    (hq : ∀ h' t1, (∀ b o, b ≠ e → h.get? b = some o → h'.get? b = some o) → h'.get? e = some (HandSPX.excO C t1) → Q .none ⟨h', g, d, t, os⟩) :
    wpAny (model prog w) A (call (.ref u) rest) Q E ⟨h, g, d, t, os⟩ := by
  refine wpAny_call (codeAny_of_tree ?_)
  show wpAny _ A.in1 (callAny (.ref u) ⟨rest, []⟩) _ _ _
  simp only [callAny]
  refine wpAny_bind (wpAny_load hu ?_)
  simp only [kxs_mw, show (Value.type "method-wrapper" == Value.type "method" || Value.type "method-wrapper" == Value.type "builtin_function_or_method" || Value.type "method-wrapper" == Value.type "method-wrapper") = true by decide, if_true]
  refine W.KFB.if_so (by decide) ?_
  refine wpAny_bind (PySem.ESX.check_bound F.excBase_ValueError hC he rfl ?_)
  refine wpAny_bind (wpAny_pure (wpAny_pure ?_))
  refine ⟨Code.quiet_builtin _ (by decide +kernel), codeAny_builtin F.excBase_ValueError.initEntry ?_⟩
  rw [Around.under_plainId F.excBase_ValueError.init.plain _]
  wp_walk
  refine hq _ h.objs.size (fun b o hb ho => ?_) ?_
  · rw [Heap.get?_update_other _ _ (Ne.symm hb)]
    exact Heap.get?_push_of_some _ ho
  · rw [Heap.get?_update_self _ (Heap.get?_push_of_some _ he) rfl]
    rfl
end
/-! ### __init__ -/
def spEI (K : PySem.W.Frag) (Cn : Str) : Sp := fun vs H Q _ => ∃ a v, vs = [.ref a, v] ∧ H a = some (exo a (He.ga K Cn) none) ∧ ∀ dx H2, Same H H2 → H2 dx = none → dx ≠ a → Q .non (upd (upd H2 dx (exd dx [("given", v)])) a (exo a (He.ga K Cn) (some dx)))
/-- the text is the one that the three classes have -/
structure EText (st : Stmt) : Prop where
  args : ∃ p1 p2 : Arg, (defArgs st).posonlyargs ++ (defArgs st).args = [p1, p2] ∧ p1.arg = "self"
  body : ∃ q1 q2 q3 q4 q5 q6 q7 q8 q9, defBody st = [.Expr (.Call (.Attribute (.Call (.Name "super" q1) [] [] q2) "__init__" q3) [.Name "given" q4] [] q5) q5, .Assign [.Attribute (.Name "self" q6) "given" q7] (.Name "given" q8) q9] ∧ (∀ env : Env, ∃ pl : Sem Bool, eval (.Call (.Attribute (.Call (.Name "super" q1) [] [] q2) "__init__" q3) [.Name "given" q4] [] q5) env = (do
      let ov ← attributeBase (.Call (.Name "super" q1) [] [] q2) "__init__" env (eval (.Call (.Name "super" q1) [] [] q2) env)
      standAt q3.atName
      let (f, first) ← holding [ov] (getMethod ov "__init__" pl)
      callWith q5 f first (backTo q5 (starEach [.Name "given" q4] env)) [])) ∧ (∀ env : Env, swapsWith (.Call (.Attribute (.Call (.Name "super" q1) [] [] q2) "__init__" q3) [.Name "given" q4] [] q5) none q5.line env = pure false) ∧ ∀ env : Env, swapsWith (.Name "given" q8) (some (.Attribute (.Name "self" q6) "given" q7)) q9.line env = pure false
  sc : NScope ["self", "given", "__class__"] ["self", "given"] ["__class__"] (defScope st)
  kS : (defScope st).names.lookup ("super" : Str) = some NameKind.globalImplicit
  kC : (defScope st).names.lookup ("__class__" : Str) = some NameKind.free
  kG : (defScope st).names.lookup ("given" : Str) = some NameKind.local
  kF : (defScope st).names.lookup ("self" : Str) = some NameKind.local
section
variable {P : Program} {w : World} {K : PySem.W.Frag} {mg : Str → Option Value} {base : Heap}
theorem eT1 : EText s_BadNumber_init := ⟨⟨_, _, rfl, rfl⟩, ⟨_, _, _, _, _, _, _, _, _, rfl, fun env => ⟨_, rfl⟩, fun env => rfl, fun env => rfl⟩, nscope_by (by decide +kernel), by decide +kernel, by decide +kernel, by decide +kernel, by decide +kernel⟩
theorem eT2 : EText s_Busy_init := ⟨⟨_, _, rfl, rfl⟩, ⟨_, _, _, _, _, _, _, _, _, rfl, fun env => ⟨_, rfl⟩, fun env => rfl, fun env => rfl⟩, nscope_by (by decide +kernel), by decide +kernel, by decide +kernel, by decide +kernel, by decide +kernel⟩
theorem eT3 : EText s_Idle_init := ⟨⟨_, _, rfl, rfl⟩, ⟨_, _, _, _, _, _, _, _, _, rfl, fun env => ⟨_, rfl⟩, fun env => rfl, fun env => rfl⟩, nscope_by (by decide +kernel), by decide +kernel, by decide +kernel, by decide +kernel, by decide +kernel⟩
theorem exc_init {Cn qual : Str} {st : Stmt} (X : ExF P K mg Cn qual st) (T : EText st) (hm : mg "super" = none)
    (bi : ∀ (cl : List (Str × Addr)) (doc pm ctv cv : Value) (us : List Value), us.length = 2 → bindArgs (PySem.W.fnX "__init__" qual (defArgs st) (defBody st) (defScope st) cl .none .none doc pm none cv ctv) ⟨us, []⟩ = pure ([("self" : Str), "given"].zip us)) :
    ∃ fI fd, PySem.W.findIn K (.ref (He.ga K Cn)) "__init__" = some (some (.ref fI)) ∧ PySem.W.typeIn K (.ref fI) = some (.type "function") ∧ FnOk P w K mg base (L2.CX P w) 2 fI fd ["self", "given"] (spEI K Cn) ∧ Binds K fd ["self", "given"] [] := by
  obtain ⟨fI, cc, c, od, doc, pm, ctv, sl, h1, h2, h3, h4, h5, h6⟩ := X.fn
  refine ⟨fI, PySem.W.fnX "__init__" qual (defArgs st) (defBody st) (defScope st) [("__class__", cc)] .none .none doc pm none (.ref c) ctv, h1, h2, ⟨fun vs H Q E ⟨a, v, e, _⟩ => by rw [e]; rfl, fun A outer s H args us vs Q E hr e0 hb r ⟨a, v, e, ha, q⟩ => ?_⟩, Binds.all fun us hl => bi _ doc pm ctv (.ref c) us hl⟩
  subst e
  have KX : K.In s.heap := e0.mod.kin.keeps fun b o e => (e0.bs b o e).1
  have lim : s.heap.NoLimit := e0.mod.nolimit.keeps fun b o e => (e0.bs b o e).1
  have ho := KX _ _ h3
  obtain ⟨oc, ocv, file, tf, hc1, hc2, hc3, hc4⟩ := h5
  obtain ⟨ok, hk1, hk2⟩ := h6
  have hcell : s.heap.IsCell cc (some (.ref (He.ga K Cn))) := ⟨ok, KX _ _ hk1, hk2⟩
  have hcn : H cc = none := (e0.bs _ _ (e0.mod.kin _ _ hk1)).2
  have lk : ∀ {y : Str} {d : Addr}, ([("__class__", cc)] : List (Str × Addr)).lookup y = some d → y = "__class__" ∧ d = cc := fun {y d} h => by
    by_cases hy : y = "__class__"
    · subst hy
      have : some cc = some d := h
      exact ⟨rfl, (Option.some.inj this).symm⟩
    · have e : (y == ("__class__" : Str)) = false := by simpa using hy
      simp [List.lookup, e] at h
  have C : CellsAt [("__class__", cc)] ["__class__"] [some (.ref (He.ga K Cn))] s.heap H := {
    len := rfl
    all := fun y d h => by
      obtain ⟨_, rfl⟩ := lk h
      exact ⟨hcn, _, hcell⟩
    inj := fun x y d h h' => by rw [(lk h).1, (lk h').1]
    has := fun i y h => by
      cases i with
      | zero =>
        cases h
        exact ⟨cc, rfl, fun v hv => by cases hv; exact ⟨_, rfl, hcell⟩⟩
      | succ i => cases h }
  refine PySem.ks_codeAny_call_defAt hr.depth ho rfl lim (PySem.W.codeRec_of KX h4) rfl hb T.sc.nocell (fun ⟨n, _⟩ hy => T.sc.par n (List.of_mem_zip hy).1) (fun h₁ hns kp => ?_) T.sc.co T.sc.gen T.sc.kind
  obtain ⟨F, hF⟩ : ∃ F : NF, F = ⟨"__init__", qual, defArgs st, defBody st, defScope st, [("__class__", cc)], c⟩ := ⟨_, rfl⟩
  have I : Inv (ncx (L2.CX P w) P w K mg base ["self", "given", "__class__"] F fI A outer s H E) [] (startF ["self", "given", "__class__"] [.ref a, v] [some (.ref (He.ga K Cn))]) H { s with heap := h₁, toks := s.toks + (([("self" : Str), "given"].zip us)).length } :=
    inv_startN (by rw [hF]; exact T.sc) hr.hd e0 rfl r (by rw [hF]; exact C) hns kp
  have hcode : (ncx (L2.CX P w) P w K mg base ["self", "given", "__class__"] F fI A outer s H E).env = envF F fI s.heap.objs.size := rfl
  obtain ⟨q1, q2, q3, q4, q5, q6, q7, q8, q9, hbd, hev, hsw, hsw2⟩ := T.body
  obtain ⟨p1, p2, hpp, hp1⟩ := T.args
  have ksc : (envF F fI s.heap.objs.size).scope = defScope st := by rw [hF]
  have kk : ∀ y : Str, (envF F fI s.heap.objs.size).kindOf y = (defScope st).names.lookup y := fun y => by rw [hF]; rfl
  have start : PySem.wpAt (model P w) (A.deeper (envF F fI s.heap.objs.size)) (.func F.body (envF F fI s.heap.objs.size)) (execs F.body (envF F fI s.heap.objs.size))
      (fun f s' => CR (L2.CX P w) outer P w H s Q E (.ok (.ret (match f with | .ret v => v | _ => .none))) s')
      (fun e s' => wpAny (model P w) (A.deeper (envF F fI s.heap.objs.size)) (leaving (envF F fI s.heap.objs.size) e) (fun _ s'' => CR (L2.CX P w) outer P w H s Q E (.error e) s'') (fun e' s'' => CR (L2.CX P w) outer P w H s Q E (.error e') s'') s')
      { s with heap := h₁, toks := s.toks + ([("self" : Str), "given"].zip us).length } := by
    have hbF : F.body = [.Expr (.Call (.Attribute (.Call (.Name "super" q1) [] [] q2) "__init__" q3) [.Name "given" q4] [] q5) q5, .Assign [.Attribute (.Name "self" q6) "given" q7] (.Name "given" q8) q9] := by rw [hF]; exact hbd
    rw [hbF]
    obtain ⟨u0, u1, rfl, r0, r1⟩ := vals2 r
    obtain rfl : u0 = Value.ref a := r0
    obtain ⟨nm, qn, N, bs, bm, sn, sub, ab, col, dd, k0, k1, k2, k3, k5, hC, hbm⟩ := X.oex.cls
    have KX1 : K.In h₁ := KX.keeps kp
    obtain ⟨t1, hx1⟩ := exo_at I.hok ha
    have hx1 : h₁.get? a = some ({ cls := .ref (He.ga K Cn), dict := none, data := .fields #[.ref t1, .none, .none, .none, .bool false, .none] } : Obj) := hx1
    have hcl : PySem.W.clsIn K (He.ga K Cn) = some { name := nm, bases := bs, mro := .ref (He.ga K Cn) :: bm, ns := N, qualname := qn, hasDict := true, slotNames := sn, subclasses := sub, abstract := ab, collection := col, hasDel := false } := by unfold PySem.W.clsIn; rw [hC] <;> rfl
    have hkS : (envF F fI s.heap.objs.size).scope.kind = .function := by rw [ksc]; exact T.sc.kind
    obtain ⟨pl, hpl⟩ := hev (envF F fI s.heap.objs.size)
    refine PySem.ks_wpAt_execs_cons (PySem.ks_wpAt_Expr_any (PySem.ks_wpAt_MethodCall (PySem.ks_wpAt_super_base (ar := p1) (f := fI) (cc := c) (by rw [kk]; exact T.kS) (by rw [kk]; exact T.kC) (by decide) rfl (kp _ _ ho) rfl (by
      show ((defArgs st).posonlyargs ++ (defArgs st).args).head? = some p1
      rw [hpp]; rfl) (by rw [hF]) (kp _ _ (KX _ _ hc1)) hc2 hc3 hc4 X.htop ?_) hpl) (by unfold interactive; rw [hkS]; rfl) (hsw _))
    obtain ⟨mb, b1, b2⟩ := I.mod.blt
    refine PySem.W.ks_loadName_global hkS (by rw [kk]; exact T.kS) (Calls.loadGlobal_builtin (by rw [show (envF F fI s.heap.objs.size).globals = mainGlobals from I.ok.glob]; exact I.mod.glob.keeps I.bk) hm (by rw [show (envF F fI s.heap.objs.size).builtins = builtinsNs from I.ok.blt]; exact b1.keeps I.bk) ((b2 _ (by decide)).trans (by first | rfl | decide +kernel)) ⟨rfl, ?_⟩)
    refine wpAny_loadName_free hkS (by rw [kk]; exact T.kC) (show (envF F fI s.heap.objs.size).cells.lookup _ = some cc by rw [hF]; rfl) (let ⟨o, z1, z2⟩ := hcell; ⟨o, kp _ _ z1, z2⟩) ?_
    have ns1 : h₁.Ns (envF F fI s.heap.objs.size).locals fun x => ([("self" : Str), "given"].zip [Value.ref a, u1]).reverse.lookup x := hns
    refine wpAny_loadName_local hkS (by rw [kk, hp1]; exact T.kF) ns1 (v := Value.ref a) (by rw [hp1]; rfl) ?_
    have hCo : h₁.get? (He.ga K Cn) = some _ := KX1 _ _ hC
    refine PySem.ks_wpAny_isType_cls hCo rfl ⟨rfl, ?_⟩
    refine PySem.ks_wpAny_call_super hCo rfl hx1 rfl (fun _ z => nomatch z) (PySem.W.looks_subIn KX1 X.self) fun h2 e2 k2 => ?_
    have KX2 : K.In h2 := KX1.keeps k2
    have hx2 := k2 _ _ hx1
    have I2 : PySem.W.InstAt h2 a _ (He.ga K Cn) none := ⟨hx2, rfl, rfl, trivial⟩
    refine PySem.W.kxs_getMethod PySem.W.kxs_ValueError e2 (PySem.W.looks_opaque KX2 X.statics) (l₀ := .ref (He.ga K Cn) :: bm) (fun A Q E s k q => wpAny_bind ((PySem.W.looks_clsIn KX2 hcl) A _ E s k (wpAny_pure q))) rfl KX2 (by have z := X.sup; unfold PySem.W.ks_superIn at z; rw [hcl] at z; exact z)
      (I2.type.andThen (PySem.W.looks_subIn KX2 X.sub)) (PySem.W.ks_ne KX2 I2 hcl) (by decide) ?_
    have k3 : ∀ b o, h₁.get? b = some o → (h2.push (PySem.W.kxs_mw "ValueError.__init__" a)).get? b = some o := fun b o e => Heap.get?_push_of_some _ (k2 b o e)
    have ns3 : (h2.push (PySem.W.kxs_mw "ValueError.__init__" a)).Ns (envF F fI s.heap.objs.size).locals fun x => ([("self" : Str), "given"].zip [Value.ref a, u1]).reverse.lookup x := ns1.keeps k3
    refine PySem.W.kxs_callWith (i := "ValueError.__init__") (x := a) (by rfl) (PySem.Calls.evalArgs_plain (PySem.Calls.spliced_cons (PySem.ESX.ldL ns3 (v := u1) (by rfl) (PySem.Calls.spliced_nil ⟨Heap.get?_push_size _ rfl, ?_⟩) hkS (by rw [kk]; exact T.kG))))
    refine call_vw (KX2.keeps (fun b o e => Heap.get?_push_of_some _ e) _ _ hC) (Heap.get?_push_of_some _ hx2) (Heap.get?_push_size _ rfl) (by simp; exact small1 (by omega)) fun h4 t4 k4 hx4 => ?_
    have I3 : Inv (ncx (L2.CX P w) P w K mg base ["self", "given", "__class__"] F fI A outer s H E) [] (startF ["self", "given", "__class__"] [.ref a, v] [some (.ref (He.ga K Cn))]) H { s with heap := h2.push (PySem.W.kxs_mw "ValueError.__init__" a), toks := s.toks + (([("self" : Str), "given"].zip [Value.ref a, u1])).length + 1 } := I.kept k3
    have J := I3.write (t' := s.toks + (([("self" : Str), "given"].zip [Value.ref a, u1])).length + 1) (x := a) (e := a) (o := exo a (He.ga K Cn) none) (by rw [ha]; exact True.intro) (.inl rfl) k4 ⟨_, hx4⟩ (exo_ok hx4)
    have eu : upd H a (exo a (He.ga K Cn) none) = H := by
      funext b
      by_cases hb : b = a
      · rw [hb, upd_same, ha]
      · rw [upd_ne hb]
    rw [eu] at J
    refine wpAt_of_wpAny ?_
    have X2 : JSs (ncx (L2.CX P w) P w K mg base ["self", "given", "__class__"] F fI A outer s H E) [.Assign [.Attribute (.Name "self" q6) "given" q7] (.Name "given" q8) q9] { nx := fun _ H' => Q .non H', rt := Q } (startF ["self", "given", "__class__"] [.ref a, v] [some (.ref (He.ga K Cn))]) H := by
      have vis : ∀ y : Str, (defScope st).names.lookup y = some NameKind.local → Vis (ncx (L2.CX P w) P w K mg base ["self", "given", "__class__"] F fI A outer s H E).env.scope y := fun y hy => .inl (by rw [show (ncx (L2.CX P w) P w K mg base ["self", "given", "__class__"] F fI A outer s H E).env.scope = defScope st from ksc]; exact hy)
      refine jss_one (js_of (ps_ost pej pej (hsw2 _)) (JV.je (jv_var 1 rfl rfl (vis _ T.kG)) fun H5 s5 => JV.je (jv_var 0 rfl rfl (vis _ T.kF)) fun H6 s6 => ⟨a, _, rfl, X.oex, X.given, .inl ⟨(s5.trans s6) _ _ ha, fun dx n1 n2 => q dx H6 (s5.trans s6) n1 n2⟩⟩))
    refine wpAny_mono (X2 [] _ J) (fun fl s' hs => ?_) fun e s' hs => hs
    have fin : ∀ {σ' : L2.St} {H' : Hp} {v : V} {u : Value}, Inv (ncx (L2.CX P w) P w K mg base ["self", "given", "__class__"] F fI A outer s H E) [] σ' H' s' → L2.RelV v u → Q v H' → CE outer P w H s Q u s' :=
      fun {σ' H' v u} J rv q => ⟨v, H', J.os, J.bare, J.base, J.hok, rv, q⟩
    cases fl with
    | ret u =>
      obtain ⟨v, σ', H', J, rv, q⟩ := hs
      exact fin J rv q
    | next =>
      obtain ⟨σ', H', J, q⟩ := hs
      exact fin (v := V.non) (u := Value.none) J rfl q
    | brk =>
      obtain ⟨_, _, _, q⟩ := hs
      exact False.elim q
    | cont =>
      obtain ⟨_, _, _, q⟩ := hs
      exact False.elim q
  have key := start
  rw [hF] at key
  exact key
end
end K28
-- KD6
/-! KD6: raise; the recorder's state. -/
namespace K28
open PySem PySem.Spec PyProof.Rows L2
/-- the module, with its exceptions -/
structure Mx (P : Program) (K : PySem.W.Frag) (mg : Str → Option Value) : Prop extends Mo K mg where
  xN : ExF P K mg "BadNumber" "BadNumber.__init__" s_BadNumber_init
  xB : ExF P K mg "Busy" "Busy.__init__" s_Busy_init
  xI : ExF P K mg "Idle" "Idle.__init__" s_Idle_init
  pH : ∃ p g fd, PropOf K (He.ga K "Recorder") "hands" p g ∧ FunD K "hands" "Recorder.hands" (defArgs s_Recorder_hands) (defBody s_Recorder_hands) (defScope s_Recorder_hands) [] [] g fd
/-- the exception is heard with what was given -/
def Heard (K : PySem.W.Frag) (Cn : Str) (v : V) (H : Hp) (E : XK) : Prop := ∀ d H', Same H H' → H d = none → H' d = some (.xd [("given", v)]) → E (.ref (He.ga K Cn)) (some d) H'
theorem Heard.on {K : PySem.W.Frag} {Cn : Str} {v : V} {H H' : Hp} {E : XK} (h : Heard K Cn v H E) (s : Same H H') : Heard K Cn v H' E := fun d H2 s2 n => h d H2 (s.trans s2) (same_none s n)
section
variable {X : Cx} {e : Expr} {σ : L2.St} {H : Hp} {D : Ends} {p pos pos2 : Pos} {v : V}
theorem js_raise {W : WX} {Cn qual : Str} {st : Stmt} {n : Nat} (F : ExF X.prog X.K X.mg Cn qual st) (T : EText st) (hm : X.mg "super" = none)
    (bi : ∀ (cl : List (Str × Addr)) (doc pm ctv cv : Value) (us : List Value), us.length = 2 → bindArgs (PySem.W.fnX "__init__" qual (defArgs st) (defBody st) (defScope st) cl .none .none doc pm none cv ctv) ⟨us, []⟩ = pure ([("self" : Str), "given"].zip us))
    (hc : X.calm = true) (tk : Takes X W) (hr : Room (n + 3) X.A) (ha : JV X e σ H v) (hW : ∀ d H', Same H H' → H d = none → H' d = some (.xd [("given", v)]) → W (.ref (He.ga X.K Cn)) (some d) σ H') (hg : Gl X Cn := by rfl) (hdb : (Cn == ("__debug__" : Str)) = false := by decide)
    (he : starEach [e] X.env = (false, eval e X.env) :: starEach [] X.env := by rfl) (hpl : (backTo pos (starEach [] X.env)).any (·.1) = false := by rfl) : JS X (.Raise (some (.Call (.Name Cn p) [e] [] pos)) none pos2) D σ H := by
  obtain ⟨fI, fd, h1, h2, Fk, b⟩ := exc_init (P := X.prog) (w := X.w) (base := X.base) F T hm bi
  refine js_of (ps_raise hc tk (pmk_oex F.oex h1 h2 Fk (hr.mono (by omega)) b .nil (passL (X := X)) hg F.gl (pa_cons pej pa_nil he) hdb he hpl)) (ha H (Same.refl H) _ fun H1 s1 => ⟨by simp, fun a hn => ⟨a, v, rfl, upd_same, fun dx H2 s2 hn2 hne => ⟨rfl, dx, [("given", v)], upd_same, ?_, ?_, ?_⟩⟩⟩)
  · rw [upd_ne hne, upd_same]
  · refine same_none (H' := H2) (fun b o e => s2 _ _ (by rw [upd_ne (ne_of_none e hn)]; exact e)) hn2
  · have nb : ∀ {b : Addr} {o : HO}, H b = some o → b ≠ a ∧ b ≠ dx := fun {b o} e => by
      have e1 := s1 _ _ e
      have hb : b ≠ a := ne_of_none e1 hn
      refine ⟨hb, fun z => ?_⟩
      have e2 := s2 b o (by rw [upd_ne hb]; exact e1)
      rw [z, hn2] at e2
      cases e2
    refine hW dx _ (fun b o e => ?_) ?_ upd_same
    · obtain ⟨n1, n2⟩ := nb e
      rw [upd_ne n2, del_ne n1, upd_ne n1, upd_ne n2]
      exact s2 b o (by rw [upd_ne n1]; exact s1 _ _ e)
    · cases e : H dx with
      | none => rfl
      | some o => exact absurd rfl (nb e).2
theorem bi1 (cl : List (Str × Addr)) (doc pm ctv cv : Value) (us : List Value) (hl : us.length = 2) : bindArgs (PySem.W.fnX "__init__" "BadNumber.__init__" (defArgs s_BadNumber_init) (defBody s_BadNumber_init) (defScope s_BadNumber_init) cl .none .none doc pm none cv ctv) ⟨us, []⟩ = pure ([("self" : Str), "given"].zip us) := match us, hl with | [_, _], _ => rfl
theorem bi2 (cl : List (Str × Addr)) (doc pm ctv cv : Value) (us : List Value) (hl : us.length = 2) : bindArgs (PySem.W.fnX "__init__" "Busy.__init__" (defArgs s_Busy_init) (defBody s_Busy_init) (defScope s_Busy_init) cl .none .none doc pm none cv ctv) ⟨us, []⟩ = pure ([("self" : Str), "given"].zip us) := match us, hl with | [_, _], _ => rfl
theorem bi3 (cl : List (Str × Addr)) (doc pm ctv cv : Value) (us : List Value) (hl : us.length = 2) : bindArgs (PySem.W.fnX "__init__" "Idle.__init__" (defArgs s_Idle_init) (defBody s_Idle_init) (defScope s_Idle_init) cl .none .none doc pm none cv ctv) ⟨us, []⟩ = pure ([("self" : Str), "given"].zip us) := match us, hl with | [_, _], _ => rfl
end
section
variable {P : Program} {w : World} {K : PySem.W.Frag} {mg : Str → Option Value} {base : Heap}
/-! ### raising statements in a def's body -/
theorem js_bad {X : Cx} {W : WX} {e : Expr} {σ : L2.St} {H : Hp} {D : Ends} {p pos pos2 : Pos} {v : V} {n : Nat} (M : Mx X.prog X.K X.mg) (hc : X.calm = true) (tk : Takes X W) (hr : Room (n + 3) X.A) (ha : JV X e σ H v) (hW : ∀ d H', Same H H' → H d = none → H' d = some (.xd [("given", v)]) → W (.ref (He.ga X.K "BadNumber")) (some d) σ H')
    (hg : Gl X "BadNumber" := by rfl) (he : starEach [e] X.env = (false, eval e X.env) :: starEach [] X.env := by rfl) (hpl : (backTo pos (starEach [] X.env)).any (·.1) = false := by rfl) : JS X (.Raise (some (.Call (.Name "BadNumber" p) [e] [] pos)) none pos2) D σ H := js_raise M.xN eT1 M.f_super bi1 hc tk hr ha hW hg (by decide) he hpl
theorem js_busy {X : Cx} {W : WX} {e : Expr} {σ : L2.St} {H : Hp} {D : Ends} {p pos pos2 : Pos} {v : V} {n : Nat} (M : Mx X.prog X.K X.mg) (hc : X.calm = true) (tk : Takes X W) (hr : Room (n + 3) X.A) (ha : JV X e σ H v) (hW : ∀ d H', Same H H' → H d = none → H' d = some (.xd [("given", v)]) → W (.ref (He.ga X.K "Busy")) (some d) σ H')
    (hg : Gl X "Busy" := by rfl) (he : starEach [e] X.env = (false, eval e X.env) :: starEach [] X.env := by rfl) (hpl : (backTo pos (starEach [] X.env)).any (·.1) = false := by rfl) : JS X (.Raise (some (.Call (.Name "Busy" p) [e] [] pos)) none pos2) D σ H := js_raise M.xB eT2 M.f_super bi2 hc tk hr ha hW hg (by decide) he hpl
theorem js_idle {X : Cx} {W : WX} {e : Expr} {σ : L2.St} {H : Hp} {D : Ends} {p pos pos2 : Pos} {v : V} {n : Nat} (M : Mx X.prog X.K X.mg) (hc : X.calm = true) (tk : Takes X W) (hr : Room (n + 3) X.A) (ha : JV X e σ H v) (hW : ∀ d H', Same H H' → H d = none → H' d = some (.xd [("given", v)]) → W (.ref (He.ga X.K "Idle")) (some d) σ H')
    (hg : Gl X "Idle" := by rfl) (he : starEach [e] X.env = (false, eval e X.env) :: starEach [] X.env := by rfl) (hpl : (backTo pos (starEach [] X.env)).any (·.1) = false := by rfl) : JS X (.Raise (some (.Call (.Name "Idle" p) [e] [] pos)) none pos2) D σ H := js_raise M.xI eT3 M.f_super bi3 hc tk hr ha hW hg (by decide) he hpl
/-! ### is_between called, is_name -/
theorem je_btw {X : Cx} {e1 e2 e3 : Expr} {σ : L2.St} {H : Hp} {p pos : Pos} {n : Nat} {v : V} {T : String} {a b : Int} (M : Mo X.K X.mg) (hr : Room (n + 2) X.A) (h1 : JV X e1 σ H v) (hT : Th H v T) (h2 : JD X e2 σ H (.int a)) (h3 : JD X e3 σ H (.int b)) (hg : Gl X "is_between" := by rfl)
    (s1 : starEach [e1, e2, e3] X.env = (false, eval e1 X.env) :: starEach [e2, e3] X.env := by rfl) (s2 : starEach [e2, e3] X.env = (false, eval e2 X.env) :: starEach [e3] X.env := by rfl) (s3 : starEach [e3] X.env = (false, eval e3 X.env) :: starEach [] X.env := by rfl) (hpl : (backTo pos (starEach [e2, e3] X.env)).any (·.1) = false := by rfl) :
    JD X (.Call (.Name "is_between" p) [e1, e2, e3] [] pos) σ H (.bool (btw v a b)) := fun H1 s Q q =>
  je_call (E := E0) (g_is_between (P := X.prog) (w := X.w) (base := X.base) M) hr passL (ja_of (pa_cons pej (pa_cons pej (pa_cons pej pa_nil s3) s2) s1) (h1 H1 s _ fun H2 k2 => h2.int H2 (s.trans k2) _ fun H3 k3 => h3.int H3 ((s.trans k2).trans k3) _ fun H4 k4 =>
    ⟨v, T, a, b, rfl, hT.on (((s.trans k2).trans k3).trans k4), fun H5 k5 => q _ H5 (((k2.trans k3).trans k4).trans k5) (.bl _)⟩)) (by omega) hg (by decide) s1 hpl
def spNm : Sp := fun vs H Q _ => ∃ v T, vs = [v] ∧ Th H v T ∧ ∀ H', Same H H' → Q (.bl (btw v 0 11)) H'
theorem S_is_name : FnScope ["thing"] ["thing"] (defScope s_is_name) := ⟨rfl, rfl, rfl, by decide +kernel, rfl, by decide +kernel, by decide +kernel⟩
theorem g_is_name (M : Mo K mg) : FnG P w K mg base 3 "is_name" ["thing"] spNm := by
  refine fng M.d_is_name S_is_name (fun vs H Q E ⟨v, T, h, _⟩ => by rw [h]; rfl) (fun f cdv A outer s H vs Q E hr ⟨v, T, e, h, q⟩ => ?_) (fun _ _ _ _ _ _ us hl => match us, hl with | [_], _ => rfl)
  subst e
  obtain ⟨t, g⟩ := M.i_MOST_VALUES
  refine jss_one (js_ret ((je_btw (n := 0) M hr (jv_var 0 rfl) h jd_int (jd_sub (jv_glob (v := .int 12) g ⟨_, rfl⟩).int jd_int)).je fun v' H' s' hv => ?_))
  cases hv
  exact q H' s'
theorem je_is_name {X : Cx} {e1 : Expr} {σ : L2.St} {H : Hp} {p pos : Pos} {n : Nat} {v : V} {T : String} (M : Mo X.K X.mg) (hr : Room (n + 3) X.A) (h1 : JV X e1 σ H v) (hT : Th H v T) (hg : Gl X "is_name" := by rfl)
    (s1 : starEach [e1] X.env = (false, eval e1 X.env) :: starEach [] X.env := by rfl) (hpl : (backTo pos (starEach [] X.env)).any (·.1) = false := by rfl) : JD X (.Call (.Name "is_name" p) [e1] [] pos) σ H (.bool (btw v 0 11)) := fun H1 s Q q =>
  je_call (E := E0) (g_is_name (P := X.prog) (w := X.w) (base := X.base) M) hr passL (ja_of (pa_cons pej pa_nil s1) (h1 H1 s _ fun H2 k2 => ⟨v, T, rfl, hT.on (s.trans k2), fun H5 k5 => q _ H5 (k2.trans k5) (.bl _)⟩)) (by omega) hg (by decide) s1 hpl
def spNC (K : PySem.W.Frag) : Sp := fun vs H Q E => ∃ v T, vs = [v] ∧ Th H v T ∧ (btw v 0 12 = true → ∀ H', Same H H' → Q .non H') ∧ (btw v 0 12 = false → Heard K "BadNumber" v H E)
theorem S_need_cells : FnScope ["k"] ["k"] (defScope s_need_cells) := ⟨rfl, rfl, rfl, by decide +kernel, rfl, by decide +kernel, by decide +kernel⟩
theorem g_need_cells (M : Mx P K mg) : FnG P w K mg base 4 "need_cells" ["k"] (spNC K) := by
  refine fng M.d_need_cells S_need_cells (fun vs H Q E ⟨v, T, h, _⟩ => by rw [h]; rfl) (fun f cdv A outer s H vs Q E hr ⟨v, T, e, h, q1, q2⟩ => ?_) (fun _ _ _ _ _ _ us hl => match us, hl with | [_], _ => rfl)
  subst e
  obtain ⟨t, g⟩ := M.i_MOST_VALUES
  refine jss_one (js_ifB (jb_not (jb_val (je_btw (n := 1) M.toMo hr (jv_var 0 rfl) h jd_int (jv_glob (v := .int 12) g ⟨_, rfl⟩).int))) (fun hb H1 s1 => ?_) fun hb H1 s1 => ?_)
  · have hb : btw v 0 12 = false := by simpa using hb
    exact jss_one (js_bad (n := 0) M rfl (takes_of rfl rfl rfl rfl) hr (jv_var 0 rfl) fun d H' s' n hd => q2 hb d H' (s1.trans s') (same_none s1 n) hd)
  · have hb : btw v 0 12 = true := by simpa using hb
    exact jss_nil (q1 hb H1 s1)
end
end K28
-- KD7
/-! KD7: the recorder: what it holds; small methods. -/
namespace K28
open PySem PySem.Spec PyProof.Rows L2
/-! ### what it holds -/
structure RD where
  hands : Int
  past : List (SD × Int)
def sd0 : SD := ⟨[], [], [], []⟩
def RD.last (R : RD) : SD × Int := R.past.getLast?.getD (sd0, 0)
def RD.cur (R : RD) : SD := R.last.1
def RD.few (R : RD) : Int := R.last.2
def RD.now (R : RD) : Nat := R.past.length - 1
def RD.add (R : RD) (S : SD) : RD := { R with past := R.past ++ [(S, most (recS S))] }
def recF (n : Int) (p : V) : List (Str × V) := [("own_hands", .int n), ("own_past", p)]
def EntAt (K : PySem.W.Frag) (H : Hp) (e : SD × Int) (v : V) : Prop := ∃ t x y, v = .ref t ∧ SqT K H t [x, y, .int e.2] ∧ StandAt K H y e.1
structure RecP (K : PySem.W.Frag) (H : Hp) (r : Addr) (R : RD) (dx q : Addr) (vs : List V) : Prop where
  at_ : H r = some (.ins (He.ga K "Recorder") dx (recF R.hands (.ref q)))
  tp : SqT K H q vs
  en : Paired (fun v e => EntAt K H e v) vs R.past
def RecAt (K : PySem.W.Frag) (H : Hp) (r : Addr) (R : RD) : Prop := ∃ dx q vs, RecP K H r R dx q vs
structure RdOk (R : RD) : Prop where
  ne : R.past ≠ []
  len : R.past.length ≤ 1000
  ok : ∀ e ∈ R.past, SOk e.1
  hd : R.hands = (R.cur.busy.length : Int)
section
variable {K : PySem.W.Frag} {H H' : Hp} {R : RD} {r : Addr}
theorem EntAt.on {e : SD × Int} {v : V} (h : EntAt K H e v) (s : Same H H') : EntAt K H' e v := let ⟨t, x, y, h1, h2, h3⟩ := h; ⟨t, x, y, h1, same_sqt s h2, h3.on s⟩
theorem RecP.on {dx q : Addr} {vs : List V} (h : RecP K H r R dx q vs) (s : Same H H') : RecP K H' r R dx q vs := ⟨s _ _ h.at_, same_sqt s h.tp, Paired.mapP h.en fun _ _ z => EntAt.on z s⟩
theorem RecAt.on (h : RecAt K H r R) (s : Same H H') : RecAt K H' r R := let ⟨dx, q, vs, p⟩ := h; ⟨dx, q, vs, p.on s⟩
theorem last_of (ne : R.past ≠ []) : R.past.getLast? = some R.last := by
  unfold RD.last
  rw [List.getLast?_eq_some_getLast ne]
  rfl
theorem RdOk.cur (h : RdOk R) : SOk R.cur := h.ok _ (List.mem_of_getLast? (last_of h.ne))
theorem RecP.last {dx q : Addr} {vs : List V} (p : RecP K H r R dx q vs) (ne : R.past ≠ []) : ∃ t x y, atI vs (-1) = some (.ref t) ∧ SqT K H t [x, y, .int R.few] ∧ StandAt K H y R.cur := by
  have h := last_of ne
  have hl := Paired.length p.en
  rw [List.getLast?_eq_getElem?] at h
  obtain ⟨v, h1, t, x, y, e, h2, h3⟩ := paired_to p.en h
  subst e
  refine ⟨t, x, y, atI_last ?_, h2, h3⟩
  rw [List.getLast?_eq_getElem?, hl]
  exact h1
/-! ### what stands when the recorder changes -/
theorem sx_at {o : HO} {b : Addr} (s : SameX r H H') (hr : RecAt K H r R) (h : H b = some o) (hn : ∀ C dx n p, o ≠ .ins C dx (recF n p)) : H' b = some o := by
  obtain ⟨dx, q, vs, p⟩ := hr
  exact s _ _ (ne_of h p.at_ fun z => hn _ _ _ _ z) h
theorem sx_tups (s : SameX r H H') (hr : RecAt K H r R) : TupS H H' := fun b xs => ⟨fun h => sx_at s hr h (fun _ _ _ _ z => nomatch z), fun o h => sx_at s hr h (fun _ _ _ _ z => nomatch z)⟩
theorem sx_sql {a : Addr} {xs : List V} (s : SameX r H H') (hr : RecAt K H r R) (h : SqL K H a xs) : SqL K H' a xs := by
  rcases h with (h | ⟨o, h⟩) | h
  · exact .inl (.inl (sx_at s hr h (fun _ _ _ _ z => nomatch z)))
  · exact .inl (.inr ⟨o, sx_at s hr h (fun _ _ _ _ z => nomatch z)⟩)
  · exact .inr h
mutual
theorem dp_sx (s : SameX r H H') (hr : RecAt K H r R) : ∀ (d : PyData) (v : V), Dp K H v d → Dp K H' v d
  | .none, _, h => by cases h; exact .non
  | .bool b, _, h => by cases h; exact .bl b
  | .int i, _, h => by cases h; exact .int i
  | .str x, _, h => by cases h; exact .str x
  | .list ds, _, h => by cases h with | lst h1 h2 => exact .lst (sx_sql s hr h1) (dpa_sx s hr ds _ h2)
  | .tuple ds, _, h => by cases h with | tup h1 h2 => exact .tup (tups_sqt (sx_tups s hr) h1) (dpa_sx s hr ds _ h2)
  | .dict _, _, h => by cases h
theorem dpa_sx (s : SameX r H H') (hr : RecAt K H r R) : ∀ (ds : List PyData) (vs : List V), DpAll K H vs ds → DpAll K H' vs ds
  | [], _, h => by cases h; exact .nil
  | d :: ds, _, h => by cases h with | cons h1 h2 => exact .cons (dp_sx s hr d _ h1) (dpa_sx s hr ds _ h2)
end
theorem dm_sx {α : Type} {a : Addr} {da : α → PyData} {m : List (Int × α)} (s : SameX r H H') (hr : RecAt K H r R) (h : DM K H a da m) : DM K H' a da m := by
  obtain ⟨kvs, h1, h2⟩ := h
  exact ⟨kvs, sx_at s hr h1 (fun _ _ _ _ z => nomatch z), Paired.mapP h2 fun _ _ q => ⟨q.1, dp_sx s hr _ _ q.2⟩⟩
theorem stand_sx {v : V} {S : SD} (s : SameX r H H') (hr : RecAt K H r R) (h : StandAt K H v S) : StandAt K H' v S := by
  obtain ⟨a, dx, u, b2, b3, b4, e, p⟩ := h
  refine ⟨a, dx, u, b2, b3, b4, e, sx_at s hr p.at_ (fun C dx n p z => ?_), dp_sx s hr _ _ p.bu, dm_sx s hr p.be, dm_sx s hr p.en, dm_sx s hr p.re⟩
  injection z with _ _ z3
  exact absurd (congrArg List.length z3) (show ¬ (4 = 2) by decide)
theorem ent_sx {e : SD × Int} {v : V} (s : SameX r H H') (hr : RecAt K H r R) (h : EntAt K H e v) : EntAt K H' e v := by
  obtain ⟨t, x, y, h1, h2, h3⟩ := h
  exact ⟨t, x, y, h1, tups_sqt (sx_tups s hr) h2, stand_sx s hr h3⟩
end
/-! ### an expression that gives a Stand -/
def JSt (X : Cx) (e : Expr) (σ : L2.St) (H : Hp) (S : SD) : Prop := ∀ H1, Same H H1 → ∀ Q : VK, (∀ y H2, Same H1 H2 → StandAt X.K H2 y S → Q y H2) → JE X e σ H1 Q
section
variable {X : Cx} {e o e1 : Expr} {es : List Expr} {σ : L2.St} {H : Hp} {p pos apos : Pos} {v : V} {S : SD} {m : Str} {ps : List Str} {sp : Sp} {E : XK} {Q : VK} {k n : Nat}
theorem JV.st (h : JV X e σ H v) (hS : StandAt X.K H v S) : JSt X e σ H S := fun H1 s Q q => h H1 s Q fun H2 s2 => q v H2 s2 (hS.on (s.trans s2))
theorem jst_meth {pl : Sem Bool} (G : MtG X.prog X.w X.K X.mg X.base k "Stand" m ps sp) (hr : Room n X.A) (hx : Passes (L2.CX X.prog X.w) X E) (ho : JSt X o σ H S) (ha : ∀ y H2, Same H H2 → StandAt X.K H2 y S → JA X (e :: es) σ H2 fun vs H3 => sp (y :: vs) H3 Q E) (hk : k ≤ n := by decide)
    (hl : ∀ u b2 b3 b4, (standF u b2 b3 b4).lookup m = none := by intros; rfl) (hst : starEach (e :: es) X.env = (false, eval e X.env) :: starEach es X.env := by rfl) (hpl : (backTo pos (starEach es X.env)).any (·.1) = false := by rfl)
    (ht : eval (.Call (.Attribute o m apos) (e :: es) [] pos) X.env = (do
      let ov ← eval o X.env
      standAt apos.atName
      let (f, first) ← holding [ov] (getMethod ov m pl)
      callWith pos f first (backTo pos (starEach (e :: es) X.env)) (backToKw pos (keywordEach [] X.env))) := by rfl) : JE X (.Call (.Attribute o m apos) (e :: es) [] pos) σ H Q :=
  je_meth (pl := pl) G hr hx (ho H (Same.refl H) _ fun y H2 s2 hS => by
    obtain ⟨a, dx, u, b2, b3, b4, e, p⟩ := id hS
    subst e
    exact ⟨a, dx, _, rfl, p.at_, hl _ _ _ _, ha _ H2 s2 hS⟩) hk hst hpl ht
theorem jst_meth0 {pl : Sem Bool} (G : MtG X.prog X.w X.K X.mg X.base k "Stand" m ps sp) (hr : Room n X.A) (hx : Passes (L2.CX X.prog X.w) X E) (ho : JSt X o σ H S) (ha : ∀ y H2, Same H H2 → StandAt X.K H2 y S → sp [y] H2 Q E) (hk : k ≤ n := by decide)
    (hl : ∀ u b2 b3 b4, (standF u b2 b3 b4).lookup m = none := by intros; rfl)
    (ht : eval (.Call (.Attribute o m apos) [] [] pos) X.env = (do
      let ov ← eval o X.env
      standAt apos.atName
      let (f, first) ← holding [ov] (getMethod ov m pl)
      callWith pos f first (backTo pos (starEach [] X.env)) (backToKw pos (keywordEach [] X.env))) := by rfl) : JE X (.Call (.Attribute o m apos) [] [] pos) σ H Q :=
  je_meth0 (pl := pl) G hr hx (ho H (Same.refl H) _ fun y H2 s2 hS => by
    obtain ⟨a, dx, u, b2, b3, b4, e, p⟩ := id hS
    subst e
    exact ⟨a, dx, _, rfl, p.at_, hl _ _ _ _, ha _ H2 s2 hS⟩) hk ht
theorem jd_busy (M : Mo X.K X.mg) (ho : JSt X o σ H S) (hb : attributeBase o "busy_ones" X.env (eval o X.env) = eval o X.env := by rfl) : JD X (.Attribute o "busy_ones" pos) σ H (pBs S.busy) := fun H1 s Q q =>
  je_fld (ho H1 s _ fun y H2 s2 hS => by
    obtain ⟨a, dx, u, b2, b3, b4, e, p⟩ := id hS
    subst e
    exact ⟨a, _, dx, _, u, rfl, p.at_, M.c_Stand, M.a_busy_ones, rfl, q _ H2 s2 p.bu⟩) hb
theorem jm_begins (M : Mo X.K X.mg) (ho : JSt X o σ H S) (hb : attributeBase o "begins" X.env (eval o X.env) = eval o X.env := by rfl) : JM X (.Attribute o "begins" pos) σ H PyData.int S.begins := fun H1 s Q q =>
  je_fld (ho H1 s _ fun y H2 s2 hS => by
    obtain ⟨a, dx, u, b2, b3, b4, e, p⟩ := id hS
    subst e
    exact ⟨a, _, dx, _, .ref b2, rfl, p.at_, M.c_Stand, M.a_begins, rfl, q _ H2 s2 p.be⟩) hb
theorem jst_begun {i : Nat} {b : Bg} {t : Int} {a1 a2 a3 a4 : Expr} {pl : Sem Bool} (M : Mo X.K X.mg) (hr : Room (n + 4) X.A) (ho : JSt X o σ H S) (ok : SOk S) (hi : i < S.busy.length) (h1 : JV X a1 σ H (.int (i : Nat))) (h2 : JV X a2 σ H (.str b.word)) (h3 : JV X a3 σ H b.name) (h4 : JV X a4 σ H (.int t))
    (s1 : starEach [a1, a2, a3, a4] X.env = (false, eval a1 X.env) :: starEach [a2, a3, a4] X.env := by rfl) (s2 : starEach [a2, a3, a4] X.env = (false, eval a2 X.env) :: starEach [a3, a4] X.env := by rfl) (s3 : starEach [a3, a4] X.env = (false, eval a3 X.env) :: starEach [a4] X.env := by rfl) (s4 : starEach [a4] X.env = (false, eval a4 X.env) :: starEach [] X.env := by rfl)
    (hpl : (backTo pos (starEach [a2, a3, a4] X.env)).any (·.1) = false := by rfl)
    (ht : eval (.Call (.Attribute o "begun" apos) [a1, a2, a3, a4] [] pos) X.env = (do
      let ov ← eval o X.env
      standAt apos.atName
      let (f, first) ← holding [ov] (getMethod ov "begun" pl)
      callWith pos f first (backTo pos (starEach [a1, a2, a3, a4] X.env)) (backToKw pos (keywordEach [] X.env))) := by rfl) : JSt X (.Call (.Attribute o "begun" apos) [a1, a2, a3, a4] [] pos) σ H (begunS S i b t) := fun H1 s Q q =>
  jst_meth (pl := pl) (E := E0) (g_begun (P := X.prog) (w := X.w) (base := X.base) M) hr passL (fun H2 k2 => ho H2 (s.trans k2)) (fun y H2 k2 hS => ja_of (pa_cons pej (pa_cons pej (pa_cons pej (pa_cons pej pa_nil s4) s3) s2) s1) (h1 H2 (s.trans k2) _ fun H3 k3 => h2 H3 ((s.trans k2).trans k3) _ fun H4 k4 => h3 H4 (((s.trans k2).trans k3).trans k4) _ fun H5 k5 => h4 H5 ((((s.trans k2).trans k3).trans k4).trans k5) _ fun H6 k6 =>
    ⟨y, S, i, b, t, rfl, hS.on (((k3.trans k4).trans k5).trans k6), ok, hi, fun r H' k7 hr => q r H' (((((k2.trans k3).trans k4).trans k5).trans k6).trans k7) hr⟩)) (by omega) (by intros; rfl) s1 hpl ht
theorem jst_ended {i : Nat} {en : En} {t : Int} {u : V} {a1 a2 a3 : Expr} {pl : Sem Bool} (M : Mo X.K X.mg) (hr : Room (n + 4) X.A) (ho : JSt X o σ H S) (ok : SOk S) (hi : S.busy[i]? = some en.z) (hu : ∀ b m, en = En.r b m → u = .int m) (h1 : JV X a1 σ H (.int (i : Nat))) (h2 : JV X a2 σ H u) (h3 : JV X a3 σ H (.int t))
    (s1 : starEach [a1, a2, a3] X.env = (false, eval a1 X.env) :: starEach [a2, a3] X.env := by rfl) (s2 : starEach [a2, a3] X.env = (false, eval a2 X.env) :: starEach [a3] X.env := by rfl) (s3 : starEach [a3] X.env = (false, eval a3 X.env) :: starEach [] X.env := by rfl)
    (hpl : (backTo pos (starEach [a2, a3] X.env)).any (·.1) = false := by rfl)
    (ht : eval (.Call (.Attribute o "ended" apos) [a1, a2, a3] [] pos) X.env = (do
      let ov ← eval o X.env
      standAt apos.atName
      let (f, first) ← holding [ov] (getMethod ov "ended" pl)
      callWith pos f first (backTo pos (starEach [a1, a2, a3] X.env)) (backToKw pos (keywordEach [] X.env))) := by rfl) : JSt X (.Call (.Attribute o "ended" apos) [a1, a2, a3] [] pos) σ H (endedS S i en t) := fun H1 s Q q =>
  jst_meth (pl := pl) (E := E0) (g_ended (P := X.prog) (w := X.w) (base := X.base) M) hr passL (fun H2 k2 => ho H2 (s.trans k2)) (fun y H2 k2 hS => ja_of (pa_cons pej (pa_cons pej (pa_cons pej pa_nil s3) s2) s1) (h1 H2 (s.trans k2) _ fun H3 k3 => h2 H3 ((s.trans k2).trans k3) _ fun H4 k4 => h3 H4 (((s.trans k2).trans k3).trans k4) _ fun H5 k5 =>
    ⟨y, S, i, en, t, u, rfl, hu, hS.on ((k3.trans k4).trans k5), ok, hi, fun r H' k7 hr => q r H' ((((k2.trans k3).trans k4).trans k5).trans k7) hr⟩)) (by omega) (by intros; rfl) s1 hpl ht
theorem jd_recordS {pl : Sem Bool} (M : Mo X.K X.mg) (hr : Room (n + 2) X.A) (ho : JSt X o σ H S) (ok : SOk S)
    (ht : eval (.Call (.Attribute o "record" apos) [] [] pos) X.env = (do
      let ov ← eval o X.env
      standAt apos.atName
      let (f, first) ← holding [ov] (getMethod ov "record" pl)
      callWith pos f first (backTo pos (starEach [] X.env)) (backToKw pos (keywordEach [] X.env))) := by rfl) : JD X (.Call (.Attribute o "record" apos) [] [] pos) σ H (pR (recS S)) := fun H1 s Q q =>
  jst_meth0 (pl := pl) (E := E0) (g_record (P := X.prog) (w := X.w) (base := X.base) M) hr passL (fun H2 k2 => ho H2 (s.trans k2)) (fun y H2 k2 hS => ⟨y, S, rfl, hS, ok, fun r H' k3 h => q r H' (k2.trans k3) h⟩) (by omega) (by intros; rfl) ht
theorem jl_namesS {pl : Sem Bool} (M : Mo X.K X.mg) (hr : Room (n + 1) X.A) (ho : JSt X o σ H S) (ok : SOk S)
    (ht : eval (.Call (.Attribute o "names_so" apos) [] [] pos) X.env = (do
      let ov ← eval o X.env
      standAt apos.atName
      let (f, first) ← holding [ov] (getMethod ov "names_so" pl)
      callWith pos f first (backTo pos (starEach [] X.env)) (backToKw pos (keywordEach [] X.env))) := by rfl) : JL X (.Call (.Attribute o "names_so" apos) [] [] pos) σ H ((namesS S).map PyData.int) := fun H1 s Q q =>
  jst_meth0 (pl := pl) (E := E0) (g_names_so (P := X.prog) (w := X.w) (base := X.base) M) hr passL (fun H2 k2 => ho H2 (s.trans k2)) (fun y H2 k2 hS => ⟨y, S, rfl, hS, ok, fun b us H' s' h1 h2 h3 => q b us H' (k2.trans s') (same_none k2 h1) h2 h3⟩) (by omega) (by intros; rfl) ht
theorem jd_has_room {u : V} {T : String} {pl : Sem Bool} (M : Mo X.K X.mg) (hr : Room (n + 2) X.A) (ho : JSt X o σ H S) (ok : SOk S) (h1 : JV X e1 σ H u) (hT : Th H u T)
    (hst : starEach (e1 :: []) X.env = (false, eval e1 X.env) :: starEach [] X.env := by rfl) (hpl : (backTo pos (starEach [] X.env)).any (·.1) = false := by rfl)
    (ht : eval (.Call (.Attribute o "has_room" apos) (e1 :: []) [] pos) X.env = (do
      let ov ← eval o X.env
      standAt apos.atName
      let (f, first) ← holding [ov] (getMethod ov "has_room" pl)
      callWith pos f first (backTo pos (starEach (e1 :: []) X.env)) (backToKw pos (keywordEach [] X.env))) := by rfl) : JD X (.Call (.Attribute o "has_room" apos) (e1 :: []) [] pos) σ H (.bool (hasR S u)) := fun H1 s Q q =>
  jst_meth (pl := pl) (E := E0) (g_has_room (P := X.prog) (w := X.w) (base := X.base) M) hr passL (fun H2 k2 => ho H2 (s.trans k2)) (fun y H2 k2 hS => ja_of (pa_cons pej pa_nil hst) (h1 H2 (s.trans k2) _ fun H3 k3 => ⟨y, S, u, T, rfl, hS.on k3, ok, hT.on (s.trans (k2.trans k3)), fun H' s' => q _ H' (k2.trans (k3.trans s')) (.bl _)⟩)) (by omega) (by intros; rfl) hst hpl ht
end
/-! ### its small methods -/
def spStand (K : PySem.W.Frag) : Sp := fun vs H Q _ => ∃ r R, vs = [.ref r] ∧ RecAt K H r R ∧ RdOk R ∧ ∀ y H', Same H H' → StandAt K H' y R.cur → Q y H'
def spNow (K : PySem.W.Frag) : Sp := fun vs H Q _ => ∃ r R, vs = [.ref r] ∧ RecAt K H r R ∧ RdOk R ∧ ∀ H', Same H H' → Q (.int (R.now : Nat)) H'
def spFew (K : PySem.W.Frag) : Sp := fun vs H Q _ => ∃ r R, vs = [.ref r] ∧ RecAt K H r R ∧ R.past ≠ [] ∧ ∀ H', Same H H' → Q (.int R.few) H'
section
variable {P : Program} {w : World} {K : PySem.W.Frag} {mg : Str → Option Value} {base : Heap}
theorem S_Recorder_stand : FnScope ["self"] ["self"] (defScope s_Recorder_stand) := ⟨rfl, rfl, rfl, by decide +kernel, rfl, by decide +kernel, by decide +kernel⟩
theorem S_Recorder_now : FnScope ["self"] ["self"] (defScope s_Recorder_now) := ⟨rfl, rfl, rfl, by decide +kernel, rfl, by decide +kernel, by decide +kernel⟩
theorem S_Recorder_fewest_now : FnScope ["self"] ["self"] (defScope s_Recorder_fewest_now) := ⟨rfl, rfl, rfl, by decide +kernel, rfl, by decide +kernel, by decide +kernel⟩
theorem S_Recorder_len : FnScope ["self"] ["self"] (defScope s_Recorder_len) := ⟨rfl, rfl, rfl, by decide +kernel, rfl, by decide +kernel, by decide +kernel⟩
theorem g_stand (M : Mo K mg) : MtG P w K mg base 1 "Recorder" "stand" ["self"] (spStand K) := by
  refine mtg M.m_Recorder_stand M.c_Recorder M.t_Recorder_stand S_Recorder_stand (fun vs H Q E ⟨r, R, h, _⟩ => by rw [h]; rfl) (fun f cdv A outer s H vs Q E hr ⟨r, R, e, hR, ok, q⟩ => ?_) (fun _ _ _ _ _ _ us hl => match us, hl with | [_], _ => rfl)
  subst e
  obtain ⟨dx, qa, vs, p⟩ := hR
  obtain ⟨t, x, y, h1, h2, h3⟩ := p.last ok.ne
  exact jss_one (js_ret ((jv_ixT (jv_ixT (jv_fld (jv_var 0 rfl) p.at_ M.c_Recorder M.a_own_past rfl) p.tp (jd_neg jd_int) h1) h2 jd_int atI1).je fun H' s' => q y H' s' (h3.on s')))
theorem g_now (M : Mo K mg) : MtG P w K mg base 1 "Recorder" "now" ["self"] (spNow K) := by
  refine mtg M.m_Recorder_now M.c_Recorder M.t_Recorder_now S_Recorder_now (fun vs H Q E ⟨r, R, h, _⟩ => by rw [h]; rfl) (fun f cdv A outer s H vs Q E hr ⟨r, R, e, hR, ok, q⟩ => ?_) (fun _ _ _ _ _ _ us hl => match us, hl with | [_], _ => rfl)
  subst e
  obtain ⟨dx, qa, vs, p⟩ := hR
  refine jss_one (js_ret ((jd_lenV M.f_len (jt_cut (i := some ((1 : Nat) : Int)) (j := none) (JV.jt (jv_fld (jv_var 0 rfl) p.at_ M.c_Recorder M.a_own_past rfl) p.tp) (jo_some jd_int) jo_none)).je fun v H' s' hv => ?_))
  cases hv
  have e : ((cutV vs (some ((1 : Nat) : Int)) none).length : Int) = (R.now : Nat) := by
    rw [cutv_from, List.length_drop, Paired.length p.en]
    rfl
  rw [e]
  exact q H' s'
theorem g_len (M : Mo K mg) : MtG P w K mg base 1 "Recorder" "__len__" ["self"] (spNow K) := by
  refine mtg M.m_Recorder_len M.c_Recorder M.t_Recorder_len S_Recorder_len (fun vs H Q E ⟨r, R, h, _⟩ => by rw [h]; rfl) (fun f cdv A outer s H vs Q E hr ⟨r, R, e, hR, ok, q⟩ => ?_) (fun _ _ _ _ _ _ us hl => match us, hl with | [_], _ => rfl)
  subst e
  obtain ⟨dx, qa, vs, p⟩ := hR
  refine jss_one (js_ret ((jd_lenV M.f_len (jt_cut (i := some ((1 : Nat) : Int)) (j := none) (JV.jt (jv_fld (jv_var 0 rfl) p.at_ M.c_Recorder M.a_own_past rfl) p.tp) (jo_some jd_int) jo_none)).je fun v H' s' hv => ?_))
  cases hv
  have e : ((cutV vs (some ((1 : Nat) : Int)) none).length : Int) = (R.now : Nat) := by
    rw [cutv_from, List.length_drop, Paired.length p.en]
    rfl
  rw [e]
  exact q H' s'
theorem atI2 {α : Type} {a b c : α} {l : List α} : atI (a :: b :: c :: l) 2 = some c := atI_nat (i := 2) rfl
theorem g_few (M : Mo K mg) : MtG P w K mg base 1 "Recorder" "fewest_now" ["self"] (spFew K) := by
  refine mtg M.m_Recorder_fewest_now M.c_Recorder M.t_Recorder_fewest_now S_Recorder_fewest_now (fun vs H Q E ⟨r, R, h, _⟩ => by rw [h]; rfl) (fun f cdv A outer s H vs Q E hr ⟨r, R, e, hR, ne, q⟩ => ?_) (fun _ _ _ _ _ _ us hl => match us, hl with | [_], _ => rfl)
  subst e
  obtain ⟨dx, qa, vs, p⟩ := hR
  obtain ⟨t, x, y, h1, h2, h3⟩ := p.last ne
  exact jss_one (js_ret ((jv_ixT (jv_ixT (jv_fld (jv_var 0 rfl) p.at_ M.c_Recorder M.a_own_past rfl) p.tp (jd_neg jd_int) h1) h2 jd_int atI2).je q))
end
end K28
-- KD8
/-! KD8: the recorder's deeds. -/
namespace K28
open PySem PySem.Spec PyProof.Rows L2
/-! ### plain: what a deed answers -/
inductive Ans where
  | bad (v : V)
  | busy (v : V)
  | idle (v : V)
  | ok (S : SD)
def idx (S : SD) : V → Option Nat
  | .int i => if 0 ≤ i ∧ i ≤ (S.busy.length : Int) - 1 then some i.toNat else none
  | _ => none
def isFree : Bz → Bool
  | .free => true
  | _ => false
def bzAt (S : SD) (i : Nat) : Bz := S.busy.getD i .free
def badName (S : SD) (nm : V) : Bool := !btw nm 0 11 || match nm with
  | .int m => (getM S.begins m).isSome
  | _ => false
def toI : V → Int
  | .int m => m
  | _ => 0
def wrA (S : SD) (h nm : V) (t : Int) : Ans := match idx S h with
  | none => .bad h
  | some i => if isFree (bzAt S i) = true then (if badName S nm = true then .bad nm else .ok (begunS S i (.w (toI nm)) t)) else .busy h
def rdA (S : SD) (h : V) (t : Int) : Ans := match idx S h with
  | none => .bad h
  | some i => if isFree (bzAt S i) = true then .ok (begunS S i .r t) else .busy h
def dnA (S : SD) (h nm : V) (t : Int) : Ans := match idx S h with
  | none => .bad h
  | some i => match bzAt S i with
    | .free => .idle h
    | .wr n b => if nm = .non then .ok (endedS S i (.w n b) t) else .bad nm
    | .rd b => if hasR S nm = true then .ok (endedS S i (.r b (toI nm)) t) else .bad nm
theorem btw_idx {S : SD} {v : V} : btw v 0 ((S.busy.length : Int) - 1) = (idx S v).isSome := by
  cases v with
  | int i =>
    show (decide (0 ≤ i) && decide (i ≤ (S.busy.length : Int) - 1)) = (if 0 ≤ i ∧ i ≤ (S.busy.length : Int) - 1 then some i.toNat else none).isSome
    by_cases h : 0 ≤ i ∧ i ≤ (S.busy.length : Int) - 1
    · rw [if_pos h, decide_eq_true h.1, decide_eq_true h.2]; rfl
    · rw [if_neg h]
      by_cases h1 : 0 ≤ i
      · rw [decide_eq_true h1, decide_eq_false (fun z => h ⟨h1, z⟩)]; rfl
      · rw [decide_eq_false h1]; rfl
  | _ => rfl
theorem idx_some {S : SD} {v : V} {i : Nat} (h : idx S v = some i) : v = .int (i : Nat) ∧ i < S.busy.length := by
  cases v with
  | int j =>
    have h : (if 0 ≤ j ∧ j ≤ (S.busy.length : Int) - 1 then some j.toNat else none) = some i := h
    split at h
    · rename_i q
      cases h
      refine ⟨congrArg V.int (by omega), by omega⟩
    · cases h
  | _ => cases h
theorem bz_at {S : SD} {i : Nat} (h : i < S.busy.length) : S.busy[i]? = some (bzAt S i) := by
  unfold bzAt
  simp [List.getD, h]
/-- what such an answer asks of the two ends -/
def AnsP (K : PySem.W.Frag) (H : Hp) (E : XK) (ok : SD → Prop) : Ans → Prop
  | .bad v => Heard K "BadNumber" v H E
  | .busy v => Heard K "Busy" v H E
  | .idle v => Heard K "Idle" v H E
  | .ok S => ok S
theorem AnsP.on {K : PySem.W.Frag} {H H' : Hp} {E : XK} {ok ok' : SD → Prop} {a : Ans} (h : AnsP K H E ok a) (s : Same H H') (k : ∀ S, ok S → ok' S) : AnsP K H' E ok' a := by
  cases a with
  | bad v => exact Heard.on h s
  | busy v => exact Heard.on h s
  | idle v => exact Heard.on h s
  | ok S => exact k S h
theorem RdOk.idx {R : RD} (h : RdOk R) (v : V) : btw v 0 (R.hands - 1) = (idx R.cur v).isSome := by
  rw [h.hd]
  exact btw_idx
section
variable {X : Cx} {o e1 e2 : Expr} {es : List Expr} {σ : L2.St} {H : Hp} {p pos apos : Pos} {v : V} {R : RD} {r : Addr} {n : Nat}
/-! ### calls of the small methods on a known recorder -/
theorem jst_stand {pl : Sem Bool} (M : Mo X.K X.mg) (hr : Room (n + 1) X.A) (ho : JV X o σ H (.ref r)) (hR : RecAt X.K H r R) (ok : RdOk R)
    (ht : eval (.Call (.Attribute o "stand" apos) [] [] pos) X.env = (do
      let ov ← eval o X.env
      standAt apos.atName
      let (f, first) ← holding [ov] (getMethod ov "stand" pl)
      callWith pos f first (backTo pos (starEach [] X.env)) (backToKw pos (keywordEach [] X.env))) := by rfl) : JSt X (.Call (.Attribute o "stand" apos) [] [] pos) σ H R.cur := fun H1 s Q q => by
  obtain ⟨dx, qa, vs, p⟩ := id hR
  exact je_meth0V (pl := pl) (E := E0) (g_stand (P := X.prog) (w := X.w) (base := X.base) M) hr passL (ho.on s) (p.on s).at_ rfl (fun H2 s2 => ⟨r, R, rfl, hR.on (s.trans s2), ok, fun y H' s' hy => q y H' (s2.trans s') hy⟩) (by omega) ht
theorem jv_now {pl : Sem Bool} (M : Mo X.K X.mg) (hr : Room (n + 1) X.A) (ho : JV X o σ H (.ref r)) (hR : RecAt X.K H r R) (ok : RdOk R)
    (ht : eval (.Call (.Attribute o "now" apos) [] [] pos) X.env = (do
      let ov ← eval o X.env
      standAt apos.atName
      let (f, first) ← holding [ov] (getMethod ov "now" pl)
      callWith pos f first (backTo pos (starEach [] X.env)) (backToKw pos (keywordEach [] X.env))) := by rfl) : JV X (.Call (.Attribute o "now" apos) [] [] pos) σ H (.int (R.now : Nat)) := fun H1 s Q q => by
  obtain ⟨dx, qa, vs, p⟩ := id hR
  exact je_meth0V (pl := pl) (E := E0) (g_now (P := X.prog) (w := X.w) (base := X.base) M) hr passL (ho.on s) (p.on s).at_ rfl (fun H2 s2 => ⟨r, R, rfl, hR.on (s.trans s2), ok, fun H' s' => q H' (s2.trans s')⟩) (by omega) ht
theorem jv_few {pl : Sem Bool} (M : Mo X.K X.mg) (hr : Room (n + 1) X.A) (ho : JV X o σ H (.ref r)) (hR : RecAt X.K H r R) (ne : R.past ≠ [])
    (ht : eval (.Call (.Attribute o "fewest_now" apos) [] [] pos) X.env = (do
      let ov ← eval o X.env
      standAt apos.atName
      let (f, first) ← holding [ov] (getMethod ov "fewest_now" pl)
      callWith pos f first (backTo pos (starEach [] X.env)) (backToKw pos (keywordEach [] X.env))) := by rfl) : JV X (.Call (.Attribute o "fewest_now" apos) [] [] pos) σ H (.int R.few) := fun H1 s Q q => by
  obtain ⟨dx, qa, vs, p⟩ := id hR
  exact je_meth0V (pl := pl) (E := E0) (g_few (P := X.prog) (w := X.w) (base := X.base) M) hr passL (ho.on s) (p.on s).at_ rfl (fun H2 s2 => ⟨r, R, rfl, hR.on (s.trans s2), ne, fun H' s' => q H' (s2.trans s')⟩) (by omega) ht
end
section
variable {P : Program} {w : World} {K : PySem.W.Frag} {mg : Str → Option Value} {base : Heap}
theorem passE {P : Program} {w : World} {K : PySem.W.Frag} {mg : Str → Option Value} {base : Heap} {N : List Str} {qual : Str} {scope : Scope} {f : Addr} {cd : Value} {A : Around} {outer : List Env} {s : Shared} {H : Hp} {E : XK} : Passes (L2.CX P w) (cxOf (L2.CX P w) P w K mg base N qual scope f cd A outer s H E) E :=
  passes_call (X := cxOf (L2.CX P w) P w K mg base N qual scope f cd A outer s H E) (takes_of (E := E) rfl rfl rfl rfl) fun _ _ _ _ h => h
/-! ### need_hand, need_free -/
def spNH (K : PySem.W.Frag) : Sp := fun vs H Q E => ∃ r R v T, vs = [.ref r, v] ∧ RecAt K H r R ∧ RdOk R ∧ Th H v T ∧ (match idx R.cur v with | none => Heard K "BadNumber" v H E | some _ => ∀ H', Same H H' → Q .non H')
theorem S_Recorder_need_hand : FnScope ["self", "hand"] ["self", "hand"] (defScope s_Recorder_need_hand) := ⟨rfl, rfl, rfl, by decide +kernel, rfl, by decide +kernel, by decide +kernel⟩
theorem g_need_hand (M : Mx P K mg) : MtG P w K mg base 4 "Recorder" "need_hand" ["self", "hand"] (spNH K) := by
  refine mtg M.m_Recorder_need_hand M.c_Recorder M.t_Recorder_need_hand S_Recorder_need_hand (fun vs H Q E ⟨r, R, v, T, h, _⟩ => by rw [h]; rfl) (fun f cdv A outer s H vs Q E hr ⟨r, R, v, T, e, hR, ok, hT, q⟩ => ?_) (fun _ _ _ _ _ _ us hl => match us, hl with | [_, _], _ => rfl)
  subst e
  obtain ⟨dx, qa, vs, p⟩ := id hR
  refine jss_one (js_ifB (jb_not (jb_val (je_btw (n := 1) M.toMo hr (jv_var 1 rfl) hT jd_int (jd_sub (jv_fld (jv_var 0 rfl) p.at_ M.c_Recorder M.a_own_hands rfl).int jd_int)))) (fun hb H1 s1 => ?_) fun hb H1 s1 => ?_)
  · have hb : btw v 0 (R.hands - 1) = false := by simpa using hb
    rw [ok.idx] at hb
    cases e : idx R.cur v with
    | some i => rw [e] at hb; cases hb
    | none =>
      rw [e] at q
      exact jss_one (js_bad (n := 0) M rfl (takes_of rfl rfl rfl rfl) hr (jv_var 1 rfl) fun d H' s' n hd => q d H' (s1.trans s') (same_none s1 n) hd)
  · have hb : btw v 0 (R.hands - 1) = true := by simpa using hb
    rw [ok.idx] at hb
    cases e : idx R.cur v with
    | none => rw [e] at hb; cases hb
    | some i =>
      rw [e] at q
      exact jss_nil (q H1 s1)
def spNF (K : PySem.W.Frag) : Sp := fun vs H Q E => ∃ r R v T, vs = [.ref r, v] ∧ RecAt K H r R ∧ RdOk R ∧ Th H v T ∧ (match idx R.cur v with | none => Heard K "BadNumber" v H E | some i => if isFree (bzAt R.cur i) = true then ∀ H', Same H H' → Q .non H' else Heard K "Busy" v H E)
theorem S_Recorder_need_free : FnScope ["self", "hand"] ["self", "hand"] (defScope s_Recorder_need_free) := ⟨rfl, rfl, rfl, by decide +kernel, rfl, by decide +kernel, by decide +kernel⟩
theorem bz_ne {b : Bz} {K : PySem.W.Frag} {H : Hp} {u : V} (h : Dp K H u (pB b)) : decide (u = .non) = isFree b := by
  cases b with
  | free => cases h; rfl
  | wr n t => cases h; rfl
  | rd t => cases h; rfl
theorem g_need_free (M : Mx P K mg) : MtG P w K mg base 5 "Recorder" "need_free" ["self", "hand"] (spNF K) := by
  refine mtg M.m_Recorder_need_free M.c_Recorder M.t_Recorder_need_free S_Recorder_need_free (fun vs H Q E ⟨r, R, v, T, h, _⟩ => by rw [h]; rfl) (fun f cdv A outer s H vs Q E hr ⟨r, R, v, T, e, hR, ok, hT, q⟩ => ?_) (fun _ _ _ _ _ _ us hl => match us, hl with | [_, _], _ => rfl)
  subst e
  obtain ⟨dx, qa, vs, p⟩ := id hR
  refine jss_cons (js_expr (je_methV (E := E) (g_need_hand M) hr passE (jv_var 0 rfl) p.at_ rfl fun H1 s1 => ja_of (pa_cons pej pa_nil) (JV.je (jv_var 1 rfl) fun H2 s2 => ⟨r, R, v, T, rfl, hR.on (s1.trans s2), ok, hT.on (s1.trans s2), ?_⟩)))
  cases e : idx R.cur v with
  | none =>
    rw [e] at q
    exact Heard.on q (s1.trans s2)
  | some i =>
    rw [e] at q
    obtain ⟨rfl, hi⟩ := idx_some e
    intro H3 s3
    have s03 := (s1.trans s2).trans s3
    refine jss_one (js_if (jt_of (pt_cmpR op_notN pej pej (nomark _)) (JD.je (jd_ixT (jd_busy M.toMo (jst_stand (n := 3) M.toMo hr (jv_var 0 rfl) (hR.on s03) ok)) (jv_var 1 rfl).int (busy_at (bz_at hi))) fun u H4 s4 hu => JV.je jv_non fun H5 s5 => ⟨rfl, _, rfl, ?_⟩)))
    rw [bz_ne hu]
    have q : if isFree (bzAt R.cur i) = true then ∀ H', Same H H' → Q .non H' else Heard K "Busy" (.int (i : Nat)) H E := q
    have s05 := s03.trans (s4.trans s5)
    cases hf : isFree (bzAt R.cur i) with
    | true =>
      rw [if_pos hf] at q
      exact iteF (jss_nil (q H5 s05))
    | false =>
      rw [if_neg (by rw [hf]; decide)] at q
      exact iteT (jss_one (js_busy (n := 1) M rfl (takes_of rfl rfl rfl rfl) hr (jv_var 1 rfl) fun d H' s' n hd => q d H' (s05.trans s') (same_none s05 n) hd))
/-! ### go_on -/
def spGo (K : PySem.W.Frag) : Sp := fun vs H Q _ => ∃ r R u y S, vs = [.ref r, u, y] ∧ RecAt K H r R ∧ RdOk R ∧ StandAt K H y S ∧ SOk S ∧ ∀ H', SameX r H H' → RecAt K H' r (R.add S) → Q (.int (most (recS S))) H'
theorem S_Recorder_go_on : FnScope ["self", "deed", "later"] ["self", "deed", "later"] (defScope s_Recorder_go_on) := ⟨rfl, rfl, rfl, by decide +kernel, rfl, by decide +kernel, by decide +kernel⟩
theorem add_few (R : RD) (S : SD) : (R.add S).few = most (recS S) := by
  unfold RD.few RD.last RD.add
  simp
theorem add_cur (R : RD) (S : SD) : (R.add S).cur = S := by
  unfold RD.cur RD.last RD.add
  simp
theorem g_go_on (M : Mo K mg) : MtG P w K mg base 9 "Recorder" "go_on" ["self", "deed", "later"] (spGo K) := by
  refine mtg M.m_Recorder_go_on M.c_Recorder M.t_Recorder_go_on S_Recorder_go_on (fun vs H Q E ⟨r, R, u, y, S, h, _⟩ => by rw [h]; rfl) (fun f cdv A outer s H vs Q E hr ⟨r, R, u, y, S, e, hR, ok, hS, okS, q⟩ => ?_) (fun _ _ _ _ _ _ us hl => match us, hl with | [_, _, _], _ => rfl)
  subst e
  obtain ⟨dx, qa, vs, p⟩ := id hR
  have hl := Paired.length p.en
  have hl2 := ok.len
  have hS0 := hS
  refine jss_cons (js_fld (je_of (pe_tup paj) (ja_of (StX.pa_star pej (pa_cons pej pa_nil)) (JV.je (jv_fld (jv_var 0 rfl) p.at_ M.c_Recorder M.a_own_past rfl) fun H1 s1 => ⟨qa, vs, rfl, .inl (same_sqt s1 p.tp), ?_⟩))))
  refine je_of (pe_tup (pa_cons pej (pa_cons pej (pa_cons pej pa_nil)))) (JV.je (jv_var 1 rfl) fun H2 s2 => JV.je (jv_var 2 rfl) fun H3 s3 => JD.je (jd_call (g_many_in M) hr (recS S) (rok_rec okS) (jds_cons (je_record (n := 6) M hr (jv_var 2 rfl) (hS.on ((s1.trans s2).trans s3)) okS) jds_nil)) fun z H4 s4 hz => ?_)
  cases hz
  refine ⟨by simp; exact small1 (by omega), fun t ht => ⟨by simp; exact small1 (by omega), fun pa hpa => JV.je (jv_var 0 rfl) fun H5 s5 => ?_⟩⟩
  have s04 : Same H H4 := ((s1.trans s2).trans s3).trans s4
  have s4t : Same H4 (upd H4 t (.tup [u, y, .int (most (recS S))])) := same_new ht
  have stp : Same (upd H4 t (.tup [u, y, .int (most (recS S))])) (upd (upd H4 t (.tup [u, y, .int (most (recS S))])) pa (.tup (vs ++ [.ref t]))) := same_new hpa
  have s05 : Same H H5 := ((s04.trans s4t).trans stp).trans s5
  refine ⟨r, _, dx, _, rfl, s05 _ _ p.at_, M.c_Recorder, M.a_own_past, by simp [recF], ?_⟩
  have sx : SameX r H (upd H5 r (.ins (He.ga K "Recorder") dx (putF "own_past" (.ref pa) (recF R.hands (.ref qa))))) := sx_upd (same_sx s05)
  have nr : ∀ {b : Addr} {xs : List V}, H5 b = some (.tup xs) → b ≠ r := fun {b xs} e => ne_of e (s05 _ _ p.at_) fun z => nomatch z
  have hpa5 := s5 _ _ (upd_same (H := upd H4 t (.tup [u, y, .int (most (recS S))])) (a := pa) (o := .tup (vs ++ [.ref t])))
  have ht5 := s5 _ _ (stp _ _ (upd_same (H := H4) (a := t) (o := .tup [u, y, .int (most (recS S))])))
  have hR' : RecAt K (upd H5 r (.ins (He.ga K "Recorder") dx (putF "own_past" (.ref pa) (recF R.hands (.ref qa))))) r (R.add S) := by
    refine ⟨dx, pa, vs ++ [.ref t], upd_same, SqT.of (by rw [upd_ne (nr hpa5)]; exact hpa5), paired_app (Paired.mapP p.en fun v e z => ent_sx sx hR z) (.cons ⟨t, u, y, rfl, SqT.of (by rw [upd_ne (nr ht5)]; exact ht5), stand_sx sx hR hS⟩ .nil)⟩
  refine jss_one (js_ret ((jv_few (n := 7) M hr (jv_var 0 rfl) hR' (by unfold RD.add; simp)).je fun H6 s6 => ?_))
  rw [add_few]
  exact q H6 (sx_same sx s6) (hR'.on s6)
/-! ### write, read -/
theorem je_need_free {X : Cx} {o e1 : Expr} {σ : L2.St} {H : Hp} {pos apos : Pos} {r : Addr} {R : RD} {v : V} {T : String} {n : Nat} {E : XK} {Q : VK} {pl : Sem Bool} (M : Mx X.prog X.K X.mg) (hr : Room (n + 5) X.A) (hx : Passes (L2.CX X.prog X.w) X E) (ho : JV X o σ H (.ref r)) (hR : RecAt X.K H r R) (ok : RdOk R) (h1 : JV X e1 σ H v) (hT : Th H v T)
    (hq : match idx R.cur v with | none => Heard X.K "BadNumber" v H E | some i => if isFree (bzAt R.cur i) = true then ∀ H', Same H H' → Q .non H' else Heard X.K "Busy" v H E) (hst : starEach (e1 :: []) X.env = (false, eval e1 X.env) :: starEach [] X.env := by rfl) (hpl : (backTo pos (starEach [] X.env)).any (·.1) = false := by rfl)
    (ht : eval (.Call (.Attribute o "need_free" apos) (e1 :: []) [] pos) X.env = (do
      let ov ← eval o X.env
      standAt apos.atName
      let (f, first) ← holding [ov] (getMethod ov "need_free" pl)
      callWith pos f first (backTo pos (starEach (e1 :: []) X.env)) (backToKw pos (keywordEach [] X.env))) := by rfl) : JE X (.Call (.Attribute o "need_free" apos) (e1 :: []) [] pos) σ H Q := by
  obtain ⟨dx, qa, vs, p⟩ := id hR
  refine je_methV (pl := pl) (E := E) (g_need_free (P := X.prog) (w := X.w) (base := X.base) M) hr hx ho p.at_ rfl (fun H2 s2 => ja_of (pa_cons pej pa_nil hst) (h1 H2 s2 _ fun H3 s3 => ⟨r, R, v, T, rfl, hR.on (s2.trans s3), ok, hT.on (s2.trans s3), ?_⟩)) (by omega) hst hpl ht
  cases e : idx R.cur v with
  | none =>
    rw [e] at hq
    exact Heard.on hq (s2.trans s3)
  | some i =>
    rw [e] at hq
    have hq : if isFree (bzAt R.cur i) = true then ∀ H', Same H H' → Q .non H' else Heard X.K "Busy" v H E := hq
    show if isFree (bzAt R.cur i) = true then _ else _
    cases hf : isFree (bzAt R.cur i) with
    | true =>
      rw [if_pos hf] at hq
      rw [if_pos rfl]
      exact fun H' s' => hq H' ((s2.trans s3).trans s')
    | false =>
      rw [if_neg (by rw [hf]; decide)] at hq
      rw [if_neg (by decide)]
      exact Heard.on hq (s2.trans s3)
def okQ (K : PySem.W.Frag) (H : Hp) (r : Addr) (R : RD) (Q : VK) (S : SD) : Prop := SOk S ∧ ∀ H', SameX r H H' → RecAt K H' r (R.add S) → Q (.int (most (recS S))) H'
def spWr (K : PySem.W.Frag) : Sp := fun vs H Q E => ∃ r R h nm T T2, vs = [.ref r, h, nm] ∧ RecAt K H r R ∧ RdOk R ∧ Th H h T ∧ Th H nm T2 ∧ AnsP K H E (okQ K H r R Q) (wrA R.cur h nm (R.now : Nat))
def spRd (K : PySem.W.Frag) : Sp := fun vs H Q E => ∃ r R h T, vs = [.ref r, h] ∧ RecAt K H r R ∧ RdOk R ∧ Th H h T ∧ AnsP K H E (okQ K H r R Q) (rdA R.cur h (R.now : Nat))
def spDn (K : PySem.W.Frag) : Sp := fun vs H Q E => ∃ r R h nm T T2, vs = [.ref r, h, nm] ∧ RecAt K H r R ∧ RdOk R ∧ Th H h T ∧ Th H nm T2 ∧ AnsP K H E (okQ K H r R Q) (dnA R.cur h nm (R.now : Nat))
/-- return self.go_on((..), later) -/
theorem js_go {X : Cx} {o e2 : Expr} {es : List Expr} {σ : L2.St} {H : Hp} {D : Ends} {pos apos tpos rpos : Pos} {kt : Nat} {r : Addr} {R : RD} {S : SD} {n : Nat} {pl : Sem Bool} (M : Mo X.K X.mg) (hr : Room (n + 9) X.A) (ho : JV X o σ H (.ref r)) (hR : RecAt X.K H r R) (ok : RdOk R) (ht : ∀ H1, Same H H1 → JA X es σ H1 fun vs H2 => Same H1 H2 ∧ vs.length ≤ 1000)
    (h2 : JSt X e2 σ H S) (hq : okQ X.K H r R D.rt S) (hst : starEach (.Tuple es kt tpos :: [e2]) X.env = (false, eval (.Tuple es kt tpos) X.env) :: starEach [e2] X.env := by rfl) (hst2 : starEach [e2] X.env = (false, eval e2 X.env) :: starEach [] X.env := by rfl) (hpl : (backTo pos (starEach [e2] X.env)).any (·.1) = false := by rfl)
    (hev : eval (.Call (.Attribute o "go_on" apos) (.Tuple es kt tpos :: [e2]) [] pos) X.env = (do
      let ov ← eval o X.env
      standAt apos.atName
      let (f, first) ← holding [ov] (getMethod ov "go_on" pl)
      callWith pos f first (backTo pos (starEach (.Tuple es kt tpos :: [e2]) X.env)) (backToKw pos (keywordEach [] X.env))) := by rfl) : JS X (.Return (some (.Call (.Attribute o "go_on" apos) (.Tuple es kt tpos :: [e2]) [] pos)) rpos) D σ H := by
  obtain ⟨dx, qa, vs, p⟩ := id hR
  refine js_ret (je_methV (pl := pl) (E := E0) (g_go_on (P := X.prog) (w := X.w) (base := X.base) M) hr passL ho p.at_ rfl (fun H2 s2 => ja_of (pa_cons pej (pa_cons pej pa_nil hst2) hst) (je_of (pe_tup paj) (JA.mono (ht H2 s2) fun us H3 ⟨s3, hu⟩ => ⟨small1 (by omega), fun t hn => h2 _ ((s2.trans s3).trans (same_new hn)) _ fun y H4 s4 hy => ?_⟩))) (by omega) hst hpl hev)
  have s04 := ((s2.trans s3).trans (same_new (o := .tup us) hn)).trans s4
  exact ⟨r, R, _, y, S, rfl, hR.on s04, ok, hy, hq.1, fun H' sx hR' => hq.2 H' (sx_trans (same_sx s04) sx) hR'⟩
theorem S_Recorder_write : FnScope ["self", "hand", "name"] ["self", "hand", "name"] (defScope s_Recorder_write) := ⟨rfl, rfl, rfl, by decide +kernel, rfl, by decide +kernel, by decide +kernel⟩
theorem S_Recorder_read : FnScope ["self", "hand"] ["self", "hand"] (defScope s_Recorder_read) := ⟨rfl, rfl, rfl, by decide +kernel, rfl, by decide +kernel, by decide +kernel⟩
theorem g_read (M : Mx P K mg) : MtG P w K mg base 10 "Recorder" "read" ["self", "hand"] (spRd K) := by
  refine mtg M.m_Recorder_read M.c_Recorder M.t_Recorder_read S_Recorder_read (fun vs H Q E ⟨r, R, h, T, e, _⟩ => by rw [e]; rfl) (fun f cdv A outer s H vs Q E hr ⟨r, R, h, T, e, hR, ok, hT, q⟩ => ?_) (fun _ _ _ _ _ _ us hl => match us, hl with | [_, _], _ => rfl)
  subst e
  obtain ⟨tR, gR⟩ := M.s_READ
  unfold rdA at q
  refine jss_cons (js_expr (je_need_free (n := 4) M hr passE (jv_var 0 rfl) hR ok (jv_var 1 rfl) hT ?_))
  cases e : idx R.cur h with
  | none =>
    rw [e] at q
    exact q
  | some i =>
    rw [e] at q
    obtain ⟨rfl, hi⟩ := idx_some e
    show if isFree (bzAt R.cur i) = true then _ else _
    cases hf : isFree (bzAt R.cur i) with
    | false =>
      simp only [hf, Bool.false_eq_true, if_false] at q ⊢
      exact q
    | true =>
      simp only [hf, if_true] at q ⊢
      intro H1 s1
      have q : okQ K H r R Q (begunS R.cur i .r (R.now : Nat)) := q
      refine jss_one (js_go (n := 0) M.toMo hr (jv_var 0 rfl) (hR.on s1) ok (fun H2 s2 => ja_of (pa_cons pej (pa_cons pej pa_nil)) (JV.je (jv_glob (v := .str "read") gR ⟨_, rfl⟩) fun H3 s3 => JV.je (jv_var 1 rfl) fun H4 s4 => ⟨s3.trans s4, by simp⟩))
        (jst_begun (n := 5) (b := .r) (t := (R.now : Nat)) M.toMo hr (jst_stand (n := 8) M.toMo hr (jv_var 0 rfl) (hR.on s1) ok) ok.cur hi (jv_var 1 rfl) (jv_glob (v := .str "read") gR ⟨_, rfl⟩) jv_non (jv_now (n := 8) M.toMo hr (jv_var 0 rfl) (hR.on s1) ok)) ⟨q.1, fun H' sx hR' => q.2 H' (sx_trans (same_sx s1) sx) hR'⟩)
theorem g_write (M : Mx P K mg) : MtG P w K mg base 10 "Recorder" "write" ["self", "hand", "name"] (spWr K) := by
  refine mtg M.m_Recorder_write M.c_Recorder M.t_Recorder_write S_Recorder_write (fun vs H Q E ⟨r, R, h, nm, T, T2, e, _⟩ => by rw [e]; rfl) (fun f cdv A outer s H vs Q E hr ⟨r, R, h, nm, T, T2, e, hR, ok, hT, hT2, q⟩ => ?_) (fun _ _ _ _ _ _ us hl => match us, hl with | [_, _, _], _ => rfl)
  subst e
  obtain ⟨tW, gW⟩ := M.s_WRITE
  unfold wrA at q
  refine jss_cons (js_expr (je_need_free (n := 4) M hr passE (jv_var 0 rfl) hR ok (jv_var 1 rfl) hT ?_))
  cases e : idx R.cur h with
  | none =>
    rw [e] at q
    exact q
  | some i =>
    rw [e] at q
    obtain ⟨rfl, hi⟩ := idx_some e
    show if isFree (bzAt R.cur i) = true then _ else _
    cases hf : isFree (bzAt R.cur i) with
    | false =>
      simp only [hf, Bool.false_eq_true, if_false] at q ⊢
      exact q
    | true =>
      simp only [hf, if_true] at q ⊢
      intro H1 s1
      have q : AnsP K H E (okQ K H r R Q) (if badName R.cur nm = true then .bad nm else .ok (begunS R.cur i (.w (toI nm)) (R.now : Nat))) := q
      refine jss_cons (js_ifB (k := badName R.cur nm) (jb_of (jw_or (jb_not (jb_val (je_is_name (n := 6) M.toMo hr (jv_var 2 rfl) (hT2.on s1)))) fun hb => ?_)) (fun hb H2 s2 => ?_) fun hb H2 s2 => ?_)
      · cases nm with
        | int m => exact jw_or1 (jb_din hr (jv_var 2 rfl).int (jm_begins M.toMo (jst_stand (n := 8) M.toMo hr (jv_var 0 rfl) (hR.on s1) ok)))
        | _ => cases hb
      · rw [if_pos hb] at q
        have q : Heard K "BadNumber" nm H E := q
        exact jss_one (js_bad (n := 6) M rfl (takes_of rfl rfl rfl rfl) hr (jv_var 2 rfl) fun d H' s' n hd => q d H' ((s1.trans s2).trans s') (same_none (s1.trans s2) n) hd)
      · rw [if_neg (by rw [hb]; decide)] at q
        have q : okQ K H r R Q (begunS R.cur i (.w (toI nm)) (R.now : Nat)) := q
        have hnm : nm = .int (toI nm) := by
          cases nm with
          | int m => rfl
          | _ => cases hb
        have s02 := s1.trans s2
        refine jss_nil (jss_one (js_go (n := 0) M.toMo hr (jv_var 0 rfl) (hR.on s02) ok (fun H2 s2 => ja_of (pa_cons pej (pa_cons pej (pa_cons pej pa_nil))) (JV.je (jv_glob (v := .str "write") gW ⟨_, rfl⟩) fun H3 s3 => JV.je (jv_var 1 rfl) fun H4 s4 => JV.je (jv_var 2 rfl) fun H5 s5 => ⟨(s3.trans s4).trans s5, by simp⟩))
          (jst_begun (n := 5) (b := .w (toI nm)) (t := (R.now : Nat)) M.toMo hr (jst_stand (n := 8) M.toMo hr (jv_var 0 rfl) (hR.on s02) ok) ok.cur hi (jv_var 1 rfl) (jv_glob (v := .str "write") gW ⟨_, rfl⟩) (jv_var 2 (by rw [hnm]; rfl)) (jv_now (n := 8) M.toMo hr (jv_var 0 rfl) (hR.on s02) ok)) ⟨q.1, fun H' sx hR' => q.2 H' (sx_trans (same_sx s02) sx) hR'⟩))
end
end K28
-- KRep
/-! KRep: t * 1 is t. -/
namespace K28
open PySem PySem.Spec PyProof.Rows L2
theorem tuple_mul1 (l : Addr) (items : Array Value) (n : Nat) (dd : Option Addr) (sl : Array (Option Value)) (u : Tok) :
    Meets (Builtin.«tuple.__mul__» ⟨[.ref l, .int 1 u], []⟩) (fun _ R s => s.heap.get? l = some { cls := .type "tuple", dict := dd, data := .seq items n, slots := sl } ∧ R (.ok (.ret (Value.ref l))) s) :=
  .of_wp fun prog w A R s h => by
    obtain ⟨hp, g, d, tk, os⟩ := s
    obtain ⟨hl, h⟩ := h
    have f1 := AutoSeq1.idx_int
    have hT : Shared.TypeIs ⟨hp, g, d, tk, os⟩ (.ref l) "tuple" := ⟨_, hl, rfl⟩
    wp_walk using wpAny_loadPart' hl
    repeat (first
      | (refine wpAny_ite_false (by decide) ?_; wp_walk using wpAny_loadPart' hl)
      | (refine wpAny_ite_true (by first | decide | (rw [Bool.or_true])) ?_; wp_walk using wpAny_loadPart' hl))
    all_goals exact ⟨_, rfl, h⟩
/-- t * 1 -/
def rRep1 (K : PySem.W.Frag) : R2 := fun x y H Q => ∃ l xs, x = .ref l ∧ y = .int 1 ∧ SqT K H l xs ∧ xs ≠ [] ∧ Q (.ref l) H
theorem op_rep1 {X : Cx} : OpR X (binaryOp .Mult) (rRep1 X.K) := by
  intro pins s σ H x y v u Q I rx ry h
  obtain ⟨l, xs, rfl, rfl, hT, hne, q⟩ := h
  cases rx
  obtain ⟨t, rfl⟩ := ry
  obtain ⟨its, r, ⟨⟨cls, dd, data, sl⟩, ho, hc, n, hd⟩, hs⟩ := I.tuple hT
  simp only at hc hd
  subst hc hd
  exact wpAny_binaryOp_repeat_ref (T := "tuple") (U := "int") (by decide) ⟨_, ho, rfl⟩ (fun s' => typeIs_int s' 1 t) noFill_tuple_mul F.fills_int_mul F.slot_int_rmul repeat_tuple F.slot_int_index.lookup
    (call_meets F.slot_int_rmul (typeIs_int s 1 t) F.entry_int_rmul (F.args_int_rmul_2 _ _) (int_rmul_tuple 1 t l its.toArray n dd sl)
      ⟨ho, rfl, ⟨_, ho, rfl⟩, call_meets F.slot_tuple_mul ⟨_, ho, rfl⟩ F.entry_tuple_mul (F.args_tuple_mul_2 _ _) (tuple_mul1 l its.toArray n dd sl t) ⟨ho, ⟨.ref l, H, I, rfl, q⟩⟩⟩)
end K28
-- KD9
/-! KD9: done, the questions, the making of a recorder. -/
namespace K28
open PySem PySem.Spec PyProof.Rows L2
section
variable {P : Program} {w : World} {K : PySem.W.Frag} {mg : Str → Option Value} {base : Heap}
theorem je_need_hand {X : Cx} {o e1 : Expr} {σ : L2.St} {H : Hp} {pos apos : Pos} {r : Addr} {R : RD} {v : V} {T : String} {n : Nat} {E : XK} {Q : VK} {pl : Sem Bool} (M : Mx X.prog X.K X.mg) (hr : Room (n + 4) X.A) (hx : Passes (L2.CX X.prog X.w) X E) (ho : JV X o σ H (.ref r)) (hR : RecAt X.K H r R) (ok : RdOk R) (h1 : JV X e1 σ H v) (hT : Th H v T)
    (hq : match idx R.cur v with | none => Heard X.K "BadNumber" v H E | some _ => ∀ H', Same H H' → Q .non H') (hst : starEach (e1 :: []) X.env = (false, eval e1 X.env) :: starEach [] X.env := by rfl) (hpl : (backTo pos (starEach [] X.env)).any (·.1) = false := by rfl)
    (ht : eval (.Call (.Attribute o "need_hand" apos) (e1 :: []) [] pos) X.env = (do
      let ov ← eval o X.env
      standAt apos.atName
      let (f, first) ← holding [ov] (getMethod ov "need_hand" pl)
      callWith pos f first (backTo pos (starEach (e1 :: []) X.env)) (backToKw pos (keywordEach [] X.env))) := by rfl) : JE X (.Call (.Attribute o "need_hand" apos) (e1 :: []) [] pos) σ H Q := by
  obtain ⟨dx, qa, vs, p⟩ := id hR
  refine je_methV (pl := pl) (E := E) (g_need_hand (P := X.prog) (w := X.w) (base := X.base) M) hr hx ho p.at_ rfl (fun H2 s2 => ja_of (pa_cons pej pa_nil hst) (h1 H2 s2 _ fun H3 s3 => ⟨r, R, v, T, rfl, hR.on (s2.trans s3), ok, hT.on (s2.trans s3), ?_⟩)) (by omega) hst hpl ht
  cases e : idx R.cur v with
  | none =>
    rw [e] at hq
    exact Heard.on hq (s2.trans s3)
  | some i =>
    rw [e] at hq
    exact fun H' s' => hq H' ((s2.trans s3).trans s')
theorem S_Recorder_done : FnScope ["self", "hand", "name", "busy"] ["self", "hand", "name"] (defScope s_Recorder_done) := ⟨rfl, rfl, rfl, by decide +kernel, rfl, by decide +kernel, by decide +kernel⟩
theorem scal_str (a b : Str) : scal (.str a) (.str b) = true := rfl
theorem g_done (M : Mx P K mg) : ∃ fd, FnOk P w K mg base (L2.CX P w) 10 (He.ma K (He.ga K "Recorder") "done") fd ["self", "hand", "name"] (spDn K) ∧ Binds K fd ["self", "hand", "name"] [] ∧ ∃ ds, Vals [V.non] ds ∧ Binds K fd ["self", "hand", "name"] ds := by
  obtain ⟨fd, F⟩ := M.m_Recorder_done.df
  refine ⟨fd, fnj F S_Recorder_done (fun vs H Q E ⟨r, R, h, nm, T, T2, e, _⟩ => by rw [e]; rfl) (fun cdv A outer s H vs Q E hr ⟨r, R, h, nm, T, T2, e, hR, ok, hT, hT2, q⟩ => ?_), ?_, ?_⟩
  · subst e
    obtain ⟨tW, gW⟩ := M.s_WRITE
    unfold dnA at q
    refine jss_cons (js_expr (je_need_hand (n := 5) M hr passE (jv_var 0 rfl) hR ok (jv_var 1 rfl) hT ?_))
    cases e : idx R.cur h with
    | none =>
      rw [e] at q
      exact q
    | some i =>
      rw [e] at q
      obtain ⟨rfl, hi⟩ := idx_some e
      intro H1 s1
      refine jss_set 3 S_Recorder_done.nd (jd_ixT (jd_busy M.toMo (jst_stand (n := 8) M.toMo hr (jv_var 0 rfl) (hR.on s1) ok)) (jv_var 1 rfl).int (busy_at (bz_at hi))) fun u H2 s2 hu => ?_
      have s02 := s1.trans s2
      have okc := ok.cur
      have tail : ∀ {en : En} {H3 : Hp}, bzAt R.cur i = en.z → (∀ b m, en = En.r b m → nm = .int m) → Same H H3 → okQ K H r R Q (endedS R.cur i en (R.now : Nat)) →
          JSs (cxOf (L2.CX P w) P w K mg base ["self", "hand", "name", "busy"] "Recorder.done" (defScope s_Recorder_done) (He.ma K (He.ga K "Recorder") "done") cdv A outer s H E) ((defBody s_Recorder_done).drop 4) { nx := fun _ H' => Q .non H', rt := Q } [some (.ref r), some (.int (i : Nat)), some nm, some u] H3 := fun {en H3} hz hn s3 hq =>
        jss_one (js_go (n := 0) M.toMo hr (jv_var 0 rfl) (hR.on s3) ok (fun H2 s2 => ja_of (pa_cons pej (pa_cons pej (pa_cons pej pa_nil))) (JV.je jv_str fun H3 s3 => JV.je (jv_var 1 rfl) fun H4 s4 => JV.je (jv_var 2 rfl) fun H5 s5 => ⟨(s3.trans s4).trans s5, by simp⟩))
          (jst_ended (n := 5) (en := en) M.toMo hr (jst_stand (n := 8) M.toMo hr (jv_var 0 rfl) (hR.on s3) ok) okc (by rw [bz_at hi, hz]) hn (jv_var 1 rfl) (jv_var 2 rfl) (jv_now (n := 8) M.toMo hr (jv_var 0 rfl) (hR.on s3) ok)) ⟨hq.1, fun H' sx hR' => hq.2 H' (sx_trans (same_sx s3) sx) hR'⟩)
      cases hz : bzAt R.cur i with
      | free =>
        simp only [hz] at q
        rw [hz] at hu
        cases hu
        have q : Heard K "Idle" (.int (i : Nat)) H E := q
        refine jss_cons (js_ifT (by
          have e : decide (V.non = V.non) = true := by decide
          rw [← e]
          exact jb_isN (jv_var 3 rfl)) fun H3 s3 => ?_)
        exact jss_one (js_idle (n := 6) M rfl (takes_of rfl rfl rfl rfl) hr (jv_var 1 rfl) fun d H' s' n hd => q d H' ((s02.trans s3).trans s') (same_none (s02.trans s3) n) hd)
      | wr n b =>
        simp only [hz] at q
        rw [hz] at hu
        have hun : decide (u = V.non) = false := by cases hu; rfl
        refine jss_cons (js_ifF (by
          rw [← hun]
          exact jb_isN (jv_var 3 rfl)) fun H3 s3 => jss_nil ?_)
        have s03 := s02.trans s3
        have hut : Dp K H3 u (.tuple [.str "write", .int n, .int b]) := hu.on s3
        refine jss_cons (js_ifT (by
          have e : decide (V.str "write" = V.str "write") = true := by decide
          rw [← e]
          exact jb_eqS (JD.sv (jd_ixT (jd_var 3 rfl hut) jd_int atI0)) (jv_glob (v := .str "write") gW ⟨_, rfl⟩) rfl) fun H4 s4 => ?_)
        have s04 := s03.trans s4
        by_cases hn : nm = .non
        · rw [if_pos hn] at q
          refine jss_one (js_ifF (by
            have e : (!decide (nm = V.non)) = false := by rw [decide_eq_true hn]; rfl
            rw [← e]
            exact jb_notN (jv_var 2 rfl)) fun H5 s5 => jss_nil (tail (en := .w n b) hz (fun _ _ z => nomatch z) (s04.trans s5) q))
        · rw [if_neg hn] at q
          have q : Heard K "BadNumber" nm H E := q
          refine jss_one (js_ifT (by
            have e : (!decide (nm = V.non)) = true := by rw [decide_eq_false hn]; rfl
            rw [← e]
            exact jb_notN (jv_var 2 rfl)) fun H5 s5 => jss_one (js_bad (n := 6) M rfl (takes_of rfl rfl rfl rfl) hr (jv_var 2 rfl) fun d H' s' n hd => q d H' ((s04.trans s5).trans s') (same_none (s04.trans s5) n) hd))
      | rd b =>
        simp only [hz] at q
        rw [hz] at hu
        have hun : decide (u = V.non) = false := by cases hu; rfl
        refine jss_cons (js_ifF (by
          rw [← hun]
          exact jb_isN (jv_var 3 rfl)) fun H3 s3 => jss_nil ?_)
        have s03 := s02.trans s3
        have hut : Dp K H3 u (.tuple [.str "read", .none, .int b]) := hu.on s3
        refine jss_cons (js_ifF (by
          have e : decide (V.str "read" = V.str "write") = false := by decide
          rw [← e]
          exact jb_eqS (JD.sv (jd_ixT (jd_var 3 rfl hut) jd_int atI0)) (jv_glob (v := .str "write") gW ⟨_, rfl⟩) rfl) fun H4 s4 => ?_)
        have s04 := s03.trans s4
        refine jss_one (js_ifB (jb_not (jb_val (jd_has_room (n := 7) M.toMo hr (jst_stand (n := 8) M.toMo hr (jv_var 0 rfl) (hR.on s04) ok) okc (jv_var 2 rfl) (hT2.on s04)))) (fun hb H5 s5 => ?_) fun hb H5 s5 => ?_)
        · have hb : hasR R.cur nm = false := by simpa using hb
          rw [if_neg (by rw [hb]; decide)] at q
          have q : Heard K "BadNumber" nm H E := q
          exact jss_one (js_bad (n := 6) M rfl (takes_of rfl rfl rfl rfl) hr (jv_var 2 rfl) fun d H' s' n hd => q d H' ((s04.trans s5).trans s') (same_none (s04.trans s5) n) hd)
        · have hb : hasR R.cur nm = true := by simpa using hb
          rw [if_pos hb] at q
          have hnm : nm = .int (toI nm) := by
            cases nm with
            | int m => rfl
            | _ => cases hb
          exact jss_nil (tail (en := .r b (toI nm)) hz (fun _ _ z => by cases z; exact hnm) (s04.trans s5) q)
  · obtain ⟨ds, h1, h2⟩ := FunD.binds1 (ps := ["self", "hand", "name"]) F 3 1 (by simp) rfl (fun T kV doc pm an cdv ct us its hu hi => match us, its, hu, hi with | [_, _, _], [_], _, _ => ⟨_, rfl, rfl⟩)
    cases h1
    exact h2
  · exact FunD.binds1 (ps := ["self", "hand", "name"]) F 2 0 (by simp) rfl (fun T kV doc pm an cdv ct us its hu hi => match us, its, hu, hi with | [_, _], [_], _, _ => ⟨_, rfl, rfl⟩)
end
end K28
-- KD3
/-! KD3: the law's zones and crowds. -/
namespace K28
open PySem PySem.Spec PyProof.Rows L2
/-! ### plain -/
def lodd (v u : Vl) : Bool := decide (nr v < fr u) && decide (nr u < fr v)
def fits (vals : List Vl) (u : Vl) (row : List Nat) : Bool := row.all fun j => lodd (at_ vals j) u
def later (vals : List Vl) (cases : List (List Nat)) (z : Vl × Nat) : List (List Nat) := (cases.filter (fits vals z.1)).map (· ++ [z.2])
def lens (l : List (List Nat)) : List Int := l.map fun row => (row.length : Int)
def crowdStep (vals : List Vl) (s : List (List Nat) × Int) (z : Vl × Nat) : List (List Nat) × Int := (s.1 ++ later vals s.1 z, maxL s.2 (lens (later vals s.1 z)))
def crowdUpTo (vals : List Vl) (i : Nat) : List (List Nat) × Int := (vals.zipIdx.take i).foldl (crowdStep vals) ([[]], 0)
def lawCrowd (vals : List Vl) : Int := (vals.zipIdx.foldl (crowdStep vals) ([[]], 0)).2
theorem crowd_succ {vals : List Vl} {i : Nat} (h : i < vals.length) : crowdUpTo vals (i + 1) = crowdStep vals (crowdUpTo vals i) (at_ vals i, i) := by
  have e : vals.zipIdx[i]? = some (at_ vals i, i) := by
    simp [at_, List.getD, h]
  unfold crowdUpTo
  rw [List.take_add_one, e, List.foldl_append]
  rfl
theorem crowd_all (vals : List Vl) : crowdUpTo vals vals.length = vals.zipIdx.foldl (crowdStep vals) ([[]], 0) := by
  unfold crowdUpTo
  rw [List.take_of_length_le (by rw [List.length_zipIdx]; exact Nat.le_refl _)]
theorem cases_len (vals : List Vl) : ∀ i, i ≤ vals.length → (crowdUpTo vals i).1.length ≤ 2 ^ i
  | 0, _ => by simp [crowdUpTo]
  | i + 1, h => by
    rw [crowd_succ (by omega)]
    have q := cases_len vals i (by omega)
    have f := List.length_filter_le (fits vals (at_ vals i)) (crowdUpTo vals i).1
    have e : (crowdStep vals (crowdUpTo vals i) (at_ vals i, i)).1.length = (crowdUpTo vals i).1.length + ((crowdUpTo vals i).1.filter (fits vals (at_ vals i))).length := by
      show (_ ++ later _ _ _).length = _
      rw [List.length_append]
      unfold later
      rw [List.length_map]
    rw [e, Nat.pow_succ]
    omega
theorem cases_row (vals : List Vl) : ∀ i, i ≤ vals.length → ∀ row ∈ (crowdUpTo vals i).1, row.length ≤ i ∧ ∀ j ∈ row, j < vals.length
  | 0, _, row, hr => by
    have : row = [] := by simpa [crowdUpTo] using hr
    subst this
    simp
  | i + 1, h, row, hr => by
    rw [crowd_succ (by omega)] at hr
    have ih := cases_row vals i (by omega)
    rcases List.mem_append.mp hr with hr | hr
    · obtain ⟨h1, h2⟩ := ih row hr
      exact ⟨by omega, h2⟩
    · obtain ⟨r, h1, h2⟩ := List.mem_map.mp hr
      subst h2
      obtain ⟨h3, h4⟩ := ih r (List.mem_filter.mp h1).1
      refine ⟨by simp; omega, fun j hj => ?_⟩
      rcases List.mem_append.mp hj with hj | hj
      · exact h4 j hj
      · have : j = i := by simpa using hj
        omega
def pRow (row : List Nat) : PyData := .tuple (row.map pN)
theorem lf_pRow (row : List Nat) : lf (pRow row) = true := by unfold pRow lf; exact lfs_map fun _ _ => rfl
theorem can_map {α : Type} {f : α → PyData} : ∀ {l : List α}, (∀ x ∈ l, (f x).canLay0 = true) → PyData.canLayAll0 (l.map f) = true
  | [], _ => rfl
  | x :: l, h => by
    rw [List.map_cons, PyData.canLayAll0, h x List.mem_cons_self, can_map fun y hy => h y (List.mem_cons_of_mem _ hy)]
    rfl
theorem dep_map {α : Type} {f : α → PyData} {n : Nat} : ∀ {l : List α}, (∀ x ∈ l, (f x).depth ≤ n) → PyData.depthAll (l.map f) ≤ n
  | [], _ => by rw [List.map_nil, PyData.depthAll]; exact Nat.zero_le _
  | x :: l, h => by
    rw [List.map_cons, PyData.depthAll]
    have h1 := h x List.mem_cons_self
    have h2 := dep_map (n := n) fun y hy => h y (List.mem_cons_of_mem _ hy)
    omega
theorem shaped_lst {α : Type} {f : α → PyData} {l : List α} (h : ∀ x ∈ l, (f x).canLay0 = true ∧ (f x).depth ≤ 20) : SeqAt.shaped (.list (l.map f)) = true := by
  unfold SeqAt.shaped
  rw [PyData.canLay0, can_map fun x hx => (h x hx).1, Bool.true_and, PyData.depth]
  have := dep_map (n := 20) fun x hx => (h x hx).2
  exact decide_eq_true (by omega)
theorem shaped_tup {α : Type} {f : α → PyData} {l : List α} (h : ∀ x ∈ l, (f x).canLay0 = true ∧ (f x).depth ≤ 20) : SeqAt.shaped (.tuple (l.map f)) = true := by
  unfold SeqAt.shaped
  rw [PyData.canLay0, can_map fun x hx => (h x hx).1, Bool.true_and, PyData.depth]
  have := dep_map (n := 20) fun x hx => (h x hx).2
  exact decide_eq_true (by omega)
theorem shaped_ints (l : List Int) : SeqAt.shaped (.list (l.map PyData.int)) = true := shaped_lst fun x _ => ⟨by simp [PyData.canLay0], by simp [PyData.depth]⟩
theorem shaped_intsT (l : List Int) : SeqAt.shaped (.tuple (l.map PyData.int)) = true := shaped_tup fun x _ => ⟨by simp [PyData.canLay0], by simp [PyData.depth]⟩
theorem isEmpty_map {α β : Type} (f : α → β) (l : List α) : (l.map f).isEmpty = l.isEmpty := by cases l <;> rfl
theorem filter_empty {α : Type} (p : α → Bool) : ∀ l : List α, (l.filter fun x => !p x).isEmpty = l.all p
  | [] => rfl
  | x :: l => by
    rw [List.filter_cons, List.all_cons]
    cases h : p x
    · simp
    · simpa using filter_empty p l
section
variable {P : Program} {w : World} {K : PySem.W.Frag} {mg : Str → Option Value} {base : Heap}
theorem S_law_calls : FnScope ["_law_value_so"] ["_law_value_so"] (defScope s_law_calls) := ⟨rfl, rfl, rfl, by decide +kernel, rfl, by decide +kernel, by decide +kernel⟩
theorem g_law_calls (M : Mo K mg) : FnG P w K mg base 1 "_law_calls" ["_law_value_so"] (spV K fun v => .list ((v.1 :: v.2).map pC)) := by
  refine fng M.d_law_calls S_law_calls (spP_len fun _ => rfl) (fun f cdv A outer s H vs Q E hr ⟨v, hp, ha, q⟩ => ?_) (fun _ _ _ _ _ _ us hl => match us, hl with | [_], _ => rfl)
  match vs, ha with
  | [v0], .cons h1 .nil =>
    exact jss_one (js_ret ((JL.jd (jl_cat (jl_lst (ds := [pC v.1]) (jds_cons (jd_ixT (jd_var 0 rfl h1) jd_int atI0) jds_nil) (small1 (by simp))).jr (JL.jr (jl_list1T M.f_list (jd_ixT (jd_var 0 rfl h1) jd_int atI1))) (by simp; exact small1 (by omega)))).je fun v' H' s' hv => q _ H' s' hv))
theorem S_law_zone : FnScope ["_law_value_so", "_law_calls_here", "_law_begin_here", "_law_end"] ["_law_value_so"] (defScope s_law_zone) := ⟨rfl, rfl, rfl, by decide +kernel, rfl, by decide +kernel, by decide +kernel⟩
theorem g_law_zone (M : Mo K mg) : FnG P w K mg base 2 "_law_zone" ["_law_value_so"] (spV K fun v => pC (nr v, fr v)) := by
  refine fng M.d_law_zone S_law_zone (spP_len fun _ => rfl) (fun f cdv A outer s H vs Q E hr ⟨v, hp, ha, q⟩ => ?_) (fun _ _ _ _ _ _ us hl => match us, hl with | [_], _ => rfl)
  match vs, ha with
  | [v0], .cons h1 .nil =>
    refine jss_set 1 S_law_zone.nd (jd_call (g_law_calls M) hr v hp (jds_cons (jd_var 0 rfl h1) jds_nil)) fun l H1 s1 hl => ?_
    refine jss_one (js_ret ((jd_tup (ds := [.int (nr v), .int (fr v)]) (jds_cons (jd_min (ns := v.1.2 :: v.2.map (·.2)) (m := nr v) rfl M.f_min (JL.jd (jl_lc2 (xs := v.1 :: v.2) (d1 := fun c => .int c.1) (d2 := fun c => .int c.2) (pr := fun _ => true) (r := fun c => PyData.int c.2) 2 3 rfl S_law_zone.nd (blkOk_by (own := [("_law_begin_here", 2), ("_law_end", 3)]) rfl)
      (jdi_list (jd_var 1 rfl hl)) (by simp; exact small1 (by omega)) (by rw [filter_yes, List.map_cons, List.map_cons, List.map_map]; rfl) (fun c _ u v H2 s2 hu hv s0 H0 C cl fp => ⟨jbs_nil, fun _ => jd_var 3 rfl hv⟩))) (by simp) (fun k h1 h2 => minL_only h1 h2))
      (jds_cons (jd_max (ns := v.1.1 :: v.2.map (·.1)) (m := fr v) rfl M.f_max (JL.jd (jl_lc2 (xs := v.1 :: v.2) (d1 := fun c => .int c.1) (d2 := fun c => .int c.2) (pr := fun _ => true) (r := fun c => PyData.int c.1) 2 3 rfl S_law_zone.nd (blkOk_by (own := [("_law_begin_here", 2), ("_law_end", 3)]) rfl)
      (jdi_list (jd_var 1 rfl hl)) (by simp; exact small1 (by omega)) (by rw [filter_yes, List.map_cons, List.map_cons, List.map_map]; rfl) (fun c _ u v H2 s2 hu hv s0 H0 C cl fp => ⟨jbs_nil, fun _ => jd_var 2 rfl hu⟩))) (by simp) (fun k h1 h2 => maxL_only h1 h2)) jds_nil)) (small1 (by simp))).je fun v' H' s' hv => q _ H' (s1.trans s') hv))
def spVV (K : PySem.W.Frag) (res : Vl × Vl → Bool) : Sp := spP K (fun z : Vl × Vl => [pV z.1, pV z.2]) (fun z => .bool (res z)) (fun z => z.1.2.length ≤ 1000 ∧ z.2.2.length ≤ 1000)
theorem S_law_forced : FnScope ["_law_one", "_law_far"] ["_law_one", "_law_far"] (defScope s_law_forced) := ⟨rfl, rfl, rfl, by decide +kernel, rfl, by decide +kernel, by decide +kernel⟩
theorem S_law_odd : FnScope ["_law_one", "_law_far"] ["_law_one", "_law_far"] (defScope s_law_odd) := ⟨rfl, rfl, rfl, by decide +kernel, rfl, by decide +kernel, by decide +kernel⟩
theorem g_law_forced (M : Mo K mg) : FnG P w K mg base 3 "_law_forced" ["_law_one", "_law_far"] (spVV K fun z => decide (nr z.1 < fr z.2)) := by
  refine fng M.d_law_forced S_law_forced (spP_len fun _ => rfl) (fun f cdv A outer s H vs Q E hr ⟨z, ⟨hp, hp2⟩, ha, q⟩ => ?_) (fun _ _ _ _ _ _ us hl => match us, hl with | [_, _], _ => rfl)
  obtain ⟨v0, v1, rfl, h1, h2⟩ := dpa2 ha
  exact jss_one (js_ret ((jd_lt (jd_ixT (ds := [.int (nr z.1), .int (fr z.1)]) (jd_call (g_law_zone M) hr z.1 hp (jds_cons (jd_var 0 rfl h1) jds_nil)) jd_int atI0) (jd_ixT (ds := [.int (nr z.2), .int (fr z.2)]) (jd_call (g_law_zone M) hr z.2 hp2 (jds_cons (jd_var 1 rfl h2) jds_nil)) jd_int atI1)).je fun v' H' s' hv => q _ H' s' hv))
theorem g_law_odd (M : Mo K mg) : FnG P w K mg base 4 "_law_odd" ["_law_one", "_law_far"] (spVV K fun z => lodd z.1 z.2) := by
  refine fng M.d_law_odd S_law_odd (spP_len fun _ => rfl) (fun f cdv A outer s H vs Q E hr ⟨z, ⟨hp, hp2⟩, ha, q⟩ => ?_) (fun _ _ _ _ _ _ us hl => match us, hl with | [_, _], _ => rfl)
  obtain ⟨v0, v1, rfl, h1, h2⟩ := dpa2 ha
  exact jss_one (js_ret ((jd_and (jd_call (g_law_forced M) hr (z.1, z.2) ⟨hp, hp2⟩ (jds_cons (jd_var 0 rfl h1) (jds_cons (jd_var 1 rfl h2) jds_nil))) fun _ => jd_one (jd_call (g_law_forced M) hr (z.2, z.1) ⟨hp2, hp⟩ (jds_cons (jd_var 1 rfl h2) (jds_cons (jd_var 0 rfl h1) jds_nil)))).je fun v' H' s' hv => q _ H' s' hv))
def lawN : List Str := ["_law_values", "_law_cases", "_law_best", "_law_number", "_law_value_so", "_law_later", "_law_row", "_law_one"]
theorem S_law_crowd : FnScope ["_law_values", "_law_cases", "_law_best", "_law_number", "_law_value_so", "_law_later", "_law_row", "_law_one"] ["_law_values"] (defScope s_law_crowd) := ⟨rfl, rfl, rfl, by decide +kernel, rfl, by decide +kernel, by decide +kernel⟩
theorem two_pow (i : Nat) (h : i ≤ 12) : 2 ^ i ≤ 4096 := Nat.pow_le_pow_right (by decide) h
theorem small2 {n : Nat} (h : n ≤ 20000) : n ≤ sizeLine := by rw [sizeLine_eq]; omega
theorem jd_lenR {X : Cx} {e : Expr} {σ : L2.St} {H : Hp} {p pos : Pos} {c : List Nat} (hm : X.mg "len" = none) (ha : JD X e σ H (pRow c)) (hg : Gl X "len" := by rfl) (he : starEach [e] X.env = (false, eval e X.env) :: starEach [] X.env := by rfl) (hpl : (backTo pos (starEach [] X.env)).any (·.1) = false := by rfl) :
    JD X (.Call (.Name "len" p) [e] [] pos) σ H (.int (c.length : Int)) := by
  have := jd_lenT (p := p) hm ha hg he hpl
  rw [List.length_map] at this
  exact this
theorem g_law_crowd (M : Mo K mg) : FnG P w K mg base 5 "_law_crowd" ["_law_values"] (spP K (fun r : List Vl => [pR r]) (fun r => .int (lawCrowd r)) fun r => ROk r ∧ r.length ≤ 12) := by
  refine fng M.d_law_crowd S_law_crowd (spP_len fun _ => rfl) (fun f cdv A outer s H vs Q E hr ⟨r, ⟨hp, h12⟩, ha, q⟩ => ?_) (fun _ _ _ _ _ _ us hl => match us, hl with | [_], _ => rfl)
  match vs, ha with
  | [v0], .cons h1 .nil =>
    refine jss_par 1 2 rfl S_law_crowd.nd (JL.je (jl_lst (ds := [pRow []]) (jds_cons (jd_tup jds_nil (small1 (by simp))) jds_nil) (small1 (by simp))) fun a0 l0 H1 s1 hn0 ha0 hd0 => JV.je jv_int fun H2 s2 => ?_)
    refine jss_cons (js_for2 3 4 (fun i σ1 Hc => ∃ a vs v5 v3 v4, σ1 = [some v0, some (.ref a), some (.int (crowdUpTo r i).2), v3, v4, v5, none, none] ∧ Hc a = some (.lst vs) ∧ DpAll K Hc vs ((crowdUpTo r i).1.map pRow)) (passes_of rfl) rfl S_law_crowd.nd
      (jdi_enumT M.f_enumerate (jd_var 0 rfl (h1.on (s1.trans s2)))) (fun Hb sb => ⟨a0, l0, none, none, none, rfl, (s2.trans sb) _ _ ha0, hd0.on (s2.trans sb)⟩) ?_ ?_ ?_)
    · rintro i d1 d2 u v σ1 H3 H4 hd s3 ⟨a, vs, v5, v3, v4, e, ha, hdl⟩ s4 hu hv N hNx
      subst e
      have hd := hd
      rw [enum_zip, List.getElem?_map] at hd
      have hi : i < r.length := by
        refine Classical.byContradiction fun h => ?_
        rw [List.getElem?_eq_none (by rw [List.length_zipIdx]; omega)] at hd
        cases hd
      have ez : r.zipIdx[i]? = some (at_ r i, i) := by simp [at_, List.getD, hi]
      rw [ez] at hd
      cases hd
      cases hu
      have hl := cases_len r i (by omega)
      have hl2 := two_pow i (by omega)
      have s04 : Same H H4 := (s1.trans s2).trans (s3.trans s4)
      have rowsd : DpAll K H4 vs ((crowdUpTo r i).1.map pRow) := hdl.on s4
      refine jss_setC 5 rfl S_law_crowd.nd (ds := (later r (crowdUpTo r i).1 (at_ r i, i)).map pRow) (jlc1 (xs := (crowdUpTo r i).1) (da := pRow) (pr := fits r (at_ r i)) (r := fun row => pRow (row ++ [i])) 6 rfl S_law_crowd.nd (blkOk_by (own := [("_law_row", 6)]) rfl) (jdi_list (jr_var 1 rfl (s4 _ _ ha) rowsd).jd) (small2 (by omega)) (by unfold later; rw [List.map_map]; rfl)
        (fun row hrow u5 H5 s5 hu5 s0 H0 C cl fp => ⟨jbs_one ?_, fun _ => ?_⟩) (hlf := fun row _ _ => lf_pRow _)) fun a5 vs5 H5 s5 hn5 ha5 hd5 => ?_
      · have hrow2 := cases_row r i (by omega) row hrow
        have hr64 := hp.len
        rw [show fits r (at_ r i) row = (row.filter fun j => !lodd (at_ r j) (at_ r i)).isEmpty from (filter_empty _ _).symm, ← isEmpty_map fun _ => PyData.int 1]
        refine jb_emptyL hr (JL.jd (jl_lc1 (xs := row) (da := pN) (pr := fun j => !lodd (at_ r j) (at_ r i)) (r := fun _ => PyData.int 1) 7 rfl S_law_crowd.nd (blkOk_by (own := [("_law_one", 7)]) rfl) (jdi_tup (jd_var 6 rfl hu5)) (small1 (by omega)) rfl
          (fun j hj u6 H6 s6 hu6 s0 H0 C cl fp => ⟨jbs_one (jb_not (jb_val (jd_call (g_law_odd M) hr (at_ r j, at_ r i) ⟨hp.at_ (hrow2.2 j hj), hp.at_ hi⟩ (jds_cons (jd_rec (jd_var 0 rfl (h1.on (s04.trans (s5.trans s6)))) (jd_var 7 rfl hu6) (hrow2.2 j hj)) (jds_cons (jd_var 4 rfl (hv.on (s5.trans s6))) jds_nil))))), fun _ => jd_int⟩))) ?_
        have := shaped_lst (f := fun _ => PyData.int 1) (l := row.filter fun j => !lodd (at_ r j) (at_ r i)) (fun x _ => ⟨by simp [PyData.canLay0], by simp [PyData.depth]⟩)
        exact this
      · have hrow2 := cases_row r i (by omega) row hrow
        have e : pRow (row ++ [i]) = .tuple (row.map pN ++ [pN i]) := by unfold pRow; rw [List.map_append]; rfl
        rw [e]
        exact jd_catT (jd_var 6 rfl hu5) (jd_tup (jds_cons (jd_var 3 rfl (.int _)) jds_nil) (small1 (by simp))) (small1 (by simp; omega))
      · have la : (later r (crowdUpTo r i).1 (at_ r i, i)).length ≤ (crowdUpTo r i).1.length := by
          unfold later
          rw [List.length_map]
          exact List.length_filter_le ..
        refine jss_setL 1 S_law_crowd.nd (ds := ((crowdUpTo r i).1.map pRow) ++ (later r (crowdUpTo r i).1 (at_ r i, i)).map pRow) (jl_cat (jr_var 1 rfl ((s4.trans s5) _ _ ha) (rowsd.on s5)) (jr_var 5 rfl ha5 hd5) (by rw [List.length_map, List.length_map]; exact small2 (by omega))) fun a6 vs6 H6 s6 hn6 ha6 hd6 => ?_
        refine jss_set 2 S_law_crowd.nd (jd_max (ns := (crowdUpTo r i).2 :: lens (later r (crowdUpTo r i).1 (at_ r i, i))) (m := maxL (crowdUpTo r i).2 (lens (later r (crowdUpTo r i).1 (at_ r i, i)))) rfl M.f_max (JL.jd (jl_cat (ds := [.int (crowdUpTo r i).2]) (ds2 := (lens (later r (crowdUpTo r i).1 (at_ r i, i))).map PyData.int) (jl_lst (jds_cons (jv_var 2 rfl).int jds_nil) (small1 (by simp))).jr
          (JL.jr (jl_lc1 (xs := later r (crowdUpTo r i).1 (at_ r i, i)) (da := pRow) (pr := fun _ => true) (r := fun row => PyData.int (row.length : Int)) 6 rfl S_law_crowd.nd (blkOk_by (own := [("_law_row", 6)]) rfl) (jdi_list (jr_var 5 rfl (s6 _ _ ha5) (hd5.on s6)).jd) (small2 (by omega)) (by rw [filter_yes]; unfold lens; rw [List.map_map]; rfl)
            (fun row _ u7 H7 s7 hu7 s0 H0 C cl fp => ⟨jbs_nil, fun _ => jd_lenR M.f_len (jd_var 6 rfl hu7)⟩))) (by unfold lens; simp only [List.length_map, List.length_cons, List.length_nil]; exact small2 (by omega)))) (by simp) (fun k k1 k2 => maxL_only k1 k2)) fun v7 H7 s7 hv7 => ?_
        cases hv7
        refine jss_nil (hNx _ _ (s4.trans (s5.trans (s6.trans s7))) ⟨a6, vs6, some (.ref a5), some (.int ((i : Nat) : Int)), some v, ?_, s7 _ _ ha6, ?_⟩)
        · rw [crowd_succ hi]
          rfl
        · rw [crowd_succ hi]
          have q := hd6.on s7
          rw [← List.map_append] at q
          exact q
    · intro l d hd
      rw [enum_zip] at hd
      obtain ⟨z, _, e⟩ := at_map hd
      exact ⟨_, _, e⟩
    · rintro σ1 H3 s3 ⟨a, vs, v5, v3, v4, e, ha, hd⟩
      subst e
      rw [enumD_len, List.length_map, crowd_all]
      exact jss_one (js_ret ((jv_var 2 rfl).je fun H' s' => q _ H' (((s1.trans s2).trans s3).trans s') (.int _)))
end
end K28
-- KD10
/-! KD10: the questions. -/
namespace K28
open PySem PySem.Spec PyProof.Rows L2
def pDo : Bz → PyData
  | .free => .none
  | .wr _ _ => .str "write"
  | .rd _ => .str "read"
def spDo (K : PySem.W.Frag) : Sp := fun vs H Q E => ∃ r R v T, vs = [.ref r, v] ∧ RecAt K H r R ∧ RdOk R ∧ Th H v T ∧ (match idx R.cur v with | none => Heard K "BadNumber" v H E | some i => ∀ u H', Same H H' → Dp K H' u (pDo (bzAt R.cur i)) → Q u H')
def spNms (K : PySem.W.Frag) : Sp := fun vs H Q _ => ∃ r R, vs = [.ref r] ∧ RecAt K H r R ∧ RdOk R ∧ ∀ u H', Same H H' → Dp K H' u (pI (namesS R.cur)) → Q u H'
def spRn (K : PySem.W.Frag) : Sp := fun vs H Q _ => ∃ r R, vs = [.ref r] ∧ RecAt K H r R ∧ RdOk R ∧ ∀ u H', Same H H' → Dp K H' u (pR (recS R.cur)) → Q u H'
/-- the ticks whose answer is above k -/
def above (l : List Int) (k : Int) : List Nat := (l.zipIdx.filter fun z => decide (k < z.1)).map (·.2)
def pFirst (l : List Nat) : PyData := match l with
  | [] => .none
  | t :: _ => pN t
def RD.manys (R : RD) : List Int := (R.past.drop 1).map (·.2)
def spFb (K : PySem.W.Frag) : Sp := fun vs H Q E => ∃ r R v T, vs = [.ref r, v] ∧ RecAt K H r R ∧ RdOk R ∧ Th H v T ∧ (btw v 0 12 = false → Heard K "BadNumber" v H E) ∧ (btw v 0 12 = true → ∀ u H', Same H H' → Dp K H' u (pFirst (above R.manys (toI v))) → Q u H')
section
variable {P : Program} {w : World} {K : PySem.W.Frag} {mg : Str → Option Value} {base : Heap}
theorem S_Recorder_doing : FnScope ["self", "hand", "busy"] ["self", "hand"] (defScope s_Recorder_doing) := ⟨rfl, rfl, rfl, by decide +kernel, rfl, by decide +kernel, by decide +kernel⟩
theorem S_Recorder_names : FnScope ["self"] ["self"] (defScope s_Recorder_names) := ⟨rfl, rfl, rfl, by decide +kernel, rfl, by decide +kernel, by decide +kernel⟩
theorem S_Recorder_record_now : FnScope ["self"] ["self"] (defScope s_Recorder_record_now) := ⟨rfl, rfl, rfl, by decide +kernel, rfl, by decide +kernel, by decide +kernel⟩
theorem S_Recorder_first_beyond : FnScope ["self", "k", "some", "tick", "past"] ["self", "k"] (defScope s_Recorder_first_beyond) := ⟨rfl, rfl, rfl, by decide +kernel, rfl, by decide +kernel, by decide +kernel⟩
theorem g_doing (M : Mx P K mg) : MtG P w K mg base 5 "Recorder" "doing" ["self", "hand"] (spDo K) := by
  refine mtg M.m_Recorder_doing M.c_Recorder M.t_Recorder_doing S_Recorder_doing (fun vs H Q E ⟨r, R, v, T, h, _⟩ => by rw [h]; rfl) (fun f cdv A outer s H vs Q E hr ⟨r, R, v, T, e, hR, ok, hT, q⟩ => ?_) (fun _ _ _ _ _ _ us hl => match us, hl with | [_, _], _ => rfl)
  subst e
  refine jss_cons (js_expr (je_need_hand (n := 0) M hr passE (jv_var 0 rfl) hR ok (jv_var 1 rfl) hT ?_))
  cases e : idx R.cur v with
  | none =>
    rw [e] at q
    exact q
  | some i =>
    rw [e] at q
    obtain ⟨rfl, hi⟩ := idx_some e
    have q : ∀ u H', Same H H' → Dp K H' u (pDo (bzAt R.cur i)) → Q u H' := q
    intro H1 s1
    refine jss_set 2 S_Recorder_doing.nd (jd_ixT (jd_busy M.toMo (jst_stand (n := 3) M.toMo hr (jv_var 0 rfl) (hR.on s1) ok)) (jv_var 1 rfl).int (busy_at (bz_at hi))) fun u H2 s2 hu => ?_
    refine jss_one (js_ret (JD.je (d := pDo (bzAt R.cur i)) (jd_if (p := isFree (bzAt R.cur i)) (by rw [← bz_ne hu]; exact jb_isN (jv_var 2 rfl)) (fun hf => ?_) fun hf => ?_) fun u H3 s3 hu => q u H3 ((s1.trans s2).trans s3) hu))
    · cases hz : bzAt R.cur i with
      | free => exact jd_non
      | wr n t => rw [hz] at hf; cases hf
      | rd t => rw [hz] at hf; cases hf
    · cases hz : bzAt R.cur i with
      | free => rw [hz] at hf; cases hf
      | wr n t =>
        rw [hz] at hu
        exact jd_ixT (jd_var 2 rfl hu) jd_int atI0
      | rd t =>
        rw [hz] at hu
        exact jd_ixT (jd_var 2 rfl hu) jd_int atI0
theorem g_names (M : Mo K mg) : MtG P w K mg base 2 "Recorder" "names" ["self"] (spNms K) := by
  refine mtg M.m_Recorder_names M.c_Recorder M.t_Recorder_names S_Recorder_names (fun vs H Q E ⟨r, R, h, _⟩ => by rw [h]; rfl) (fun f cdv A outer s H vs Q E hr ⟨r, R, e, hR, ok, q⟩ => ?_) (fun _ _ _ _ _ _ us hl => match us, hl with | [_], _ => rfl)
  subst e
  exact jss_one (js_ret ((jd_tuple1 M.f_tuple (jl_namesS (n := 0) M hr (jst_stand (n := 0) M hr (jv_var 0 rfl) hR ok) ok.cur).jd).je q))
theorem g_record_now (M : Mo K mg) : MtG P w K mg base 3 "Recorder" "record_now" ["self"] (spRn K) := by
  refine mtg M.m_Recorder_record_now M.c_Recorder M.t_Recorder_record_now S_Recorder_record_now (fun vs H Q E ⟨r, R, h, _⟩ => by rw [h]; rfl) (fun f cdv A outer s H vs Q E hr ⟨r, R, e, hR, ok, q⟩ => ?_) (fun _ _ _ _ _ _ us hl => match us, hl with | [_], _ => rfl)
  subst e
  exact jss_one (js_ret ((jd_recordS (n := 0) M hr (jst_stand (n := 1) M hr (jv_var 0 rfl) hR ok) ok.cur).je q))
theorem fst_at {l : List Nat} (h : l ≠ []) : ∃ t, l.head? = some t ∧ pFirst l = pN t ∧ atI (l.map pN) 0 = some (pN t) := by
  cases l with
  | nil => exact absurd rfl h
  | cons t l => exact ⟨t, rfl, rfl, atI0⟩
theorem shaped_ns (l : List Nat) : SeqAt.shaped (.list (l.map pN)) = true := by
  rw [map_nN]
  exact shaped_lst fun x _ => ⟨by simp [PyData.canLay0], by simp [PyData.depth]⟩
theorem g_first_beyond (M : Mx P K mg) : MtG P w K mg base 5 "Recorder" "first_beyond" ["self", "k"] (spFb K) := by
  refine mtg M.m_Recorder_first_beyond M.c_Recorder M.t_Recorder_first_beyond S_Recorder_first_beyond (fun vs H Q E ⟨r, R, v, T, h, _⟩ => by rw [h]; rfl) (fun f cdv A outer s H vs Q E hr ⟨r, R, v, T, e, hR, ok, hT, q1, q2⟩ => ?_) (fun _ _ _ _ _ _ us hl => match us, hl with | [_, _], _ => rfl)
  subst e
  obtain ⟨dx, qa, vs, p⟩ := id hR
  refine jss_cons (js_expr (je_call (E := E) (g_need_cells M) hr passE (ja_of (pa_cons pej pa_nil) (JV.je (jv_var 1 rfl) fun H1 s1 => ⟨v, T, rfl, hT.on s1, fun hb H2 s2 => ?_, fun hb => (q1 hb).on s1⟩))))
  have hv : v = .int (toI v) := by
    cases v with
    | int i => rfl
    | _ => cases hb
  have s02 := s1.trans s2
  have p2 := p.on s02
  have hl := ok.len
  have e1 : ((R.past.drop 1).zipIdx.filter fun z => decide (toI v < z.1.2)).map (fun z => pN z.2) = (above R.manys (toI v)).map pN := by
    unfold above RD.manys
    rw [List.map_map, List.zipIdx_map, List.filter_map, List.map_map]
    rfl
  refine jss_setC 2 rfl S_Recorder_first_beyond.nd (ds := (above R.manys (toI v)).map pN) (jlx2 (xs := (R.past.drop 1).zipIdx) (R1 := fun z H u => u = .int (z.2 : Nat)) (R2 := fun z H u => EntAt K H z.1 u) (pr := fun z => decide (toI v < z.1.2)) (r := fun z => pN z.2) 3 4 rfl S_Recorder_first_beyond.nd (blkOk_by (own := [("tick", 3), ("past", 4)]) rfl) ?_ (small1 (by rw [List.length_zipIdx, List.length_drop]; omega)) e1
    (fun z hz u x H3 s3 hu hx s0 H0 C cl fp => ⟨jbs_one ?_, fun _ => ?_⟩)) fun a us H3 s3 hn ha hd => ?_
  · refine JXI.mono (jxi_enumT (R := fun e H u => EntAt K H e u) (xs := R.past.drop 1) M.f_enumerate (jt_cut (i := some ((1 : Nat) : Int)) (j := none) (JV.jt (jv_fld (jv_var 0 rfl) p2.at_ M.c_Recorder M.a_own_past rfl) p2.tp) (jo_some jd_int) jo_none) (fun z H1 H2 v h s => EntAt.on h s) (by rw [cutv_from]; exact paired_drop 1 p2.en)) fun z H v y => ?_
    obtain ⟨T, u, y3, y4, y5⟩ := y
    exact ⟨T, _, u, y3, y4, rfl, y5⟩
  · obtain ⟨t, x1, y1, ex, ht, hst⟩ := hx
    subst ex
    exact jb_gt (jv_ixT (jv_var 4 rfl) ht jd_int atI2).int (jv_var 1 (by rw [← hv]; rfl)).int
  · subst hu
    exact (jv_var 3 rfl).int
  · have s03 := s02.trans s3
    refine jss_one (js_ret (JD.je (d := pFirst (above R.manys (toI v))) (jd_if (p := !((above R.manys (toI v)).map pN).isEmpty) (jb_fullL hr (jr_var 2 rfl ha hd).jd (shaped_ns _)) (fun hf => ?_) fun hf => ?_) fun u H4 s4 hu => q2 hb u H4 (s03.trans s4) hu))
    · rw [isEmpty_map] at hf
      have hne : above R.manys (toI v) ≠ [] := by
        intro e
        rw [e] at hf
        cases hf
      obtain ⟨t, _, e2, e3⟩ := fst_at hne
      rw [e2]
      exact jd_ixL (jr_var 2 rfl ha hd).jd jd_int e3
    · rw [isEmpty_map] at hf
      have he : above R.manys (toI v) = [] := by
        cases h : above R.manys (toI v) with
        | nil => rfl
        | cons a l => rw [h] at hf; cases hf
      rw [he]
      exact jd_non
end
end K28
-- KD11
/-! KD11: free; the making; hands. -/
namespace K28
open PySem PySem.Spec PyProof.Rows L2
theorem jr_if {X : Cx} {a b c : Expr} {σ : L2.St} {H : Hp} {pos : Pos} {ds : List PyData} {p : Bool} (ht : JB X c σ H p) (h1 : p = true → JR X a σ H ds) (h2 : p = false → JR X b σ H ds) : JR X (.IfExp c a b pos) σ H ds := fun H1 s Q q => je_of (pe_ifExp ptj pej pej) (ht H1 s _ fun H2 s2 => by
  cases p with
  | true => exact iteT ((h1 rfl) H2 (s.trans s2) _ fun a vs H3 s3 ha hd => q a vs H3 (s2.trans s3) ha hd)
  | false => exact iteF ((h2 rfl) H2 (s.trans s2) _ fun a vs H3 s3 ha hd => q a vs H3 (s2.trans s3) ha hd))
def okFree (R : RD) (i : Nat) (b n : Int) : Bool := hasR R.cur (.int n) && decide (most (recS (endedS R.cur i (.r b n) (R.now : Nat))) ≤ R.few)
def frA (R : RD) (i : Nat) (b : Int) : List Int := (namesS R.cur).filter (okFree R i b)
def spFr (K : PySem.W.Frag) : Sp := fun vs H Q E => ∃ r R v T, vs = [.ref r, v] ∧ RecAt K H r R ∧ RdOk R ∧ Th H v T ∧ (match idx R.cur v with
  | none => Heard K "BadNumber" v H E
  | some i => match bzAt R.cur i with
    | .rd b => (∀ n, hasR R.cur (.int n) = true → SOk (endedS R.cur i (.r b n) (R.now : Nat))) ∧ ∀ u H', Same H H' → Dp K H' u (pI (frA R i b)) → Q u H'
    | _ => Heard K "Idle" v H E)
section
variable {P : Program} {w : World} {K : PySem.W.Frag} {mg : Str → Option Value} {base : Heap}
theorem S_Recorder_free : FnScope ["self", "hand", "busy", "found", "name", "later"] ["self", "hand"] (defScope s_Recorder_free) := ⟨rfl, rfl, rfl, by decide +kernel, rfl, by decide +kernel, by decide +kernel⟩
theorem jss_setSt {X : Cx} {e : Expr} {σ : L2.St} {H : Hp} {D : Ends} {sts : List Stmt} {pos : Pos} {S : SD} (i : Nat) {x : Str} {pos' : Pos} (hN : X.N.Nodup) (h : JSt X e σ H S) (k : ∀ v H1, Same H H1 → StandAt X.K H1 v S → JSs X sts D (σ.set i (some v)) H1) (hi : X.N[i]? = some x := by rfl) (hx : Loc X.env.scope x := by first | exact Or.inl rfl | exact Or.inr rfl) (hs : swapsWith e (some (.Name x pos')) pos.line X.env = pure false := by rfl)
    (hf : X.fn x = true ∨ X.env.scope.names.lookup x = some .local := by first | exact .inl rfl | exact .inr rfl) : JSs X (.Assign [.Name x pos'] e pos :: sts) D σ H := jss_setE i hN (h H (Same.refl H) _ k) hi hx hs hf
theorem g_free (M : Mx P K mg) : MtG P w K mg base 9 "Recorder" "free" ["self", "hand"] (spFr K) := by
  refine mtg M.m_Recorder_free M.c_Recorder M.t_Recorder_free S_Recorder_free (fun vs H Q E ⟨r, R, v, T, h, _⟩ => by rw [h]; rfl) (fun f cdv A outer s H vs Q E hr ⟨r, R, v, T, e, hR, ok, hT, q⟩ => ?_) (fun _ _ _ _ _ _ us hl => match us, hl with | [_, _], _ => rfl)
  subst e
  obtain ⟨tR, gR⟩ := M.s_READ
  have okc := ok.cur
  refine jss_cons (js_expr (je_need_hand (n := 4) M hr passE (jv_var 0 rfl) hR ok (jv_var 1 rfl) hT ?_))
  cases e : idx R.cur v with
  | none =>
    rw [e] at q
    exact q
  | some i =>
    rw [e] at q
    obtain ⟨rfl, hi⟩ := idx_some e
    intro H1 s1
    refine jss_par 2 3 rfl S_Recorder_free.nd (JD.je (jd_ixT (jd_busy M.toMo (jst_stand (n := 7) M.toMo hr (jv_var 0 rfl) (hR.on s1) ok)) (jv_var 1 rfl).int (busy_at (bz_at hi))) fun u H2 s2 hu => JL.je (jl_lst (ds := []) jds_nil (small1 (by simp))) fun l ls H3 s3 hnl hl hld => ?_)
    cases hld
    have s03 := (s1.trans s2).trans s3
    have s02 := s1.trans s2
    have hu3 := hu.on s3
    have hnH : H l = none := same_none s02 hnl
    cases hz : bzAt R.cur i with
    | free =>
      simp only [hz] at q
      rw [hz] at hu3
      cases hu3
      have q : Heard K "Idle" (.int (i : Nat)) H E := q
      refine jss_cons (js_ifT (jb_of (jw_or (p := true) (q := true) (by
        have e : decide (V.non = V.non) = true := by decide
        rw [← e]
        exact jb_isN (jv_var 2 rfl)) fun z => nomatch z)) fun H4 s4 => ?_)
      exact jss_one (js_idle (n := 5) M rfl (takes_of rfl rfl rfl rfl) hr (jv_var 1 rfl) fun d H' s' n hd => q d H' ((s03.trans s4).trans s') (same_none (s03.trans s4) n) hd)
    | wr n b =>
      simp only [hz] at q
      rw [hz] at hu3
      have hun : decide (u = V.non) = false := by cases hu3; rfl
      have hut : Dp K H3 u (.tuple [.str "write", .int n, .int b]) := hu3
      have q : Heard K "Idle" (.int (i : Nat)) H E := q
      refine jss_cons (js_ifT (jb_of (jw_or (p := false) (q := true) (by
        rw [← hun]
        exact jb_isN (jv_var 2 rfl)) fun _ => jw_or1 (by
        have e : (!decide (V.str "write" = V.str "read")) = true := by decide
        rw [← e]
        exact jb_neS (JD.sv (jd_ixT (jd_var 2 rfl hut) jd_int atI0)) (jv_glob (v := .str "read") gR ⟨_, rfl⟩) rfl))) fun H4 s4 => ?_)
      exact jss_one (js_idle (n := 5) M rfl (takes_of rfl rfl rfl rfl) hr (jv_var 1 rfl) fun d H' s' n hd => q d H' ((s03.trans s4).trans s') (same_none (s03.trans s4) n) hd)
    | rd b =>
      simp only [hz] at q
      rw [hz] at hu3
      have hun : decide (u = V.non) = false := by cases hu3; rfl
      have hut : Dp K H3 u (.tuple [.str "read", .none, .int b]) := hu3
      obtain ⟨q1, q2⟩ := q
      refine jss_cons (js_ifF (jb_of (jw_or (p := false) (q := false) (by
        rw [← hun]
        exact jb_isN (jv_var 2 rfl)) fun _ => jw_or1 (by
        have e : (!decide (V.str "read" = V.str "read")) = false := by decide
        rw [← e]
        exact jb_neS (JD.sv (jd_ixT (jd_var 2 rfl hut) jd_int atI0)) (jv_glob (v := .str "read") gR ⟨_, rfl⟩) rfl))) fun H4 s4 => jss_nil ?_)
      have s04 := s03.trans s4
      have hl4 := s4 _ _ hl
      have nl := namesS_len okc
      refine jss_cons (js_forL 4 (passes_of rfl) rfl S_Recorder_free.nd (JL.je (jl_namesS (n := 7) M.toMo hr (jst_stand (n := 7) M.toMo hr (jv_var 0 rfl) (hR.on s04) ok) okc) fun la ns H5 s5 hna hla hda => ?_))
      have hns := hda.ints
      subst hns
      have hne : la ≠ l := ne_of_none' hl4 hna
      refine ⟨la, (namesS R.cur).map V.int, fun j σ' H' => ∃ x y, σ' = [some (.ref r), some (.int (i : Nat)), some u, some (.ref l), x, y] ∧ SameX l H5 H' ∧ H' l = some (.lst ((((namesS R.cur).take j).filter (okFree R i b)).map V.int)), rfl, ⟨none, none, rfl, sx_refl, s5 _ _ hl4⟩, ?_, ?_, ?_⟩
      · rintro j σ' H' ⟨x, y, _, sx, _⟩
        exact .inl (.inl (sx _ _ hne hla))
      · rintro j v σ' H' hj ⟨x, y, e, sx, hl'⟩
        subst e
        rw [List.getElem?_map] at hj
        cases hnj : (namesS R.cur)[j]? with
        | none => rw [hnj] at hj; cases hj
        | some n =>
          rw [hnj] at hj
          cases hj
          have s3' : Same H H' := same_sxn (s04.trans s5) sx hnH
          have hf1 : ((namesS R.cur).take (j + 1)).filter (okFree R i b) = ((namesS R.cur).take j).filter (okFree R i b) ++ (if okFree R i b n = true then [n] else []) := by
            rw [List.take_add_one, hnj, List.filter_append]
            cases h : okFree R i b n <;> simp [h]
          have hfl : (((namesS R.cur).take j).filter (okFree R i b)).length ≤ 60 := by
            have h1 := List.length_filter_le (okFree R i b) ((namesS R.cur).take j)
            have h2 := List.length_take_le j (namesS R.cur)
            have h3 := List.length_take_le' j (namesS R.cur)
            omega
          refine jss_one (js_ifB (jb_val (jd_has_room (n := 6) M.toMo hr (jst_stand (n := 7) M.toMo hr (jv_var 0 rfl) (hR.on s3') ok) okc (jv_var 4 rfl) (.int n))) (fun hb H6 s6 => ?_) fun hb H6 s6 => ?_)
          · have s36 := s3'.trans s6
            have okS := q1 n hb
            refine jss_setSt 5 S_Recorder_free.nd (jst_ended (n := 4) (en := .r b n) (t := (R.now : Nat)) M.toMo hr (jst_stand (n := 7) M.toMo hr (jv_var 0 rfl) (hR.on s36) ok) okc (by rw [bz_at hi, hz]; rfl) (fun _ _ z => by cases z; rfl) (jv_var 1 rfl) (jv_var 4 rfl) (jv_now (n := 7) M.toMo hr (jv_var 0 rfl) (hR.on s36) ok)) fun y H7 s7 hy => ?_
            have s37 := s36.trans s7
            refine jss_extend (ds := (if okFree R i b n = true then [n] else []).map PyData.int) (jv_var 3 rfl) (jr_if (p := okFree R i b n) (by
                have e : okFree R i b n = decide (most (recS (endedS R.cur i (.r b n) (R.now : Nat))) ≤ R.few) := by unfold okFree; rw [hb, Bool.true_and]
                rw [e]
                exact jb_le (jd_call (g_many_in M.toMo) hr _ (rok_rec okS) (jds_cons (jd_recordS (n := 6) M.toMo hr (JV.st (jv_var 5 rfl) hy) okS) jds_nil)) (jv_few (n := 7) M.toMo hr (jv_var 0 rfl) (hR.on s37) ok.ne).int) (fun hk => ?_) fun hk => ?_) ((s6.trans s7) _ _ hl') (small2 ?_) fun ys H8 s8 hys => ?_
            · rw [if_pos hk]
              exact (jl_lst (ds := [.int n]) (jds_cons (jv_var 4 rfl).int jds_nil) (small1 (by simp))).jr
            · rw [if_neg (by rw [hk]; decide)]
              exact (jl_lst (ds := []) jds_nil (small1 (by simp))).jr
            · rw [List.length_map, List.length_map]
              have : (if okFree R i b n = true then [n] else []).length ≤ 1 := by split <;> simp
              omega
            · have hys := hys.ints
              subst hys
              refine jss_nil ⟨_, _, rfl, sx_upd (sx_same sx ((s6.trans s7).trans s8)), ?_⟩
              rw [hf1, List.map_append]
              exact upd_same
          · refine jss_nil ⟨_, _, rfl, sx_same sx s6, ?_⟩
            have e : okFree R i b n = false := by unfold okFree; rw [hb, Bool.false_and]
            rw [hf1, e]
            simpa using s6 _ _ hl'
      · rintro σ' H' ⟨x, y, e, sx, hl'⟩
        subst e
        rw [List.length_map, List.take_of_length_le (Nat.le_refl _)] at hl'
        have s3' : Same H H' := same_sxn (s04.trans s5) sx hnH
        exact jss_one (js_ret ((jd_tuple1 M.f_tuple (jr_var 3 rfl hl' (DpAll.ofInts _)).jd).je fun v H6 s6 hv => q2 v H6 (s3'.trans s6) hv))
/-! ### the making -/
theorem jd_int1 {X : Cx} {e : Expr} {σ : L2.St} {H : Hp} {p pos : Pos} {i : Int} (hm : X.mg "int" = none) (ha : JD X e σ H (.int i)) (hg : Gl X "int" := by rfl) (he : starEach [e] X.env = (false, eval e X.env) :: starEach [] X.env := by rfl) (hpl : (backTo pos (starEach [] X.env)).any (·.1) = false := by rfl) : JD X (.Call (.Name "int" p) [e] [] pos) σ H (.int i) := fun H1 s Q q =>
  je_ty call_int1 hm boot_int (ja_of (pa_cons pej pa_nil he) (ha.int H1 s _ fun H2 s2 => .inl ⟨i, rfl, q _ H2 s2 (.int i)⟩)) hg he hpl
theorem rep_non : ∀ k : Nat, (List.replicate k [V.non]).flatten = List.replicate k V.non
  | 0 => rfl
  | k + 1 => by rw [List.replicate_succ, List.flatten_cons, rep_non k, List.replicate_succ]; rfl
theorem dpa_non {K : PySem.W.Frag} {H : Hp} : ∀ k : Nat, DpAll K H (List.replicate k V.non) (List.replicate k PyData.none)
  | 0 => .nil
  | k + 1 => .cons .non (dpa_non k)
theorem jd_nones {X : Cx} {a b : Expr} {σ : L2.St} {H : Hp} {pos : Pos} {n : Nat} (ha : JD X a σ H (.tuple [.none])) (hb : JD X b σ H (.int (n : Nat))) (h1 : 1 ≤ n) (h2 : n ≤ 1000) : JD X (.BinOp a .Mult b pos) σ H (.tuple (List.replicate n .none)) := fun H1 s Q q => by
  by_cases hn : n = 1
  · subst hn
    exact je_of (pe_op op_rep1 pej pej) (ha H1 s _ fun v H2 s2 hv => hb.int H2 (s.trans s2) _ fun H3 s3 => by
      cases hv with
      | tup k1 k2 =>
        obtain ⟨u, rfl, hu⟩ := dpa1 k2
        cases hu
        exact ⟨_, _, rfl, rfl, same_sqt s3 k1, by simp, q _ H3 (s2.trans s3) (.tup (same_sqt s3 k1) (.cons .non .nil))⟩)
  · exact je_of (pe_op op_repT pej pej) (ha H1 s _ fun v H2 s2 hv => hb.int H2 (s.trans s2) _ fun H3 s3 => by
      cases hv with
      | tup k1 k2 =>
        obtain ⟨u, rfl, hu⟩ := dpa1 k2
        cases hu
        refine ⟨_, _, _, rfl, rfl, same_sqt s3 k1, by simp, by omega, by omega, by simp, fun p hp => q _ _ ((s2.trans s3).trans (same_new hp)) (.tup (SqT.of upd_same) ?_)⟩
        rw [show ((n : Nat) : Int).toNat = n from rfl, rep_non]
        exact dpa_non n)
def rec0 (n : Nat) : RD := ⟨(n : Int), [(⟨List.replicate n .free, [], [], []⟩, 0)]⟩
def spRI (K : PySem.W.Frag) : Sp := fun vs H Q E => ∃ x dx v T, vs = [.ref x, v] ∧ H x = some (.ins (He.ga K "Recorder") dx []) ∧ Th H v T ∧ (btw v 1 6 = false → Heard K "BadNumber" v H E) ∧ (∀ n : Nat, v = .int (n : Nat) → 1 ≤ n → n ≤ 6 → ∀ H', SameX x H H' → RecAt K H' x (rec0 n) → Q .non H')
theorem S_Recorder_init : FnScope ["self", "hands"] ["self", "hands"] (defScope s_Recorder_init) := ⟨rfl, rfl, rfl, by decide +kernel, rfl, by decide +kernel, by decide +kernel⟩
theorem g_Recorder_init (M : Mx P K mg) : ∃ fd, FnOk P w K mg base (L2.CX P w) 4 (He.ma K (He.ga K "Recorder") "__init__") fd ["self", "hands"] (spRI K) ∧ Binds K fd ["self", "hands"] [] := by
  obtain ⟨fd, F⟩ := M.m_Recorder_init.df
  refine ⟨fd, fnj F S_Recorder_init (fun vs H Q E ⟨x, dx, v, T, h, _⟩ => by rw [h]; rfl) (fun cdv A outer s H vs Q E hr ⟨x, dx, v, T, e, hx, hT, q1, q2⟩ => ?_), F.bindsN fun _ _ _ _ _ _ us hl => match us, hl with | [_, _], _ => rfl⟩
  subst e
  obtain ⟨t6, g6⟩ := M.i_MOST_HANDS
  refine jss_cons (js_ifB (jb_not (jb_val (je_btw (n := 1) M.toMo hr (jv_var 1 rfl) hT jd_int (jv_glob (v := .int 6) g6 ⟨_, rfl⟩).int))) (fun hb H1 s1 => ?_) fun hb H1 s1 => jss_nil ?_)
  · have hb : btw v 1 6 = false := by simpa using hb
    exact jss_one (js_bad (n := 0) M rfl (takes_of rfl rfl rfl rfl) hr (jv_var 1 rfl) fun d H' s' n hd => q1 hb d H' (s1.trans s') (same_none s1 n) hd)
  · have hb : btw v 1 6 = true := by simpa using hb
    obtain ⟨n, hv, n1, n2⟩ : ∃ n : Nat, v = .int (n : Nat) ∧ 1 ≤ n ∧ n ≤ 6 := by
      cases v with
      | int i =>
        have hb : (decide (1 ≤ i) && decide (i ≤ 6)) = true := hb
        simp only [Bool.and_eq_true, decide_eq_true_eq] at hb
        exact ⟨i.toNat, congrArg V.int (by omega), by omega, by omega⟩
      | _ => cases hb
    subst hv
    refine jss_fldV (jv_var 1 rfl) (jv_var 0 rfl) (s1 _ _ hx) M.c_Recorder M.a_own_hands fun H2 s2 => ?_
    refine jss_one (js_fld (je_of (pe_tup (pa_cons pej pa_nil)) (je_of (pe_tup (pa_cons pej (pa_cons pej (pa_cons pej pa_nil)))) (JV.je jv_non fun H3 s3 => ?_))))
    refine je_Stand4 (S := ⟨List.replicate n .free, [], [], []⟩) (n := 1) M.toMo hr ?_ jmf_new.jm jmf_new.jm jmf_new.jm fun y H4 s4 hy => JV.je jv_int fun H5 s5 => ⟨small1 (by simp), fun t ht => ⟨small1 (by simp), fun pa hpa => JV.je (jv_var 0 rfl) fun H6 s6 => ?_⟩⟩
    · have e : pBs (List.replicate n .free) = .tuple (List.replicate n .none) := by unfold pBs; rw [List.map_replicate]; rfl
      rw [e]
      exact jd_nones (jd_tup (jds_cons jd_non jds_nil) (small1 (by simp))) (jd_int1 M.f_int (jv_var 1 rfl).int) n1 (by omega)
    · have st : Same H5 (upd H5 t (.tup [.non, y, .int 0])) := same_new ht
      have sp : Same (upd H5 t (.tup [.non, y, .int 0])) (upd (upd H5 t (.tup [.non, y, .int 0])) pa (.tup [.ref t])) := same_new hpa
      have s26 := ((((s3.trans s4).trans s5).trans st).trans sp).trans s6
      refine ⟨x, _, dx, _, rfl, s26 _ _ upd_same, M.c_Recorder, M.a_own_past, of_decide_eq_true rfl, q2 n rfl n1 n2 _ (sx_upd (sx_same (sx_upd (same_sx (s1.trans s2))) s26)) ?_⟩
      have hx6 := s26 _ _ (upd_same (H := H2) (a := x) (o := .ins (He.ga K "Recorder") dx (putF "own_hands" (.int (n : Nat)) [])))
      have ht6 := s6 _ _ (sp _ _ (upd_same (H := H5) (a := t) (o := .tup [.non, y, .int 0])))
      have hp6 := s6 _ _ (upd_same (H := upd H5 t (.tup [.non, y, .int 0])) (a := pa) (o := .tup [.ref t]))
      have keep : ∀ {b : Addr} {o : HO} (u : HO), H6 b = some o → b ≠ x → upd H6 x u b = some o := fun {b o} u e hn => by rw [upd_ne hn]; exact e
      refine ⟨dx, pa, [.ref t], upd_same, SqT.of (keep _ hp6 (ne_of hp6 hx6 fun z => nomatch z)), .cons ⟨t, .non, y, rfl, SqT.of (keep _ ht6 (ne_of ht6 hx6 fun z => nomatch z)), ?_⟩ .nil⟩
      have hy6 := hy.on (((s5.trans st).trans sp).trans s6)
      obtain ⟨a, dx2, u, b2, b3, b4, e, p⟩ := hy6
      have tp : TupS H6 (upd H6 x (.ins (He.ga K "Recorder") dx (putF "own_past" (.ref pa) (putF "own_hands" (.int (n : Nat)) [])))) := tups_upd hx6 (fun _ z => nomatch z) fun _ _ z => nomatch z
      have dm : ∀ {α : Type} {b : Addr} {da : α → PyData}, DM K H6 b da [] → DM K (upd H6 x (.ins (He.ga K "Recorder") dx (putF "own_past" (.ref pa) (putF "own_hands" (.int (n : Nat)) [])))) b da [] := fun {α b da} ⟨kvs, h1, h2⟩ => by
        cases h2
        exact ⟨[], keep _ h1 (ne_of h1 hx6 fun z => nomatch z), Paired.nil⟩
      refine ⟨a, dx2, u, b2, b3, b4, e, keep _ p.at_ (ne_of p.at_ hx6 fun z => ?_), dp_tups tp _ _ (lf_pBs _) p.bu, dm p.be, dm p.en, dm p.re⟩
      injection z with _ _ z
      exact absurd (congrArg List.length z) (show ¬ ((4 : Nat) = 1) by decide)
/-- hands -/
theorem S_Recorder_hands : FnScope ["self"] ["self"] (defScope s_Recorder_hands) := ⟨rfl, rfl, rfl, by decide +kernel, rfl, by decide +kernel, by decide +kernel⟩
end
end K28
-- KD12
/-! KD12: a recorder asked from outside. -/
namespace K28
open PySem PySem.Spec PyProof.Rows L2
section
variable {X : Cx} {o e1 e2 e : Expr} {es : List Expr} {σ : L2.St} {H : Hp} {p pos apos : Pos} {r : Addr} {R : RD} {v u : V} {T T2 : String} {n : Nat} {E : XK} {Q : VK} {pl : Sem Bool}
/-! ### len(r) -/
theorem callR_len (M : Mo X.K X.mg) (hr : Room (n + 2) X.A) : CallR X (.builtin "len") (fun xs H Q => ∃ r R, xs = [.ref r] ∧ RecAt X.K H r R ∧ RdOk R ∧ ∀ H', Same H H' → Q (.int (R.now : Nat)) H') := by
  intro pins s σ H xs us Q I rx h
  obtain ⟨r, R, rfl, hR, ok, q⟩ := h
  obtain ⟨u, rfl, ru⟩ := vals1 rx
  obtain rfl : u = Value.ref r := ru
  obtain ⟨fd, F, b⟩ := (g_len (P := X.prog) (w := X.w) (base := X.base) M).ex
  obtain ⟨dx, qa, vs, p⟩ := id hR
  obtain ⟨mA, O, _⟩ := ins_get I.hok p.at_
  obtain ⟨od, J, _⟩ := O.look
  obtain ⟨m, hF⟩ := I.fr
  have hsp : spNow X.K [.ref r] H (fun v H' => v = .int (R.now : Nat) ∧ Same H H') E0 := ⟨r, R, rfl, hR, ok, fun H' s' => ⟨rfl, s'⟩⟩
  refine PySem.W.len_K hF I.ok.mod.kin J M.t_Recorder_len.at_ M.t_Recorder_len.fn (wpAny_call (codeAny_mono (F.run X.A.in1 X.stack s H ⟨[.ref r], []⟩ [.ref r] [.ref r] _ E0 ((hr.mono (by omega)).in1) I.env0.in1 (by
    have := b s [.ref r] I.kIn rfl
    simpa using this) (.cons rfl .nil) hsp) fun rr s' hq => ?_))
  cases rr with
  | error e =>
    obtain ⟨_, _, _, _, _, _, _, _, _, _, _, _, z⟩ := hq
    exact z.elim
  | ok fl =>
    cases fl with
    | ret w =>
      obtain ⟨z, H', I', rz, ez, ex⟩ := I.after hq
      subst ez
      obtain ⟨t, rfl⟩ := rz
      have hl := ok.len
      exact ⟨⟨by omega, by unfold RD.now; omega⟩, .int (R.now : Nat), H', I'.tok _, ⟨_, rfl⟩, q H' ex⟩
    | next => exact False.elim hq
    | brk => exact False.elim hq
    | cont => exact False.elim hq
theorem jv_lenR (M : Mo X.K X.mg) (hr : Room (n + 2) X.A) (ho : JV X e σ H (.ref r)) (hR : RecAt X.K H r R) (ok : RdOk R) (hg : Gl X "len" := by rfl) (he : starEach [e] X.env = (false, eval e X.env) :: starEach [] X.env := by rfl) (hpl : (backTo pos (starEach [] X.env)).any (·.1) = false := by rfl) : JV X (.Call (.Name "len" p) [e] [] pos) σ H (.int (R.now : Nat)) := fun H1 s Q q =>
  je_blt (callR_len M hr) M.f_len boot_len (ja_of (pa_cons pej pa_nil he) (ho H1 s _ fun H2 s2 => ⟨r, R, rfl, hR.on (s.trans s2), ok, fun H3 s3 => q H3 (s2.trans s3)⟩)) hg he hpl
/-! ### r.hands -/
theorem hands_ok {P : Program} {w : World} {K : PySem.W.Frag} {mg : Str → Option Value} {base : Heap} {g : Addr} {fd : FuncData} (M : Mo K mg) (F : FunD K "hands" "Recorder.hands" (defArgs s_Recorder_hands) (defBody s_Recorder_hands) (defScope s_Recorder_hands) [] [] g fd) :
    FnOk P w K mg base (L2.CX P w) 1 g fd ["self"] (fun vs H Q _ => ∃ r R, vs = [.ref r] ∧ RecAt K H r R ∧ ∀ H', Same H H' → Q (.int R.hands) H') := by
  refine fnj F S_Recorder_hands (fun vs H Q E ⟨r, R, e, _⟩ => by rw [e]; rfl) (fun cdv A outer s H vs Q E hr ⟨r, R, e, hR, q⟩ => ?_)
  subst e
  obtain ⟨dx, qa, vs, p⟩ := hR
  exact jss_one (js_ret ((jv_fld (jv_var 0 rfl) p.at_ M.c_Recorder M.a_own_hands rfl).je q))
theorem jv_hands (M : Mx X.prog X.K X.mg) (hr : Room (n + 2) X.A) (ho : JV X o σ H (.ref r)) (hR : RecAt X.K H r R) (hab : attributeBase o "hands" X.env (eval o X.env) = eval o X.env := by rfl) : JV X (.Attribute o "hands" pos) σ H (.int R.hands) := fun H1 s Q q => by
  obtain ⟨pa, g, fd, hp, F⟩ := M.pH
  have Fk := hands_ok (P := X.prog) (w := X.w) (base := X.base) M.toMo F
  have b : Binds X.K fd ["self"] [] := F.bindsN fun _ _ _ _ _ _ us hl => match us, hl with | [_], _ => rfl
  exact je_of (pe_prop pej M.c_Recorder hp Fk (hr.mono (by omega)) b .nil (passL (X := X.nox)) hab) (ho H1 s _ fun H2 s2 => by
    have hR2 := hR.on (s.trans s2)
    obtain ⟨dx, qa, vs, p⟩ := id hR2
    exact ⟨r, dx, _, rfl, p.at_, r, R, rfl, hR2, fun H3 s3 => q H3 (s2.trans s3)⟩)
/-! ### Recorder(v) -/
theorem je_Recorder (M : Mx X.prog X.K X.mg) (hr : Room (n + 5) X.A) (hx : Passes (L2.CX X.prog X.w) X E) (ha : JV X e σ H v) (hT : Th H v T) (q1 : btw v 1 6 = false → Heard X.K "BadNumber" v H E) (q2 : ∀ k : Nat, v = .int (k : Nat) → 1 ≤ k → k ≤ 6 → ∀ x H', Same H H' → H x = none → RecAt X.K H' x (rec0 k) → Q (.ref x) H')
    (hg : Gl X "Recorder" := by rfl) (he : starEach [e] X.env = (false, eval e X.env) :: starEach [] X.env := by rfl) (hpl : (backTo pos (starEach [] X.env)).any (·.1) = false := by rfl) : JE X (.Call (.Name "Recorder" p) [e] [] pos) σ H Q := by
  obtain ⟨fd, F, b⟩ := g_Recorder_init (P := X.prog) (w := X.w) (base := X.base) M
  refine je_of (pe_make M.k_Recorder F (hr.mono (by omega)) hg M.g_Recorder b .nil hx (pa_cons pej pa_nil he) (by decide) he hpl) (ha H (Same.refl H) _ fun H1 s1 x dx hx hdx hne => ?_)
  have s2 : Same H1 (upd (upd H1 dx (.own x)) x (.ins (He.ga X.K "Recorder") dx [])) := (same_new hdx).trans (same_new (by rw [upd_ne (Ne.symm hne)]; exact hx))
  refine ⟨x, dx, v, T, rfl, upd_same, hT.on (s1.trans s2), fun hb => (q1 hb).on (s1.trans s2), fun k hk k1 k2 H' sx hR => ⟨rfl, q2 k hk k1 k2 x H' (fun c o e => sx _ _ (ne_of_none (s1 _ _ e) hx) (s2 _ _ (s1 _ _ e))) (same_none s1 hx) hR⟩⟩
/-! ### deeds and questions -/
theorem okq_on {K : PySem.W.Frag} {H H' : Hp} {S : SD} (h : okQ K H r R Q S) (s : Same H H') : okQ K H' r R Q S := ⟨h.1, fun H2 sx hR => h.2 H2 (sx_trans (same_sx s) sx) hR⟩
theorem je_write (M : Mx X.prog X.K X.mg) (hr : Room (n + 10) X.A) (hx : Passes (L2.CX X.prog X.w) X E) (ho : JV X o σ H (.ref r)) (hR : RecAt X.K H r R) (ok : RdOk R) (h1 : JV X e1 σ H v) (hT : Th H v T) (h2 : JV X e2 σ H u) (hT2 : Th H u T2) (hq : AnsP X.K H E (okQ X.K H r R Q) (wrA R.cur v u (R.now : Nat)))
    (hst : starEach [e1, e2] X.env = (false, eval e1 X.env) :: starEach [e2] X.env := by rfl) (hst2 : starEach [e2] X.env = (false, eval e2 X.env) :: starEach [] X.env := by rfl) (hpl : (backTo pos (starEach [e2] X.env)).any (·.1) = false := by rfl)
    (ht : eval (.Call (.Attribute o "write" apos) [e1, e2] [] pos) X.env = (do
      let ov ← eval o X.env
      standAt apos.atName
      let (f, first) ← holding [ov] (getMethod ov "write" pl)
      callWith pos f first (backTo pos (starEach [e1, e2] X.env)) (backToKw pos (keywordEach [] X.env))) := by rfl) : JE X (.Call (.Attribute o "write" apos) [e1, e2] [] pos) σ H Q := by
  obtain ⟨dx, qa, vs, p⟩ := id hR
  exact je_methV (pl := pl) (E := E) (g_write (P := X.prog) (w := X.w) (base := X.base) M) hr hx ho p.at_ rfl (fun H2 s2 => ja_of (pa_cons pej (pa_cons pej pa_nil hst2) hst) (h1 H2 s2 _ fun H3 s3 => h2 H3 (s2.trans s3) _ fun H4 s4 => ⟨r, R, v, u, T, T2, rfl, hR.on ((s2.trans s3).trans s4), ok, hT.on ((s2.trans s3).trans s4), hT2.on ((s2.trans s3).trans s4), hq.on ((s2.trans s3).trans s4) fun S h => okq_on h ((s2.trans s3).trans s4)⟩)) (by omega) hst hpl ht
theorem je_read (M : Mx X.prog X.K X.mg) (hr : Room (n + 10) X.A) (hx : Passes (L2.CX X.prog X.w) X E) (ho : JV X o σ H (.ref r)) (hR : RecAt X.K H r R) (ok : RdOk R) (h1 : JV X e1 σ H v) (hT : Th H v T) (hq : AnsP X.K H E (okQ X.K H r R Q) (rdA R.cur v (R.now : Nat)))
    (hst : starEach [e1] X.env = (false, eval e1 X.env) :: starEach [] X.env := by rfl) (hpl : (backTo pos (starEach [] X.env)).any (·.1) = false := by rfl)
    (ht : eval (.Call (.Attribute o "read" apos) [e1] [] pos) X.env = (do
      let ov ← eval o X.env
      standAt apos.atName
      let (f, first) ← holding [ov] (getMethod ov "read" pl)
      callWith pos f first (backTo pos (starEach [e1] X.env)) (backToKw pos (keywordEach [] X.env))) := by rfl) : JE X (.Call (.Attribute o "read" apos) [e1] [] pos) σ H Q := by
  obtain ⟨dx, qa, vs, p⟩ := id hR
  exact je_methV (pl := pl) (E := E) (g_read (P := X.prog) (w := X.w) (base := X.base) M) hr hx ho p.at_ rfl (fun H2 s2 => ja_of (pa_cons pej pa_nil hst) (h1 H2 s2 _ fun H3 s3 => ⟨r, R, v, T, rfl, hR.on (s2.trans s3), ok, hT.on (s2.trans s3), hq.on (s2.trans s3) fun S h => okq_on h (s2.trans s3)⟩)) (by omega) hst hpl ht
theorem je_done (M : Mx X.prog X.K X.mg) (hr : Room (n + 10) X.A) (hx : Passes (L2.CX X.prog X.w) X E) (ho : JV X o σ H (.ref r)) (hR : RecAt X.K H r R) (ok : RdOk R) (h1 : JV X e1 σ H v) (hT : Th H v T) (h2 : JV X e2 σ H u) (hT2 : Th H u T2) (hq : AnsP X.K H E (okQ X.K H r R Q) (dnA R.cur v u (R.now : Nat)))
    (hst : starEach [e1, e2] X.env = (false, eval e1 X.env) :: starEach [e2] X.env := by rfl) (hst2 : starEach [e2] X.env = (false, eval e2 X.env) :: starEach [] X.env := by rfl) (hpl : (backTo pos (starEach [e2] X.env)).any (·.1) = false := by rfl)
    (ht : eval (.Call (.Attribute o "done" apos) [e1, e2] [] pos) X.env = (do
      let ov ← eval o X.env
      standAt apos.atName
      let (f, first) ← holding [ov] (getMethod ov "done" pl)
      callWith pos f first (backTo pos (starEach [e1, e2] X.env)) (backToKw pos (keywordEach [] X.env))) := by rfl) : JE X (.Call (.Attribute o "done" apos) [e1, e2] [] pos) σ H Q := by
  obtain ⟨dx, qa, vs, p⟩ := id hR
  obtain ⟨fd, F, b, _⟩ := g_done (P := X.prog) (w := X.w) (base := X.base) M
  exact je_methV (pl := pl) (E := E) (⟨⟨fd, F, b⟩, M.c_Recorder, M.t_Recorder_done⟩ : MtG X.prog X.w X.K X.mg X.base 10 "Recorder" "done" ["self", "hand", "name"] (spDn X.K)) hr hx ho p.at_ rfl (fun H2 s2 => ja_of (pa_cons pej (pa_cons pej pa_nil hst2) hst) (h1 H2 s2 _ fun H3 s3 => h2 H3 (s2.trans s3) _ fun H4 s4 => ⟨r, R, v, u, T, T2, rfl, hR.on ((s2.trans s3).trans s4), ok, hT.on ((s2.trans s3).trans s4), hT2.on ((s2.trans s3).trans s4), hq.on ((s2.trans s3).trans s4) fun S h => okq_on h ((s2.trans s3).trans s4)⟩)) (by omega) hst hpl ht
theorem je_done1 (M : Mx X.prog X.K X.mg) (hr : Room (n + 10) X.A) (hx : Passes (L2.CX X.prog X.w) X E) (ho : JV X o σ H (.ref r)) (hR : RecAt X.K H r R) (ok : RdOk R) (h1 : JV X e1 σ H v) (hT : Th H v T) (hq : AnsP X.K H E (okQ X.K H r R Q) (dnA R.cur v .non (R.now : Nat)))
    (hst : starEach [e1] X.env = (false, eval e1 X.env) :: starEach [] X.env := by rfl) (hpl : (backTo pos (starEach [] X.env)).any (·.1) = false := by rfl)
    (ht : eval (.Call (.Attribute o "done" apos) [e1] [] pos) X.env = (do
      let ov ← eval o X.env
      standAt apos.atName
      let (f, first) ← holding [ov] (getMethod ov "done" pl)
      callWith pos f first (backTo pos (starEach [e1] X.env)) (backToKw pos (keywordEach [] X.env))) := by rfl) : JE X (.Call (.Attribute o "done" apos) [e1] [] pos) σ H Q := by
  obtain ⟨dx, qa, vs, p⟩ := id hR
  obtain ⟨fd, F, _, ds, hv, b⟩ := g_done (P := X.prog) (w := X.w) (base := X.base) M
  exact je_of (pe_meth pej M.c_Recorder M.t_Recorder_done F (hr.mono (by omega)) b hv hx paj hst hpl ht) (ho H (Same.refl H) _ fun H2 s2 => ⟨r, dx, _, rfl, s2 _ _ p.at_, rfl, ja_of (pa_cons pej pa_nil hst) (h1 H2 s2 _ fun H3 s3 => ⟨r, R, v, .non, T, "NoneType", rfl, hR.on (s2.trans s3), ok, hT.on (s2.trans s3), .non, hq.on (s2.trans s3) fun S h => okq_on h (s2.trans s3)⟩)⟩)
theorem je_doing (M : Mx X.prog X.K X.mg) (hr : Room (n + 5) X.A) (hx : Passes (L2.CX X.prog X.w) X E) (ho : JV X o σ H (.ref r)) (hR : RecAt X.K H r R) (ok : RdOk R) (h1 : JV X e1 σ H v) (hT : Th H v T)
    (hq : match idx R.cur v with | none => Heard X.K "BadNumber" v H E | some i => ∀ u H', Same H H' → Dp X.K H' u (pDo (bzAt R.cur i)) → Q u H')
    (hst : starEach [e1] X.env = (false, eval e1 X.env) :: starEach [] X.env := by rfl) (hpl : (backTo pos (starEach [] X.env)).any (·.1) = false := by rfl)
    (ht : eval (.Call (.Attribute o "doing" apos) [e1] [] pos) X.env = (do
      let ov ← eval o X.env
      standAt apos.atName
      let (f, first) ← holding [ov] (getMethod ov "doing" pl)
      callWith pos f first (backTo pos (starEach [e1] X.env)) (backToKw pos (keywordEach [] X.env))) := by rfl) : JE X (.Call (.Attribute o "doing" apos) [e1] [] pos) σ H Q := by
  obtain ⟨dx, qa, vs, p⟩ := id hR
  refine je_methV (pl := pl) (E := E) (g_doing (P := X.prog) (w := X.w) (base := X.base) M) hr hx ho p.at_ rfl (fun H2 s2 => ja_of (pa_cons pej pa_nil hst) (h1 H2 s2 _ fun H3 s3 => ⟨r, R, v, T, rfl, hR.on (s2.trans s3), ok, hT.on (s2.trans s3), ?_⟩)) (by omega) hst hpl ht
  cases e : idx R.cur v with
  | none =>
    rw [e] at hq
    exact Heard.on hq (s2.trans s3)
  | some i =>
    rw [e] at hq
    exact fun u H' s' h => hq u H' ((s2.trans s3).trans s') h
theorem jd_names (M : Mx X.prog X.K X.mg) (hr : Room (n + 2) X.A) (ho : JV X o σ H (.ref r)) (hR : RecAt X.K H r R) (ok : RdOk R)
    (ht : eval (.Call (.Attribute o "names" apos) [] [] pos) X.env = (do
      let ov ← eval o X.env
      standAt apos.atName
      let (f, first) ← holding [ov] (getMethod ov "names" pl)
      callWith pos f first (backTo pos (starEach [] X.env)) (backToKw pos (keywordEach [] X.env))) := by rfl) : JD X (.Call (.Attribute o "names" apos) [] [] pos) σ H (pI (namesS R.cur)) := fun H1 s Q q => by
  obtain ⟨dx, qa, vs, p⟩ := id hR
  exact je_meth0V (pl := pl) (E := E0) (g_names (P := X.prog) (w := X.w) (base := X.base) M.toMo) hr passL (ho.on s) (p.on s).at_ rfl (fun H2 s2 => ⟨r, R, rfl, hR.on (s.trans s2), ok, fun y H' s' hy => q y H' (s2.trans s') hy⟩) (by omega) ht
theorem jd_record_now (M : Mx X.prog X.K X.mg) (hr : Room (n + 3) X.A) (ho : JV X o σ H (.ref r)) (hR : RecAt X.K H r R) (ok : RdOk R)
    (ht : eval (.Call (.Attribute o "record_now" apos) [] [] pos) X.env = (do
      let ov ← eval o X.env
      standAt apos.atName
      let (f, first) ← holding [ov] (getMethod ov "record_now" pl)
      callWith pos f first (backTo pos (starEach [] X.env)) (backToKw pos (keywordEach [] X.env))) := by rfl) : JD X (.Call (.Attribute o "record_now" apos) [] [] pos) σ H (pR (recS R.cur)) := fun H1 s Q q => by
  obtain ⟨dx, qa, vs, p⟩ := id hR
  exact je_meth0V (pl := pl) (E := E0) (g_record_now (P := X.prog) (w := X.w) (base := X.base) M.toMo) hr passL (ho.on s) (p.on s).at_ rfl (fun H2 s2 => ⟨r, R, rfl, hR.on (s.trans s2), ok, fun y H' s' hy => q y H' (s2.trans s') hy⟩) (by omega) ht
theorem je_first (M : Mx X.prog X.K X.mg) (hr : Room (n + 5) X.A) (hx : Passes (L2.CX X.prog X.w) X E) (ho : JV X o σ H (.ref r)) (hR : RecAt X.K H r R) (ok : RdOk R) (h1 : JV X e1 σ H v) (hT : Th H v T)
    (hq1 : btw v 0 12 = false → Heard X.K "BadNumber" v H E) (hq2 : btw v 0 12 = true → ∀ u H', Same H H' → Dp X.K H' u (pFirst (above R.manys (toI v))) → Q u H')
    (hst : starEach [e1] X.env = (false, eval e1 X.env) :: starEach [] X.env := by rfl) (hpl : (backTo pos (starEach [] X.env)).any (·.1) = false := by rfl)
    (ht : eval (.Call (.Attribute o "first_beyond" apos) [e1] [] pos) X.env = (do
      let ov ← eval o X.env
      standAt apos.atName
      let (f, first) ← holding [ov] (getMethod ov "first_beyond" pl)
      callWith pos f first (backTo pos (starEach [e1] X.env)) (backToKw pos (keywordEach [] X.env))) := by rfl) : JE X (.Call (.Attribute o "first_beyond" apos) [e1] [] pos) σ H Q := by
  obtain ⟨dx, qa, vs, p⟩ := id hR
  exact je_methV (pl := pl) (E := E) (g_first_beyond (P := X.prog) (w := X.w) (base := X.base) M) hr hx ho p.at_ rfl (fun H2 s2 => ja_of (pa_cons pej pa_nil hst) (h1 H2 s2 _ fun H3 s3 => ⟨r, R, v, T, rfl, hR.on (s2.trans s3), ok, hT.on (s2.trans s3), fun hb => (hq1 hb).on (s2.trans s3), fun hb u H' s' h => hq2 hb u H' ((s2.trans s3).trans s') h⟩)) (by omega) hst hpl ht
theorem je_free (M : Mx X.prog X.K X.mg) (hr : Room (n + 9) X.A) (hx : Passes (L2.CX X.prog X.w) X E) (ho : JV X o σ H (.ref r)) (hR : RecAt X.K H r R) (ok : RdOk R) (h1 : JV X e1 σ H v) (hT : Th H v T)
    (hq : match idx R.cur v with
      | none => Heard X.K "BadNumber" v H E
      | some i => match bzAt R.cur i with
        | .rd b => (∀ n, hasR R.cur (.int n) = true → SOk (endedS R.cur i (.r b n) (R.now : Nat))) ∧ ∀ u H', Same H H' → Dp X.K H' u (pI (frA R i b)) → Q u H'
        | _ => Heard X.K "Idle" v H E)
    (hst : starEach [e1] X.env = (false, eval e1 X.env) :: starEach [] X.env := by rfl) (hpl : (backTo pos (starEach [] X.env)).any (·.1) = false := by rfl)
    (ht : eval (.Call (.Attribute o "free" apos) [e1] [] pos) X.env = (do
      let ov ← eval o X.env
      standAt apos.atName
      let (f, first) ← holding [ov] (getMethod ov "free" pl)
      callWith pos f first (backTo pos (starEach [e1] X.env)) (backToKw pos (keywordEach [] X.env))) := by rfl) : JE X (.Call (.Attribute o "free" apos) [e1] [] pos) σ H Q := by
  obtain ⟨dx, qa, vs, p⟩ := id hR
  refine je_methV (pl := pl) (E := E) (g_free (P := X.prog) (w := X.w) (base := X.base) M) hr hx ho p.at_ rfl (fun H2 s2 => ja_of (pa_cons pej pa_nil hst) (h1 H2 s2 _ fun H3 s3 => ⟨r, R, v, T, rfl, hR.on (s2.trans s3), ok, hT.on (s2.trans s3), ?_⟩)) (by omega) hst hpl ht
  cases e : idx R.cur v with
  | none =>
    rw [e] at hq
    exact Heard.on hq (s2.trans s3)
  | some i =>
    rw [e] at hq
    cases hz : bzAt R.cur i with
    | free =>
      simp only [hz] at hq ⊢
      exact Heard.on hq (s2.trans s3)
    | wr n b =>
      simp only [hz] at hq ⊢
      exact Heard.on hq (s2.trans s3)
    | rd b =>
      simp only [hz] at hq ⊢
      exact ⟨hq.1, fun u H' s' h => hq.2 u H' ((s2.trans s3).trans s') h⟩
end
end K28
-- KD13
/-! KD13: the law's draws. -/
namespace K28
open PySem PySem.Spec PyProof.Rows L2
/-! ### dicts by texts -/
section
variable {X : Cx} {e o i : Expr} {sts : List Stmt} {σ : L2.St} {H : Hp} {D : Ends} {p pos pos' : Pos} {n : Nat} {a : Addr} {v : V} {kvs : List (Key × V)}
theorem jv_sget {x : Str} (hr : Room n X.A) (ho : JV X o σ H (.ref a)) (hi : JV X i σ H (.str x)) (ha : H a = some (.dK kvs)) (hv : valV kvs (Sum.inr x) = some v) (hs : NoSl i := by exact fun _ _ => rfl) : JV X (.Subscript o i pos) σ H v := fun H1 s Q q =>
  je_of (pe_dget (by have := hr.un; omega) pej pej hs) (ho H1 s _ fun H2 s2 => hi H2 (s.trans s2) _ fun H3 s3 => ⟨a, v, rfl, by rw [← hv]; exact DGet.k (k := Sum.inr x) ((s.trans (s2.trans s3)) _ _ ha), q H3 (s2.trans s3)⟩)
theorem jss_sput {x : Str} {value : Expr} (hr : Room n X.A) (hv : JE X value σ H fun u H1 => ∃ kvs, H1 a = some (.dK kvs) ∧ kvs.length < sizeLine ∧ (∀ H2, Same H1 H2 → JSs X sts D σ (upd H2 a (.dK (putK kvs (Sum.inr x) u))))) (ho : ∀ H1, JV X o σ H1 (.ref a)) (hi : ∀ H1, JV X i σ H1 (.str x))
    (hs : swapsWith value (some (.Subscript o i pos')) pos.line X.env = pure false := by rfl) : JSs X (.Assign [.Subscript o i pos'] value pos :: sts) D σ H :=
  jss_cons (js_of (ps_dput (by have := hr.un; omega) pej pej pej hs) (JE.mono hv fun u H1 ⟨kvs, h1, h2, h3⟩ => (ho H1) H1 (Same.refl H1) _ fun H2 s2 => (hi H2) H2 (Same.refl H2) _ fun H3 s3 => ⟨a, _, rfl, DPut.k (k := Sum.inr x) ((s2.trans s3) _ _ h1) h2, h3 H3 (s2.trans s3)⟩))
/-- l[i] = e -/
theorem jss_lput {q : Addr} {xs : List V} {value : Expr} {k : Nat} {u : V} (hv : JV X value σ H u) (ho : JV X o σ H (.ref q)) (hi : JD X i σ H (.int (k : Nat))) (hq : H q = some (.lst xs)) (hk : k < xs.length) (h : ∀ H1, Same H H1 → JSs X sts D σ (upd H1 q (.lst (xs.set k u))))
    (ha : ∀ v, assign (.Subscript o i pos') X.env v = (do
      let ov ← holding [v] (eval o X.env)
      let iv ← holding [v, ov] (eval i X.env)
      standAt pos'
      holding [v, ov, iv] (setItem ov iv v)
      release [v, ov, iv] []) := by intro _; rfl)
    (hs : swapsWithSole [.Subscript o i pos'] value pos.line X.env = pure false := by rfl) (hw : swappedStores [.Subscript o i pos'] value X.env = pure none := by rfl) (h1 : (assignEach [.Subscript o i pos'] X.env).map (·.2) = [assign (.Subscript o i pos') X.env] := by rfl) : JSs X (.Assign [.Subscript o i pos'] value pos :: sts) D σ H :=
  jss_cons (js_of (ps_asg pej (pg_sub pej pej set_list ha) hs hw h1) (hv H (Same.refl H) _ fun H1 s1 => ho H1 s1 _ fun H2 s2 => hi.int H2 (s1.trans s2) _ fun H3 s3 =>
    ⟨q, xs, (k : Int), k, rfl, rfl, (s1.trans (s2.trans s3)) _ _ hq, by unfold ixN; rw [if_pos (by omega), if_pos (by omega)]; simp, h H3 (s1.trans (s2.trans s3))⟩))
end
theorem jd_lenL {X : Cx} {e : Expr} {σ : L2.St} {H : Hp} {p pos : Pos} {α : Type} {da : α → PyData} {c : List α} (hm : X.mg "len" = none) (ha : JD X e σ H (.list (c.map da))) (hg : Gl X "len" := by rfl) (he : starEach [e] X.env = (false, eval e X.env) :: starEach [] X.env := by rfl) (hpl : (backTo pos (starEach [] X.env)).any (·.1) = false := by rfl) :
    JD X (.Call (.Name "len" p) [e] [] pos) σ H (.int (c.length : Int)) := by
  have := jd_len (p := p) hm ha hg he hpl
  rw [List.length_map] at this
  exact this
/-! ### numbers -/
def mix (c k : Int) : Int := (c % 2147483647 * (48271 + 2 * k * k) + 69621 * k + 11) % 2147483647 * 69621 % 2147483629
theorem mix_lt (c k : Int) : 0 ≤ mix c k ∧ mix c k < 2147483629 := ⟨Int.emod_nonneg _ (by decide), Int.emod_lt_of_pos _ (by decide)⟩
def spMix (K : PySem.W.Frag) : Sp := spP K (fun z : Int × Int => [.int z.1, .int z.2]) (fun z => .int (mix z.1 z.2)) (fun z => 0 ≤ z.2 ∧ z.2 ≤ 100000)
/-- the state of the draws -/
structure DrP (K : PySem.W.Frag) (H : Hp) (a c l : Addr) (cs ls : List Int) (t : Nat) : Prop where
  at_ : H a = some (.dK [(Sum.inr "cells", .ref c), (Sum.inr "lefts", .ref l), (Sum.inr "at", .int (t : Nat)), (Sum.inr "room", .int 0)])
  ce : H c = some (.lst (cs.map V.int))
  le : H l = some (.lst (ls.map V.int))
  ne : cs ≠ []
  len : ls.length = cs.length
  ac : a ≠ c
  al : a ≠ l
  cl : c ≠ l
def spDraw (K : PySem.W.Frag) : Sp := fun vs H Q _ => ∃ a c l cs ls t m, vs = [.ref a, .int (m : Nat)] ∧ DrP K H a c l cs ls t ∧ t ≤ 50000 ∧ 1 ≤ m ∧ m ≤ 1000 ∧
  ∀ (r : Nat) H' ls', r < m → (∀ b o, b ≠ a → b ≠ l → H b = some o → H' b = some o) → DrP K H' a c l cs ls' (t + 1) → Q (.int (r : Nat)) H'
section
variable {P : Program} {w : World} {K : PySem.W.Frag} {mg : Str → Option Value} {base : Heap}
theorem S_law_mixed : FnScope ["_law_cell", "_law_k"] ["_law_cell", "_law_k"] (defScope s_law_mixed) := ⟨rfl, rfl, rfl, by decide +kernel, rfl, by decide +kernel, by decide +kernel⟩
theorem g_law_mixed (M : Mo K mg) : FnG P w K mg base 1 "_law_mixed" ["_law_cell", "_law_k"] (spMix K) := by
  refine fng M.d_law_mixed S_law_mixed (spP_len fun _ => rfl) (fun f cdv A outer s H vs Q E hr ⟨⟨c, k⟩, ⟨h0, h1⟩, ha, q⟩ => ?_) (fun _ _ _ _ _ _ us hl => match us, hl with | [_, _], _ => rfl)
  have h0 : 0 ≤ k := h0
  have h1 : k ≤ 100000 := h1
  obtain ⟨v0, v1, rfl, d0, d1⟩ := dpa2 ha
  refine jss_set 0 S_law_mixed.nd (jd_mod (i := c) (jd_int1 M.f_int (jd_var 0 rfl d0)) jd_int (by decide)) fun v H1 s1 hv => ?_
  have hk : (k : Int) * k ≤ 100000 * 100000 := Int.mul_le_mul h1 h1 h0 (by decide)
  have hk0 : 0 ≤ k * k := Int.mul_nonneg h0 h0
  have hc0 : 0 ≤ c % 2147483647 := Int.emod_nonneg _ (by decide)
  have hc1 : c % 2147483647 < 2147483647 := Int.emod_lt_of_pos _ (by decide)
  have e2 : 2 * k * k = 2 * (k * k) := Int.mul_assoc ..
  refine jss_one (js_ret (JD.je (d := .int (mix c k)) (jd_mod (jd_mul (jd_mod (jd_add (jd_add (jd_mul (jd_var 0 rfl hv) (jd_add jd_int (jd_mul (jd_mul jd_int (jd_var 1 rfl (d1.on s1)) (.inl ⟨by decide, by decide⟩)) (jd_var 1 rfl (d1.on s1)) (.inr ⟨by omega, by omega⟩))) (.inl ⟨by omega, by omega⟩)) (jd_mul jd_int (jd_var 1 rfl (d1.on s1)) (.inl ⟨by decide, by decide⟩))) jd_int) jd_int (by decide)) jd_int (.inr ⟨by decide, by decide⟩)) jd_int (by decide)) fun v' H' s' hv' => q v' H' (s1.trans s') hv'))
theorem S_law_draw : FnScope ["_law_state", "_law_many", "_law_at", "_law_place", "_law_left", "_law_number"] ["_law_state", "_law_many"] (defScope s_law_draw) := ⟨rfl, rfl, rfl, by decide +kernel, rfl, by decide +kernel, by decide +kernel⟩
theorem g_law_draw (M : Mo K mg) : FnG P w K mg base 2 "_law_draw" ["_law_state", "_law_many"] (spDraw K) := by
  refine fng M.d_law_draw S_law_draw (fun vs H Q E ⟨a, c, l, cs, ls, t, m, h, _⟩ => by rw [h]; rfl) (fun f cdv A outer s H vs Q E hr ⟨a, c, l, cs, ls, t, m, e, p, ht, m1, m2, q⟩ => ?_) (fun _ _ _ _ _ _ us hl => match us, hl with | [_, _], _ => rfl)
  subst e
  have hcl : 0 < cs.length := List.length_pos_iff.mpr p.ne
  refine jss_setE 2 S_law_draw.nd (JV.je (jv_sget hr (jv_var 0 rfl) jv_str p.at_ rfl) fun H1 s1 => ?_)
  refine jss_sput (a := a) hr (JD.je (jd_add (jv_var 2 rfl).int jd_int) fun v H2 s2 hv => ⟨_, (s1.trans s2) _ _ p.at_, small1' (by simp), fun H3 s3 => ?_⟩) (fun _ => jv_var 0 rfl) fun _ => jv_str
  cases hv
  have s03 := s1.trans (s2.trans s3)
  have et : (t : Int) + 1 = ((t + 1 : Nat) : Int) := by omega
  have p4 : DrP K (upd H3 a (.dK (putK [(Sum.inr "cells", .ref c), (Sum.inr "lefts", .ref l), (Sum.inr "at", .int (t : Nat)), (Sum.inr "room", .int 0)] (Sum.inr "at") (.int ((t : Int) + 1))))) a c l cs ls (t + 1) :=
    ⟨by rw [upd_same, et]; rfl, by rw [upd_ne (Ne.symm p.ac)]; exact s03 _ _ p.ce, by rw [upd_ne (Ne.symm p.al)]; exact s03 _ _ p.le, p.ne, p.len, p.ac, p.al, p.cl⟩
  generalize hH4 : upd H3 a (.dK (putK [(Sum.inr "cells", .ref c), (Sum.inr "lefts", .ref l), (Sum.inr "at", .int (t : Nat)), (Sum.inr "room", .int 0)] (Sum.inr "at") (.int ((t : Int) + 1)))) = H4 at p4 ⊢
  have fr : ∀ b o, b ≠ a → H b = some o → H4 b = some o := fun b o h e => by rw [← hH4, upd_ne h]; exact s03 _ _ e
  have hm0 : ((t : Int) % (cs.length : Int)) = ((t % cs.length : Nat) : Int) := by omega
  have hpl : t % cs.length < cs.length := Nat.mod_lt _ hcl
  refine jss_set 3 S_law_draw.nd (jd_mod (i := (t : Int)) (j := (cs.length : Int)) (jd_int1 M.f_int (jv_var 2 rfl).int) (jd_lenL M.f_len (JV.dd (jv_sget (x := "cells") hr (jv_var 0 rfl) jv_str p4.at_ rfl) (.lst (.inl (.inl p4.ce)) (DpAll.ofInts cs)))) (by omega)) fun v5 H5 s5 hv5 => ?_
  rw [hm0] at hv5
  cases hv5
  have p5 : DrP K H5 a c l cs ls (t + 1) := ⟨s5 _ _ p4.at_, s5 _ _ p4.ce, s5 _ _ p4.le, p.ne, p.len, p.ac, p.al, p.cl⟩
  have fr5 : ∀ b o, b ≠ a → H b = some o → H5 b = some o := fun b o h e => s5 _ _ (fr b o h e)
  have hlx : ls[t % cs.length]? = some (ls.getD (t % cs.length) 0) := by
    have : t % cs.length < ls.length := by rw [p.len]; exact hpl
    simp [List.getD, this]
  have hcx : cs[t % cs.length]? = some (cs.getD (t % cs.length) 0) := by simp [List.getD, hpl]
  generalize ls.getD (t % cs.length) 0 = lv at hlx
  generalize cs.getD (t % cs.length) 0 = cv at hcx
  refine jss_set 4 S_law_draw.nd (d := .int lv) (jd_ixL (JV.dd (jv_sget (x := "lefts") hr (jv_var 0 rfl) jv_str p5.at_ rfl) (.lst (.inl (.inl p5.le)) (DpAll.ofInts ls))) (jv_var 3 rfl).int (atI_nat (by rw [List.getElem?_map, hlx]; rfl))) fun v6 H6 s6 hv6 => ?_
  cases hv6
  have p6 : DrP K H6 a c l cs ls (t + 1) := ⟨s6 _ _ p5.at_, s6 _ _ p5.ce, s6 _ _ p5.le, p.ne, p.len, p.ac, p.al, p.cl⟩
  have fr6 : ∀ b o, b ≠ a → H b = some o → H6 b = some o := fun b o h e => s6 _ _ (fr5 b o h e)
  refine jss_cons (js_ifB (jb_gt (jv_var 4 rfl).int jd_int) (fun hb H7 s7 => ?_) fun hb H7 s7 => jss_nil ?_)
  · have p7 : DrP K H7 a c l cs ls (t + 1) := ⟨s7 _ _ p6.at_, s7 _ _ p6.ce, s7 _ _ p6.le, p.ne, p.len, p.ac, p.al, p.cl⟩
    refine jss_lput (k := t % cs.length) (JD.int (jd_fdiv (jv_var 4 rfl).int (jv_var 1 rfl).int ⟨by omega, by omega⟩)) (jv_sget (x := "lefts") hr (jv_var 0 rfl) jv_str p7.at_ rfl) (jv_var 3 rfl).int p7.le (by rw [List.length_map, p.len]; exact hpl) fun H8 s8 => ?_
    have em : lv % (m : Int) = ((lv % (m : Int)).toNat : Int) := by
      have := Int.emod_nonneg lv (show (m : Int) ≠ 0 by omega)
      omega
    have lm : (lv % (m : Int)).toNat < m := by
      have := Int.emod_lt_of_pos lv (show (0 : Int) < m by omega)
      have := Int.emod_nonneg lv (show (m : Int) ≠ 0 by omega)
      omega
    refine jss_one (js_ret (JD.je (jd_mod (jd_int1 M.f_int (jv_var 4 rfl).int) (jv_var 1 rfl).int (by omega)) fun v9 H9 s9 hv9 => ?_))
    rw [em] at hv9
    cases hv9
    have hl9 : H9 l = some (.lst ((ls.set (t % cs.length) (lv / (m : Int))).map V.int)) := s9 _ _ (by rw [upd_same, List.map_set])
    refine q _ H9 (ls.set (t % cs.length) (lv / (m : Int))) lm (fun b o h1 h2 e => s9 _ _ (by rw [upd_ne h2]; exact s8 _ _ (s7 _ _ (fr6 b o h1 e)))) ⟨s9 _ _ (by rw [upd_ne p.al]; exact s8 _ _ p7.at_), s9 _ _ (by rw [upd_ne p.cl]; exact s8 _ _ p7.ce), hl9, p.ne, by rw [List.length_set]; exact p.len, p.ac, p.al, p.cl⟩
  · have p7 : DrP K H7 a c l cs ls (t + 1) := ⟨s7 _ _ p6.at_, s7 _ _ p6.ce, s7 _ _ p6.le, p.ne, p.len, p.ac, p.al, p.cl⟩
    refine jss_set 5 S_law_draw.nd (d := .int (mix (mix cv (t : Int)) (40 + (t : Int)))) (jd_call (g_law_mixed M) hr (mix cv (t : Int), 40 + (t : Int)) ⟨by show (0 : Int) ≤ 40 + (t : Int); omega, by show 40 + (t : Int) ≤ 100000; omega⟩ (jds_cons (jd_call (g_law_mixed M) hr (cv, (t : Int)) ⟨by show (0 : Int) ≤ (t : Int); omega, by show (t : Int) ≤ 100000; omega⟩ (jds_cons (jd_ixL (JV.dd (jv_sget (x := "cells") hr (jv_var 0 rfl) jv_str p7.at_ rfl) (.lst (.inl (.inl p7.ce)) (DpAll.ofInts cs))) (jv_var 3 rfl).int (atI_nat (by rw [List.getElem?_map, hcx]; rfl))) (jds_cons (jv_var 2 rfl).int jds_nil))) (jds_cons (jd_add jd_int (jv_var 2 rfl).int) jds_nil))) fun v8 H8 s8 hv8 => ?_
    obtain ⟨n0, n1⟩ := mix_lt (mix cv (t : Int)) (40 + (t : Int))
    generalize mix (mix cv (t : Int)) (40 + (t : Int)) = nb at hv8 n0 n1
    obtain ⟨k0, k1⟩ := mix_lt nb (7 + (t : Int))
    refine jss_one (js_ret (JD.je (jd_mod (jd_fdiv (jd_int1 M.f_int (jd_add (jd_mul (jd_var 5 rfl hv8) jd_int (.inl ⟨by omega, by omega⟩)) (jd_call (g_law_mixed M) hr (nb, 7 + (t : Int)) ⟨by show (0 : Int) ≤ 7 + (t : Int); omega, by show 7 + (t : Int) ≤ 100000; omega⟩ (jds_cons (jd_var 5 rfl hv8) (jds_cons (jd_add jd_int (jv_var 2 rfl).int) jds_nil))))) jd_int ⟨by decide, by decide⟩) (jv_var 1 rfl).int (by omega)) fun v9 H9 s9 hv9 => ?_))
    generalize (nb * 2147483647 + mix nb (7 + (t : Int))) / 64 = big at hv9
    have em : big % (m : Int) = ((big % (m : Int)).toNat : Int) := by
      have := Int.emod_nonneg big (show (m : Int) ≠ 0 by omega)
      omega
    have lm : (big % (m : Int)).toNat < m := by
      have := Int.emod_lt_of_pos big (show (0 : Int) < m by omega)
      have := Int.emod_nonneg big (show (m : Int) ≠ 0 by omega)
      omega
    rw [em] at hv9
    cases hv9
    exact q _ H9 ls lm (fun b o h1 h2 e => s9 _ _ (s8 _ _ (s7 _ _ (fr6 b o h1 e)))) ⟨s9 _ _ (s8 _ _ p7.at_), s9 _ _ (s8 _ _ p7.ce), s9 _ _ (s8 _ _ p7.le), p.ne, p.len, p.ac, p.al, p.cl⟩
end
end K28
-- KD14
/-! KD14: the law's begin, its entry. -/
namespace K28
open PySem PySem.Spec PyProof.Rows L2
section
variable {P : Program} {w : World} {K : PySem.W.Frag} {mg : Str → Option Value} {base : Heap}
theorem S_law_begin : FnScope ["_law_script", "_law_cells", "_law_cell"] ["_law_script"] (defScope s_law_begin) := ⟨rfl, rfl, rfl, by decide +kernel, rfl, by decide +kernel, by decide +kernel⟩
def spBegin (K : PySem.W.Frag) : Sp := fun vs H Q _ => ∃ (v : V) (ns : List Int), vs = [v] ∧ Dp K H v (.list (ns.map PyData.int)) ∧ ns.length ≤ 1000 ∧ ∀ a c l cs ls H', Same H H' → H a = none → H c = none → H l = none → DrP K H' a c l cs ls 0 → Q (.ref a) H'
theorem jl_if {X : Cx} {a b c : Expr} {σ : L2.St} {H : Hp} {pos : Pos} {ds : List PyData} {p : Bool} (ht : JB X c σ H p) (h1 : p = true → JL X a σ H ds) (h2 : p = false → JL X b σ H ds) : JL X (.IfExp c a b pos) σ H ds := fun H1 s Q q => je_of (pe_ifExp ptj pej pej) (ht H1 s _ fun H2 s2 => by
  cases p with
  | true => exact iteT ((h1 rfl) H2 (s.trans s2) _ fun a vs H3 s3 hn ha hd => q a vs H3 (s2.trans s3) (same_none s2 hn) ha hd)
  | false => exact iteF ((h2 rfl) H2 (s.trans s2) _ fun a vs H3 s3 hn ha hd => q a vs H3 (s2.trans s3) (same_none s2 hn) ha hd))
theorem g_law_begin (M : Mo K mg) : FnG P w K mg base 1 "_law_begin" ["_law_script"] (spBegin K) := by
  refine fng M.d_law_begin S_law_begin (fun vs H Q E ⟨v, ns, h, _⟩ => by rw [h]; rfl) (fun f cdv A outer s H vs Q E hr ⟨v, ns, e, hv, hl, q⟩ => ?_) (fun _ _ _ _ _ _ us hl => match us, hl with | [_], _ => rfl)
  subst e
  obtain ⟨cs, hcs⟩ : ∃ cs : List Int, cs = if ns.isEmpty = true then [0] else ns := ⟨_, rfl⟩
  have hcl : cs.length ≤ 1000 := by
    rw [hcs]
    split
    · simp
    · exact hl
  have hne : cs ≠ [] := by
    rw [hcs]
    cases ns with
    | nil => simp
    | cons a l => simp
  refine jss_setL 1 S_law_begin.nd (ds := cs.map PyData.int) (jl_if (p := !(ns.map PyData.int).isEmpty) (jb_fullL hr (jd_var 0 rfl hv) (shaped_ints ns)) (fun hb => ?_) fun hb => ?_) fun c us H1 s1 hnc hc hd => ?_
  · rw [isEmpty_map] at hb
    have : ns.isEmpty = false := by simpa using hb
    rw [hcs, this]
    exact jl_list1 M.f_list (jd_var 0 rfl hv)
  · rw [isEmpty_map] at hb
    have : ns.isEmpty = true := by simpa using hb
    rw [hcs, this]
    exact jl_lst (ds := [.int 0]) (jds_cons jd_int jds_nil) (small1 (by simp))
  have hus := hd.ints
  subst hus
  refine jss_one ?_
  refine js_ret ?_
  refine je_of (pe_disp (pps_cons pe_str pej (pps_cons pe_str pej (pps_cons pe_str pej (pps_cons pe_str pej pps_nil)))) rfl rfl (by simp) (by decide)) fun a ha => ?_
  have s12 : Same H1 (upd H1 a (.dK [])) := same_new ha
  refine JV.je (jv_var 1 rfl) fun H2 s2 => JL.je (ds := (cs.map fun z => if 1000000000000000000 ≤ z then z else 0).map PyData.int) (jl_lc1 (xs := cs) (da := PyData.int) (pr := fun _ => true) (r := fun z => PyData.int (if 1000000000000000000 ≤ z then z else 0)) 2 rfl S_law_begin.nd (blkOk_by (own := [("_law_cell", 2)]) rfl) (jdi_list (jr_var 1 rfl ((s12.trans s2) _ _ hc) (DpAll.ofInts cs)).jd) (small1 (by omega)) (by rw [filter_yes, List.map_map]; rfl)
    (fun z hz u H3 s3 hu s0 H0 C cl fp => ⟨jbs_nil, fun _ => ?_⟩)) fun l us H3 s3 hnl hl3 hdl => JV.je jv_int fun H4 s4 => JV.je jv_int fun H5 s5 => ?_
  · have e : (1000000000000000000 : Int) = 10 ^ (18 : Int).toNat := by decide
    refine jd_if (p := decide (1000000000000000000 ≤ z)) (by rw [e]; exact jb_ge (jd_var 2 rfl hu) (jd_pow jd_int jd_int ⟨by decide, by decide, by decide⟩)) (fun hb => ?_) fun hb => ?_
    · rw [if_pos (of_decide_eq_true hb)]
      exact jd_var 2 rfl hu
    · rw [if_neg (of_decide_eq_false hb)]
      exact jd_int
  · have hus := hdl.ints
    subst hus
    have s25 := s2.trans (s3.trans (s4.trans s5))
    have ha5 := s25 _ _ (upd_same (H := H1) (a := a) (o := .dK []))
    have hnla : l ≠ a := fun z => by
      have := s2 _ _ (upd_same (H := H1) (a := a) (o := .dK []))
      rw [← z, hnl] at this
      cases this
    have hc5 := s25 _ _ (s12 _ _ hc)
    have hl5 := (s4.trans s5) _ _ hl3
    have hca : c ≠ a := ne_of_none hc ha
    have hcl2 : c ≠ l := ne_of_none ((s12.trans s2) _ _ hc) hnl
    refine ⟨ha5, [(Sum.inr "cells", .ref c), (Sum.inr "lefts", .ref l), (Sum.inr "at", .int 0), (Sum.inr "room", .int 0)], rfl, by simp, ?_⟩
    refine q a c l cs _ _ (same_upd (s1.trans (s12.trans s25)) (same_none s1 ha)) (same_none s1 ha) hnc (same_none ((s1.trans s12).trans s2) hnl) ⟨upd_same, by rw [upd_ne hca]; exact hc5, by rw [upd_ne hnla]; exact hl5, hne, by simp, Ne.symm hca, Ne.symm hnla, hcl2⟩
/-! ### the entry -/
end
theorem merge_new : ∀ {more kvs : List (Key × V)}, ((kvs ++ more).map (·.1)).Nodup → mergeK kvs more = kvs ++ more
  | [], kvs, _ => by simp [mergeK]
  | p :: more, kvs, h => by
    have h1 : putK kvs p.1 p.2 = kvs ++ [p] := by
      unfold putK
      rw [if_neg]
      intro z
      have z := (any_key kvs p.1).mp z
      rw [List.map_append, List.map_cons] at h
      exact (List.nodup_append.mp h).2.2 _ z _ List.mem_cons_self rfl
    show mergeK (putK kvs p.1 p.2) more = _
    rw [h1, merge_new (by simpa using h)]
    simp
theorem je_disp5 {X : Cx} {σ : L2.St} {H : Hp} {Q : VK} {pos q1 q2 q3 q4 q5 : Pos} {j1 j2 j3 j4 j5 : Nat} {k1 k2 k3 k4 k5 : Str} {v1 v2 v3 v4 v5 : Expr}
    (h : ∀ a, H a = none → JE X v1 σ (upd H a (.dK [])) fun y1 H1 => JE X v2 σ H1 fun y2 H2 => JE X v3 σ H2 fun y3 H3 => JE X v4 σ H3 fun y4 H4 => JE X v5 σ H4 fun y5 H5 => H5 a = some (.dK []) ∧ Q (.ref a) (upd H5 a (.dK [(Sum.inr k1, y1), (Sum.inr k2, y2), (Sum.inr k3, y3), (Sum.inr k4, y4), (Sum.inr k5, y5)])))
    (hm : [(Sum.inr k1 : Key), Sum.inr k2, Sum.inr k3, Sum.inr k4, Sum.inr k5].Nodup := by decide +kernel) :
    JE X (.Dict [some (.Constant (.str k1) j1 q1), some (.Constant (.str k2) j2 q2), some (.Constant (.str k3) j3 q3), some (.Constant (.str k4) j4 q4), some (.Constant (.str k5) j5 q5)] [v1, v2, v3, v4, v5] pos) σ H Q :=
  je_of (pe_disp (pps_cons pe_str pej (pps_cons pe_str pej (pps_cons pe_str pej (pps_cons pe_str pej (pps_cons pe_str pej pps_nil))))) rfl rfl (by simp) (by simp)) fun a ha => by
    show JE X v1 σ (upd H a (.dK [])) fun y1 H1 => JE X v2 σ H1 fun y2 H2 => JE X v3 σ H2 fun y3 H3 => JE X v4 σ H3 fun y4 H4 => JE X v5 σ H4 fun y5 H5 => _
    refine JE.mono (h a ha) fun y1 H1 h1 => JE.mono h1 fun y2 H2 h2 => JE.mono h2 fun y3 H3 h3 => JE.mono h3 fun y4 H4 h4 => JE.mono h4 fun y5 H5 h5 => ?_
    refine ⟨h5.1, [(Sum.inr k1, y1), (Sum.inr k2, y2), (Sum.inr k3, y3), (Sum.inr k4, y4), (Sum.inr k5, y5)], rfl, by simp, ?_⟩
    rw [merge_new (kvs := []) (by simpa using hm)]
    exact h5.2
structure LE where
  busy : List Bz
  writes : List (Int × Pr)
  reads : List (Int × List Pr)
  many : Nat
  cells : List Int
def entF (ub : V) (bw br : Addr) (n : Nat) (uc : V) : List (Key × V) := [(Sum.inr "busy", ub), (Sum.inr "writes", .ref bw), (Sum.inr "reads", .ref br), (Sum.inr "many", .int (n : Nat)), (Sum.inr "cells", uc)]
structure LeP (K : PySem.W.Frag) (H : Hp) (L : LE) (a : Addr) (ub : V) (bw br : Addr) (uc : V) : Prop where
  at_ : H a = some (.dK (entF ub bw br L.many uc))
  bu : Dp K H ub (pBs L.busy)
  wr : DM K H bw pC L.writes
  re : DM K H br pCs L.reads
  ce : Dp K H uc (pI L.cells)
def LeAt (K : PySem.W.Frag) (H : Hp) (v : V) (L : LE) : Prop := ∃ a ub bw br uc, v = .ref a ∧ LeP K H L a ub bw br uc
theorem LeP.on {K : PySem.W.Frag} {H H' : Hp} {L : LE} {a : Addr} {ub : V} {bw br : Addr} {uc : V} (h : LeP K H L a ub bw br uc) (s : Same H H') : LeP K H' L a ub bw br uc := ⟨s _ _ h.at_, h.bu.on s, h.wr.on s, h.re.on s, h.ce.on s⟩
theorem LeAt.on {K : PySem.W.Frag} {H H' : Hp} {v : V} {L : LE} (h : LeAt K H v L) (s : Same H H') : LeAt K H' v L := let ⟨a, ub, bw, br, uc, e, p⟩ := h; ⟨a, ub, bw, br, uc, e, p.on s⟩
structure LOk (L : LE) : Prop where
  wr : L.writes.length < 60
  re : L.reads.length < 60
  rd : ∀ n l, getM L.reads n = some l → l.length ≤ 1000
  bu : L.busy.length ≤ 6
  ce : L.cells.length ≤ 1000
section
variable {X : Cx} {e o : Expr} {σ : L2.St} {H : Hp} {p pos : Pos} {n : Nat} {L : LE} {a : Addr} {ub uc : V} {bw br : Addr} {j : Nat} {p2 : Pos}
theorem jd_ebusy (hr : Room n X.A) (ho : JV X o σ H (.ref a)) (h : LeP X.K H L a ub bw br uc) : JD X (.Subscript o (.Constant (.str "busy") j p2) pos) σ H (pBs L.busy) := JV.dd (jv_sget (x := "busy") hr ho jv_str h.at_ rfl) h.bu
theorem jm_ewrites (hr : Room n X.A) (ho : JV X o σ H (.ref a)) (h : LeP X.K H L a ub bw br uc) : JM X (.Subscript o (.Constant (.str "writes") j p2) pos) σ H pC L.writes := JV.jm (jv_sget (x := "writes") hr ho jv_str h.at_ rfl) h.wr
theorem jm_ereads (hr : Room n X.A) (ho : JV X o σ H (.ref a)) (h : LeP X.K H L a ub bw br uc) : JM X (.Subscript o (.Constant (.str "reads") j p2) pos) σ H pCs L.reads := JV.jm (jv_sget (x := "reads") hr ho jv_str h.at_ rfl) h.re
theorem jv_emany (hr : Room n X.A) (ho : JV X o σ H (.ref a)) (h : LeP X.K H L a ub bw br uc) : JV X (.Subscript o (.Constant (.str "many") j p2) pos) σ H (.int (L.many : Nat)) := jv_sget (x := "many") hr ho jv_str h.at_ rfl
theorem jd_ecells (hr : Room n X.A) (ho : JV X o σ H (.ref a)) (h : LeP X.K H L a ub bw br uc) : JD X (.Subscript o (.Constant (.str "cells") j p2) pos) σ H (pI L.cells) := JV.dd (jv_sget (x := "cells") hr ho jv_str h.at_ rfl) h.ce
end
theorem jd_dgetD {X : Cx} {o i f : Expr} {σ : L2.St} {H : Hp} {apos pos : Pos} {α : Type} {da : α → PyData} {m : List (Int × α)} {k : Int} {d y : PyData} {n : Nat} (hr : Room n X.A) (ho : JM X o σ H da m) (hi : JD X i σ H (.int k)) (hf : JD X f σ H d) (hy : (match getM m k with | some x => da x | none => d) = y)
    (mm : M2 X o "get" apos i f pos := by exact ⟨rfl, rfl, rfl, rfl⟩) : JD X (.Call (.Attribute o "get" apos) [i, f] [] pos) σ H y := jd_dget2 hr ho hi hf y hy mm
def namesL (L : LE) : List Int := srt (keysM L.writes)
def recLV (L : LE) (n : Int) : Vl := ((getM L.writes n).getD (0, 0), (getM L.reads n).getD [])
def recL (L : LE) : List Vl := (namesL L).map (recLV L)
theorem namesL_len {L : LE} (ok : LOk L) : (namesL L).length < 60 := by
  unfold namesL keysM
  rw [srt_len, List.length_map]
  exact ok.wr
theorem namesL_in {L : LE} {n : Int} (h : n ∈ namesL L) : n ∈ keysM L.writes := (srt_perm _).mem_iff.mp h
def opens (L : LE) : List Int := (namesL L).filter fun n => decide (((getM L.reads n).getD []).length < 4)
def spLNow (K : PySem.W.Frag) : Sp := fun vs H Q _ => ∃ v L, vs = [v] ∧ LeAt K H v L ∧ LOk L ∧ ∀ r H', Same H H' → Dp K H' r (pR (recL L)) → Q r H'
def spLOpen (K : PySem.W.Frag) : Sp := fun vs H Q _ => ∃ v L, vs = [v] ∧ LeAt K H v L ∧ LOk L ∧ ∀ a us H', Same H H' → H a = none → H' a = some (.lst us) → DpAll K H' us ((opens L).map PyData.int) → Q (.ref a) H'
section
variable {P : Program} {w : World} {K : PySem.W.Frag} {mg : Str → Option Value} {base : Heap}
theorem S_law_now : FnScope ["_law_entry", "_law_got", "_law_name", "_law_begin_here", "_law_end"] ["_law_entry"] (defScope s_law_now) := ⟨rfl, rfl, rfl, by decide +kernel, rfl, by decide +kernel, by decide +kernel⟩
theorem S_law_open : FnScope ["_law_entry", "_law_name"] ["_law_entry"] (defScope s_law_open) := ⟨rfl, rfl, rfl, by decide +kernel, rfl, by decide +kernel, by decide +kernel⟩
theorem S_law_empty : FnScope ["_law_many"] ["_law_many"] (defScope s_law_empty) := ⟨rfl, rfl, rfl, by decide +kernel, rfl, by decide +kernel, by decide +kernel⟩
theorem g_law_now (M : Mo K mg) : FnG P w K mg base 1 "_law_now" ["_law_entry"] (spLNow K) := by
  refine fng M.d_law_now S_law_now (fun vs H Q E ⟨v, L, h, _⟩ => by rw [h]; rfl) (fun f cdv A outer s H vs Q E hr ⟨v, L, e, hL, ok, q⟩ => ?_) (fun _ _ _ _ _ _ us hl => match us, hl with | [_], _ => rfl)
  subst e
  obtain ⟨a, ub, bw, br, uc, e, p⟩ := id hL
  subst e
  have hnl := namesL_len ok
  have hwr := ok.wr
  refine jss_setL 1 S_law_now.nd (ds := []) (jl_lst jds_nil (small1 (by simp))) fun l us H1 s1 hn1 hl1 hd1 => ?_
  cases hd1
  refine jss_cons (js_forL 2 (passes_of rfl) rfl S_law_now.nd (JL.je (jl_sortedM rfl M.f_sorted (jm_ewrites hr (jv_var 0 rfl) (p.on s1)) (by omega)) fun la ns H2 s2 hna hla hda => ?_))
  have hns := hda.ints
  subst hns
  have hne : la ≠ l := ne_of_none' hl1 hna
  refine ⟨la, (namesL L).map V.int, fun j σ' H' => ∃ vs x y z, σ' = [some (.ref a), some (.ref l), x, y, z] ∧ SameX l H2 H' ∧ H' l = some (.lst vs) ∧ DpAll K H' vs (((namesL L).take j).map fun n => pV (recLV L n)), rfl, ⟨[], none, none, none, rfl, sx_refl, s2 _ _ hl1, by simpa using DpAll.nil⟩, ?_, ?_, ?_⟩
  · rintro j σ' H' ⟨vs, x, y, z, _, sx, _, _⟩
    exact .inl (.inl (sx _ _ hne hla))
  · rintro j v σ' H' hj ⟨vs, x, y, z, e, sx, hl, hd⟩
    subst e
    rw [List.getElem?_map] at hj
    cases hnj : (namesL L)[j]? with
    | none => rw [hnj] at hj; cases hj
    | some n =>
      rw [hnj] at hj
      cases hj
      have hj : j < (namesL L).length := (List.getElem?_eq_some_iff.mp hnj).1
      have hmem := namesL_in (List.mem_of_getElem? hnj)
      have s3 : Same H H' := same_sxn (s1.trans s2) sx hn1
      have p3 := p.on s3
      have hvl := hd.len
      rw [List.length_map, List.length_take] at hvl
      refine jss_set2D 3 4 rfl S_law_now.nd (d1 := .int (recLV L n).1.1) (d2 := .int (recLV L n).1.2) (jd_dget (da := pC) (x := (getM L.writes n).getD (0, 0)) hr (jm_ewrites hr (jv_var 0 rfl) p3) (jv_var 2 rfl).int (getM_of (0, 0) hmem)) fun u1 u2 H4 s4 hu1 hu2 => ?_
      have p4 := p3.on s4
      refine jss_append (d := pV (recLV L n)) (jv_var 1 rfl) (jd_tup (jds_cons (jd_tup (jds_cons (jd_var 3 rfl hu1) (jds_cons (jd_var 4 rfl hu2) jds_nil)) (small1 (by simp))) (jds_cons (jd_dget2 hr (jm_ereads hr (jv_var 0 rfl) p4) (jv_var 2 rfl).int (jd_tup jds_nil (small1 (by simp))) (pCs (recLV L n).2) (by unfold recLV; cases getM L.reads n <;> rfl)) jds_nil)) (small1 (by simp))) (s4 _ _ hl) (small1' (by omega)) fun y H5 s5 hy => ?_
      have hl5 := s5 _ _ (s4 _ _ hl)
      refine jss_nil ⟨_, _, _, _, rfl, sx_upd (sx_same (sx_same sx s4) s5), upd_same, ?_⟩
      rw [List.take_add_one, hnj, List.map_append]
      exact DpAll.app (dpa_tups (tups_lst hl5) _ _ (lfs_map fun _ _ => lf_pV _) (hd.on (s4.trans s5))) (.cons (dp_tups (tups_lst hl5) _ _ (lf_pV _) hy) .nil)
  · rintro σ' H' ⟨vs, x, y, z, e, sx, hl, hd⟩
    subst e
    rw [List.length_map, List.take_of_length_le (Nat.le_refl _)] at hd
    have s3 : Same H H' := same_sxn (s1.trans s2) sx hn1
    refine jss_one (js_ret ((jd_tuple1 M.f_tuple (jr_var 1 rfl hl hd).jd).je fun r H4 s4 hr => q r H4 (s3.trans s4) ?_))
    unfold recL pR
    rw [List.map_map]
    exact hr
theorem g_law_open (M : Mo K mg) : FnG P w K mg base 1 "_law_open" ["_law_entry"] (spLOpen K) := by
  refine fng M.d_law_open S_law_open (fun vs H Q E ⟨v, L, h, _⟩ => by rw [h]; rfl) (fun f cdv A outer s H vs Q E hr ⟨v, L, e, hL, ok, q⟩ => ?_) (fun _ _ _ _ _ _ us hl => match us, hl with | [_], _ => rfl)
  subst e
  obtain ⟨a, ub, bw, br, uc, e, p⟩ := id hL
  subst e
  have hnl := namesL_len ok
  have hwr := ok.wr
  refine jss_one (js_ret (JL.je (jl_lc1 (xs := namesL L) (da := PyData.int) (pr := fun n => decide (((getM L.reads n).getD []).length < 4)) (r := PyData.int) 1 rfl S_law_open.nd (blkOk_by (own := [("_law_name", 1)]) rfl) (jdi_list (jl_sortedM rfl M.f_sorted (jm_ewrites hr (jv_var 0 rfl) p) (by omega)).jd) (small1 (by omega)) rfl
    (fun n hn u H2 s2 hu s0 H0 C cl fp => ⟨jbs_one ?_, fun _ => jd_var 1 rfl hu⟩)) q))
  have e : decide (((getM L.reads n).getD []).length < 4) = decide ((((getM L.reads n).getD []).length : Int) < 4) := by
    by_cases h : ((getM L.reads n).getD []).length < 4
    · rw [decide_eq_true h, decide_eq_true (by omega)]
    · rw [decide_eq_false h, decide_eq_false (by omega)]
  rw [e, ← List.length_map (f := pC)]
  refine jb_lt (jd_lenT M.f_len ?_) jd_int
  show JD _ _ _ _ (pCs ((getM L.reads n).getD []))
  exact jd_dgetD hr (jm_ereads hr (jv_var 0 rfl) (p.on s2)) (jd_var 1 rfl hu) (jd_tup jds_nil (small1 (by simp))) (by cases getM L.reads n <;> rfl)
def ent0 (n : Nat) : LE := ⟨List.replicate n .free, [], [], 0, []⟩
def spLEmpty (K : PySem.W.Frag) : Sp := fun vs H Q _ => ∃ n : Nat, vs = [.int (n : Nat)] ∧ 1 ≤ n ∧ n ≤ 6 ∧ ∀ r H', Same H H' → LeAt K H' r (ent0 n) → Q r H'
theorem g_law_empty (M : Mo K mg) : FnG P w K mg base 1 "_law_empty" ["_law_many"] (spLEmpty K) := by
  refine fng M.d_law_empty S_law_empty (fun vs H Q E ⟨n, h, _⟩ => by rw [h]; rfl) (fun f cdv A outer s H vs Q E hr ⟨n, e, n1, n2, q⟩ => ?_) (fun _ _ _ _ _ _ us hl => match us, hl with | [_], _ => rfl)
  subst e
  have eb : pBs (List.replicate n .free) = .tuple (List.replicate n .none) := by unfold pBs; rw [List.map_replicate]; rfl
  refine jss_one ?_
  refine js_ret ?_
  refine je_disp5 fun a ha => ?_
  refine JD.je (d := pBs (List.replicate n .free)) (by rw [eb]; exact jd_nones (jd_tup (jds_cons jd_non jds_nil) (small1 (by simp))) (jd_int1 M.f_int (jv_var 0 rfl).int) n1 (by omega)) fun ub H2 s2 hub => JMF.je (da := pC) jmf_new fun bw H3 s3 hnw hw => JMF.je (da := pCs) jmf_new fun br H4 s4 hnr hre => JV.je jv_int fun H5 s5 => JD.je (d := pI []) (jd_tup jds_nil (small1 (by simp))) fun uc H6 s6 huc => ?_
  have s26 := s2.trans (s3.trans (s4.trans (s5.trans s6)))
  have ha6 := s26 _ _ (upd_same (H := H) (a := a) (o := .dK []))
  have dnew : ∀ {α : Type} {b : Addr} {da : α → PyData} {u : HO}, DM K H6 b da [] → b ≠ a → DM K (upd H6 a u) b da [] := fun {α b da u} ⟨kvs, h1, h2⟩ h => by
    cases h2
    exact ⟨[], by rw [upd_ne h]; exact h1, Paired.nil⟩
  have hwa : bw ≠ a := fun z => by
    have := s2 _ _ (upd_same (H := H) (a := a) (o := .dK []))
    rw [← z, hnw] at this
    cases this
  have hra : br ≠ a := fun z => by
    have := (s2.trans s3) _ _ (upd_same (H := H) (a := a) (o := .dK []))
    rw [← z, hnr] at this
    cases this
  refine ⟨ha6, ?_⟩
  exact q _ _ (same_upd ((same_new ha).trans s26) ha) ⟨a, ub, bw, br, uc, rfl, upd_same, dp_tups (tups_dK ha6) _ _ (lf_pBs _) (hub.on (s3.trans (s4.trans (s5.trans s6)))), dnew (hw.on (s4.trans (s5.trans s6))) hwa, dnew (hre.on (s5.trans s6)) hra, dp_tups (tups_dK ha6) _ _ (lf_pI _) huc⟩
end
end K28
-- KPut
/-! KPut: stores into a list, and into a list and a dict at once. -/
namespace K28
open PySem PySem.Spec PyProof.Rows L2
theorem ixN_lt {k n : Nat} (h : k < n) : ixN n (k : Int) = some k := by
  unfold ixN
  rw [if_pos (by omega), if_pos (by omega)]
  simp
section
variable {X : Cx} {o i o2 i2 : Expr} {sts : List Stmt} {D : Ends} {σ : L2.St} {H : Hp} {pos pos' pos2 : Pos}
theorem jss_lputD {q : Addr} {xs : List V} {value : Expr} {k : Nat} {d : PyData} (hv : JD X value σ H d) (ho : JV X o σ H (.ref q)) (hi : JD X i σ H (.int (k : Nat))) (hq : H q = some (.lst xs)) (hk : k < xs.length) (h : ∀ u H1, Same H H1 → Dp X.K H1 u d → JSs X sts D σ (upd H1 q (.lst (xs.set k u))))
    (ha : ∀ v, assign (.Subscript o i pos') X.env v = (do
      let ov ← holding [v] (eval o X.env)
      let iv ← holding [v, ov] (eval i X.env)
      standAt pos'
      holding [v, ov, iv] (setItem ov iv v)
      release [v, ov, iv] []) := by intro _; rfl)
    (hs : swapsWithSole [.Subscript o i pos'] value pos.line X.env = pure false := by rfl) (hw : swappedStores [.Subscript o i pos'] value X.env = pure none := by rfl) (h1 : (assignEach [.Subscript o i pos'] X.env).map (·.2) = [assign (.Subscript o i pos') X.env] := by rfl) : JSs X (.Assign [.Subscript o i pos'] value pos :: sts) D σ H :=
  jss_cons (js_of (ps_asg pej (pg_sub pej pej set_list ha) hs hw h1) (hv H (Same.refl H) _ fun u H1 s1 hu => ho H1 s1 _ fun H2 s2 => hi.int H2 (s1.trans s2) _ fun H3 s3 =>
    ⟨q, xs, (k : Int), k, rfl, rfl, (s1.trans (s2.trans s3)) _ _ hq, ixN_lt hk, h u H3 (s1.trans (s2.trans s3)) (hu.on (s2.trans s3))⟩))
/-- l[k], m[n] = e : a place of a list and a key of a dict -/
theorem jss_put2 {q q2 : Addr} {xs : List V} {kvs : List (Key × V)} {value : Expr} {k kt m : Nat} {pt : Pos} {n : Int} {d1 d2 : PyData} (hr : Room m X.A) (hc : X.calm = true) (hv : JD X value σ H (.tuple [d1, d2])) (ho : ∀ H, JV X o σ H (.ref q)) (hi : ∀ H, JD X i σ H (.int (k : Nat))) (hq : H q = some (.lst xs)) (hk : k < xs.length)
    (ho2 : ∀ H, JV X o2 σ H (.ref q2)) (hi2 : ∀ H, JD X i2 σ H (.int n)) (hq2 : H q2 = some (.dK kvs)) (hne : q ≠ q2) (hl : kvs.length < sizeLine)
    (h : ∀ u1 u2 H1 H2, Same H H1 → Same (upd H1 q (.lst (xs.set k u1))) H2 → Dp X.K H1 u1 d1 → Dp X.K H1 u2 d2 → JSs X sts D σ (upd H2 q2 (.dK (putK kvs (Sum.inl n) u2))))
    (ha : ∀ v, assign (.Subscript o i pos') X.env v = (do
      let ov ← holding [v] (eval o X.env)
      let iv ← holding [v, ov] (eval i X.env)
      standAt pos'
      holding [v, ov, iv] (setItem ov iv v)
      release [v, ov, iv] []) := by intro _; rfl)
    (ha2 : ∀ v, assign (.Subscript o2 i2 pos2) X.env v = (do
      let ov ← holding [v] (eval o2 X.env)
      let iv ← holding [v, ov] (eval i2 X.env)
      standAt pos2
      holding [v, ov, iv] (setItem ov iv v)
      release [v, ov, iv] []) := by intro _; rfl)
    (hs : swapsWithSole [.Tuple [.Subscript o i pos', .Subscript o2 i2 pos2] kt pt] value pos.line X.env = pure false := by rfl) (hw : swappedStores [.Tuple [.Subscript o i pos', .Subscript o2 i2 pos2] kt pt] value X.env = pure none := by rfl)
    (h1 : (assignEach [.Tuple [.Subscript o i pos', .Subscript o2 i2 pos2] kt pt] X.env).map (·.2) = [assign (.Tuple [.Subscript o i pos', .Subscript o2 i2 pos2] kt pt) X.env] := by rfl) 
    (hst : (assignEach [.Subscript o i pos', .Subscript o2 i2 pos2] X.env) = [(false, assign (.Subscript o i pos') X.env), (false, assign (.Subscript o2 i2 pos2) X.env)] := by rfl) : JSs X (.Assign [.Tuple [.Subscript o i pos', .Subscript o2 i2 pos2] kt pt] value pos :: sts) D σ H := by
  have hu1 : X.A.units + 1 < cLine := by have := hr.un; omega
  refine jss_cons (js_of (ps_asg pej (pg_tup hc (pgs_cons (pg_sub pej pej set_list ha) (pgs_cons (pg_sub pej pej (set_dict hu1) ha2) pgs_nil)) (by rw [hst]) (by rw [hst]; rfl)) hs hw h1) ?_)
  refine hv H (Same.refl H) _ fun vt H7 s7 hvt => ?_
  cases hvt with
  | tup t1 t2 =>
    obtain ⟨y1, y2, rfl, g1, g2⟩ := dpa2 t2
    refine ⟨_, _, rfl, t1, rfl, _, _, rfl, ?_⟩
    refine ho H7 H7 (Same.refl _) _ fun H8 s8 => hi H8 |>.int H8 (Same.refl _) _ fun H9 s9 => ?_
    have s79 := s8.trans s9
    have hq9 := (s7.trans s79) _ _ hq
    refine ⟨q, xs, (k : Int), k, rfl, rfl, hq9, ixN_lt hk, _, _, rfl, ?_⟩
    refine ho2 _ _ (Same.refl _) _ fun H11 s11 => hi2 H11 |>.int H11 (Same.refl _) _ fun H12 s12 => ?_
    have hq12 : H12 q2 = some (.dK kvs) := (s11.trans s12) _ _ (by rw [upd_ne (Ne.symm hne)]; exact (s7.trans s79) _ _ hq2)
    exact ⟨q2, _, rfl, DPut.k (k := Sum.inl n) hq12 hl, rfl, h y1 y2 H9 H12 (s7.trans s79) (s11.trans s12) (g1.on s79) (g2.on s79)⟩
end
end K28
-- KD15
/-! KD15: the law's deed, done on its entry. -/
namespace K28
open PySem PySem.Spec PyProof.Rows L2
inductive Dd where
  | wr (h : Nat) (n : Int)
  | rd (h : Nat)
  | dw (h : Nat)
  | dr (h : Nat) (n : Int)
def Dd.word : Dd → Str
  | .wr _ _ => "write"
  | .rd _ => "read"
  | .dw _ => "done"
  | .dr _ _ => "done"
def Dd.hand : Dd → Nat
  | .wr h _ => h
  | .rd h => h
  | .dw h => h
  | .dr h _ => h
def Dd.nm : Dd → V
  | .wr _ n => .int n
  | .rd _ => .non
  | .dw _ => .non
  | .dr _ n => .int n
def Dd.pn : Dd → PyData
  | .wr _ n => .int n
  | .rd _ => .none
  | .dw _ => .none
  | .dr _ n => .int n
def pDd (d : Dd) : PyData := .tuple [.str d.word, .int (d.hand : Nat), d.pn]
theorem lf_pDd (d : Dd) : lf (pDd d) = true := by cases d <;> rfl
def bzL (L : LE) (i : Nat) : Bz := L.busy.getD i .free
def DdOk (L : LE) (d : Dd) : Prop := d.hand < L.busy.length ∧ match d with
  | .wr _ _ => True
  | .rd _ => True
  | .dw h => ∃ n b, bzL L h = .wr n b
  | .dr h _ => ∃ b, bzL L h = .rd b
def stepL (L : LE) (d : Dd) : LE := match d with
  | .wr h n => { L with busy := L.busy.set h (.wr n (L.many : Nat)), writes := putM L.writes n ((L.many : Nat), 1000000000), many := L.many + 1 }
  | .rd h => { L with busy := L.busy.set h (.rd (L.many : Nat)), many := L.many + 1 }
  | .dw h => match bzL L h with
    | .wr n b => { L with busy := L.busy.set h .free, writes := putM L.writes n (b, (L.many : Nat)), many := L.many + 1 }
    | _ => L
  | .dr h n => match bzL L h with
    | .rd b => { L with busy := L.busy.set h .free, reads := putM L.reads n ((getM L.reads n).getD [] ++ [(b, ((L.many : Nat) : Int))]), many := L.many + 1 }
    | _ => L
def doneL (L : LE) (d : Dd) : LE := { stepL L d with cells := L.cells ++ [lawCrowd (recL (stepL L d))] }
def spLDone (K : PySem.W.Frag) : Sp := fun vs H Q _ => ∃ v u L d, vs = [v, u] ∧ LeAt K H v L ∧ LOk L ∧ Dp K H u (pDd d) ∧ DdOk L d ∧ LOk (doneL L d) ∧ (doneL L d).many = L.many + 1 ∧ ROk (recL (stepL L d)) ∧ (recL (stepL L d)).length ≤ 12 ∧ ∀ r H', Same H H' → LeAt K H' r (doneL L d) → Q r H'
theorem dm_upd {α : Type} {K : PySem.W.Frag} {H : Hp} {a b : Addr} {da : α → PyData} {m : List (Int × α)} {o u : HO} (h : DM K H b da m) (ha : H a = some u) (hu : ∀ xs, u ≠ .tup xs) (hf : ∀ ob xs, u ≠ .frz ob (.tup xs)) (hn : b ≠ a) (hl : ∀ x, lf (da x) = true) : DM K (upd H a o) b da m := by
  obtain ⟨kvs, h1, h2⟩ := h
  exact ⟨kvs, by rw [upd_ne hn]; exact h1, h2.tups (tups_upd ha hu hf) hl⟩
section
variable {P : Program} {w : World} {K : PySem.W.Frag} {mg : Str → Option Value} {base : Heap}
theorem jd_law_now {X : Cx} {e : Expr} {σ : L2.St} {H : Hp} {p pos : Pos} {v : V} {L : LE} {n : Nat} (M : Mo X.K X.mg) (hr : Room (n + 1) X.A) (he0 : JV X e σ H v) (hL : LeAt X.K H v L) (ok : LOk L) (hg : Gl X "_law_now" := by rfl) (he : starEach [e] X.env = (false, eval e X.env) :: starEach [] X.env := by rfl) (hpl : (backTo pos (starEach [] X.env)).any (·.1) = false := by rfl) :
    JD X (.Call (.Name "_law_now" p) [e] [] pos) σ H (pR (recL L)) := fun H1 s Q q =>
  je_call (E := E0) (g_law_now (P := X.prog) (w := X.w) (base := X.base) M) hr passL (ja_of (pa_cons pej pa_nil he) (he0 H1 s _ fun H2 s2 => ⟨v, L, rfl, hL.on (s.trans s2), ok, fun r H' s' h => q r H' (s2.trans s') h⟩)) (by omega) hg (by decide) he hpl
def doneN : List Str := ["_law_entry", "_law_deed_here", "_law_word", "_law_hand", "_law_name", "_law_busy", "_law_tick", "_law_writes", "_law_reads", "_law_kind", "_law_own", "_law_begin_here", "_law_later"]
theorem S_law_done : FnScope ["_law_entry", "_law_deed_here", "_law_word", "_law_hand", "_law_name", "_law_busy", "_law_tick", "_law_writes", "_law_reads", "_law_kind", "_law_own", "_law_begin_here", "_law_later"] ["_law_entry", "_law_deed_here"] (defScope s_law_done) := ⟨rfl, rfl, rfl, by decide +kernel, rfl, by decide +kernel, by decide +kernel⟩
/-- from the later entry's display on -/
theorem done_tail {f : Addr} {cdv : Value} {A : Around} {outer : List Env} {s : Shared} {H : Hp} {E : XK} {Q : VK} (M : Mo K mg) {n : Nat} (hr : Room (n + 5) (A.deeper (envOfC "_law_done" (defScope s_law_done) s.heap.objs.size f cdv))) {a l a7 a8 : Addr} {ub uc : V} {bw br : Addr} {L L' : LE} {v1 v2 v3 v4 : V} {x9 x10 x11 x12 : Option V} {H4 : Hp} {bs : List V}
    (p : LeP K H L a ub bw br uc) (s4 : Same H H4) (hl : H4 l = some (.lst bs)) (hd : DpAll K H4 bs (L'.busy.map pB)) (h7 : DM K H4 a7 pC L'.writes) (h8 : DM K H4 a8 pCs L'.reads) (hm : L'.many = L.many + 1) (hok : LOk { L' with cells := [] }) (hro : ROk (recL L')) (h12 : (recL L').length ≤ 12) (hcl : L.cells.length ≤ 1000)
    (q : ∀ r H', Same H H' → LeAt K H' r { L' with cells := L.cells ++ [lawCrowd (recL L')] } → Q r H') :
    JSs (cxOf (L2.CX P w) P w K mg base doneN "_law_done" (defScope s_law_done) f cdv A outer s H E) ((defBody s_law_done).drop 4) { nx := fun _ H' => Q .non H', rt := Q } [some (.ref a), some v1, some v2, some v3, some v4, some (.ref l), some (.int (L.many : Nat)), some (.ref a7), some (.ref a8), x9, x10, x11, x12] H4 := by
  refine jss_setE 12 S_law_done.nd ?_
  refine je_disp5 fun b hb => ?_
  have sb : Same H4 (upd H4 b (.dK [])) := same_new hb
  refine JD.je (d := pBs L'.busy) (jd_tuple1 M.f_tuple (jr_var 5 rfl (sb _ _ hl) (hd.on sb)).jd) fun ub' H5 s5 hub => JV.je (jv_var 7 rfl) fun H6 s6 => JV.je (jv_var 8 rfl) fun H7 s7 => JV.je (v := .int ((L.many + 1 : Nat) : Int)) (JD.int (by
    have e : ((L.many + 1 : Nat) : Int) = (L.many : Int) + 1 := by omega
    rw [e]
    exact jd_add (jv_var 6 rfl).int jd_int)) fun H8 s8 => JD.je (d := pI []) (jd_tup jds_nil (small1 (by simp))) fun uc' H9 s9 huc => ?_
  have s69 := s6.trans (s7.trans (s8.trans s9))
  have s59 := s5.trans s69
  have hb9 := s59 _ _ (upd_same (H := H4) (a := b) (o := .dK []))
  refine ⟨hb9, ?_⟩
  have n7 : a7 ≠ b := by obtain ⟨kv, z, _⟩ := h7; exact ne_of_none z hb
  have n8 : a8 ≠ b := by obtain ⟨kv, z, _⟩ := h8; exact ne_of_none z hb
  have H10eq : Same H4 (upd H9 b (.dK (entF ub' a7 a8 (L.many + 1) uc'))) := same_upd (sb.trans s59) hb
  have pl : ∀ {H : Hp} {o : HO}, H b = some (.dK []) → TupS H (upd H b o) := fun h => tups_dK h
  have pL : LeP K (upd H9 b (.dK (entF ub' a7 a8 (L.many + 1) uc'))) { L' with cells := [] } b ub' a7 a8 uc' :=
    ⟨by rw [upd_same, hm], dp_tups (pl hb9) _ _ (lf_pBs _) (hub.on s69), h7.on H10eq, h8.on H10eq, dp_tups (pl hb9) _ _ (lf_pI _) huc⟩
  generalize hH10 : upd H9 b (.dK (entF ub' a7 a8 (L.many + 1) uc')) = H10 at pL H10eq
  have s10 := s4.trans H10eq
  have hrec : recL { L' with cells := [] } = recL L' := rfl
  show JSs _ _ _ _ (upd H9 b (.dK (entF ub' a7 a8 (L.many + 1) uc')))
  rw [hH10]
  refine jss_sput (a := b) (n := n + 5) hr (JD.je (d := pI (L.cells ++ [lawCrowd (recL L')])) ?_ fun u H11 s11 hu => ⟨_, s11 _ _ pL.at_, small1' (by simp [entF]), fun H12 s12 => ?_⟩) (fun _ => jv_var 12 rfl) fun _ => jv_str
  · have e : pI (L.cells ++ [lawCrowd (recL L')]) = .tuple (L.cells.map PyData.int ++ [.int (lawCrowd (recL L'))]) := by unfold pI; rw [List.map_append]; rfl
    rw [e]
    exact jd_catT (jd_ecells (n := n + 5) hr (jv_var 0 rfl) (p.on s10)) (jd_tup (jds_cons (jd_call (g_law_crowd M) (hr.mono (by omega) : Room 5 _) (recL L') ⟨hro, h12⟩ (jds_cons (jd_law_now (L := { L' with cells := [] }) (n := n + 4) M hr (jv_var 12 rfl) ⟨b, ub', a7, a8, uc', rfl, pL⟩ hok) jds_nil)) jds_nil) (small1 (by simp))) (small1 (by simp; omega))
  · have pL12 := pL.on (s11.trans s12)
    have hb12 := pL12.at_
    have tp : TupS H12 (upd H12 b (.dK (putK (entF ub' a7 a8 L'.many uc') (Sum.inr "cells") u))) := tups_dK hb12
    have hbH : H b = none := same_none s4 hb
    have sF : Same H (upd H12 b (.dK (putK (entF ub' a7 a8 L'.many uc') (Sum.inr "cells") u))) := same_upd ((s10.trans s11).trans s12) hbH
    refine jss_one (js_ret (JV.je (jv_var 12 rfl) fun H13 s13 => q _ H13 (sF.trans s13) (LeAt.on ⟨b, ub', a7, a8, u, rfl, by rw [upd_same]; rfl, dp_tups tp _ _ (lf_pBs _) pL12.bu, dm_upd pL12.wr hb12 (fun _ z => nomatch z) (fun _ _ z => nomatch z) n7 lf_pC, dm_upd pL12.re hb12 (fun _ z => nomatch z) (fun _ _ z => nomatch z) n8 lf_pCs, dp_tups tp _ _ (lf_pI _) (hu.on s12)⟩ s13)))
theorem dpa_set {K : PySem.W.Frag} {H : Hp} {v : V} {d : PyData} (h : Dp K H v d) : ∀ {vs : List V} {ds : List PyData} (i : Nat), DpAll K H vs ds → DpAll K H (vs.set i v) (ds.set i d)
  | _, _, _, .nil => .nil
  | _, _, 0, .cons _ t => .cons h t
  | _, _, i + 1, .cons q t => .cons q (dpa_set h i t)
theorem lfs_busy (l : List Bz) : lfs (l.map pB) = true := lfs_map fun b _ => lf_pB b
theorem bzL_at {L : LE} {i : Nat} (h : i < L.busy.length) : (L.busy.map pB)[i]? = some (pB (bzL L i)) := by
  unfold bzL
  simp [List.getD, h]
theorem g_law_done (M : Mo K mg) : FnG P w K mg base 6 "_law_done" ["_law_entry", "_law_deed_here"] (spLDone K) := by
  refine fng M.d_law_done S_law_done (fun vs H Q E ⟨v, u, L, d, h, _⟩ => by rw [h]; rfl) (fun f cdv A outer s H vs Q E hr ⟨v, u, L, d, e, hL, okL, hu, hd, okD, hm, hro, h12, q⟩ => ?_) (fun _ _ _ _ _ _ us hl => match us, hl with | [_, _], _ => rfl)
  subst e
  obtain ⟨a, ub, bw, br, uc, e, p⟩ := id hL
  subst e
  have hcl := okL.ce
  have hwl := okL.wr
  have hrl := okL.re
  have hhl : d.hand < L.busy.length := hd.1
  have hok : LOk { stepL L d with cells := [] } := ⟨okD.wr, okD.re, okD.rd, okD.bu, Nat.zero_le _⟩
  refine jss_set3 2 3 4 rfl S_law_done.nd (JD.je (jd_var 1 rfl hu) fun v1 H1 s1 hv1 => ?_)
  cases hv1 with
  | tup k1 k2 =>
    obtain ⟨x1, x2, x3, rfl, j1, j2, j3⟩ := dpa3 k2
    refine ⟨_, x1, x2, x3, rfl, k1, ?_⟩
    cases j1
    cases j2
    have p1 := p.on s1
    refine jss_par 5 6 rfl S_law_done.nd (JL.je (jl_list1T M.f_list (jd_ebusy hr (jv_var 0 rfl) p1)) fun l bs H2 s2 hnl hl hbd => JV.je (jv_emany hr (jv_var 0 rfl) (p1.on s2)) fun H3 s3 => ?_)
    refine jss_par 7 8 rfl S_law_done.nd (JMF.je (jmf_dict M.f_dict (jm_ewrites hr (jv_var 0 rfl) (p1.on (s2.trans s3)))) fun a7 H4 s4 hn7 hd7 => JMF.je (jmf_dict M.f_dict (jm_ereads hr (jv_var 0 rfl) (p1.on ((s2.trans s3).trans s4)))) fun a8 H5 s5 hn8 hd8 => ?_)
    have s15 := ((s2.trans s3).trans s4).trans s5
    have s05 := s1.trans s15
    have hl5 := ((s3.trans s4).trans s5) _ _ hl
    have hbd5 := hbd.on ((s3.trans s4).trans s5)
    have hd75 := hd7.on s5
    have nlH : H l = none := same_none s1 hnl
    have n7H : H a7 = none := same_none ((s1.trans s2).trans s3) hn7
    have n8H : H a8 = none := same_none (((s1.trans s2).trans s3).trans s4) hn8
    have nl7 : l ≠ a7 := ne_of_none (s3 _ _ hl) hn7
    have nl8 : l ≠ a8 := ne_of_none ((s3.trans s4) _ _ hl) hn8
    have n78 : a7 ≠ a8 := by obtain ⟨kv, z, _⟩ := hd7; exact ne_of_none z hn8
    have hbsl : bs.length = L.busy.length := by rw [hbd.len, List.length_map]
    have hu1 : (A.deeper (envOfC "_law_done" (defScope s_law_done) s.heap.objs.size f cdv)).units + 1 < cLine := by have := hr.un; omega
    have hbs : ∀ {H' : Hp}, Same H5 H' → ∀ {h : Nat} {u : V} {b : Bz}, Dp K H' u (pB b) → DpAll K (upd H' l (.lst (bs.set h u))) (bs.set h u) ((L.busy.set h b).map pB) := fun {H'} s6 {h} {u} {b} hb => by
      have hset : DpAll K H' (bs.set h u) ((L.busy.map pB).set h (pB b)) := dpa_set hb h (hbd5.on s6)
      rw [← List.map_set] at hset
      exact dpa_tups (tups_lst (s6 _ _ hl5)) _ _ (lfs_busy _) hset
    have hdm7 : ∀ {H' : Hp} {o : HO}, Same H5 H' → DM K (upd H' l o) a7 pC L.writes := fun s6 => dm_upd (hd75.on s6) (s6 _ _ hl5) (fun _ z => nomatch z) (fun _ _ z => nomatch z) (Ne.symm nl7) lf_pC
    have hdm8 : ∀ {H' : Hp} {o : HO}, Same H5 H' → DM K (upd H' l o) a8 pCs L.reads := fun s6 => dm_upd (hd8.on s6) (s6 _ _ hl5) (fun _ z => nomatch z) (fun _ _ z => nomatch z) (Ne.symm nl8) lf_pCs
    have hh : d.hand < bs.length := by rw [hbsl]; exact hhl
    cases d with
    | wr h n =>
      cases j3
      refine jss_cons (js_ifT (by
        have e : decide (V.str "write" = V.str "write") = true := by decide
        rw [← e]
        exact jb_eqS (jv_var 2 rfl) jv_str rfl) fun H6 s6 => ?_)
      have h9 : (1000000000 : Int) = 10 ^ (9 : Int).toNat := by decide
      obtain ⟨kv, z1, z2⟩ := hd75.on s6
      refine jss_put2 (d1 := pB (.wr n (L.many : Nat))) (d2 := pC ((L.many : Nat), 1000000000)) (k := h) (n := n) hr rfl ?_ (fun _ => jv_var 5 rfl) (fun _ => (jv_var 3 rfl).int) (s6 _ _ hl5) hh (fun _ => jv_var 7 rfl) (fun _ => (jv_var 4 rfl).int) z1 nl7 (by rw [z2.len]; exact small1' (by omega)) (fun u1 u2 H7 H8 s7 s8 hu1' hu2' => ?_)
      · exact jd_tup (jds_cons (jd_tup (jds_cons jd_str (jds_cons (jv_var 4 rfl).int (jds_cons (jv_var 6 rfl).int jds_nil))) (small1 (by simp))) (jds_cons (jd_tup (jds_cons (jv_var 6 rfl).int (jds_cons (by rw [h9]; exact jd_pow jd_int jd_int ⟨by decide, by decide, by decide⟩) jds_nil)) (small1 (by simp))) jds_nil)) (small1 (by simp))
      · have s67 := s6.trans s7
        have hl7 := s67 _ _ hl5
        have z18 : H8 a7 = some (.dK kv) := s8 _ _ (by rw [upd_ne (Ne.symm nl7)]; exact s7 _ _ z1)
        have tp2 : TupS H8 (upd H8 a7 (.dK (putK kv (Sum.inl n) u2))) := tups_dK z18
        have tpl : TupS H7 (upd H7 l (.lst (bs.set h u1))) := tups_lst hl7
        refine jss_nil (done_tail (L' := stepL L (.wr h n)) M (n := 0) hr p (same_upd ((same_upd (s05.trans s67) nlH).trans s8) n7H) (by rw [upd_ne nl7]; exact s8 _ _ upd_same) ?_ ⟨_, upd_same, ?_⟩ (dm_upd ((hdm8 s67).on s8) z18 (fun _ z => nomatch z) (fun _ _ z => nomatch z) (Ne.symm n78) lf_pCs) hm hok hro h12 hcl q)
        · exact dpa_tups tp2 _ _ (lfs_busy _) ((hbs s67 hu1').on s8)
        · exact ((((z2.on s7).tups tpl lf_pC).on s8).put (x := ((L.many : Nat), 1000000000)) ((dp_tups tpl _ _ (lf_pC _) hu2').on s8)).tups tp2 lf_pC
    | rd h =>
      cases j3
      refine jss_cons (js_ifF (by
        have e : decide (V.str "read" = V.str "write") = false := by decide
        rw [← e]
        exact jb_eqS (jv_var 2 rfl) jv_str rfl) fun H6 s6 => ?_)
      refine jss_one (js_ifT (by
        have e : decide (V.str "read" = V.str "read") = true := by decide
        rw [← e]
        exact jb_eqS (jv_var 2 rfl) jv_str rfl) fun H7 s7 => ?_)
      have s67 := s6.trans s7
      refine jss_lputD (d := pB (.rd (L.many : Nat))) (k := h) ?_ (jv_var 5 rfl) (jv_var 3 rfl).int (s67 _ _ hl5) hh (fun u1 H8 s8 hu1' => ?_)
      · exact jd_tup (jds_cons jd_str (jds_cons jd_non (jds_cons (jv_var 6 rfl).int jds_nil))) (small1 (by simp))
      · have s68 := s67.trans s8
        exact jss_nil (done_tail (L' := stepL L (.rd h)) M (n := 0) hr p (same_upd (s05.trans s68) nlH) upd_same (hbs s68 hu1') (hdm7 s68) (hdm8 s68) hm hok hro h12 hcl q)
    | dw h =>
      obtain ⟨n, b, hz⟩ : ∃ n b, bzL L h = .wr n b := hd.2
      refine jss_cons (js_ifF (by
        have e : decide (V.str "done" = V.str "write") = false := by decide
        rw [← e]
        exact jb_eqS (jv_var 2 rfl) jv_str rfl) fun H6 s6 => ?_)
      refine jss_one (js_ifF (by
        have e : decide (V.str "done" = V.str "read") = false := by decide
        rw [← e]
        exact jb_eqS (jv_var 2 rfl) jv_str rfl) fun H7 s7 => ?_)
      have s67 := s6.trans s7
      refine jss_set3 9 10 11 rfl S_law_done.nd ((jd_ixL (d := pB (.wr n b)) (jr_var 5 rfl (s67 _ _ hl5) (hbd5.on s67)).jd (jv_var 3 rfl).int (atI_nat (by rw [bzL_at hhl]; exact congrArg _ (congrArg _ hz)))).je fun v2 H8 s8 hv2 => ?_)
      cases hv2 with
      | tup k1' k2' =>
        obtain ⟨y1, y2, y3, rfl, j1, j2, j3'⟩ := dpa3 k2'
        cases j1
        cases j2
        cases j3'
        refine ⟨_, _, _, _, rfl, k1', ?_⟩
        have s68 := s67.trans s8
        refine jss_lputD (d := pB .free) (k := h) jd_non (jv_var 5 rfl) (jv_var 3 rfl).int (s68 _ _ hl5) hh (fun u1 H9 s9 hu1' => ?_)
        have s69 := s68.trans s9
        refine jss_one (js_ifT (by
          have e : decide (V.str "write" = V.str "write") = true := by decide
          rw [← e]
          exact jb_eqS (jv_var 9 rfl) jv_str rfl) fun H10 s10 => ?_)
        have est : stepL L (.dw h) = { L with busy := L.busy.set h .free, writes := putM L.writes n (b, (L.many : Nat)), many := L.many + 1 } := by simp only [stepL, hz]
        refine jss_dputD (da := pC) (x := (b, ((L.many : Nat) : Int))) hr (jv_var 7 rfl) (jv_var 10 rfl).int (jd_tup (jds_cons (jv_var 11 rfl).int (jds_cons (jv_var 6 rfl).int jds_nil)) (small1 (by simp))) ((hdm7 s69).on s10) (small1' (by omega)) lf_pC (fun H11 ob s11 hd11 => ?_)
        obtain ⟨kv, z1, z2⟩ := hdm7 s69 (o := .lst (bs.set h u1))
        have s911 := s10.trans s11
        have z11 := s911 _ _ z1
        have hl11 := s911 _ _ (upd_same (H := H9) (a := l) (o := .lst (bs.set h u1)))
        obtain ⟨kv', e', z2'⟩ := hd11
        rw [upd_same] at e'
        cases e'
        have tp2 : TupS H11 (upd H11 a7 (.dK kv')) := tups_dK z11
        exact jss_nil (done_tail (L' := stepL L (.dw h)) M (n := 0) hr p (same_upd ((same_upd (s05.trans s69) nlH).trans s911) n7H) (by rw [upd_ne nl7]; exact hl11) (by rw [est]; exact dpa_tups tp2 _ _ (lfs_busy _) ((hbs s69 (b := .free) hu1').on s911)) ⟨kv', upd_same, by rw [est]; exact z2'⟩ (by rw [est]; exact dm_upd ((hdm8 s69).on s911) z11 (fun _ z => nomatch z) (fun _ _ z => nomatch z) (Ne.symm n78) lf_pCs) hm hok hro h12 hcl q)
    | dr h n =>
      cases j3
      obtain ⟨b, hz⟩ : ∃ b, bzL L h = .rd b := hd.2
      refine jss_cons (js_ifF (by
        have e : decide (V.str "done" = V.str "write") = false := by decide
        rw [← e]
        exact jb_eqS (jv_var 2 rfl) jv_str rfl) fun H6 s6 => ?_)
      refine jss_one (js_ifF (by
        have e : decide (V.str "done" = V.str "read") = false := by decide
        rw [← e]
        exact jb_eqS (jv_var 2 rfl) jv_str rfl) fun H7 s7 => ?_)
      have s67 := s6.trans s7
      refine jss_set3 9 10 11 rfl S_law_done.nd ((jd_ixL (d := pB (.rd b)) (jr_var 5 rfl (s67 _ _ hl5) (hbd5.on s67)).jd (jv_var 3 rfl).int (atI_nat (by rw [bzL_at hhl]; exact congrArg _ (congrArg _ hz)))).je fun v2 H8 s8 hv2 => ?_)
      cases hv2 with
      | tup k1' k2' =>
        obtain ⟨y1, y2, y3, rfl, j1, j2, j3'⟩ := dpa3 k2'
        cases j1
        cases j2
        cases j3'
        refine ⟨_, _, _, _, rfl, k1', ?_⟩
        have s68 := s67.trans s8
        refine jss_lputD (d := pB .free) (k := h) jd_non (jv_var 5 rfl) (jv_var 3 rfl).int (s68 _ _ hl5) hh (fun u1 H9 s9 hu1' => ?_)
        have s69 := s68.trans s9
        refine jss_one (js_ifF (by
          have e : decide (V.str "read" = V.str "write") = false := by decide
          rw [← e]
          exact jb_eqS (jv_var 9 rfl) jv_str rfl) fun H10 s10 => ?_)
        have est : stepL L (.dr h n) = { L with busy := L.busy.set h .free, reads := putM L.reads n ((getM L.reads n).getD [] ++ [(b, ((L.many : Nat) : Int))]), many := L.many + 1 } := by simp only [stepL, hz]
        have hm8 := (hdm8 s69 (o := .lst (bs.set h u1))).on s10
        refine jss_dputD (da := pCs) (x := (getM L.reads n).getD [] ++ [(b, ((L.many : Nat) : Int))]) hr (jv_var 8 rfl) (jv_var 4 rfl).int ?_ hm8 (small1' (by omega)) lf_pCs (fun H11 ob s11 hd11 => ?_)
        · have e : pCs ((getM L.reads n).getD [] ++ [(b, ((L.many : Nat) : Int))]) = .tuple (((getM L.reads n).getD []).map pC ++ [pC (b, ((L.many : Nat) : Int))]) := by unfold pCs; rw [List.map_append]; rfl
          rw [e]
          have hlen : ((getM L.reads n).getD []).length ≤ 1000 := by
            cases e : getM L.reads n with
            | none => exact Nat.zero_le _
            | some z => exact okL.rd n z e
          exact jd_catT (jd_dget2 hr ((jv_var 8 rfl).jm hm8) (jv_var 4 rfl).int (jd_tup jds_nil (small1 (by simp))) (pCs ((getM L.reads n).getD [])) (by cases getM L.reads n <;> rfl)) (jd_tup (jds_cons (jd_tup (jds_cons (jv_var 11 rfl).int (jds_cons (jv_var 6 rfl).int jds_nil)) (small1 (by simp))) jds_nil) (small1 (by simp))) (small1 (by rw [List.length_map, List.length_singleton]; omega))
        · obtain ⟨kv, z1, z2⟩ := hdm8 s69 (o := .lst (bs.set h u1))
          have s911 := s10.trans s11
          have z11 := s911 _ _ z1
          have hl11 := s911 _ _ (upd_same (H := H9) (a := l) (o := .lst (bs.set h u1)))
          obtain ⟨kv', e', z2'⟩ := hd11
          rw [upd_same] at e'
          cases e'
          have tp2 : TupS H11 (upd H11 a8 (.dK kv')) := tups_dK z11
          exact jss_nil (done_tail (L' := stepL L (.dr h n)) M (n := 0) hr p (same_upd ((same_upd (s05.trans s69) nlH).trans s911) n8H) (by rw [upd_ne nl8]; exact hl11) (by rw [est]; exact dpa_tups tp2 _ _ (lfs_busy _) ((hbs s69 (b := .free) hu1').on s911)) (by rw [est]; exact dm_upd ((hdm7 s69).on s911) z11 (fun _ z => nomatch z) (fun _ _ z => nomatch z) n78 lf_pC) ⟨kv', upd_same, by rw [est]; exact z2'⟩ hm hok hro h12 hcl q)
end
end K28
-- KD16
/-! KD16: what stands when a draw is made; the law's choice of a deed. -/
namespace K28
open PySem PySem.Spec PyProof.Rows L2
def Dr (K : PySem.W.Frag) (H : Hp) (a l : Addr) (t : Nat) : Prop := ∃ c cs ls, DrP K H a c l cs ls t
def DrF (a l : Addr) (H H' : Hp) : Prop := ∀ b o, b ≠ a → b ≠ l → H b = some o → H' b = some o
theorem DrF.refl {a l : Addr} {H : Hp} : DrF a l H H := fun _ _ _ _ h => h
theorem DrF.trans {a l : Addr} {H H1 H2 : Hp} (h : DrF a l H H1) (k : DrF a l H1 H2) : DrF a l H H2 := fun b o h1 h2 e => k b o h1 h2 (h b o h1 h2 e)
theorem DrF.same {a l : Addr} {H H1 H2 : Hp} (h : DrF a l H H1) (k : Same H1 H2) : DrF a l H H2 := fun b o h1 h2 e => k b o (h b o h1 h2 e)
theorem same_dr {a l : Addr} {H H1 : Hp} (k : Same H H1) : DrF a l H H1 := fun b o _ _ e => k b o e
section
variable {K : PySem.W.Frag} {H H' : Hp} {a l : Addr} {t : Nat}
theorem Dr.on (h : Dr K H a l t) (s : Same H H') : Dr K H' a l t := let ⟨c, cs, ls, p⟩ := h; ⟨c, cs, ls, s _ _ p.at_, s _ _ p.ce, s _ _ p.le, p.ne, p.len, p.ac, p.al, p.cl⟩
theorem Dr.fst (h : Dr K H a l t) : ∃ v kvs, H a = some (.dK ((Sum.inr "cells", v) :: kvs)) := let ⟨c, cs, ls, p⟩ := h; ⟨_, _, p.at_⟩
theorem Dr.snd (h : Dr K H a l t) : ∃ xs, H l = some (.lst xs) := let ⟨c, cs, ls, p⟩ := h; ⟨_, p.le⟩
theorem dr_at {o : HO} {b : Addr} (s : DrF a l H H') (hd : Dr K H a l t) (h : H b = some o) (h1 : ∀ v kvs, o ≠ .dK ((Sum.inr "cells", v) :: kvs)) (h2 : ∀ xs, o ≠ .lst xs) : H' b = some o := by
  obtain ⟨v, kvs, e1⟩ := hd.fst
  obtain ⟨xs, e2⟩ := hd.snd
  exact s _ _ (ne_of h e1 (h1 _ _)) (ne_of h e2 (h2 _)) h
theorem dr_tups (s : DrF a l H H') (hd : Dr K H a l t) : TupS H H' := fun b xs => ⟨fun h => dr_at s hd h (fun _ _ z => nomatch z) (fun _ z => nomatch z), fun o h => dr_at s hd h (fun _ _ z => nomatch z) (fun _ z => nomatch z)⟩
theorem dm_dr {α : Type} {b : Addr} {da : α → PyData} {m : List (Int × α)} (s : DrF a l H H') (hd : Dr K H a l t) (h : DM K H b da m) (hl : ∀ x, lf (da x) = true) : DM K H' b da m := by
  obtain ⟨kvs, h1, h2⟩ := h
  refine ⟨kvs, dr_at s hd h1 (fun v kv z => ?_) (fun _ z => nomatch z), h2.tups (dr_tups s hd) hl⟩
  cases z
  cases h2 with
  | cons q _ => exact nomatch q.1
theorem stand_dr {v : V} {S : SD} (s : DrF a l H H') (hd : Dr K H a l t) (h : StandAt K H v S) : StandAt K H' v S := by
  obtain ⟨x, dx, u, b2, b3, b4, e, p⟩ := h
  exact ⟨x, dx, u, b2, b3, b4, e, dr_at s hd p.at_ (fun _ _ z => nomatch z) (fun _ z => nomatch z), dp_tups (dr_tups s hd) _ _ (lf_pBs _) p.bu, dm_dr s hd p.be (fun _ => rfl), dm_dr s hd p.en (fun _ => rfl), dm_dr s hd p.re lf_pCs⟩
theorem rec_dr {r : Addr} {R : RD} (s : DrF a l H H') (hd : Dr K H a l t) (h : RecAt K H r R) : RecAt K H' r R := by
  obtain ⟨dx, q, vs, p⟩ := h
  exact ⟨dx, q, vs, dr_at s hd p.at_ (fun _ _ z => nomatch z) (fun _ z => nomatch z), tups_sqt (dr_tups s hd) p.tp, Paired.mapP p.en fun _ _ ⟨t, x, y, h1, h2, h3⟩ => ⟨t, x, y, h1, tups_sqt (dr_tups s hd) h2, stand_dr s hd h3⟩⟩
theorem le_dr {v : V} {L : LE} (s : DrF a l H H') (hd : Dr K H a l t) (h : LeAt K H v L) : LeAt K H' v L := by
  obtain ⟨b, ub, bw, br, uc, e, p⟩ := h
  exact ⟨b, ub, bw, br, uc, e, dr_at s hd p.at_ (fun _ _ z => nomatch z) (fun _ z => nomatch z), dp_tups (dr_tups s hd) _ _ (lf_pBs _) p.bu, dm_dr s hd p.wr lf_pC, dm_dr s hd p.re lf_pCs, dp_tups (dr_tups s hd) _ _ (lf_pI _) p.ce⟩
/-- a recorder's deed leaves the draws and the entry -/
theorem dr_sx {r : Addr} {R : RD} (s : SameX r H H') (hr : RecAt K H r R) (h : Dr K H a l t) : Dr K H' a l t := by
  obtain ⟨c, cs, ls, p⟩ := h
  exact ⟨c, cs, ls, sx_at s hr p.at_ (fun _ _ _ _ z => nomatch z), sx_at s hr p.ce (fun _ _ _ _ z => nomatch z), sx_at s hr p.le (fun _ _ _ _ z => nomatch z), p.ne, p.len, p.ac, p.al, p.cl⟩
theorem le_sx {r : Addr} {R : RD} {v : V} {L : LE} (s : SameX r H H') (hr : RecAt K H r R) (h : LeAt K H v L) : LeAt K H' v L := by
  obtain ⟨b, ub, bw, br, uc, e, p⟩ := h
  exact ⟨b, ub, bw, br, uc, e, sx_at s hr p.at_ (fun _ _ _ _ z => nomatch z), dp_sx s hr _ _ p.bu, dm_sx s hr p.wr, dm_sx s hr p.re, dp_sx s hr _ _ p.ce⟩
end
section
variable {X : Cx} {e1 e2 a b : Expr} {σ : L2.St} {H : Hp} {p pos : Pos} {Q : VK} {n : Nat}
theorem je_draw {ad l : Addr} {t m : Nat} (M : Mo X.K X.mg) (hr : Room (n + 2) X.A) (h1 : JV X e1 σ H (.ref ad)) (h2 : JD X e2 σ H (.int (m : Nat))) (hD : Dr X.K H ad l t) (ht : t ≤ 50000) (m1 : 1 ≤ m) (m2 : m ≤ 1000) (q : ∀ (r : Nat) H', r < m → DrF ad l H H' → Dr X.K H' ad l (t + 1) → Q (.int (r : Nat)) H')
    (hg : Gl X "_law_draw" := by rfl) (he : starEach [e1, e2] X.env = (false, eval e1 X.env) :: starEach [e2] X.env := by rfl) (he2 : starEach [e2] X.env = (false, eval e2 X.env) :: starEach [] X.env := by rfl) (hpl : (backTo pos (starEach [e2] X.env)).any (·.1) = false := by rfl) : JE X (.Call (.Name "_law_draw" p) [e1, e2] [] pos) σ H Q :=
  je_call (E := E0) (g_law_draw (P := X.prog) (w := X.w) (base := X.base) M) hr passL (ja_of (pa_cons pej (pa_cons pej pa_nil he2) he) (h1 H (Same.refl H) _ fun H2 s2 => h2.int H2 s2 _ fun H3 s3 => by
    obtain ⟨c, cs, ls, p⟩ := hD.on (s2.trans s3)
    exact ⟨ad, c, l, cs, ls, t, m, rfl, p, ht, m1, m2, fun r H' ls' hr fr p' => q r H' hr ((same_dr (s2.trans s3)).trans fr) ⟨c, cs, ls', p'⟩⟩)) (by omega) hg (by decide) he hpl
theorem jt_andX {T : Bool → Hp → Prop} {k : Bool} (ha : JB X a σ H k) (h0 : k = false → ∀ H1, Same H H1 → T false H1) (hb : k = true → ∀ H1, Same H H1 → JT X b σ H1 T) : JT X (.BoolOp .And [a, b] pos) σ H T :=
  jw_t (jw_of (pw_and ptj pwj) (ha H (Same.refl H) _ fun H2 s2 => by
    cases k with
    | true => exact iteT (jw_of (pw_and1 ptj) (hb rfl H2 s2))
    | false => exact iteF (h0 rfl H2 s2)))
/-- e == k, e an expression that changes things -/
theorem jt_eqI {T : Bool → Hp → Prop} {i : Int} {j : Nat} {p2 : Pos} (ha : JE X a σ H fun v H1 => ∃ z : Int, v = .int z ∧ ∀ H2, Same H1 H2 → T (decide (z = i)) H2) : JT X (.Compare a [.Eq] [.Constant (.int i) j p2] pos) σ H T :=
  jt_of (pt_cmpR op_eq pej pej (nomark _)) (JE.mono ha fun v H1 ⟨z, e, h⟩ => by
    subst e
    refine jv_int (i := i) H1 (Same.refl _) _ fun H2 s2 => ⟨rfl, _, rfl, ?_⟩
    have e : decide (V.int z = V.int i) = decide (z = i) := by
      by_cases h : z = i
      · rw [decide_eq_true h, h, decide_eq_true rfl]
      · rw [decide_eq_false h, decide_eq_false fun e => h (by injection e)]
    rw [e]
    exact h H2 s2)
theorem je_ixL (ha : JE X a σ H fun v H1 => ∃ q, v = .ref q ∧ JE X b σ H1 fun w H2 => ∃ (xs : List V) (i : Int) (x : V), w = .int i ∧ H2 q = some (.lst xs) ∧ atI xs i = some x ∧ Q x H2) (hs : PlainIx b := by exact fun _ _ => rfl) : JE X (.Subscript a b pos) σ H Q :=
  je_of (pe_ix ix_list pej pej hs) (JE.mono ha fun v H1 ⟨q, e, h⟩ => JE.mono h fun w H2 ⟨xs, i, x, e2, h1, h2, h3⟩ => ⟨q, xs, i, x, e, e2, .inl (.inl h1), h2, h3⟩)
end
section
variable {X : Cx} {e2 e3 : Expr} {σ : L2.St} {H : Hp} {p pos : Pos} {Q : VK} {k j : Nat}
/-- ('w', e2, e3), e3 an expression that changes things -/
theorem je_tupX {z : Str} {i : Int} (h2 : JV X e2 σ H (.int i)) (h3 : ∀ H1, Same H H1 → JE X e3 σ H1 fun v H2 => ∃ d, Dp X.K H2 v d ∧ ∀ u H3, Same H2 H3 → Dp X.K H3 u (.tuple [.str z, .int i, d]) → Q u H3)
    (hs1 : starEach [.Constant (.str z) j p, e2, e3] X.env = (false, eval (.Constant (.str z) j p) X.env) :: starEach [e2, e3] X.env := by rfl) (hs2 : starEach [e2, e3] X.env = (false, eval e2 X.env) :: starEach [e3] X.env := by rfl) (hs3 : starEach [e3] X.env = (false, eval e3 X.env) :: starEach [] X.env := by rfl) : JE X (.Tuple [.Constant (.str z) j p, e2, e3] k pos) σ H Q :=
  je_of (pe_tup paj) (ja_of (pa_cons pej (pa_cons pej (pa_cons pej pa_nil hs3) hs2) hs1) (jv_str H (Same.refl H) _ fun H1 s1 => h2 H1 s1 _ fun H2 s2 => JE.mono (h3 H2 (s1.trans s2)) fun v H3 ⟨d, hv, q⟩ => ⟨small1 (by simp), fun y hy => q _ _ (same_new hy) (.tup (SqT.of upd_same) (.cons (.str _) (.cons (.int _) (.cons (hv.on (same_new hy)) .nil))))⟩))
end
theorem isEmpty_ne {α β : Type} {l : List α} {f : α → β} (h : (l.map f).isEmpty = false) : l ≠ [] := fun e => by rw [e] at h; cases h
theorem getD_map {α β : Type} {l : List α} {f : α → β} {i : Nat} (h : i < l.length) : ∃ x, x ∈ l ∧ (l.map f)[i]? = some (f x) := ⟨l[i], List.getElem_mem h, by rw [List.getElem?_map, List.getElem?_eq_getElem h]; rfl⟩
def spOf (K : PySem.W.Frag) : Sp := fun vs H Q _ => ∃ (a l q : Addr) (us : List V) (ns : List Int) (t : Nat), vs = [.ref a, .ref q] ∧ Dr K H a l t ∧ H q = some (.lst us) ∧ DpAll K H us (ns.map PyData.int) ∧ q ≠ l ∧ t ≤ 50000 ∧ ns ≠ [] ∧ ns.length ≤ 1000 ∧ ∀ n H', n ∈ ns → DrF a l H H' → Dr K H' a l (t + 1) → Q (.int n) H'
/-- what the law may choose -/
def DeedOk (L : LE) (ns : List Int) : Dd → Prop
  | .wr h n => h < L.busy.length ∧ bzL L h = .free ∧ n ∈ ns ∧ getM L.writes n = none
  | .rd h => h < L.busy.length ∧ bzL L h = .free
  | .dw h => h < L.busy.length ∧ ∃ n b, bzL L h = .wr n b
  | .dr h n => h < L.busy.length ∧ (∃ b, bzL L h = .rd b) ∧ n ∈ opens L
def spDeed (K : PySem.W.Frag) : Sp := fun vs H Q _ => ∃ (a l : Addr) (v : V) (L : LE) (q : Addr) (us : List V) (ns : List Int) (t : Nat), vs = [.ref a, v, .ref q, .int 0] ∧ Dr K H a l t ∧ LeAt K H v L ∧ LOk L ∧ 1 ≤ L.busy.length ∧ H q = some (.lst us) ∧ DpAll K H us (ns.map PyData.int) ∧ q ≠ l ∧ t ≤ 40000 ∧ ns.length ≤ 1000 ∧
  (∀ H' t', DrF a l H H' → t ≤ t' → t' ≤ t + 3 → Dr K H' a l t' → Q .non H') ∧ ∀ d u H' t', DrF a l H H' → t ≤ t' → t' ≤ t + 3 → Dr K H' a l t' → DeedOk L ns d → Dp K H' u (pDd d) → Q u H'
section
variable {P : Program} {w : World} {K : PySem.W.Frag} {mg : Str → Option Value} {base : Heap}
theorem S_law_of : FnScope ["_law_state", "_law_some"] ["_law_state", "_law_some"] (defScope s_law_of) := ⟨rfl, rfl, rfl, by decide +kernel, rfl, by decide +kernel, by decide +kernel⟩
theorem g_law_of (M : Mo K mg) : FnG P w K mg base 3 "_law_of" ["_law_state", "_law_some"] (spOf K) := by
  refine fng M.d_law_of S_law_of (fun vs H Q E ⟨a, l, q, us, ns, t, h, _⟩ => by rw [h]; rfl) (fun f cdv A outer s H vs Q E hr ⟨a, l, q, us, ns, t, e, hD, hq, hu, hne, ht, hn0, hn, k⟩ => ?_) (fun _ _ _ _ _ _ us hl => match us, hl with | [_, _], _ => rfl)
  subst e
  refine jss_one (js_ret (je_ixL (JV.je (jv_var 1 rfl) fun H1 s1 => ⟨q, rfl, ?_⟩)))
  have hl0 : 0 < ns.length := List.length_pos_iff.mpr hn0
  refine je_draw (n := 0) (m := ns.length) M hr (jv_var 0 rfl) (jd_lenL (c := ns) M.f_len (jr_var 1 rfl (s1 _ _ hq) (hu.on s1)).jd) (hD.on s1) (by omega) (by omega) hn fun r H2 hrl fr hD2 => ?_
  obtain ⟨n, hn1, hn2⟩ := getD_map (f := PyData.int) hrl
  have hq2 : H2 q = some (.lst us) := fr _ _ (fun e => by obtain ⟨v, kv, z⟩ := hD.fst; rw [← e, hq] at z; cases z) hne (s1 _ _ hq)
  obtain ⟨x, hx, hx2⟩ := atI_d hu (atI_nat hn2)
  cases hx2
  exact ⟨us, (r : Int), _, rfl, hq2, hx, k n H2 hn1 ((same_dr s1).trans fr) hD2⟩
theorem S_law_deed : FnScope ["_law_state", "_law_entry", "_law_names_so", "_law_spare", "_law_hand", "_law_busy", "_law_left", "_law_name", "_law_some"] ["_law_state", "_law_entry", "_law_names_so", "_law_spare"] (defScope s_law_deed) := ⟨rfl, rfl, rfl, by decide +kernel, rfl, by decide +kernel, by decide +kernel⟩
theorem g_law_deed (M : Mo K mg) : FnG P w K mg base 4 "_law_deed" ["_law_state", "_law_entry", "_law_names_so", "_law_spare"] (spDeed K) := by
  refine fng M.d_law_deed S_law_deed (fun vs H Q E ⟨a, l, v, L, q, us, ns, t, h, _⟩ => by rw [h]; rfl) (fun f cdv A outer s H vs Q E hr ⟨a, l, v, L, q, us, ns, t, e, hD, hL, ok, hb1, hq, hu, hne, ht, hnl, k0, k1⟩ => ?_) (fun _ _ _ _ _ _ us hl => match us, hl with | [_, _, _, _], _ => rfl)
  subst e
  obtain ⟨b, ub, bw, br, uc, e, p⟩ := id hL
  subst e
  have hb6 := ok.bu
  have hwl := ok.wr
  refine jss_setE 4 S_law_deed.nd (je_draw (n := 1) (m := L.busy.length) M hr (jv_var 0 rfl) ?_ hD (by omega) hb1 (by omega) fun h H1 hh fr hD1 => ?_)
  · have e : ((L.busy.length : Nat) : Int) = ((L.busy.map pB).length : Int) - 0 := by rw [List.length_map]; omega
    rw [e]
    exact jd_sub (jd_lenT M.f_len (jd_ebusy hr (jv_var 1 rfl) p)) (jv_var 3 rfl).int
  have hL1 := le_dr fr hD hL
  obtain ⟨b', ub', bw', br', uc', e, p1⟩ := id hL1
  cases e
  have hqa : ∀ {x : Addr} {xs : List V} {H : Hp} {t : Nat}, Dr K H a l t → H x = some (.lst xs) → x ≠ a := fun hD h e => by obtain ⟨v, kv, z⟩ := hD.fst; rw [← e, h] at z; cases z
  have hq1 : H1 q = some (.lst us) := fr _ _ (hqa hD hq) hne hq
  refine jss_set 5 S_law_deed.nd (d := pB (bzL L h)) (jd_ixT (jd_ebusy hr (jv_var 1 rfl) p1) (jv_var 4 rfl).int (atI_nat (bzL_at hh))) fun u5 H2 s2 hu5 => ?_
  have p2 := p1.on s2
  have fr2 := fr.same s2
  have hD2 := hD1.on s2
  cases hz : bzL L h with
  | free =>
    rw [hz] at hu5
    cases hu5
    refine jss_cons (js_ifT (by
      have e : decide (V.non = V.non) = true := by decide
      rw [← e]
      exact jb_isN (jv_var 5 rfl)) fun H3 s3 => ?_)
    have p3 := p2.on s3
    have fr3 := fr2.same s3
    have hD3 := hD2.on s3
    have hq3 := (s2.trans s3) _ _ hq1
    refine jss_setC 6 rfl S_law_deed.nd (ds := (ns.filter fun n => !(getM L.writes n).isSome).map PyData.int) (jlc1 (xs := ns) (da := PyData.int) (pr := fun n => !(getM L.writes n).isSome) (r := PyData.int) 7 rfl S_law_deed.nd (blkOk_by (own := [("_law_name", 7)]) rfl) (jdi_list (jr_var 2 rfl hq3 (by rw [DpAll.ints hu]; exact DpAll.ofInts ns)).jd) (small1 (by omega)) rfl
      (fun n hn u H4 s4 hu4 s0 H0 C cl fp => ⟨jbs_one (jb_dnotin hr (jd_var 7 rfl hu4) (jm_ewrites hr (jv_var 1 rfl) (p3.on s4))), fun _ => jd_var 7 rfl hu4⟩)) (fun c vs H4 s4 hnc hc hvs => ?_)
    have p4 := p3.on s4
    have fr4 := fr3.same s4
    have hD4 := hD3.on s4
    have hcl : c ≠ l := by obtain ⟨xs, z⟩ := hD3.snd; exact Ne.symm (ne_of_none z hnc)
    generalize hlf : (ns.filter fun n => !(getM L.writes n).isSome) = left at hvs
    have hll : left.length ≤ 1000 := by rw [← hlf]; exact Nat.le_trans (List.length_filter_le _ _) hnl
    refine jss_cons (js_if (jt_andX (jb_fullL hr (jr_var 6 rfl hc hvs).jd (shaped_ints left)) (fun hb H5 s5 => iteF ?_) fun hb H5 s5 => jt_eqI (je_draw (n := 1) (m := 2) M hr (jv_var 0 rfl) jd_int (hD4.on s5) (by omega) (by omega) (by omega) fun r H6 hr2 fr6 hD6 => ⟨(r : Int), rfl, fun H7 s7 => ?_⟩)))
    · exact jss_nil (jss_one (js_ret ((jd_tup (jds_cons jd_str (jds_cons (jv_var 4 rfl).int (jds_cons jd_non jds_nil))) (small1 (by simp))).je fun u H6 s6 hu6 => k1 (.rd h) u H6 (t + 1) ((fr4.same s5).same s6) (by omega) (by omega) ((hD4.on s5).on s6) ⟨hh, hz⟩ hu6)))
    · have fr7 := ((fr4.same s5).trans fr6).same s7
      have hD7 := hD6.on s7
      by_cases hr0 : (r : Int) = 0
      · rw [decide_eq_true hr0]
        refine iteT ?_
        have hc6 : H6 c = some (.lst vs) := fr6 _ _ (hqa hD4 hc) hcl (s5 _ _ hc)
        refine jss_one (js_ret (je_tupX (jv_var 4 rfl) fun H8 s8 => ?_))
        refine je_call (E := E0) (g_law_of (P := P) (w := w) (base := base) M) hr passL (ja_of (pa_cons pej (pa_cons pej pa_nil rfl) rfl) (JV.je (jv_var 0 rfl) fun H9 s9 => JV.je (jv_var 6 rfl) fun H10 s10 => ?_)) (by decide) rfl (by decide) rfl rfl
        have s710 := (s8.trans s9).trans s10
        refine ⟨a, l, c, vs, left, t + 2, rfl, hD7.on s710, s710 _ _ (s7 _ _ hc6), by rw [DpAll.ints hvs]; exact DpAll.ofInts left, hcl, by omega, isEmpty_ne (f := PyData.int) (by simpa using hb), hll, fun n H11 hn fr11 hD11 => ⟨.int n, .int n, fun u H12 s12 hu12 => ?_⟩⟩
        rw [← hlf, List.mem_filter] at hn
        refine k1 (.wr h n) u H12 (t + 3) (((fr7.same s710).trans fr11).same s12) (by omega) (by omega) (hD11.on s12) ⟨hh, hz, hn.1, by simpa using hn.2⟩ hu12
      · rw [decide_eq_false hr0]
        refine iteF (jss_nil (jss_one (js_ret ((jd_tup (jds_cons jd_str (jds_cons (jv_var 4 rfl).int (jds_cons jd_non jds_nil))) (small1 (by simp))).je fun u H8 s8 hu8 => k1 (.rd h) u H8 (t + 2) (fr7.same s8) (by omega) (by omega) (hD7.on s8) ⟨hh, hz⟩ hu8))))
  | wr n bt =>
    rw [hz] at hu5
    have hun : decide (u5 = V.non) = false := by cases hu5; rfl
    refine jss_cons (js_ifF (by
      rw [← hun]
      exact jb_isN (jv_var 5 rfl)) fun H3 s3 => jss_nil ?_)
    have hu3 : Dp K H3 u5 (.tuple [.str "write", .int n, .int bt]) := hu5.on s3
    refine jss_cons (js_ifT (by
      have e : decide (V.str "write" = V.str "write") = true := by decide
      rw [← e]
      exact jb_eqS (JD.sv (jd_ixT (jd_var 5 rfl hu3) jd_int atI0)) jv_str rfl) fun H4 s4 => ?_)
    refine jss_one (js_ret ((jd_tup (jds_cons jd_str (jds_cons (jv_var 4 rfl).int (jds_cons jd_non jds_nil))) (small1 (by simp))).je fun u H5 s5 hu6 => ?_))
    have s25 := (s3.trans s4).trans s5
    exact k1 (.dw h) u H5 (t + 1) (fr2.same s25) (by omega) (by omega) (hD2.on s25) ⟨hh, n, bt, hz⟩ hu6
  | rd bt =>
    rw [hz] at hu5
    have hun : decide (u5 = V.non) = false := by cases hu5; rfl
    refine jss_cons (js_ifF (by
      rw [← hun]
      exact jb_isN (jv_var 5 rfl)) fun H3 s3 => jss_nil ?_)
    have hu3 : Dp K H3 u5 (.tuple [.str "read", .none, .int bt]) := hu5.on s3
    refine jss_cons (js_ifF (by
      have e : decide (V.str "read" = V.str "write") = false := by decide
      rw [← e]
      exact jb_eqS (JD.sv (jd_ixT (jd_var 5 rfl hu3) jd_int atI0)) jv_str rfl) fun H4 s4 => jss_nil ?_)
    have p4 := (p2.on s3).on s4
    have fr4 := (fr2.same s3).same s4
    have hD4 := (hD2.on s3).on s4
    refine jss_setE 8 S_law_deed.nd (je_call (E := E0) (g_law_open (P := P) (w := w) (base := base) M) hr passL (ja_of (pa_cons pej pa_nil rfl) (JV.je (jv_var 1 rfl) fun H5 s5 => ⟨.ref b, L, rfl, ⟨b, ub', bw', br', uc', rfl, p4.on s5⟩, ok, fun c vs H6 s6 hnc hc hvs => ?_⟩)) (by decide) rfl (by decide) rfl rfl)
    have s56 := s5.trans s6
    have fr6 := fr4.same s56
    have hD6 := hD4.on s56
    have hcl : c ≠ l := by obtain ⟨xs, z⟩ := (hD4.on s5).snd; exact Ne.symm (ne_of_none z hnc)
    have hol : (opens L).length ≤ 1000 := Nat.le_trans (List.length_filter_le _ _) (by have := namesL_len ok; omega)
    refine jss_cons (js_ifB (jb_emptyL hr (jr_var 8 rfl hc hvs).jd (shaped_ints (opens L))) (fun hb H7 s7 => ?_) fun hb H7 s7 => jss_nil ?_)
    · exact jss_one (js_ret (JV.je jv_non fun H8 s8 => k0 H8 (t + 1) ((fr6.same s7).same s8) (by omega) (by omega) ((hD6.on s7).on s8)))
    · refine jss_one (js_ret (je_tupX (jv_var 4 rfl) fun H8 s8 => ?_))
      refine je_call (E := E0) (g_law_of (P := P) (w := w) (base := base) M) hr passL (ja_of (pa_cons pej (pa_cons pej pa_nil rfl) rfl) (JV.je (jv_var 0 rfl) fun H9 s9 => JV.je (jv_var 8 rfl) fun H10 s10 => ?_)) (by decide) rfl (by decide) rfl rfl
      have s710 := s7.trans ((s8.trans s9).trans s10)
      refine ⟨a, l, c, vs, opens L, t + 1, rfl, hD6.on s710, s710 _ _ hc, by rw [DpAll.ints hvs]; exact DpAll.ofInts (opens L), hcl, by omega, isEmpty_ne (f := PyData.int) hb, hol, fun n H11 hn fr11 hD11 => ⟨.int n, .int n, fun u H12 s12 hu12 => ?_⟩⟩
      exact k1 (.dr h n) u H12 (t + 2) (((fr6.same s710).trans fr11).same s12) (by omega) (by omega) (hD11.on s12) ⟨hh, ⟨bt, hz⟩, hn⟩ hu12
end
end K28
-- KD17
/-! KD17: the deed done on the recorder; what it shows. -/
namespace K28
open PySem PySem.Spec PyProof.Rows L2
def doA (R : RD) : Dd → Ans
  | .wr h n => wrA R.cur (.int (h : Nat)) (.int n) (R.now : Nat)
  | .rd h => rdA R.cur (.int (h : Nat)) (R.now : Nat)
  | .dw h => dnA R.cur (.int (h : Nat)) .non (R.now : Nat)
  | .dr h n => dnA R.cur (.int (h : Nat)) (.int n) (R.now : Nat)
def spLDo (K : PySem.W.Frag) : Sp := fun vs H Q E => ∃ r R u d, vs = [.ref r, u] ∧ RecAt K H r R ∧ RdOk R ∧ Dp K H u (pDd d) ∧ AnsP K H E (okQ K H r R Q) (doA R d)
def pShow (R : RD) : List PyData := [pR (recS R.cur), .int R.few, pI (namesS R.cur), .list (R.cur.busy.map pDo), .int (R.now : Nat)]
def spShow (K : PySem.W.Frag) : Sp := fun vs H Q _ => ∃ r R, vs = [.ref r] ∧ RecAt K H r R ∧ RdOk R ∧ ∀ u H', Same H H' → Dp K H' u (.list (pShow R)) → Q u H'
section
variable {P : Program} {w : World} {K : PySem.W.Frag} {mg : Str → Option Value} {base : Heap}
theorem S_law_do : FnScope ["_law_live", "_law_deed_here", "_law_word", "_law_hand", "_law_name"] ["_law_live", "_law_deed_here"] (defScope s_law_do) := ⟨rfl, rfl, rfl, by decide +kernel, rfl, by decide +kernel, by decide +kernel⟩
theorem S_law_shows : FnScope ["_law_live", "_law_doing_so", "_law_hand"] ["_law_live"] (defScope s_law_shows) := ⟨rfl, rfl, rfl, by decide +kernel, rfl, by decide +kernel, by decide +kernel⟩
theorem g_law_do (M : Mx P K mg) : FnG P w K mg base 11 "_law_do" ["_law_live", "_law_deed_here"] (spLDo K) := by
  refine fng M.d_law_do S_law_do (fun vs H Q E ⟨r, R, u, d, h, _⟩ => by rw [h]; rfl) (fun f cdv A outer s H vs Q E hr ⟨r, R, u, d, e, hR, ok, hu, q⟩ => ?_) (fun _ _ _ _ _ _ us hl => match us, hl with | [_, _], _ => rfl)
  subst e
  refine jss_set3 2 3 4 rfl S_law_do.nd (JD.je (jd_var 1 rfl hu) fun v1 H1 s1 hv1 => ?_)
  cases hv1 with
  | tup k1 k2 =>
    obtain ⟨x1, x2, x3, rfl, j1, j2, j3⟩ := dpa3 k2
    refine ⟨_, x1, x2, x3, rfl, k1, ?_⟩
    cases j1
    cases j2
    have hq1 : AnsP K H1 E (okQ K H1 r R Q) (doA R d) := q.on s1 fun S h => okq_on h s1
    have hR1 := hR.on s1
    have st : ∀ {H' : Hp}, Same H1 H' → AnsP K H' E (okQ K H' r R Q) (doA R d) := fun s => hq1.on s fun S h => okq_on h s
    cases d with
    | wr h n =>
      cases j3
      refine jss_cons (js_ifT (by
        have e : decide (V.str "write" = V.str "write") = true := by decide
        rw [← e]
        exact jb_eqS (jv_var 2 rfl) jv_str rfl) fun H2 s2 => ?_)
      exact jss_one (js_ret (je_write (n := 0) M hr passE (jv_var 0 rfl) (hR1.on s2) ok (jv_var 3 rfl) (.int _) (jv_var 4 rfl) (.int _) (st s2)))
    | rd h =>
      cases j3
      refine jss_cons (js_ifF (by
        have e : decide (V.str "read" = V.str "write") = false := by decide
        rw [← e]
        exact jb_eqS (jv_var 2 rfl) jv_str rfl) fun H2 s2 => jss_nil ?_)
      refine jss_cons (js_ifT (by
        have e : decide (V.str "read" = V.str "read") = true := by decide
        rw [← e]
        exact jb_eqS (jv_var 2 rfl) jv_str rfl) fun H3 s3 => ?_)
      exact jss_one (js_ret (je_read (n := 0) M hr passE (jv_var 0 rfl) (hR1.on (s2.trans s3)) ok (jv_var 3 rfl) (.int _) (st (s2.trans s3))))
    | dw h =>
      cases j3
      refine jss_cons (js_ifF (by
        have e : decide (V.str "done" = V.str "write") = false := by decide
        rw [← e]
        exact jb_eqS (jv_var 2 rfl) jv_str rfl) fun H2 s2 => jss_nil ?_)
      refine jss_cons (js_ifF (by
        have e : decide (V.str "done" = V.str "read") = false := by decide
        rw [← e]
        exact jb_eqS (jv_var 2 rfl) jv_str rfl) fun H3 s3 => jss_nil ?_)
      refine jss_one (js_ret (je_of (pe_ifExp ptj pej pej) (jb_isN (jv_var 4 rfl) H3 (Same.refl _) _ fun H4 s4 => ?_)))
      rw [decide_eq_true rfl]
      exact iteT (je_done1 (n := 0) M hr passE (jv_var 0 rfl) (hR1.on ((s2.trans s3).trans s4)) ok (jv_var 3 rfl) (.int _) (st ((s2.trans s3).trans s4)))
    | dr h n =>
      cases j3
      refine jss_cons (js_ifF (by
        have e : decide (V.str "done" = V.str "write") = false := by decide
        rw [← e]
        exact jb_eqS (jv_var 2 rfl) jv_str rfl) fun H2 s2 => jss_nil ?_)
      refine jss_cons (js_ifF (by
        have e : decide (V.str "done" = V.str "read") = false := by decide
        rw [← e]
        exact jb_eqS (jv_var 2 rfl) jv_str rfl) fun H3 s3 => jss_nil ?_)
      refine jss_one (js_ret (je_of (pe_ifExp ptj pej pej) (jb_isN (jv_var 4 rfl) H3 (Same.refl _) _ fun H4 s4 => ?_)))
      have e : decide (V.int n = V.non) = false := rfl
      rw [e]
      exact iteF (je_done (n := 0) M hr passE (jv_var 0 rfl) (hR1.on ((s2.trans s3).trans s4)) ok (jv_var 3 rfl) (.int _) (jv_var 4 rfl) (.int _) (st ((s2.trans s3).trans s4)))
end
section
variable {X : Cx} {o e1 : Expr} {σ : L2.St} {H : Hp} {pos apos : Pos} {r : Addr} {R : RD} {n : Nat} {pl : Sem Bool}
theorem jd_doing {i : Nat} (M : Mx X.prog X.K X.mg) (hr : Room (n + 5) X.A) (ho : JV X o σ H (.ref r)) (hR : RecAt X.K H r R) (ok : RdOk R) (h1 : JV X e1 σ H (.int (i : Nat))) (hi : i < R.cur.busy.length)
    (hst : starEach [e1] X.env = (false, eval e1 X.env) :: starEach [] X.env := by rfl) (hpl : (backTo pos (starEach [] X.env)).any (·.1) = false := by rfl)
    (ht : eval (.Call (.Attribute o "doing" apos) [e1] [] pos) X.env = (do
      let ov ← eval o X.env
      standAt apos.atName
      let (f, first) ← holding [ov] (getMethod ov "doing" pl)
      callWith pos f first (backTo pos (starEach [e1] X.env)) (backToKw pos (keywordEach [] X.env))) := by rfl) : JD X (.Call (.Attribute o "doing" apos) [e1] [] pos) σ H (pDo (bzAt R.cur i)) := fun H1 s Q q =>
  je_doing (n := n) (pl := pl) (E := E0) M hr passL (ho.on s) (hR.on s) ok (h1.on s) (.int _) (by
    have e : idx R.cur (.int (i : Nat)) = some i := by
      show (if 0 ≤ (i : Int) ∧ (i : Int) ≤ (R.cur.busy.length : Int) - 1 then some (i : Int).toNat else none) = some i
      rw [if_pos ⟨by omega, by omega⟩]
      rfl
    rw [e]
    exact fun u H' s' hu => q u H' s' hu) hst hpl ht
end
section
variable {P : Program} {w : World} {K : PySem.W.Frag} {mg : Str → Option Value} {base : Heap}
theorem range_do (l : List Bz) : (List.range l.length).map (fun i => pDo (l.getD i .free)) = l.map pDo := by
  apply List.ext_getElem
  · simp
  · intro i h1 h2
    simp at h1 h2
    simp [List.getD, h2]
theorem g_law_shows (M : Mx P K mg) : FnG P w K mg base 7 "_law_shows" ["_law_live"] (spShow K) := by
  refine fng M.d_law_shows S_law_shows (fun vs H Q E ⟨r, R, h, _⟩ => by rw [h]; rfl) (fun f cdv A outer s H vs Q E hr ⟨r, R, e, hR, ok, q⟩ => ?_) (fun _ _ _ _ _ _ us hl => match us, hl with | [_], _ => rfl)
  subst e
  have hb := ok.cur.bu
  refine jss_setC 1 rfl S_law_shows.nd (ds := R.cur.busy.map pDo) (jlc1 (xs := List.range R.cur.busy.length) (da := fun i => PyData.int (i : Nat)) (pr := fun _ => true) (r := fun i => pDo (bzAt R.cur i)) 2 rfl S_law_shows.nd (blkOk_by (own := [("_law_hand", 2)]) rfl) ?_ (small1 (by simp; omega)) (by rw [List.filter_eq_self.mpr (fun _ _ => rfl)]; exact range_do _)
      (fun i hi u H4 s4 hu4 s0 H0 C cl fp => ⟨jbs_nil, fun _ => ?_⟩) (hlf := fun i _ _ => by cases bzAt R.cur i <;> rfl)) (fun c vs H4 s4 hnc hc hvs => ?_)
  · refine jdi_range (n := R.cur.busy.length) M.f_range ?_ (by omega)
    rw [← ok.hd]
    exact (jv_hands (n := 4) M hr (jv_var 0 rfl) hR).int
  · cases hu4
    exact jd_doing (n := 1) M hr (jv_var 0 rfl) (hR.on s4) ok (jv_var 2 rfl) (List.mem_range.mp hi)
  · have hR4 := hR.on s4
    refine jss_one (js_ret ((jd_lst (jds_cons (jd_record_now (n := 3) M hr (jv_var 0 rfl) hR4 ok) (jds_cons (jv_few (n := 5) M.toMo hr (jv_var 0 rfl) hR4 ok.ne).int (jds_cons (jd_names (n := 4) M hr (jv_var 0 rfl) hR4 ok) (jds_cons (jr_var 1 rfl hc hvs).jd (jds_cons (jv_lenR (n := 4) M.toMo hr (jv_var 0 rfl) hR4 ok).int jds_nil))))) (small1 (by simp))).je fun u H5 s5 hu => q u H5 (s4.trans s5) hu))
end
end K28
-- KThk
/-! KThk: a thing to be called without arguments, known by what is promised of its call; the call heard. -/
namespace K28
open PySem PySem.Spec PyProof.Rows L2
abbrev Tsp := Hp → VK → XK → Prop
structure Thk (P : Program) (w : World) (K : PySem.W.Frag) (mg : Str → Option Value) (base : Heap) (k : Nat) (f : Addr) (sp : Tsp) : Prop where
  fn : ∀ H Q E, sp H Q E → ∃ fd : FuncData, H f = some (Frz f { cls := .type "function", data := .func fd })
  on : ∀ H H1 Q E, sp H Q E → Same H H1 → sp H1 Q E
  run : ∀ (A : Around) (outer : List Env) (s : Shared) (H : Hp) (Q : VK) (E : XK), Room k A → Env0 P w K mg base A outer s H → sp H Q E → codeAny (model P w) A (.call (.ref f) ⟨[], []⟩) (CR (L2.CX P w) outer P w H s Q E) s
/-- x() -/
theorem je_thunk {Y : Cx} {W : WX} {f : Addr} {k n : Nat} {sp : Tsp} {x : Str} {σ : L2.St} {H : Hp} {Q : VK} {E : XK} {p1 p2 : Pos} (tk : Takes Y W) (T : Thk Y.prog Y.w Y.K Y.mg Y.base k f sp) (hr : Room n Y.A) (ha : JV Y (.Name x p1) σ H (.ref f)) (h : sp H Q E) (hW : ∀ cls d H', E cls d H' → W cls d σ H') (hk : k ≤ n := by decide) :
    JE Y (.Call (.Name x p1) [] [] p2) σ H Q := fun pins s I => by
  refine wpAny_Call_Name_kw (thn (ha H (Same.refl H) (fun v H1 => v = .ref f ∧ Same H H1) (fun H1 s1 => ⟨rfl, s1⟩) pins s I) fun u s1 ⟨v, H1, I1, r1, q1⟩ => ?_)
  obtain ⟨ev, sH⟩ := q1
  subst ev
  obtain rfl : u = Value.ref f := r1
  have h1 := T.on _ _ _ _ h sH
  obtain ⟨fd, hf⟩ := T.fn _ _ _ h1
  have of1 := (I1.hok f _ hf).1
  refine PySem.W.callWith_F0 ⟨_, _, _, _, of1⟩ ?_
  have rc := T.run Y.A Y.stack s1 H1 Q E (hr.mono hk) I1.env0 h1
  refine wpAny_call (codeAny_mono rc fun r s' hq => ?_)
  cases r with
  | error e => exact tk e s' (XE.of_call I1 hW hq)
  | ok fl =>
    cases fl with
    | ret u => exact I1.after hq
    | next => exact False.elim hq
    | brk => exact False.elim hq
    | cont => exact False.elim hq
/-! ### heard -/
inductive Hk where
  | num
  | bsy
  | idl
def Hk.cls : Hk → Str
  | .num => "BadNumber"
  | .bsy => "Busy"
  | .idl => "Idle"
def Hk.word : Hk → Str
  | .num => "number"
  | .bsy => "busy"
  | .idl => "idle"
structure HearF (K : PySem.W.Frag) (Cn : Str) : Prop where
  xf : XfC K (He.ga K Cn)
  gi : PySem.W.findIn K (.ref (He.ga K Cn)) "given" = some none
structure My (P : Program) (K : PySem.W.Frag) (mg : Str → Option Value) : Prop extends Mx P K mg where
  hN : HearF K "BadNumber"
  hB : HearF K "Busy"
  hI : HearF K "Idle"
  eNN : PySem.W.exmOne K (.ref (He.ga K "BadNumber")) (.ref (He.ga K "BadNumber")) = some true
  eBN : PySem.W.exmOne K (.ref (He.ga K "Busy")) (.ref (He.ga K "BadNumber")) = some false
  eBB : PySem.W.exmOne K (.ref (He.ga K "Busy")) (.ref (He.ga K "Busy")) = some true
  eIN : PySem.W.exmOne K (.ref (He.ga K "Idle")) (.ref (He.ga K "BadNumber")) = some false
  eIB : PySem.W.exmOne K (.ref (He.ga K "Idle")) (.ref (He.ga K "Busy")) = some false
  eII : PySem.W.exmOne K (.ref (He.ga K "Idle")) (.ref (He.ga K "Idle")) = some true
/-- the exception is out: of kind h, with v -/
def OutX (K : PySem.W.Frag) (h : Hk) (v : V) (H : Hp) : XK := fun cls d H' => Same H H' ∧ cls = .ref (He.ga K h.cls) ∧ ∃ dd, d = some dd ∧ H' dd = some (.xd [("given", v)])
def spHeard (P : Program) (w : World) (K : PySem.W.Frag) (mg : Str → Option Value) (base : Heap) : Sp := fun vs H Q _ => ∃ f sp h v, vs = [.ref f] ∧ Thk P w K mg base 11 f sp ∧ sp H (fun _ _ => False) (OutX K h v H) ∧
  ∀ t H', Same H H' → H t = none → H' t = some (.tup [.str h.word, v]) → Q (.ref t) H'
section
variable {P : Program} {w : World} {K : PySem.W.Frag} {mg : Str → Option Value} {base : Heap}
theorem S_law_heard : FnScope ["_law_call", "e"] ["_law_call"] (defScope s_law_heard) := ⟨rfl, rfl, rfl, by decide +kernel, rfl, by decide +kernel, by decide +kernel⟩
/-- return ('w', e.given), e the caught exception -/
theorem js_told {X : Cx} {a C : Addr} {oe : Obj} {cls : Value} {d : Option Addr} {pn : List (Addr × Obj)} {σ : L2.St} {H : Hp} {D : Ends} {x z : Str} {p1 p2 p3 p4 p5 : Pos} {j k dd : Nat} {v : V} (F : XfC X.K C) (hno : PySem.W.findIn X.K (.ref C) "given" = some none) (hz : Zc cls d oe) (hf : ∃ vs, oe.data = .fields vs) (ec : cls = .ref C) (ed : d = some dd) (eo : H dd = some (.xd [("given", v)]))
    (hx : JV (X.suite a ((a, oe) :: pn)) (.Name x p1) σ H (.ref a)) (q : ∀ t H', Same H H' → H t = none → H' t = some (.tup [.str z, v]) → D.rt (.ref t) H') (hb : attributeBase (.Name x p1) "given" X.env (eval (.Name x p1) X.env) = eval (.Name x p1) X.env := by rfl)
    (e1 : starEach [.Constant (.str z) j p3, .Attribute (.Name x p1) "given" p2] X.env = (false, eval (.Constant (.str z) j p3) X.env) :: starEach [.Attribute (.Name x p1) "given" p2] X.env := by rfl) (e2 : starEach [.Attribute (.Name x p1) "given" p2] X.env = (false, eval (.Attribute (.Name x p1) "given" p2) X.env) :: starEach [] X.env := by rfl) :
    JS (X.suite a ((a, oe) :: pn)) (.Return (some (.Tuple [.Constant (.str z) j p3, .Attribute (.Name x p1) "given" p2] k p4)) p5) D σ H :=
  js_ret (je_of (pe_tup paj) (ja_of (pa_cons pej (pa_cons (pe_xf F hno hz hf pej hb) pa_nil e2) e1) (jv_str H (Same.refl H) _ fun H1 s1 => hx H1 s1 _ fun H2 s2 => ⟨rfl, ec, dd, _, v, ed, (s1.trans s2) _ _ eo, rfl, small1 (by simp), fun t ht => q t _ ((s1.trans s2).trans (same_new ht)) (same_none (s1.trans s2) ht) upd_same⟩)))
theorem g_law_heard (M : My P K mg) : FnG P w K mg base 12 "_law_heard" ["_law_call"] (spHeard P w K mg base) := by
  refine fng M.d_law_heard S_law_heard (fun vs H Q E ⟨f, sp, h, v, e, _⟩ => by rw [e]; rfl) (fun f cdv A outer s H vs Q E hr ⟨g, sp, h, v, e, T, hsp, q⟩ => ?_) (fun _ _ _ _ _ _ us hl => match us, hl with | [_], _ => rfl)
  subst e
  refine jss_one (js_of (ps_tryEach (i := 1) (n := "e") (tb := fun W D σ H => ∀ (pn : List (Addr × Obj)) (xe : Value → Shared → Prop), Takes (Cx.tr _ pn xe) W → JSs (Cx.tr _ pn xe) _ D σ H) rfl rfl S_law_heard.nd rfl rfl (fun W pn xe tk _ => ⟨fun pins s σ H D I h => h pn xe tk pins s I⟩)
    (.cons (c := .ref (He.ga K "BadNumber")) (ts := fun a cls d D σ H => ∀ oe pn, Zc cls d oe → (∃ vs, oe.data = .fields vs) → JSs (Cx.suite _ a ((a, oe) :: pn)) _ D σ H) ⟨rfl, by decide, .inl M.xN.gl⟩ (fun a oe cls d pn hz hd => ⟨fun pins s σ H D I h => h oe pn hz hd pins s I⟩)
    (.cons (c := .ref (He.ga K "Busy")) (ts := fun a cls d D σ H => ∀ oe pn, Zc cls d oe → (∃ vs, oe.data = .fields vs) → JSs (Cx.suite _ a ((a, oe) :: pn)) _ D σ H) ⟨rfl, by decide, .inl M.xB.gl⟩ (fun a oe cls d pn hz hd => ⟨fun pins s σ H D I h => h oe pn hz hd pins s I⟩)
    (.cons (c := .ref (He.ga K "Idle")) (ts := fun a cls d D σ H => ∀ oe pn, Zc cls d oe → (∃ vs, oe.data = .fields vs) → JSs (Cx.suite _ a ((a, oe) :: pn)) _ D σ H) ⟨rfl, by decide, .inl M.xI.gl⟩ (fun a oe cls d pn hz hd => ⟨fun pins s σ H D I h => h oe pn hz hd pins s I⟩) .nil)))) ?_)
  intro pn xe tk
  refine jss_one (js_ret (je_of (pe_lst paj) (ja_of (pa_cons pej pa_nil rfl) (JE.mono (je_thunk (n := 11) tk T hr (jv_var 0 rfl) hsp ?_) fun _ _ z => z.elim))))
  rintro cls d H' ⟨sH, rfl, dd, rfl, hdd⟩
  cases h with
  | num => exact ⟨true, M.eNN, fun _ a na oe pn hz hd => jss_one (js_told M.hN.xf M.hN.gi hz hd rfl rfl hdd (jv_var 1 rfl) fun t H2 s2 hn ht => q t H2 (sH.trans s2) (same_none sH hn) ht), fun z => nomatch z⟩
  | bsy => exact ⟨false, M.eBN, fun z => (nomatch z), fun _ => ⟨true, M.eBB, fun _ a na oe pn hz hd => jss_one (js_told M.hB.xf M.hB.gi hz hd rfl rfl hdd (jv_var 1 rfl) fun t H2 s2 hn ht => q t H2 (sH.trans s2) (same_none sH hn) ht), fun z => nomatch z⟩⟩
  | idl => exact ⟨false, M.eIN, fun z => (nomatch z), fun _ => ⟨false, M.eIB, fun z => (nomatch z), fun _ => ⟨true, M.eII, fun _ a na oe pn hz hd => jss_one (js_told M.hI.xf M.hI.gi hz hd rfl rfl hdd (jv_var 1 rfl) fun t H2 s2 hn ht => q t H2 (sH.trans s2) (same_none sH hn) ht), fun z => nomatch z⟩⟩⟩
end
end K28
-- KD18
/-! KD18: calls all heard alike. -/
namespace K28
open PySem PySem.Spec PyProof.Rows L2
structure Mz (P : Program) (K : PySem.W.Frag) (mg : Str → Option Value) : Prop extends My P K mg where
  sys : SysK K
def pHeard (h : Hk) (d : PyData) : PyData := .tuple [.str h.word, d]
def spAre (P : Program) (w : World) (K : PySem.W.Frag) (mg : Str → Option Value) (base : Heap) : Sp := fun vs H Q _ => ∃ (l t : Addr) (fs : List V) (ths : List (Addr × Tsp)) (h : Hk) (v : V) (d : PyData), vs = [.ref l, .ref t] ∧ H l = some (.lst fs) ∧ Paired (fun x th => x = V.ref th.1) fs ths ∧ (∀ th ∈ ths, Thk P w K mg base 11 th.1 th.2) ∧
  H t = some (.tup [.str h.word, v]) ∧ Rp K H v d ∧ Sz d 60 2 ∧ ths.length ≤ 5 ∧ (∀ th ∈ ths, ∀ H1, Same H H1 → th.2 H1 (fun _ _ => False) (OutX K h v H1)) ∧ ∀ H', Same H H' → Q (.bl true) H'
theorem rep_flat {α : Type} (n : Nat) (x : α) : (List.replicate n [x]).flatten = List.replicate n x := by
  induction n with
  | zero => rfl
  | succ n ih => rw [List.replicate_succ, List.flatten_cons, ih]; rfl
theorem rpa_rep {K : PySem.W.Frag} {H : Hp} {d : PyData} : ∀ {vs : List V}, (∀ v ∈ vs, Rp K H v d) → RpAll K H vs (List.replicate vs.length d)
  | [], _ => .nil
  | v :: vs, h => .cons (h v List.mem_cons_self) (rpa_rep fun x hx => h x (List.mem_cons_of_mem _ hx))
theorem paired_all {α β : Type} {R : α → β → Prop} {S : α → Prop} : ∀ {l : List α} {m : List β}, Paired R l m → (∀ x z, R x z → S x) → ∀ x ∈ l, S x
  | _, _, .nil, _, _, h => by cases h
  | _, _, .cons r t, k, x, h => by
    rcases List.mem_cons.mp h with e | e
    · rw [e]; exact k _ _ r
    · exact paired_all t k x e
theorem sz_word (h : Hk) : Sz (.str h.word) 60 2 := by
  cases h <;> exact ⟨rfl, by simp [PyData.depth], by decide +kernel⟩
theorem sz_heard {h : Hk} {d : PyData} {n : Nat} (z : Sz d 60 2) (hn : n ≤ 5) : ShOk (.list (List.replicate n (pHeard h d))) :=
  (sz_list (n := 127) (m := 3) (k := 5) (fun x hx => by
    rw [(List.mem_replicate.mp hx).2]
    exact sz_tup (n := 60) (m := 2) (k := 2) (fun y hy => by
      rcases List.mem_cons.mp hy with e | e
      · rw [e]; exact sz_word h
      · rw [List.mem_singleton.mp e]; exact z) (by simp)) (by rw [List.length_replicate]; exact hn)).ok
section
variable {X : Cx} {e : Expr} {σ : L2.St} {H : Hp} {p pos : Pos}
theorem jv_lenV {q : Addr} {xs : List V} (hm : X.mg "len" = none) (ha : JV X e σ H (.ref q)) (hq : H q = some (.lst xs)) (hg : Gl X "len" := by rfl) (he : starEach [e] X.env = (false, eval e X.env) :: starEach [] X.env := by rfl) (hpl : (backTo pos (starEach [] X.env)).any (·.1) = false := by rfl) : JV X (.Call (.Name "len" p) [e] [] pos) σ H (.int (xs.length : Nat)) := fun H1 s Q q =>
  je_blt call_len_seq hm boot_len (ja_of (pa_cons pej pa_nil he) (ha H1 s _ fun H2 s2 => ⟨_, _, rfl, .inl (SqL.len ((s.trans s2) _ _ hq)), q _ s2⟩)) hg he hpl
end
section
variable {P : Program} {w : World} {K : PySem.W.Frag} {mg : Str → Option Value} {base : Heap}
theorem S_law_are : FnScope ["_law_calls_here", "_law_due", "_law_call"] ["_law_calls_here", "_law_due"] (defScope s_law_are) := ⟨rfl, rfl, rfl, by decide +kernel, rfl, by decide +kernel, by decide +kernel⟩
theorem g_law_are (M : Mz P K mg) : FnG2 P w K mg base 13 "_law_are" ["_law_calls_here", "_law_due"] (spAre P w K mg base) := by
  refine fng2 M.d_law_are S_law_are (fun vs H Q E ⟨l, t, fs, ths, h, v, d, e, _⟩ => by rw [e]; rfl) (fun f cdv A outer s H vs Q E hr hgd _ ⟨l, t, fs, ths, h, v, d, e, hl, hp, hth, ht, hv, hz, h5, hsp, q⟩ => ?_) (fun _ _ _ _ _ _ us hl => match us, hl with | [_, _], _ => rfl)
  subst e
  have hn : fs.length = ths.length := Paired.length hp
  refine jss_one (js_ret (JV.je (v := .bl true) ?_ q))
  have e : V.bl true = V.bl (decide (V.str (PyData.list (List.replicate ths.length (pHeard h d))).shown = V.str (PyData.list (List.replicate ths.length (pHeard h d))).shown)) := by rw [decide_eq_true rfl]
  rw [e]
  have boot : bootBuiltins "repr" = some (.builtin "repr") := by decide +kernel
  refine jv_eqS (fun H1 s1 Q1 q1 => je_blt (call_reprD hr hgd M.sys) M.f_repr boot (ja_of (pa_cons pej pa_nil rfl) ?_)) (fun H1 s1 Q1 q1 => je_blt (call_reprD hr hgd M.sys) M.f_repr boot (ja_of (pa_cons pej pa_nil rfl) ?_)) rfl
  · refine jl_raw (xs := ths) (R := fun th _ x => x = V.ref th.1) (Y := fun _ y H => ∃ tt, y = .ref tt ∧ H tt = some (.tup [.str h.word, v])) 2 rfl S_law_are.nd (blkOk_by (own := [("_law_call", 2)]) rfl) (jxi_list (jv_var 0 rfl) (s1 _ _ hl) (fun _ _ _ _ e _ => e) hp) (fun _ _ _ _ e _ => e) (small1 (by omega)) (fun th hm x H2 s2 hx s0 H0 C cl fp Q2 q2 => ?_) (fun _ y H H' ⟨tt, e, hh⟩ k => ⟨tt, e, k _ _ (fun _ z => nomatch z) hh⟩) (q := fun a vs H2 s2 hna ha hvs => ?_)
    · subst hx
      refine je_call (E := E0) (g_law_heard (P := P) (w := w) (base := base) M.toMy) hr passL (ja_of (pa_cons pej pa_nil rfl) (JV.je (jv_var 2 rfl) fun H3 s3 => ⟨th.1, th.2, h, v, rfl, hth th hm, hsp th hm H3 (s1.trans (s2.trans s3)), fun tt H4 s4 hn ht => q2 _ H4 (s3.trans s4) ⟨tt, rfl, ht⟩⟩)) (by decide) rfl (by decide) rfl rfl
    · have hl2 : vs.length = ths.length := Paired.length hvs
      refine ⟨a, _, rfl, .lst (SqL.len ha) (hl2 ▸ rpa_rep (d := pHeard h d) (paired_all hvs fun x z ⟨tt, e, hh⟩ => ?_)), sz_heard hz h5, q1 H2 s2⟩
      rw [e]
      exact .tup (SqT.of hh) (.cons (.str _) (.cons (rp_on (s1.trans s2) _ _ hv) .nil))
  · refine je_of (pe_op op_rep pej pej) (je_of (pe_lst paj) (ja_of (pa_cons pej pa_nil rfl) (JV.je (jv_var 1 rfl) fun H2 s2 => ⟨small1 (by simp), fun p hp => ?_⟩)))
    have s3 := same_new (o := .lst [V.ref t]) hp
    refine JV.je (jv_lenV M.f_len (jv_var 0 rfl) (((s1.trans s2).trans s3) _ _ hl)) fun H4 s4 => ?_
    refine ⟨p, (fs.length : Int), [V.ref t], rfl, rfl, s4 _ _ upd_same, by omega, by omega, (small1 (by show 1 * (fs.length : Int).toNat ≤ 2000; omega) : 1 * (fs.length : Int).toNat ≤ sizeLine), fun p2 hp2 => ?_⟩
    rw [rep_flat]
    have s5 := same_new (o := .lst (List.replicate (fs.length : Int).toNat (V.ref t))) hp2
    have s15 := s2.trans (s3.trans (s4.trans s5))
    refine ⟨p2, .list (List.replicate ths.length (pHeard h d)), rfl, .lst (SqL.len upd_same) ?_, sz_heard hz h5, q1 _ s15⟩
    have e2 : (fs.length : Int).toNat = ths.length := by omega
    rw [e2]
    have := rpa_rep (K := K) (H := upd H4 p2 (.lst (List.replicate (fs.length : Int).toNat (V.ref t)))) (d := pHeard h d) (vs := List.replicate ths.length (V.ref t)) fun x hx => by
      rw [(List.mem_replicate.mp hx).2]
      exact .tup (SqT.of (s15 _ _ (s1 _ _ ht))) (.cons (.str _) (.cons (rp_on (s1.trans s15) _ _ hv) .nil))
    rw [List.length_replicate] at this
    rw [e2] at this
    exact this
end
end K28
-- KHook
/-! KHook: what the head's look tells beyond the kit's facts: own exceptions with their own __init__, a property, the modules' table, tables of code objects. -/
namespace K28
open PySem PySem.Spec PyProof.Rows L2
/-! ### tests and what they say -/
def oexB (K : PySem.W.Frag) (C : Addr) : Bool := (match K.lookup C with
  | some ⟨.type t, _, .cls ⟨_, _, .ref C' :: bm, _, _, hd, _, _, _, _, hdel⟩, sl⟩ => decide (t = "type") && (decide (C' = C) && (hd && (!hdel && (PySem.HandSPX.refsVE bm && (match sl.toList with
    | [_, _, _, _, some (.builtin id), _] => decide (id = "ValueError.__new__")
    | _ => false)))))
  | _ => false) && (He.eqO (PySem.W.findIn K (.ref C) "__setattr__") (some (some (.builtin "object.__setattr__"))) && (decide (PySem.W.subIn K (.ref C) (.type "BaseException") = some true) && (decide (PySem.W.typeIn K (.ref C) = some (.type "type")) && PySem.W.keepIn K (.ref C))))
theorem oexB_ok {K : PySem.W.Frag} {C : Addr} (h : oexB K C = true) : OexC K C := by
  unfold oexB at h
  obtain ⟨h1, h⟩ := He.ba h
  obtain ⟨h2, h⟩ := He.ba h
  obtain ⟨h3, h⟩ := He.ba h
  obtain ⟨h4, h5⟩ := He.ba h
  refine ⟨?_, He.eqO_ok h2, of_decide_eq_true h3, of_decide_eq_true h4, h5⟩
  split at h1
  · rename_i t dd nm bs C' bm N q hd sn sub ab col hdel sl e
    obtain ⟨k1, k⟩ := He.ba h1
    obtain ⟨k2, k⟩ := He.ba k
    obtain ⟨k3, k⟩ := He.ba k
    obtain ⟨k4, k⟩ := He.ba k
    obtain ⟨k5, k6⟩ := He.ba k
    split at k6
    · rename_i a0 a1 a2 a3 id a5 es
      have e1 := of_decide_eq_true k1
      have e2 := of_decide_eq_true k2
      have e6 := of_decide_eq_true k6
      have e4 : hdel = false := by simpa using k4
      subst e1 e2 e6 e4 k3
      obtain ⟨ls⟩ := sl
      have es : ls = _ := es
      subst es
      exact ⟨_, _, _, _, _, _, _, _, _, _, _, _, _, _, _, e, k5⟩
    · cases k6
  · cases h1
abbrev FnZ : Type := Option (Str × Str × Arguments × FuncBody × Scope × Addr × List Str × Addr)
/-- a function's text, wherever it stands -/
def fnZ (K : PySem.W.Frag) (a : Addr) : FnZ := match K.lookup a with
  | some ⟨_, _, .func fd, _⟩ => some (fd.name, fd.qualname, fd.params, fd.body, fd.scope, fd.globals, fd.closure.map (·.1), fd.builtins)
  | _ => none
def zOf (nm qual : Str) (st : Stmt) (cl : List Str) : FnZ := some (nm, qual, defArgs st, .stmts (defBody st), defScope st, mainGlobals, cl, builtinsNs)
/-- no defaults, no annotations -/
def bareB (fd : FuncData) : Bool := match fd.defaults, fd.kwdefaults, fd.annotations with
  | .none, .none, none => true
  | _, _, _ => false
theorem bareB_ok {fd : FuncData} (h : bareB fd = true) : fd.defaults = .none ∧ fd.kwdefaults = .none ∧ fd.annotations = none := by
  unfold bareB at h
  split at h
  · rename_i q1 q2 q3
    exact ⟨q1, q2, q3⟩
  · cases h
def cellB (K : PySem.W.Frag) (C : Addr) : List (Str × Addr) → Bool
  | [(_, cc)] => (match K.lookup cc with
    | some ⟨_, _, .cell (some (.ref C')), _⟩ => decide (C' = C)
    | _ => false)
  | _ => false
def fileB (K : PySem.W.Frag) (qual file : Str) : Value → Bool
  | .ref c => PySem.W.codeIn K (.ref c) qual && (match K.lookup c with
    | some ⟨_, _, .fields vs, _⟩ => (match (vs[2]? : Option Value) with
      | some (.str f _) => file == f
      | _ => false)
    | _ => false)
  | _ => false
theorem cellB_ok {K : PySem.W.Frag} {C : Addr} {cl : List (Str × Addr)} (h : cellB K C cl = true) (z : cl.map (·.1) = [("__class__" : Str)]) : ∃ cc, cl = [(("__class__" : Str), cc)] ∧ ∃ o, K.lookup cc = some o ∧ o.data = .cell (some (.ref C)) := by
  cases cl with
  | nil => cases h
  | cons a l =>
    cases l with
    | cons b l => cases h
    | nil =>
      obtain ⟨x, cc⟩ := a
      have ex : x = ("__class__" : Str) := (List.cons.inj (show [x] = [("__class__" : Str)] from z)).1
      rw [ex]
      refine ⟨cc, rfl, ?_⟩
      have h2 : (match K.lookup cc with
        | some ⟨_, _, .cell (some (.ref C')), _⟩ => decide (C' = C)
        | _ => false) = true := h
      split at h2
      · rename_i q1 q2 C' q3 eq
        have e := of_decide_eq_true h2
        rw [← e]
        exact ⟨_, eq, rfl⟩
      · cases h2
theorem fileB_ok {K : PySem.W.Frag} {qual file : Str} {v : Value} (h : fileB K qual file v = true) : ∃ c, v = .ref c ∧ PySem.W.codeIn K (.ref c) qual = true ∧ ∃ oc vs f tf, K.lookup c = some oc ∧ oc.data = .fields vs ∧ vs[2]? = some (.str f tf) ∧ (file == f) = true := by
  cases v with
  | ref c =>
    have h : (PySem.W.codeIn K (.ref c) qual && (match K.lookup c with
      | some ⟨_, _, .fields vs, _⟩ => (match (vs[2]? : Option Value) with
        | some (.str f _) => file == f
        | _ => false)
      | _ => false)) = true := h
    obtain ⟨m1, m2⟩ := He.ba h
    refine ⟨c, rfl, m1, ?_⟩
    split at m2
    · rename_i q1 q2 vs q3 ev
      split at m2
      · rename_i f tf ef
        exact ⟨_, vs, f, tf, ev, rfl, ef, m2⟩
      · cases m2
    · cases m2
  | _ => cases h
def initB (K : PySem.W.Frag) (C : Addr) (qual file : Str) : Bool := match K.lookup (He.ma K C "__init__") with
  | some ⟨.type t, _, .func fd, _⟩ => decide (t = "function") && (bareB fd && (cellB K C fd.closure && fileB K qual file fd.code))
  | _ => false
def exB1 (K : PySem.W.Frag) (Cn qual file : Str) : Bool := oexB K (He.ga K Cn) && (initB K (He.ga K Cn) qual file && (He.eqO (PySem.W.findIn K (.ref (He.ga K Cn)) "__init__") (some (some (.ref (He.ma K (He.ga K Cn) "__init__")))) &&
  (decide (PySem.W.typeIn K (.ref (He.ma K (He.ga K Cn) "__init__")) = some (.type "function")) && (He.eqO (PySem.W.nsIn K cStatics "thirdparty.any") (some none) && (He.eqO (PySem.W.ks_superIn K (He.ga K Cn) (He.ga K Cn) "__init__") (some (some (.builtin "ValueError.__init__"))) &&
  (decide (PySem.W.subIn K (.ref (He.ga K Cn)) (.type "ValueError") = some true) && (decide (PySem.W.subIn K (.ref (He.ga K Cn)) (.ref (He.ga K Cn)) = some true) && (He.eqO (PySem.W.findIn K (.ref (He.ga K Cn)) "given") (some none) && xfB K (He.ga K Cn)))))))))
theorem exB1_ok {P : Program} {K : PySem.W.Frag} {mg : Str → Option Value} {Cn qual : Str} {st : Stmt} (h : exB1 K Cn qual P.main.file = true) (z : fnZ K (He.ma K (He.ga K Cn) "__init__") = zOf "__init__" qual st ["__class__"]) (gl : mg Cn = some (.ref (He.ga K Cn))) (ht : (P.main.scope.names.lookup ("super" : Str)).isSome = false) : ExF P K mg Cn qual st ∧ HearF K Cn := by
  unfold exB1 at h
  obtain ⟨h1, h⟩ := He.ba h
  obtain ⟨h2, h⟩ := He.ba h
  obtain ⟨h3, h⟩ := He.ba h
  obtain ⟨h4, h⟩ := He.ba h
  obtain ⟨h5, h⟩ := He.ba h
  obtain ⟨h6, h⟩ := He.ba h
  obtain ⟨h7, h⟩ := He.ba h
  obtain ⟨h8, h⟩ := He.ba h
  obtain ⟨h9, h10⟩ := He.ba h
  refine ⟨⟨oexB_ok h1, ?_, He.eqO_ok h5, He.eqO_ok h6, of_decide_eq_true h7, of_decide_eq_true h8, He.eqO_ok h9, gl, ht⟩, xfB_ok h10, He.eqO_ok h9⟩
  unfold initB at h2
  unfold fnZ zOf at z
  split at h2
  · rename_i t od fd sl e
    rw [e] at z
    obtain ⟨n1, n2, n3, n4, n5, n6, n7, n8, n9, n10, n11, n12, n13, n14, n15⟩ := fd
    simp only [Option.some.injEq, Prod.mk.injEq] at z
    obtain ⟨z1, z2, z3, z4, z5, z6, z7, z8⟩ := z
    obtain ⟨k1, k⟩ := He.ba h2
    obtain ⟨k2, k⟩ := He.ba k
    obtain ⟨k3, k4⟩ := He.ba k
    have e1 := of_decide_eq_true k1
    subst e1 z1 z2 z3 z4 z5 z6 z8
    obtain ⟨b1, b2, b3⟩ : n8 = .none ∧ n9 = .none ∧ n12 = none := bareB_ok k2
    subst b1 b2 b3
    obtain ⟨cc, ecl, o, ecc, edc⟩ := cellB_ok k3 z7
    have ecl : n7 = _ := ecl
    subst ecl
    obtain ⟨c, ec, m1, m2⟩ := fileB_ok k4
    have ec : n13 = .ref c := ec
    subst ec
    exact ⟨_, cc, c, od, n10, n11, n14, sl, He.eqO_ok h3, of_decide_eq_true h4, e, m1, m2, o, ecc, edc⟩
  · cases h2
/-- the getter of the property -/
def getAd (K : PySem.W.Frag) : Addr := match PySem.W.findIn K (.ref (He.ga K "Recorder")) "hands" with
  | some (some (.ref p)) => (match PySem.W.recIn K p "property" with
    | some (.ref g :: _) => g
    | _ => 0)
  | _ => 0
def propB (K : PySem.W.Frag) : Bool := match PySem.W.findIn K (.ref (He.ga K "Recorder")) "hands" with
  | some (some (.ref p)) => He.eqO (PySem.W.specialIn K (.ref p) "__get__") (some (some (.builtin "property.__get__"))) && (decide (PySem.W.takesIn K (.ref p) = some true) && (match PySem.W.recIn K p "property" with
    | some (.ref g :: _) => PySem.W.keepIn K (.ref g) && (match K.lookup g with
      | some ⟨_, _, .func fd, _⟩ => bareB fd && PySem.W.codeIn K fd.code "Recorder.hands"
      | _ => false)
    | _ => false))
  | _ => false
theorem propB_ok {K : PySem.W.Frag} (h : propB K = true) (z : fnZ K (getAd K) = zOf "hands" "Recorder.hands" s_Recorder_hands []) : ∃ p g fd, PropOf K (He.ga K "Recorder") "hands" p g ∧ FunD K "hands" "Recorder.hands" (defArgs s_Recorder_hands) (defBody s_Recorder_hands) (defScope s_Recorder_hands) [] [] g fd := by
  unfold propB at h
  split at h
  · rename_i p ep
    obtain ⟨h1, h⟩ := He.ba h
    obtain ⟨h2, h3⟩ := He.ba h
    split at h3
    · rename_i g rest eg
      have eA : getAd K = g := by
        unfold getAd
        simp only [ep, eg]
      rw [eA] at z
      obtain ⟨k1, k2⟩ := He.ba h3
      unfold fnZ zOf at z
      split at k2
      · rename_i oc od fd sl e
        rw [e] at z
        obtain ⟨n1, n2, n3, n4, n5, n6, n7, n8, n9, n10, n11, n12, n13, n14, n15⟩ := fd
        simp only [Option.some.injEq, Prod.mk.injEq] at z
        obtain ⟨z1, z2, z3, z4, z5, z6, z7, z8⟩ := z
        obtain ⟨m1, m2⟩ := He.ba k2
        obtain ⟨b1, b2, b3⟩ : n8 = .none ∧ n9 = .none ∧ n12 = none := bareB_ok m1
        have e7 : n7 = [] := by
          cases n7 with
          | nil => rfl
          | cons a l => cases z7
        subst b1 b2 b3 z1 z2 z3 z4 z5 z6 z8 e7
        exact ⟨p, g, _, ⟨ep, He.eqO_ok h1, of_decide_eq_true h2, rest, eg⟩, ⟨oc, od, .none, .none, n10, n11, none, n13, n14, sl, rfl, e, m2, .inl ⟨rfl, rfl⟩, .inl rfl⟩, k1⟩
      · cases k2
    · cases h3
  · cases h
def sysB (K : PySem.W.Frag) : Bool := match K.lookup sysModules with
  | some ⟨.type t, _, _, _⟩ => decide (t = "dict")
  | _ => false
theorem sysB_ok {K : PySem.W.Frag} (h : sysB K = true) : SysK K := by
  unfold sysB at h
  split at h
  · rename_i t od dt sl e
    exact ⟨_, e, congrArg Value.type (of_decide_eq_true h)⟩
  · cases h
end K28
set_option maxHeartbeats 0
-- KHead
namespace K28
open PySem PySem.Spec PyProof.Rows L2
def fn0 : List He.DefD := [
  ⟨("is_integer", none), "is_integer", "is_integer", defArgs s_is_integer, defBody s_is_integer, defScope s_is_integer, [], []⟩,
  ⟨("is_between", none), "is_between", "is_between", defArgs s_is_between, defBody s_is_between, defScope s_is_between, [], []⟩,
  ⟨("calls_of", none), "calls_of", "calls_of", defArgs s_calls_of, defBody s_calls_of, defScope s_calls_of, [], []⟩,
  ⟨("near_of", none), "near_of", "near_of", defArgs s_near_of, defBody s_near_of, defScope s_near_of, [], []⟩,
  ⟨("far_of", none), "far_of", "far_of", defArgs s_far_of, defBody s_far_of, defScope s_far_of, [], []⟩,
  ⟨("is_forced_in", none), "is_forced_in", "is_forced_in", defArgs s_is_forced_in, defBody s_is_forced_in, defScope s_is_forced_in, [], []⟩,
  ⟨("are_odd_in", none), "are_odd_in", "are_odd_in", defArgs s_are_odd_in, defBody s_are_odd_in, defScope s_are_odd_in, [], []⟩,
  ⟨("is_forward", none), "is_forward", "is_forward", defArgs s_is_forward, defBody s_is_forward, defScope s_is_forward, [], []⟩,
  ⟨("forwards_in", none), "forwards_in", "forwards_in", defArgs s_forwards_in, defBody s_forwards_in, defScope s_forwards_in, [], []⟩,
  ⟨("backwards_in", none), "backwards_in", "backwards_in", defArgs s_backwards_in, defBody s_backwards_in, defScope s_backwards_in, [], []⟩,
  ⟨("crowd_in", none), "crowd_in", "crowd_in", defArgs s_crowd_in, defBody s_crowd_in, defScope s_crowd_in, [], []⟩,
  ⟨("all_spots", none), "all_spots", "all_spots", defArgs s_all_spots, defBody s_all_spots, defScope s_all_spots, [], []⟩,
  ⟨("crowds_in", none), "crowds_in", "crowds_in", defArgs s_crowds_in, defBody s_crowds_in, defScope s_crowds_in, [], []⟩,
  ⟨("greatest_in", none), "greatest_in", "greatest_in", defArgs s_greatest_in, defBody s_greatest_in, defScope s_greatest_in, [], []⟩,
  ⟨("many_in", none), "many_in", "many_in", defArgs s_many_in, defBody s_many_in, defScope s_many_in, [], []⟩,
  ⟨("need_cells", none), "need_cells", "need_cells", defArgs s_need_cells, defBody s_need_cells, defScope s_need_cells, [], []⟩,
  ⟨("is_name", none), "is_name", "is_name", defArgs s_is_name, defBody s_is_name, defScope s_is_name, [], []⟩,
  ⟨("Stand", some "__init__"), "__init__", "Stand.__init__", defArgs s_Stand_init, defBody s_Stand_init, defScope s_Stand_init, [], []⟩,
  ⟨("Stand", some "with_busy"), "with_busy", "Stand.with_busy", defArgs s_Stand_with_busy, defBody s_Stand_with_busy, defScope s_Stand_with_busy, [], []⟩,
  ⟨("Stand", some "begun"), "begun", "Stand.begun", defArgs s_Stand_begun, defBody s_Stand_begun, defScope s_Stand_begun, [], []⟩,
  ⟨("Stand", some "ended"), "ended", "Stand.ended", defArgs s_Stand_ended, defBody s_Stand_ended, defScope s_Stand_ended, [], []⟩,
  ⟨("Stand", some "names_so"), "names_so", "Stand.names_so", defArgs s_Stand_names_so, defBody s_Stand_names_so, defScope s_Stand_names_so, [], []⟩,
  ⟨("Stand", some "record"), "record", "Stand.record", defArgs s_Stand_record, defBody s_Stand_record, defScope s_Stand_record, [], []⟩,
  ⟨("Stand", some "has_room"), "has_room", "Stand.has_room", defArgs s_Stand_has_room, defBody s_Stand_has_room, defScope s_Stand_has_room, [], []⟩]
def fn1 : List He.DefD := [
  ⟨("Recorder", some "__init__"), "__init__", "Recorder.__init__", defArgs s_Recorder_init, defBody s_Recorder_init, defScope s_Recorder_init, [], []⟩,
  ⟨("Recorder", some "stand"), "stand", "Recorder.stand", defArgs s_Recorder_stand, defBody s_Recorder_stand, defScope s_Recorder_stand, [], []⟩,
  ⟨("Recorder", some "now"), "now", "Recorder.now", defArgs s_Recorder_now, defBody s_Recorder_now, defScope s_Recorder_now, [], []⟩,
  ⟨("Recorder", some "need_hand"), "need_hand", "Recorder.need_hand", defArgs s_Recorder_need_hand, defBody s_Recorder_need_hand, defScope s_Recorder_need_hand, [], []⟩,
  ⟨("Recorder", some "need_free"), "need_free", "Recorder.need_free", defArgs s_Recorder_need_free, defBody s_Recorder_need_free, defScope s_Recorder_need_free, [], []⟩,
  ⟨("Recorder", some "go_on"), "go_on", "Recorder.go_on", defArgs s_Recorder_go_on, defBody s_Recorder_go_on, defScope s_Recorder_go_on, [], []⟩,
  ⟨("Recorder", some "write"), "write", "Recorder.write", defArgs s_Recorder_write, defBody s_Recorder_write, defScope s_Recorder_write, [], []⟩,
  ⟨("Recorder", some "read"), "read", "Recorder.read", defArgs s_Recorder_read, defBody s_Recorder_read, defScope s_Recorder_read, [], []⟩,
  ⟨("Recorder", some "done"), "done", "Recorder.done", defArgs s_Recorder_done, defBody s_Recorder_done, defScope s_Recorder_done, [.non], []⟩,
  ⟨("Recorder", some "doing"), "doing", "Recorder.doing", defArgs s_Recorder_doing, defBody s_Recorder_doing, defScope s_Recorder_doing, [], []⟩,
  ⟨("Recorder", some "names"), "names", "Recorder.names", defArgs s_Recorder_names, defBody s_Recorder_names, defScope s_Recorder_names, [], []⟩,
  ⟨("Recorder", some "record_now"), "record_now", "Recorder.record_now", defArgs s_Recorder_record_now, defBody s_Recorder_record_now, defScope s_Recorder_record_now, [], []⟩,
  ⟨("Recorder", some "fewest_now"), "fewest_now", "Recorder.fewest_now", defArgs s_Recorder_fewest_now, defBody s_Recorder_fewest_now, defScope s_Recorder_fewest_now, [], []⟩,
  ⟨("Recorder", some "first_beyond"), "first_beyond", "Recorder.first_beyond", defArgs s_Recorder_first_beyond, defBody s_Recorder_first_beyond, defScope s_Recorder_first_beyond, [], []⟩,
  ⟨("Recorder", some "free"), "free", "Recorder.free", defArgs s_Recorder_free, defBody s_Recorder_free, defScope s_Recorder_free, [], []⟩,
  ⟨("Recorder", some "__len__"), "__len__", "Recorder.__len__", defArgs s_Recorder_len, defBody s_Recorder_len, defScope s_Recorder_len, [], []⟩,
  ⟨("_law_mixed", none), "_law_mixed", "_law_mixed", defArgs s_law_mixed, defBody s_law_mixed, defScope s_law_mixed, [], []⟩,
  ⟨("_law_begin", none), "_law_begin", "_law_begin", defArgs s_law_begin, defBody s_law_begin, defScope s_law_begin, [], []⟩,
  ⟨("_law_draw", none), "_law_draw", "_law_draw", defArgs s_law_draw, defBody s_law_draw, defScope s_law_draw, [], []⟩,
  ⟨("_law_of", none), "_law_of", "_law_of", defArgs s_law_of, defBody s_law_of, defScope s_law_of, [], []⟩,
  ⟨("_law_calls", none), "_law_calls", "_law_calls", defArgs s_law_calls, defBody s_law_calls, defScope s_law_calls, [], []⟩,
  ⟨("_law_zone", none), "_law_zone", "_law_zone", defArgs s_law_zone, defBody s_law_zone, defScope s_law_zone, [], []⟩,
  ⟨("_law_forced", none), "_law_forced", "_law_forced", defArgs s_law_forced, defBody s_law_forced, defScope s_law_forced, [], []⟩,
  ⟨("_law_odd", none), "_law_odd", "_law_odd", defArgs s_law_odd, defBody s_law_odd, defScope s_law_odd, [], []⟩]
def fn2 : List He.DefD := [
  ⟨("_law_crowd", none), "_law_crowd", "_law_crowd", defArgs s_law_crowd, defBody s_law_crowd, defScope s_law_crowd, [], []⟩,
  ⟨("_law_empty", none), "_law_empty", "_law_empty", defArgs s_law_empty, defBody s_law_empty, defScope s_law_empty, [], []⟩,
  ⟨("_law_now", none), "_law_now", "_law_now", defArgs s_law_now, defBody s_law_now, defScope s_law_now, [], []⟩,
  ⟨("_law_done", none), "_law_done", "_law_done", defArgs s_law_done, defBody s_law_done, defScope s_law_done, [], []⟩,
  ⟨("_law_open", none), "_law_open", "_law_open", defArgs s_law_open, defBody s_law_open, defScope s_law_open, [], []⟩,
  ⟨("_law_deed", none), "_law_deed", "_law_deed", defArgs s_law_deed, defBody s_law_deed, defScope s_law_deed, [], []⟩,
  ⟨("_law_do", none), "_law_do", "_law_do", defArgs s_law_do, defBody s_law_do, defScope s_law_do, [], []⟩,
  ⟨("_law_shows", none), "_law_shows", "_law_shows", defArgs s_law_shows, defBody s_law_shows, defScope s_law_shows, [], []⟩,
  ⟨("_law_stands", none), "_law_stands", "_law_stands", defArgs s_law_stands, defBody s_law_stands, defScope s_law_stands, [], []⟩,
  ⟨("_law_heard", none), "_law_heard", "_law_heard", defArgs s_law_heard, defBody s_law_heard, defScope s_law_heard, [], []⟩,
  ⟨("_law_are", none), "_law_are", "_law_are", defArgs s_law_are, defBody s_law_are, defScope s_law_are, [], []⟩,
  ⟨("_law_asked_right", none), "_law_asked_right", "_law_asked_right", defArgs s_law_asked_right, defBody s_law_asked_right, defScope s_law_asked_right, [], []⟩,
  ⟨("_law_hands_right", none), "_law_hands_right", "_law_hands_right", defArgs s_law_hands_right, defBody s_law_hands_right, defScope s_law_hands_right, [], []⟩,
  ⟨("_law_names_right", none), "_law_names_right", "_law_names_right", defArgs s_law_names_right, defBody s_law_names_right, defScope s_law_names_right, [], []⟩,
  ⟨("_law_right", none), "_law_right", "_law_right", defArgs s_law_right, defBody s_law_right, defScope s_law_right, [], []⟩,
  ⟨("law", none), "law", "law", defArgs s_law, defBody s_law, defScope s_law, [], []⟩]
def fn : List He.DefD := fn0 ++ fn1 ++ fn2
def fa0 : List He.Fa := [.glo "CellError", .glo "BadNumber", .glo "Busy", .glo "Idle", .glo "is_integer", .glo "is_between", .glo "calls_of", .glo "near_of", .glo "far_of", .glo "is_forced_in", .glo "are_odd_in", .glo "is_forward", .glo "forwards_in", .glo "backwards_in", .glo "crowd_in", .glo "all_spots", .glo "crowds_in", .glo "greatest_in", .glo "many_in", .glo "need_cells", .glo "is_name", .glo "Stand", .glo "Recorder", .glo "_law_mixed", .glo "_law_begin", .glo "_law_draw", .glo "_law_of", .glo "_law_calls", .glo "_law_zone", .glo "_law_forced"]
def fa1 : List He.Fa := [.glo "_law_odd", .glo "_law_crowd", .glo "_law_empty", .glo "_law_now", .glo "_law_done", .glo "_law_open", .glo "_law_deed", .glo "_law_do", .glo "_law_shows", .glo "_law_stands", .glo "_law_heard", .glo "_law_are", .glo "_law_asked_right", .glo "_law_hands_right", .glo "_law_names_right", .glo "_law_right", .glo "law", .int "MOST_TICK" 1000000000, .int "MOST_VALUES" 12, .int "MOST_READS" 4, .int "MOST_HANDS" 6, .str "GAP" "gap", .str "ZONE" "zone", .str "WRITE" "write", .str "READ" "read", .free "isinstance", .free "int", .free "bool", .free "min", .free "max"]
def fa2 : List He.Fa := [.free "len", .free "sorted", .free "tuple", .free "enumerate", .free "list", .free "dict", .free "range", .free "repr", .free "super", .free "ValueError", .cls "Stand", .cls "Recorder", .mkr "Stand", .mkr "Recorder", .noat "Stand" "busy_ones", .noat "Stand" "begins", .noat "Stand" "ends", .noat "Stand" "reads_of", .noat "Recorder" "own_hands", .noat "Recorder" "own_past", .meth "Stand" "with_busy", .meth "Stand" "begun", .meth "Stand" "ended", .meth "Stand" "names_so", .meth "Stand" "record", .meth "Stand" "has_room", .meth "Recorder" "stand", .meth "Recorder" "now", .meth "Recorder" "need_hand", .meth "Recorder" "need_free"]
def fa3 : List He.Fa := [.meth "Recorder" "go_on", .meth "Recorder" "write", .meth "Recorder" "read", .meth "Recorder" "done", .meth "Recorder" "doing", .meth "Recorder" "names", .meth "Recorder" "record_now", .meth "Recorder" "fewest_now", .meth "Recorder" "first_beyond", .meth "Recorder" "free", .meth "Recorder" "__len__", .keep "BadNumber", .noat "BadNumber" "given", .exm "BadNumber" "BadNumber" true, .exm "BadNumber" "Busy" false, .exm "BadNumber" "Idle" false, .keep "Busy", .noat "Busy" "given", .exm "Busy" "BadNumber" false, .exm "Busy" "Busy" true, .exm "Busy" "Idle" false, .keep "Idle", .noat "Idle" "given", .exm "Idle" "BadNumber" false, .exm "Idle" "Busy" false, .exm "Idle" "Idle" true]
def fa : List He.Fa := fa0 ++ fa1 ++ fa2 ++ fa3
def loose1 : List PySem.Str := ["_wall", "CellError", "BadNumber", "Busy", "Idle", "MOST_TICK", "MOST_VALUES", "MOST_READS", "is_integer", "is_between", "calls_of", "near_of", "far_of", "is_forced_in", "are_odd_in", "GAP", "ZONE", "is_forward", "forwards_in", "backwards_in", "crowd_in", "all_spots", "crowds_in", "greatest_in", "many_in", "need_cells", "MOST_HANDS", "WRITE", "READ", "is_name", "Stand", "Recorder"]
def loose2 : List PySem.Str := ["_law_mixed", "_law_begin", "_law_draw", "_law_of", "_law_calls", "_law_zone", "_law_forced", "_law_odd", "_law_crowd", "_law_empty", "_law_now", "_law_done", "_law_open", "_law_deed", "_law_do", "_law_shows", "_law_stands", "_law_heard", "_law_are", "_law_asked_right", "_law_hands_right", "_law_names_right", "_law_right"]
def loose : List PySem.Str := loose1 ++ loose2
def tf : List He.Defn := [("_law_asked_right", none), ("_law_hands_right", none), ("_law_names_right", none), ("law", none)]
abbrev file0 : PySem.Str := PySem.Challenge.pw_leastcells_k28_whole_recorders.main.file
/-- the tables of code objects of the defs that make lambdas -/
def tabP (K : PySem.W.Frag) (x : PySem.Str) : Addr := He.tabOf K (He.codeOf K (x, none))
def exB (K : PySem.W.Frag) : Bool := exB1 K "BadNumber" "BadNumber.__init__" file0 && (exB1 K "Busy" "Busy.__init__" file0 && (exB1 K "Idle" "Idle.__init__" file0 && (propB K && (sysB K && decide ((tf.map fun p => tabP K p.1).Nodup)))))
def zs (K : PySem.W.Frag) : List FnZ := [fnZ K (He.ma K (He.ga K "BadNumber") "__init__"), fnZ K (He.ma K (He.ga K "Busy") "__init__"), fnZ K (He.ma K (He.ga K "Idle") "__init__"), fnZ K (getAd K)]
def zv : List FnZ := [zOf "__init__" "BadNumber.__init__" s_BadNumber_init ["__class__"], zOf "__init__" "Busy.__init__" s_Busy_init ["__class__"], zOf "__init__" "Idle.__init__" s_Idle_init ["__class__"], zOf "hands" "Recorder.hands" s_Recorder_hands []]
def asK (g : Addr → Option Obj) : List Addr := cStatics :: sysModules :: He.asD g 5
abbrev AlK : Type := (He.AlT × Bool) × List FnZ
def obsKK (g : Addr → Option Obj) (K : PySem.W.Frag) : AlK := ((He.obsT fa fn [] K, exB K && He.tabsB g tf K), zs K)
def obsK (g : Addr → Option Obj) : AlK := obsKK g (He.frT g (asK g))
def valK (w : World) : AlK := ((He.valT fn [] w, true), zv)
structure SaysK (w : World) (h : Heap) (K : PySem.W.Frag) : Prop where
  t : He.SaysT fa fn [] w K
  more : exB K = true
  hd : ∀ p ∈ tf, PySem.W.codeHdIn K (He.cT K p).1 (He.cT K p).2 = true
  out : ∀ p ∈ tf, K.lookup (He.cT K p).2 = none
  empty : ∀ p ∈ tf, h.get? (He.cT K p).2 = some { cls := .none, data := .fields #[] }
  z : zs K = zv
theorem saysK_of {w : World} {h : Heap} (e : obsK h.get? = valK w) : SaysK w h (He.frT h.get? (asK h.get?)) := by
  have e1 : He.obsT fa fn [] (He.frT h.get? (asK h.get?)) = He.valT fn [] w := congrArg (fun z : AlK => z.1.1) e
  have e2 : (exB (He.frT h.get? (asK h.get?)) && He.tabsB h.get? tf (He.frT h.get? (asK h.get?))) = true := congrArg (fun z : AlK => z.1.2) e
  have e3 : zs (He.frT h.get? (asK h.get?)) = zv := congrArg (fun z : AlK => z.2) e
  generalize hK : He.frT h.get? (asK h.get?) = K at *
  obtain ⟨h1, h2⟩ := He.ba e2
  have each : ∀ p ∈ tf, PySem.W.codeHdIn K (He.cT K p).1 (He.cT K p).2 = true ∧ ∃ o, h.get? (He.cT K p).2 = some o ∧ He.emptyTab o = true := by
    intro p hp
    obtain ⟨a1, a2⟩ := He.ba (List.all_eq_true.mp h2 p hp)
    cases q : h.get? (He.cT K p).2 with
    | none => simp [q] at a2
    | some o => exact ⟨a1, o, rfl, by simpa [q] using a2⟩
  refine ⟨e1, h1, fun p hp => (each p hp).1, fun p hp => ?_, fun p hp => ?_, e3⟩
  · obtain ⟨_, o, q, z⟩ := each p hp
    rw [← hK]
    rw [← hK] at q
    exact He.frT_none q z
  · obtain ⟨_, o, q, z⟩ := each p hp
    rw [q, He.emptyTab_eq z]
def hk : PySem.W.Hook where
  α := AlK
  obs := fun s => obsK s.heap.get?
  val := fun w => valK w
  says := fun w h => ∃ K : PySem.W.Frag, K.In h ∧ SaysK w h K
  of := fun _ _ e => ⟨_, He.frT_in, saysK_of e⟩
  keeps := fun _ _ _ ⟨K, hK, c⟩ k => ⟨K, PySem.W.Frag.In.keeps hK k, ⟨c.t, c.more, c.hd, c.out, fun p hp => k _ _ (c.empty p hp), c.z⟩⟩
abbrev R : PySem.W.OpenRow := PySem.W.OpenLaw.row PySem.Challenge.rw_leastcells_k28_whole_recorders
def ob (s : PySem.W.SharedT) : AlK := obsK (HandSHeadRun.getT s)
theorem ob_eq (s : PySem.W.SharedT) : ob s = hk.obs s.abs := by
  have e : HandSHeadRun.getT s = s.abs.heap.get? := funext (HandSHeadRun.getT_eq s)
  show obsK (HandSHeadRun.getT s) = obsK s.abs.heap.get?
  rw [e]
theorem run (w : World) : HandSHeadRun.RunEq R (PySem.W.view R.prog [62]) hk ob 4000 loose w := by
  intro os
  kernel_rfl
end K28
set_option maxHeartbeats 4000000
-- KFacts
/-! KFacts: the module's facts out of the head's. Printed by gen_facts.py. -/
namespace K28
open PySem PySem.Spec PyProof.Rows L2
section
variable {P : Program} {w : World} {K : PySem.W.Frag} {mg : Str → Option Value} {h : Heap}
theorem top_of (c : He.SaysD fa fn K) (X : K.In h) (G : h.Ns mainGlobals mg) {x : Str} {st : Stmt} (i j : Nat) (h1 : fn[i]? = some ⟨(x, none), x, x, defArgs st, defBody st, defScope st, [], []⟩ := by rfl) (h2 : fa[j]? = some (.glo x) := by rfl) : Top K mg x st := ⟨c.def_ i h1, He.glo_ok X G (c.fact j h2)⟩
theorem mtd_of (c : He.SaysD fa fn K) {C m qual : Str} {st : Stmt} {dfl : List He.Dv} (i : Nat) (h1 : fn[i]? = some ⟨(C, some m), m, qual, defArgs st, defBody st, defScope st, dfl, []⟩ := by rfl) : Mtd K C m qual st (dfl.map (He.Dv.v K)) := ⟨c.def_ i h1⟩
structure Pmo0 (K : PySem.W.Frag) (mg : Str → Option Value) : Prop where
  d_is_integer : Top K mg "is_integer" s_is_integer
  d_is_between : Top K mg "is_between" s_is_between
  d_calls_of : Top K mg "calls_of" s_calls_of
  d_near_of : Top K mg "near_of" s_near_of
  d_far_of : Top K mg "far_of" s_far_of
  d_is_forced_in : Top K mg "is_forced_in" s_is_forced_in
  d_are_odd_in : Top K mg "are_odd_in" s_are_odd_in
  d_is_forward : Top K mg "is_forward" s_is_forward
  d_forwards_in : Top K mg "forwards_in" s_forwards_in
  d_backwards_in : Top K mg "backwards_in" s_backwards_in
  d_crowd_in : Top K mg "crowd_in" s_crowd_in
  d_all_spots : Top K mg "all_spots" s_all_spots
  d_crowds_in : Top K mg "crowds_in" s_crowds_in
  d_greatest_in : Top K mg "greatest_in" s_greatest_in
  d_many_in : Top K mg "many_in" s_many_in
  d_need_cells : Top K mg "need_cells" s_need_cells
  d_is_name : Top K mg "is_name" s_is_name
  m_Stand_init : Mtd K "Stand" "__init__" "Stand.__init__" s_Stand_init []
  m_Stand_with_busy : Mtd K "Stand" "with_busy" "Stand.with_busy" s_Stand_with_busy []
  t_Stand_with_busy : Meth K (He.ga K "Stand") "with_busy" (He.ma K (He.ga K "Stand") "with_busy")
  m_Stand_begun : Mtd K "Stand" "begun" "Stand.begun" s_Stand_begun []
  t_Stand_begun : Meth K (He.ga K "Stand") "begun" (He.ma K (He.ga K "Stand") "begun")
  m_Stand_ended : Mtd K "Stand" "ended" "Stand.ended" s_Stand_ended []
  t_Stand_ended : Meth K (He.ga K "Stand") "ended" (He.ma K (He.ga K "Stand") "ended")
theorem mo0_of (X : K.In h) (G : h.Ns mainGlobals mg) (c : SaysK w h K) : Pmo0 K mg where
  d_is_integer := top_of c.t.d X G (x := "is_integer") (st := s_is_integer) 0 4
  d_is_between := top_of c.t.d X G (x := "is_between") (st := s_is_between) 1 5
  d_calls_of := top_of c.t.d X G (x := "calls_of") (st := s_calls_of) 2 6
  d_near_of := top_of c.t.d X G (x := "near_of") (st := s_near_of) 3 7
  d_far_of := top_of c.t.d X G (x := "far_of") (st := s_far_of) 4 8
  d_is_forced_in := top_of c.t.d X G (x := "is_forced_in") (st := s_is_forced_in) 5 9
  d_are_odd_in := top_of c.t.d X G (x := "are_odd_in") (st := s_are_odd_in) 6 10
  d_is_forward := top_of c.t.d X G (x := "is_forward") (st := s_is_forward) 7 11
  d_forwards_in := top_of c.t.d X G (x := "forwards_in") (st := s_forwards_in) 8 12
  d_backwards_in := top_of c.t.d X G (x := "backwards_in") (st := s_backwards_in) 9 13
  d_crowd_in := top_of c.t.d X G (x := "crowd_in") (st := s_crowd_in) 10 14
  d_all_spots := top_of c.t.d X G (x := "all_spots") (st := s_all_spots) 11 15
  d_crowds_in := top_of c.t.d X G (x := "crowds_in") (st := s_crowds_in) 12 16
  d_greatest_in := top_of c.t.d X G (x := "greatest_in") (st := s_greatest_in) 13 17
  d_many_in := top_of c.t.d X G (x := "many_in") (st := s_many_in) 14 18
  d_need_cells := top_of c.t.d X G (x := "need_cells") (st := s_need_cells) 15 19
  d_is_name := top_of c.t.d X G (x := "is_name") (st := s_is_name) 16 20
  m_Stand_init := mtd_of c.t.d (C := "Stand") (m := "__init__") (qual := "Stand.__init__") (st := s_Stand_init) (dfl := []) 17
  m_Stand_with_busy := mtd_of c.t.d (C := "Stand") (m := "with_busy") (qual := "Stand.with_busy") (st := s_Stand_with_busy) (dfl := []) 18
  t_Stand_with_busy := He.meth_ok (c.t.d.fact 80 (f := .meth "Stand" "with_busy") rfl)
  m_Stand_begun := mtd_of c.t.d (C := "Stand") (m := "begun") (qual := "Stand.begun") (st := s_Stand_begun) (dfl := []) 19
  t_Stand_begun := He.meth_ok (c.t.d.fact 81 (f := .meth "Stand" "begun") rfl)
  m_Stand_ended := mtd_of c.t.d (C := "Stand") (m := "ended") (qual := "Stand.ended") (st := s_Stand_ended) (dfl := []) 20
  t_Stand_ended := He.meth_ok (c.t.d.fact 82 (f := .meth "Stand" "ended") rfl)
structure Pmo1 (K : PySem.W.Frag) (mg : Str → Option Value) : Prop where
  m_Stand_names_so : Mtd K "Stand" "names_so" "Stand.names_so" s_Stand_names_so []
  t_Stand_names_so : Meth K (He.ga K "Stand") "names_so" (He.ma K (He.ga K "Stand") "names_so")
  m_Stand_record : Mtd K "Stand" "record" "Stand.record" s_Stand_record []
  t_Stand_record : Meth K (He.ga K "Stand") "record" (He.ma K (He.ga K "Stand") "record")
  m_Stand_has_room : Mtd K "Stand" "has_room" "Stand.has_room" s_Stand_has_room []
  t_Stand_has_room : Meth K (He.ga K "Stand") "has_room" (He.ma K (He.ga K "Stand") "has_room")
  m_Recorder_init : Mtd K "Recorder" "__init__" "Recorder.__init__" s_Recorder_init []
  m_Recorder_stand : Mtd K "Recorder" "stand" "Recorder.stand" s_Recorder_stand []
  t_Recorder_stand : Meth K (He.ga K "Recorder") "stand" (He.ma K (He.ga K "Recorder") "stand")
  m_Recorder_now : Mtd K "Recorder" "now" "Recorder.now" s_Recorder_now []
  t_Recorder_now : Meth K (He.ga K "Recorder") "now" (He.ma K (He.ga K "Recorder") "now")
  m_Recorder_need_hand : Mtd K "Recorder" "need_hand" "Recorder.need_hand" s_Recorder_need_hand []
  t_Recorder_need_hand : Meth K (He.ga K "Recorder") "need_hand" (He.ma K (He.ga K "Recorder") "need_hand")
  m_Recorder_need_free : Mtd K "Recorder" "need_free" "Recorder.need_free" s_Recorder_need_free []
  t_Recorder_need_free : Meth K (He.ga K "Recorder") "need_free" (He.ma K (He.ga K "Recorder") "need_free")
  m_Recorder_go_on : Mtd K "Recorder" "go_on" "Recorder.go_on" s_Recorder_go_on []
  t_Recorder_go_on : Meth K (He.ga K "Recorder") "go_on" (He.ma K (He.ga K "Recorder") "go_on")
  m_Recorder_write : Mtd K "Recorder" "write" "Recorder.write" s_Recorder_write []
  t_Recorder_write : Meth K (He.ga K "Recorder") "write" (He.ma K (He.ga K "Recorder") "write")
  m_Recorder_read : Mtd K "Recorder" "read" "Recorder.read" s_Recorder_read []
  t_Recorder_read : Meth K (He.ga K "Recorder") "read" (He.ma K (He.ga K "Recorder") "read")
  m_Recorder_done : Mtd K "Recorder" "done" "Recorder.done" s_Recorder_done [.non]
  t_Recorder_done : Meth K (He.ga K "Recorder") "done" (He.ma K (He.ga K "Recorder") "done")
  m_Recorder_doing : Mtd K "Recorder" "doing" "Recorder.doing" s_Recorder_doing []
theorem mo1_of (X : K.In h) (G : h.Ns mainGlobals mg) (c : SaysK w h K) : Pmo1 K mg where
  m_Stand_names_so := mtd_of c.t.d (C := "Stand") (m := "names_so") (qual := "Stand.names_so") (st := s_Stand_names_so) (dfl := []) 21
  t_Stand_names_so := He.meth_ok (c.t.d.fact 83 (f := .meth "Stand" "names_so") rfl)
  m_Stand_record := mtd_of c.t.d (C := "Stand") (m := "record") (qual := "Stand.record") (st := s_Stand_record) (dfl := []) 22
  t_Stand_record := He.meth_ok (c.t.d.fact 84 (f := .meth "Stand" "record") rfl)
  m_Stand_has_room := mtd_of c.t.d (C := "Stand") (m := "has_room") (qual := "Stand.has_room") (st := s_Stand_has_room) (dfl := []) 23
  t_Stand_has_room := He.meth_ok (c.t.d.fact 85 (f := .meth "Stand" "has_room") rfl)
  m_Recorder_init := mtd_of c.t.d (C := "Recorder") (m := "__init__") (qual := "Recorder.__init__") (st := s_Recorder_init) (dfl := []) 24
  m_Recorder_stand := mtd_of c.t.d (C := "Recorder") (m := "stand") (qual := "Recorder.stand") (st := s_Recorder_stand) (dfl := []) 25
  t_Recorder_stand := He.meth_ok (c.t.d.fact 86 (f := .meth "Recorder" "stand") rfl)
  m_Recorder_now := mtd_of c.t.d (C := "Recorder") (m := "now") (qual := "Recorder.now") (st := s_Recorder_now) (dfl := []) 26
  t_Recorder_now := He.meth_ok (c.t.d.fact 87 (f := .meth "Recorder" "now") rfl)
  m_Recorder_need_hand := mtd_of c.t.d (C := "Recorder") (m := "need_hand") (qual := "Recorder.need_hand") (st := s_Recorder_need_hand) (dfl := []) 27
  t_Recorder_need_hand := He.meth_ok (c.t.d.fact 88 (f := .meth "Recorder" "need_hand") rfl)
  m_Recorder_need_free := mtd_of c.t.d (C := "Recorder") (m := "need_free") (qual := "Recorder.need_free") (st := s_Recorder_need_free) (dfl := []) 28
  t_Recorder_need_free := He.meth_ok (c.t.d.fact 89 (f := .meth "Recorder" "need_free") rfl)
  m_Recorder_go_on := mtd_of c.t.d (C := "Recorder") (m := "go_on") (qual := "Recorder.go_on") (st := s_Recorder_go_on) (dfl := []) 29
  t_Recorder_go_on := He.meth_ok (c.t.d.fact 90 (f := .meth "Recorder" "go_on") rfl)
  m_Recorder_write := mtd_of c.t.d (C := "Recorder") (m := "write") (qual := "Recorder.write") (st := s_Recorder_write) (dfl := []) 30
  t_Recorder_write := He.meth_ok (c.t.d.fact 91 (f := .meth "Recorder" "write") rfl)
  m_Recorder_read := mtd_of c.t.d (C := "Recorder") (m := "read") (qual := "Recorder.read") (st := s_Recorder_read) (dfl := []) 31
  t_Recorder_read := He.meth_ok (c.t.d.fact 92 (f := .meth "Recorder" "read") rfl)
  m_Recorder_done := mtd_of c.t.d (C := "Recorder") (m := "done") (qual := "Recorder.done") (st := s_Recorder_done) (dfl := [.non]) 32
  t_Recorder_done := He.meth_ok (c.t.d.fact 93 (f := .meth "Recorder" "done") rfl)
  m_Recorder_doing := mtd_of c.t.d (C := "Recorder") (m := "doing") (qual := "Recorder.doing") (st := s_Recorder_doing) (dfl := []) 33
structure Pmo2 (K : PySem.W.Frag) (mg : Str → Option Value) : Prop where
  t_Recorder_doing : Meth K (He.ga K "Recorder") "doing" (He.ma K (He.ga K "Recorder") "doing")
  m_Recorder_names : Mtd K "Recorder" "names" "Recorder.names" s_Recorder_names []
  t_Recorder_names : Meth K (He.ga K "Recorder") "names" (He.ma K (He.ga K "Recorder") "names")
  m_Recorder_record_now : Mtd K "Recorder" "record_now" "Recorder.record_now" s_Recorder_record_now []
  t_Recorder_record_now : Meth K (He.ga K "Recorder") "record_now" (He.ma K (He.ga K "Recorder") "record_now")
  m_Recorder_fewest_now : Mtd K "Recorder" "fewest_now" "Recorder.fewest_now" s_Recorder_fewest_now []
  t_Recorder_fewest_now : Meth K (He.ga K "Recorder") "fewest_now" (He.ma K (He.ga K "Recorder") "fewest_now")
  m_Recorder_first_beyond : Mtd K "Recorder" "first_beyond" "Recorder.first_beyond" s_Recorder_first_beyond []
  t_Recorder_first_beyond : Meth K (He.ga K "Recorder") "first_beyond" (He.ma K (He.ga K "Recorder") "first_beyond")
  m_Recorder_free : Mtd K "Recorder" "free" "Recorder.free" s_Recorder_free []
  t_Recorder_free : Meth K (He.ga K "Recorder") "free" (He.ma K (He.ga K "Recorder") "free")
  m_Recorder_len : Mtd K "Recorder" "__len__" "Recorder.__len__" s_Recorder_len []
  t_Recorder_len : Meth K (He.ga K "Recorder") "__len__" (He.ma K (He.ga K "Recorder") "__len__")
  d_law_mixed : Top K mg "_law_mixed" s_law_mixed
  d_law_begin : Top K mg "_law_begin" s_law_begin
  d_law_draw : Top K mg "_law_draw" s_law_draw
  d_law_of : Top K mg "_law_of" s_law_of
  d_law_calls : Top K mg "_law_calls" s_law_calls
  d_law_zone : Top K mg "_law_zone" s_law_zone
  d_law_forced : Top K mg "_law_forced" s_law_forced
  d_law_odd : Top K mg "_law_odd" s_law_odd
  d_law_crowd : Top K mg "_law_crowd" s_law_crowd
  d_law_empty : Top K mg "_law_empty" s_law_empty
  d_law_now : Top K mg "_law_now" s_law_now
theorem mo2_of (X : K.In h) (G : h.Ns mainGlobals mg) (c : SaysK w h K) : Pmo2 K mg where
  t_Recorder_doing := He.meth_ok (c.t.d.fact 94 (f := .meth "Recorder" "doing") rfl)
  m_Recorder_names := mtd_of c.t.d (C := "Recorder") (m := "names") (qual := "Recorder.names") (st := s_Recorder_names) (dfl := []) 34
  t_Recorder_names := He.meth_ok (c.t.d.fact 95 (f := .meth "Recorder" "names") rfl)
  m_Recorder_record_now := mtd_of c.t.d (C := "Recorder") (m := "record_now") (qual := "Recorder.record_now") (st := s_Recorder_record_now) (dfl := []) 35
  t_Recorder_record_now := He.meth_ok (c.t.d.fact 96 (f := .meth "Recorder" "record_now") rfl)
  m_Recorder_fewest_now := mtd_of c.t.d (C := "Recorder") (m := "fewest_now") (qual := "Recorder.fewest_now") (st := s_Recorder_fewest_now) (dfl := []) 36
  t_Recorder_fewest_now := He.meth_ok (c.t.d.fact 97 (f := .meth "Recorder" "fewest_now") rfl)
  m_Recorder_first_beyond := mtd_of c.t.d (C := "Recorder") (m := "first_beyond") (qual := "Recorder.first_beyond") (st := s_Recorder_first_beyond) (dfl := []) 37
  t_Recorder_first_beyond := He.meth_ok (c.t.d.fact 98 (f := .meth "Recorder" "first_beyond") rfl)
  m_Recorder_free := mtd_of c.t.d (C := "Recorder") (m := "free") (qual := "Recorder.free") (st := s_Recorder_free) (dfl := []) 38
  t_Recorder_free := He.meth_ok (c.t.d.fact 99 (f := .meth "Recorder" "free") rfl)
  m_Recorder_len := mtd_of c.t.d (C := "Recorder") (m := "__len__") (qual := "Recorder.__len__") (st := s_Recorder_len) (dfl := []) 39
  t_Recorder_len := He.meth_ok (c.t.d.fact 100 (f := .meth "Recorder" "__len__") rfl)
  d_law_mixed := top_of c.t.d X G (x := "_law_mixed") (st := s_law_mixed) 40 23
  d_law_begin := top_of c.t.d X G (x := "_law_begin") (st := s_law_begin) 41 24
  d_law_draw := top_of c.t.d X G (x := "_law_draw") (st := s_law_draw) 42 25
  d_law_of := top_of c.t.d X G (x := "_law_of") (st := s_law_of) 43 26
  d_law_calls := top_of c.t.d X G (x := "_law_calls") (st := s_law_calls) 44 27
  d_law_zone := top_of c.t.d X G (x := "_law_zone") (st := s_law_zone) 45 28
  d_law_forced := top_of c.t.d X G (x := "_law_forced") (st := s_law_forced) 46 29
  d_law_odd := top_of c.t.d X G (x := "_law_odd") (st := s_law_odd) 47 30
  d_law_crowd := top_of c.t.d X G (x := "_law_crowd") (st := s_law_crowd) 48 31
  d_law_empty := top_of c.t.d X G (x := "_law_empty") (st := s_law_empty) 49 32
  d_law_now := top_of c.t.d X G (x := "_law_now") (st := s_law_now) 50 33
structure Pmo3 (K : PySem.W.Frag) (mg : Str → Option Value) : Prop where
  d_law_done : Top K mg "_law_done" s_law_done
  d_law_open : Top K mg "_law_open" s_law_open
  d_law_deed : Top K mg "_law_deed" s_law_deed
  d_law_do : Top K mg "_law_do" s_law_do
  d_law_shows : Top K mg "_law_shows" s_law_shows
  d_law_stands : Top K mg "_law_stands" s_law_stands
  d_law_heard : Top K mg "_law_heard" s_law_heard
  d_law_are : Top K mg "_law_are" s_law_are
  d_law_asked_right : Top K mg "_law_asked_right" s_law_asked_right
  d_law_hands_right : Top K mg "_law_hands_right" s_law_hands_right
  d_law_names_right : Top K mg "_law_names_right" s_law_names_right
  d_law_right : Top K mg "_law_right" s_law_right
  d_law : Top K mg "law" s_law
  c_Stand : Cls K (He.ga K "Stand")
  k_Stand : Mk K (He.ga K "Stand") (He.ma K (He.ga K "Stand") "__init__")
  c_Recorder : Cls K (He.ga K "Recorder")
  k_Recorder : Mk K (He.ga K "Recorder") (He.ma K (He.ga K "Recorder") "__init__")
  g_CellError : mg "CellError" = some (.ref (He.ga K "CellError"))
  g_BadNumber : mg "BadNumber" = some (.ref (He.ga K "BadNumber"))
  g_Busy : mg "Busy" = some (.ref (He.ga K "Busy"))
  g_Idle : mg "Idle" = some (.ref (He.ga K "Idle"))
  g_Stand : mg "Stand" = some (.ref (He.ga K "Stand"))
  g_Recorder : mg "Recorder" = some (.ref (He.ga K "Recorder"))
  a_busy_ones : NoAttr K (He.ga K "Stand") "busy_ones"
theorem mo3_of (X : K.In h) (G : h.Ns mainGlobals mg) (c : SaysK w h K) : Pmo3 K mg where
  d_law_done := top_of c.t.d X G (x := "_law_done") (st := s_law_done) 51 34
  d_law_open := top_of c.t.d X G (x := "_law_open") (st := s_law_open) 52 35
  d_law_deed := top_of c.t.d X G (x := "_law_deed") (st := s_law_deed) 53 36
  d_law_do := top_of c.t.d X G (x := "_law_do") (st := s_law_do) 54 37
  d_law_shows := top_of c.t.d X G (x := "_law_shows") (st := s_law_shows) 55 38
  d_law_stands := top_of c.t.d X G (x := "_law_stands") (st := s_law_stands) 56 39
  d_law_heard := top_of c.t.d X G (x := "_law_heard") (st := s_law_heard) 57 40
  d_law_are := top_of c.t.d X G (x := "_law_are") (st := s_law_are) 58 41
  d_law_asked_right := top_of c.t.d X G (x := "_law_asked_right") (st := s_law_asked_right) 59 42
  d_law_hands_right := top_of c.t.d X G (x := "_law_hands_right") (st := s_law_hands_right) 60 43
  d_law_names_right := top_of c.t.d X G (x := "_law_names_right") (st := s_law_names_right) 61 44
  d_law_right := top_of c.t.d X G (x := "_law_right") (st := s_law_right) 62 45
  d_law := top_of c.t.d X G (x := "law") (st := s_law) 63 46
  c_Stand := He.cls_ok (c.t.d.fact 70 (f := .cls "Stand") rfl)
  k_Stand := He.mkr_ok (c.t.d.fact 72 (f := .mkr "Stand") rfl)
  c_Recorder := He.cls_ok (c.t.d.fact 71 (f := .cls "Recorder") rfl)
  k_Recorder := He.mkr_ok (c.t.d.fact 73 (f := .mkr "Recorder") rfl)
  g_CellError := He.glo_ok X G (c.t.d.fact 0 (f := .glo "CellError") rfl)
  g_BadNumber := He.glo_ok X G (c.t.d.fact 1 (f := .glo "BadNumber") rfl)
  g_Busy := He.glo_ok X G (c.t.d.fact 2 (f := .glo "Busy") rfl)
  g_Idle := He.glo_ok X G (c.t.d.fact 3 (f := .glo "Idle") rfl)
  g_Stand := He.glo_ok X G (c.t.d.fact 21 (f := .glo "Stand") rfl)
  g_Recorder := He.glo_ok X G (c.t.d.fact 22 (f := .glo "Recorder") rfl)
  a_busy_ones := He.noat_ok (c.t.d.fact 74 (f := .noat "Stand" "busy_ones") rfl)
structure Pmo4 (K : PySem.W.Frag) (mg : Str → Option Value) : Prop where
  a_begins : NoAttr K (He.ga K "Stand") "begins"
  a_ends : NoAttr K (He.ga K "Stand") "ends"
  a_reads_of : NoAttr K (He.ga K "Stand") "reads_of"
  a_own_hands : NoAttr K (He.ga K "Recorder") "own_hands"
  a_own_past : NoAttr K (He.ga K "Recorder") "own_past"
  i_MOST_TICK : ∃ t, mg "MOST_TICK" = some (.int 1000000000 t)
  i_MOST_VALUES : ∃ t, mg "MOST_VALUES" = some (.int 12 t)
  i_MOST_READS : ∃ t, mg "MOST_READS" = some (.int 4 t)
  i_MOST_HANDS : ∃ t, mg "MOST_HANDS" = some (.int 6 t)
  s_GAP : ∃ t, mg "GAP" = some (.str "gap" t)
  s_ZONE : ∃ t, mg "ZONE" = some (.str "zone" t)
  s_WRITE : ∃ t, mg "WRITE" = some (.str "write" t)
  s_READ : ∃ t, mg "READ" = some (.str "read" t)
  f_isinstance : mg "isinstance" = none
  f_int : mg "int" = none
  f_bool : mg "bool" = none
  f_min : mg "min" = none
  f_max : mg "max" = none
  f_len : mg "len" = none
  f_sorted : mg "sorted" = none
  f_tuple : mg "tuple" = none
  f_enumerate : mg "enumerate" = none
  f_list : mg "list" = none
  f_dict : mg "dict" = none
theorem mo4_of (X : K.In h) (G : h.Ns mainGlobals mg) (c : SaysK w h K) : Pmo4 K mg where
  a_begins := He.noat_ok (c.t.d.fact 75 (f := .noat "Stand" "begins") rfl)
  a_ends := He.noat_ok (c.t.d.fact 76 (f := .noat "Stand" "ends") rfl)
  a_reads_of := He.noat_ok (c.t.d.fact 77 (f := .noat "Stand" "reads_of") rfl)
  a_own_hands := He.noat_ok (c.t.d.fact 78 (f := .noat "Recorder" "own_hands") rfl)
  a_own_past := He.noat_ok (c.t.d.fact 79 (f := .noat "Recorder" "own_past") rfl)
  i_MOST_TICK := He.int_ok X G (c.t.d.fact 47 (f := .int "MOST_TICK" 1000000000) rfl)
  i_MOST_VALUES := He.int_ok X G (c.t.d.fact 48 (f := .int "MOST_VALUES" 12) rfl)
  i_MOST_READS := He.int_ok X G (c.t.d.fact 49 (f := .int "MOST_READS" 4) rfl)
  i_MOST_HANDS := He.int_ok X G (c.t.d.fact 50 (f := .int "MOST_HANDS" 6) rfl)
  s_GAP := He.str_ok X G (c.t.d.fact 51 (f := .str "GAP" "gap") rfl)
  s_ZONE := He.str_ok X G (c.t.d.fact 52 (f := .str "ZONE" "zone") rfl)
  s_WRITE := He.str_ok X G (c.t.d.fact 53 (f := .str "WRITE" "write") rfl)
  s_READ := He.str_ok X G (c.t.d.fact 54 (f := .str "READ" "read") rfl)
  f_isinstance := He.free_ok X G (c.t.d.fact 55 (f := .free "isinstance") rfl)
  f_int := He.free_ok X G (c.t.d.fact 56 (f := .free "int") rfl)
  f_bool := He.free_ok X G (c.t.d.fact 57 (f := .free "bool") rfl)
  f_min := He.free_ok X G (c.t.d.fact 58 (f := .free "min") rfl)
  f_max := He.free_ok X G (c.t.d.fact 59 (f := .free "max") rfl)
  f_len := He.free_ok X G (c.t.d.fact 60 (f := .free "len") rfl)
  f_sorted := He.free_ok X G (c.t.d.fact 61 (f := .free "sorted") rfl)
  f_tuple := He.free_ok X G (c.t.d.fact 62 (f := .free "tuple") rfl)
  f_enumerate := He.free_ok X G (c.t.d.fact 63 (f := .free "enumerate") rfl)
  f_list := He.free_ok X G (c.t.d.fact 64 (f := .free "list") rfl)
  f_dict := He.free_ok X G (c.t.d.fact 65 (f := .free "dict") rfl)
structure Pmo5 (K : PySem.W.Frag) (mg : Str → Option Value) : Prop where
  f_range : mg "range" = none
  f_repr : mg "repr" = none
  f_super : mg "super" = none
  f_ValueError : mg "ValueError" = none
theorem mo5_of (X : K.In h) (G : h.Ns mainGlobals mg) (c : SaysK w h K) : Pmo5 K mg where
  f_range := He.free_ok X G (c.t.d.fact 66 (f := .free "range") rfl)
  f_repr := He.free_ok X G (c.t.d.fact 67 (f := .free "repr") rfl)
  f_super := He.free_ok X G (c.t.d.fact 68 (f := .free "super") rfl)
  f_ValueError := He.free_ok X G (c.t.d.fact 69 (f := .free "ValueError") rfl)
theorem mo_of (X : K.In h) (G : h.Ns mainGlobals mg) (c : SaysK w h K) : Mo K mg where
  d_is_integer := (mo0_of X G c).d_is_integer
  d_is_between := (mo0_of X G c).d_is_between
  d_calls_of := (mo0_of X G c).d_calls_of
  d_near_of := (mo0_of X G c).d_near_of
  d_far_of := (mo0_of X G c).d_far_of
  d_is_forced_in := (mo0_of X G c).d_is_forced_in
  d_are_odd_in := (mo0_of X G c).d_are_odd_in
  d_is_forward := (mo0_of X G c).d_is_forward
  d_forwards_in := (mo0_of X G c).d_forwards_in
  d_backwards_in := (mo0_of X G c).d_backwards_in
  d_crowd_in := (mo0_of X G c).d_crowd_in
  d_all_spots := (mo0_of X G c).d_all_spots
  d_crowds_in := (mo0_of X G c).d_crowds_in
  d_greatest_in := (mo0_of X G c).d_greatest_in
  d_many_in := (mo0_of X G c).d_many_in
  d_need_cells := (mo0_of X G c).d_need_cells
  d_is_name := (mo0_of X G c).d_is_name
  m_Stand_init := (mo0_of X G c).m_Stand_init
  m_Stand_with_busy := (mo0_of X G c).m_Stand_with_busy
  t_Stand_with_busy := (mo0_of X G c).t_Stand_with_busy
  m_Stand_begun := (mo0_of X G c).m_Stand_begun
  t_Stand_begun := (mo0_of X G c).t_Stand_begun
  m_Stand_ended := (mo0_of X G c).m_Stand_ended
  t_Stand_ended := (mo0_of X G c).t_Stand_ended
  m_Stand_names_so := (mo1_of X G c).m_Stand_names_so
  t_Stand_names_so := (mo1_of X G c).t_Stand_names_so
  m_Stand_record := (mo1_of X G c).m_Stand_record
  t_Stand_record := (mo1_of X G c).t_Stand_record
  m_Stand_has_room := (mo1_of X G c).m_Stand_has_room
  t_Stand_has_room := (mo1_of X G c).t_Stand_has_room
  m_Recorder_init := (mo1_of X G c).m_Recorder_init
  m_Recorder_stand := (mo1_of X G c).m_Recorder_stand
  t_Recorder_stand := (mo1_of X G c).t_Recorder_stand
  m_Recorder_now := (mo1_of X G c).m_Recorder_now
  t_Recorder_now := (mo1_of X G c).t_Recorder_now
  m_Recorder_need_hand := (mo1_of X G c).m_Recorder_need_hand
  t_Recorder_need_hand := (mo1_of X G c).t_Recorder_need_hand
  m_Recorder_need_free := (mo1_of X G c).m_Recorder_need_free
  t_Recorder_need_free := (mo1_of X G c).t_Recorder_need_free
  m_Recorder_go_on := (mo1_of X G c).m_Recorder_go_on
  t_Recorder_go_on := (mo1_of X G c).t_Recorder_go_on
  m_Recorder_write := (mo1_of X G c).m_Recorder_write
  t_Recorder_write := (mo1_of X G c).t_Recorder_write
  m_Recorder_read := (mo1_of X G c).m_Recorder_read
  t_Recorder_read := (mo1_of X G c).t_Recorder_read
  m_Recorder_done := (mo1_of X G c).m_Recorder_done
  t_Recorder_done := (mo1_of X G c).t_Recorder_done
  m_Recorder_doing := (mo1_of X G c).m_Recorder_doing
  t_Recorder_doing := (mo2_of X G c).t_Recorder_doing
  m_Recorder_names := (mo2_of X G c).m_Recorder_names
  t_Recorder_names := (mo2_of X G c).t_Recorder_names
  m_Recorder_record_now := (mo2_of X G c).m_Recorder_record_now
  t_Recorder_record_now := (mo2_of X G c).t_Recorder_record_now
  m_Recorder_fewest_now := (mo2_of X G c).m_Recorder_fewest_now
  t_Recorder_fewest_now := (mo2_of X G c).t_Recorder_fewest_now
  m_Recorder_first_beyond := (mo2_of X G c).m_Recorder_first_beyond
  t_Recorder_first_beyond := (mo2_of X G c).t_Recorder_first_beyond
  m_Recorder_free := (mo2_of X G c).m_Recorder_free
  t_Recorder_free := (mo2_of X G c).t_Recorder_free
  m_Recorder_len := (mo2_of X G c).m_Recorder_len
  t_Recorder_len := (mo2_of X G c).t_Recorder_len
  d_law_mixed := (mo2_of X G c).d_law_mixed
  d_law_begin := (mo2_of X G c).d_law_begin
  d_law_draw := (mo2_of X G c).d_law_draw
  d_law_of := (mo2_of X G c).d_law_of
  d_law_calls := (mo2_of X G c).d_law_calls
  d_law_zone := (mo2_of X G c).d_law_zone
  d_law_forced := (mo2_of X G c).d_law_forced
  d_law_odd := (mo2_of X G c).d_law_odd
  d_law_crowd := (mo2_of X G c).d_law_crowd
  d_law_empty := (mo2_of X G c).d_law_empty
  d_law_now := (mo2_of X G c).d_law_now
  d_law_done := (mo3_of X G c).d_law_done
  d_law_open := (mo3_of X G c).d_law_open
  d_law_deed := (mo3_of X G c).d_law_deed
  d_law_do := (mo3_of X G c).d_law_do
  d_law_shows := (mo3_of X G c).d_law_shows
  d_law_stands := (mo3_of X G c).d_law_stands
  d_law_heard := (mo3_of X G c).d_law_heard
  d_law_are := (mo3_of X G c).d_law_are
  d_law_asked_right := (mo3_of X G c).d_law_asked_right
  d_law_hands_right := (mo3_of X G c).d_law_hands_right
  d_law_names_right := (mo3_of X G c).d_law_names_right
  d_law_right := (mo3_of X G c).d_law_right
  d_law := (mo3_of X G c).d_law
  c_Stand := (mo3_of X G c).c_Stand
  k_Stand := (mo3_of X G c).k_Stand
  c_Recorder := (mo3_of X G c).c_Recorder
  k_Recorder := (mo3_of X G c).k_Recorder
  g_CellError := (mo3_of X G c).g_CellError
  g_BadNumber := (mo3_of X G c).g_BadNumber
  g_Busy := (mo3_of X G c).g_Busy
  g_Idle := (mo3_of X G c).g_Idle
  g_Stand := (mo3_of X G c).g_Stand
  g_Recorder := (mo3_of X G c).g_Recorder
  a_busy_ones := (mo3_of X G c).a_busy_ones
  a_begins := (mo4_of X G c).a_begins
  a_ends := (mo4_of X G c).a_ends
  a_reads_of := (mo4_of X G c).a_reads_of
  a_own_hands := (mo4_of X G c).a_own_hands
  a_own_past := (mo4_of X G c).a_own_past
  i_MOST_TICK := (mo4_of X G c).i_MOST_TICK
  i_MOST_VALUES := (mo4_of X G c).i_MOST_VALUES
  i_MOST_READS := (mo4_of X G c).i_MOST_READS
  i_MOST_HANDS := (mo4_of X G c).i_MOST_HANDS
  s_GAP := (mo4_of X G c).s_GAP
  s_ZONE := (mo4_of X G c).s_ZONE
  s_WRITE := (mo4_of X G c).s_WRITE
  s_READ := (mo4_of X G c).s_READ
  f_isinstance := (mo4_of X G c).f_isinstance
  f_int := (mo4_of X G c).f_int
  f_bool := (mo4_of X G c).f_bool
  f_min := (mo4_of X G c).f_min
  f_max := (mo4_of X G c).f_max
  f_len := (mo4_of X G c).f_len
  f_sorted := (mo4_of X G c).f_sorted
  f_tuple := (mo4_of X G c).f_tuple
  f_enumerate := (mo4_of X G c).f_enumerate
  f_list := (mo4_of X G c).f_list
  f_dict := (mo4_of X G c).f_dict
  f_range := (mo5_of X G c).f_range
  f_repr := (mo5_of X G c).f_repr
  f_super := (mo5_of X G c).f_super
  f_ValueError := (mo5_of X G c).f_ValueError
theorem mz_of (hP : P.main.file = file0) (hs : (P.main.scope.names.lookup ("super" : Str)).isSome = false) (X : K.In h) (G : h.Ns mainGlobals mg) (c : SaysK w h K) : Mz P K mg := by
  have m := c.more
  unfold exB at m
  obtain ⟨xB, m⟩ := He.ba m
  obtain ⟨xU, m⟩ := He.ba m
  obtain ⟨xI, m⟩ := He.ba m
  obtain ⟨xP, m⟩ := He.ba m
  obtain ⟨xS, _⟩ := He.ba m
  have z := c.z
  unfold zs zv at z
  obtain ⟨zB, z⟩ := List.cons.inj z
  obtain ⟨zU, z⟩ := List.cons.inj z
  obtain ⟨zI, z⟩ := List.cons.inj z
  obtain ⟨zP, _⟩ := List.cons.inj z
  obtain ⟨fN, gN⟩ := exB1_ok (P := P) (mg := mg) (Cn := "BadNumber") (qual := "BadNumber.__init__") (st := s_BadNumber_init) (by rw [hP]; exact xB) zB (He.glo_ok X G (c.t.d.fact 1 (f := .glo "BadNumber") rfl)) hs
  obtain ⟨fB, gB⟩ := exB1_ok (P := P) (mg := mg) (Cn := "Busy") (qual := "Busy.__init__") (st := s_Busy_init) (by rw [hP]; exact xU) zU (He.glo_ok X G (c.t.d.fact 2 (f := .glo "Busy") rfl)) hs
  obtain ⟨fI, gI⟩ := exB1_ok (P := P) (mg := mg) (Cn := "Idle") (qual := "Idle.__init__") (st := s_Idle_init) (by rw [hP]; exact xI) zI (He.glo_ok X G (c.t.d.fact 3 (f := .glo "Idle") rfl)) hs
  exact { toMo := mo_of X G c, xN := fN, xB := fB, xI := fI, pH := propB_ok xP zP, hN := gN, hB := gB, hI := gI, eNN := He.exm_ok (c.t.d.fact 103 (f := .exm "BadNumber" "BadNumber" true) rfl), eBN := He.exm_ok (c.t.d.fact 108 (f := .exm "Busy" "BadNumber" false) rfl), eBB := He.exm_ok (c.t.d.fact 109 (f := .exm "Busy" "Busy" true) rfl), eIN := He.exm_ok (c.t.d.fact 113 (f := .exm "Idle" "BadNumber" false) rfl), eIB := He.exm_ok (c.t.d.fact 114 (f := .exm "Idle" "Busy" false) rfl), eII := He.exm_ok (c.t.d.fact 115 (f := .exm "Idle" "Idle" true) rfl), sys := sysB_ok xS }
end
end K28
-- KFor
/-! KFor: loops over tuples, what stands of the heap told by Pv. -/
namespace K28
open PySem PySem.Spec PyProof.Rows L2
section
variable {X : Cx} {e iter : Expr} {body : List Stmt} {D : Ends} {σ : L2.St} {H : Hp} {p p2 pos tpos : Pos}
theorem js_forT (i : Nat) {x : Str} {px : Pos} (hp : PassesOwn (model X.prog X.w) X.A X.env X.xe) (hc : X.calm = true) (hN : X.N.Nodup)
    (hl : JE X iter σ H fun y H1 => ∃ a xs, ∃ Pv : Nat → L2.St → Hp → Prop, y = .ref a ∧ Pv 0 σ H1 ∧ (∀ j σ1 H2, Pv j σ1 H2 → SqT X.K H2 a xs) ∧ (∀ j v σ1 H2, xs[j]? = some v → Pv j σ1 H2 → JSs X body { D with nx := Pv (j + 1), ct := Pv (j + 1), bk := D.nx } (σ1.set i (some v)) H2) ∧ ∀ σ1 H2, Pv xs.length σ1 H2 → D.nx σ1 H2)
    (hx : X.N[i]? = some x := by rfl) (hlo : Loc X.env.scope x := by first | exact Or.inl rfl | exact Or.inr rfl) (hf : X.fn x = true ∨ X.env.scope.names.lookup x = some .local := by first | exact .inl rfl | exact .inr rfl)
    (hs : ∀ x, foldedSetIterable iter X.env x = pure x := by intro _; rfl) : JS X (.For (.Name x px) iter body [] pos) D σ H :=
  js_of (ps_for hp hc (pi_tup pej) (pg_name hN hx hlo hf) pssj hs) (JE.mono hl fun y H1 ⟨a, xs, Pv, h1, h2, h3, h4, h5⟩ => ⟨a, h1, ⟨xs, h3 _ _ _ h2⟩, for_it walk_tup Pv h2 (fun j σ1 H2 _ z => h3 j σ1 H2 z) (fun j v σ1 H2 H' hj z y => by
    obtain ⟨e1, e2⟩ := y
    subst e1
    exact h4 j v σ1 _ e2 z) h5⟩)
/-- for x, y in enumerate(t) -/
theorem js_forE (i j : Nat) {x y : Str} {px py : Pos} {kt : Nat} (hp : PassesOwn (model X.prog X.w) X.A X.env X.xe) (hc : X.calm = true) (hN : X.N.Nodup) (hm : X.mg "enumerate" = none)
    (hl : JE X e σ H fun y H1 => ∃ a xs, ∃ Pv : Nat → L2.St → Hp → Prop, y = .ref a ∧ Pv 0 σ H1 ∧ (∀ k σ1 H2, Pv k σ1 H2 → SqT X.K H2 a xs) ∧ (∀ k v σ1 H2 H3, xs[k]? = some v → Pv k σ1 H2 → Same H2 H3 → JSs X body { D with nx := Pv (k + 1), ct := Pv (k + 1), bk := D.nx } ((σ1.set i (some (.int (k : Nat)))).set j (some v)) H3) ∧ ∀ σ1 H2, Pv xs.length σ1 H2 → D.nx σ1 H2)
    (hx : X.N[i]? = some x := by rfl) (hy : X.N[j]? = some y := by rfl) (hlo : Loc X.env.scope x := by first | exact Or.inl rfl | exact Or.inr rfl) (hlo2 : Loc X.env.scope y := by first | exact Or.inl rfl | exact Or.inr rfl)
    (hf : X.fn x = true ∨ X.env.scope.names.lookup x = some .local := by first | exact .inl rfl | exact .inr rfl) (hf2 : X.fn y = true ∨ X.env.scope.names.lookup y = some .local := by first | exact .inl rfl | exact .inr rfl) (hg : Gl X "enumerate" := by rfl) (he : starEach [e] X.env = [(false, eval e X.env)] := by rfl)
    (hs : ∀ x, foldedSetIterable (.Call (.Name "enumerate" p) [e] [] p2) X.env x = pure x := by intro _; rfl) : JS X (.For (.Tuple [.Name x px, .Name y py] kt tpos) (.Call (.Name "enumerate" p) [e] [] p2) body [] pos) D σ H :=
  js_of (ps_for hp hc (pi_enumT hg hm (pa_cons pej pa_nil he) he) (pg_tup hc (pgs_cons (pg_name hN hx hlo hf) (pgs_cons (pg_name hN hy hlo2 hf2) pgs_nil))) pssj hs) (JE.mono hl fun y H1 ⟨a, xs, Pv, h1, h2, h3, h4, h5⟩ => by
    refine ⟨a, xs, by rw [h1], h3 _ _ _ h2, for_it walk_enumT Pv h2 (fun k σ1 H2 _ z => h3 k σ1 H2 z) (fun k v σ1 H2 H' hk z y => ?_) h5⟩
    obtain ⟨T, u, w, e1, e2, e3, e4, e5⟩ := y
    subst e1 e3
    cases e4
    exact ⟨_, _, rfl, SqT.of upd_same, rfl, _, _, rfl, _, _, rfl, rfl, h4 k w σ1 H2 _ e5 z (same_new e2)⟩)
end
end K28
-- KLam
/-! KLam: lambdas are made: the function object is tracked. -/
namespace K28
open PySem PySem.Spec PyProof.Rows L2 LamX
/-- the function object at f: a lambda -/
def FnO (H : Hp) (f : Addr) (q : Str) (params : Arguments) (body : Expr) (scope : Scope) (cl : List (Str × Addr)) (dv : List Value) : Prop :=
  ∃ (dV doc pm : Value) (c' : Addr) (ctv : Value), H f = some (Frz f (PySem.W.kdv_obj "<lambda>" q params (.expr body) scope cl dV doc pm c' ctv)) ∧ H c' = some (CodeO c' q) ∧ ((dV = .none ∧ dv = []) ∨ ∃ T, dV = .ref T ∧ dv ≠ [] ∧ H T = some (Frz T (PySem.W.kdv_tup dv)))
theorem FnO.on {H H' : Hp} {f : Addr} {q : Str} {params : Arguments} {body : Expr} {scope : Scope} {cl : List (Str × Addr)} {dv : List Value} (h : FnO H f q params body scope cl dv) (s : ∀ b o, (∀ ps, o ≠ .tbl ps) → H b = some o → H' b = some o) : FnO H' f q params body scope cl dv := by
  obtain ⟨dV, doc, pm, c', ctv, h1, h2, h3⟩ := h
  refine ⟨dV, doc, pm, c', ctv, s _ _ (fun _ z => nomatch z) h1, s _ _ (fun _ z => nomatch z) h2, ?_⟩
  rcases h3 with h3 | ⟨T, e, ne, h3⟩
  · exact .inl h3
  · exact .inr ⟨T, e, ne, s _ _ (fun _ z => nomatch z) h3⟩
section
variable {X : Cx} {pins : List (Addr × Obj)} {σ : L2.St} {H : Hp} {s : Shared}
theorem lam_tail {T : List (Addr × Str)} {c P : Addr} {dV : Value} {params : Arguments} {body : Expr} {scope : Scope} {pos : Pos} {fl : Nat} {E Q : Value → Shared → Prop} (I : Inv X pins σ H s) (TB : TabB X.base X.mg c P) (hcode : X.env.code = .ref c)
    (hm : (P, X.env.qual ++ "<lambda>") ∈ T) (hu : ∀ p ∈ T, p.1 = P → p.2 = X.env.qual ++ "<lambda>") (hT : Tabs T H) (hfree : ∀ y ∈ scope.names, y.2 = .free → ∃ c, X.env.cells.lookup y.1 = some c)
    (h : ∀ (f c' : Addr) (doc pm ctv : Value) (H1 : Hp) (s' : Shared), Inv X pins σ H1 s' → ExtN H H1 → Tabs T H1 → H f = none → H1 f = some (Frz f (PySem.W.kdv_obj "<lambda>" (X.env.qual ++ "<lambda>") params (.expr body) scope (cloFrom X.env.cells scope.names []) dV doc pm c' ctv)) → H1 c' = some (CodeO c' (X.env.qual ++ "<lambda>")) → Q (.ref f) s') :
    wpAny (model X.prog X.w) X.A (makeTail "<lambda>" (X.env.qual ++ "<lambda>") params (.expr body) scope X.env dV .none none pos fl) Q E s := by
  obtain ⟨ps, hP, ht, among⟩ := hT _ hm
  have bP : s.heap.BuiltinsAt X.mg P := TB.bm.keeps I.bk
  have oP : s.heap.get? P = some { cls := .none, data := .fields ps } := I.hok P _ hP
  cases hc : codeAmong pos ps.toList with
  | none =>
    refine PySem.W.kdv_makeTail (mg := X.mg) (c := c) (P := P) (ps := ps) (closure_ok hfree) I.ok.glob (I.mod.glob.keeps I.bk) hcode (TB.code.keeps I.bk) oP ht hc TB.gP bP fun c' ctv doc h' tk hx hge hlt hrec htb => ?_
    obtain ⟨c2, oc, vs, t, e2, hoc, hd, hv⟩ := hrec
    cases e2
    have nC : H c' = none := I.hok.fresh hge
    have I1 := inv_table (t' := tk) (more := #[rawInt pos.line, rawInt pos.col, .ref c']) (h' := h') I hP (fun b o hb e => hx b o hb e) htb hge ⟨oc, vs, t, hoc, hd, hv⟩
    have I2 := I1.laid (t' := tk) (a := h'.objs.size) (o := Frz h'.objs.size (PySem.W.kdv_obj "<lambda>" (X.env.qual ++ "<lambda>") params (.expr body) scope (cloFrom X.env.cells scope.names []) dV doc ((X.mg "__name__").getD .none) c' ctv))
      (h' := h'.push (PySem.W.kdv_obj "<lambda>" (X.env.qual ++ "<lambda>") params (.expr body) scope (cloFrom X.env.cells scope.names []) dV doc ((X.mg "__name__").getD .none) c' ctv)) (fun b u e => Heap.get?_push_of_some _ e) (Nat.le_refl _) (frz_ok (Heap.get?_push_size _ rfl))
    have nF1 := I1.hok.fresh (a := h'.objs.size) (Nat.le_refl _)
    have hE : ExtN H (upd (upd H P (.tbl (ps ++ #[rawInt pos.line, rawInt pos.col, .ref c']))) c' (CodeO c' (X.env.qual ++ "<lambda>"))) := fun b o e n => by
      rw [upd_ne (ne_of_none e nC), upd_ne (fun z => n ps (Option.some.inj (e.symm.trans (by rw [z]; exact hP))))]
      exact e
    have eL : (ps ++ #[rawInt pos.line, rawInt pos.col, .ref c']).toList = ps.toList ++ [rawInt pos.line, rawInt pos.col, .ref c'] := by simp
    have T1 : Tabs T (upd (upd H P (.tbl (ps ++ #[rawInt pos.line, rawInt pos.col, .ref c']))) c' (CodeO c' (X.env.qual ++ "<lambda>"))) := fun p hp => by
      by_cases hb : p.1 = P
      · rw [hu p hp hb, hb]
        refine ⟨_, by rw [upd_ne (ne_of_none hP nC), upd_same], by rw [eL]; exact PySem.TriplesOk_snoc _ _ _ _ ht, fun p' cv hcv => ?_⟩
        rw [eL] at hcv
        rcases among_app _ ht hcv with z | z
        · obtain ⟨c0, e1, e2⟩ := among p' cv z
          exact ⟨c0, e1, hE _ _ e2 codeO_ne⟩
        · exact ⟨c', z, upd_same⟩
      · obtain ⟨ps', a1, a2, a3⟩ := hT p hp
        refine ⟨ps', by rw [upd_ne (ne_of_none a1 nC), upd_ne hb]; exact a1, a2, fun p' cv hcv => ?_⟩
        obtain ⟨c0, e1, e2⟩ := a3 p' cv hcv
        exact ⟨c0, e1, hE _ _ e2 codeO_ne⟩
    have s2 := same_new (o := Frz h'.objs.size (PySem.W.kdv_obj "<lambda>" (X.env.qual ++ "<lambda>") params (.expr body) scope (cloFrom X.env.cells scope.names []) dV doc ((X.mg "__name__").getD .none) c' ctv)) nF1
    have hfn : H h'.objs.size = none := I.hok.fresh (Nat.le_trans hge (Nat.le_of_lt hlt))
    exact h h'.objs.size c' doc _ ctv _ _ I2 (fun b o e n => s2 _ _ (hE b o e n)) (T1.ext s2) hfn upd_same (s2 _ _ upd_same)
  | some cv =>
    obtain ⟨c', e, hco⟩ := among pos cv hc
    subst e
    refine PySem.W.kdv_makeTailHit (mg := X.mg) (c := c) (P := P) (ps := ps) (closure_ok hfree) I.ok.glob (I.mod.glob.keeps I.bk) hcode (TB.code.keeps I.bk) oP ht hc bP fun ctv doc h' tk hx hsz => ?_
    have I1 : Inv X pins σ H { s with heap := h', toks := tk } := I.kept hx
    have I2 := I1.laid (t' := tk) (a := h'.objs.size) (o := Frz h'.objs.size (PySem.W.kdv_obj "<lambda>" (X.env.qual ++ "<lambda>") params (.expr body) scope (cloFrom X.env.cells scope.names []) dV doc ((X.mg "__name__").getD .none) c' ctv))
      (h' := h'.push (PySem.W.kdv_obj "<lambda>" (X.env.qual ++ "<lambda>") params (.expr body) scope (cloFrom X.env.cells scope.names []) dV doc ((X.mg "__name__").getD .none) c' ctv)) (fun b u e => Heap.get?_push_of_some _ e) (Nat.le_refl _) (frz_ok (Heap.get?_push_size _ rfl))
    have nF := I1.hok.fresh (a := h'.objs.size) (Nat.le_refl _)
    have s2 := same_new (o := Frz h'.objs.size (PySem.W.kdv_obj "<lambda>" (X.env.qual ++ "<lambda>") params (.expr body) scope (cloFrom X.env.cells scope.names []) dV doc ((X.mg "__name__").getD .none) c' ctv)) nF
    exact h h'.objs.size c' doc _ ctv _ _ I2 (fun b o e _ => s2 _ _ e) (hT.ext s2) nF upd_same (s2 _ _ hco)
end
section
variable {X : Cx} {σ : L2.St} {H : Hp} {T : List (Addr × Str)} {c P : Addr} {params : Arguments} {body : Expr} {scope : Scope} {pos : Pos} {Q : VK}
/-- lambda: body -/
theorem je_lam (TB : TabB X.base X.mg c P) (hcode : X.env.code = .ref c) (hm : (P, X.env.qual ++ "<lambda>") ∈ T) (hu : ∀ p ∈ T, p.1 = P → p.2 = X.env.qual ++ "<lambda>") (hT : Tabs T H) (hfree : ∀ y ∈ scope.names, y.2 = .free → X.env.kindOf y.1 = some .cell ∨ X.env.kindOf y.1 = some .free)
    (h : ∀ f H1, ExtN H H1 → Tabs T H1 → H f = none → FnO H1 f (X.env.qual ++ "<lambda>") params body scope (cloFrom X.env.cells scope.names []) [] → Q (.ref f) H1) (hdef : defaultsOf params X.env = ([], []) := by rfl) :
    JE X (.Lambda params body scope pos) σ H Q := fun pins s I => by
  refine PySem.W.kla_eval hdef ?_
  rw [makeFunction_eq]
  simp only [List.zip_nil_right, List.filterMap_nil, List.isEmpty_nil, if_true, pure_bind]
  exact lam_tail I TB hcode hm hu hT (fun y hy e => I.ok.has _ (hfree y hy e)) fun f c' doc pm ctv H1 s' I1 eN T1 hn hf hc => ⟨.ref f, H1, I1, rfl, h f H1 eN T1 hn ⟨.none, doc, pm, c', ctv, hf, hc, .inl ⟨rfl, rfl⟩⟩⟩
/-- lambda x=k: body -/
theorem je_lam1 {e : Expr} {k : Int} (TB : TabB X.base X.mg c P) (hcode : X.env.code = .ref c) (hm : (P, X.env.qual ++ "<lambda>") ∈ T) (hu : ∀ p ∈ T, p.1 = P → p.2 = X.env.qual ++ "<lambda>") (hT : Tabs T H) (hfree : ∀ y ∈ scope.names, y.2 = .free → X.env.kindOf y.1 = some .cell ∨ X.env.kindOf y.1 = some .free)
    (he : JV X e σ H (.int k)) (h : ∀ f H1 t, ExtN H H1 → Tabs T H1 → H f = none → FnO H1 f (X.env.qual ++ "<lambda>") params body scope (cloFrom X.env.cells scope.names []) [.int k t] → Q (.ref f) H1) (hd : params.defaults = [e] := by rfl) (hk0 : params.kw_defaults = [] := by rfl) :
    JE X (.Lambda params body scope pos) σ H Q := fun pins s I => by
  refine PySem.W.kdv_lam (by rw [hd]; rfl) hk0 ?_
  rw [hd]
  refine PySem.W.kdv_all1 (thn (he H (Same.refl H) (fun v H1 => v = .int k ∧ Same H H1) (fun H1 s1 => ⟨rfl, s1⟩) pins s I) fun u s1 ⟨v, H1, I1, r1, e1, sH⟩ => PySem.W.kdv_all0 ?_)
  subst e1
  obtain ⟨t, rfl⟩ := r1
  rw [makeFunction_eq]
  simp only [List.zip_nil_right, List.filterMap_nil, List.isEmpty_nil, List.isEmpty_cons, Bool.false_eq_true, if_false, if_true, pure_bind]
  refine wpAny_bind (wpAny_newTextTuple ?_)
  have nT : H1 s1.heap.objs.size = none := I1.hok.fresh (Nat.le_refl _)
  have I2 := I1.laid (t' := s1.toks) (a := s1.heap.objs.size) (o := Frz s1.heap.objs.size (PySem.W.kdv_tup [.int k t])) (h' := s1.heap.push (PySem.W.kdv_tup [.int k t])) (fun b u e => Heap.get?_push_of_some _ e) (Nat.le_refl _) (frz_ok (Heap.get?_push_size _ rfl))
  have s2 := same_new (o := Frz s1.heap.objs.size (PySem.W.kdv_tup [.int k t])) nT
  exact lam_tail I2 TB hcode hm hu ((hT.ext sH).ext s2) (fun y hy e => I1.ok.has _ (hfree y hy e)) fun f c' doc pm ctv H3 s' I3 eN T3 hn hf hc => ⟨.ref f, H3, I3, rfl, h f H3 t (fun b o e n => eN b o (s2 _ _ (sH _ _ e)) n) T3 (by
    cases z : H f with
    | none => rfl
    | some o => rw [s2 _ _ (sH _ _ z)] at hn; cases hn) ⟨.ref s1.heap.objs.size, doc, pm, c', ctv, hf, hc, .inr ⟨_, rfl, by simp, eN _ _ upd_same (fun _ z => nomatch z)⟩⟩⟩
end
end K28
-- KLamT
/-! KLamT: the promise of a lambda's call. -/
namespace K28
open PySem PySem.Spec PyProof.Rows L2 LamX
/-- the context of a lambda's body -/
def lamC (P : Program) (w : World) (K : PySem.W.Frag) (mg : Str → Option Value) (base : Heap) (N : List Str) (q : Str) (scope : Scope) (f c' : Addr) (cl : List (Str × Addr)) (A : Around) (outer : List Env) (s : Shared) (H : Hp) (E : XK) : Cx where
  prog := P
  w := w
  K := K
  mg := mg
  base := base
  A := A.deeper (PySem.W.envX q scope s.heap.objs.size f (.ref c') cl)
  N := N
  s_0 := s
  H_0 := H
  env := PySem.W.envX q scope s.heap.objs.size f (.ref c') cl
  outer := outer
  stack := PySem.W.envX q scope s.heap.objs.size f (.ref c') cl :: outer
  ex := []
  fn := fun _ => false
  calm := true
  pn := []
  xe := fun e s' => wpAny (model P w) (A.deeper (PySem.W.envX q scope s.heap.objs.size f (.ref c') cl)) (leaving (PySem.W.envX q scope s.heap.objs.size f (.ref c') cl) e) (fun _ s'' => L2.CX P w outer H s E e s'') (fun e' s'' => L2.CX P w outer H s E e' s'') s'
/-- a lambda's names: its parameters and captured ones -/
structure LamN (scope : Scope) (cl : List (Str × Addr)) : Prop where
  kind : scope.kind = .function
  co : scope.isCoroutine = false
  gen : scope.isGenerator = false
  nc : ∀ y ∈ scope.names, y.2 ≠ .cell
  fr : ∀ y ∈ scope.names, y.2 = .free → ∃ c, cl.lookup y.1 = some c
  inj : ∀ x y c, cl.lookup x = some c → cl.lookup y = some c → x = y
section
variable {P : Program} {w : World} {K : PySem.W.Frag} {mg : Str → Option Value} {base : Heap} {N : List Str} {q : Str} {scope : Scope} {f c' : Addr} {cl : List (Str × Addr)} {A : Around} {outer : List Env} {s : Shared} {H : Hp} {E : XK} {σ : L2.St}
theorem lam_inv {h₁ : Heap} {tk : Nat} {m : Str → Option Value} (e0 : Env0 P w K mg base A outer s H) (hd : A.handled = none) (L : LamN scope cl) (cells : ∀ y c, cl.lookup y = some c → H c = none ∧ ∃ v, s.heap.IsCell c v)
    (slots : ∀ (i : Nat) (x : Str) (v : V), N[i]? = some x → σ[i]? = some (some v) → scope.names.lookup x = some .free ∧ ∃ c u, cl.lookup x = some c ∧ s.heap.IsCell c (some u) ∧ RelV v u) (len : σ.length = N.length)
    (hns : h₁.Ns s.heap.objs.size m) (kp : ∀ b o, s.heap.get? b = some o → h₁.get? b = some o) : Inv (lamC P w K mg base N q scope f c' cl A outer s H E) [] σ H { s with heap := h₁, toks := tk } := by
  have cellK : ∀ {c : Addr} {v : Option Value}, s.heap.IsCell c v → h₁.IsCell c v := fun {c v} ⟨o, ho, hd⟩ => ⟨o, kp _ _ ho, hd⟩
  have noA : ∀ b : Addr, b ∉ (lamC P w K mg base N q scope f c' cl A outer s H E).ex := fun b z => absurd (show b ∈ ([] : List Addr) from z) (by simp)
  refine ⟨⟨e0.mod, L.kind, rfl, rfl, Nat.le_refl _, L.inj, fun y hy => ?_, fun y c z _ => ?_, fun _ => hd, Around.frames_deeper e0.frames, .inr ⟨rfl, rfl⟩, fun b z => absurd z (noA b), e0.bs, e0.bsz, fun b _ _ => noA b,
      fun b z => absurd z (noA b), e0.funs, e0.frf⟩,
    rfl, e0.bare, Un.kept kp, ⟨m, hns, fun i y v e1 e2 e3 => ?_⟩, fun y c e => ?_, e0.hok.fresh (Nat.le_refl _), fun y c e => (cells y c e).1, fun p hp => absurd (show p ∈ ([] : List (Addr × Obj)) ++ [] from hp) (by simp), e0.hok.kept kp, len⟩
  · have hy : scope.names.lookup y = some .cell ∨ scope.names.lookup y = some .free := hy
    rcases hy with hy | hy
    · exact absurd rfl (L.nc _ (PySem.mem_of_lookup hy))
    · exact L.fr _ (PySem.mem_of_lookup hy) rfl
  · have z : false = true := z
    cases z
  · obtain ⟨k, c, u, e, ic, rv⟩ := slots i y v e1 e2
    exact ⟨u, rv, .inr ⟨.inr k, c, e, cellK ic⟩⟩
  · obtain ⟨_, v, ic⟩ := cells y c e
    exact ⟨v, cellK ic⟩
/-- what the call of the lambda asks of the heap: the function object, the cells, the slots; then what its body asks -/
def spLam (q : Str) (params : Arguments) (body : Expr) (scope : Scope) (cl : List (Str × Addr)) (N : List Str) (σ : L2.St) (f : Addr) (L : Lot) (sp : Tsp) : Tsp := fun H Q E =>
  (∃ dv, FnO H f q params body scope cl dv ∧ ((dv = [] ∧ params.defaults = []) ∨ ∃ v, dv = [v] ∧ ∃ e, params.defaults = [e])) ∧ LotIn L H ∧ (∀ y c, cl.lookup y = some c → ∃ o, L.lookup c = some o ∧ ∃ v, o.data = .cell v) ∧
  (∀ (i : Nat) (x : Str) (v : V), N[i]? = some x → σ[i]? = some (some v) → scope.names.lookup x = some .free ∧ ∃ c o u, cl.lookup x = some c ∧ L.lookup c = some o ∧ o.data = .cell (some u) ∧ RelV v u) ∧
  sp (hide L H) (fun v H' => (∀ b o, L.lookup b = some o → H' b = none) → Q v (lend L H')) (fun cls d H' => (∀ b o, L.lookup b = some o → H' b = none) → E cls d (lend L H'))
theorem lam_thk {params : Arguments} {body : Expr} {L : Lot} {sp : Tsp} {k : Nat} {binds : List Value → List (Str × Value)} (S : LamN scope cl) (len : σ.length = N.length)
    (on : ∀ H H1 Q E, sp H Q E → Same H H1 → sp H1 Q E)
    (b0 : params.defaults = [] → ∀ doc pm cv ctv, bindArgs (PySem.W.kdv_fn "<lambda>" q params (.expr body) scope cl .none doc pm cv ctv) ⟨[], []⟩ = pure (binds []))
    (b1 : ∀ e, params.defaults = [e] → ∀ (v : Value) (T : Addr) (doc pm cv ctv : Value) (s : Shared), s.heap.get? T = some (PySem.W.kdv_tup [v]) → BindsTo s (PySem.W.kdv_fn "<lambda>" q params (.expr body) scope cl (.ref T) doc pm cv ctv) ⟨[], []⟩ (binds [v]))
    (hloc : ∀ dv, ∀ y ∈ binds dv, scope.names.lookup y.1 = some .local)
    (hb : ∀ (f c' : Addr) (A : Around) (outer : List Env) (s : Shared) (H : Hp) (Q : VK) (E : XK), Room k (A.deeper (PySem.W.envX q scope s.heap.objs.size f (.ref c') cl)) → sp H Q E → JE (lamC P w K mg base N q scope f c' cl A outer s H E) body σ H Q) :
    Thk P w K mg base (k + 1) f (spLam q params body scope cl N σ f L sp) := by
  refine ⟨fun H Q E h => ?_, fun H H1 Q E h s => ?_, fun A outer s H Q E hr e0 h => ?_⟩
  · obtain ⟨⟨dv, ⟨dV, doc, pm, c', ctv, h1, _⟩, _⟩, _⟩ := h
    exact ⟨_, h1⟩
  · obtain ⟨⟨dv, h1, h2⟩, h3, h4, h5, h6⟩ := h
    refine ⟨⟨dv, h1.on fun b o _ e => s b o e, h2⟩, fun b o e => s _ _ (h3 b o e), h4, h5, on _ _ _ _ h6 fun b o e => ?_⟩
    cases z : L.lookup b with
    | some u => rw [hide_at z] at e; cases e
    | none => rw [hide_no z] at e ⊢; exact s b o e
  · obtain ⟨⟨dv, ⟨dV, doc, pm, c', ctv, h1, hcO, hdV⟩, h2⟩, h3, h4, h5, h6⟩ := h
    have of1 := (e0.hok f _ h1).1
    obtain ⟨⟨oc, vs, t, hoc, hdc, hvc⟩, _, _⟩ := e0.hok c' _ hcO
    have hbd : BindsTo s (PySem.W.kdv_fn "<lambda>" q params (.expr body) scope cl dV doc pm (.ref c') ctv) ⟨[], []⟩ (binds dv) := by
      rcases hdV with ⟨rfl, rfl⟩ | ⟨T, rfl, ne, hT⟩
      · rcases h2 with ⟨_, e⟩ | ⟨v, e, _⟩
        · exact .of_eq (b0 e _ _ _ _)
        · cases e
      · rcases h2 with ⟨e, _⟩ | ⟨v, rfl, x, e⟩
        · exact absurd e ne
        · exact b1 x e v T _ _ _ _ s (e0.hok T _ hT).1
    have e1 := env0_hide e0 h3
    refine codeAny_mono (R := CR (L2.CX P w) outer P w (hide L H) s (fun v H' => (∀ b o, L.lookup b = some o → H' b = none) → Q v (lend L H')) (fun cls d H' => (∀ b o, L.lookup b = some o → H' b = none) → E cls d (lend L H'))) ?_ fun r s' hq => cr_own h3 e0.frf e0.hok hq (fun v H' hn q => q hn) (fun cls d H' hn q => q hn)
    refine PySem.W.kla_callFunE hr.depth of1 rfl S.co S.gen rfl ⟨c', oc, vs, t, rfl, hoc, hdc, hvc⟩ (hbd _ _ _ _ ?_)
    refine wpAny_newFunctionEnv S.nc (hloc dv) (fun h₁ hns hsb => ⟨(e0.mod.nolimit.keeps fun b o e => (e0.bs b o e).1).fresh _ hsb, ?_⟩) S.kind
    show codeAny _ _ (.expr body (PySem.W.envX q scope s.heap.objs.size f (.ref c') cl)) _ _
    have kp : ∀ b o, s.heap.get? b = some o → h₁.get? b = some o := fun b o e => hsb.extBut b o (Nat.ne_of_lt (Heap.lt_size e)) (Heap.get?_push_of_some _ e)
    have J := lam_inv (q := q) (f := f) (c' := c') (E := fun cls d H' => (∀ b o, L.lookup b = some o → H' b = none) → E cls d (lend L H')) (tk := s.toks + (binds dv).length) (σ := σ) (N := N) e1 hr.hd S (fun y c e => by
      obtain ⟨o, k1, v, k2⟩ := h4 y c e
      exact ⟨hide_at k1, v, o, (e0.hok c _ (h3 c o k1)).1, k2⟩) (fun i x v e1 e2 => by
      obtain ⟨z, c, o, u, k1, k2, k3, k4⟩ := h5 i x v e1 e2
      exact ⟨z, c, u, k1, ⟨o, (e0.hok c _ (h3 c o k2)).1, k3⟩, k4⟩) len hns kp
    refine PySem.W.kla_codeExpr (wpAny_mono (hb f c' A outer s (hide L H) _ _ (hr.deeper _) h6 [] _ J) (fun v s' hq => ?_) fun e s' hq => hq)
    obtain ⟨w', H', J', rv, q⟩ := hq
    exact ⟨w', H', J'.os, J'.bare, J'.base, J'.hok, rv, q⟩
end
end K28
-- KD19
/-! KD19: lambdas in the law: what stands when one is made; a lambda handed on. -/
namespace K28
open PySem PySem.Spec PyProof.Rows L2 LamX
/-! ### what stands when only tables change -/
section
variable {K : PySem.W.Frag} {H H' : Hp}
theorem ext_sqt (e : ExtN H H') {a : Addr} {xs : List V} (h : SqT K H a xs) : SqT K H' a xs := by
  rcases h with (h | ⟨o, h⟩) | h
  · exact .inl (.inl (e _ _ h (fun _ z => nomatch z)))
  · exact .inl (.inr ⟨o, e _ _ h (fun _ z => nomatch z)⟩)
  · exact .inr h
theorem ext_sql (e : ExtN H H') {a : Addr} {xs : List V} (h : SqL K H a xs) : SqL K H' a xs := by
  rcases h with (h | ⟨o, h⟩) | h
  · exact .inl (.inl (e _ _ h (fun _ z => nomatch z)))
  · exact .inl (.inr ⟨o, e _ _ h (fun _ z => nomatch z)⟩)
  · exact .inr h
mutual
theorem dp_ext (s : ExtN H H') : ∀ (d : PyData) (v : V), Dp K H v d → Dp K H' v d
  | .none, _, h => by cases h; exact .non
  | .bool b, _, h => by cases h; exact .bl b
  | .int i, _, h => by cases h; exact .int i
  | .str x, _, h => by cases h; exact .str x
  | .list ds, _, h => by cases h with | lst h1 h2 => exact .lst (ext_sql s h1) (dpa_ext s ds _ h2)
  | .tuple ds, _, h => by cases h with | tup h1 h2 => exact .tup (ext_sqt s h1) (dpa_ext s ds _ h2)
  | .dict _, _, h => by cases h
theorem dpa_ext (s : ExtN H H') : ∀ (ds : List PyData) (vs : List V), DpAll K H vs ds → DpAll K H' vs ds
  | [], _, h => by cases h; exact .nil
  | d :: ds, _, h => by cases h with | cons h1 h2 => exact .cons (dp_ext s d _ h1) (dpa_ext s ds _ h2)
end
mutual
theorem rp_ext (s : ExtN H H') : ∀ (d : PyData) (v : V), Rp K H v d → Rp K H' v d
  | .none, _, h => by cases h; exact .non
  | .bool b, _, h => by cases h; exact .bl b
  | .int i, _, h => by cases h; exact .int i
  | .str x, _, h => by cases h; exact .str x
  | .list ds, _, h => by cases h with | lst h1 h2 => exact .lst (ext_sql s h1) (rpa_ext s ds _ h2)
  | .tuple ds, _, h => by cases h with | tup h1 h2 => exact .tup (ext_sqt s h1) (rpa_ext s ds _ h2)
  | .dict _, _, h => by cases h with | mt h1 => exact .mt (s _ _ h1 fun _ z => nomatch z)
theorem rpa_ext (s : ExtN H H') : ∀ (ds : List PyData) (vs : List V), RpAll K H vs ds → RpAll K H' vs ds
  | [], _, h => by cases h; exact .nil
  | d :: ds, _, h => by cases h with | cons h1 h2 => exact .cons (rp_ext s d _ h1) (rpa_ext s ds _ h2)
end
theorem dm_ext {α : Type} {b : Addr} {da : α → PyData} {m : List (Int × α)} (s : ExtN H H') (h : DM K H b da m) : DM K H' b da m := by
  obtain ⟨kvs, h1, h2⟩ := h
  exact ⟨kvs, s _ _ h1 (fun _ z => nomatch z), Paired.mapP h2 fun _ _ q => ⟨q.1, dp_ext s _ _ q.2⟩⟩
theorem stand_ext {v : V} {S : SD} (s : ExtN H H') (h : StandAt K H v S) : StandAt K H' v S := by
  obtain ⟨x, dx, u, b2, b3, b4, e, p⟩ := h
  exact ⟨x, dx, u, b2, b3, b4, e, s _ _ p.at_ (fun _ z => nomatch z), dp_ext s _ _ p.bu, dm_ext s p.be, dm_ext s p.en, dm_ext s p.re⟩
theorem rec_ext {r : Addr} {R : RD} (s : ExtN H H') (h : RecAt K H r R) : RecAt K H' r R := by
  obtain ⟨dx, q, vs, p⟩ := h
  exact ⟨dx, q, vs, s _ _ p.at_ (fun _ z => nomatch z), ext_sqt s p.tp, Paired.mapP p.en fun _ _ ⟨t, x, y, h1, h2, h3⟩ => ⟨t, x, y, h1, ext_sqt s h2, stand_ext s h3⟩⟩
theorem le_ext {v : V} {L : LE} (s : ExtN H H') (h : LeAt K H v L) : LeAt K H' v L := by
  obtain ⟨b, ub, bw, br, uc, e, p⟩ := h
  exact ⟨b, ub, bw, br, uc, e, s _ _ p.at_ (fun _ z => nomatch z), dp_ext s _ _ p.bu, dm_ext s p.wr, dm_ext s p.re, dp_ext s _ _ p.ce⟩
theorem dr_ext {a l : Addr} {t : Nat} (s : ExtN H H') (h : Dr K H a l t) : Dr K H' a l t := by
  obtain ⟨c, cs, ls, p⟩ := h
  exact ⟨c, cs, ls, s _ _ p.at_ (fun _ z => nomatch z), s _ _ p.ce (fun _ z => nomatch z), s _ _ p.le (fun _ z => nomatch z), p.ne, p.len, p.ac, p.al, p.cl⟩
end
/-! ### what is lent -/
section
variable {K : PySem.W.Frag} {H H' : Hp} {L : Lot}
theorem same_lend (i : ∀ b o, L.lookup b = some o → H b = none) : Same H (lend L H) := fun b o e => by
  cases q : L.lookup b with
  | none => rw [lend_no q]; exact e
  | some u => rw [i b u q] at e; cases e
/-- what the callee left as it was, is so in our heap -/
theorem same_hide (i : ∀ b o, L.lookup b = some o → H b = none) (s : Same (lend L H) H') : Same H (hide L H') := fun b o e => by
  cases q : L.lookup b with
  | none => rw [hide_no q]; exact s _ _ (by rw [lend_no q]; exact e)
  | some u => rw [i b u q] at e; cases e
theorem same_unhide (i : LotIn L H) (s : Same (hide L H) H') : Same H (lend L H') := fun b o e => by
  cases q : L.lookup b with
  | none => rw [lend_no q]; exact s _ _ (by rw [hide_no q]; exact e)
  | some u =>
    rw [i b u q] at e
    rw [lend_at q]
    exact e
theorem lotin_lend : LotIn L (lend L H) := fun b o e => lend_at e
/-- a thing that is no lent one is there when the lent ones are hidden -/
theorem hide_same {b : Addr} {o : HO} (e : hide L H b = some o) : H b = some o := by
  cases q : L.lookup b with
  | none => rw [hide_no q] at e; exact e
  | some u => rw [hide_at q] at e; cases e
/-- before the lending, then hidden in a later heap -/
theorem same_hide2 {H1 : Hp} (i : ∀ b o, L.lookup b = some o → H b = none) (s : Same (lend L H) H1) : Same H (hide L H1) := same_hide i s
theorem tabs_same {T : List (Addr × Str)} (t : Tabs T H) (s : Same H H') : Tabs T H' := t.ext s
end
/-! ### the tables of the law's defs that make lambdas -/
structure TbX (K : PySem.W.Frag) (mg : Str → Option Value) (base : Heap) (T : List (Addr × Str)) (x : Str) : Prop where
  ex : ∃ c P, (∀ cdv, CodeOf K x cdv → cdv = .ref c) ∧ TabB base mg c P ∧ (P, x ++ ".<locals>." ++ "<lambda>") ∈ T ∧ ∀ p ∈ T, p.1 = P → p.2 = x ++ ".<locals>." ++ "<lambda>"
section
variable {P : Program} {w : World} {K : PySem.W.Frag} {mg : Str → Option Value} {base : Heap} {N : List Str} {q : Str} {scope : Scope} {f c' : Addr} {cl : List (Str × Addr)} {A : Around} {outer : List Env} {s : Shared} {H : Hp} {E : XK} {σ : L2.St}
theorem passLam : Passes (L2.CX P w) (lamC P w K mg base N q scope f c' cl A outer s H E) E :=
  passes_call (X := lamC P w K mg base N q scope f c' cl A outer s H E) (takes_of (E := E) rfl rfl rfl rfl) fun _ _ _ _ h => h
end
/-- a lambda's names, of captured ones and parameters -/
def lamNB (sc scope : Scope) : Bool :=
  decide (scope.kind = .function) && !scope.isCoroutine && !scope.isGenerator && scope.names.all fun y => !decide (y.2 = .cell) && (!decide (y.2 = .free) || decide (sc.names.lookup y.1 = some .cell))
section
variable {X : Cx} {L : Lot} {σ : L2.St} {H : Hp} {scope : Scope}
theorem lamNB_ok (hb : lamNB X.env.scope scope = true) : scope.kind = .function ∧ scope.isCoroutine = false ∧ scope.isGenerator = false ∧ (∀ y ∈ scope.names, y.2 ≠ .cell) ∧ ∀ y ∈ scope.names, y.2 = .free → X.env.kindOf y.1 = some .cell := by
  unfold lamNB at hb
  simp only [Bool.and_eq_true, Bool.or_eq_true, Bool.not_eq_true', decide_eq_true_eq, decide_eq_false_iff_not, List.all_eq_true] at hb
  obtain ⟨⟨⟨h1, h2⟩, h3⟩, h4⟩ := hb
  exact ⟨h1, h2, h3, fun y hy => (h4 y hy).1, fun y hy e => (h4 y hy).2.elim (fun z => absurd e z) id⟩
theorem clo_in (C : CellsOf X L σ H) (hb : lamNB X.env.scope scope = true) {y : Str} {c : Addr} (e : (cloFrom X.env.cells scope.names []).lookup y = some c) : X.env.cells.lookup y = some c := by
  obtain ⟨_, _, _, _, h5⟩ := lamNB_ok hb
  rcases cloFrom_mem (PySem.mem_of_lookup e) with hm | ⟨h1, h2⟩
  · cases hm
  · obtain ⟨c1, hc⟩ := C.has y (.inl (h5 _ h1 rfl))
    have e2 : c = c1 := by
      rw [h2, hc]
      rfl
    rw [e2]
    exact hc
theorem clo_has (C : CellsOf X L σ H) (hb : lamNB X.env.scope scope = true) {y : Str} (e : (y, NameKind.free) ∈ scope.names) : ∃ c, (cloFrom X.env.cells scope.names []).lookup y = some c := mem_lookup (cloFrom_has (cells := X.env.cells) (acc := []) e)
theorem lamN_of (C : CellsOf X L σ H) (hb : lamNB X.env.scope scope = true) : LamN scope (cloFrom X.env.cells scope.names []) := by
  obtain ⟨h1, h2, h3, h4, h5⟩ := lamNB_ok hb
  exact ⟨h1, h2, h3, h4, fun y hy e => clo_has C hb (by
    obtain ⟨a, b⟩ := y
    cases e
    exact hy), fun x y c e1 e2 => C.inj x y c (clo_in C hb e1) (clo_in C hb e2)⟩
/-- a lambda of ours, handed on: what its call asks, from the heap with our cells lent -/
theorem spLam_of {q : Str} {params : Arguments} {body : Expr} {N : List Str} {τ : L2.St} {f : Addr} {sp : Tsp} {dv : List Value} {h : Hk} {v : V} {H1 : Hp} (C : CellsOf X L σ H) (hb : lamNB X.env.scope scope = true) (F : FnO H f q params body scope (cloFrom X.env.cells scope.names []) dv)
    (hd : (dv = [] ∧ params.defaults = []) ∨ ∃ v, dv = [v] ∧ ∃ e, params.defaults = [e])
    (sl : ∀ (i : Nat) (x : Str) (v : V), N[i]? = some x → τ[i]? = some (some v) → scope.names.lookup x = some .free ∧ X.env.kindOf x = some .cell ∧ ∃ j : Nat, X.N[j]? = some x ∧ σ[j]? = some (some v))
    (s : Same (lend L H) H1) (hs : ∀ H2, Same H H2 → ∀ E : XK, (∀ d H', Same H2 H' → H2 d = none → H' d = some (.xd [("given", v)]) → E (.ref (He.ga X.K h.cls)) (some d) H') → sp H2 (fun _ H' => (∀ b o, L.lookup b = some o → H' b = none) → False) E) :
    spLam q params body scope (cloFrom X.env.cells scope.names []) N τ f L sp H1 (fun _ _ => False) (OutX X.K h v H1) := by
  have i1 : LotIn L H1 := fun b o e => s _ _ (lend_at e)
  refine ⟨⟨dv, (F.on fun b o _ e => same_lend C.out b o e).on fun b o _ e => s b o e, hd⟩, i1, fun y c e => C.all y c (clo_in C hb e), fun i x v e1 e2 => ?_, ?_⟩
  · obtain ⟨k1, k2, j, k3, k4⟩ := sl i x v e1 e2
    obtain ⟨c, o, u, z1, z2, z3, z4⟩ := C.slot j x v k3 k4 (.inl k2)
    obtain ⟨c2, hc2⟩ := clo_has C hb (PySem.mem_of_lookup k1)
    have := clo_in C hb hc2
    rw [z1] at this
    cases this
    exact ⟨k1, c, o, u, hc2, z2, z3, z4⟩
  · refine hs _ (same_hide2 C.out s) _ fun d H' s' hn hx hno => ?_
    refine ⟨same_unhide i1 s', rfl, d, rfl, ?_⟩
    cases q2 : L.lookup d with
    | none => rw [lend_no q2]; exact hx
    | some u =>
      have := hno d u q2
      rw [hx] at this
      cases this
end
end K28
-- KD20
/-! KD20: lambdas heard. -/
namespace K28
open PySem PySem.Spec PyProof.Rows L2 LamX
/-- a thing handed on, to be called: it raises, of the kind h, with v -/
def ThkOk (X : Cx) (σ : L2.St) (H : Hp) (f : Addr) (h : Hk) (v : V) : Prop := ∀ L, CellsOf X L σ H → ∃ sp, Thk X.prog X.w X.K X.mg X.base 11 f sp ∧ ∀ H1, Same (lend L H) H1 → sp H1 (fun _ _ => False) (OutX X.K h v H1)
/-- what a lambda's body is to show: it raises -/
def RaisesB (X : Cx) (N : List Str) (q : Str) (scope : Scope) (cl : List (Str × Addr)) (τ : L2.St) (body : Expr) (sp : Tsp) : Prop :=
  ∀ (f c' : Addr) (A : Around) (outer : List Env) (s : Shared) (H : Hp) (Q : VK) (E : XK), Room 10 (A.deeper (PySem.W.envX q scope s.heap.objs.size f (.ref c') cl)) → sp H Q E → JE (lamC X.prog X.w X.K X.mg X.base N q scope f c' cl A outer s H E) body τ H Q
section
variable {X : Cx} {σ τ : L2.St} {H : Hp} {scope : Scope} {q : Str} {params : Arguments} {body : Expr} {N : List Str} {f : Addr} {sp : Tsp} {h : Hk} {v : V}
theorem thk_of0 (hb : lamNB X.env.scope scope = true) (F : FnO H f q params body scope (cloFrom X.env.cells scope.names []) [])
    (sl : ∀ (i : Nat) (x : Str) (v : V), N[i]? = some x → τ[i]? = some (some v) → scope.names.lookup x = some .free ∧ X.env.kindOf x = some .cell ∧ ∃ j : Nat, X.N[j]? = some x ∧ σ[j]? = some (some v)) (len : τ.length = N.length)
    (on : ∀ H H1 Q E, sp H Q E → Same H H1 → sp H1 Q E) (B : RaisesB X N q scope (cloFrom X.env.cells scope.names []) τ body sp)
    (hs : ∀ H2, Same H H2 → ∀ (Q : VK) (E : XK), Heard X.K h.cls v H2 E → sp H2 Q E)
    (hd : params.defaults = [] := by rfl) (b0 : ∀ doc pm cv ctv cl, bindArgs (PySem.W.kdv_fn "<lambda>" q params (.expr body) scope cl .none doc pm cv ctv) ⟨[], []⟩ = pure [] := by intros; rfl) : ThkOk X σ H f h v := fun L C =>
  ⟨_, lam_thk (binds := fun _ => []) (L := L) (σ := τ) (N := N) (sp := sp) (lamN_of C hb) len on (fun _ doc pm cv ctv => b0 doc pm cv ctv _) (fun e he => by rw [hd] at he; cases he) (fun _ _ hy => by cases hy) B, fun H1 s => spLam_of C hb F (.inl ⟨rfl, hd⟩) sl s fun H2 s2 E hE => hs H2 s2 _ E hE⟩
theorem thk_of1 {e : Expr} {y : Str} {d : Value} (hb : lamNB X.env.scope scope = true) (F : FnO H f q params body scope (cloFrom X.env.cells scope.names []) [d])
    (sl : ∀ (i : Nat) (x : Str) (v : V), N[i]? = some x → τ[i]? = some (some v) → scope.names.lookup x = some .free ∧ X.env.kindOf x = some .cell ∧ ∃ j : Nat, X.N[j]? = some x ∧ σ[j]? = some (some v)) (len : τ.length = N.length)
    (on : ∀ H H1 Q E, sp H Q E → Same H H1 → sp H1 Q E) (B : RaisesB X N q scope (cloFrom X.env.cells scope.names []) τ body sp)
    (hs : ∀ H2, Same H H2 → ∀ (Q : VK) (E : XK), Heard X.K h.cls v H2 E → sp H2 Q E)
    (hd : params.defaults = [e]) (b1 : ∀ (v : Value) (T : Addr) (doc pm cv ctv : Value) (cl : List (Str × Addr)) (s : Shared), s.heap.get? T = some (PySem.W.kdv_tup [v]) → BindsTo s (PySem.W.kdv_fn "<lambda>" q params (.expr body) scope cl (.ref T) doc pm cv ctv) ⟨[], []⟩ [(y, v)]) (hy : scope.names.lookup y = some .local) : ThkOk X σ H f h v := fun L C =>
  ⟨_, lam_thk (binds := fun dv => match dv with | [v] => [(y, v)] | _ => []) (L := L) (σ := τ) (N := N) (sp := sp) (lamN_of C hb) len on (fun z => by rw [hd] at z; cases z) (fun e he v T doc pm cv ctv s hT => b1 v T doc pm cv ctv _ s hT) (fun dv z hz => by
    match dv, hz with
    | [v], hz =>
      have hz : z ∈ [(y, v)] := hz
      rw [List.mem_singleton] at hz
      rw [hz]
      exact hy
    | [], hz => cases hz
    | _ :: _ :: _, hz => cases hz) B, fun H1 s => spLam_of C hb F (.inr ⟨d, rfl, e, hd⟩) sl s fun H2 s2 E hE => hs H2 s2 _ E hE⟩
end
end K28
-- KD21
/-! KD21: the law asks a recorder for what it must not do: hands. -/
namespace K28
open PySem PySem.Spec PyProof.Rows L2 LamX
section
variable {X : Cx} {a b : Expr} {σ : L2.St} {H : Hp} {D : Ends} {p pos pos2 pos3 : Pos} {l1 : List Stmt} {n : Nat}
/-- if not _law_are(a, b): ..  -/
theorem js_are (G : FnG2 X.prog X.w X.K X.mg X.base 13 "_law_are" ["_law_calls_here", "_law_due"] (spAre X.prog X.w X.K X.mg X.base)) (hr : Room (n + 13) X.A) (hgd : X.A.guards = some []) (hf : ∀ x, X.fn x = true)
    (ha : JE X a σ H fun v1 H1 => JE X b σ H1 fun v2 H2 => ∃ (l t : Addr) (gs : List Addr) (h : Hk) (v : V) (d : PyData), v1 = .ref l ∧ v2 = .ref t ∧ H2 l = some (.lst (gs.map V.ref)) ∧ (∀ g ∈ gs, ThkOk X σ H2 g h v) ∧ H2 t = some (.tup [.str h.word, v]) ∧ Rp X.K H2 v d ∧ Sz d 60 2 ∧ gs.length ≤ 5 ∧ ∀ H3, Same H2 H3 → D.nx σ H3)
    (hg : Gl X "_law_are" := by rfl) (he : starEach [a, b] X.env = (false, eval a X.env) :: starEach [b] X.env := by rfl) (he2 : starEach [b] X.env = (false, eval b X.env) :: starEach [] X.env := by rfl) (hpl : (backTo pos (starEach [b] X.env)).any (·.1) = false := by rfl)
    (htr : ∀ whole, isTrue (.Call (.Name "_law_are" p) [a, b] [] pos) X.env whole = (do let v ← whole; standAt (Expr.pos (.Call (.Name "_law_are" p) [a, b] [] pos)); holding [v] (truthy v)) := by intro _; rfl) :
    JS X (.If (.UnaryOp .Not (.Call (.Name "_law_are" p) [a, b] [] pos) pos2) l1 [] pos3) D σ H := by
  refine js_if (jt_of (pt_not ptj) (jt_of (pt_val pej htr) ?_))
  refine je_callL (E := E0) G hr hgd hf passL (ja_of (pa_cons pej (pa_cons pej pa_nil he2) he) (JE.mono ha fun v1 H1 q1 => JE.mono q1 fun v2 H2 q => ?_)) (by omega) hg (by decide) he hpl
  obtain ⟨l, t, gs, h, v, d, rfl, rfl, hl, hth, ht, hv, hz, h5, q⟩ := q
  intro L C
  have sl := same_lend C.out
  have ex : ∃ ths : List (Addr × Tsp), ths.map (·.1) = gs ∧ ∀ th ∈ ths, Thk X.prog X.w X.K X.mg X.base 11 th.1 th.2 ∧ ∀ H1, Same (lend L H2) H1 → th.2 H1 (fun _ _ => False) (OutX X.K h v H1) := by
    clear hl h5
    induction gs with
    | nil => exact ⟨[], rfl, fun _ z => by cases z⟩
    | cons g gs ih =>
      obtain ⟨ths, e, k⟩ := ih fun x hx => hth x (List.mem_cons_of_mem _ hx)
      obtain ⟨sp, k1, k2⟩ := hth g List.mem_cons_self L C
      refine ⟨(g, sp) :: ths, by rw [List.map_cons, e], fun th hm => ?_⟩
      rcases List.mem_cons.mp hm with z | z
      · rw [z]; exact ⟨k1, k2⟩
      · exact k th z
  obtain ⟨ths, e, k⟩ := ex
  have hp : ∀ ths : List (Addr × Tsp), Paired (fun x th => x = V.ref th.1) ((ths.map (·.1)).map V.ref) ths := fun ths => by
    induction ths with
    | nil => exact .nil
    | cons th ths ih => exact .cons rfl ih
  refine ⟨l, t, gs.map V.ref, ths, h, v, d, rfl, sl _ _ hl, e ▸ hp ths, fun th hm => (k th hm).1, sl _ _ ht, rp_on sl _ _ hv, hz, by
    have := congrArg List.length e
    rw [List.length_map] at this
    omega, fun th hm => (k th hm).2, fun H' s' _ => ⟨true, rfl, ?_⟩⟩
  exact iteF (jss_nil (q _ (same_hide C.out s')))
/-- the body of a lambda that asks a recorder: what it needs -/
def spRx (K : PySem.W.Frag) (r : Addr) (R : RD) (v : V) (T : String) (h : Hk) (g : V) : Tsp := fun H _ E => RecAt K H r R ∧ Th H v T ∧ Heard K h.cls g H E
theorem spRx_on {K : PySem.W.Frag} {r : Addr} {R : RD} {v : V} {T : String} {h : Hk} {g : V} : ∀ H H1 Q E, spRx K r R v T h g H Q E → Same H H1 → spRx K r R v T h g H1 Q E := fun _ _ _ _ k s => ⟨k.1.on s, k.2.1.on s, k.2.2.on s⟩
theorem spRx_hs {K : PySem.W.Frag} {H : Hp} {r : Addr} {R : RD} {v : V} {T : String} {h : Hk} {g : V} (hR : RecAt K H r R) (hT : Th H v T) : ∀ H2, Same H H2 → ∀ (Q : VK) (E : XK), Heard K h.cls g H2 E → spRx K r R v T h g H2 Q E := fun H2 s Q E k => ⟨hR.on s, hT.on s, k⟩
end
theorem hfree_of {X : Cx} {scope : Scope} (hb : lamNB X.env.scope scope = true) : ∀ y ∈ scope.names, y.2 = .free → X.env.kindOf y.1 = some .cell ∨ X.env.kindOf y.1 = some .free := fun y hy e => .inl ((lamNB_ok hb).2.2.2.2 y hy e)
theorem Th.ext {H H' : Hp} {v : V} {T : String} (h : Th H v T) (s : ExtN H H') : Th H' v T := by
  cases h with
  | non => exact .non
  | bl b => exact .bl b
  | int i => exact .int i
  | str x => exact .str x
  | lst e => exact .lst (s _ _ e fun _ z => nomatch z)
  | tup e => exact .tup (s _ _ e fun _ z => nomatch z)
  | dK e => exact .dK (s _ _ e fun _ z => nomatch z)
/-- a thing that is of no use -/
def OddX (K : PySem.W.Frag) (ok : V → Prop) (H : Hp) (x : V) : Prop := ∃ T d, Th H x T ∧ Rp K H x d ∧ Sz d 60 2 ∧ ok x
theorem OddX.ext {K : PySem.W.Frag} {ok : V → Prop} {H H' : Hp} {x : V} (h : OddX K ok H x) (s : ExtN H H') : OddX K ok H' x := let ⟨T, d, h1, h2, h3, h4⟩ := h; ⟨T, d, h1.ext s, rp_ext s _ _ h2, h3, h4⟩
theorem extN_same {H H' : Hp} (s : Same H H') : ExtN H H' := fun b o e _ => s b o e
/-- the law's entry and the recorder tell of the same -/
structure Rel (R : RD) (L : LE) : Prop where
  bu : L.busy = R.cur.busy
  ne : 1 ≤ L.busy.length
def spHands (K : PySem.W.Frag) (T : List (Addr × Str)) : Sp := fun vs H Q _ => ∃ r R ve L, vs = [.ref r, ve] ∧ RecAt K H r R ∧ RdOk R ∧ LeAt K H ve L ∧ LOk L ∧ Rel R L ∧ Tabs T H ∧ ∀ H', ExtN H H' → Tabs T H' → Q (.bl true) H'
section
variable {P : Program} {w : World} {K : PySem.W.Frag} {mg : Str → Option Value} {base : Heap}
theorem S_law_hands : FnScope ["_law_live", "_law_entry", "_law_odd_here", "_law_calls_here", "_law_hand", "_law_busy"] ["_law_live", "_law_entry"] (defScope s_law_hands_right) := ⟨rfl, rfl, rfl, by decide +kernel, rfl, by decide +kernel, by decide +kernel⟩
theorem g_law_hands {T : List (Addr × Str)} (M : Mz P K mg) (TT : TbX K mg base T "_law_hands_right") : FnG2 P w K mg base 15 "_law_hands_right" ["_law_live", "_law_entry"] (spHands K T) := by
  refine fng2 M.d_law_hands_right S_law_hands (fun vs H Q E ⟨r, R, ve, L, h, _⟩ => by rw [h]; rfl) (fun f cdv A outer s H vs Q E hr hgd hcd ⟨r, R, ve, L, e, hR, ok, hL, okL, rel, hT, q⟩ => ?_) (fun _ _ _ _ _ _ us hl => match us, hl with | [_, _], _ => rfl)
  subst e
  obtain ⟨c, P1, hc1, TB, hm, hu⟩ := TT.ex
  cases hc1 cdv hcd
  have GA := (g_law_are (P := P) (w := w) (base := base) M)
  refine jss_cons (js_forT 2 (passes_of rfl) rfl S_law_hands.nd ?_)
  refine je_of (pe_tup paj) (ja_of (pa_cons pej (pa_cons pej (pa_cons pej (pa_cons pej (pa_cons pej (pa_cons pej (pa_cons pej (pa_cons pej (pa_cons pej pa_nil rfl) rfl) rfl) rfl) rfl) rfl) rfl) rfl) rfl) ?_)
  obtain ⟨a0, ub, bw, br, uc, e0, pL⟩ := id hL
  subst e0
  have h30 : (1000000000000000000000000000000 : Int) = 10 ^ (30 : Int).toNat := by decide
  refine JV.je jv_non fun H1 s1 => JV.je (jd_neg jd_int).int fun H2 s2 => JV.je (jd_lenT M.f_len (jd_ebusy hr (jv_var 1 rfl) (pL.on (s1.trans s2)))).int fun H3 s3 => JV.je jv_bl fun H4 s4 => JV.je jv_str fun H5 s5 => ?_
  have s05 := (s1.trans s2).trans ((s3.trans s4).trans s5)
  refine je_of (pe_tup paj) (ja_of (pa_cons pej pa_nil rfl) (JV.je jv_int fun H6 s6 => ⟨small1 (by simp), fun t0 ht0 => ?_⟩))
  have s7 := same_new (o := .tup [V.int 0]) ht0
  refine je_of (pe_lst paj) (ja_of pa_nil ⟨small1 (by simp), fun l0 hl0 => ?_⟩)
  have s8 := same_new (o := .lst []) hl0
  refine JV.je (v := .int 1000000000000000000000000000000) (by rw [h30]; exact (jd_pow jd_int jd_int ⟨by decide, by decide, by decide⟩).int) fun H9 s9 => ?_
  refine JMF.je (α := Int) (da := PyData.int) jmf_new fun d0 H10 s10 hnd hd0 => ?_
  refine ⟨small1 (by simp), fun tp htp => ?_⟩
  have s11 := same_new (o := .tup [.non, .int (-1), .int ((L.busy.map pB).length : Nat), .bl true, .str "0", .ref t0, .ref l0, .int 1000000000000000000000000000000, .ref d0]) htp
  have sF := (s05.trans s6).trans (s7.trans (s8.trans (s9.trans (s10.trans s11))))
  have sT := s8.trans (s9.trans (s10.trans s11))
  have hne0 : ¬ (0 ≤ (-1 : Int)) := by decide
  have odd : ∀ {HF : Hp}, Same H10 HF → ∀ x ∈ ([.non, .int (-1), .int ((L.busy.map pB).length : Nat), .bl true, .str "0", .ref t0, .ref l0, .int 1000000000000000000000000000000, .ref d0] : List V), OddX K (fun x => idx R.cur x = none) HF x := by
    intro HF sHF x hx
    have hb6 := okL.bu
    have hbl : (R.cur.busy.length : Int) ≤ 6 := by rw [← rel.bu]; omega
    have big : ∀ i : Int, ¬ (0 ≤ i ∧ i ≤ (R.cur.busy.length : Int) - 1) → idx R.cur (.int i) = none := fun i h => if_neg h
    rcases List.mem_cons.mp hx with z | hx
    · subst z; exact ⟨_, .none, .non, .non, sz_none.mono (by decide) (by decide), rfl⟩
    rcases List.mem_cons.mp hx with z | hx
    · subst z; exact ⟨_, .int (-1), .int _, .int _, ⟨rfl, by decide, by decide +kernel⟩, big _ fun h => hne0 h.1⟩
    rcases List.mem_cons.mp hx with z | hx
    · subst z
      refine ⟨_, .int ((L.busy.map pB).length : Nat), .int _, .int _, (sz_nat (by rw [List.length_map]; omega)).mono (by decide) (by decide), big _ fun h => ?_⟩
      have h2 := h.2
      rw [List.length_map, rel.bu] at h2
      omega
    rcases List.mem_cons.mp hx with z | hx
    · subst z; exact ⟨_, .bool true, .bl _, .bl _, ⟨rfl, by decide, by decide +kernel⟩, rfl⟩
    rcases List.mem_cons.mp hx with z | hx
    · subst z; exact ⟨_, .str "0", .str _, .str _, ⟨rfl, by decide, by decide +kernel⟩, rfl⟩
    rcases List.mem_cons.mp hx with z | hx
    · subst z
      have h0 := ((s8.trans (s9.trans s10)).trans sHF) _ _ (upd_same (H := H6) (a := t0) (o := .tup [V.int 0]))
      exact ⟨_, .tuple [.int 0], .tup h0, .tup (SqT.of h0) (.cons (.int 0) .nil), ⟨rfl, by decide, by decide +kernel⟩, rfl⟩
    rcases List.mem_cons.mp hx with z | hx
    · subst z
      have h0 := ((s9.trans s10).trans sHF) l0 (.lst []) upd_same
      exact ⟨_, .list [], .lst h0, .lst (SqL.len h0) .nil, ⟨rfl, by decide, by decide +kernel⟩, rfl⟩
    rcases List.mem_cons.mp hx with z | hx
    · subst z; exact ⟨_, .int 1000000000000000000000000000000, .int _, .int _, ⟨by decide +kernel, by decide, by decide +kernel⟩, big _ fun h => by omega⟩
    rcases List.mem_cons.mp hx with z | hx
    · subst z
      obtain ⟨kv, z1, z2⟩ := hd0
      cases z2
      have h0 := sHF _ _ z1
      exact ⟨_, .dict [], .dK h0, .mt h0, ⟨rfl, by decide, by decide +kernel⟩, rfl⟩
    cases hx
  generalize hxs : ([.non, .int (-1), .int ((L.busy.map pB).length : Nat), .bl true, .str "0", .ref t0, .ref l0, .int 1000000000000000000000000000000, .ref d0] : List V) = xs at s11 sF sT odd ⊢
  refine ⟨tp, xs, fun _ σ1 H2 => ExtN H H2 ∧ Tabs T H2 ∧ SqT K H2 tp xs ∧ (∀ x ∈ xs, OddX K (fun x => idx R.cur x = none) H2 x) ∧ ∃ o2 o3 o4 o5, σ1 = [some (.ref r), some (.ref a0), o2, o3, o4, o5], rfl, ⟨extN_same sF, hT.ext sF, SqT.of upd_same, odd s11, none, none, none, none, rfl⟩, fun j σ1 H2 z => z.2.2.1, ?_, ?_⟩
  · rintro j v σ1 H2 hv ⟨eN, hT2, htp2, odd2, o2, o3, o4, o5, rfl⟩
    obtain ⟨Tn, d, hTh, hRp, hSz, hidx⟩ := odd2 v (List.mem_of_getElem? hv)
    have hb0 : ∀ {sc : Scope}, lamNB (defScope s_law_hands_right) sc = true → True := fun _ => trivial
    refine jss_setE 3 S_law_hands.nd ?_
    refine je_of (pe_lst paj) (ja_of (pa_cons pej (pa_cons pej (pa_cons pej pa_nil rfl) rfl) rfl) ?_)
    refine je_lam TB rfl hm hu hT2 (hfree_of (show lamNB (defScope s_law_hands_right) _ = true by decide +kernel)) fun f1 H3 e3 T3 n1 F1 => ?_
    refine je_lam1 TB rfl hm hu T3 (hfree_of (show lamNB (defScope s_law_hands_right) _ = true by decide +kernel)) jv_int fun f2 H4 t2 e4 T4 n2 F2 => ?_
    refine je_lam1 TB rfl hm hu T4 (hfree_of (show lamNB (defScope s_law_hands_right) _ = true by decide +kernel)) jv_int fun f3 H5 t3 e5 T5 n3 F3 => ?_
    refine ⟨small1 (by simp), fun lp hlp => ?_⟩
    have s6' := same_new (o := .lst [.ref f1, .ref f2, .ref f3]) hlp
    refine jss_one (js_are (n := 1) GA hr hgd (fun _ => rfl) ?_)
    refine je_of (pe_op op_cat pej pej) (JV.je (jv_var 3 rfl) fun H7 s7' => ?_)
    have T7 := (T5.ext s6').ext s7'
    refine je_of (pe_lst paj) (ja_of (pa_cons pej (pa_cons pej pa_nil rfl) rfl) ?_)
    refine je_lam TB rfl hm hu T7 (hfree_of (show lamNB (defScope s_law_hands_right) _ = true by decide +kernel)) fun f4 H8 e8 T8 n4 F4 => ?_
    refine je_lam1 TB rfl hm hu T8 (hfree_of (show lamNB (defScope s_law_hands_right) _ = true by decide +kernel)) jv_int fun f5 H9 t5 e9 T9 n5 F5 => ?_
    refine ⟨small1 (by simp), fun lq hlq => ?_⟩
    have s10' := same_new (o := .lst [.ref f4, .ref f5]) hlq
    have hlp9 : upd H9 lq (.lst [.ref f4, .ref f5]) lp = some (.lst [.ref f1, .ref f2, .ref f3]) := s10' _ _ (e9 _ _ (e8 _ _ (s7' _ _ upd_same) fun _ z => nomatch z) fun _ z => nomatch z)
    refine ⟨lp, lq, [.ref f1, .ref f2, .ref f3], [.ref f4, .ref f5], rfl, rfl, hlp9, upd_same, small1 (by simp), fun lc hlc => ?_⟩
    have s11' := same_new (o := .lst ([.ref f1, .ref f2, .ref f3] ++ [.ref f4, .ref f5])) hlc
    refine je_of (pe_tup paj) (ja_of (pa_cons pej (pa_cons pej pa_nil rfl) rfl) (JV.je jv_str fun H12 s12' => JV.je (jv_var 2 rfl) fun H13 s13' => ⟨small1 (by simp), fun tt htt => ?_⟩))
    have s14' := same_new (o := .tup [.str "number", v]) htt
    have s914 := s10'.trans (s11'.trans (s12'.trans (s13'.trans s14')))
    have e79 : ExtN H7 H9 := e8.trans e9
    have e714 := e79.trans (extN_same s914)
    have e514 : ExtN H5 _ := (extN_same (s6'.trans s7')).trans e714
    have e2_14 : ExtN H2 _ := ((e3.trans e4).trans e5).trans e514
    have hR14 := rec_ext (eN.trans e2_14) hR
    have hTh14 := hTh.ext e2_14
    refine ⟨lc, tt, [f1, f2, f3, f4, f5], .num, v, d, rfl, rfl, (s12'.trans (s13'.trans s14')) _ _ upd_same, ?_, upd_same, rp_ext e2_14 _ _ hRp, hSz, by simp, fun H15 s15 => ?_⟩
    · have hw : wrA R.cur v .non (R.now : Nat) = .bad v := by unfold wrA; rw [hidx]
      have hrd : rdA R.cur v (R.now : Nat) = .bad v := by unfold rdA; rw [hidx]
      have hdn : dnA R.cur v .non (R.now : Nat) = .bad v := by unfold dnA; rw [hidx]
      intro g hg
      rcases List.mem_cons.mp hg with z | hg
      · subst z
        exact thk_of0 (N := ["_law_live", "_law_odd_here"]) (τ := [some (.ref r), some v]) (sp := spRx K r R v Tn .num v) (show lamNB (defScope s_law_hands_right) _ = true by decide +kernel) (F1.on fun b o n e => ((e4.trans e5).trans e514) b o e n) (fun i x v' h1 h2 => by
          match i, h1, h2 with
          | 0, h1, h2 => cases h1; cases h2; exact ⟨rfl, rfl, 0, rfl, rfl⟩
          | 1, h1, h2 => cases h1; cases h2; exact ⟨rfl, rfl, 2, rfl, rfl⟩
          | n + 2, h1, _ => cases h1) rfl spRx_on (fun f c' A outer s H Q E hr h => je_write (n := 0) M.toMx hr passLam (jv_var 0 rfl) h.1 ok (jv_var 1 rfl) h.2.1 jv_non .non (by rw [hw]; exact h.2.2)) (spRx_hs hR14 hTh14)
      rcases List.mem_cons.mp hg with z | hg
      · subst z
        exact thk_of1 (N := ["_law_live", "_law_odd_here"]) (τ := [some (.ref r), some v]) (sp := spRx K r R v Tn .num v) (y := "_law_x") (show lamNB (defScope s_law_hands_right) _ = true by decide +kernel) (F2.on fun b o n e => (e5.trans e514) b o e n) (fun i x v' h1 h2 => by
          match i, h1, h2 with
          | 0, h1, h2 => cases h1; cases h2; exact ⟨rfl, rfl, 0, rfl, rfl⟩
          | 1, h1, h2 => cases h1; cases h2; exact ⟨rfl, rfl, 2, rfl, rfl⟩
          | n + 2, h1, _ => cases h1) rfl spRx_on (fun f c' A outer s H Q E hr h => je_read (n := 0) M.toMx hr passLam (jv_var 0 rfl) h.1 ok (jv_var 1 rfl) h.2.1 (by rw [hrd]; exact h.2.2)) (spRx_hs hR14 hTh14) rfl (fun v T doc pm cv ctv cl s hT => .of_defaults rfl hT rfl rfl rfl) rfl
      rcases List.mem_cons.mp hg with z | hg
      · subst z
        exact thk_of1 (N := ["_law_live", "_law_odd_here"]) (τ := [some (.ref r), some v]) (sp := spRx K r R v Tn .num v) (y := "_law_y") (show lamNB (defScope s_law_hands_right) _ = true by decide +kernel) (F3.on fun b o n e => (e514) b o e n) (fun i x v' h1 h2 => by
          match i, h1, h2 with
          | 0, h1, h2 => cases h1; cases h2; exact ⟨rfl, rfl, 0, rfl, rfl⟩
          | 1, h1, h2 => cases h1; cases h2; exact ⟨rfl, rfl, 2, rfl, rfl⟩
          | n + 2, h1, _ => cases h1) rfl spRx_on (fun f c' A outer s H Q E hr h => je_done (n := 0) M.toMx hr passLam (jv_var 0 rfl) h.1 ok (jv_var 1 rfl) h.2.1 jv_non .non (by rw [hdn]; exact h.2.2)) (spRx_hs hR14 hTh14) rfl (fun v T doc pm cv ctv cl s hT => .of_defaults rfl hT rfl rfl rfl) rfl
      rcases List.mem_cons.mp hg with z | hg
      · subst z
        exact thk_of0 (N := ["_law_live", "_law_odd_here"]) (τ := [some (.ref r), some v]) (sp := spRx K r R v Tn .num v) (show lamNB (defScope s_law_hands_right) _ = true by decide +kernel) (F4.on fun b o n e => (e9.trans (extN_same s914)) b o e n) (fun i x v' h1 h2 => by
          match i, h1, h2 with
          | 0, h1, h2 => cases h1; cases h2; exact ⟨rfl, rfl, 0, rfl, rfl⟩
          | 1, h1, h2 => cases h1; cases h2; exact ⟨rfl, rfl, 2, rfl, rfl⟩
          | n + 2, h1, _ => cases h1) rfl spRx_on (fun f c' A outer s H Q E hr h => je_doing (n := 5) M.toMx hr passLam (jv_var 0 rfl) h.1 ok (jv_var 1 rfl) h.2.1 (by rw [hidx]; exact h.2.2)) (spRx_hs hR14 hTh14)
      rcases List.mem_cons.mp hg with z | hg
      · subst z
        exact thk_of1 (N := ["_law_live", "_law_odd_here"]) (τ := [some (.ref r), some v]) (sp := spRx K r R v Tn .num v) (y := "_law_x") (show lamNB (defScope s_law_hands_right) _ = true by decide +kernel) (F5.on fun b o n e => (extN_same s914) b o e n) (fun i x v' h1 h2 => by
          match i, h1, h2 with
          | 0, h1, h2 => cases h1; cases h2; exact ⟨rfl, rfl, 0, rfl, rfl⟩
          | 1, h1, h2 => cases h1; cases h2; exact ⟨rfl, rfl, 2, rfl, rfl⟩
          | n + 2, h1, _ => cases h1) rfl spRx_on (fun f c' A outer s H Q E hr h => je_free (n := 1) M.toMx hr passLam (jv_var 0 rfl) h.1 ok (jv_var 1 rfl) h.2.1 (by rw [hidx]; exact h.2.2)) (spRx_hs hR14 hTh14) rfl (fun v T doc pm cv ctv cl s hT => .of_defaults rfl hT rfl rfl rfl) rfl
      cases hg
    · exact ⟨(eN.trans e2_14).trans (extN_same s15), (((T9.ext s914)).ext s15), ext_sqt (e2_14.trans (extN_same s15)) htp2, fun x hx => (odd2 x hx).ext (e2_14.trans (extN_same s15)), _, _, _, _, rfl⟩
  · rintro σ1 H2 ⟨eN, hT2, htp2, odd2, o2, o3, o4, o5, rfl⟩
    have hR2 := rec_ext eN hR
    obtain ⟨_, ub', bw', br', uc', e0, pL2⟩ := le_ext eN hL
    cases e0
    refine jss_cons (js_forE 4 5 (passes_of rfl) rfl S_law_hands.nd M.f_enumerate (JD.je (jd_ebusy hr (jv_var 1 rfl) pL2) fun u Ha sa hu2 => ?_))
    cases hu2 with
    | @tup ua us _ htu hbu =>
    refine ⟨ua, us, fun _ σ1 H3 => ExtN H2 H3 ∧ Tabs T H3 ∧ SqT K H3 ua us ∧ DpAll K H3 us (L.busy.map pB) ∧ ∃ o2 o3 o4 o5, σ1 = [some (.ref r), some (.ref a0), o2, o3, o4, o5], rfl, ⟨extN_same sa, hT2.ext sa, htu, hbu, _, _, _, _, rfl⟩, fun j σ1 H2 z => z.2.2.1, ?_, ?_⟩
    · rintro k v σ1 Hb H3 hv ⟨eN2, hT3, htu2, hbu2, o2, o3, o4, o5, rfl⟩ s3
      have T3 := hT3.ext s3
      have hlen : us.length = L.busy.length := by rw [hbu.len, List.length_map]
      have hk : k < L.busy.length := by rw [← hlen]; exact (List.getElem?_eq_some_iff.mp hv).1
      have hb6 := okL.bu
      obtain ⟨dz, hd1, hd2⟩ := hbu2.at_ hv
      rw [bzL_at hk] at hd1
      cases hd1
      have hd3 := hd2.on s3
      have hbz : bzAt R.cur k = bzL L k := by unfold bzAt bzL; rw [rel.bu]
      have hidx : idx R.cur (.int (k : Nat)) = some k := by
        have hk2 : k < R.cur.busy.length := by rw [← rel.bu]; exact hk
        show (if 0 ≤ (k : Int) ∧ (k : Int) ≤ (R.cur.busy.length : Int) - 1 then some (k : Int).toNat else none) = some k
        rw [if_pos ⟨by omega, by omega⟩]
        rfl
      refine jss_one ?_
      by_cases hz : bzL L k = .free
      · have hdn : ∀ nm, dnA R.cur (.int (k : Nat)) nm (R.now : Nat) = .idle (.int (k : Nat)) := fun nm => by unfold dnA; rw [hidx]; simp only [hbz, hz]
        rw [hz] at hd3
        cases hd3
        refine js_ifT (by
          have e : decide (V.non = V.non) = true := by decide
          rw [← e]
          exact jb_isN (jv_var 5 rfl)) fun H4 s4 => jss_one (js_are (n := 1) GA hr hgd (fun _ => rfl) ?_)
        refine je_of (pe_lst paj) (ja_of (pa_cons pej (pa_cons pej pa_nil rfl) rfl) ?_)
        refine je_lam TB rfl hm hu (T3.ext s4) (hfree_of (show lamNB (defScope s_law_hands_right) _ = true by decide +kernel)) fun f1 H5 e5 T5 n5 F1 => ?_
        refine je_lam1 TB rfl hm hu T5 (hfree_of (show lamNB (defScope s_law_hands_right) _ = true by decide +kernel)) jv_int fun f2 H6 t6 e6 T6 n6 F2 => ?_
        refine ⟨small1 (by simp), fun lc hlc => ?_⟩
        have s7 := same_new (o := .lst [.ref f1, .ref f2]) hlc
        refine je_of (pe_tup paj) (ja_of (pa_cons pej (pa_cons pej pa_nil rfl) rfl) (JV.je jv_str fun H8 s8 => JV.je (jv_var 4 rfl) fun H9 s9 => ⟨small1 (by simp), fun tt htt => ?_⟩))
        have s10 := same_new (o := .tup [.str "idle", .int (k : Nat)]) htt
        have s610 := s7.trans (s8.trans (s9.trans s10))
        have e510 := e6.trans (extN_same s610)
        have e210 := (extN_same (s3.trans s4)).trans (e5.trans e510)
        have hR14 := rec_ext (eN2.trans e210) hR2
        refine ⟨lc, tt, [f1, f2], .idl, .int (k : Nat), .int (k : Nat), rfl, rfl, (s8.trans (s9.trans s10)) _ _ upd_same, ?_, upd_same, .int _, (sz_nat (by omega)).mono (by decide) (by decide), by simp, fun H15 s15 => ?_⟩
        · intro g hg
          rcases List.mem_cons.mp hg with z | hg
          · subst z
            exact thk_of0 (N := ["_law_live", "_law_hand"]) (τ := [some (.ref r), some (.int (k : Nat))]) (sp := spRx K r R (.int (k : Nat)) "int" .idl (.int (k : Nat))) (show lamNB (defScope s_law_hands_right) _ = true by decide +kernel) (F1.on fun b o n e => (e510) b o e n) (fun i x v' h1 h2 => by
              match i, h1, h2 with
              | 0, h1, h2 => cases h1; cases h2; exact ⟨rfl, rfl, 0, rfl, rfl⟩
              | 1, h1, h2 => cases h1; cases h2; exact ⟨rfl, rfl, 4, rfl, rfl⟩
              | n + 2, h1, _ => cases h1) rfl spRx_on (fun f c' A outer s H Q E hr h => je_done1 (n := 0) M.toMx hr passLam (jv_var 0 rfl) h.1 ok (jv_var 1 rfl) h.2.1 (by rw [hdn .non]; exact h.2.2)) (spRx_hs hR14 (.int _))
          rcases List.mem_cons.mp hg with z | hg
          · subst z
            exact thk_of1 (N := ["_law_live", "_law_hand"]) (τ := [some (.ref r), some (.int (k : Nat))]) (sp := spRx K r R (.int (k : Nat)) "int" .idl (.int (k : Nat))) (y := "_law_x") (show lamNB (defScope s_law_hands_right) _ = true by decide +kernel) (F2.on fun b o n e => (extN_same s610) b o e n) (fun i x v' h1 h2 => by
              match i, h1, h2 with
              | 0, h1, h2 => cases h1; cases h2; exact ⟨rfl, rfl, 0, rfl, rfl⟩
              | 1, h1, h2 => cases h1; cases h2; exact ⟨rfl, rfl, 4, rfl, rfl⟩
              | n + 2, h1, _ => cases h1) rfl spRx_on (fun f c' A outer s H Q E hr h => je_done (n := 0) M.toMx hr passLam (jv_var 0 rfl) h.1 ok (jv_var 1 rfl) h.2.1 jv_str (.str _) (by rw [hdn (.str "x")]; exact h.2.2)) (spRx_hs hR14 (.int _)) rfl (fun v T doc pm cv ctv cl s hT => .of_defaults rfl hT rfl rfl rfl) rfl
          cases hg
        · exact ⟨(eN2.trans e210).trans (extN_same s15), (T6.ext s610).ext s15, ext_sqt (e210.trans (extN_same s15)) htu2, dpa_ext (e210.trans (extN_same s15)) _ _ hbu2, _, _, _, _, rfl⟩
      · have hfr : isFree (bzAt R.cur k) = false := by
          rw [hbz]
          cases e : bzL L k with
          | free => exact absurd e hz
          | wr _ _ => rfl
          | rd _ => rfl
        have hwr : wrA R.cur (.int (k : Nat)) .non (R.now : Nat) = .busy (.int (k : Nat)) := by unfold wrA; rw [hidx]; simp only [hfr]; rfl
        have hrd : rdA R.cur (.int (k : Nat)) (R.now : Nat) = .busy (.int (k : Nat)) := by unfold rdA; rw [hidx]; simp only [hfr]; rfl
        have hun : decide (v = V.non) = false := by
          cases e : bzL L k with
          | free => exact absurd e hz
          | wr _ _ => rw [e] at hd3; cases hd3; rfl
          | rd _ => rw [e] at hd3; cases hd3; rfl
        refine js_ifF (by
          rw [← hun]
          exact jb_isN (jv_var 5 rfl)) fun H4 s4 => jss_one (js_are (n := 1) GA hr hgd (fun _ => rfl) ?_)
        refine je_of (pe_lst paj) (ja_of (pa_cons pej (pa_cons pej pa_nil rfl) rfl) ?_)
        refine je_lam TB rfl hm hu (T3.ext s4) (hfree_of (show lamNB (defScope s_law_hands_right) _ = true by decide +kernel)) fun f1 H5 e5 T5 n5 F1 => ?_
        refine je_lam1 TB rfl hm hu T5 (hfree_of (show lamNB (defScope s_law_hands_right) _ = true by decide +kernel)) jv_int fun f2 H6 t6 e6 T6 n6 F2 => ?_
        refine ⟨small1 (by simp), fun lc hlc => ?_⟩
        have s7 := same_new (o := .lst [.ref f1, .ref f2]) hlc
        refine je_of (pe_tup paj) (ja_of (pa_cons pej (pa_cons pej pa_nil rfl) rfl) (JV.je jv_str fun H8 s8 => JV.je (jv_var 4 rfl) fun H9 s9 => ⟨small1 (by simp), fun tt htt => ?_⟩))
        have s10 := same_new (o := .tup [.str "busy", .int (k : Nat)]) htt
        have s610 := s7.trans (s8.trans (s9.trans s10))
        have e510 := e6.trans (extN_same s610)
        have e210 := (extN_same (s3.trans s4)).trans (e5.trans e510)
        have hR14 := rec_ext (eN2.trans e210) hR2
        refine ⟨lc, tt, [f1, f2], .bsy, .int (k : Nat), .int (k : Nat), rfl, rfl, (s8.trans (s9.trans s10)) _ _ upd_same, ?_, upd_same, .int _, (sz_nat (by omega)).mono (by decide) (by decide), by simp, fun H15 s15 => ?_⟩
        · intro g hg
          rcases List.mem_cons.mp hg with z | hg
          · subst z
            exact thk_of0 (N := ["_law_live", "_law_hand"]) (τ := [some (.ref r), some (.int (k : Nat))]) (sp := spRx K r R (.int (k : Nat)) "int" .bsy (.int (k : Nat))) (show lamNB (defScope s_law_hands_right) _ = true by decide +kernel) (F1.on fun b o n e => (e510) b o e n) (fun i x v' h1 h2 => by
              match i, h1, h2 with
              | 0, h1, h2 => cases h1; cases h2; exact ⟨rfl, rfl, 0, rfl, rfl⟩
              | 1, h1, h2 => cases h1; cases h2; exact ⟨rfl, rfl, 4, rfl, rfl⟩
              | n + 2, h1, _ => cases h1) rfl spRx_on (fun f c' A outer s H Q E hr h => je_write (n := 0) M.toMx hr passLam (jv_var 0 rfl) h.1 ok (jv_var 1 rfl) h.2.1 jv_non .non (by rw [hwr]; exact h.2.2)) (spRx_hs hR14 (.int _))
          rcases List.mem_cons.mp hg with z | hg
          · subst z
            exact thk_of1 (N := ["_law_live", "_law_hand"]) (τ := [some (.ref r), some (.int (k : Nat))]) (sp := spRx K r R (.int (k : Nat)) "int" .bsy (.int (k : Nat))) (y := "_law_x") (show lamNB (defScope s_law_hands_right) _ = true by decide +kernel) (F2.on fun b o n e => (extN_same s610) b o e n) (fun i x v' h1 h2 => by
              match i, h1, h2 with
              | 0, h1, h2 => cases h1; cases h2; exact ⟨rfl, rfl, 0, rfl, rfl⟩
              | 1, h1, h2 => cases h1; cases h2; exact ⟨rfl, rfl, 4, rfl, rfl⟩
              | n + 2, h1, _ => cases h1) rfl spRx_on (fun f c' A outer s H Q E hr h => je_read (n := 0) M.toMx hr passLam (jv_var 0 rfl) h.1 ok (jv_var 1 rfl) h.2.1 (by rw [hrd]; exact h.2.2)) (spRx_hs hR14 (.int _)) rfl (fun v T doc pm cv ctv cl s hT => .of_defaults rfl hT rfl rfl rfl) rfl
          cases hg
        · exact ⟨(eN2.trans e210).trans (extN_same s15), (T6.ext s610).ext s15, ext_sqt (e210.trans (extN_same s15)) htu2, dpa_ext (e210.trans (extN_same s15)) _ _ hbu2, _, _, _, _, rfl⟩
    · rintro σ1 H3 ⟨eN2, hT3, htu2, hbu2, o2, o3, o4, o5, rfl⟩
      have eN3 := eN.trans eN2
      refine jss_cons (js_forT 2 (passes_of rfl) rfl S_law_hands.nd ?_)
      refine je_of (pe_tup paj) (ja_of (pa_cons pej (pa_cons pej (pa_cons pej (pa_cons pej (pa_cons pej (pa_cons pej (pa_cons pej (pa_cons pej pa_nil rfl) rfl) rfl) rfl) rfl) rfl) rfl) rfl) ?_)
      refine JV.je jv_non fun G1 g1 => JV.je (jd_neg jd_int).int fun G2 g2 => JV.je jv_int fun G3 g3 => JV.je jv_bl fun G4 g4 => JV.je jv_str fun G5 g5 => ?_
      have g05 := (g1.trans g2).trans ((g3.trans g4).trans g5)
      refine je_of (pe_tup paj) (ja_of (pa_cons pej pa_nil rfl) (JV.je jv_int fun G6 g6 => ⟨small1 (by simp), fun t1 ht1 => ?_⟩))
      have g7 := same_new (o := .tup [V.int 1]) ht1
      refine je_of (pe_lst paj) (ja_of pa_nil ⟨small1 (by simp), fun l1 hl1 => ?_⟩)
      have g8 := same_new (o := .lst []) hl1
      refine JMF.je (α := Int) (da := PyData.int) jmf_new fun d1 G10 g10 hnd1 hd1 => ?_
      refine ⟨small1 (by simp), fun tq htq => ?_⟩
      have g11 := same_new (o := .tup [.non, .int (-1), .int 13, .bl true, .str "1", .ref t1, .ref l1, .ref d1]) htq
      have gF := (g05.trans g6).trans (g7.trans (g8.trans (g10.trans g11)))
      have odd3 : ∀ {HF : Hp}, Same G10 HF → ∀ x ∈ ([.non, .int (-1), .int 13, .bl true, .str "1", .ref t1, .ref l1, .ref d1] : List V), OddX K (fun x => btw x 0 12 = false) HF x := by
        intro HF sHF x hx
        rcases List.mem_cons.mp hx with z | hx
        · subst z; exact ⟨_, .none, .non, .non, sz_none.mono (by decide) (by decide), rfl⟩
        rcases List.mem_cons.mp hx with z | hx
        · subst z; exact ⟨_, .int (-1), .int _, .int _, ⟨rfl, by decide, by decide +kernel⟩, rfl⟩
        rcases List.mem_cons.mp hx with z | hx
        · subst z; exact ⟨_, .int 13, .int _, .int _, ⟨rfl, by decide, by decide +kernel⟩, rfl⟩
        rcases List.mem_cons.mp hx with z | hx
        · subst z; exact ⟨_, .bool true, .bl _, .bl _, ⟨rfl, by decide, by decide +kernel⟩, rfl⟩
        rcases List.mem_cons.mp hx with z | hx
        · subst z; exact ⟨_, .str "1", .str _, .str _, ⟨rfl, by decide, by decide +kernel⟩, rfl⟩
        rcases List.mem_cons.mp hx with z | hx
        · subst z
          have h0 := ((g8.trans g10).trans sHF) _ _ (upd_same (H := G6) (a := t1) (o := .tup [V.int 1]))
          exact ⟨_, .tuple [.int 1], .tup h0, .tup (SqT.of h0) (.cons (.int 1) .nil), ⟨rfl, by decide, by decide +kernel⟩, rfl⟩
        rcases List.mem_cons.mp hx with z | hx
        · subst z
          have h0 := (g10.trans sHF) l1 (.lst []) upd_same
          exact ⟨_, .list [], .lst h0, .lst (SqL.len h0) .nil, ⟨rfl, by decide, by decide +kernel⟩, rfl⟩
        rcases List.mem_cons.mp hx with z | hx
        · subst z
          obtain ⟨kv, z1, z2⟩ := hd1
          cases z2
          have h0 := sHF _ _ z1
          exact ⟨_, .dict [], .dK h0, .mt h0, ⟨rfl, by decide, by decide +kernel⟩, rfl⟩
        cases hx
      generalize hys : ([.non, .int (-1), .int 13, .bl true, .str "1", .ref t1, .ref l1, .ref d1] : List V) = ys at g11 gF odd3 ⊢
      refine ⟨tq, ys, fun _ σ1 H2 => ExtN H H2 ∧ Tabs T H2 ∧ SqT K H2 tq ys ∧ (∀ x ∈ ys, OddX K (fun x => btw x 0 12 = false) H2 x) ∧ ∃ o2 o3 o4 o5, σ1 = [some (.ref r), some (.ref a0), o2, o3, o4, o5], rfl, ⟨eN3.trans (extN_same gF), hT3.ext gF, SqT.of upd_same, odd3 g11, _, _, _, _, rfl⟩, fun j σ1 H2 z => z.2.2.1, ?_, ?_⟩
      · rintro j v σ1 H4 hv ⟨eN4, hT4, htq4, odd4, o2, o3, o4, o5, rfl⟩
        obtain ⟨Tn, d, hTh, hRp, hSz, hbt⟩ := odd4 v (List.mem_of_getElem? hv)
        refine jss_one (js_are (n := 1) GA hr hgd (fun _ => rfl) ?_)
        refine je_of (pe_lst paj) (ja_of (pa_cons pej pa_nil rfl) ?_)
        refine je_lam TB rfl hm hu hT4 (hfree_of (show lamNB (defScope s_law_hands_right) _ = true by decide +kernel)) fun f1 H5 e5 T5 n5 F1 => ?_
        refine ⟨small1 (by simp), fun lc hlc => ?_⟩
        have s7 := same_new (o := .lst [.ref f1]) hlc
        refine je_of (pe_tup paj) (ja_of (pa_cons pej (pa_cons pej pa_nil rfl) rfl) (JV.je jv_str fun H8 s8 => JV.je (jv_var 2 rfl) fun H9 s9 => ⟨small1 (by simp), fun tt htt => ?_⟩))
        have s10 := same_new (o := .tup [.str "number", v]) htt
        have s510 := s7.trans (s8.trans (s9.trans s10))
        have e410 := e5.trans (extN_same s510)
        have hR14 := rec_ext (eN4.trans e410) hR
        have hTh14 := hTh.ext e410
        refine ⟨lc, tt, [f1], .num, v, d, rfl, rfl, (s8.trans (s9.trans s10)) _ _ upd_same, ?_, upd_same, rp_ext e410 _ _ hRp, hSz, by simp, fun H15 s15 => ?_⟩
        · intro g hg
          rcases List.mem_cons.mp hg with z | hg
          · subst z
            exact thk_of0 (N := ["_law_live", "_law_odd_here"]) (τ := [some (.ref r), some v]) (sp := spRx K r R v Tn .num v) (show lamNB (defScope s_law_hands_right) _ = true by decide +kernel) (F1.on fun b o n e => (extN_same s510) b o e n) (fun i x v' h1 h2 => by
              match i, h1, h2 with
              | 0, h1, h2 => cases h1; cases h2; exact ⟨rfl, rfl, 0, rfl, rfl⟩
              | 1, h1, h2 => cases h1; cases h2; exact ⟨rfl, rfl, 2, rfl, rfl⟩
              | n + 2, h1, _ => cases h1) rfl spRx_on (fun f c' A outer s H Q E hr h => je_first (n := 5) M.toMx hr passLam (jv_var 0 rfl) h.1 ok (jv_var 1 rfl) h.2.1 (fun _ => h.2.2) fun z => by rw [hbt] at z; cases z) (spRx_hs hR14 hTh14)
          cases hg
        · exact ⟨(eN4.trans e410).trans (extN_same s15), (T5.ext s510).ext s15, ext_sqt (e410.trans (extN_same s15)) htq4, fun x hx => (odd4 x hx).ext (e410.trans (extN_same s15)), _, _, _, _, rfl⟩
      · rintro σ1 H4 ⟨eN4, hT4, htq4, odd4, o2, o3, o4, o5, rfl⟩
        exact jss_one (js_ret (JV.je jv_bl fun H5 s5 => q H5 (eN4.trans (extN_same s5)) (hT4.ext s5)))
end
end K28
-- KD22
/-! KD22: what the recorder shows is what the law's entry tells. -/
namespace K28
open PySem PySem.Spec PyProof.Rows L2 LamX
def lastC (L : LE) : Int := L.cells.getLast?.getD 0
def pDue (L : LE) : List PyData := [pR (recL L), .int (lastC L), pI (namesL L), .list (L.busy.map pDo), .int (L.many : Nat)]
def spStands (K : PySem.W.Frag) : Sp := fun vs H Q _ => ∃ r R ve L, vs = [.ref r, ve] ∧ RecAt K H r R ∧ RdOk R ∧ LeAt K H ve L ∧ LOk L ∧ pShow R = pDue L ∧ Sz (.list (pDue L)) 4000000 10 ∧ ∀ H', Same H H' → Q (.bl true) H'
section
variable {P : Program} {w : World} {K : PySem.W.Frag} {mg : Str → Option Value} {base : Heap}
theorem S_law_stands : FnScope ["_law_live", "_law_entry", "_law_due", "_law_busy"] ["_law_live", "_law_entry"] (defScope s_law_stands) := ⟨rfl, rfl, rfl, by decide +kernel, rfl, by decide +kernel, by decide +kernel⟩
theorem sz_two {d : PyData} {n m : Nat} (z : Sz d n m) : Sz (.list [d, d]) ((n + 2) * 2 + 2) (m + 1) := sz_list (fun x hx => by
  rcases List.mem_cons.mp hx with e | e
  · rw [e]; exact z
  · rw [List.mem_singleton.mp e]; exact z) (by simp)
theorem g_law_stands (M : Mz P K mg) : FnG2 P w K mg base 9 "_law_stands" ["_law_live", "_law_entry"] (spStands K) := by
  refine fng2 M.d_law_stands S_law_stands (fun vs H Q E ⟨r, R, ve, L, h, _⟩ => by rw [h]; rfl) (fun f cdv A outer s H vs Q E hr hgd _ ⟨r, R, ve, L, e, hR, ok, hL, okL, hsh, hsz, q⟩ => ?_) (fun _ _ _ _ _ _ us hl => match us, hl with | [_, _], _ => rfl)
  subst e
  obtain ⟨a, ub, bw, br, uc, e, p⟩ := id hL
  subst e
  have hb6 := okL.bu
  have hwl := okL.wr
  have hcl := okL.ce
  have hnl := namesL_len okL
  refine jss_setL 2 S_law_stands.nd (ds := [pR (recL L), .int (lastC L), pI (namesL L)]) (jl_lst (jds_cons (jd_law_now (n := 7) M.toMo hr (jv_var 1 rfl) hL okL) (jds_cons ?_ (jds_cons (jd_tuple1 M.f_tuple (jl_sortedM rfl M.f_sorted (jm_ewrites hr (jv_var 1 rfl) p) (by omega)).jr.jd) jds_nil))) (small1 (by simp))) fun c1 vs1 H1 s1 hn1 hc1 hu1 => ?_
  · refine jd_if (p := !(L.cells.map PyData.int).isEmpty) (jb_fullT hr (jd_ecells hr (jv_var 1 rfl) p) (shaped_intsT L.cells)) (fun hb => ?_) fun hb => ?_
    · refine jd_ixT (jd_ecells hr (jv_var 1 rfl) p) (jd_neg jd_int) (atI_last ?_)
      unfold lastC
      cases e : L.cells.getLast? with
      | none =>
        rw [List.getLast?_eq_none_iff] at e
        rw [e] at hb
        cases hb
      | some z => rw [List.getLast?_map, e]; rfl
    · have e : lastC L = 0 := by
        unfold lastC
        cases e : L.cells with
        | nil => rfl
        | cons x l => rw [e] at hb; cases hb
      rw [e]
      exact jd_int
  have p1 := p.on s1
  refine jss_set 2 S_law_stands.nd (d := .list (pDue L)) ?_ fun u2 H2 s2 hu2 => ?_
  · show JD _ _ _ _ (.list ([pR (recL L), .int (lastC L), pI (namesL L)] ++ [.list (L.busy.map pDo), .int (L.many : Nat)]))
    refine (jl_cat (jr_var 2 rfl hc1 hu1) ?_ (small1 (by simp))).jd
    refine (jl_lst ?_ (small1 (by simp))).jr
    refine jds_cons ?_ (jds_cons (jv_emany hr (jv_var 1 rfl) p1).int jds_nil)
    refine JL.jd (jl_lc1 (xs := L.busy) (da := pB) (pr := fun _ => true) (r := pDo) 3 rfl S_law_stands.nd (blkOk_by (own := [("_law_busy", 3)]) rfl) (jdi_tup (jd_ebusy hr (jv_var 1 rfl) p1)) (small1 (by omega)) (by rw [List.filter_eq_self.mpr (fun _ _ => rfl)]) (fun b hb u H3 s3 hu3 s0 H0 C cl fp => ⟨jbs_nil, fun _ => ?_⟩) (hlf := fun b _ _ => by cases b <;> rfl))
    cases b with
    | free =>
      cases hu3
      exact jd_if (p := true) (by
        have e : decide (V.non = V.non) = true := by decide
        rw [← e]
        exact jb_isN (jv_var 3 rfl)) (fun _ => jd_non) fun h => nomatch h
    | wr n t =>
      have hun : decide (u = V.non) = false := by cases hu3; rfl
      exact jd_if (p := false) (by rw [← hun]; exact jb_isN (jv_var 3 rfl)) (fun h => nomatch h) fun _ => jd_ixT (jd_var 3 rfl hu3) jd_int atI0
    | rd t =>
      have hun : decide (u = V.non) = false := by cases hu3; rfl
      exact jd_if (p := false) (by rw [← hun]; exact jb_isN (jv_var 3 rfl)) (fun h => nomatch h) fun _ => jd_ixT (jd_var 3 rfl hu3) jd_int atI0
  have s02 := s1.trans s2
  have hR2 := hR.on s02
  have hz : ShOk (.list [.list (pDue L), .list (pDue L)]) := (sz_two hsz).ok
  refine jss_one (js_ret (JV.je (v := .bl true) ?_ fun H3 s3 => q H3 (s02.trans s3)))
  have e : V.bl true = V.bl (decide (V.str (PyData.list [.list (pDue L), .list (pDue L)]).shown = V.str (PyData.list [.list (pDue L), .list (pDue L)]).shown)) := by rw [decide_eq_true rfl]
  rw [e]
  have boot : bootBuiltins "repr" = some (.builtin "repr") := by decide +kernel
  refine jv_eqS (fun H3 s3 Q1 q1 => je_blt (call_reprD hr hgd M.sys) M.f_repr boot (ja_of (pa_cons pej pa_nil rfl) (JL.je (ds := [.list (pDue L), .list (pDue L)]) ((jl_lst (jds_cons ?_ (jds_cons ?_ jds_nil)) (small1 (by simp))).on s3) fun c vs H4 s4 hn hc hd => ⟨c, _, rfl, rp_dp _ _ (.lst (SqL.len hc) hd), hz, q1 H4 s4⟩))) (fun H3 s3 Q1 q1 => je_blt (call_reprD hr hgd M.sys) M.f_repr boot (ja_of (pa_cons pej pa_nil rfl) (JL.je (ds := [.list (pDue L), .list (pDue L)]) ((jl_lst (jds_cons (jd_var 2 rfl hu2) (jds_cons (jd_var 2 rfl hu2) jds_nil)) (small1 (by simp))).on s3) fun c vs H4 s4 hn hc hd => ⟨c, _, rfl, rp_dp _ _ (.lst (SqL.len hc) hd), hz, q1 H4 s4⟩))) rfl
  all_goals
    refine fun H4 s4 Q4 q4 => je_call (E := E0) (g_law_shows (P := P) (w := w) (base := base) M.toMx) hr passL (ja_of (pa_cons pej pa_nil rfl) (JV.je (jv_var 0 rfl) fun H5 s5 => ⟨r, R, rfl, hR2.on (s4.trans s5), ok, fun u H' s' hu => q4 u H' (s5.trans s') ?_⟩)) (by decide) rfl (by decide) rfl rfl
    rw [← hsh]
    exact hu
end
end K28
-- KCrowd
/-! KCrowd: the program's greatest crowd is the law's. Plain. -/
namespace K28
open PySem PySem.Spec PyProof.Rows L2
/-- a crowd: places in rising order, each two odd -/
def Clq (r : List Vl) (i : Nat) (c : List Nat) : Prop := c.Pairwise (fun a b => a < b ∧ lodd (at_ r a) (at_ r b) = true) ∧ ∀ a ∈ c, a < i
theorem fits_iff {r : List Vl} {u : Vl} {row : List Nat} : fits r u row = true ↔ ∀ a ∈ row, lodd (at_ r a) u = true := by
  unfold fits
  rw [List.all_eq_true]
theorem rows_clq (r : List Vl) : ∀ i, i ≤ r.length → ∀ row, row ∈ (crowdUpTo r i).1 ↔ Clq r i row
  | 0, _, row => by
    have e : (crowdUpTo r 0).1 = [[]] := rfl
    rw [e, List.mem_singleton]
    constructor
    · intro h
      subst h
      exact ⟨.nil, by simp⟩
    · intro h
      cases row with
      | nil => rfl
      | cons a l => exact absurd (h.2 a List.mem_cons_self) (by omega)
  | i + 1, h, row => by
    rw [crowd_succ (by omega)]
    have ih := rows_clq r i (by omega)
    show row ∈ (crowdUpTo r i).1 ++ later r (crowdUpTo r i).1 (at_ r i, i) ↔ _
    rw [List.mem_append, ih]
    constructor
    · rintro (k | k)
      · exact ⟨k.1, fun a ha => Nat.lt_succ_of_lt (k.2 a ha)⟩
      · obtain ⟨q, k1, k2⟩ := List.mem_map.mp k
        subst k2
        obtain ⟨k3, k4⟩ := List.mem_filter.mp k1
        have kc := (ih q).mp k3
        have kf := fits_iff.mp k4
        refine ⟨List.pairwise_append.mpr ⟨kc.1, by simp, fun a ha b hb => ?_⟩, fun a ha => ?_⟩
        · rw [List.mem_singleton.mp hb]
          exact ⟨kc.2 a ha, kf a ha⟩
        · rcases List.mem_append.mp ha with z | z
          · exact Nat.lt_succ_of_lt (kc.2 a z)
          · rw [List.mem_singleton.mp z]; exact Nat.lt_succ_self _
    · rintro ⟨k1, k2⟩
      rcases List.eq_nil_or_concat row with e | ⟨q, a, e⟩
      · subst e
        exact .inl ⟨.nil, by simp⟩
      · rw [List.concat_eq_append] at e
        subst e
        obtain ⟨p1, _, p3⟩ := List.pairwise_append.mp k1
        have ha := k2 a (List.mem_append_right _ List.mem_cons_self)
        by_cases z : a = i
        · subst z
          right
          exact List.mem_map.mpr ⟨q, List.mem_filter.mpr ⟨(ih q).mpr ⟨p1, fun b hb => (p3 b hb a List.mem_cons_self).1⟩, fits_iff.mpr fun b hb => (p3 b hb a List.mem_cons_self).2⟩, rfl⟩
        · left
          refine ⟨k1, fun b hb => ?_⟩
          rcases List.mem_append.mp hb with w | w
          · have := (p3 b w a List.mem_cons_self).1
            omega
          · rw [List.mem_singleton.mp w]; omega
theorem rows_best (r : List Vl) : ∀ i, i ≤ r.length → (∀ row ∈ (crowdUpTo r i).1, (row.length : Int) ≤ (crowdUpTo r i).2) ∧ ∃ row ∈ (crowdUpTo r i).1, (row.length : Int) = (crowdUpTo r i).2
  | 0, _ => ⟨fun row h => by
      have e : (crowdUpTo r 0).1 = [[]] := rfl
      rw [e, List.mem_singleton] at h
      rw [h]
      exact Int.le_refl 0, [], List.mem_cons_self, rfl⟩
  | i + 1, h => by
    obtain ⟨h1, row0, h2, h3⟩ := rows_best r i (by omega)
    rw [crowd_succ (by omega)]
    show (∀ row ∈ (crowdUpTo r i).1 ++ later r (crowdUpTo r i).1 (at_ r i, i), (row.length : Int) ≤ maxL (crowdUpTo r i).2 (lens (later r (crowdUpTo r i).1 (at_ r i, i)))) ∧ ∃ row ∈ (crowdUpTo r i).1 ++ later r (crowdUpTo r i).1 (at_ r i, i), (row.length : Int) = maxL (crowdUpTo r i).2 (lens (later r (crowdUpTo r i).1 (at_ r i, i)))
    obtain ⟨m1, m2, m3⟩ := maxL_ge (lens (later r (crowdUpTo r i).1 (at_ r i, i))) (crowdUpTo r i).2
    refine ⟨fun row hr => ?_, ?_⟩
    · rcases List.mem_append.mp hr with z | z
      · exact Int.le_trans (h1 row z) m1
      · exact m2 _ (List.mem_map.mpr ⟨row, z, rfl⟩)
    · rcases m3 with z | z
      · exact ⟨row0, List.mem_append_left _ h2, by rw [h3, z]⟩
      · obtain ⟨row, k1, k2⟩ := List.mem_map.mp z
        exact ⟨row, List.mem_append_right _ k1, k2⟩
theorem lawCrowd_eq (r : List Vl) : lawCrowd r = (crowdUpTo r r.length).2 := by unfold lawCrowd; rw [crowd_all]
theorem law_ge {r : List Vl} {c : List Nat} (h : Clq r r.length c) : (c.length : Int) ≤ lawCrowd r := by
  rw [lawCrowd_eq]
  exact (rows_best r r.length (Nat.le_refl _)).1 c ((rows_clq r r.length (Nat.le_refl _) c).mpr h)
theorem law_in (r : List Vl) : ∃ c, Clq r r.length c ∧ (c.length : Int) = lawCrowd r := by
  obtain ⟨_, c, h1, h2⟩ := rows_best r r.length (Nat.le_refl _)
  exact ⟨c, (rows_clq r r.length (Nat.le_refl _) c).mp h1, by rw [lawCrowd_eq]; exact h2⟩
theorem lodd_comm (v u : Vl) : lodd v u = lodd u v := by unfold lodd; rw [Bool.and_comm]
/-- places, each two odd, in any order -/
theorem clq_of {r : List Vl} {l : List Nat} (nd : l.Nodup) (hl : ∀ a ∈ l, a < r.length) (ho : ∀ a ∈ l, ∀ b ∈ l, a ≠ b → lodd (at_ r a) (at_ r b) = true) : (l.length : Int) ≤ lawCrowd r := by
  have p : (l.mergeSort fun a b => decide (a ≤ b)).Perm l := List.mergeSort_perm ..
  have hs := List.pairwise_mergeSort (le := fun (a b : Nat) => decide (a ≤ b)) (fun a b c h1 h2 => by simp only [decide_eq_true_eq] at *; omega) (fun a b => by simp only [Bool.or_eq_true, decide_eq_true_eq]; omega) l
  have nd2 := p.nodup_iff.mpr nd
  rw [← p.length_eq]
  refine law_ge ⟨?_, fun a ha => hl a (p.mem_iff.mp ha)⟩
  have both := List.Pairwise.and hs nd2
  refine List.Pairwise.imp_of_mem ?_ both
  intro a b ha hb k
  have k1 : a ≤ b := by simpa using k.1
  exact ⟨Nat.lt_of_le_of_ne k1 k.2, ho a (p.mem_iff.mp ha) b (p.mem_iff.mp hb) k.2⟩
theorem at_zip {r : List Vl} {v : Vl} {i : Nat} (h : (v, i) ∈ r.zipIdx) : v = at_ r i ∧ i < r.length := by
  have h1 := List.mem_zipIdx h
  simp at h1
  obtain ⟨h2, h3⟩ := h1
  refine ⟨?_, h2⟩
  unfold at_
  rw [List.getD_eq_getElem?_getD, List.getElem?_eq_getElem h2]
  exact h3
theorem mem_fwds {r : List Vl} {i : Nat} : i ∈ fwds r ↔ i < r.length ∧ fwd (at_ r i) = true := by
  unfold fwds
  constructor
  · intro h
    obtain ⟨⟨v, j⟩, h1, h2⟩ := List.mem_map.mp h
    have h2 : j = i := h2
    subst h2
    obtain ⟨h3, h4⟩ := List.mem_filter.mp h1
    obtain ⟨e, hl⟩ := at_zip h3
    exact ⟨hl, by rw [← e]; exact h4⟩
  · rintro ⟨h1, h2⟩
    refine List.mem_map.mpr ⟨(at_ r i, i), List.mem_filter.mpr ⟨?_, h2⟩, rfl⟩
    rw [List.mk_mem_zipIdx_iff_getElem?]
    unfold at_
    rw [List.getD_eq_getElem?_getD, List.getElem?_eq_getElem h1]
    rfl
theorem mem_bwds {r : List Vl} {i : Nat} : i ∈ bwds r ↔ i < r.length ∧ fwd (at_ r i) = false := by
  unfold bwds
  constructor
  · intro h
    obtain ⟨⟨v, j⟩, h1, h2⟩ := List.mem_map.mp h
    have h2 : j = i := h2
    subst h2
    obtain ⟨h3, h4⟩ := List.mem_filter.mp h1
    obtain ⟨e, hl⟩ := at_zip h3
    exact ⟨hl, by rw [← e]; simpa using h4⟩
  · rintro ⟨h1, h2⟩
    refine List.mem_map.mpr ⟨(at_ r i, i), List.mem_filter.mpr ⟨?_, by simpa using h2⟩, rfl⟩
    rw [List.mk_mem_zipIdx_iff_getElem?]
    unfold at_
    rw [List.getD_eq_getElem?_getD, List.getElem?_eq_getElem h1]
    rfl
theorem nodup_zip (l : List Vl) (p : Vl × Nat → Bool) (k : Nat) : (((l.zipIdx k).filter p).map (·.2)).Nodup := by
  refine List.Nodup.sublist ((List.filter_sublist).map _) ?_
  have e : ∀ (l : List Vl) k, (l.zipIdx k).map (·.2) = List.range' k l.length := fun l => by
    induction l with
    | nil => intro k; rfl
    | cons v l ih => intro k; rw [List.zipIdx_cons, List.map_cons, ih]; rfl
  rw [e]
  exact List.nodup_range'
theorem nodup_fwds (r : List Vl) : (fwds r).Nodup := nodup_zip r _ 0
theorem lodd_of {v u : Vl} (h1 : nr v < fr u) (h2 : nr u < fr v) : lodd v u = true := by unfold lodd; rw [decide_eq_true h1, decide_eq_true h2]; rfl
theorem lodd_to {v u : Vl} (h : lodd v u = true) : nr v < fr u ∧ nr u < fr v := by
  unfold lodd at h
  simpa using h
theorem fwd_iff {v : Vl} : fwd v = true ↔ nr v < fr v := by unfold fwd; simp
theorem bwd_iff {v : Vl} : fwd v = false ↔ fr v ≤ nr v := by unfold fwd; simp
theorem odd_to {r : List Vl} {i j : Nat} (h : odd r i j = true) : i ≠ j ∧ nr (at_ r i) < fr (at_ r j) ∧ nr (at_ r j) < fr (at_ r i) := by
  unfold odd forced at h
  simp at h
  exact ⟨h.1.1, h.1.2, h.2.2⟩
theorem odd_of {r : List Vl} {i j : Nat} (h0 : i ≠ j) (h : lodd (at_ r i) (at_ r j) = true) : odd r i j = true := by
  obtain ⟨h1, h2⟩ := lodd_to h
  unfold odd forced
  simp [h0, Ne.symm h0, h1, h2]
theorem law_nn (r : List Vl) : 0 ≤ lawCrowd r := by
  obtain ⟨c, _, h⟩ := law_in r
  omega
theorem crowd_le (r : List Vl) {s : Spot} (h : s ∈ spots r) : ((crowd r s).length : Int) ≤ lawCrowd r := by
  cases s with
  | gap t =>
    show ((((fwds r).filter fun i => decide (nr (at_ r i) ≤ t) && decide (t < fr (at_ r i))).map nI).length : Int) ≤ _
    rw [List.length_map]
    have key : ∀ a ∈ (fwds r).filter (fun i => decide (nr (at_ r i) ≤ t) && decide (t < fr (at_ r i))), a ∈ fwds r ∧ nr (at_ r a) ≤ t ∧ t < fr (at_ r a) := fun a ha => by
      obtain ⟨h1, h2⟩ := List.mem_filter.mp ha
      simp at h2
      exact ⟨h1, h2⟩
    refine clq_of ((nodup_fwds r).sublist List.filter_sublist) (fun a ha => (mem_fwds.mp (key a ha).1).1) fun a ha b hb _ => ?_
    have ka := (key a ha).2
    have kb := (key b hb).2
    exact lodd_of (Int.lt_of_le_of_lt ka.1 kb.2) (Int.lt_of_le_of_lt kb.1 ka.2)
  | zone i =>
    have hi : i ∈ bwds r := by
      unfold spots at h
      rcases List.mem_append.mp h with z | z
      · obtain ⟨_, _, e⟩ := List.mem_map.mp z; cases e
      · obtain ⟨j, hj, e⟩ := List.mem_map.mp z; cases e; exact hj
    obtain ⟨hil, hib⟩ := mem_bwds.mp hi
    have hb := bwd_iff.mp hib
    show ((srt ((i : Int) :: ((fwds r).filter fun j => odd r j i).map nI)).length : Int) ≤ _
    rw [srt_len, List.length_cons, List.length_map]
    have e : (((fwds r).filter fun j => odd r j i).length + 1) = (i :: (fwds r).filter fun j => odd r j i).length := rfl
    rw [e]
    have key : ∀ a ∈ (fwds r).filter (fun j => odd r j i), a ∈ fwds r ∧ a ≠ i ∧ nr (at_ r a) < fr (at_ r i) ∧ nr (at_ r i) < fr (at_ r a) := fun a ha => by
      obtain ⟨h1, h2⟩ := List.mem_filter.mp ha
      exact ⟨h1, odd_to h2⟩
    refine clq_of (List.nodup_cons.mpr ⟨fun z => (key i z).2.1 rfl, (nodup_fwds r).sublist List.filter_sublist⟩) (fun a ha => ?_) fun a ha b hb2 hab => ?_
    · rcases List.mem_cons.mp ha with z | z
      · rw [z]; exact hil
      · exact (mem_fwds.mp (key a z).1).1
    · rcases List.mem_cons.mp ha with za | za <;> rcases List.mem_cons.mp hb2 with zb | zb
      · exact absurd (za.trans zb.symm) hab
      · have k := (key b zb).2.2
        rw [za]
        exact lodd_of k.2 k.1
      · have k := (key a za).2.2
        rw [zb]
        exact lodd_of k.1 k.2
      · have k1 := (key a za).2.2
        have k2 := (key b zb).2.2
        exact lodd_of (by omega) (by omega)
theorem mem_addK {ks : List Int} {k x : Int} : x ∈ addK ks k ↔ x ∈ ks ∨ x = k := by
  unfold addK
  split
  · next h =>
    constructor
    · exact .inl
    · rintro (z | z)
      · exact z
      · rw [z]; exact h
  · simp
theorem mem_foldK {x : Int} : ∀ (l ks : List Int), x ∈ l.foldl addK ks ↔ x ∈ ks ∨ x ∈ l
  | [], ks => by simp
  | k :: l, ks => by
    rw [List.foldl_cons, mem_foldK l, mem_addK, List.mem_cons, or_assoc]
theorem mem_gaps {r : List Vl} {x : Int} : x ∈ gaps r ↔ ∃ i ∈ fwds r, nr (at_ r i) = x := by
  unfold gaps
  rw [(srt_perm _).mem_iff, mem_foldK]
  simp
theorem le_most (r : List Vl) {s : Spot} (h : s ∈ spots r) : ((crowd r s).length : Int) ≤ most r := by
  obtain ⟨_, k, _⟩ := maxL_ge ((crowds r).map fun c => (c.length : Int)) 0
  exact k _ (List.mem_map.mpr ⟨_, List.mem_map.mpr ⟨s, h, rfl⟩, rfl⟩)
theorem most_nn (r : List Vl) : 0 ≤ most r := by
  unfold most
  exact (maxL_ge _ 0).1
theorem max_nr {r : List Vl} : ∀ {c : List Nat}, c ≠ [] → ∃ g ∈ c, ∀ a ∈ c, nr (at_ r a) ≤ nr (at_ r g)
  | [], h => absurd rfl h
  | [a], _ => ⟨a, List.mem_cons_self, fun b hb => by rw [List.mem_singleton.mp hb]; exact Int.le_refl _⟩
  | a :: b :: l, _ => by
    obtain ⟨g, hg, k⟩ := max_nr (r := r) (c := b :: l) (by simp)
    by_cases e : nr (at_ r a) ≤ nr (at_ r g)
    · refine ⟨g, List.mem_cons_of_mem _ hg, fun x hx => ?_⟩
      rcases List.mem_cons.mp hx with z | z
      · rw [z]; exact e
      · exact k x z
    · refine ⟨a, List.mem_cons_self, fun x hx => ?_⟩
      rcases List.mem_cons.mp hx with z | z
      · rw [z]; exact Int.le_refl _
      · have := k x z; omega
theorem clq_pair {r : List Vl} {n : Nat} {c : List Nat} (h : Clq r n c) : c.Nodup ∧ (∀ a ∈ c, a < n) ∧ ∀ a ∈ c, ∀ b ∈ c, a ≠ b → lodd (at_ r a) (at_ r b) = true := by
  refine ⟨h.1.imp fun h => Nat.ne_of_lt h.1, h.2, ?_⟩
  have : ∀ c : List Nat, c.Pairwise (fun a b => a < b ∧ lodd (at_ r a) (at_ r b) = true) → ∀ a ∈ c, ∀ b ∈ c, a ≠ b → lodd (at_ r a) (at_ r b) = true := fun c => by
    induction c with
    | nil => intro _ a ha; cases ha
    | cons x c ih =>
      intro p a ha b hb hab
      obtain ⟨p1, p2⟩ := List.pairwise_cons.mp p
      rcases List.mem_cons.mp ha with za | za <;> rcases List.mem_cons.mp hb with zb | zb
      · exact absurd (za.trans zb.symm) hab
      · rw [za]; exact (p1 b zb).2
      · rw [zb, lodd_comm]; exact (p1 a za).2
      · exact ih p2 a za b zb hab
  exact this c h.1
theorem clq_le_most (r : List Vl) {c : List Nat} (h : Clq r r.length c) : (c.length : Int) ≤ most r := by
  obtain ⟨nd, hl, ho⟩ := clq_pair h
  by_cases hb : ∃ u ∈ c, fwd (at_ r u) = false
  · obtain ⟨u, hu, hub⟩ := hb
    have hbu := bwd_iff.mp hub
    have hs : Spot.zone u ∈ spots r := List.mem_append_right _ (List.mem_map.mpr ⟨u, mem_bwds.mpr ⟨hl u hu, hub⟩, rfl⟩)
    refine Int.le_trans ?_ (le_most r hs)
    show (c.length : Int) ≤ ((srt ((u : Int) :: ((fwds r).filter fun j => odd r j u).map nI)).length : Int)
    rw [srt_len, List.length_cons, List.length_map]
    have : c.length ≤ (u :: (fwds r).filter fun j => odd r j u).length := nd.length_le_of_subset fun a ha => by
      by_cases e : a = u
      · rw [e]; exact List.mem_cons_self
      · have k := ho a ha u hu e
        obtain ⟨k1, k2⟩ := lodd_to k
        exact List.mem_cons_of_mem _ (List.mem_filter.mpr ⟨mem_fwds.mpr ⟨hl a ha, fwd_iff.mpr (by omega)⟩, odd_of e k⟩)
    rw [List.length_cons] at this
    omega
  · have hf : ∀ a ∈ c, fwd (at_ r a) = true := fun a ha => by
      cases e : fwd (at_ r a) with
      | true => rfl
      | false => exact absurd ⟨a, ha, e⟩ hb
    cases c with
    | nil => exact most_nn r
    | cons x c =>
      obtain ⟨g, hg, hm⟩ := max_nr (r := r) (c := x :: c) (by simp)
      have hgf : g ∈ fwds r := mem_fwds.mpr ⟨hl g hg, hf g hg⟩
      have hs : Spot.gap (nr (at_ r g)) ∈ spots r := List.mem_append_left _ (List.mem_map.mpr ⟨_, mem_gaps.mpr ⟨g, hgf, rfl⟩, rfl⟩)
      refine Int.le_trans ?_ (le_most r hs)
      show ((x :: c).length : Int) ≤ ((((fwds r).filter fun i => decide (nr (at_ r i) ≤ nr (at_ r g)) && decide (nr (at_ r g) < fr (at_ r i))).map nI).length : Int)
      rw [List.length_map]
      have := nd.length_le_of_subset (l₂ := (fwds r).filter fun i => decide (nr (at_ r i) ≤ nr (at_ r g)) && decide (nr (at_ r g) < fr (at_ r i))) fun a ha => by
        refine List.mem_filter.mpr ⟨mem_fwds.mpr ⟨hl a ha, hf a ha⟩, ?_⟩
        have k1 := hm a ha
        have k2 : nr (at_ r g) < fr (at_ r a) := by
          by_cases e : a = g
          · rw [e]; exact fwd_iff.mp (hf g hg)
          · exact (lodd_to (ho a ha g hg e)).2
        simp [k1, k2]
      omega
theorem most_law (r : List Vl) : most r = lawCrowd r := by
  refine Int.le_antisymm ?_ ?_
  · obtain ⟨c, h1, h2⟩ := most_in r
    rw [← h2]
    rcases List.mem_cons.mp h1 with z | z
    · rw [z]; exact law_nn r
    · obtain ⟨s, h3, h4⟩ := List.mem_map.mp z
      rw [← h4]
      exact crowd_le r h3
  · obtain ⟨c, h1, h2⟩ := law_in r
    rw [← h2]
    exact clq_le_most r h1
/-! ### one value more, or one that has a read more or an end: never less, one more at most -/
theorem at_mapV {ns : List Int} {f : Int → Vl} {i : Nat} (h : i < ns.length) : at_ (ns.map f) i = f ns[i] := by
  unfold at_
  rw [List.getD_eq_getElem?_getD, List.getElem?_map, List.getElem?_eq_getElem h]
  rfl
theorem law_geN {ns : List Int} {f : Int → Vl} {l : List Int} (nd : l.Nodup) (hs : ∀ a ∈ l, a ∈ ns) (ho : ∀ a ∈ l, ∀ b ∈ l, a ≠ b → lodd (f a) (f b) = true) : (l.length : Int) ≤ lawCrowd (ns.map f) := by
  have ix : ∀ a ∈ l, ns.idxOf a < ns.length ∧ ns[ns.idxOf a]? = some a := fun a ha => by
    have h := List.idxOf_lt_length_iff.mpr (hs a ha)
    exact ⟨h, by rw [List.getElem?_eq_getElem h, List.getElem_idxOf h]⟩
  have e : ∀ a ∈ l, at_ (ns.map f) (ns.idxOf a) = f a := fun a ha => by
    obtain ⟨h1, h2⟩ := ix a ha
    rw [at_mapV h1, List.getElem_idxOf h1]
  have inj : ∀ a ∈ l, ∀ b ∈ l, ns.idxOf a = ns.idxOf b → a = b := fun a ha b hb h => by
    have h1 := (ix a ha).2
    have h2 := (ix b hb).2
    rw [h] at h1
    rw [h1] at h2
    exact Option.some.inj h2
  have := clq_of (r := ns.map f) (l := l.map fun a => ns.idxOf a) (List.pairwise_map.mpr (List.Pairwise.imp_of_mem (fun {a b} ha hb hab h => hab (inj a ha b hb h)) nd)) (fun i hi => by
    obtain ⟨a, ha, rfl⟩ := List.mem_map.mp hi
    rw [List.length_map]
    exact (ix a ha).1) fun i hi j hj hij => by
    obtain ⟨a, ha, rfl⟩ := List.mem_map.mp hi
    obtain ⟨b, hb, rfl⟩ := List.mem_map.mp hj
    rw [e a ha, e b hb]
    exact ho a ha b hb fun z => hij (by rw [z])
  rw [List.length_map] at this
  exact this
theorem law_inN {ns : List Int} (hn : ns.Nodup) (f : Int → Vl) : ∃ l : List Int, l.Nodup ∧ (∀ a ∈ l, a ∈ ns) ∧ (∀ a ∈ l, ∀ b ∈ l, a ≠ b → lodd (f a) (f b) = true) ∧ (l.length : Int) = lawCrowd (ns.map f) := by
  obtain ⟨c, h1, h2⟩ := law_in (ns.map f)
  obtain ⟨nd, hl, ho⟩ := clq_pair h1
  have hl : ∀ a ∈ c, a < ns.length := fun a ha => by have := hl a ha; rw [List.length_map] at this; exact this
  refine ⟨c.map fun i => ns.getD i 0, ?_, ?_, ?_, by rw [List.length_map]; exact h2⟩
  · refine List.pairwise_map.mpr (List.Pairwise.imp_of_mem (fun {a b} ha hb hab h => hab ?_) nd)
    have ha := hl a ha
    have hb := hl b hb
    rw [List.getD_eq_getElem?_getD, List.getD_eq_getElem?_getD, List.getElem?_eq_getElem ha, List.getElem?_eq_getElem hb] at h
    have h : ns[a] = ns[b] := h
    have h4 := hn.idxOf_getElem a ha
    rw [h, hn.idxOf_getElem b hb] at h4
    exact h4.symm
  · intro x hx
    obtain ⟨i, hi, rfl⟩ := List.mem_map.mp hx
    rw [List.getD_eq_getElem?_getD, List.getElem?_eq_getElem (hl i hi)]
    exact List.getElem_mem _
  · intro x hx y hy hxy
    obtain ⟨i, hi, rfl⟩ := List.mem_map.mp hx
    obtain ⟨j, hj, rfl⟩ := List.mem_map.mp hy
    have k := ho i hi j hj fun z => hxy (by rw [z])
    rw [at_mapV (hl i hi), at_mapV (hl j hj)] at k
    rw [List.getD_eq_getElem?_getD, List.getD_eq_getElem?_getD, List.getElem?_eq_getElem (hl i hi), List.getElem?_eq_getElem (hl j hj)]
    exact k
theorem law_grow {ns ms : List Int} (hn : ns.Nodup) (hm : ms.Nodup) {f g : Int → Vl} (n0 : Int) (h1 : ∀ n ∈ ns, n ∈ ms) (h2 : ∀ n ∈ ms, n ≠ n0 → n ∈ ns ∧ g n = f n) (h3 : ∀ n ∈ ns, nr (g n) ≤ nr (f n) ∧ fr (f n) ≤ fr (g n)) :
    lawCrowd (ns.map f) ≤ lawCrowd (ms.map g) ∧ lawCrowd (ms.map g) ≤ lawCrowd (ns.map f) + 1 := by
  constructor
  · obtain ⟨l, k1, k2, k3, k4⟩ := law_inN hn f
    rw [← k4]
    refine law_geN k1 (fun a ha => h1 a (k2 a ha)) fun a ha b hb hab => ?_
    obtain ⟨z1, z2⟩ := lodd_to (k3 a ha b hb hab)
    have ga := h3 a (k2 a ha)
    have gb := h3 b (k2 b hb)
    exact lodd_of (by omega) (by omega)
  · obtain ⟨l, k1, k2, k3, k4⟩ := law_inN hm g
    rw [← k4]
    have kk : ∀ a ∈ l.erase n0, a ∈ l ∧ a ≠ n0 := fun a ha => ⟨List.mem_of_mem_erase ha, fun z => by
      subst z
      exact (List.Nodup.not_mem_erase k1) ha⟩
    have := law_geN (ns := ns) (f := f) (l := l.erase n0) (k1.erase _) (fun a ha => (h2 a (k2 a (kk a ha).1) (kk a ha).2).1) fun a ha b hb hab => by
      have za := kk a ha
      have zb := kk b hb
      rw [← (h2 a (k2 a za.1) za.2).2, ← (h2 b (k2 b zb.1) zb.2).2]
      exact k3 a za.1 b zb.1 hab
    have hle : l.length ≤ (l.erase n0).length + 1 := by
      rw [List.length_erase]
      split <;> omega
    omega
end K28
-- KSim
/-! KSim: the law's entry goes beside the recorder. Plain. -/
namespace K28
open PySem PySem.Spec PyProof.Rows L2
structure Sim0 (R : RD) (L : LE) : Prop where
  bu : L.busy = R.cur.busy
  ky : keysM L.writes = keysM R.cur.begins
  wr : ∀ n, n ∈ keysM L.writes → getM L.writes n = some ((getM R.cur.begins n).getD 0, (getM R.cur.ends n).getD 1000000000)
  rd : L.reads = R.cur.reads
  mn : R.past.length = L.many + 1
  hd : ∃ S0 l, R.past = (S0, 0) :: l
  en : ∀ n, n ∉ keysM L.writes → getM R.cur.ends n = none
  bw : ∀ (i : Nat) n b, bzL L i = .wr n b → getM R.cur.begins n = some b
structure Sim (R : RD) (L : LE) : Prop extends Sim0 R L where
  ce : L.cells = R.manys
theorem Sim0.names {R : RD} {L : LE} (h : Sim0 R L) : namesL L = namesS R.cur := by unfold namesL namesS; rw [h.ky]
theorem mem_names {L : LE} {n : Int} (h : n ∈ namesL L) : n ∈ keysM L.writes := (srt_perm _).mem_iff.mp h
theorem Sim0.recd {R : RD} {L : LE} (h : Sim0 R L) : recL L = recS R.cur := by
  unfold recL recS
  rw [← h.names]
  refine List.map_congr_left fun n hn => ?_
  unfold recLV recV
  rw [h.wr n (mem_names hn), h.rd]
  rfl
theorem Sim0.now {R : RD} {L : LE} (h : Sim0 R L) : (R.now : Nat) = L.many := by unfold RD.now; rw [h.mn]; rfl
theorem Sim.few {R : RD} {L : LE} (h : Sim R L) : lastC L = R.few := by
  obtain ⟨S0, l, e⟩ := h.hd
  unfold lastC RD.few RD.last
  rw [h.ce]
  unfold RD.manys
  rw [e]
  cases l with
  | nil => rfl
  | cons x l =>
    rw [List.drop_one, List.tail_cons, List.getLast?_map, List.getLast?_cons_cons]
    cases z : (x :: l).getLast? with
    | none => simp at z
    | some y => rfl
theorem Sim.shows {R : RD} {L : LE} (h : Sim R L) : pShow R = pDue L := by
  unfold pShow pDue
  rw [h.recd, h.few, h.names, h.bu, h.now]
/-- what stands after a deed -/
def nextS (R : RD) : Dd → SD
  | .wr h n => begunS R.cur h (.w n) (R.now : Nat)
  | .rd h => begunS R.cur h .r (R.now : Nat)
  | .dw h => match bzAt R.cur h with
    | .wr n b => endedS R.cur h (.w n b) (R.now : Nat)
    | _ => R.cur
  | .dr h n => match bzAt R.cur h with
    | .rd b => endedS R.cur h (.r b n) (R.now : Nat)
    | _ => R.cur
theorem Sim0.bz {R : RD} {L : LE} (h : Sim0 R L) (i : Nat) : bzAt R.cur i = bzL L i := by unfold bzAt bzL; rw [h.bu]
theorem Sim0.idx {R : RD} {L : LE} (h : Sim0 R L) {i : Nat} (hi : i < L.busy.length) : idx R.cur (.int (i : Nat)) = some i := by
  have hi2 : i < R.cur.busy.length := by rw [← h.bu]; exact hi
  show (if 0 ≤ (i : Int) ∧ (i : Int) ≤ (R.cur.busy.length : Int) - 1 then some (i : Int).toNat else none) = some i
  rw [if_pos ⟨by omega, by omega⟩]
  rfl
theorem mem_getM {α : Type} {m : List (Int × α)} {n : Int} : getM m n = none ↔ n ∉ keysM m := by
  constructor
  · intro h hm
    obtain ⟨p, hp, e⟩ := List.mem_map.mp hm
    unfold getM at h
    rw [Option.map_eq_none_iff, List.find?_eq_none] at h
    exact h p hp (by simpa using e)
  · intro h
    unfold getM
    rw [Option.map_eq_none_iff, List.find?_eq_none]
    intro p hp z
    exact h (List.mem_map.mpr ⟨p, hp, by simpa using z⟩)
theorem Sim0.doA {R : RD} {L : LE} (h : Sim0 R L) {ns : List Int} {d : Dd} (D : DeedOk L ns d) (hn : ∀ n ∈ ns, 0 ≤ n ∧ n ≤ 11) : doA R d = .ok (nextS R d) := by
  cases d with
  | wr i n =>
    obtain ⟨h1, h2, h3, h4⟩ := D
    have hb : badName R.cur (.int n) = false := by
      have z : getM R.cur.begins n = none := mem_getM.mpr (by rw [← h.ky]; exact mem_getM.mp h4)
      unfold badName
      obtain ⟨n0, n1⟩ := hn n h3
      show (!(decide (0 ≤ n) && decide (n ≤ 11)) || (getM R.cur.begins n).isSome) = false
      rw [z, decide_eq_true n0, decide_eq_true n1]
      rfl
    show wrA R.cur (.int (i : Nat)) (.int n) (R.now : Nat) = _
    unfold wrA
    rw [h.idx h1]
    simp only [h.bz, h2, hb]
    rfl
  | rd i =>
    obtain ⟨h1, h2⟩ := D
    show rdA R.cur (.int (i : Nat)) (R.now : Nat) = _
    unfold rdA
    rw [h.idx h1]
    simp only [h.bz, h2]
    rfl
  | dw i =>
    obtain ⟨h1, n, b, h2⟩ := D
    show dnA R.cur (.int (i : Nat)) .non (R.now : Nat) = _
    unfold dnA nextS
    rw [h.idx h1]
    simp only [h.bz, h2]
    rfl
  | dr i n =>
    obtain ⟨h1, ⟨b, h2⟩, h3⟩ := D
    have hr : hasR R.cur (.int n) = true := by
      have k := List.mem_filter.mp h3
      have k1 := mem_names k.1
      have z : (getM R.cur.begins n).isSome = true := by
        cases e : getM R.cur.begins n with
        | some x => rfl
        | none =>
          rw [h.ky] at k1
          exact absurd k1 (mem_getM.mp e)
      have k2 := k.2
      rw [h.rd] at k2
      show ((getM R.cur.begins n).isSome && decide (((getM R.cur.reads n).getD []).length < 4)) = true
      rw [z, k2]
      rfl
    show dnA R.cur (.int (i : Nat)) (.int n) (R.now : Nat) = _
    unfold dnA nextS
    rw [h.idx h1]
    simp only [h.bz, h2, hr]
    rfl
theorem bzL_set {L : LE} {i j : Nat} {z : Bz} {l : List Bz} (hl : l = L.busy.set i z) (hi : i < L.busy.length) : l.getD j .free = if j = i then z else bzL L j := by
  subst hl
  unfold bzL
  by_cases e : j = i
  · subst e
    simp [List.getD, hi]
  · rw [if_neg e]
    simp [List.getD, List.getElem?_set_ne (Ne.symm e)]
theorem add_manys (R : RD) (S : SD) (ne : R.past ≠ []) : (R.add S).manys = R.manys ++ [most (recS S)] := by
  unfold RD.manys RD.add
  cases h : R.past with
  | nil => exact absurd h ne
  | cons x l => simp
theorem Sim0.step {R : RD} {L : LE} (h : Sim0 R L) {ns : List Int} {d : Dd} (D : DeedOk L ns d) : Sim0 (R.add (nextS R d)) (doneL L d) := by
  have hnow : ((R.now : Nat) : Int) = (L.many : Int) := by rw [h.now]
  have hne : R.past ≠ [] := by obtain ⟨S0, l, e⟩ := h.hd; rw [e]; simp
  have hhd : ∃ S0 l, (R.add (nextS R d)).past = (S0, 0) :: l := by
    obtain ⟨S0, l, e⟩ := h.hd
    exact ⟨S0, l ++ [(nextS R d, most (recS (nextS R d)))], by unfold RD.add; rw [e]; rfl⟩
  have hpl : (R.add (nextS R d)).past.length = L.many + 1 + 1 := by
    unfold RD.add
    simp [h.mn]
  cases d with
  | rd i =>
    obtain ⟨h1, h2⟩ := D
    refine ⟨?_, ?_, ?_, ?_, hpl, hhd, ?_, ?_⟩
    · rw [add_cur]; show L.busy.set i (.rd (L.many : Nat)) = R.cur.busy.set i (.rd (R.now : Nat)); rw [h.bu, hnow]
    · rw [add_cur]; exact h.ky
    · rw [add_cur]; exact h.wr
    · rw [add_cur]; exact h.rd
    · rw [add_cur]; exact h.en
    · rw [add_cur]
      intro j n b hj
      have hj2 := bzL_set (L := L) (i := i) (j := j) (z := .rd (L.many : Nat)) rfl h1
      have hj3 : (if j = i then Bz.rd (L.many : Nat) else bzL L j) = .wr n b := by rw [← hj2]; exact hj
      by_cases e : j = i
      · rw [if_pos e] at hj3; cases hj3
      · rw [if_neg e] at hj3; exact h.bw j n b hj3
  | wr i n =>
    obtain ⟨h1, h2, h3, h4⟩ := D
    have nk : n ∉ keysM L.writes := mem_getM.mp h4
    refine ⟨?_, ?_, ?_, ?_, hpl, hhd, ?_, ?_⟩
    · rw [add_cur]; show L.busy.set i (.wr n (L.many : Nat)) = R.cur.busy.set i (.wr n (R.now : Nat)); rw [h.bu, hnow]
    · rw [add_cur]
      show keysM (putM L.writes n ((L.many : Nat), 1000000000)) = keysM (putM R.cur.begins n (R.now : Nat))
      rw [keys_put, keys_put, h.ky]
    · rw [add_cur]
      intro m hm2
      show getM (putM L.writes n ((L.many : Nat), 1000000000)) m = some ((getM (putM R.cur.begins n (R.now : Nat)) m).getD 0, (getM R.cur.ends m).getD 1000000000)
      rw [getM_put, getM_put]
      by_cases e : m = n
      · rw [if_pos e, if_pos e, e, h.en n nk, hnow]
        rfl
      · rw [if_neg e, if_neg e]
        refine h.wr m ?_
        have hm3 : m ∈ keysM (putM L.writes n ((L.many : Nat), 1000000000)) := hm2
        rw [keys_put, if_neg nk, List.mem_append] at hm3
        exact hm3.resolve_right fun z => e (List.mem_singleton.mp z)
    · rw [add_cur]; exact h.rd
    · rw [add_cur]
      intro m hm2
      refine h.en m fun z => hm2 ?_
      show m ∈ keysM (putM L.writes n ((L.many : Nat), 1000000000))
      rw [keys_put, if_neg nk]
      exact List.mem_append_left _ z
    · rw [add_cur]
      intro j m b hj
      show getM (putM R.cur.begins n (R.now : Nat)) m = some b
      have hj2 := bzL_set (L := L) (i := i) (j := j) (z := .wr n (L.many : Nat)) rfl h1
      have hj3 : (if j = i then Bz.wr n (L.many : Nat) else bzL L j) = .wr m b := by rw [← hj2]; exact hj
      rw [getM_put]
      by_cases e : j = i
      · rw [if_pos e] at hj3
        cases hj3
        rw [if_pos rfl, hnow]
      · rw [if_neg e] at hj3
        have k := h.bw j m b hj3
        have mne : m ≠ n := fun z => by
          subst z
          have : getM R.cur.begins m = none := mem_getM.mpr (by rw [← h.ky]; exact nk)
          rw [this] at k
          cases k
        rw [if_neg mne]
        exact k
  | dw i =>
    obtain ⟨h1, n, b, h2⟩ := D
    have eL : stepL L (.dw i) = { L with busy := L.busy.set i .free, writes := putM L.writes n (b, (L.many : Nat)), many := L.many + 1 } := by simp only [stepL, h2]
    have eS : nextS R (.dw i) = endedS R.cur i (.w n b) (R.now : Nat) := by simp only [nextS, h.bz, h2]
    have kb := h.bw i n b h2
    have kn : n ∈ keysM L.writes := by
      rw [h.ky]
      apply Classical.byContradiction
      intro z
      rw [mem_getM.mpr z] at kb
      cases kb
    have ek : keysM (putM L.writes n (b, ((L.many : Nat) : Int))) = keysM L.writes := by rw [keys_put, if_pos kn]
    have hb2 : ∀ j, bzL (doneL L (.dw i)) j = if j = i then .free else bzL L j := fun j => by
      have := bzL_set (L := L) (i := i) (j := j) (z := .free) rfl h1
      rw [← this]
      unfold doneL
      rw [eL]
      rfl
    refine ⟨?_, ?_, ?_, ?_, ?_, hhd, ?_, ?_⟩
    · rw [add_cur, eS]; unfold doneL; rw [eL]; show L.busy.set i .free = R.cur.busy.set i .free; rw [h.bu]
    · rw [add_cur, eS]; unfold doneL; rw [eL]; show keysM (putM L.writes n _) = keysM R.cur.begins; rw [ek]; exact h.ky
    · rw [add_cur, eS]; unfold doneL; rw [eL]
      intro m hm2
      have hm3 : m ∈ keysM L.writes := by rw [← ek]; exact hm2
      show getM (putM L.writes n (b, ((L.many : Nat) : Int))) m = some ((getM R.cur.begins m).getD 0, (getM (putM R.cur.ends n (R.now : Nat)) m).getD 1000000000)
      rw [getM_put, getM_put]
      by_cases e : m = n
      · rw [if_pos e, if_pos e, e, kb, hnow]; rfl
      · rw [if_neg e, if_neg e]; exact h.wr m hm3
    · rw [add_cur, eS]; unfold doneL; rw [eL]; exact h.rd
    · unfold doneL; rw [eL]; exact hpl
    · rw [add_cur, eS]; unfold doneL; rw [eL]
      intro m hm2
      have hm3 : m ∉ keysM L.writes := by rw [← ek]; exact hm2
      show getM (putM R.cur.ends n (R.now : Nat)) m = none
      rw [getM_put, if_neg fun z => hm3 (by rw [z]; exact kn)]
      exact h.en m hm3
    · rw [add_cur, eS]
      intro j m b' hj
      rw [hb2] at hj
      by_cases e : j = i
      · rw [if_pos e] at hj; cases hj
      · rw [if_neg e] at hj; exact h.bw j m b' hj
  | dr i n =>
    obtain ⟨h1, ⟨b, h2⟩, h3⟩ := D
    have eL : stepL L (.dr i n) = { L with busy := L.busy.set i .free, reads := putM L.reads n ((getM L.reads n).getD [] ++ [(b, ((L.many : Nat) : Int))]), many := L.many + 1 } := by simp only [stepL, h2]
    have eS : nextS R (.dr i n) = endedS R.cur i (.r b n) (R.now : Nat) := by simp only [nextS, h.bz, h2]
    have hb2 : ∀ j, bzL (doneL L (.dr i n)) j = if j = i then .free else bzL L j := fun j => by
      have := bzL_set (L := L) (i := i) (j := j) (z := .free) rfl h1
      rw [← this]
      unfold doneL
      rw [eL]
      rfl
    refine ⟨?_, ?_, ?_, ?_, ?_, hhd, ?_, ?_⟩
    · rw [add_cur, eS]; unfold doneL; rw [eL]; show L.busy.set i .free = R.cur.busy.set i .free; rw [h.bu]
    · rw [add_cur, eS]; unfold doneL; rw [eL]; exact h.ky
    · rw [add_cur, eS]; unfold doneL; rw [eL]; exact h.wr
    · rw [add_cur, eS]; unfold doneL; rw [eL]
      show putM L.reads n ((getM L.reads n).getD [] ++ [(b, ((L.many : Nat) : Int))]) = putM R.cur.reads n ((getM R.cur.reads n).getD [] ++ [(b, ((R.now : Nat) : Int))])
      rw [h.rd, hnow]
    · unfold doneL; rw [eL]; exact hpl
    · rw [add_cur, eS]; unfold doneL; rw [eL]; exact h.en
    · rw [add_cur, eS]
      intro j m b' hj
      rw [hb2] at hj
      by_cases e : j = i
      · rw [if_pos e] at hj; cases hj
      · rw [if_neg e] at hj; exact h.bw j m b' hj
/-- what the recorder's record is after a deed -/
theorem Sim0.recN {R : RD} {L : LE} (h : Sim0 R L) {ns : List Int} {d : Dd} (D : DeedOk L ns d) : recL (stepL L d) = recS (nextS R d) := by
  have := (h.step D).recd
  rw [add_cur] at this
  exact this
theorem Sim.most {R : RD} {L : LE} (h : Sim0 R L) {ns : List Int} {d : Dd} (D : DeedOk L ns d) : most (recS (nextS R d)) = lawCrowd (recL (stepL L d)) := by rw [most_law, h.recN D]
theorem Sim.step {R : RD} {L : LE} (h : Sim R L) {ns : List Int} {d : Dd} (D : DeedOk L ns d) : Sim (R.add (nextS R d)) (doneL L d) := by
  refine ⟨h.toSim0.step D, ?_⟩
  have hne : R.past ≠ [] := by obtain ⟨S0, l, e⟩ := h.hd; rw [e]; simp
  rw [add_manys _ _ hne, Sim.most h.toSim0 D, ← h.ce]
  rfl
end K28
-- KInv
/-! KInv: what holds of the law's entry after each deed; bounds. Plain. -/
namespace K28
open PySem PySem.Spec PyProof.Rows L2
def okP (p : Pr) : Prop := 0 ≤ p.1 ∧ p.1 ≤ 1000000000 ∧ 0 ≤ p.2 ∧ p.2 ≤ 1000000000
structure LI0 (L : LE) (ns : List Int) : Prop where
  wn : (keysM L.writes).Nodup
  ws : ∀ n ∈ keysM L.writes, n ∈ ns
  rn : (keysM L.reads).Nodup
  rs : ∀ n ∈ keysM L.reads, n ∈ keysM L.writes
  r4 : ∀ n l, getM L.reads n = some l → l.length ≤ 4
  bk : ∀ i n b, bzL L i = .wr n b → getM L.writes n = some (b, 1000000000) ∧ 0 ≤ b ∧ b ≤ L.many
  b1 : ∀ i j n b c, bzL L i = .wr n b → bzL L j = .wr n c → i = j
  br : ∀ i b, bzL L i = .rd b → 0 ≤ b ∧ b < L.many
  wb : ∀ n p, getM L.writes n = some p → okP p
  rb : ∀ n l, getM L.reads n = some l → ∀ p ∈ l, okP p
  mb : L.many ≤ 900
theorem nodup_put {α : Type} {m : List (Int × α)} {n : Int} {x : α} (h : (keysM m).Nodup) : (keysM (putM m n x)).Nodup := by
  rw [keys_put]
  split
  · exact h
  · next z =>
    refine List.nodup_append.mpr ⟨h, by simp, fun a ha b hb e => z ?_⟩
    rw [List.mem_singleton.mp hb] at e
    rw [← e]
    exact ha
theorem mem_put {α : Type} {m : List (Int × α)} {n k : Int} {x : α} : k ∈ keysM (putM m n x) ↔ k ∈ keysM m ∨ k = n := by
  rw [keys_put]
  split
  · next h =>
    constructor
    · exact .inl
    · rintro (z | z)
      · exact z
      · rw [z]; exact h
  · simp
theorem mem_of_some {α : Type} {m : List (Int × α)} {n : Int} {x : α} (h : getM m n = some x) : n ∈ keysM m := getM_some.mp (by rw [h]; rfl)
section
variable {L : LE} {ns : List Int}
theorem LI0.step (h : LI0 L ns) {d : Dd} (D : DeedOk L ns d) (hm : L.many < 900) : LI0 (stepL L d) ns := by
  cases d with
  | rd i =>
    obtain ⟨h1, h2⟩ := D
    have hb : ∀ j, bzL (stepL L (.rd i)) j = if j = i then .rd (L.many : Nat) else bzL L j := fun j => bzL_set (L := L) (i := i) (j := j) (z := .rd (L.many : Nat)) rfl h1
    refine ⟨h.wn, h.ws, h.rn, h.rs, h.r4, fun j n b hj => ?_, fun j k n b c hj hk => ?_, fun j b hj => ?_, h.wb, h.rb, by show L.many + 1 ≤ 900; omega⟩
    · rw [hb] at hj
      by_cases e : j = i
      · rw [if_pos e] at hj; cases hj
      · rw [if_neg e] at hj
        obtain ⟨a1, a2, a3⟩ := h.bk j n b hj
        exact ⟨a1, a2, by show b ≤ ((L.many + 1 : Nat) : Int); omega⟩
    · rw [hb] at hj hk
      by_cases e : j = i
      · rw [if_pos e] at hj; cases hj
      · by_cases e2 : k = i
        · rw [if_pos e2] at hk; cases hk
        · rw [if_neg e] at hj; rw [if_neg e2] at hk
          exact h.b1 j k n b c hj hk
    · rw [hb] at hj
      show _ ∧ b < ((L.many + 1 : Nat) : Int)
      by_cases e : j = i
      · rw [if_pos e] at hj
        cases hj
        omega
      · rw [if_neg e] at hj
        have := h.br j b hj
        omega
  | wr i n =>
    obtain ⟨h1, h2, h3, h4⟩ := D
    have nk : n ∉ keysM L.writes := mem_getM.mp h4
    have hb : ∀ j, bzL (stepL L (.wr i n)) j = if j = i then .wr n (L.many : Nat) else bzL L j := fun j => bzL_set (L := L) (i := i) (j := j) (z := .wr n (L.many : Nat)) rfl h1
    have nn : ∀ j b, bzL L j ≠ .wr n b := fun j b hj => nk (mem_of_some (h.bk j n b hj).1)
    refine ⟨nodup_put h.wn, fun k hk => ?_, h.rn, fun k hk => mem_put.mpr (.inl (h.rs k hk)), h.r4, fun j m b hj => ?_, fun j k m b c hj hk => ?_, fun j b hj => ?_, fun m p hp => ?_, h.rb, by show L.many + 1 ≤ 900; omega⟩
    · rcases mem_put.mp hk with z | z
      · exact h.ws k z
      · rw [z]; exact h3
    · rw [hb] at hj
      show getM (putM L.writes n ((L.many : Nat), 1000000000)) m = _ ∧ _ ∧ b ≤ ((L.many + 1 : Nat) : Int)
      rw [getM_put]
      by_cases e : j = i
      · rw [if_pos e] at hj
        cases hj
        rw [if_pos rfl]
        exact ⟨rfl, by omega, by omega⟩
      · rw [if_neg e] at hj
        obtain ⟨a1, a2, a3⟩ := h.bk j m b hj
        rw [if_neg fun z => nn j b (by rw [← z]; exact hj)]
        exact ⟨a1, a2, by omega⟩
    · rw [hb] at hj hk
      by_cases e : j = i
      · by_cases e2 : k = i
        · rw [e, e2]
        · rw [if_pos e] at hj; rw [if_neg e2] at hk
          cases hj
          exact absurd hk (nn k c)
      · by_cases e2 : k = i
        · rw [if_neg e] at hj; rw [if_pos e2] at hk
          cases hk
          exact absurd hj (nn j b)
        · rw [if_neg e] at hj; rw [if_neg e2] at hk
          exact h.b1 j k m b c hj hk
    · rw [hb] at hj
      show _ ∧ b < ((L.many + 1 : Nat) : Int)
      by_cases e : j = i
      · rw [if_pos e] at hj; cases hj
      · rw [if_neg e] at hj
        have := h.br j b hj
        omega
    · have hp : getM (putM L.writes n (((L.many : Nat) : Int), 1000000000)) m = some p := hp
      rw [getM_put] at hp
      by_cases e : m = n
      · rw [if_pos e] at hp
        cases hp
        refine ⟨?_, ?_, ?_, ?_⟩ <;> show (_ : Int) ≤ _ <;> omega
      · rw [if_neg e] at hp
        exact h.wb m p hp
  | dw i =>
    obtain ⟨h1, n, b0, h2⟩ := D
    obtain ⟨k1, k2, k3⟩ := h.bk i n b0 h2
    have kn := mem_of_some k1
    have eL : stepL L (.dw i) = { L with busy := L.busy.set i .free, writes := putM L.writes n (b0, (L.many : Nat)), many := L.many + 1 } := by simp only [stepL, h2]
    rw [eL]
    have hb : ∀ j, bzL { L with busy := L.busy.set i .free, writes := putM L.writes n (b0, ((L.many : Nat) : Int)), many := L.many + 1 } j = if j = i then .free else bzL L j := fun j => bzL_set (L := L) (i := i) (j := j) (z := .free) rfl h1
    refine ⟨nodup_put h.wn, fun k hk => ?_, h.rn, fun k hk => mem_put.mpr (.inl (h.rs k hk)), h.r4, fun j m b hj => ?_, fun j k m b c hj hk => ?_, fun j b hj => ?_, fun m p hp => ?_, h.rb, by show L.many + 1 ≤ 900; omega⟩
    · rcases mem_put.mp hk with z | z
      · exact h.ws k z
      · rw [z]; exact h.ws n kn
    · rw [hb] at hj
      by_cases e : j = i
      · rw [if_pos e] at hj; cases hj
      · rw [if_neg e] at hj
        obtain ⟨a1, a2, a3⟩ := h.bk j m b hj
        show getM (putM L.writes n (b0, (L.many : Nat))) m = _ ∧ _ ∧ b ≤ ((L.many + 1 : Nat) : Int)
        rw [getM_put, if_neg fun z => e (h.b1 j i n b b0 (by rw [← z]; exact hj) h2)]
        exact ⟨a1, a2, by omega⟩
    · rw [hb] at hj hk
      by_cases e : j = i
      · rw [if_pos e] at hj; cases hj
      · by_cases e2 : k = i
        · rw [if_pos e2] at hk; cases hk
        · rw [if_neg e] at hj; rw [if_neg e2] at hk
          exact h.b1 j k m b c hj hk
    · rw [hb] at hj
      show _ ∧ b < ((L.many + 1 : Nat) : Int)
      by_cases e : j = i
      · rw [if_pos e] at hj; cases hj
      · rw [if_neg e] at hj
        have := h.br j b hj
        omega
    · have hp : getM (putM L.writes n (b0, ((L.many : Nat) : Int))) m = some p := hp
      rw [getM_put] at hp
      by_cases e : m = n
      · rw [if_pos e] at hp
        cases hp
        refine ⟨?_, ?_, ?_, ?_⟩ <;> show (_ : Int) ≤ _ <;> omega
      · rw [if_neg e] at hp
        exact h.wb m p hp
  | dr i n =>
    obtain ⟨h1, ⟨b0, h2⟩, h3⟩ := D
    have k2 := h.br i b0 h2
    obtain ⟨m1, m2⟩ := List.mem_filter.mp h3
    have m2 : ((getM L.reads n).getD []).length < 4 := by simpa using m2
    have eL : stepL L (.dr i n) = { L with busy := L.busy.set i .free, reads := putM L.reads n ((getM L.reads n).getD [] ++ [(b0, ((L.many : Nat) : Int))]), many := L.many + 1 } := by simp only [stepL, h2]
    rw [eL]
    have hb : ∀ j, bzL { L with busy := L.busy.set i .free, reads := putM L.reads n ((getM L.reads n).getD [] ++ [(b0, ((L.many : Nat) : Int))]), many := L.many + 1 } j = if j = i then .free else bzL L j := fun j => bzL_set (L := L) (i := i) (j := j) (z := .free) rfl h1
    refine ⟨h.wn, h.ws, nodup_put h.rn, fun k hk => ?_, fun m l hl => ?_, fun j m b hj => ?_, fun j k m b c hj hk => ?_, fun j b hj => ?_, h.wb, fun m l hl p hp => ?_, by show L.many + 1 ≤ 900; omega⟩
    · rcases mem_put.mp hk with z | z
      · exact h.rs k z
      · rw [z]; exact mem_names m1
    · have hl : getM (putM L.reads n ((getM L.reads n).getD [] ++ [(b0, ((L.many : Nat) : Int))])) m = some l := hl
      rw [getM_put] at hl
      by_cases e : m = n
      · rw [if_pos e] at hl
        cases hl
        rw [List.length_append, List.length_singleton]
        omega
      · rw [if_neg e] at hl
        exact h.r4 m l hl
    · rw [hb] at hj
      by_cases e : j = i
      · rw [if_pos e] at hj; cases hj
      · rw [if_neg e] at hj
        obtain ⟨a1, a2, a3⟩ := h.bk j m b hj
        exact ⟨a1, a2, by show b ≤ ((L.many + 1 : Nat) : Int); omega⟩
    · rw [hb] at hj hk
      by_cases e : j = i
      · rw [if_pos e] at hj; cases hj
      · by_cases e2 : k = i
        · rw [if_pos e2] at hk; cases hk
        · rw [if_neg e] at hj; rw [if_neg e2] at hk
          exact h.b1 j k m b c hj hk
    · rw [hb] at hj
      show _ ∧ b < ((L.many + 1 : Nat) : Int)
      by_cases e : j = i
      · rw [if_pos e] at hj; cases hj
      · rw [if_neg e] at hj
        have := h.br j b hj
        omega
    · have hl : getM (putM L.reads n ((getM L.reads n).getD [] ++ [(b0, ((L.many : Nat) : Int))])) m = some l := hl
      rw [getM_put] at hl
      by_cases e : m = n
      · rw [if_pos e] at hl
        cases hl
        rcases List.mem_append.mp hp with z | z
        · cases q : getM L.reads n with
          | none => rw [q] at z; cases z
          | some l => rw [q] at z; exact h.rb n l q p z
        · rw [List.mem_singleton.mp z]
          have hmb := h.mb
          refine ⟨?_, ?_, ?_, ?_⟩ <;> show (_ : Int) ≤ _ <;> omega
      · rw [if_neg e] at hl
        exact h.rb m l hl p hp
/-! ### never less, one more at most -/
theorem minL_ge {m k : Int} {l : List Int} (h : ∀ y ∈ m :: l, k ≤ y) : k ≤ minL m l := by
  obtain ⟨_, _, c⟩ := minL_le l m
  rcases c with c | c
  · rw [c]; exact h _ List.mem_cons_self
  · exact h _ (List.mem_cons_of_mem _ c)
theorem maxL_le {m k : Int} {l : List Int} (h : ∀ y ∈ m :: l, y ≤ k) : maxL m l ≤ k := by
  obtain ⟨_, _, c⟩ := maxL_ge l m
  rcases c with c | c
  · rw [c]; exact h _ List.mem_cons_self
  · exact h _ (List.mem_cons_of_mem _ c)
theorem nr_end {b e e' : Int} {l : List Pr} (h : e' ≤ e) : nr ((b, e'), l) ≤ nr ((b, e), l) := by
  unfold nr
  obtain ⟨a1, a2, _⟩ := minL_le (l.map (·.2)) e'
  exact minL_ge fun y hy => by
    rcases List.mem_cons.mp hy with z | z
    · rw [z]; exact Int.le_trans a1 h
    · exact a2 y z
theorem nr_more {w : Pr} {l : List Pr} (p : Pr) : nr (w, l ++ [p]) ≤ nr (w, l) := by
  unfold nr
  obtain ⟨a1, a2, _⟩ := minL_le ((l ++ [p]).map (·.2)) w.2
  exact minL_ge fun y hy => by
    rcases List.mem_cons.mp hy with z | z
    · rw [z]; exact a1
    · exact a2 y (by rw [List.map_append]; exact List.mem_append_left _ z)
theorem fr_more {w : Pr} {l : List Pr} (p : Pr) : fr (w, l) ≤ fr (w, l ++ [p]) := by
  unfold fr
  obtain ⟨a1, a2, _⟩ := maxL_ge ((l ++ [p]).map (·.1)) w.1
  exact maxL_le fun y hy => by
    rcases List.mem_cons.mp hy with z | z
    · rw [z]; exact a1
    · exact a2 y (by rw [List.map_append]; exact List.mem_append_left _ z)
theorem names_nd (h : LI0 L ns) : (namesL L).Nodup := (srt_perm _).nodup_iff.mpr h.wn
theorem in_names {n : Int} (h : n ∈ keysM L.writes) : n ∈ namesL L := (srt_perm _).mem_iff.mpr h
theorem LI0.grow (h : LI0 L ns) {d : Dd} (D : DeedOk L ns d) (hm : L.many < 900) : lawCrowd (recL L) ≤ lawCrowd (recL (stepL L d)) ∧ lawCrowd (recL (stepL L d)) ≤ lawCrowd (recL L) + 1 := by
  have h' := h.step D hm
  have nd := names_nd h
  have nd' := names_nd h'
  cases d with
  | rd i =>
    have : recL (stepL L (.rd i)) = recL L := rfl
    rw [this]
    omega
  | wr i n =>
    obtain ⟨h1, h2, h3, h4⟩ := D
    have nk : n ∉ keysM L.writes := mem_getM.mp h4
    refine law_grow nd nd' n (fun k hk => in_names (mem_put.mpr (.inl (mem_names hk)))) (fun k hk hkn => ?_) fun k hk => ?_
    · refine ⟨in_names ((mem_put.mp (mem_names hk)).resolve_right hkn), ?_⟩
      show ((getM (putM L.writes n _) k).getD (0, 0), _) = ((getM L.writes k).getD (0, 0), _)
      rw [getM_put, if_neg hkn]
      rfl
    · have e : recLV (stepL L (.wr i n)) k = recLV L k := by
        show ((getM (putM L.writes n _) k).getD (0, 0), _) = ((getM L.writes k).getD (0, 0), _)
        rw [getM_put, if_neg fun z => nk (by rw [← z]; exact mem_names hk)]
        rfl
      rw [e]
      omega
  | dw i =>
    obtain ⟨h1, n, b0, h2⟩ := D
    obtain ⟨k1, k2, k3⟩ := h.bk i n b0 h2
    have kn := mem_of_some k1
    have eL : stepL L (.dw i) = { L with busy := L.busy.set i .free, writes := putM L.writes n (b0, (L.many : Nat)), many := L.many + 1 } := by simp only [stepL, h2]
    rw [eL] at nd' ⊢
    refine law_grow nd nd' n (fun k hk => in_names (mem_put.mpr (.inl (mem_names hk)))) (fun k hk hkn => ?_) fun k hk => ?_
    · refine ⟨in_names ((mem_put.mp (mem_names hk)).resolve_right hkn), ?_⟩
      show ((getM (putM L.writes n _) k).getD (0, 0), _) = ((getM L.writes k).getD (0, 0), _)
      rw [getM_put, if_neg hkn]
    · show nr ((getM (putM L.writes n (b0, ((L.many : Nat) : Int))) k).getD (0, 0), (getM L.reads k).getD []) ≤ nr (recLV L k) ∧ fr (recLV L k) ≤ fr ((getM (putM L.writes n (b0, ((L.many : Nat) : Int))) k).getD (0, 0), (getM L.reads k).getD [])
      rw [getM_put]
      unfold recLV
      by_cases e : k = n
      · rw [if_pos e, e, k1]
        exact ⟨nr_end (by show ((L.many : Nat) : Int) ≤ 1000000000; omega), Int.le_refl _⟩
      · rw [if_neg e]
        exact ⟨Int.le_refl _, Int.le_refl _⟩
  | dr i n =>
    obtain ⟨h1, ⟨b0, h2⟩, h3⟩ := D
    have eL : stepL L (.dr i n) = { L with busy := L.busy.set i .free, reads := putM L.reads n ((getM L.reads n).getD [] ++ [(b0, ((L.many : Nat) : Int))]), many := L.many + 1 } := by simp only [stepL, h2]
    rw [eL] at nd' ⊢
    refine law_grow nd nd' n (fun k hk => hk) (fun k hk hkn => ⟨hk, ?_⟩) fun k hk => ?_
    · show (_, (getM (putM L.reads n _) k).getD []) = (_, (getM L.reads k).getD [])
      rw [getM_put, if_neg hkn]
    · show nr ((getM L.writes k).getD (0, 0), (getM (putM L.reads n ((getM L.reads n).getD [] ++ [(b0, ((L.many : Nat) : Int))])) k).getD []) ≤ nr (recLV L k) ∧ fr (recLV L k) ≤ fr ((getM L.writes k).getD (0, 0), (getM (putM L.reads n ((getM L.reads n).getD [] ++ [(b0, ((L.many : Nat) : Int))])) k).getD [])
      rw [getM_put]
      unfold recLV
      by_cases e : k = n
      · rw [if_pos e, e]
        exact ⟨nr_more _, fr_more _⟩
      · rw [if_neg e]
        exact ⟨Int.le_refl _, Int.le_refl _⟩
/-! ### all that holds -/
structure LI (L : LE) (ns : List Int) : Prop extends LI0 L ns where
  cl : L.cells.length = L.many
  cb : ∀ c ∈ L.cells, 0 ≤ c ∧ c ≤ 12
  lc : lastC L = lawCrowd (recL L)
theorem LI0.cells {cs : List Int} (h : LI0 L ns) : LI0 { L with cells := cs } ns := ⟨h.wn, h.ws, h.rn, h.rs, h.r4, h.bk, h.b1, h.br, h.wb, h.rb, h.mb⟩
theorem law_le (r : List Vl) : lawCrowd r ≤ (r.length : Int) := by
  obtain ⟨c, h1, h2⟩ := law_in r
  obtain ⟨nd, hl, _⟩ := clq_pair h1
  have := nd.length_le_of_subset (l₂ := List.range r.length) fun a ha => List.mem_range.mpr (hl a ha)
  rw [List.length_range] at this
  omega
theorem LI0.six (h : LI0 L ns) (h6 : ns.length ≤ 6) : (keysM L.writes).length ≤ 6 ∧ (keysM L.reads).length ≤ 6 := by
  have h1 := h.wn.length_le_of_subset (l₂ := ns) fun a ha => h.ws a ha
  have h2 := h.rn.length_le_of_subset (l₂ := keysM L.writes) fun a ha => h.rs a ha
  omega
theorem recL_len : (recL L).length = (keysM L.writes).length := by unfold recL namesL; rw [List.length_map, srt_len]
theorem LI.step (h : LI L ns) {d : Dd} (D : DeedOk L ns d) (hm : L.many < 900) (h6 : ns.length ≤ 6) : LI (doneL L d) ns := by
  have h0 := h.toLI0.step D hm
  have hl := law_le (recL (stepL L d))
  have hn := law_nn (recL (stepL L d))
  have h66 := (h0.six h6).1
  rw [recL_len] at hl
  refine ⟨h0.cells, ?_, fun c hc => ?_, ?_⟩
  · have e : (doneL L d).many = L.many + 1 := by
      cases d with
      | rd i => rfl
      | wr i n => rfl
      | dw i =>
        obtain ⟨h1, n, b0, h2⟩ := D
        simp only [doneL, stepL, h2]
      | dr i n =>
        obtain ⟨h1, ⟨b0, h2⟩, h3⟩ := D
        simp only [doneL, stepL, h2]
    rw [e]
    show (L.cells ++ [lawCrowd (recL (stepL L d))]).length = _
    rw [List.length_append, h.cl]
    rfl
  · rcases List.mem_append.mp hc with z | z
    · exact h.cb c z
    · rw [List.mem_singleton.mp z]
      omega
  · show (L.cells ++ [lawCrowd (recL (stepL L d))]).getLast?.getD 0 = lawCrowd (recL (doneL L d))
    rw [List.getLast?_concat]
    rfl
theorem doneL_many {d : Dd} (D : DeedOk L ns d) : (doneL L d).many = L.many + 1 := by
  cases d with
  | rd i => rfl
  | wr i n => rfl
  | dw i =>
    obtain ⟨h1, n, b0, h2⟩ := D
    simp only [doneL, stepL, h2]
  | dr i n =>
    obtain ⟨h1, ⟨b0, h2⟩, h3⟩ := D
    simp only [doneL, stepL, h2]
theorem doneL_busy {d : Dd} : (doneL L d).busy.length = L.busy.length := by
  cases d with
  | rd i => exact List.length_set ..
  | wr i n => exact List.length_set ..
  | dw i =>
    cases e : bzL L i <;> simp only [doneL, stepL, e, List.length_set]
  | dr i n =>
    cases e : bzL L i <;> simp only [doneL, stepL, e, List.length_set]
theorem LI0.ok (h : LI0 L ns) (h6 : ns.length ≤ 6) (hb : L.busy.length ≤ 6) (hc : L.cells.length ≤ 1000) : LOk L := by
  have := h.six h6
  unfold keysM at this
  rw [List.length_map, List.length_map] at this
  exact ⟨by omega, by omega, fun n l hl => by have := h.r4 n l hl; omega, hb, hc⟩
theorem LI.ok (h : LI L ns) (h6 : ns.length ≤ 6) (hb : L.busy.length ≤ 6) : LOk L := h.toLI0.ok h6 hb (by rw [h.cl]; have := h.mb; omega)
theorem LI0.rok (h : LI0 L ns) (h6 : ns.length ≤ 6) : ROk (recL L) ∧ (recL L).length ≤ 12 := by
  have := (h.six h6).1
  have e := recL_len (L := L)
  refine ⟨⟨by omega, fun v hv => ?_⟩, by omega⟩
  obtain ⟨n, hn, e⟩ := List.mem_map.mp hv
  subst e
  show ((getM L.reads n).getD []).length ≤ 1000
  cases q : getM L.reads n with
  | none => exact Nat.zero_le _
  | some l => have := h.r4 n l q; show l.length ≤ 1000; omega
/-! ### the recorder's bounds -/
theorem ends_step {R : RD} {d : Dd} (h : (keysM R.cur.ends).Nodup) : (keysM (nextS R d).ends).Nodup := by
  cases d with
  | rd i => exact h
  | wr i n => exact h
  | dw i =>
    show (keysM (match bzAt R.cur i with | .wr n b => endedS R.cur i (.w n b) (R.now : Nat) | _ => R.cur).ends).Nodup
    cases e : bzAt R.cur i with
    | wr n b => exact nodup_put h
    | free => exact h
    | rd b => exact h
  | dr i n =>
    show (keysM (match bzAt R.cur i with | .rd b => endedS R.cur i (.r b n) (R.now : Nat) | _ => R.cur).ends).Nodup
    cases e : bzAt R.cur i with
    | rd b => exact h
    | free => exact h
    | wr n b => exact h
theorem sok_of {R : RD} (h : LI0 L ns) (S : Sim0 R L) (he : (keysM R.cur.ends).Nodup) (h6 : ns.length ≤ 6) (hb : L.busy.length ≤ 6) : SOk R.cur := by
  obtain ⟨k1, k2⟩ := h.six h6
  have k3 := he.length_le_of_subset (l₂ := keysM L.writes) fun n hn => Classical.byContradiction fun z => by
    have := S.en n z
    exact mem_getM.mp this hn
  have e1 : R.cur.begins.length = (keysM L.writes).length := by rw [S.ky]; unfold keysM; rw [List.length_map]
  have e2 : R.cur.ends.length = (keysM R.cur.ends).length := by unfold keysM; rw [List.length_map]
  have e3 : R.cur.reads.length = (keysM L.reads).length := by rw [S.rd]; unfold keysM; rw [List.length_map]
  exact ⟨by omega, by omega, by omega, fun n l hl => by rw [← S.rd] at hl; have := h.r4 n l hl; omega, by rw [← S.bu]; exact hb⟩
/-- all that holds of the two -/
structure Both (R : RD) (L : LE) (ns : List Int) : Prop where
  sim : Sim R L
  li : LI L ns
  ed : (keysM R.cur.ends).Nodup
  ok : RdOk R
  n6 : ns.length ≤ 6
  nb : ∀ n ∈ ns, 0 ≤ n ∧ n ≤ 11
  b1 : 1 ≤ L.busy.length
  b6 : L.busy.length ≤ 6
theorem Both.lok {R : RD} (h : Both R L ns) : LOk L := h.li.ok h.n6 h.b6
theorem Both.sok {R : RD} (h : Both R L ns) {d : Dd} (D : DeedOk L ns d) (hm : L.many < 900) : SOk (nextS R d) := by
  have := sok_of (L := doneL L d) (R := R.add (nextS R d)) ((h.li.toLI0.step D hm).cells) (h.sim.toSim0.step D) (by rw [add_cur]; exact ends_step h.ed) h.n6 (by rw [doneL_busy]; exact h.b6)
  rw [add_cur] at this
  exact this
theorem Both.step {R : RD} (h : Both R L ns) {d : Dd} (D : DeedOk L ns d) (hm : L.many < 900) : Both (R.add (nextS R d)) (doneL L d) ns := by
  have hs := h.sim.step D
  have hmn := hs.mn
  rw [doneL_many D] at hmn
  have ne : (R.add (nextS R d)).past ≠ [] := by unfold RD.add; simp
  refine ⟨hs, h.li.step D hm h.n6, by rw [add_cur]; exact ends_step h.ed, ⟨ne, by omega, fun e he => ?_, ?_⟩, h.n6, h.nb, by rw [doneL_busy]; exact h.b1, by rw [doneL_busy]; exact h.b6⟩
  · rcases List.mem_append.mp he with z | z
    · exact h.ok.ok e z
    · rw [List.mem_singleton.mp z]
      exact h.sok D hm
  · show R.hands = _
    rw [h.ok.hd, ← hs.bu, doneL_busy, h.sim.bu]
theorem Both.few {R : RD} (h : Both R L ns) {d : Dd} (D : DeedOk L ns d) (hm : L.many < 900) : 0 ≤ lawCrowd (recL (stepL L d)) - lastC L ∧ lawCrowd (recL (stepL L d)) - lastC L ≤ 1 := by
  have := h.li.toLI0.grow D hm
  rw [h.li.lc]
  omega
end
/-! ### free names -/
theorem filter_and {α : Type} (p q : α → Bool) (l : List α) : l.filter (fun x => p x && q x) = (l.filter p).filter q := by
  rw [List.filter_filter]
  congr 1
  funext x
  exact Bool.and_comm _ _
theorem Both.free {R : RD} {L : LE} {ns : List Int} (h : Both R L ns) {i : Nat} {b : Int} (hi : i < L.busy.length) (hz : bzL L i = .rd b) : frA R i b = (opens L).filter fun n => decide (lawCrowd (recL (stepL L (.dr i n))) ≤ lastC L) := by
  unfold frA opens
  rw [← h.sim.names]
  have e1 : (namesL L).filter (okFree R i b) = (namesL L).filter fun n => decide (((getM L.reads n).getD []).length < 4) && decide (lawCrowd (recL (stepL L (.dr i n))) ≤ lastC L) := by
    refine List.filter_congr fun n hn => ?_
    have kn := mem_names hn
    have hb : (getM R.cur.begins n).isSome = true := getM_some.mpr (by rw [← h.sim.ky]; exact kn)
    unfold okFree
    show (((getM R.cur.begins n).isSome && decide (((getM R.cur.reads n).getD []).length < 4)) && decide (most (recS (endedS R.cur i (.r b n) (R.now : Nat))) ≤ R.few)) = _
    rw [hb, Bool.true_and, h.sim.few, ← h.sim.rd]
    by_cases h4 : ((getM L.reads n).getD []).length < 4
    · have D : DeedOk L ns (.dr i n) := ⟨hi, ⟨b, hz⟩, List.mem_filter.mpr ⟨hn, by simpa using h4⟩⟩
      have e := Sim.most h.sim.toSim0 D
      have e2 : nextS R (.dr i n) = endedS R.cur i (.r b n) (R.now : Nat) := by
        have : bzAt R.cur i = .rd b := by rw [h.sim.bz]; exact hz
        simp only [nextS, this]
      rw [e2] at e
      rw [e]
    · rw [decide_eq_false h4, Bool.false_and, Bool.false_and]
  rw [e1, filter_and]
theorem Both.room {R : RD} {L : LE} {ns : List Int} (h : Both R L ns) (hm : L.many < 900) {i : Nat} {b : Int} (hi : i < L.busy.length) (hz : bzL L i = .rd b) : ∀ n, hasR R.cur (.int n) = true → SOk (endedS R.cur i (.r b n) (R.now : Nat)) := fun n hn => by
  have hn : ((getM R.cur.begins n).isSome && decide (((getM R.cur.reads n).getD []).length < 4)) = true := hn
  simp only [Bool.and_eq_true, decide_eq_true_eq] at hn
  have D : DeedOk L ns (.dr i n) := ⟨hi, ⟨b, hz⟩, List.mem_filter.mpr ⟨in_names (by rw [h.sim.ky]; exact getM_some.mp hn.1), by rw [h.sim.rd]; simpa using hn.2⟩⟩
  have := h.sok D hm
  have e2 : nextS R (.dr i n) = endedS R.cur i (.r b n) (R.now : Nat) := by
    have : bzAt R.cur i = .rd b := by rw [h.sim.bz]; exact hz
    simp only [nextS, this]
  rw [e2] at this
  exact this
/-! ### the start -/
theorem both0 {n : Nat} {ns : List Int} (h1 : 1 ≤ n) (h2 : n ≤ 6) (h6 : ns.length ≤ 6) (nb : ∀ n ∈ ns, 0 ≤ n ∧ n ≤ 11) : Both (rec0 n) (ent0 n) ns := by
  have hf : ∀ i, bzL (ent0 n) i = .free := fun i => by
    show (List.replicate n Bz.free).getD i .free = .free
    rw [List.getD_eq_getElem?_getD]
    by_cases e : i < n
    · rw [List.getElem?_replicate, if_pos e]; rfl
    · rw [List.getElem?_replicate, if_neg e]; rfl
  have hl : (ent0 n).busy.length = n := List.length_replicate ..
  refine ⟨⟨⟨rfl, rfl, fun k hk => (by cases hk), rfl, rfl, ⟨_, [], rfl⟩, fun _ _ => rfl, fun i m b hi => (by rw [hf] at hi; cases hi)⟩, rfl⟩, ⟨⟨.nil, fun k hk => (by cases hk), .nil, fun k hk => (by cases hk), fun k l hk => (by cases hk), fun i m b hi => (by rw [hf] at hi; cases hi), fun i j m b c hi => (by rw [hf] at hi; cases hi), fun i b hi => (by rw [hf] at hi; cases hi), fun k p hk => (by cases hk), fun k l hk => (by cases hk), Nat.zero_le _⟩, rfl, fun c hc => (by cases hc), ?_⟩, .nil, ⟨by simp [rec0], by simp [rec0], fun e he => ?_, ?_⟩, h6, nb, by rw [hl]; exact h1, by rw [hl]; exact h2⟩
  · have e1 := law_nn (recL (ent0 n))
    have e2 := law_le (recL (ent0 n))
    have e3 : (recL (ent0 n)).length = 0 := by rw [recL_len]; rfl
    rw [e3] at e2
    show (0 : Int) = _
    omega
  · have : e = (⟨List.replicate n .free, [], [], []⟩, 0) := List.mem_singleton.mp he
    rw [this]
    exact ⟨by show (0 : Nat) < 60; decide, by show (0 : Nat) < 60; decide, by show (0 : Nat) < 60; decide, fun _ _ z => (by cases z), by show (List.replicate n Bz.free).length ≤ 6; rw [List.length_replicate]; exact h2⟩
  · show (n : Int) = ((List.replicate n Bz.free).length : Nat)
    rw [List.length_replicate]
end K28
-- KD23
/-! KD23: texts of data compared; sizes; what the law asks of first deeds and free names. -/
namespace K28
open PySem PySem.Spec PyProof.Rows L2 LamX
section
variable {X : Cx} {e e1 e2 o a b : Expr} {σ : L2.St} {H : Hp} {p q1 q2 p1 p2 pos apos : Pos} {n : Nat} {d : PyData} {pl : Sem Bool}
theorem boot_repr : bootBuiltins "repr" = some (.builtin "repr") := by decide +kernel
/-- repr(a) != repr(b), both of the same data -/
theorem jt_reprNe {T : Bool → Hp → Prop} (hr : Room n X.A) (hg : X.A.guards = some []) (hk : SysK X.K) (hm : X.mg "repr" = none) (ha : JE X a σ H fun v H1 => ∃ x d, v = .ref x ∧ Rp X.K H1 v d ∧ ShOk d ∧ JE X b σ H1 fun u H2 => ∃ y, u = .ref y ∧ Rp X.K H2 u d ∧ T false H2)
    (hgl : Gl X "repr" := by rfl) (h1 : starEach [a] X.env = (false, eval a X.env) :: starEach [] X.env := by rfl) (h2 : starEach [b] X.env = (false, eval b X.env) :: starEach [] X.env := by rfl) (hpl1 : (backTo q1 (starEach [] X.env)).any (·.1) = false := by rfl) (hpl2 : (backTo q2 (starEach [] X.env)).any (·.1) = false := by rfl)
    (hmk : behindInMarks .NotEq (.Call (.Name "repr" p2) [b] [] q2) = false := by first | exact nomark _ | rfl) : JT X (.Compare (.Call (.Name "repr" p1) [a] [] q1) [.NotEq] [.Call (.Name "repr" p2) [b] [] q2] pos) σ H T :=
  jt_of (pt_cmpR op_ne pej pej hmk) (je_blt (call_reprD hr hg hk) hm boot_repr (ja_of (pa_cons pej pa_nil h1) (JE.mono ha fun v H1 ⟨x, d, e1, r1, ok, hb⟩ => ⟨x, d, by rw [e1], e1 ▸ r1, ok, je_blt (call_reprD hr hg hk) hm boot_repr (ja_of (pa_cons pej pa_nil h2) (JE.mono hb fun u H2 ⟨y, e2, r2, t⟩ => ⟨y, d, by rw [e2], e2 ▸ r2, ok, rfl, _, rfl, (by
    have e : (!decide (V.str d.shown = V.str d.shown)) = false := by rw [decide_eq_true rfl]; rfl
    rw [e]
    exact t)⟩)) hgl h2 hpl2⟩)) hgl h1 hpl1)
theorem jb_reprNe {ds : List PyData} (hr : Room n X.A) (hg : X.A.guards = some []) (hk : SysK X.K) (hm : X.mg "repr" = none) (ok : ShOk (.list ds)) (ha : JD X a σ H (.list ds)) (hb : JD X b σ H (.list ds))
    (hgl : Gl X "repr" := by rfl) (h1 : starEach [a] X.env = (false, eval a X.env) :: starEach [] X.env := by rfl) (h2 : starEach [b] X.env = (false, eval b X.env) :: starEach [] X.env := by rfl) (hpl1 : (backTo q1 (starEach [] X.env)).any (·.1) = false := by rfl) (hpl2 : (backTo q2 (starEach [] X.env)).any (·.1) = false := by rfl)
    (hmk : behindInMarks .NotEq (.Call (.Name "repr" p2) [b] [] q2) = false := by first | exact nomark _ | rfl) : JB X (.Compare (.Call (.Name "repr" p1) [a] [] q1) [.NotEq] [.Call (.Name "repr" p2) [b] [] q2] pos) σ H false := fun H1 s Q q =>
  jt_reprNe hr hg hk hm (ha H1 s _ fun v H2 s2 hv => by
    obtain ⟨x, e⟩ : ∃ x, v = .ref x := by cases hv; exact ⟨_, rfl⟩
    exact ⟨x, .list ds, e, rp_dp _ _ hv, ok, hb H2 (s.trans s2) _ fun u H3 s3 hu => by
      obtain ⟨y, e2⟩ : ∃ y, u = .ref y := by cases hu; exact ⟨_, rfl⟩
      exact ⟨y, e2, rp_dp _ _ hu, q H3 (s2.trans s3)⟩⟩) hgl h1 h2 hpl1 hpl2 hmk
theorem jb_word {x y : Str} {k : Bool} {j : Nat} (ha : JD X a σ H (.str x)) (hk : decide (V.str x = V.str y) = k) : JB X (.Compare a [.Eq] [.Constant (.str y) j p] pos) σ H k := by
  rw [← hk]
  exact jb_eqS ha.sv jv_str rfl
/-- o["cells"], o an entry made anew -/
theorem jd_ecellsC {L : LE} {j : Nat} (hr : Room n X.A) (ho : ∀ H1, Same H H1 → ∀ Q : VK, (∀ v H2, Same H1 H2 → LeAt X.K H2 v L → Q v H2) → JE X o σ H1 Q) : JD X (.Subscript o (.Constant (.str "cells") j p2) pos) σ H (pI L.cells) := fun H1 s Q q =>
  je_of (pe_dget (by have := hr.un; omega) pej pej (by exact fun _ _ => rfl)) (ho H1 s _ fun v H2 s2 hv => by
    obtain ⟨b, ub, bw, br, uc, e, p⟩ := hv
    exact jv_str H2 (Same.refl _) _ fun H3 s3 => ⟨b, uc, e, DGet.k (k := Sum.inr "cells") (s3 _ _ p.at_), q _ H3 (s2.trans s3) (p.ce.on s3)⟩)
/-- [e] * 2 -/
theorem jd_twice {j : Nat} (he : JD X e σ H d) (hs : starEach [e] X.env = (false, eval e X.env) :: starEach [] X.env := by rfl) : JD X (.BinOp (.List [e] p) .Mult (.Constant (.int 2) j p2) pos) σ H (.list [d, d]) := fun H1 s Q q => by
  refine je_of (pe_op op_rep pej pej) (je_of (pe_lst paj) (ja_of (pa_cons pej pa_nil hs) (he H1 s _ fun v H2 s2 hv => ⟨small1 (by simp), fun l hl => jv_int (i := 2) _ (Same.refl _) _ fun H3 s3 => ?_⟩)))
  have s4 := same_new (o := .lst [v]) hl
  refine ⟨l, 2, [v], rfl, rfl, s3 _ _ upd_same, by omega, by decide, small1 (by simp), fun p2 hp2 => ?_⟩
  have s5 := same_new (o := .lst (List.replicate (2 : Int).toNat [v]).flatten) hp2
  refine q _ _ (s2.trans (s4.trans (s3.trans s5))) (.lst (SqL.len upd_same) ?_)
  have hv' := hv.on (s4.trans (s3.trans s5))
  exact .cons hv' (.cons hv' .nil)
end
/-! ### sizes -/
theorem sz_okp {p : Pr} (h : okP p) : Sz (pC p) 27 1 := sz_tup (n := 10) (m := 0) (k := 2) (ds := [.int p.1, .int p.2]) (fun x hx => by
  obtain ⟨h1, h2, h3, h4⟩ := h
  rcases List.mem_cons.mp hx with e | e
  · rw [e]; exact sz_int0 h1 (by omega)
  · rw [List.mem_singleton.mp e]; exact sz_int0 h3 (by omega)) (by simp)
theorem sz_ints {l : List Int} {k : Nat} (h : ∀ n ∈ l, 0 ≤ n ∧ n ≤ 1000) (hk : l.length ≤ k) : Sz (pI l) ((10 + 2) * k + 3) 1 := sz_tup (n := 10) (m := 0) (k := k) (fun x hx => by
  obtain ⟨n, hn, e⟩ := List.mem_map.mp hx
  subst e
  have := h n hn
  exact sz_int0 this.1 (by omega)) (by rw [List.length_map]; exact hk)
theorem sz_do (b : Bz) : Sz (pDo b) 10 0 := by
  cases b with
  | free => exact sz_none
  | wr _ _ => exact sz_write
  | rd _ => exact sz_read
theorem lastC_in {L : LE} {ns : List Int} (h : LI L ns) : 0 ≤ lastC L ∧ lastC L ≤ 12 := by
  unfold lastC
  cases e : L.cells.getLast? with
  | none => exact ⟨Int.le_refl 0, by decide⟩
  | some c => exact h.cb c (List.mem_of_getLast? e)
theorem sz_due {L : LE} {ns : List Int} (h : LI L ns) (n6 : ns.length ≤ 6) (nb : ∀ n ∈ ns, 0 ≤ n ∧ n ≤ 11) (b6 : L.busy.length ≤ 6) : Sz (.list (pDue L)) 4000000 10 := by
  have h66 := (h.toLI0.six n6).1
  have hl := lastC_in h
  have hm := h.mb
  have e1 : Sz (pR (recL L)) 1485 4 := sz_tup (n := 245) (m := 3) (k := 6) (fun x hx => by
    obtain ⟨v, hv, e⟩ := List.mem_map.mp hx
    subst e
    obtain ⟨n, hn, e⟩ := List.mem_map.mp hv
    subst e
    refine sz_tup (n := 119) (m := 2) (k := 2) (ds := [pC (recLV L n).1, pCs (recLV L n).2]) (fun y hy => ?_) (by simp)
    rcases List.mem_cons.mp hy with e | e
    · rw [e]
      refine (sz_okp ?_).mono (by decide) (by decide)
      show okP ((getM L.writes n).getD (0, 0))
      cases q : getM L.writes n with
      | none => exact ⟨by decide, by decide, by decide, by decide⟩
      | some p => exact h.wb n p q
    · rw [List.mem_singleton.mp e]
      show Sz (.tuple (((getM L.reads n).getD []).map pC)) 119 2
      cases q : getM L.reads n with
      | none => exact sz_tup (n := 27) (m := 1) (k := 4) (ds := []) (fun _ z => by cases z) (by simp)
      | some l =>
        refine sz_tup (n := 27) (m := 1) (k := 4) (fun z hz => ?_) (by rw [List.length_map]; exact h.r4 n l q)
        obtain ⟨p, hp, e⟩ := List.mem_map.mp hz
        subst e
        exact sz_okp (h.rb n l q p hp)) (by rw [List.length_map, recL_len]; exact h66)
  have e2 : Sz (pI (namesL L)) 75 1 := sz_ints (k := 6) (fun n hn => by have := nb n (h.ws n (mem_names hn)); omega) (by unfold namesL; rw [srt_len]; exact h66)
  have e3 : Sz (.list (L.busy.map pDo)) 74 1 := sz_list (n := 10) (m := 0) (k := 6) (fun x hx => by
    obtain ⟨b, _, e⟩ := List.mem_map.mp hx
    subst e
    exact sz_do b) (by rw [List.length_map]; exact b6)
  refine (sz_list (n := 1485) (m := 4) (k := 5) (fun x hx => ?_) (by simp [pDue])).mono (by decide) (by decide)
  rcases List.mem_cons.mp hx with z | hx
  · rw [z]; exact e1
  rcases List.mem_cons.mp hx with z | hx
  · rw [z]; exact (sz_int0 hl.1 (by omega)).mono (by decide) (by decide)
  rcases List.mem_cons.mp hx with z | hx
  · rw [z]; exact e2.mono (by decide) (by decide)
  rcases List.mem_cons.mp hx with z | hx
  · rw [z]; exact e3.mono (by decide) (by decide)
  rw [List.mem_singleton.mp hx]
  exact (sz_nat (by omega)).mono (by decide) (by decide)
/-! ### pieces of what the law asks -/
theorem enum_int (l : List Int) : ∀ k, enumD k (l.map PyData.int) = (l.zipIdx k).map fun z => .tuple [pN z.2, .int z.1] := by
  induction l with
  | nil => intro k; rfl
  | cons v l ih => intro k; simp only [List.map_cons, enumD, List.zipIdx_cons, ih (k + 1)]; rfl
theorem sz_first {l : List Int} {k : Int} (h : l.length ≤ 1000) : Sz (pFirst (above l k)) 10 0 := by
  cases e : above l k with
  | nil => exact sz_none
  | cons t m =>
    have ht : t ∈ above l k := by rw [e]; exact List.mem_cons_self
    obtain ⟨⟨c, i⟩, h1, h2⟩ := List.mem_map.mp ht
    have h2 : i = t := h2
    have h3 := List.mem_zipIdx (List.mem_filter.mp h1).1
    exact sz_nat (by omega)
section
variable {X : Cx} {o e1 : Expr} {σ : L2.St} {H : Hp} {pos apos : Pos} {r : Addr} {R : RD} {n : Nat} {pl : Sem Bool}
theorem jd_first {k : Nat} (M : Mx X.prog X.K X.mg) (hr : Room (n + 5) X.A) (ho : JV X o σ H (.ref r)) (hR : RecAt X.K H r R) (ok : RdOk R) (h1 : JV X e1 σ H (.int (k : Nat))) (hk : k ≤ 12)
    (hst : starEach [e1] X.env = (false, eval e1 X.env) :: starEach [] X.env := by rfl) (hpl : (backTo pos (starEach [] X.env)).any (·.1) = false := by rfl)
    (ht : eval (.Call (.Attribute o "first_beyond" apos) [e1] [] pos) X.env = (do
      let ov ← eval o X.env
      standAt apos.atName
      let (f, first) ← holding [ov] (getMethod ov "first_beyond" pl)
      callWith pos f first (backTo pos (starEach [e1] X.env)) (backToKw pos (keywordEach [] X.env))) := by rfl) : JD X (.Call (.Attribute o "first_beyond" apos) [e1] [] pos) σ H (pFirst (above R.manys (k : Int))) := fun H1 s Q q =>
  je_first (n := n) (pl := pl) (E := E0) M hr passL (ho.on s) (hR.on s) ok (h1.on s) (.int _) (fun z => by
    have : (decide (0 ≤ (k : Int)) && decide ((k : Int) ≤ 12)) = false := z
    rw [decide_eq_true (by omega), decide_eq_true (by omega)] at this
    cases this) (fun _ u H' s' hu => q u H' s' hu) hst hpl ht
theorem jd_free {i : Nat} {b : Int} {L : LE} {ns : List Int} (M : Mx X.prog X.K X.mg) (hr : Room (n + 9) X.A) (ho : JV X o σ H (.ref r)) (hR : RecAt X.K H r R) (B : Both R L ns) (hm : L.many < 900) (h1 : JV X e1 σ H (.int (i : Nat))) (hi : i < L.busy.length) (hz : bzL L i = .rd b)
    (hst : starEach [e1] X.env = (false, eval e1 X.env) :: starEach [] X.env := by rfl) (hpl : (backTo pos (starEach [] X.env)).any (·.1) = false := by rfl)
    (ht : eval (.Call (.Attribute o "free" apos) [e1] [] pos) X.env = (do
      let ov ← eval o X.env
      standAt apos.atName
      let (f, first) ← holding [ov] (getMethod ov "free" pl)
      callWith pos f first (backTo pos (starEach [e1] X.env)) (backToKw pos (keywordEach [] X.env))) := by rfl) : JD X (.Call (.Attribute o "free" apos) [e1] [] pos) σ H (pI ((opens L).filter fun n => decide (lawCrowd (recL (stepL L (.dr i n))) ≤ lastC L))) := fun H1 s Q q =>
  je_free (n := n) (pl := pl) (E := E0) M hr passL (ho.on s) (hR.on s) B.ok (h1.on s) (.int _) (by
    rw [B.sim.idx hi]
    have hb : bzAt R.cur i = .rd b := by rw [B.sim.bz]; exact hz
    simp only [hb]
    refine ⟨B.room hm hi hz, fun u H' s' hu => q u H' s' ?_⟩
    rw [← B.free hi hz]
    exact hu) hst hpl ht
end
theorem shaped_pair (k : Nat) : SeqAt.shaped (.tuple [.str "idle", .int (k : Nat)]) = true := by
  have := shaped_tup (l := [PyData.str "idle", .int (k : Nat)]) (f := fun d => d) (fun d hd => by
    rcases List.mem_cons.mp hd with e | e
    · rw [e]; exact ⟨by decide +kernel, by simp [PyData.depth]⟩
    · rw [List.mem_singleton.mp e]; exact ⟨by simp [PyData.canLay0], by simp [PyData.depth]⟩)
  exact this
theorem eqv_pair (k : Nat) : PyData.eqv (.tuple [.str "idle", .int (k : Nat)]) (.tuple [.str "idle", .int (k : Nat)]) = true := by simp [PyData.eqv, PyData.eqvAll]
def spAsked (K : PySem.W.Frag) (T : List (Addr × Str)) : Sp := fun vs H Q _ => ∃ r R ve L ns, vs = [.ref r, ve] ∧ RecAt K H r R ∧ LeAt K H ve L ∧ Both R L ns ∧ L.many < 900 ∧ Tabs T H ∧ ∀ H', ExtN H H' → Tabs T H' → Q (.bl true) H'
section
variable {P : Program} {w : World} {K : PySem.W.Frag} {mg : Str → Option Value} {base : Heap}
theorem S_law_asked : FnScope ["_law_live", "_law_entry", "_law_k", "_law_some", "_law_tick", "_law_many", "_law_due", "_law_hand", "_law_busy", "_law_name"] ["_law_live", "_law_entry"] (defScope s_law_asked_right) := ⟨rfl, rfl, rfl, by decide +kernel, rfl, by decide +kernel, by decide +kernel⟩
theorem g_law_asked {T : List (Addr × Str)} (M : Mz P K mg) (TT : TbX K mg base T "_law_asked_right") : FnG2 P w K mg base 13 "_law_asked_right" ["_law_live", "_law_entry"] (spAsked K T) := by
  refine fng2 M.d_law_asked_right S_law_asked (fun vs H Q E ⟨r, R, ve, L, ns, h, _⟩ => by rw [h]; rfl) (fun f cdv A outer s H vs Q E hr hgd hcd ⟨r, R, ve, L, ns, e, hR, hL, B, hm, hT, q⟩ => ?_) (fun _ _ _ _ _ _ us hl => match us, hl with | [_, _], _ => rfl)
  subst e
  obtain ⟨c, P1, hc1, TB, hmT, huT⟩ := TT.ex
  cases hc1 cdv hcd
  obtain ⟨a0, ub, bw, br, uc, e0, p⟩ := id hL
  subst e0
  have okL := B.lok
  have hcl := okL.ce
  have hb6 := B.b6
  refine jss_cons (js_forR 2 (n := 13) (passes_of rfl) rfl S_law_asked.nd M.f_range (JV.je jv_int fun H1 s1 => ⟨rfl, fun _ σ1 H2 => Same H H2 ∧ ∃ o2 o3 o4 o5 o6 o7 o8 o9, σ1 = [some (.ref r), some (.ref a0), o2, o3, o4, o5, o6, o7, o8, o9], ⟨s1, none, none, none, none, none, none, none, none, rfl⟩, ?_, ?_⟩) (by decide))
  · rintro j σ1 H2 hj ⟨s2, o2, o3, o4, o5, o6, o7, o8, o9, rfl⟩
    have p2 := p.on s2
    have hR2 := hR.on s2
    refine jss_setC 3 rfl S_law_asked.nd (ds := (above L.cells (j : Int)).map pN) (jlc2 (xs := L.cells.zipIdx) (d1 := fun z => pN z.2) (d2 := fun z => .int z.1) (pr := fun z => decide ((j : Int) < z.1)) (r := fun z => pN z.2) 4 5 rfl S_law_asked.nd (blkOk_by (own := [("_law_tick", 4), ("_law_many", 5)]) rfl)
      (by rw [← enum_int]; exact jdi_enumT M.f_enumerate (jd_ecells hr (jv_var 1 rfl) p2)) (small1 (by rw [List.length_zipIdx]; omega)) (by rw [above, List.map_map]; rfl) (fun z hz u v H3 s3 hu hv s0 H0 C cl fp => ⟨jbs_one (jb_gt (jd_var 5 rfl hv) (jv_var 2 rfl).int), fun _ => jd_var 4 rfl hu⟩)) (fun c vs H3 s3 hnc hc hvs => ?_)
    refine jss_set 6 S_law_asked.nd (d := pFirst (above L.cells (j : Int))) (jd_if (p := !((above L.cells (j : Int)).map pN).isEmpty) (jb_fullL hr (jr_var 3 rfl hc hvs).jd (shaped_ns _)) (fun hf => ?_) fun hf => ?_) fun u H4 s4 hu => ?_
    · rw [isEmpty_map] at hf
      have hne : above L.cells (j : Int) ≠ [] := by
        intro e
        rw [e] at hf
        cases hf
      obtain ⟨t, _, e2, e3⟩ := fst_at hne
      rw [e2]
      exact jd_ixL (jr_var 3 rfl hc hvs).jd jd_int e3
    · rw [isEmpty_map] at hf
      have he : above L.cells (j : Int) = [] := by
        cases h : above L.cells (j : Int) with
        | nil => rfl
        | cons a l => rw [h] at hf; cases hf
      rw [he]
      exact jd_non
    · have s24 := s3.trans s4
      have hR4 := hR2.on s24
      have ok2 : ShOk (.list [pFirst (above L.cells (j : Int)), pFirst (above L.cells (j : Int))]) := (sz_two (sz_first hcl)).ok
      refine jss_one (js_ifF (jb_reprNe hr hgd M.sys M.f_repr ok2 (jl_lst (jds_cons ?_ (jds_cons ?_ jds_nil)) (small1 (by simp))).jd (jl_lst (jds_cons (jd_var 6 rfl hu) (jds_cons (jd_var 6 rfl hu) jds_nil)) (small1 (by simp))).jd) fun H5 s5 => jss_nil ⟨s2.trans (s24.trans s5), _, _, _, _, _, _, _, _, rfl⟩)
      · rw [B.sim.ce]
        exact jd_first (n := 7) (k := j) M.toMx hr (jv_var 0 rfl) hR4 B.ok (jv_var 2 rfl) (by omega)
      · rw [B.sim.ce]
        exact jd_first (n := 7) (k := j) M.toMx hr (jv_var 0 rfl) hR4 B.ok (jv_var 2 rfl) (by omega)
  · rintro σ1 H2 ⟨s2, o2, o3, o4, o5, o6, o7, o8, o9, rfl⟩
    have hT2' := hT.ext s2
    have hR2 := hR.on s2
    have pL2 := p.on s2
    refine jss_cons (js_forE 7 8 (passes_of rfl) rfl S_law_asked.nd M.f_enumerate (JD.je (jd_ebusy hr (jv_var 1 rfl) pL2) fun u Ha sa hu2 => ?_))
    cases hu2 with
    | @tup ua us _ htu hbu =>
    refine ⟨ua, us, fun _ σ1 H3 => ExtN H2 H3 ∧ Tabs T H3 ∧ SqT K H3 ua us ∧ DpAll K H3 us (L.busy.map pB) ∧ ∃ o2 o3 o4 o5 o6 o7 o8 o9, σ1 = [some (.ref r), some (.ref a0), o2, o3, o4, o5, o6, o7, o8, o9], rfl, ⟨extN_same sa, hT2'.ext sa, htu, hbu, _, _, _, _, _, _, _, _, rfl⟩, fun j σ1 H2 z => z.2.2.1, ?_, ?_⟩
    · rintro k v σ1 Hb H3 hv ⟨eN2, hT3, htu2, hbu2, o2, o3, o4, o5, o6, o7, o8, o9, rfl⟩ s3
      have T3 := hT3.ext s3
      have hlen : us.length = L.busy.length := by rw [hbu.len, List.length_map]
      have hk : k < L.busy.length := by rw [← hlen]; exact (List.getElem?_eq_some_iff.mp hv).1
      obtain ⟨dz, hd1, hd2⟩ := hbu2.at_ hv
      rw [bzL_at hk] at hd1
      cases hd1
      have hd3 := hd2.on s3
      have hR3 : RecAt K H3 r R := rec_ext (eN2.trans (extN_same s3)) hR2
      have hL3 : LeAt K H3 (.ref a0) L := le_ext (eN2.trans (extN_same s3)) (hL.on s2)
      have stay : ∀ {H4 : Hp} {o2 o3 o4 o5 o6 o7 o8 o9 : Option V}, ExtN H3 H4 → Tabs T H4 → (ExtN H2 H4 ∧ Tabs T H4 ∧ SqT K H4 ua us ∧ DpAll K H4 us (L.busy.map pB) ∧ ∃ p2 p3 p4 p5 p6 p7 p8 p9, [some (.ref r), some (.ref a0), o2, o3, o4, o5, o6, o7, o8, o9] = [some (V.ref r), some (V.ref a0), p2, p3, p4, p5, p6, p7, p8, p9]) := fun e t =>
        ⟨(eN2.trans (extN_same s3)).trans e, t, ext_sqt ((extN_same s3).trans e) htu2, dpa_ext ((extN_same s3).trans e) _ _ hbu2, _, _, _, _, _, _, _, _, rfl⟩
      have hbz := B.sim.bz k
      have hidx := B.sim.idx hk
      refine jss_one ?_
      by_cases hrd : ∃ b, bzL L k = .rd b
      · obtain ⟨b, hz⟩ := hrd
        rw [hz] at hd3
        have hut : Dp K H3 v (.tuple [.str "read", .none, .int b]) := hd3
        have hun : decide (v = V.non) = false := by cases hut; rfl
        refine js_if (jt_andX (k := true) (by
          have e : (!decide (v = V.non)) = true := by rw [hun]; rfl
          rw [← e]
          exact jb_notN (jv_var 8 rfl)) (fun z => nomatch z) fun _ H4 s4 => ?_)
        refine jb_word (k := true) (jd_ixT (jd_var 8 rfl (hut.on s4)) jd_int atI0) (by decide) H4 (Same.refl _) _ fun H5 s5 => iteT ?_
        have s35 := s4.trans s5
        have lc : lastC L = lastC L := rfl
        have hne : L.cells ≠ [] := fun z => by
          have h1 := B.li.br k b hz
          have h2 := B.li.cl
          rw [z] at h2
          have h2 : 0 = L.many := h2
          omega
        have hlast : atI (L.cells.map PyData.int) (-1) = some (.int (lastC L)) := atI_last (by
          unfold lastC
          rw [List.getLast?_map, List.getLast?_eq_some_getLast hne]
          rfl)
        refine jss_setL 6 S_law_asked.nd (ds := []) (jl_lst jds_nil (small1 (by simp))) fun l ls H6 s6 hnl hl hls => ?_
        cases hls
        have s36 := s35.trans s6
        obtain ⟨_, ub', bw', br', uc', e0, pL6⟩ := hL3.on s36
        cases e0
        have ol : (opens L).length ≤ 60 := Nat.le_trans (List.length_filter_le _ _) (by have := namesL_len okL; omega)
        let pf : Int → Bool := fun n => decide (lawCrowd (recL (stepL L (.dr k n))) ≤ lastC L)
        refine jss_cons (js_forL 9 (passes_of rfl) rfl S_law_asked.nd (je_call (E := E0) (g_law_open (P := P) (w := w) (base := base) M.toMo) hr passL (ja_of (pa_cons pej pa_nil rfl) (JV.je (jv_var 1 rfl) fun H7 s7 => ⟨.ref a0, L, rfl, ⟨_, ub', bw', br', uc', rfl, pL6.on s7⟩, okL, fun la vs H8 s8 hna hla hvs => ?_⟩)) (by decide) rfl (by decide) rfl rfl))
        have hns := hvs.ints
        subst hns
        have s68 := s7.trans s8
        have hne2 : la ≠ l := ne_of_none' (s7 _ _ hl) hna
        refine ⟨la, (opens L).map V.int, fun j σ' H' => ∃ y, σ' = [some (.ref r), some (.ref a0), o2, o3, o4, o5, some (.ref l), some (.int (k : Nat)), some v, y] ∧ SameX l H8 H' ∧ H' l = some (.lst ((((opens L).take j).filter pf).map V.int)), rfl, ⟨o9, rfl, sx_refl, s68 _ _ hl⟩, ?_, ?_, ?_⟩
        · rintro j σ' H' ⟨y, _, sx, _⟩
          exact .inl (.inl (sx _ _ hne2 hla))
        · rintro j w' σ' H' hj ⟨y, e, sx, hl'⟩
          subst e
          rw [List.getElem?_map] at hj
          cases hnj : (opens L)[j]? with
          | none => rw [hnj] at hj; cases hj
          | some n =>
            rw [hnj] at hj
            cases hj
            have hnl3 : H5 l = none := hnl
            have sx5 : Same H5 H' := same_sxn (s6.trans s68) sx hnl3
            have hn : n ∈ opens L := List.mem_of_getElem? hnj
            have D : DeedOk L ns (.dr k n) := ⟨hk, ⟨b, hz⟩, hn⟩
            have hL' : LeAt K H' (.ref a0) L := (hL3.on s35).on sx5
            obtain ⟨_, ub2, bw2, br2, uc2, e0, pL'⟩ := id hL'
            cases e0
            have LI' := B.li.step D hm B.n6
            have ok' : LOk (doneL L (.dr k n)) := LI'.ok B.n6 (by rw [doneL_busy]; exact B.b6)
            have rok := (B.li.toLI0.step D hm).rok B.n6
            have hf1 : ((opens L).take (j + 1)).filter pf = ((opens L).take j).filter pf ++ (if pf n = true then [n] else []) := by
              rw [List.take_add_one, hnj, List.filter_append]
              cases h : pf n <;> simp [h]
            have hfl : (((opens L).take j).filter pf).length ≤ 60 := by
              have h1 := List.length_filter_le pf ((opens L).take j)
              have h3 := List.length_take_le' j (opens L)
              omega
            refine jss_one (js_ifB (k := pf n) (jb_le (i := lawCrowd (recL (stepL L (.dr k n)))) (j := lastC L) (jd_ixT (ds := (doneL L (.dr k n)).cells.map PyData.int) (jd_ecellsC (L := doneL L (.dr k n)) hr fun H9 s9 Q9 q9 => ?_) (jd_neg jd_int) ?_) (jd_ixT (jd_ecells hr (jv_var 1 rfl) pL') (jd_neg jd_int) hlast)) (fun hb H9 s9 => ?_) fun hb H9 s9 => ?_)
            · refine je_call (E := E0) (g_law_done (P := P) (w := w) (base := base) M.toMo) hr passL (ja_of (pa_cons pej (pa_cons pej pa_nil rfl) rfl) (JV.je (jv_var 1 rfl) fun H10 s10 => (jd_tup (jds_cons jd_str (jds_cons (jv_var 7 rfl).int (jds_cons (jv_var 9 rfl).int jds_nil))) (small1 (by simp))).je fun u2 H11 s11 hu2 => ?_)) (by decide) rfl (by decide) rfl rfl
              exact ⟨.ref a0, u2, L, .dr k n, rfl, hL'.on (s9.trans (s10.trans s11)), okL, hu2, ⟨hk, b, hz⟩, ok', doneL_many D, rok.1, rok.2, fun r' H12 s12 hr' => q9 r' H12 (s10.trans (s11.trans s12)) hr'⟩
            · refine atI_last ?_
              show ((L.cells ++ [lawCrowd (recL (stepL L (.dr k n)))]).map PyData.int).getLast? = _
              rw [List.map_append]
              exact List.getLast?_concat ..
            · refine jss_append (d := .int n) (jv_var 6 rfl) (jv_var 9 rfl).int (s9 _ _ hl') (small1' (by rw [List.length_map]; omega)) fun y H10 s10 hy => jss_nil ⟨_, rfl, sx_upd (sx_same sx (s9.trans s10)), ?_⟩
              cases hy
              rw [hf1, if_pos hb, List.map_append]
              exact upd_same
            · refine jss_nil ⟨_, rfl, sx_same sx s9, ?_⟩
              rw [hf1, if_neg (by rw [hb]; decide), List.append_nil]
              exact s9 _ _ hl'
        · rintro σ' H' ⟨y, e, sx, hl'⟩
          subst e
          rw [List.length_map, List.take_of_length_le (Nat.le_refl _)] at hl'
          have sx5 : Same H5 H' := same_sxn (s6.trans s68) sx hnl
          have s3' := s35.trans sx5
          have okz : ShOk (.list [pI ((opens L).filter pf), pI ((opens L).filter pf)]) := (sz_two (sz_ints (k := 60) (fun n hn => by
            have h1 := (List.mem_filter.mp (List.mem_filter.mp hn).1).1
            have := B.nb n (B.li.ws n (mem_names h1))
            omega) (Nat.le_trans (List.length_filter_le _ _) ol))).ok
          refine jss_one (js_ifF (jb_reprNe hr hgd M.sys M.f_repr okz (jl_lst (jds_cons (jd_free (n := 3) M.toMx hr (jv_var 0 rfl) (hR3.on s3') B hm (jv_var 7 rfl) hk hz) (jds_cons (jd_free (n := 3) M.toMx hr (jv_var 0 rfl) (hR3.on s3') B hm (jv_var 7 rfl) hk hz) jds_nil)) (small1 (by simp))).jd (jd_twice (jd_tuple1 M.f_tuple (jr_var 6 rfl hl' (DpAll.ofInts _)).jd))) fun H9 s9 => jss_nil (stay (extN_same (s3'.trans s9)) ((T3.ext s3').ext s9)))
      · have hid : ∀ b, bzL L k ≠ .rd b := fun b z => hrd ⟨b, z⟩
        refine js_if (JT.mono (Q := fun b H4 => b = false ∧ Same H3 H4) ?_ (fun b H4 hq => ?_))
        · refine jt_andX (k := !decide (v = V.non)) (jb_notN (jv_var 8 rfl)) (fun _ H4 s4 => ⟨rfl, s4⟩) fun hb H4 s4 => ?_
          cases hz : bzL L k with
          | free => rw [hz] at hd3; cases hd3; cases hb
          | rd b => exact absurd hz (hid b)
          | wr n b =>
            rw [hz] at hd3
            have hut : Dp K H3 v (.tuple [.str "write", .int n, .int b]) := hd3
            exact jb_word (k := false) (jd_ixT (jd_var 8 rfl (hut.on s4)) jd_int atI0) (by decide) H4 (Same.refl _) _ fun H5 s5 => ⟨rfl, s4.trans s5⟩
        · obtain ⟨rfl, s4⟩ := hq
          refine iteF ?_
          have T4 := T3.ext s4
          refine jss_one (js_if (jt_of (pt_cmpR (op_neD hr.units) pej pej (nomark _)) ?_))
          refine je_callL (E := E0) (g_law_heard (P := P) (w := w) (base := base) M.toMy).two hr hgd (fun _ => rfl) passL (ja_of (pa_cons pej pa_nil rfl) ?_) (by decide) rfl (by decide) rfl rfl
          refine je_lam TB rfl hmT huT T4 (hfree_of (show lamNB (defScope s_law_asked_right) _ = true by decide +kernel)) fun f1 H5 e5 T5 n5 F1 => ?_
          intro L' C'
          have hR5 := rec_ext ((extN_same s4).trans e5) hR3
          have hth := thk_of0 (h := .idl) (v := .int (k : Nat)) (N := ["_law_live", "_law_hand"]) (τ := [some (.ref r), some (.int (k : Nat))]) (sp := spRx K r R (.int (k : Nat)) "int" .idl (.int (k : Nat))) (show lamNB (defScope s_law_asked_right) _ = true by decide +kernel) F1 (fun i x v' h1 h2 => by
            match i, h1, h2 with
            | 0, h1, h2 => cases h1; cases h2; exact ⟨rfl, rfl, 0, rfl, rfl⟩
            | 1, h1, h2 => cases h1; cases h2; exact ⟨rfl, rfl, 7, rfl, rfl⟩
            | n + 2, h1, _ => cases h1) rfl spRx_on (fun f c' A outer s H Q E hr h => je_free (n := 1) M.toMx hr passLam (jv_var 0 rfl) h.1 B.ok (jv_var 1 rfl) h.2.1 (by
              rw [hidx]
              cases hz : bzAt R.cur k with
              | rd b => exact absurd (by rw [← hbz]; exact hz) (hid b)
              | free => simp only [hz]; exact h.2.2
              | wr n b => simp only [hz]; exact h.2.2)) (spRx_hs hR5 (.int _)) rfl (by intros; rfl) L' C'
          obtain ⟨sp, k1, k2⟩ := hth
          refine ⟨f1, sp, .idl, .int (k : Nat), rfl, k1, k2 _ (Same.refl _), fun t H6 s6 hn ht li => ?_⟩
          have sh := same_hide C'.out s6
          have hno : L'.lookup t = none := by
            cases q2 : L'.lookup t with
            | none => rfl
            | some u => rw [lend_at q2] at hn; cases hn
          have ht2 : hide L' H6 t = some (.tup [.str "idle", .int (k : Nat)]) := by rw [hide_no hno]; exact ht
          refine (jd_tup (ds := [.str "idle", .int (k : Nat)]) (jds_cons jd_str (jds_cons (jv_var 7 rfl).int jds_nil)) (small1 (by simp))).je fun u7 H7 s7 hu7 => ?_
          refine ⟨.tuple [.str "idle", .int (k : Nat)], .tuple [.str "idle", .int (k : Nat)], .tup (SqT.of (s7 _ _ ht2)) (.cons (.str _) (.cons (.int _) .nil)), hu7, shaped_pair _, shaped_pair _, false, ?_, ?_⟩
          · rw [eqv_pair]; rfl
          · exact iteF (jss_nil (stay (((extN_same s4).trans e5).trans (extN_same (sh.trans s7))) (T5.ext (sh.trans s7))))
    · rintro σ1 H3 ⟨eN2, hT3, htu2, hbu2, o2, o3, o4, o5, o6, o7, o8, o9, rfl⟩
      exact jss_one (js_ret (JV.je jv_bl fun H5 s5 => q H5 ((extN_same s2).trans (eN2.trans (extN_same s5))) (hT3.ext s5)))
end
end K28
-- KD24
/-! KD24: the law asks a recorder for what it must not do: names. Printed by gen_names.py. -/
namespace K28
open PySem PySem.Spec PyProof.Rows L2 LamX
section
variable {X : Cx} {a b : Expr} {σ : L2.St} {H : Hp} {p p2 pos : Pos} {Q : VK}
theorem inV_ints (m : Int) : ∀ ns : List Int, inV (.int m) (ns.map V.int) = decide (m ∈ ns)
  | [] => rfl
  | n :: ns => by
    have ih := inV_ints m ns
    unfold inV at ih ⊢
    rw [List.map_cons, List.any_cons, ih]
    have e : eqV (.int n) (.int m) = decide (n = m) := rfl
    rw [e]
    by_cases h : n = m
    · subst h; simp
    · have h2 : ¬ m = n := fun z => h z.symm
      simp [h, h2]
theorem flat_ints : ∀ ns : List Int, (ns.map V.int).all flatV = true
  | [] => rfl
  | n :: ns => by rw [List.map_cons, List.all_cons, flat_ints ns]; rfl
theorem jb_notinL {q : Addr} {m : Int} {ns : List Int} (ha : JV X a σ H (.int m)) (hb : JV X b σ H (.ref q)) (hq : H q = some (.lst (ns.map V.int))) (hm : behindInMarks .NotIn b = false := by first | exact nobehind _ (by decide) (by decide) | rfl) : JB X (.Compare a [.NotIn] [b] pos) σ H (!decide (m ∈ ns)) := fun H1 s Q q2 =>
  jt_of (pt_cmpR op_notIn_seq pej pej hm) (ha H1 s _ fun H2 s2 => hb H2 (s.trans s2) _ fun H3 s3 => ⟨q, ns.map V.int, rfl, .inl (SqL.len ((s.trans (s2.trans s3)) _ _ hq)), rfl, flat_ints ns, _, rfl, by
    show Q (!inV (.int m) (ns.map V.int)) H3
    rw [inV_ints]
    exact q2 H3 (s2.trans s3)⟩)
/-- l[1:] -/
theorem je_cut1 {q : Addr} {xs : List V} {j : Nat} (ha : JV X a σ H (.ref q)) (hq : H q = some (.lst xs)) (k : ∀ p H2, Same H H2 → H2 p = none → Q (.ref p) (upd H2 p (.lst (xs.drop 1)))) : JE X (.Subscript a (.Slice (some (.Constant (.int 1) j p)) none none p2) pos) σ H Q := by
  obtain ⟨tl, l1, l2⟩ := jo_some (X := X) (σ := σ) (H := H) (jd_int (X := X) (σ := σ) (H := H) (i := 1) (j := j) (pos := p))
  obtain ⟨th, u1, u2⟩ := jo_none (X := X) (σ := σ) (H := H)
  refine je_of (pe_slice sl_list pej l1 u1) (ha H (Same.refl H) _ fun H2 s2 => l2 H2 s2 _ fun H3 s3 => u2 H3 (s2.trans s3) _ fun H4 s4 => ⟨q, xs, rfl, SqL.len ((s2.trans (s3.trans s4)) _ _ hq), fun p hp => ?_⟩)
  have e : cutV xs (some (1 : Int)) none = xs.drop 1 := cutv_from (n := 1)
  rw [e]
  exact k p _ (s2.trans (s3.trans s4)) hp
end
/-- what no write nor read takes for a name -/
def NoNm (R : RD) (x : V) : Prop := badName R.cur x = true ∧ hasR R.cur x = false
theorem badName_out {R : RD} {x : V} (h : btw x 0 11 = false) : badName R.cur x = true := by unfold badName; rw [h]; rfl
def spLNames (K : PySem.W.Frag) (T : List (Addr × Str)) : Sp := fun vs H Q _ => ∃ r R ve L ns, vs = [.ref r, ve] ∧ RecAt K H r R ∧ LeAt K H ve L ∧ Both R L ns ∧ Tabs T H ∧ ∀ H', ExtN H H' → Tabs T H' → Q (.bl true) H'
section
variable {P : Program} {w : World} {K : PySem.W.Frag} {mg : Str → Option Value} {base : Heap}
theorem S_law_names : FnScope ["_law_live", "_law_entry", "_law_fine", "_law_odds", "_law_hand", "_law_busy", "_law_odd_here", "_law_name"] ["_law_live", "_law_entry"] (defScope s_law_names_right) := ⟨rfl, rfl, rfl, by decide +kernel, rfl, by decide +kernel, by decide +kernel⟩
theorem g_law_names {T : List (Addr × Str)} (M : Mz P K mg) (TT : TbX K mg base T "_law_names_right") : FnG2 P w K mg base 15 "_law_names_right" ["_law_live", "_law_entry"] (spLNames K T) := by
  refine fng2 M.d_law_names_right S_law_names (fun vs H Q E ⟨r, R, ve, L, ns, h, _⟩ => by rw [h]; rfl) (fun f cdv A outer s H vs Q E hr hgd hcd ⟨r, R, ve, L, ns, e, hR, hL, B, hT, q⟩ => ?_) (fun _ _ _ _ _ _ us hl => match us, hl with | [_, _], _ => rfl)
  subst e
  obtain ⟨c, P1, hc1, TB, hmT, huT⟩ := TT.ex
  cases hc1 cdv hcd
  have GA := (g_law_are (P := P) (w := w) (base := base) M)
  obtain ⟨a0, ub, bw, br, uc, e0, p⟩ := id hL
  subst e0
  have okL := B.lok
  have hb6 := B.b6
  have ol : (opens L).length ≤ 60 := Nat.le_trans (List.length_filter_le _ _) (by have := namesL_len okL; omega)
  have key11 : ∀ n : Int, (getM R.cur.begins n).isSome = true → 0 ≤ n ∧ n ≤ 11 := fun n hn => B.nb n (B.li.ws n (by rw [B.sim.ky]; exact getM_some.mp hn))
  have hr0 : ∀ n : Int, ¬ (0 ≤ n ∧ n ≤ 11) → hasR R.cur (.int n) = false := fun n hn => by
    show ((getM R.cur.begins n).isSome && _) = false
    cases e : (getM R.cur.begins n).isSome with
    | false => rfl
    | true => exact absurd (key11 n e) hn
  have out : ∀ n : Int, ¬ (0 ≤ n ∧ n ≤ 11) → NoNm R (.int n) := fun n hn => ⟨badName_out (by
    show (decide (0 ≤ n) && decide (n ≤ 11)) = false
    by_cases h : 0 ≤ n
    · rw [decide_eq_false fun z => hn ⟨h, z⟩, Bool.and_false]
    · rw [decide_eq_false h, Bool.false_and]), hr0 n hn⟩
  refine jss_setE 2 S_law_names.nd (je_call (E := E0) (g_law_open (P := P) (w := w) (base := base) M.toMo) hr passL (ja_of (pa_cons pej pa_nil rfl) (JV.je (jv_var 1 rfl) fun F1 f1 => ⟨.ref a0, L, rfl, hL.on f1, okL, fun lf fvs F2 f2 hnf hlf hvs => ?_⟩)) (by decide) rfl (by decide) rfl rfl)
  have hfv := hvs.ints
  subst hfv
  refine jss_setE 3 S_law_names.nd ?_
  refine je_of (pe_lst paj) (ja_of (pa_cons pej (pa_cons pej (pa_cons pej (pa_cons pej (pa_cons pej (pa_cons pej (pa_cons pej (pa_cons pej (pa_cons pej pa_nil rfl) rfl) rfl) rfl) rfl) rfl) rfl) rfl) rfl) ?_)
  have h30 : (1000000000000000000000000000000 : Int) = 10 ^ (30 : Int).toNat := by decide
  refine JV.je jv_non fun G1 g1 => JV.je (jd_neg jd_int).int fun G2 g2 => JV.je jv_int fun G3 g3 => JV.je jv_bl fun G4 g4 => JV.je jv_str fun G5 g5 => ?_
  have g05 := (g1.trans g2).trans ((g3.trans g4).trans g5)
  refine je_of (pe_tup paj) (ja_of (pa_cons pej pa_nil rfl) (JV.je jv_int fun G6 g6 => ⟨small1 (by simp), fun t0 ht0 => ?_⟩))
  have g7 := same_new (o := .tup [V.int 0]) ht0
  refine je_of (pe_lst paj) (ja_of pa_nil ⟨small1 (by simp), fun l0 hl0 => ?_⟩)
  have g8 := same_new (o := .lst []) hl0
  refine JMF.je (α := Int) (da := PyData.int) jmf_new fun d0 G10 g10 hnd hd0 => ?_
  refine JV.je (v := .int 1000000000000000000000000000000) (by rw [h30]; exact (jd_pow jd_int jd_int ⟨by decide, by decide, by decide⟩).int) fun G11 g11 => ?_
  refine ⟨small1 (by simp), fun tp htp => ?_⟩
  have g12 := same_new (o := .lst [.non, .int (-1), .int 12, .bl true, .str "0", .ref t0, .ref l0, .ref d0, .int 1000000000000000000000000000000]) htp
  have gF := (f1.trans f2).trans ((g05.trans g6).trans (g7.trans (g8.trans (g10.trans (g11.trans g12)))))
  have gF2 := (g05.trans g6).trans (g7.trans (g8.trans (g10.trans (g11.trans g12))))
  have odd : ∀ {HF : Hp}, Same G10 HF → ∀ x ∈ ([.non, .int (-1), .int 12, .bl true, .str "0", .ref t0, .ref l0, .ref d0, .int 1000000000000000000000000000000] : List V), OddX K (NoNm R) HF x := by
    intro HF sHF x hx
    rcases List.mem_cons.mp hx with z | hx
    · subst z; exact ⟨_, .none, .non, .non, sz_none.mono (by decide) (by decide), rfl, rfl⟩
    rcases List.mem_cons.mp hx with z | hx
    · subst z; exact ⟨_, .int (-1), .int _, .int _, ⟨rfl, by decide, by decide +kernel⟩, out _ (by decide)⟩
    rcases List.mem_cons.mp hx with z | hx
    · subst z; exact ⟨_, .int 12, .int _, .int _, ⟨rfl, by decide, by decide +kernel⟩, out _ (by decide)⟩
    rcases List.mem_cons.mp hx with z | hx
    · subst z; exact ⟨_, .bool true, .bl _, .bl _, ⟨rfl, by decide, by decide +kernel⟩, rfl, rfl⟩
    rcases List.mem_cons.mp hx with z | hx
    · subst z; exact ⟨_, .str "0", .str _, .str _, ⟨rfl, by decide, by decide +kernel⟩, rfl, rfl⟩
    rcases List.mem_cons.mp hx with z | hx
    · subst z
      have h0 := ((g8.trans g10).trans sHF) _ _ (upd_same (H := G6) (a := t0) (o := .tup [V.int 0]))
      exact ⟨_, .tuple [.int 0], .tup h0, .tup (SqT.of h0) (.cons (.int 0) .nil), ⟨rfl, by decide, by decide +kernel⟩, rfl, rfl⟩
    rcases List.mem_cons.mp hx with z | hx
    · subst z
      have h0 := (g10.trans sHF) l0 (.lst []) upd_same
      exact ⟨_, .list [], .lst h0, .lst (SqL.len h0) .nil, ⟨rfl, by decide, by decide +kernel⟩, rfl, rfl⟩
    rcases List.mem_cons.mp hx with z | hx
    · subst z
      obtain ⟨kv, z1, z2⟩ := hd0
      cases z2
      have h0 := sHF _ _ z1
      exact ⟨_, .dict [], .dK h0, .mt h0, ⟨rfl, by decide, by decide +kernel⟩, rfl, rfl⟩
    rcases List.mem_cons.mp hx with z | hx
    · subst z; exact ⟨_, .int 1000000000000000000000000000000, .int _, .int _, ⟨by decide +kernel, by decide, by decide +kernel⟩, out _ (by decide)⟩
    cases hx
  have hnn : ∀ x ∈ ([.non, .int (-1), .int 12, .bl true, .str "0", .ref t0, .ref l0, .ref d0, .int 1000000000000000000000000000000] : List V).drop 1, x ≠ V.non := by
    intro x hx z
    subst z
    simp at hx
  have hxl : ([.non, .int (-1), .int 12, .bl true, .str "0", .ref t0, .ref l0, .ref d0, .int 1000000000000000000000000000000] : List V).length = 9 := rfl
  generalize hxs : ([.non, .int (-1), .int 12, .bl true, .str "0", .ref t0, .ref l0, .ref d0, .int 1000000000000000000000000000000] : List V) = xs at g12 gF gF2 odd hnn hxl ⊢
  have hlf2 := gF2 _ _ hlf
  have hodd := odd (g11.trans g12)
  refine jss_cons (js_forE 4 5 (passes_of rfl) rfl S_law_names.nd M.f_enumerate (JD.je (jd_ebusy hr (jv_var 1 rfl) (p.on gF)) fun u Ha sa hu2 => ?_))
  cases hu2 with
  | @tup ua us _ htu hbu =>
  refine ⟨ua, us, fun _ σ1 H3 => ExtN H H3 ∧ Tabs T H3 ∧ SqT K H3 ua us ∧ DpAll K H3 us (L.busy.map pB) ∧ H3 tp = some (.lst xs) ∧ H3 lf = some (.lst ((opens L).map V.int)) ∧ (∀ x ∈ xs, OddX K (NoNm R) H3 x) ∧ ∃ o4 o5 o6 o7, σ1 = [some (.ref r), some (.ref a0), some (.ref lf), some (.ref tp), o4, o5, o6, o7], rfl, ⟨extN_same (gF.trans sa), (hT.ext gF).ext sa, htu, hbu, sa _ _ upd_same, sa _ _ hlf2, fun x hx => (hodd x hx).ext (extN_same sa), _, _, _, _, rfl⟩, fun j σ1 H2 z => z.2.2.1, ?_, ?_⟩
  · rintro k v σ1 Hb H3 hv ⟨eN, hT3, htu2, hbu2, htp2, hlf3, hod, o4, o5, o6, o7, rfl⟩ s3
    have T3 := hT3.ext s3
    have hlen : us.length = L.busy.length := by rw [hbu.len, List.length_map]
    have hk : k < L.busy.length := by rw [← hlen]; exact (List.getElem?_eq_some_iff.mp hv).1
    obtain ⟨dz, hd1, hd2⟩ := hbu2.at_ hv
    rw [bzL_at hk] at hd1
    cases hd1
    have hd3 := hd2.on s3
    have eN3 := eN.trans (extN_same s3)
    have hbz := B.sim.bz k
    have hidx := B.sim.idx hk
    have htp3 := s3 _ _ htp2
    have stay : ∀ {H4 : Hp} {o4 o5 o6 o7 : Option V}, ExtN H3 H4 → Tabs T H4 → (ExtN H H4 ∧ Tabs T H4 ∧ SqT K H4 ua us ∧ DpAll K H4 us (L.busy.map pB) ∧ H4 tp = some (.lst xs) ∧ H4 lf = some (.lst ((opens L).map V.int)) ∧ (∀ x ∈ xs, OddX K (NoNm R) H4 x) ∧ ∃ p4 p5 p6 p7, [some (.ref r), some (.ref a0), some (.ref lf), some (.ref tp), o4, o5, o6, o7] = [some (V.ref r), some (.ref a0), some (.ref lf), some (.ref tp), p4, p5, p6, p7]) := fun e t =>
      ⟨eN3.trans e, t, ext_sqt ((extN_same s3).trans e) htu2, dpa_ext ((extN_same s3).trans e) _ _ hbu2, e _ _ htp3 fun _ z => (nomatch z), e _ _ (s3 _ _ hlf3) fun _ z => (nomatch z), fun x hx => (hod x hx).ext ((extN_same s3).trans e), _, _, _, _, rfl⟩
    refine jss_one ?_
    cases hz : bzL L k with
    | free =>
      rw [hz] at hd3
      cases hd3
      have hbad : ∀ x : V, badName R.cur x = true → wrA R.cur (.int (k : Nat)) x (R.now : Nat) = .bad x := fun x hx => by
        have hbf : bzAt R.cur k = .free := by rw [hbz]; exact hz
        unfold wrA
        rw [hidx]
        simp only [hbf, hx]
        rfl
      refine js_ifT (by
        have e : decide (V.non = V.non) = true := by decide
        rw [← e]
        exact jb_isN (jv_var 5 rfl)) fun H4 s4 => ?_
      obtain ⟨_, ub', bw', br', uc', e0, pL4⟩ := (le_ext eN3 hL).on s4
      cases e0
      have hwl := okL.wr
      refine jss_one (js_forL 6 (passes_of rfl) rfl S_law_names.nd (je_of (pe_op op_cat pej pej) (JV.je (jv_var 3 rfl) fun I1 i1 => JL.je (jl_sortedM rfl M.f_sorted (jm_ewrites hr (jv_var 1 rfl) (pL4.on i1)) (by omega)) fun la lvs I2 i2 hna hla hlvs => ?_)))
      have hns := hlvs.ints
      subst hns
      have hnl : (srt (keysM L.writes)).length < 60 := namesL_len okL
      refine ⟨tp, la, xs, _, rfl, rfl, (s4.trans (i1.trans i2)) _ _ htp3, hla, small1 (by rw [hxl, List.length_map]; omega), fun lz hlz => ?_⟩
      have i3 := same_new (o := .lst (xs ++ (srt (keysM L.writes)).map V.int)) hlz
      have s3z := s4.trans (i1.trans (i2.trans i3))
      have hall : ∀ x ∈ xs ++ (srt (keysM L.writes)).map V.int, OddX K (fun x => badName R.cur x = true) (upd I2 lz (.lst (xs ++ (srt (keysM L.writes)).map V.int))) x := fun x hx => by
        rcases List.mem_append.mp hx with z | z
        · obtain ⟨Tn, d, z1, z2, z3, z4⟩ := (hod x z).ext (extN_same (s3.trans s3z))
          exact ⟨Tn, d, z1, z2, z3, z4.1⟩
        · obtain ⟨m, hm, e⟩ := List.mem_map.mp z
          subst e
          have hm2 : m ∈ keysM L.writes := mem_names hm
          have h11 := B.nb m (B.li.ws m hm2)
          refine ⟨_, .int m, .int _, .int _, (sz_int0 h11.1 (by omega)).mono (by decide) (by decide), ?_⟩
          unfold badName
          have : (getM R.cur.begins m).isSome = true := getM_some.mpr (by rw [← B.sim.ky]; exact hm2)
          show (_ || (getM R.cur.begins m).isSome) = true
          rw [this, Bool.or_true]
      refine ⟨lz, (xs ++ (srt (keysM L.writes)).map V.int), fun _ σ2 J => ExtN H3 J ∧ Tabs T J ∧ J lz = some (.lst (xs ++ (srt (keysM L.writes)).map V.int)) ∧ (∀ x ∈ (xs ++ (srt (keysM L.writes)).map V.int), OddX K (fun x => badName R.cur x = true) J x) ∧ ∃ o6 o7, σ2 = [some (.ref r), some (.ref a0), some (.ref lf), some (.ref tp), some (.int (k : Nat)), some V.non, o6, o7], rfl, ⟨extN_same s3z, T3.ext s3z, upd_same, hall, _, _, rfl⟩, fun j σ2 J z => .inl (.inl z.2.2.1), ?_, ?_⟩
      · rintro j x σ2 J hx ⟨e5, T5, hlz5, ho, o6, o7, rfl⟩
        obtain ⟨Tn, d, hTh, hRp, hSz, hok⟩ := ho x (List.mem_of_getElem? hx)
        refine jss_one (js_are (n := 1) GA hr hgd (fun _ => rfl) ?_)
        refine je_of (pe_lst paj) (ja_of (pa_cons pej pa_nil rfl) ?_)
        refine je_lam TB rfl hmT huT T5 (hfree_of (show lamNB (defScope s_law_names_right) _ = true by decide +kernel)) fun f1 J6 e6 T6 n6 F1 => ?_
        refine ⟨small1 (by simp), fun lc hlc => ?_⟩
        have j7 := same_new (o := .lst [.ref f1]) hlc
        refine je_of (pe_tup paj) (ja_of (pa_cons pej (pa_cons pej pa_nil rfl) rfl) (JV.je jv_str fun J8 j8 => JV.je (jv_var 6 rfl) fun J9 j9 => ⟨small1 (by simp), fun tt htt => ?_⟩))
        have j10 := same_new (o := .tup [.str "number", x]) htt
        have j610 := j7.trans (j8.trans (j9.trans j10))
        have e510 := e6.trans (extN_same j610)
        have hR10 := rec_ext (eN3.trans (e5.trans e510)) hR
        have hTh10 := hTh.ext e510
        refine ⟨lc, tt, [f1], .num, x, d, rfl, rfl, (j8.trans (j9.trans j10)) _ _ upd_same, ?_, upd_same, rp_ext e510 _ _ hRp, hSz, by simp, fun J15 j15 => ?_⟩
        · intro g hg
          rcases List.mem_cons.mp hg with z | hg
          · subst z
            exact thk_of0 (N := ["_law_live", "_law_hand", "_law_odd_here"]) (τ := [some (.ref r), some (.int (k : Nat)), some x]) (sp := spRx K r R x Tn .num x) (show lamNB (defScope s_law_names_right) _ = true by decide +kernel) (F1.on fun b o n e => (extN_same j610) b o e n) (fun i y v' h1 h2 => by
              match i, h1, h2 with
              | 0, h1, h2 => cases h1; cases h2; exact ⟨rfl, rfl, 0, rfl, rfl⟩
              | 1, h1, h2 => cases h1; cases h2; exact ⟨rfl, rfl, 4, rfl, rfl⟩
              | 2, h1, h2 => cases h1; cases h2; exact ⟨rfl, rfl, 6, rfl, rfl⟩
              | n + 3, h1, _ => cases h1) rfl spRx_on (fun f c' A outer s H Q E hr h => je_write (n := 0) M.toMx hr passLam (jv_var 0 rfl) h.1 B.ok (jv_var 1 rfl) (.int _) (jv_var 2 rfl) h.2.1 (by rw [hbad x hok]; exact h.2.2)) (spRx_hs hR10 hTh10)
          cases hg
        · exact ⟨e5.trans (e510.trans (extN_same j15)), (T6.ext j610).ext j15, (e510.trans (extN_same j15)) _ _ hlz5 fun _ z => (nomatch z), fun y hy => (ho y hy).ext (e510.trans (extN_same j15)), _, _, rfl⟩
      · rintro σ2 J ⟨e5, T5, hlz5, ho, o6, o7, rfl⟩
        exact stay e5 T5
    | wr n b =>
      rw [hz] at hd3
      have hut : Dp K H3 v (.tuple [.str "write", .int n, .int b]) := hd3
      have hun : decide (v = V.non) = false := by cases hut; rfl
      have hbad : ∀ x : V, x ≠ .non → dnA R.cur (.int (k : Nat)) x (R.now : Nat) = .bad x := fun x hx => by
        have hbf : bzAt R.cur k = .wr n b := by rw [hbz]; exact hz
        unfold dnA
        rw [hidx]
        simp only [hbf, if_neg hx]
      refine js_ifF (by
        rw [← hun]
        exact jb_isN (jv_var 5 rfl)) fun H4 s4 => ?_
      refine jss_one (js_ifT (jb_word (k := true) (jd_ixT (jd_var 5 rfl (hut.on s4)) jd_int atI0) (by decide)) fun H5 s5 => ?_)
      have s35 := s4.trans s5
      refine jss_one (js_forL 6 (passes_of rfl) rfl S_law_names.nd (je_of (pe_op op_cat pej pej) (je_cut1 (jv_var 3 rfl) (s35 _ _ htp3) fun lc1 I1 i1 hlc1 => ?_)))
      have i2 := same_new (o := .lst (xs.drop 1)) hlc1
      refine je_of (pe_lst paj) (ja_of (pa_cons pej (pa_cons pej (pa_cons pej pa_nil rfl) rfl) rfl) (JV.je jv_int fun I3 i3 => JV.je jv_int fun I4 i4 => JV.je (v := .int n) (jd_ixT (i := 1) (jd_var 5 rfl (hut.on (s35.trans (i1.trans (i2.trans (i3.trans i4)))))) jd_int rfl).int fun I5 i5 => ⟨small1 (by simp), fun lq hlq => ?_⟩))
      have i6 := same_new (o := .lst [V.int 0, .int 5, .int n]) hlq
      refine ⟨lc1, lq, xs.drop 1, _, rfl, rfl, (i3.trans (i4.trans (i5.trans i6))) _ _ upd_same, upd_same, small1 (by rw [List.length_drop, hxl]; simp), fun lz hlz => ?_⟩
      have i7 := same_new (o := .lst (xs.drop 1 ++ [V.int 0, .int 5, .int n])) hlz
      have s3z := s35.trans (i1.trans (i2.trans (i3.trans (i4.trans (i5.trans (i6.trans i7))))))
      have hall : ∀ x ∈ xs.drop 1 ++ [V.int 0, .int 5, .int n], OddX K (fun x => x ≠ .non) (upd (upd I5 lq (.lst [V.int 0, .int 5, .int n])) lz (.lst (xs.drop 1 ++ [V.int 0, .int 5, .int n]))) x := fun x hx => by
        rcases List.mem_append.mp hx with z | z
        · obtain ⟨Tn, d, z1, z2, z3, z4⟩ := (hod x (List.mem_of_mem_drop z)).ext (extN_same (s3.trans s3z))
          exact ⟨Tn, d, z1, z2, z3, hnn x z⟩
        · have key : ∃ m : Int, x = .int m ∧ 0 ≤ m ∧ m ≤ 11 := by
            rcases List.mem_cons.mp z with e | z
            · exact ⟨0, e, by decide, by decide⟩
            rcases List.mem_cons.mp z with e | z
            · exact ⟨5, e, by decide, by decide⟩
            have e := List.mem_singleton.mp z
            have := B.nb n (B.li.ws n (mem_of_some (B.li.bk k n b hz).1))
            exact ⟨n, e, this.1, this.2⟩
          obtain ⟨m, e, m1, m2⟩ := key
          subst e
          exact ⟨_, .int m, .int _, .int _, (sz_int0 m1 (by omega)).mono (by decide) (by decide), fun z => nomatch z⟩
      refine ⟨lz, (xs.drop 1 ++ [V.int 0, .int 5, .int n]), fun _ σ2 J => ExtN H3 J ∧ Tabs T J ∧ J lz = some (.lst (xs.drop 1 ++ [V.int 0, .int 5, .int n])) ∧ (∀ x ∈ (xs.drop 1 ++ [V.int 0, .int 5, .int n]), OddX K (fun x => x ≠ .non) J x) ∧ ∃ o6 o7, σ2 = [some (.ref r), some (.ref a0), some (.ref lf), some (.ref tp), some (.int (k : Nat)), some v, o6, o7], rfl, ⟨extN_same s3z, T3.ext s3z, upd_same, hall, _, _, rfl⟩, fun j σ2 J z => .inl (.inl z.2.2.1), ?_, ?_⟩
      · rintro j x σ2 J hx ⟨e5, T5, hlz5, ho, o6, o7, rfl⟩
        obtain ⟨Tn, d, hTh, hRp, hSz, hok⟩ := ho x (List.mem_of_getElem? hx)
        refine jss_one (js_are (n := 1) GA hr hgd (fun _ => rfl) ?_)
        refine je_of (pe_lst paj) (ja_of (pa_cons pej pa_nil rfl) ?_)
        refine je_lam TB rfl hmT huT T5 (hfree_of (show lamNB (defScope s_law_names_right) _ = true by decide +kernel)) fun f1 J6 e6 T6 n6 F1 => ?_
        refine ⟨small1 (by simp), fun lc hlc => ?_⟩
        have j7 := same_new (o := .lst [.ref f1]) hlc
        refine je_of (pe_tup paj) (ja_of (pa_cons pej (pa_cons pej pa_nil rfl) rfl) (JV.je jv_str fun J8 j8 => JV.je (jv_var 6 rfl) fun J9 j9 => ⟨small1 (by simp), fun tt htt => ?_⟩))
        have j10 := same_new (o := .tup [.str "number", x]) htt
        have j610 := j7.trans (j8.trans (j9.trans j10))
        have e510 := e6.trans (extN_same j610)
        have hR10 := rec_ext (eN3.trans (e5.trans e510)) hR
        have hTh10 := hTh.ext e510
        refine ⟨lc, tt, [f1], .num, x, d, rfl, rfl, (j8.trans (j9.trans j10)) _ _ upd_same, ?_, upd_same, rp_ext e510 _ _ hRp, hSz, by simp, fun J15 j15 => ?_⟩
        · intro g hg
          rcases List.mem_cons.mp hg with z | hg
          · subst z
            exact thk_of0 (N := ["_law_live", "_law_hand", "_law_odd_here"]) (τ := [some (.ref r), some (.int (k : Nat)), some x]) (sp := spRx K r R x Tn .num x) (show lamNB (defScope s_law_names_right) _ = true by decide +kernel) (F1.on fun b o n e => (extN_same j610) b o e n) (fun i y v' h1 h2 => by
              match i, h1, h2 with
              | 0, h1, h2 => cases h1; cases h2; exact ⟨rfl, rfl, 0, rfl, rfl⟩
              | 1, h1, h2 => cases h1; cases h2; exact ⟨rfl, rfl, 4, rfl, rfl⟩
              | 2, h1, h2 => cases h1; cases h2; exact ⟨rfl, rfl, 6, rfl, rfl⟩
              | n + 3, h1, _ => cases h1) rfl spRx_on (fun f c' A outer s H Q E hr h => je_done (n := 0) M.toMx hr passLam (jv_var 0 rfl) h.1 B.ok (jv_var 1 rfl) (.int _) (jv_var 2 rfl) h.2.1 (by rw [hbad x hok]; exact h.2.2)) (spRx_hs hR10 hTh10)
          cases hg
        · exact ⟨e5.trans (e510.trans (extN_same j15)), (T6.ext j610).ext j15, (e510.trans (extN_same j15)) _ _ hlz5 fun _ z => (nomatch z), fun y hy => (ho y hy).ext (e510.trans (extN_same j15)), _, _, rfl⟩
      · rintro σ2 J ⟨e5, T5, hlz5, ho, o6, o7, rfl⟩
        exact stay e5 T5
    | rd b =>
      rw [hz] at hd3
      have hut : Dp K H3 v (.tuple [.str "read", .none, .int b]) := hd3
      have hun : decide (v = V.non) = false := by cases hut; rfl
      have hbad : ∀ x : V, hasR R.cur x = false → dnA R.cur (.int (k : Nat)) x (R.now : Nat) = .bad x := fun x hx => by
        have hbf : bzAt R.cur k = .rd b := by rw [hbz]; exact hz
        unfold dnA
        rw [hidx]
        simp only [hbf, hx]
        rfl
      refine js_ifF (by
        rw [← hun]
        exact jb_isN (jv_var 5 rfl)) fun H4 s4 => ?_
      refine jss_one (js_ifF (jb_word (k := false) (jd_ixT (jd_var 5 rfl (hut.on s4)) jd_int atI0) (by decide)) fun H5 s5 => ?_)
      have s35 := s4.trans s5
      refine jss_one (js_forL 6 (passes_of rfl) rfl S_law_names.nd (je_of (pe_op op_cat pej pej) (JV.je (jv_var 3 rfl) fun I1 i1 => JL.je (ds := (((List.range 12).filter fun i : Nat => !decide ((i : Int) ∈ opens L)).map nI).map PyData.int) (jl_lc1 (xs := List.range 12) (da := fun i => PyData.int (i : Nat)) (pr := fun i => !decide ((i : Int) ∈ opens L)) (r := fun i => PyData.int (i : Nat)) 7 rfl S_law_names.nd (blkOk_by (own := [("_law_name", 7)]) rfl) (jdi_range (n := 12) M.f_range jd_int (by omega)) (small1 (by simp)) (by rw [List.map_map]; rfl)
        (fun i hi u I3 i3 hu3 s0 H0 C cl fp => ⟨jbs_one (by cases hu3; exact jb_notinL (jv_var 7 rfl) (jv_var 2 rfl) ((s3.trans (s35.trans (i1.trans i3))) _ _ hlf3)), fun _ => jd_var 7 rfl hu3⟩)) fun la lvs I2 i2 hna hla hlvs => ?_)))
      have hns := hlvs.ints
      subst hns
      have hfl : (((List.range 12).filter fun i : Nat => !decide ((i : Int) ∈ opens L)).map nI).length ≤ 12 := by
        rw [List.length_map]
        have := List.length_filter_le (fun i : Nat => !decide ((i : Int) ∈ opens L)) (List.range 12)
        simpa using this
      refine ⟨tp, la, xs, _, rfl, rfl, (s35.trans (i1.trans i2)) _ _ htp3, hla, small1 (by rw [hxl, List.length_map]; omega), fun lz hlz => ?_⟩
      have i3 := same_new (o := .lst (xs ++ (((List.range 12).filter fun i : Nat => !decide ((i : Int) ∈ opens L)).map nI).map V.int)) hlz
      have s3z := s35.trans (i1.trans (i2.trans i3))
      have hall : ∀ x ∈ xs ++ (((List.range 12).filter fun i : Nat => !decide ((i : Int) ∈ opens L)).map nI).map V.int, OddX K (fun x => hasR R.cur x = false) (upd I2 lz (.lst (xs ++ (((List.range 12).filter fun i : Nat => !decide ((i : Int) ∈ opens L)).map nI).map V.int))) x := fun x hx => by
        rcases List.mem_append.mp hx with z | z
        · obtain ⟨Tn, d, z1, z2, z3, z4⟩ := (hod x z).ext (extN_same (s3.trans s3z))
          exact ⟨Tn, d, z1, z2, z3, z4.2⟩
        · obtain ⟨m, hm, e⟩ := List.mem_map.mp z
          subst e
          obtain ⟨i, hi, e⟩ := List.mem_map.mp hm
          subst e
          obtain ⟨i1', i2'⟩ := List.mem_filter.mp hi
          have i12 := List.mem_range.mp i1'
          have hno : (i : Int) ∉ opens L := by simpa using i2'
          refine ⟨_, .int (i : Nat), .int _, .int _, (sz_nat (by omega)).mono (by decide) (by decide), ?_⟩
          show ((getM R.cur.begins (i : Int)).isSome && decide (((getM R.cur.reads (i : Int)).getD []).length < 4)) = false
          cases e : (getM R.cur.begins (i : Int)).isSome with
          | false => rfl
          | true =>
            rw [Bool.true_and]
            refine decide_eq_false fun h4 => hno ?_
            rw [← B.sim.rd] at h4
            exact List.mem_filter.mpr ⟨in_names (by rw [B.sim.ky]; exact getM_some.mp e), by simpa using h4⟩
      refine ⟨lz, (xs ++ (((List.range 12).filter fun i : Nat => !decide ((i : Int) ∈ opens L)).map nI).map V.int), fun _ σ2 J => ExtN H3 J ∧ Tabs T J ∧ J lz = some (.lst (xs ++ (((List.range 12).filter fun i : Nat => !decide ((i : Int) ∈ opens L)).map nI).map V.int)) ∧ (∀ x ∈ (xs ++ (((List.range 12).filter fun i : Nat => !decide ((i : Int) ∈ opens L)).map nI).map V.int), OddX K (fun x => hasR R.cur x = false) J x) ∧ ∃ o6 o7, σ2 = [some (.ref r), some (.ref a0), some (.ref lf), some (.ref tp), some (.int (k : Nat)), some v, o6, o7], rfl, ⟨extN_same s3z, T3.ext s3z, upd_same, hall, _, _, rfl⟩, fun j σ2 J z => .inl (.inl z.2.2.1), ?_, ?_⟩
      · rintro j x σ2 J hx ⟨e5, T5, hlz5, ho, o6, o7, rfl⟩
        obtain ⟨Tn, d, hTh, hRp, hSz, hok⟩ := ho x (List.mem_of_getElem? hx)
        refine jss_one (js_are (n := 1) GA hr hgd (fun _ => rfl) ?_)
        refine je_of (pe_lst paj) (ja_of (pa_cons pej pa_nil rfl) ?_)
        refine je_lam TB rfl hmT huT T5 (hfree_of (show lamNB (defScope s_law_names_right) _ = true by decide +kernel)) fun f1 J6 e6 T6 n6 F1 => ?_
        refine ⟨small1 (by simp), fun lc hlc => ?_⟩
        have j7 := same_new (o := .lst [.ref f1]) hlc
        refine je_of (pe_tup paj) (ja_of (pa_cons pej (pa_cons pej pa_nil rfl) rfl) (JV.je jv_str fun J8 j8 => JV.je (jv_var 6 rfl) fun J9 j9 => ⟨small1 (by simp), fun tt htt => ?_⟩))
        have j10 := same_new (o := .tup [.str "number", x]) htt
        have j610 := j7.trans (j8.trans (j9.trans j10))
        have e510 := e6.trans (extN_same j610)
        have hR10 := rec_ext (eN3.trans (e5.trans e510)) hR
        have hTh10 := hTh.ext e510
        refine ⟨lc, tt, [f1], .num, x, d, rfl, rfl, (j8.trans (j9.trans j10)) _ _ upd_same, ?_, upd_same, rp_ext e510 _ _ hRp, hSz, by simp, fun J15 j15 => ?_⟩
        · intro g hg
          rcases List.mem_cons.mp hg with z | hg
          · subst z
            exact thk_of0 (N := ["_law_live", "_law_hand", "_law_odd_here"]) (τ := [some (.ref r), some (.int (k : Nat)), some x]) (sp := spRx K r R x Tn .num x) (show lamNB (defScope s_law_names_right) _ = true by decide +kernel) (F1.on fun b o n e => (extN_same j610) b o e n) (fun i y v' h1 h2 => by
              match i, h1, h2 with
              | 0, h1, h2 => cases h1; cases h2; exact ⟨rfl, rfl, 0, rfl, rfl⟩
              | 1, h1, h2 => cases h1; cases h2; exact ⟨rfl, rfl, 4, rfl, rfl⟩
              | 2, h1, h2 => cases h1; cases h2; exact ⟨rfl, rfl, 6, rfl, rfl⟩
              | n + 3, h1, _ => cases h1) rfl spRx_on (fun f c' A outer s H Q E hr h => je_done (n := 0) M.toMx hr passLam (jv_var 0 rfl) h.1 B.ok (jv_var 1 rfl) (.int _) (jv_var 2 rfl) h.2.1 (by rw [hbad x hok]; exact h.2.2)) (spRx_hs hR10 hTh10)
          cases hg
        · exact ⟨e5.trans (e510.trans (extN_same j15)), (T6.ext j610).ext j15, (e510.trans (extN_same j15)) _ _ hlz5 fun _ z => (nomatch z), fun y hy => (ho y hy).ext (e510.trans (extN_same j15)), _, _, rfl⟩
      · rintro σ2 J ⟨e5, T5, hlz5, ho, o6, o7, rfl⟩
        exact stay e5 T5
  · rintro σ1 H3 ⟨eN, hT3, htu2, hbu2, htp2, hlf3, hod, o4, o5, o6, o7, rfl⟩
    refine jss_one (js_ret (je_call2 (E := E0) (g_law_stands (P := P) (w := w) (base := base) M) hr hgd passL (ja_of (pa_cons pej (pa_cons pej pa_nil rfl) rfl) (JV.je (jv_var 0 rfl) fun H4 s4 => JV.je (jv_var 1 rfl) fun H5 s5 => ?_)) (by decide) rfl (by decide) rfl rfl))
    have e5 := eN.trans (extN_same (s4.trans s5))
    exact ⟨r, R, .ref a0, L, rfl, rec_ext e5 hR, B.ok, le_ext e5 hL, okL, B.sim.shows, sz_due B.li B.n6 B.nb B.b6, fun H6 s6 => q H6 (e5.trans (extN_same s6)) ((hT3.ext (s4.trans s5)).ext s6)⟩
end
end K28
-- KD25
/-! KD25: a drawn recorder is led rightly. -/
namespace K28
open PySem PySem.Spec PyProof.Rows L2 LamX
/-! ### tables stay -/
section
variable {K : PySem.W.Frag} {H H' : Hp} {T : List (Addr × Str)}
theorem tabs_dr {a l : Addr} {t : Nat} (h : Tabs T H) (s : DrF a l H H') (hd : Dr K H a l t) : Tabs T H' := fun p hp => by
  obtain ⟨ps, h1, h2, h3⟩ := h p hp
  refine ⟨ps, dr_at s hd h1 (fun _ _ z => nomatch z) (fun _ z => nomatch z), h2, fun pos cv hc => ?_⟩
  obtain ⟨c, e1, e2⟩ := h3 pos cv hc
  exact ⟨c, e1, dr_at s hd e2 (fun _ _ z => nomatch z) (fun _ z => nomatch z)⟩
theorem tabs_sx {r : Addr} {R : RD} (h : Tabs T H) (s : SameX r H H') (hr : RecAt K H r R) : Tabs T H' := fun p hp => by
  obtain ⟨ps, h1, h2, h3⟩ := h p hp
  refine ⟨ps, sx_at s hr h1 (fun _ _ _ _ z => nomatch z), h2, fun pos cv hc => ?_⟩
  obtain ⟨c, e1, e2⟩ := h3 pos cv hc
  exact ⟨c, e1, sx_at s hr e2 (fun _ _ _ _ z => nomatch z)⟩
theorem LeAt.more {v : V} {L : LE} (h : LeAt K H v L) (s : Same H H') : LeAt K H' v L := h.on s
end
section
variable {X : Cx} {e e1 e2 o a b : Expr} {es : List Expr} {σ : L2.St} {H : Hp} {D : Ends} {p q1 q2 p1 p2 pos apos tpos : Pos} {n : Nat} {d : PyData} {pl : Sem Bool} {Q : VK} {T : Bool → Hp → Prop} {body : List Stmt}
/-- for x in range(e), e an expression that changes things -/
theorem js_forRE (i : Nat) {x : Str} {px : Pos} (hp : PassesOwn (model X.prog X.w) X.A X.env X.xe) (hc : X.calm = true) (hN : X.N.Nodup) (hm : X.mg "range" = none)
    (hl : JE X e σ H fun y H1 => ∃ n : Nat, y = .int (n : Int) ∧ n < 2 ^ 62 ∧ ∃ Pv : Nat → L2.St → Hp → Prop, Pv 0 σ H1 ∧ (∀ j σ1 H2, j < n → Pv j σ1 H2 → JSs X body { D with nx := Pv (j + 1), ct := Pv (j + 1), bk := D.nx } (σ1.set i (some (.int (j : Int)))) H2) ∧ ∀ σ1 H2, Pv n σ1 H2 → D.nx σ1 H2)
    (hx : X.N[i]? = some x := by rfl) (hlo : Loc X.env.scope x := by first | exact Or.inl rfl | exact Or.inr rfl) (hf : X.fn x = true ∨ X.env.scope.names.lookup x = some .local := by first | exact .inl rfl | exact .inr rfl) (hg : Gl X "range" := by rfl) (he : starEach [e] X.env = [(false, eval e X.env)] := by rfl)
    (hs : ∀ x, foldedSetIterable (.Call (.Name "range" p) [e] [] p2) X.env x = pure x := by intro _; rfl) : JS X (.For (.Name x px) (.Call (.Name "range" p) [e] [] p2) body [] pos) D σ H :=
  js_of (ps_for hp hc (pi_range1 hg hm (pa_cons pej pa_nil he) he) (pg_name hN hx hlo hf) pssj hs) (JE.mono hl fun y H1 ⟨n, h1, hz, Pv, h2, h3, h4⟩ => by
    subst h1
    refine ⟨(n : Int), rfl, by omega, by omega, ?_⟩
    have e : (n : Int).toNat = n := rfl
    rw [e]
    refine for_it walk_range Pv h2 (fun _ _ _ _ _ => trivial) (fun j v σ1 H2 H' hj z y => ?_) h4
    obtain ⟨e1, e2⟩ := y
    subst e1 e2
    have e3 : (0 : Int) + (j : Int) = (j : Int) := Int.zero_add _
    show gName i (V.int (0 + (j : Int))) σ1 _ _
    rw [e3]
    exact h3 j σ1 _ hj z)
/-- k + _law_draw(a, m) -/
theorem je_addDraw {ad l : Addr} {t m k j1 j2 : Nat} {x : Str} {p3 p4 : Pos} (M : Mo X.K X.mg) (hr : Room (n + 2) X.A) (h1 : JV X (.Name x p3) σ H (.ref ad)) (hD : Dr X.K H ad l t) (ht : t ≤ 50000) (m1 : 1 ≤ m) (m2 : m ≤ 1000) (q : ∀ (r : Nat) H', r < m → DrF ad l H H' → Dr X.K H' ad l (t + 1) → Q (.int ((k + r : Nat) : Int)) H')
    (hg : Gl X "_law_draw" := by rfl) (he : starEach [.Name x p3, .Constant (.int (m : Nat)) j2 p4] X.env = (false, eval (.Name x p3) X.env) :: starEach [.Constant (.int (m : Nat)) j2 p4] X.env := by rfl) (he2 : starEach [.Constant (.int (m : Nat)) j2 p4] X.env = (false, eval (.Constant (.int (m : Nat)) j2 p4) X.env) :: starEach [] X.env := by rfl) (hpl : (backTo q1 (starEach [.Constant (.int (m : Nat)) j2 p4] X.env)).any (·.1) = false := by rfl) :
    JE X (.BinOp (.Constant (.int (k : Nat)) j1 p1) .Add (.Call (.Name "_law_draw" p) [.Name x p3, .Constant (.int (m : Nat)) j2 p4] [] q1) pos) σ H Q :=
  je_of (pe_op op_add pej pej) (JV.je (jv_int (i := (k : Nat))) fun H1 s1 => je_draw (n := n) (m := m) M hr (h1.on s1) (jd_int (i := (m : Nat))) (hD.on s1) ht m1 m2 (fun r H' hrm fr hD' => ⟨(k : Int), (r : Int), rfl, rfl, by
    have e : (k : Int) + (r : Int) = ((k + r : Nat) : Int) := by omega
    show Q (.int ((k : Int) + (r : Int))) H'
    rw [e]
    exact q r H' hrm ((same_dr s1).trans fr) hD'⟩) hg he he2 hpl)
/-- repr(a) != repr(b), both of the same int -/
theorem jt_reprNeI (hm : X.mg "repr" = none) (ha : JE X a σ H fun v H1 => ∃ i : Int, v = .int i ∧ i.natAbs.log2 < 1920 ∧ JE X b σ H1 fun u H2 => u = .int i ∧ T false H2)
    (hgl : Gl X "repr" := by rfl) (h1 : starEach [a] X.env = (false, eval a X.env) :: starEach [] X.env := by rfl) (h2 : starEach [b] X.env = (false, eval b X.env) :: starEach [] X.env := by rfl) (hpl1 : (backTo q1 (starEach [] X.env)).any (·.1) = false := by rfl) (hpl2 : (backTo q2 (starEach [] X.env)).any (·.1) = false := by rfl)
    (hmk : behindInMarks .NotEq (.Call (.Name "repr" p2) [b] [] q2) = false := by first | exact nomark _ | rfl) : JT X (.Compare (.Call (.Name "repr" p1) [a] [] q1) [.NotEq] [.Call (.Name "repr" p2) [b] [] q2] pos) σ H T :=
  jt_of (pt_cmpR op_ne pej pej hmk) (je_blt SkE.call_repr_int hm boot_repr (ja_of (pa_cons pej pa_nil h1) (JE.mono ha fun v H1 ⟨i, e1, hi, hb⟩ => ⟨i, by rw [e1], hi, je_blt SkE.call_repr_int hm boot_repr (ja_of (pa_cons pej pa_nil h2) (JE.mono hb fun u H2 ⟨e2, t⟩ => ⟨i, by rw [e2], hi, rfl, _, rfl, (by
    have e : (!decide (V.str (toString i : String) = V.str (toString i : String))) = false := by rw [decide_eq_true rfl]; rfl
    rw [e]
    exact t)⟩)) hgl h2 hpl2⟩)) hgl h1 hpl1)
/-- not f(..), f telling True -/
theorem jt_notE (h : JE X e σ H fun v H1 => v = .bl true ∧ T false H1) (he : ∀ whole, isTrue e X.env whole = (do let v ← whole; standAt e.pos; holding [v] (truthy v)) := by intro _; rfl) : JT X (.UnaryOp .Not e pos) σ H T :=
  jt_of (pt_not ptj) (jt_of (pt_val pej he) (JE.mono h fun v H1 ⟨e, t⟩ => ⟨true, e, t⟩))
theorem jt_or2 (ha : JT X a σ H fun k H1 => k = false ∧ JT X b σ H1 T) : JT X (.BoolOp .Or [a, b] pos) σ H T :=
  jw_t (jw_of (pw_or ptj pwj) (JT.mono ha fun k H1 ⟨e, h⟩ => by
    subst e
    exact iteF (jw_of (pw_or1 ptj) h)))
/-- dict(d), d an entry: a new one -/
theorem je_dictL {L : LE} {v : V} (hm : X.mg "dict" = none) (ha : JV X e σ H v) (hL : LeAt X.K H v L) (q : ∀ u H', Same H H' → LeAt X.K H' u L → Q u H')
    (hg : Gl X "dict" := by rfl) (he : starEach [e] X.env = (false, eval e X.env) :: starEach [] X.env := by rfl) (hpl : (backTo pos (starEach [] X.env)).any (·.1) = false := by rfl) : JE X (.Call (.Name "dict" p) [e] [] pos) σ H Q := by
  obtain ⟨a, ub, bw, br, uc, rfl, hp⟩ := hL
  exact je_ty call_dictD hm rfl (ja_of (pa_cons pej pa_nil he) (ha H (Same.refl _) _ fun H2 s2 => ⟨a, _, rfl, .inl (s2 _ _ hp.at_), fun l hl => by
    have s := s2.trans (same_new (o := .dK (entF ub bw br L.many uc)) hl)
    exact q _ _ s ⟨l, ub, bw, br, uc, rfl, upd_same, hp.bu.on s, hp.wr.on s, hp.re.on s, hp.ce.on s⟩⟩)) hg he hpl
/-- l[:e], e an expression that changes things -/
theorem je_cutTo {ns : List Int} {pe : Pos} (hl : JL X (.List es pe) σ H (ns.map PyData.int)) (hu : ∀ c H1, Same H H1 → H1 c = some (.lst (ns.map V.int)) → H c = none → JE X e σ H1 fun v H2 => ∃ k : Nat, v = .int (k : Nat) ∧ H2 c = some (.lst (ns.map V.int)) ∧ ∀ p, H2 p = none → Q (.ref p) (upd H2 p (.lst ((ns.take k).map V.int)))) : JE X (.Subscript (.List es pe) (.Slice none (some e) none p2) pos) σ H Q :=
  je_of (pe_slice sl_list pej po_none (po_some pej)) (hl H (Same.refl _) _ fun c vs H1 s1 hn hc hd => by
    have hv := hd.ints
    subst hv
    show JE X e σ H1 _
    refine JE.mono (hu c H1 s1 hc hn) fun v H2 ⟨k, e1, h2, q⟩ => ⟨(k : Int), e1, c, _, rfl, SqL.len h2, fun p hp => ?_⟩
    have e : cutV (ns.map V.int) none (some (k : Int)) = (ns.take k).map V.int := by
      unfold cutV
      rw [HT.sIx_none, HT.sIx_nat, List.drop_zero, Nat.sub_zero]
      by_cases h : k ≤ (ns.map V.int).length
      · rw [Nat.min_eq_left h, List.map_take]
      · rw [List.length_map] at h
        rw [Nat.min_eq_right (by rw [List.length_map]; omega), List.take_of_length_le (Nat.le_refl _), List.take_of_length_le (by omega)]
    rw [e]
    exact q p hp)
end
theorem jb_to {X : Cx} {c : Expr} {σ : L2.St} {H : Hp} {k k' : Bool} (h : JB X c σ H k) (e : k = k') : JB X c σ H k' := e ▸ h
theorem ddOk_of {L : LE} {ns : List Int} {d : Dd} (D : DeedOk L ns d) : DdOk L d := by
  cases d with
  | wr h n => exact ⟨D.1, trivial⟩
  | rd h => exact ⟨D.1, trivial⟩
  | dw h => exact ⟨D.1, D.2⟩
  | dr h n => exact ⟨D.1, D.2.1⟩
theorem jd_lastC {X : Cx} {o1 o2 : Expr} {σ : L2.St} {H : Hp} {n j1 j2 j3 j4 kt : Nat} {p1 p2 p3 p4 p5 p6 p7 p8 p9 p10 p11 : Pos} {L : LE} {v : V} (hr : Room n X.A) (h1 : JV X o1 σ H v) (h2 : JV X o2 σ H v) (hL : LeAt X.K H v L) :
    JD X (.IfExp (.Compare (.Subscript o2 (.Constant (.str "cells") j2 p5) p6) [.NotEq] [.Tuple [] kt p7] p8) (.Subscript (.Subscript o1 (.Constant (.str "cells") j1 p1) p2) (.UnaryOp .USub (.Constant (.int 1) j3 p3) p4) p9) (.Constant (.int 0) j4 p11) p10) σ H (.int (lastC L)) := by
  obtain ⟨a, ub, bw, br, uc, rfl, p⟩ := hL
  refine jd_if (p := !(L.cells.map PyData.int).isEmpty) (jb_fullT hr (jd_ecells hr h2 p) (shaped_intsT L.cells)) (fun hb => ?_) fun hb => ?_
  · refine jd_ixT (jd_ecells hr h1 p) (jd_neg jd_int) (atI_last ?_)
    unfold lastC
    cases e : L.cells.getLast? with
    | none =>
      rw [List.getLast?_eq_none_iff] at e
      rw [e] at hb
      cases hb
    | some z => rw [List.getLast?_map, e]; rfl
  · have e : lastC L = 0 := by
      unfold lastC
      cases e : L.cells with
      | nil => rfl
      | cons x l => rw [e] at hb; cases hb
    rw [e]
    exact jd_int
theorem log_small {i : Int} (h0 : 0 ≤ i) (h : i ≤ 12) : i.natAbs.log2 < 1920 := by
  have : i.natAbs ≤ 12 := by omega
  by_cases h0 : i.natAbs = 0
  · rw [h0]; decide
  · exact Nat.lt_of_lt_of_le ((Nat.log2_lt h0).mpr (Nat.lt_of_le_of_lt this (by decide : 12 < 2 ^ 4))) (by decide)
def spRight (K : PySem.W.Frag) (T : List (Addr × Str)) : Sp := fun vs H Q _ => ∃ a l t, vs = [.ref a] ∧ Dr K H a l t ∧ t ≤ 2000 ∧ Tabs T H ∧ ∀ H' t', Dr K H' a l t' → t' ≤ t + 200 → Tabs T H' → Q (.bl true) H'
def allN : List Int := [0, 3, 11, 5, 7, 1]
section
variable {P : Program} {w : World} {K : PySem.W.Frag} {mg : Str → Option Value} {base : Heap}
theorem S_law_right : FnScope ["_law_state", "_law_many", "_law_live", "_law_entry", "_law_names_so", "_law_turn", "_law_deed_here", "_law_later"] ["_law_state"] (defScope s_law_right) := ⟨rfl, rfl, rfl, by decide +kernel, rfl, by decide +kernel, by decide +kernel⟩
/-- what stands in the loop -/
structure LoopI (K : PySem.W.Frag) (T : List (Addr × Str)) (a l r q : Addr) (ns : List Int) (t0 j : Nat) (ve : V) (R : RD) (L : LE) (H : Hp) : Prop where
  rc : RecAt K H r R
  le : LeAt K H ve L
  bo : Both R L ns
  mj : L.many ≤ j
  dr : ∃ t, t ≤ t0 + 3 * j ∧ Dr K H a l t
  nm : H q = some (.lst (ns.map V.int))
  tb : Tabs T H
  ql : q ≠ l
theorem LoopI.on {T : List (Addr × Str)} {a l r q : Addr} {ns : List Int} {t0 j : Nat} {ve : V} {R : RD} {L : LE} {H H' : Hp} (h : LoopI K T a l r q ns t0 j ve R L H) (s : Same H H') : LoopI K T a l r q ns t0 j ve R L H' :=
  ⟨h.rc.on s, h.le.on s, h.bo, h.mj, let ⟨t, h1, h2⟩ := h.dr; ⟨t, h1, h2.on s⟩, s _ _ h.nm, h.tb.ext s, h.ql⟩
theorem LoopI.ext {T : List (Addr × Str)} {a l r q : Addr} {ns : List Int} {t0 j : Nat} {ve : V} {R : RD} {L : LE} {H H' : Hp} (h : LoopI K T a l r q ns t0 j ve R L H) (s : ExtN H H') (t : Tabs T H') : LoopI K T a l r q ns t0 j ve R L H' :=
  ⟨rec_ext s h.rc, le_ext s h.le, h.bo, h.mj, let ⟨t, h1, h2⟩ := h.dr; ⟨t, h1, dr_ext s h2⟩, s _ _ h.nm fun _ z => (nomatch z), t, h.ql⟩
theorem LoopI.next {T : List (Addr × Str)} {a l r q : Addr} {ns : List Int} {t0 j : Nat} {ve : V} {R : RD} {L : LE} {H : Hp} (h : LoopI K T a l r q ns t0 j ve R L H) : LoopI K T a l r q ns t0 (j + 1) ve R L H :=
  ⟨h.rc, h.le, h.bo, Nat.le_succ_of_le h.mj, let ⟨t, h1, h2⟩ := h.dr; ⟨t, by omega, h2⟩, h.nm, h.tb, h.ql⟩
end
section
variable {X : Cx} {e1 e2 : Expr} {σ : L2.St} {H : Hp} {D : Ends} {p pos : Pos} {n : Nat} {Q : VK} {T : List (Addr × Str)} {a l r q : Addr} {ns : List Int} {t0 j : Nat} {ve : V} {R : RD} {L : LE}
theorem je_standsI (M : Mz X.prog X.K X.mg) (hr : Room (n + 9) X.A) (hg : X.A.guards = some []) (h1 : JV X e1 σ H (.ref r)) (h2 : JV X e2 σ H ve) (hI : LoopI X.K T a l r q ns t0 j ve R L H) (qq : ∀ H', Same H H' → Q (.bl true) H')
    (hgl : Gl X "_law_stands" := by rfl) (he : starEach [e1, e2] X.env = (false, eval e1 X.env) :: starEach [e2] X.env := by rfl) (he2 : starEach [e2] X.env = (false, eval e2 X.env) :: starEach [] X.env := by rfl) (hpl : (backTo pos (starEach [e2] X.env)).any (·.1) = false := by rfl) : JE X (.Call (.Name "_law_stands" p) [e1, e2] [] pos) σ H Q :=
  je_call2 (E := E0) (g_law_stands (P := X.prog) (w := X.w) (base := X.base) M) hr hg passL (ja_of (pa_cons pej (pa_cons pej pa_nil he2) he) (h1 H (Same.refl _) _ fun H4 s4 => h2 H4 s4 _ fun H5 s5 =>
    ⟨r, R, ve, L, rfl, hI.rc.on (s4.trans s5), hI.bo.ok, hI.le.on (s4.trans s5), hI.bo.lok, hI.bo.sim.shows, sz_due hI.bo.li hI.bo.n6 hI.bo.nb hI.bo.b6, fun H6 s6 => qq H6 ((s4.trans s5).trans s6)⟩)) (by omega) hgl (by decide) he hpl
theorem je_askedI (M : Mz X.prog X.K X.mg) (TT : TbX X.K X.mg X.base T "_law_asked_right") (hr : Room (n + 13) X.A) (hg : X.A.guards = some []) (h1 : JV X e1 σ H (.ref r)) (h2 : JV X e2 σ H ve) (hI : LoopI X.K T a l r q ns t0 j ve R L H) (hm : L.many < 900) (qq : ∀ H', ExtN H H' → Tabs T H' → Q (.bl true) H')
    (hgl : Gl X "_law_asked_right" := by rfl) (he : starEach [e1, e2] X.env = (false, eval e1 X.env) :: starEach [e2] X.env := by rfl) (he2 : starEach [e2] X.env = (false, eval e2 X.env) :: starEach [] X.env := by rfl) (hpl : (backTo pos (starEach [e2] X.env)).any (·.1) = false := by rfl) : JE X (.Call (.Name "_law_asked_right" p) [e1, e2] [] pos) σ H Q :=
  je_call2 (E := E0) (g_law_asked (P := X.prog) (w := X.w) (base := X.base) M TT) hr hg passL (ja_of (pa_cons pej (pa_cons pej pa_nil he2) he) (h1 H (Same.refl _) _ fun H4 s4 => h2 H4 s4 _ fun H5 s5 =>
    ⟨r, R, ve, L, ns, rfl, hI.rc.on (s4.trans s5), hI.le.on (s4.trans s5), hI.bo, hm, hI.tb.ext (s4.trans s5), fun H6 s6 t6 => qq H6 ((extN_same (s4.trans s5)).trans s6) t6⟩)) (by omega) hgl (by decide) he hpl
theorem je_handsI (M : Mz X.prog X.K X.mg) (TT : TbX X.K X.mg X.base T "_law_hands_right") (hr : Room (n + 15) X.A) (hg : X.A.guards = some []) (h1 : JV X e1 σ H (.ref r)) (h2 : JV X e2 σ H ve) (hI : LoopI X.K T a l r q ns t0 j ve R L H) (qq : ∀ H', ExtN H H' → Tabs T H' → Q (.bl true) H')
    (hgl : Gl X "_law_hands_right" := by rfl) (he : starEach [e1, e2] X.env = (false, eval e1 X.env) :: starEach [e2] X.env := by rfl) (he2 : starEach [e2] X.env = (false, eval e2 X.env) :: starEach [] X.env := by rfl) (hpl : (backTo pos (starEach [e2] X.env)).any (·.1) = false := by rfl) : JE X (.Call (.Name "_law_hands_right" p) [e1, e2] [] pos) σ H Q :=
  je_call2 (E := E0) (g_law_hands (P := X.prog) (w := X.w) (base := X.base) M TT) hr hg passL (ja_of (pa_cons pej (pa_cons pej pa_nil he2) he) (h1 H (Same.refl _) _ fun H4 s4 => h2 H4 s4 _ fun H5 s5 =>
    ⟨r, R, ve, L, rfl, hI.rc.on (s4.trans s5), hI.bo.ok, hI.le.on (s4.trans s5), hI.bo.lok, ⟨hI.bo.sim.bu, hI.bo.b1⟩, hI.tb.ext (s4.trans s5), fun H6 s6 t6 => qq H6 ((extN_same (s4.trans s5)).trans s6) t6⟩)) (by omega) hgl (by decide) he hpl
theorem je_namesI (M : Mz X.prog X.K X.mg) (TT : TbX X.K X.mg X.base T "_law_names_right") (hr : Room (n + 15) X.A) (hg : X.A.guards = some []) (h1 : JV X e1 σ H (.ref r)) (h2 : JV X e2 σ H ve) (hI : LoopI X.K T a l r q ns t0 j ve R L H) (qq : ∀ H', ExtN H H' → Tabs T H' → Q (.bl true) H')
    (hgl : Gl X "_law_names_right" := by rfl) (he : starEach [e1, e2] X.env = (false, eval e1 X.env) :: starEach [e2] X.env := by rfl) (he2 : starEach [e2] X.env = (false, eval e2 X.env) :: starEach [] X.env := by rfl) (hpl : (backTo pos (starEach [e2] X.env)).any (·.1) = false := by rfl) : JE X (.Call (.Name "_law_names_right" p) [e1, e2] [] pos) σ H Q :=
  je_call2 (E := E0) (g_law_names (P := X.prog) (w := X.w) (base := X.base) M TT) hr hg passL (ja_of (pa_cons pej (pa_cons pej pa_nil he2) he) (h1 H (Same.refl _) _ fun H4 s4 => h2 H4 s4 _ fun H5 s5 =>
    ⟨r, R, ve, L, ns, rfl, hI.rc.on (s4.trans s5), hI.le.on (s4.trans s5), hI.bo, hI.tb.ext (s4.trans s5), fun H6 s6 t6 => qq H6 ((extN_same (s4.trans s5)).trans s6) t6⟩)) (by omega) hgl (by decide) he hpl
end
section
variable {P : Program} {w : World} {K : PySem.W.Frag} {mg : Str → Option Value} {base : Heap}
theorem g_law_right {T : List (Addr × Str)} (M : Mz P K mg) (TA : TbX K mg base T "_law_asked_right") (TH : TbX K mg base T "_law_hands_right") (TN : TbX K mg base T "_law_names_right") : FnG2 P w K mg base 16 "_law_right" ["_law_state"] (spRight K T) := by
  refine fng2 M.d_law_right S_law_right (fun vs H Q E ⟨a, l, t, h, _⟩ => by rw [h]; rfl) (fun f cdv A outer s H vs Q E hr hgd hcd ⟨a, l, t, e, hD, ht, hT, qq⟩ => ?_) (fun _ _ _ _ _ _ us hl => match us, hl with | [_], _ => rfl)
  subst e
  refine jss_setE 1 S_law_right.nd (je_addDraw (n := 13) (k := 1) (m := 4) M.toMo hr (jv_var 0 rfl) hD (by omega) (by decide) (by decide) fun m0 H1 hm0 fr1 hD1 => ?_)
  have T1 := tabs_dr hT fr1 hD
  refine jss_par 2 3 rfl S_law_right.nd (je_Recorder (n := 10) (E := E0) M.toMx hr passL (jv_var 1 rfl) (.int _) (fun z => ?_) fun k hk k1 k2 r H2 s2 hnr hR2 => ?_)
  · have z : (decide (1 ≤ ((1 + m0 : Nat) : Int)) && decide (((1 + m0 : Nat) : Int) ≤ 6)) = false := z
    rw [decide_eq_true (by omega), decide_eq_true (by omega)] at z
    cases z
  have ek : k = 1 + m0 := by
    have := V.int.inj hk
    omega
  subst ek
  refine je_call (E := E0) (g_law_empty (P := P) (w := w) (base := base) M.toMo) hr passL (ja_of (pa_cons pej pa_nil rfl) (JV.je (jv_var 1 rfl) fun H3 s3 => ⟨1 + m0, rfl, k1, k2, fun ve H4 s4 hL4 => ?_⟩)) (by decide) rfl (by decide) rfl rfl
  have s24 := s3.trans s4
  have hD4 := hD1.on (s2.trans s24)
  have hR4 := hR2.on s24
  have T4 := T1.ext (s2.trans s24)
  refine jss_setE 4 S_law_right.nd (je_cutTo (ns := allN) (jl_lst (jds_cons jd_int (jds_cons jd_int (jds_cons jd_int (jds_cons jd_int (jds_cons jd_int (jds_cons jd_int jds_nil)))))) (small1 (by simp [allN]))) fun c5 H5 s5 hc5 hn5 => je_addDraw (n := 13) (k := 1) (m := 6) M.toMo hr (jv_var 0 rfl) (hD4.on s5) (by omega) (by decide) (by decide) fun m1 H6 hm1 fr6 hD6 => ?_)
  have hcl : c5 ≠ l := by obtain ⟨xs, z⟩ := hD4.snd; exact Ne.symm (ne_of_none z hn5)
  have hca : c5 ≠ a := by obtain ⟨v, kv, z⟩ := hD4.fst; exact Ne.symm (ne_of_none z hn5)
  refine ⟨1 + m1, rfl, fr6 _ _ hca hcl hc5, fun q hq => ?_⟩
  have s7 := same_new (o := .lst ((allN.take (1 + m1)).map V.int)) hq
  have n6 : (allN.take (1 + m1)).length ≤ 6 := by rw [List.length_take]; exact Nat.min_le_right _ _
  have nb : ∀ n ∈ allN.take (1 + m1), 0 ≤ n ∧ n ≤ 11 := fun n hn => by
    have := List.mem_of_mem_take hn
    simp [allN] at this
    omega
  have hR6 := rec_dr fr6 (hD4.on s5) (hR4.on s5)
  have hL6 := le_dr fr6 (hD4.on s5) (hL4.on s5)
  have T6 := tabs_dr (T4.ext s5) fr6 (hD4.on s5)
  have hD7 := hD6.on s7
  have hql : q ≠ l := by obtain ⟨xs, z⟩ := hD6.snd; exact Ne.symm (ne_of_none z hq)
  generalize hns : allN.take (1 + m1) = ns at *
  have I0 : LoopI K T a l r q ns (t + 3) 0 ve (rec0 (1 + m0)) (ent0 (1 + m0)) (upd H6 q (.lst (ns.map V.int))) := ⟨hR6.on s7, hL6.on s7, both0 k1 k2 n6 nb, Nat.zero_le _, ⟨t + 1 + 1, by omega, hD7⟩, upd_same, T6.ext s7, hql⟩
  refine jss_cons (js_forRE 5 (passes_of rfl) rfl S_law_right.nd M.f_range (je_addDraw (n := 13) (k := 6) (m := 35) M.toMo hr (jv_var 0 rfl) hD7 (by omega) (by decide) (by decide) fun m2 H8 hm2 fr8 hD8 => ?_))
  have I8 : LoopI K T a l r q ns (t + 3) 0 ve (rec0 (1 + m0)) (ent0 (1 + m0)) H8 := by
    have hqa : q ≠ a := by obtain ⟨v, kv, z⟩ := hD6.fst; exact Ne.symm (ne_of_none z hq)
    exact ⟨rec_dr fr8 hD7 I0.rc, le_dr fr8 hD7 I0.le, I0.bo, I0.mj, ⟨_, by omega, hD8⟩, fr8 _ _ hqa hql I0.nm, tabs_dr I0.tb fr8 hD7, hql⟩
  refine ⟨6 + m2, rfl, by omega, fun j σ1 H2 => ∃ ve R L o5 o6 o7, σ1 = [some (.ref a), some (.int ((1 + m0 : Nat) : Int)), some (.ref r), some ve, some (.ref q), o5, o6, o7] ∧ LoopI K T a l r q ns (t + 3) j ve R L H2, ⟨_, _, _, _, _, _, rfl, I8⟩, ?_, ?_⟩
  · rintro j σ1 H9 hj ⟨ve, R, L, o5, o6, o7, rfl, I9⟩
    obtain ⟨t9, ht9, hD9⟩ := I9.dr
    refine jss_setE 6 S_law_right.nd (je_call (E := E0) (g_law_deed (P := P) (w := w) (base := base) M.toMo) hr passL (ja_of (pa_cons pej (pa_cons pej (pa_cons pej (pa_cons pej pa_nil rfl) rfl) rfl) rfl) (JV.je (jv_var 0 rfl) fun H10 s10 => JV.je (jv_var 3 rfl) fun H11 s11 => JV.je (jv_var 4 rfl) fun H12 s12 => JV.je jv_int fun H13 s13 => ?_)) (by decide) rfl (by decide) rfl rfl)
    have sA := s10.trans (s11.trans (s12.trans s13))
    have IA := I9.on sA
    have DA := hD9.on sA
    have B := IA.bo
    have hmj := I9.mj
    have hm : L.many < 900 := by omega
    have fram : ∀ {H' : Hp} {t' : Nat}, DrF a l H13 H' → t' ≤ t9 + 3 → Dr K H' a l t' → LoopI K T a l r q ns (t + 3) (j + 1) ve R L H' := fun {H' t'} fr h2 hD' => by
      have hqa : q ≠ a := fun e => by obtain ⟨v, kv, z⟩ := DA.fst; rw [← e, IA.nm] at z; cases z
      exact ⟨rec_dr fr DA IA.rc, le_dr fr DA IA.le, B, Nat.le_succ_of_le hmj, ⟨t', by omega, hD'⟩, fr _ _ hqa IA.ql IA.nm, tabs_dr IA.tb fr DA, IA.ql⟩
    refine ⟨a, l, ve, L, q, ns.map V.int, ns, t9, rfl, DA, IA.le, B.lok, B.b1, IA.nm, DpAll.ofInts ns, IA.ql, by omega, by have := B.n6; omega, fun H14 t' fr h1 h2 hD' => ?_, fun d u H14 t' fr h1 h2 hD' DO hu => ?_⟩
    · have I14 := fram fr h2 hD'
      refine jss_cons (js_ifF (by
        have e : (!decide (V.non = V.non)) = false := by decide
        rw [← e]
        exact jb_notN (jv_var 6 rfl)) fun H15 s15 => jss_nil ?_)
      have IT := I14.on s15
      refine jss_one (js_if (jt_or2 (jt_notE (je_standsI (n := 6) M hr hgd (jv_var 2 rfl) (jv_var 3 rfl) IT fun J2 j2 => ⟨rfl, rfl, ?_⟩))))
      refine jt_andX (k := decide ((j : Int) % 6 = 0)) (jb_eqI (jd_mod (jd_int1 M.f_int (jv_var 5 rfl).int) jd_int (by decide)) jd_int) (fun _ J3 j3 => iteF (jss_nil ⟨_, _, _, _, _, _, rfl, IT.on (j2.trans j3)⟩)) fun _ J3 j3 => ?_
      refine jt_notE (je_askedI (n := 2) M TA hr hgd (jv_var 2 rfl) (jv_var 3 rfl) (IT.on (j2.trans j3)) (by have := IT.mj; omega) fun J4 e4 T4 => ⟨rfl, iteF (jss_nil ⟨_, _, _, _, _, _, rfl, (IT.on (j2.trans j3)).ext e4 T4⟩)⟩)
    · have I14 := fram fr h2 hD'
      have hun : (!decide (u = V.non)) = true := by cases hu; rfl
      refine jss_cons (js_ifT (by
        rw [← hun]
        exact jb_notN (jv_var 6 rfl)) fun H15 s15 => ?_)
      have LI' := B.li.step DO hm B.n6
      have ok' : LOk (doneL L d) := LI'.ok B.n6 (by rw [doneL_busy]; exact B.b6)
      have rok := (B.li.toLI0.step DO hm).rok B.n6
      have em := Sim.most B.sim.toSim0 DO
      have hcl : atI ((doneL L d).cells.map PyData.int) (-1) = some (.int (lawCrowd (recL (stepL L d)))) := atI_last (by
        show ((L.cells ++ [lawCrowd (recL (stepL L d))]).map PyData.int).getLast? = _
        rw [List.map_append]
        exact List.getLast?_concat ..)
      refine jss_setE 7 S_law_right.nd (je_call (E := E0) (g_law_done (P := P) (w := w) (base := base) M.toMo) hr passL (ja_of (pa_cons pej (pa_cons pej pa_nil rfl) rfl) (JV.je (jv_var 3 rfl) fun H16 s16 => JV.je (jv_var 6 rfl) fun H17 s17 => ⟨ve, u, L, d, rfl, I14.le.on (s15.trans (s16.trans s17)), B.lok, hu.on (s15.trans (s16.trans s17)), ddOk_of DO, ok', doneL_many DO, rok.1, rok.2, fun vl H18 s18 hLl => ?_⟩)) (by decide) rfl (by decide) rfl rfl)
      have s158 := s15.trans (s16.trans (s17.trans s18))
      have I18 := I14.on s158
      have hl0 : 0 ≤ lawCrowd (recL (stepL L d)) ∧ lawCrowd (recL (stepL L d)) ≤ 12 := by
        have h1 := law_nn (recL (stepL L d))
        have h2 := law_le (recL (stepL L d))
        have h3 := rok.2
        omega
      refine jss_cons (js_if (jt_reprNeI M.f_repr (je_call (E := E0) (g_law_do (P := P) (w := w) (base := base) M.toMx) hr passL (ja_of (pa_cons pej (pa_cons pej pa_nil rfl) rfl) (JV.je (jv_var 2 rfl) fun H19 s19 => JV.je (jv_var 6 rfl) fun H20 s20 => ⟨r, R, u, d, rfl, I18.rc.on (s19.trans s20), B.ok, hu.on (s158.trans (s19.trans s20)), ?_⟩)) (by decide) rfl (by decide) rfl rfl)))
      rw [B.sim.doA DO B.nb]
      refine ⟨B.sok DO hm, fun H21 sx hR21 => ⟨_, rfl, by rw [em]; exact log_small hl0.1 hl0.2, ?_⟩⟩
      have I20 := I18.on (s19.trans s20)
      have hL21 := le_sx sx I20.rc (hLl.on (s19.trans s20))
      have hE21 := le_sx sx I20.rc I20.le
      have T21 := tabs_sx I20.tb sx I20.rc
      have N21 := sx_at sx I20.rc I20.nm (fun _ _ _ _ z => nomatch z)
      obtain ⟨t20, ht20, hD20⟩ := I20.dr
      have D21 := dr_sx sx I20.rc hD20
      obtain ⟨al, ub', bw', br', uc', e0, pl⟩ := id hL21
      subst e0
      refine JV.je (v := .int (most (recS (nextS R d)))) (by rw [em]; exact (jd_ixT (jd_ecells hr (jv_var 7 rfl) pl) (jd_neg jd_int) hcl).int) fun H22 s22 => ⟨rfl, iteF (jss_nil ?_)⟩
      have few := B.few DO hm
      refine jss_cons (js_ifF (jb_to (jb_not (jb_lele (i := 0) (j := lawCrowd (recL (stepL L d)) - lastC L) (k := 1) jd_int (jd_sub (jd_ixT (jd_ecells hr (jv_var 7 rfl) (pl.on s22)) (jd_neg jd_int) hcl) (jd_lastC hr (jv_var 3 rfl) (jv_var 3 rfl) (hE21.on s22))) jd_int)) (by
        rw [decide_eq_true few.1, decide_eq_true few.2]
        rfl)) fun H23 s23 => jss_nil ?_)
      refine jss_setE 3 S_law_right.nd (je_dictL M.f_dict (jv_var 7 rfl) (hL21.on (s22.trans s23)) fun vn H24 s24 hL24 => jss_nil ?_)
      have s2124 := s22.trans (s23.trans s24)
      have IT : LoopI K T a l r q ns (t + 3) (j + 1) vn (R.add (nextS R d)) (doneL L d) H24 := ⟨hR21.on s2124, hL24, B.step DO hm, by rw [doneL_many DO]; omega, ⟨t20, ht20, D21.on s2124⟩, s2124 _ _ N21, T21.ext s2124, I18.ql⟩
      refine jss_one (js_if (jt_or2 (jt_notE (je_standsI (n := 6) M hr hgd (jv_var 2 rfl) (jv_var 3 rfl) IT fun J2 j2 => ⟨rfl, rfl, ?_⟩))))
      refine jt_andX (k := decide ((j : Int) % 6 = 0)) (jb_eqI (jd_mod (jd_int1 M.f_int (jv_var 5 rfl).int) jd_int (by decide)) jd_int) (fun _ J3 j3 => iteF (jss_nil ⟨_, _, _, _, _, _, rfl, IT.on (j2.trans j3)⟩)) fun _ J3 j3 => ?_
      refine jt_notE (je_askedI (n := 2) M TA hr hgd (jv_var 2 rfl) (jv_var 3 rfl) (IT.on (j2.trans j3)) (by have := IT.mj; omega) fun J4 e4 T4 => ⟨rfl, iteF (jss_nil ⟨_, _, _, _, _, _, rfl, (IT.on (j2.trans j3)).ext e4 T4⟩)⟩)
  · rintro σ1 H9 ⟨ve, R, L, o5, o6, o7, rfl, I9⟩
    have hm : L.many < 900 := by have := I9.mj; omega
    refine jss_cons (js_if (jt_or2 (jt_notE (je_askedI (n := 2) M TA hr hgd (jv_var 2 rfl) (jv_var 3 rfl) I9 hm fun H10 e10 T10 => ⟨rfl, rfl, ?_⟩))))
    refine jt_notE (je_handsI (n := 0) M TH hr hgd (jv_var 2 rfl) (jv_var 3 rfl) (I9.ext e10 T10) fun H11 e11 T11 => ⟨rfl, iteF (jss_nil ?_)⟩)
    have I11 := I9.ext (e10.trans e11) T11
    refine jss_one (js_ret (je_namesI (n := 0) M TN hr hgd (jv_var 2 rfl) (jv_var 3 rfl) I11 fun H12 e12 T12 => ?_))
    obtain ⟨t', ht', hD'⟩ := I11.dr
    exact qq H12 t' (dr_ext e12 hD') (by omega) T12
end
end K28
-- KD26
/-! KD26: recorders led by hand. Printed by gen_law.py. -/
namespace K28
open PySem PySem.Spec PyProof.Rows L2 LamX
def At (K : PySem.W.Frag) (H : Hp) (r : Addr) (L : LE) (ns : List Int) : Prop := ∃ R, RecAt K H r R ∧ Both R L ns
theorem At.on {K : PySem.W.Frag} {H H' : Hp} {r : Addr} {L : LE} {ns : List Int} (h : At K H r L ns) (s : Same H H') : At K H' r L ns := let ⟨R, h1, h2⟩ := h; ⟨R, h1.on s, h2⟩
/-- a deed's entry and answer, reckoned -/
def Goes (L : LE) (d : Dd) (L' : LE) (i : Int) : Prop := doneL L d = L' ∧ lawCrowd (recL (stepL L d)) = i
theorem goes {L L' : LE} {d : Dd} {i : Int} (ks : List Int) (hp : ks.Perm (keysM (stepL L d).writes)) (hs : ks.Pairwise (· ≤ ·)) (hv : lawCrowd (ks.map (recLV (stepL L d))) = i) (he : { stepL L d with cells := L.cells ++ [i] } = L') : Goes L d L' i := by
  have hk := srt_only hp hs
  have hl : lawCrowd (recL (stepL L d)) = i := by
    unfold recL namesL
    rw [← hk]
    exact hv
  refine ⟨?_, hl⟩
  show { stepL L d with cells := L.cells ++ [lawCrowd (recL (stepL L d))] } = L'
  rw [hl]
  exact he
section
variable {X : Cx} {o e1 e2 e : Expr} {es : List Expr} {σ : L2.St} {H : Hp} {p pos apos : Pos} {r : Addr} {L L' : LE} {ns : List Int} {i m : Int} {h n : Nat} {Q : VK} {pl : Sem Bool}
theorem je_writeB  (M : Mx X.prog X.K X.mg) (hr : Room (n + 10) X.A) (ho : JV X o σ H (.ref r)) (hA : At X.K H r L ns) (D : DeedOk L ns (.wr h m)) (hm : L.many < 900) (hv : Goes L (.wr h m) L' i) (h1 : JV X e1 σ H (.int (h : Nat))) (h2 : JV X e2 σ H (.int m)) (q : ∀ H', SameX r H H' → At X.K H' r L' ns → Q (.int i) H')
    (hst : starEach [e1, e2] X.env = (false, eval e1 X.env) :: starEach [e2] X.env := by rfl) (hst2 : starEach [e2] X.env = (false, eval e2 X.env) :: starEach [] X.env := by rfl) (hpl : (backTo pos (starEach [e2] X.env)).any (·.1) = false := by rfl)
    (ht : eval (.Call (.Attribute o "write" apos) [e1, e2] [] pos) X.env = (do
      let ov ← eval o X.env
      standAt apos.atName
      let (f, first) ← holding [ov] (getMethod ov "write" pl)
      callWith pos f first (backTo pos (starEach [e1, e2] X.env)) (backToKw pos (keywordEach [] X.env))) := by rfl) : JE X (.Call (.Attribute o "write" apos) [e1, e2] [] pos) σ H Q := by
  obtain ⟨R, hR, B⟩ := hA
  refine je_write (n := n) (pl := pl) (E := E0) M hr passL ho hR B.ok h1 (.int _) h2 (.int _) ?_ hst hst2 hpl ht
  have e : wrA R.cur (.int (h : Nat)) (.int m) (R.now : Nat) = .ok (nextS R (.wr h m)) := B.sim.doA D B.nb
  rw [e]
  refine ⟨B.sok D hm, fun H' sx hR' => ?_⟩
  rw [Sim.most B.sim.toSim0 D, hv.2]
  exact q H' sx ⟨_, hR', hv.1 ▸ B.step D hm⟩
theorem je_readB  (M : Mx X.prog X.K X.mg) (hr : Room (n + 10) X.A) (ho : JV X o σ H (.ref r)) (hA : At X.K H r L ns) (D : DeedOk L ns (.rd h)) (hm : L.many < 900) (hv : Goes L (.rd h) L' i) (h1 : JV X e1 σ H (.int (h : Nat))) (q : ∀ H', SameX r H H' → At X.K H' r L' ns → Q (.int i) H')
    (hst : starEach [e1] X.env = (false, eval e1 X.env) :: starEach [] X.env := by rfl) (hpl : (backTo pos (starEach [] X.env)).any (·.1) = false := by rfl)
    (ht : eval (.Call (.Attribute o "read" apos) [e1] [] pos) X.env = (do
      let ov ← eval o X.env
      standAt apos.atName
      let (f, first) ← holding [ov] (getMethod ov "read" pl)
      callWith pos f first (backTo pos (starEach [e1] X.env)) (backToKw pos (keywordEach [] X.env))) := by rfl) : JE X (.Call (.Attribute o "read" apos) [e1] [] pos) σ H Q := by
  obtain ⟨R, hR, B⟩ := hA
  refine je_read (n := n) (pl := pl) (E := E0) M hr passL ho hR B.ok h1 (.int _) ?_ hst hpl ht
  have e : rdA R.cur (.int (h : Nat)) (R.now : Nat) = .ok (nextS R (.rd h)) := B.sim.doA D B.nb
  rw [e]
  refine ⟨B.sok D hm, fun H' sx hR' => ?_⟩
  rw [Sim.most B.sim.toSim0 D, hv.2]
  exact q H' sx ⟨_, hR', hv.1 ▸ B.step D hm⟩
theorem je_doneB  (M : Mx X.prog X.K X.mg) (hr : Room (n + 10) X.A) (ho : JV X o σ H (.ref r)) (hA : At X.K H r L ns) (D : DeedOk L ns (.dr h m)) (hm : L.many < 900) (hv : Goes L (.dr h m) L' i) (h1 : JV X e1 σ H (.int (h : Nat))) (h2 : JV X e2 σ H (.int m)) (q : ∀ H', SameX r H H' → At X.K H' r L' ns → Q (.int i) H')
    (hst : starEach [e1, e2] X.env = (false, eval e1 X.env) :: starEach [e2] X.env := by rfl) (hst2 : starEach [e2] X.env = (false, eval e2 X.env) :: starEach [] X.env := by rfl) (hpl : (backTo pos (starEach [e2] X.env)).any (·.1) = false := by rfl)
    (ht : eval (.Call (.Attribute o "done" apos) [e1, e2] [] pos) X.env = (do
      let ov ← eval o X.env
      standAt apos.atName
      let (f, first) ← holding [ov] (getMethod ov "done" pl)
      callWith pos f first (backTo pos (starEach [e1, e2] X.env)) (backToKw pos (keywordEach [] X.env))) := by rfl) : JE X (.Call (.Attribute o "done" apos) [e1, e2] [] pos) σ H Q := by
  obtain ⟨R, hR, B⟩ := hA
  refine je_done (n := n) (pl := pl) (E := E0) M hr passL ho hR B.ok h1 (.int _) h2 (.int _) ?_ hst hst2 hpl ht
  have e : dnA R.cur (.int (h : Nat)) (.int m) (R.now : Nat) = .ok (nextS R (.dr h m)) := B.sim.doA D B.nb
  rw [e]
  refine ⟨B.sok D hm, fun H' sx hR' => ?_⟩
  rw [Sim.most B.sim.toSim0 D, hv.2]
  exact q H' sx ⟨_, hR', hv.1 ▸ B.step D hm⟩
theorem je_done1B  (M : Mx X.prog X.K X.mg) (hr : Room (n + 10) X.A) (ho : JV X o σ H (.ref r)) (hA : At X.K H r L ns) (D : DeedOk L ns (.dw h)) (hm : L.many < 900) (hv : Goes L (.dw h) L' i) (h1 : JV X e1 σ H (.int (h : Nat))) (q : ∀ H', SameX r H H' → At X.K H' r L' ns → Q (.int i) H')
    (hst : starEach [e1] X.env = (false, eval e1 X.env) :: starEach [] X.env := by rfl) (hpl : (backTo pos (starEach [] X.env)).any (·.1) = false := by rfl)
    (ht : eval (.Call (.Attribute o "done" apos) [e1] [] pos) X.env = (do
      let ov ← eval o X.env
      standAt apos.atName
      let (f, first) ← holding [ov] (getMethod ov "done" pl)
      callWith pos f first (backTo pos (starEach [e1] X.env)) (backToKw pos (keywordEach [] X.env))) := by rfl) : JE X (.Call (.Attribute o "done" apos) [e1] [] pos) σ H Q := by
  obtain ⟨R, hR, B⟩ := hA
  refine je_done1 (n := n) (pl := pl) (E := E0) M hr passL ho hR B.ok h1 (.int _) ?_ hst hpl ht
  have e : dnA R.cur (.int (h : Nat)) .non (R.now : Nat) = .ok (nextS R (.dw h)) := B.sim.doA D B.nb
  rw [e]
  refine ⟨B.sok D hm, fun H' sx hR' => ?_⟩
  rw [Sim.most B.sim.toSim0 D, hv.2]
  exact q H' sx ⟨_, hR', hv.1 ▸ B.step D hm⟩
theorem jd_doingB  (M : Mx X.prog X.K X.mg) (hr : Room (n + 5) X.A) (ho : JV X o σ H (.ref r)) (hA : At X.K H r L ns) (h1 : JV X e1 σ H (.int (h : Nat))) (hi : h < L.busy.length)
    (hst : starEach [e1] X.env = (false, eval e1 X.env) :: starEach [] X.env := by rfl) (hpl : (backTo pos (starEach [] X.env)).any (·.1) = false := by rfl)
    (ht : eval (.Call (.Attribute o "doing" apos) [e1] [] pos) X.env = (do
      let ov ← eval o X.env
      standAt apos.atName
      let (f, first) ← holding [ov] (getMethod ov "doing" pl)
      callWith pos f first (backTo pos (starEach [e1] X.env)) (backToKw pos (keywordEach [] X.env))) := by rfl) : JD X (.Call (.Attribute o "doing" apos) [e1] [] pos) σ H (pDo (bzL L h)) := by
  obtain ⟨R, hR, B⟩ := hA
  rw [← B.sim.bz]
  exact jd_doing (n := n) (pl := pl) M hr ho hR B.ok h1 (by rw [← B.sim.bu]; exact hi) hst hpl ht
theorem jd_freeB  (M : Mx X.prog X.K X.mg) (hr : Room (n + 9) X.A) (ho : JV X o σ H (.ref r)) (hA : At X.K H r L ns) (hm : L.many < 900) (h1 : JV X e1 σ H (.int (h : Nat))) (hi : h < L.busy.length) {b : Int} (hz : bzL L h = .rd b)
    (hst : starEach [e1] X.env = (false, eval e1 X.env) :: starEach [] X.env := by rfl) (hpl : (backTo pos (starEach [] X.env)).any (·.1) = false := by rfl)
    (ht : eval (.Call (.Attribute o "free" apos) [e1] [] pos) X.env = (do
      let ov ← eval o X.env
      standAt apos.atName
      let (f, first) ← holding [ov] (getMethod ov "free" pl)
      callWith pos f first (backTo pos (starEach [e1] X.env)) (backToKw pos (keywordEach [] X.env))) := by rfl) : JD X (.Call (.Attribute o "free" apos) [e1] [] pos) σ H (pI ((opens L).filter fun n => decide (lawCrowd (recL (stepL L (.dr h n))) ≤ lastC L))) := by
  obtain ⟨R, hR, B⟩ := hA
  exact jd_free (n := n) (pl := pl) M hr ho hR B hm h1 hi hz hst hpl ht
theorem jd_recordB  (M : Mx X.prog X.K X.mg) (hr : Room (n + 3) X.A) (ho : JV X o σ H (.ref r)) (hA : At X.K H r L ns) 
    (ht : eval (.Call (.Attribute o "record_now" apos) [] [] pos) X.env = (do
      let ov ← eval o X.env
      standAt apos.atName
      let (f, first) ← holding [ov] (getMethod ov "record_now" pl)
      callWith pos f first (backTo pos (starEach [] X.env)) (backToKw pos (keywordEach [] X.env))) := by rfl) : JD X (.Call (.Attribute o "record_now" apos) [] [] pos) σ H (pR (recL L)) := by
  obtain ⟨R, hR, B⟩ := hA
  rw [B.sim.recd]
  exact jd_record_now (n := n) (pl := pl) M hr ho hR B.ok ht
theorem jd_firstB  (M : Mx X.prog X.K X.mg) (hr : Room (n + 5) X.A) (ho : JV X o σ H (.ref r)) (hA : At X.K H r L ns) (h1 : JV X e1 σ H (.int (h : Nat))) (hk : h ≤ 12)
    (hst : starEach [e1] X.env = (false, eval e1 X.env) :: starEach [] X.env := by rfl) (hpl : (backTo pos (starEach [] X.env)).any (·.1) = false := by rfl)
    (ht : eval (.Call (.Attribute o "first_beyond" apos) [e1] [] pos) X.env = (do
      let ov ← eval o X.env
      standAt apos.atName
      let (f, first) ← holding [ov] (getMethod ov "first_beyond" pl)
      callWith pos f first (backTo pos (starEach [e1] X.env)) (backToKw pos (keywordEach [] X.env))) := by rfl) : JD X (.Call (.Attribute o "first_beyond" apos) [e1] [] pos) σ H (pFirst (above L.cells (h : Int))) := by
  obtain ⟨R, hR, B⟩ := hA
  rw [B.sim.ce]
  exact jd_first (n := n) (pl := pl) M hr ho hR B.ok h1 hk hst hpl ht
theorem jv_handsB (M : Mx X.prog X.K X.mg) (hr : Room (n + 2) X.A) (ho : JV X o σ H (.ref r)) (hA : At X.K H r L ns) (hb : L.busy.length = h) (hab : attributeBase o "hands" X.env (eval o X.env) = eval o X.env := by rfl) : JV X (.Attribute o "hands" pos) σ H (.int (h : Nat)) := by
  obtain ⟨R, hR, B⟩ := hA
  have e : R.hands = (h : Nat) := by rw [B.ok.hd, ← B.sim.bu, hb]
  rw [← e]
  exact jv_hands M hr ho hR hab
theorem je_RecorderB {k : Nat} (M : Mx X.prog X.K X.mg) (hr : Room (n + 5) X.A) (ha : JV X e σ H (.int (k : Nat))) (k1 : 1 ≤ k) (k2 : k ≤ 6) (n6 : ns.length ≤ 6) (nb : ∀ n ∈ ns, 0 ≤ n ∧ n ≤ 11) (q : ∀ x H', Same H H' → H x = none → At X.K H' x (ent0 k) ns → Q (.ref x) H')
    (hg : Gl X "Recorder" := by rfl) (he : starEach [e] X.env = (false, eval e X.env) :: starEach [] X.env := by rfl) (hpl : (backTo pos (starEach [] X.env)).any (·.1) = false := by rfl) : JE X (.Call (.Name "Recorder" p) [e] [] pos) σ H Q :=
  je_Recorder (n := n) (E := E0) M hr passL ha (.int _) (fun z => by
    have z : (decide (1 ≤ (k : Int)) && decide ((k : Int) ≤ 6)) = false := z
    rw [decide_eq_true (by omega), decide_eq_true (by omega)] at z
    cases z) (fun k' hk h1 h2 x H' s hn hR => by
    have ek : k = k' := by
      have := V.int.inj hk
      omega
    subst ek
    exact q x H' s hn ⟨_, hR, both0 k1 k2 n6 nb⟩) hg he hpl
theorem jd_min2 {a b : Expr} {i j : Int} (hc : X.calm = true) (hm : X.mg "min" = none) (ha : JD X a σ H (.int i)) (hb : JD X b σ H (.int j)) (hg : Gl X "min" := by rfl) (he : starEach [a, b] X.env = (false, eval a X.env) :: starEach [b] X.env := by rfl) (he2 : starEach [b] X.env = (false, eval b X.env) :: starEach [] X.env := by rfl)
    (hpl : (backTo pos (starEach [b] X.env)).any (·.1) = false := by rfl) : JD X (.Call (.Name "min" p) [a, b] [] pos) σ H (.int (if j < i then j else i)) := fun H1 s Q q =>
  je_blt (call_min2 hc) hm rfl (ja_of (pa_cons pej (pa_cons pej pa_nil he2) he) (ha.int H1 s _ fun H2 s2 => hb.int H2 (s.trans s2) _ fun H3 s3 => ⟨i, j, rfl, q _ _ (s2.trans s3) (.int _)⟩)) hg he hpl
end
/-! ### the two recorders that the law leads -/
abbrev six0 : LE := ent0 6
def sixN : List Int := [11]
def six1 : LE := ⟨[.free, .free, .free, .free, .free, .wr 11 0], [(11, (0, 1000000000))], [], 1, [1]⟩
def six2 : LE := ⟨[.free, .free, .free, .free, .rd 1, .wr 11 0], [(11, (0, 1000000000))], [], 2, [1, 1]⟩
def six3 : LE := ⟨[.free, .free, .free, .free, .rd 1, .free], [(11, (0, 2))], [], 3, [1, 1, 1]⟩
def six4 : LE := ⟨[.free, .free, .free, .free, .free, .free], [(11, (0, 2))], [(11, [(1, 3)])], 4, [1, 1, 1, 1]⟩
theorem sixG1 : Goes six0 (.wr 5 11) six1 1 := goes [11] (by decide) (by decide) (by decide +kernel) rfl
theorem sixD1 : DeedOk six0 sixN (.wr 5 11) := ⟨by decide, rfl, by decide, rfl⟩
theorem sixG2 : Goes six1 (.rd 4) six2 1 := goes [11] (by decide) (by decide) (by decide +kernel) rfl
theorem sixD2 : DeedOk six1 sixN (.rd 4) := ⟨by decide, rfl⟩
theorem sixG3 : Goes six2 (.dw 5) six3 1 := goes [11] (by decide) (by decide) (by decide +kernel) rfl
theorem sixD3 : DeedOk six2 sixN (.dw 5) := ⟨by decide, _, _, rfl⟩
theorem sixG4 : Goes six3 (.dr 4 11) six4 1 := goes [11] (by decide) (by decide) (by decide +kernel) rfl
theorem sixD4 : DeedOk six3 sixN (.dr 4 11) := ⟨by decide, ⟨_, rfl⟩, List.mem_filter.mpr ⟨in_names (by decide), by decide⟩⟩
abbrev two0 : LE := ent0 2
def twoN : List Int := [4, 2, 9]
def two1 : LE := ⟨[.wr 4 0, .free], [(4, (0, 1000000000))], [], 1, [1]⟩
def two2 : LE := ⟨[.wr 4 0, .rd 1], [(4, (0, 1000000000))], [], 2, [1, 1]⟩
def two3 : LE := ⟨[.wr 4 0, .free], [(4, (0, 1000000000))], [(4, [(1, 2)])], 3, [1, 1, 1]⟩
def two4 : LE := ⟨[.free, .free], [(4, (0, 3))], [(4, [(1, 2)])], 4, [1, 1, 1, 1]⟩
def two5 : LE := ⟨[.wr 2 4, .free], [(4, (0, 3)), (2, (4, 1000000000))], [(4, [(1, 2)])], 5, [1, 1, 1, 1, 1]⟩
def two6 : LE := ⟨[.free, .free], [(4, (0, 3)), (2, (4, 5))], [(4, [(1, 2)])], 6, [1, 1, 1, 1, 1, 1]⟩
def two7 : LE := ⟨[.free, .rd 6], [(4, (0, 3)), (2, (4, 5))], [(4, [(1, 2)])], 7, [1, 1, 1, 1, 1, 1, 1]⟩
def two8 : LE := ⟨[.wr 9 7, .rd 6], [(4, (0, 3)), (2, (4, 5)), (9, (7, 1000000000))], [(4, [(1, 2)])], 8, [1, 1, 1, 1, 1, 1, 1, 1]⟩
def two9 : LE := ⟨[.wr 9 7, .free], [(4, (0, 3)), (2, (4, 5)), (9, (7, 1000000000))], [(4, [(1, 2), (6, 8)])], 9, [1, 1, 1, 1, 1, 1, 1, 1, 2]⟩
theorem twoG1 : Goes two0 (.wr 0 4) two1 1 := goes [4] (by decide) (by decide) (by decide +kernel) rfl
theorem twoD1 : DeedOk two0 twoN (.wr 0 4) := ⟨by decide, rfl, by decide, rfl⟩
theorem twoG2 : Goes two1 (.rd 1) two2 1 := goes [4] (by decide) (by decide) (by decide +kernel) rfl
theorem twoD2 : DeedOk two1 twoN (.rd 1) := ⟨by decide, rfl⟩
theorem twoG3 : Goes two2 (.dr 1 4) two3 1 := goes [4] (by decide) (by decide) (by decide +kernel) rfl
theorem twoD3 : DeedOk two2 twoN (.dr 1 4) := ⟨by decide, ⟨_, rfl⟩, List.mem_filter.mpr ⟨in_names (by decide), by decide⟩⟩
theorem twoG4 : Goes two3 (.dw 0) two4 1 := goes [4] (by decide) (by decide) (by decide +kernel) rfl
theorem twoD4 : DeedOk two3 twoN (.dw 0) := ⟨by decide, _, _, rfl⟩
theorem twoG5 : Goes two4 (.wr 0 2) two5 1 := goes [2, 4] (by decide) (by decide) (by decide +kernel) rfl
theorem twoD5 : DeedOk two4 twoN (.wr 0 2) := ⟨by decide, rfl, by decide, rfl⟩
theorem twoG6 : Goes two5 (.dw 0) two6 1 := goes [2, 4] (by decide) (by decide) (by decide +kernel) rfl
theorem twoD6 : DeedOk two5 twoN (.dw 0) := ⟨by decide, _, _, rfl⟩
theorem twoG7 : Goes two6 (.rd 1) two7 1 := goes [2, 4] (by decide) (by decide) (by decide +kernel) rfl
theorem twoD7 : DeedOk two6 twoN (.rd 1) := ⟨by decide, rfl⟩
theorem twoG8 : Goes two7 (.wr 0 9) two8 1 := goes [2, 4, 9] (by decide) (by decide) (by decide +kernel) rfl
theorem twoD8 : DeedOk two7 twoN (.wr 0 9) := ⟨by decide, rfl, by decide, rfl⟩
theorem twoG9 : Goes two8 (.dr 1 4) two9 2 := goes [2, 4, 9] (by decide) (by decide) (by decide +kernel) rfl
theorem twoD9 : DeedOk two8 twoN (.dr 1 4) := ⟨by decide, ⟨_, rfl⟩, List.mem_filter.mpr ⟨in_names (by decide), by decide⟩⟩
theorem two_free : (opens two8).filter (fun n => decide (lawCrowd (recL (stepL two8 (.dr 1 n))) ≤ lastC two8)) = [2, 9] := by
  have e : namesL two8 = [2, 4, 9] := (srt_only (k := [2, 4, 9]) (ns := keysM two8.writes) (by decide) (by decide)).symm
  have eo : opens two8 = [2, 4, 9] := by unfold opens; rw [e]; rfl
  rw [eo]
  have c : ∀ n : Int, lawCrowd (recL (stepL two8 (.dr 1 n))) = lawCrowd ([2, 4, 9].map (recLV (stepL two8 (.dr 1 n)))) := fun n => by
    show lawCrowd ((namesL two8).map (recLV (stepL two8 (.dr 1 n)))) = _
    rw [e]
  simp only [c]
  decide +kernel
theorem two_rec : recL two9 = [((4, 5), []), ((0, 3), [(1, 2), (6, 8)]), ((7, 1000000000), [])] := by
  have e : namesL two9 = [2, 4, 9] := (srt_only (k := [2, 4, 9]) (ns := keysM two9.writes) (by decide) (by decide)).symm
  unfold recL
  rw [e]
  rfl
theorem two_first : pFirst (above two9.cells ((1 : Nat) : Int)) = .int 8 := by rfl
end K28
-- KD27
/-! KD27: the law. -/
namespace K28
open PySem PySem.Spec PyProof.Rows L2 LamX
/-- the body of `lambda: Recorder(x)`: what it needs -/
def spMk (K : PySem.W.Frag) (v : V) (T : String) : Tsp := fun H _ E => Th H v T ∧ Heard K "BadNumber" v H E
theorem spMk_on {K : PySem.W.Frag} {v : V} {T : String} : ∀ H H1 Q E, spMk K v T H Q E → Same H H1 → spMk K v T H1 Q E := fun _ _ _ _ k s => ⟨k.1.on s, k.2.on s⟩
theorem spMk_hs {K : PySem.W.Frag} {H : Hp} {v : V} {T : String} (hT : Th H v T) : ∀ H2, Same H H2 → ∀ (Q : VK) (E : XK), Heard K "BadNumber" v H2 E → spMk K v T H2 Q E := fun H2 s Q E k => ⟨hT.on s, k⟩
def spLaw (K : PySem.W.Frag) (T : List (Addr × Str)) : Sp := fun vs H Q _ => ∃ (v : V) (ns : List Int), vs = [v] ∧ Dp K H v (.list (ns.map PyData.int)) ∧ ns.length ≤ 1000 ∧ Tabs T H ∧ ∀ H', Q (.bl true) H'
theorem at_sx {K : PySem.W.Frag} {H H' : Hp} {r b : Addr} {L : LE} {ns : List Int} {o : HO} (s : SameX r H H') (hA : At K H r L ns) (h : H b = some o) (hn : ∀ C dx n p, o ≠ .ins C dx (recF n p)) : H' b = some o := let ⟨_, h1, _⟩ := hA; sx_at s h1 h hn
theorem at_dp {K : PySem.W.Frag} {H H' : Hp} {r : Addr} {L : LE} {ns : List Int} {v : V} {d : PyData} (s : SameX r H H') (hA : At K H r L ns) (h : Dp K H v d) : Dp K H' v d := let ⟨_, h1, _⟩ := hA; dp_sx s h1 d v h
theorem jd_to {X : Cx} {e : Expr} {σ : L2.St} {H : Hp} {d d' : PyData} (h : JD X e σ H d) (q : d = d') : JD X e σ H d' := q ▸ h
def dataSix : List PyData := [.int 6, .int 1, .str "write", .int 1, .int 1, .int 1]
def dataTwo : List PyData := [.int 2, .int 1, .int 1, .int 1, .int 1, .int 1, .int 1, .int 1, .int 1, .tuple [.int 2, .int 9], .int 2]
def dataRec : PyData := .tuple [.tuple [.tuple [.int 4, .int 5], .tuple []], .tuple [.tuple [.int 0, .int 3], .tuple [.tuple [.int 1, .int 2], .tuple [.int 6, .int 8]]], .tuple [.tuple [.int 7, .int 1000000000], .tuple []]]
/-! ### judgements that are not unfolded (lists of constants) -/
structure JSW (X : Cx) (sts : List Stmt) (D : Ends) (σ : L2.St) (H : Hp) : Prop where
  run : JSs X sts D σ H
structure JAW (X : Cx) (es : List Expr) (σ : L2.St) (H : Hp) (Q : List V → Hp → Prop) : Prop where
  run : JA X es σ H Q
structure JDW (X : Cx) (e : Expr) (σ : L2.St) (H : Hp) (d : PyData) : Prop where
  run : JD X e σ H d
structure JDsW (X : Cx) (es : List Expr) (σ : L2.St) (H : Hp) (ds : List PyData) : Prop where
  run : JDs X es σ H ds
section
variable {X : Cx} {e : Expr} {es : List Expr} {sts : List Stmt} {D : Ends} {σ : L2.St} {H : Hp} {p pos pos2 : Pos} {d : PyData} {ds : List PyData}
theorem jaw_nil {Q : List V → Hp → Prop} (h : Q [] H) : JAW X [] σ H Q := ⟨ja_of pa_nil h⟩
theorem jaw_int {i : Int} {j : Nat} {Q : List V → Hp → Prop} (h : ∀ H1, Same H H1 → JAW X es σ H1 fun vs H2 => Q (.int i :: vs) H2) (hs : starEach (.Constant (.int i) j p :: es) X.env = (false, eval (.Constant (.int i) j p) X.env) :: starEach es X.env := by rfl) : JAW X (.Constant (.int i) j p :: es) σ H Q :=
  ⟨ja_of (pa_cons pej paj hs) (JV.je jv_int fun H1 s1 => (h H1 s1).run)⟩
theorem jaw_d {Q : List V → Hp → Prop} (ha : JDW X e σ H d) (h : ∀ v H1, Same H H1 → Dp X.K H1 v d → JAW X es σ H1 fun vs H2 => Q (v :: vs) H2) (hs : starEach (e :: es) X.env = (false, eval e X.env) :: starEach es X.env := by rfl) : JAW X (e :: es) σ H Q :=
  ⟨ja_of (pa_cons pej paj hs) (JD.je ha.run fun v H1 s1 hv => (h v H1 s1 hv).run)⟩
theorem jdw_int {i : Int} {j : Nat} : JDW X (.Constant (.int i) j p) σ H (.int i) := ⟨jd_int⟩
theorem jdw_tup {k : Nat} (h : JDsW X es σ H ds) (hz : ds.length ≤ 2000) : JDW X (.Tuple es k pos) σ H (.tuple ds) := ⟨jd_tup h.run (small1 hz)⟩
theorem jdsw_nil : JDsW X [] σ H [] := ⟨jds_nil⟩
theorem jdsw_cons (ha : JDW X e σ H d) (hr : JDsW X es σ H ds) (hs : starEach (e :: es) X.env = (false, eval e X.env) :: starEach es X.env := by rfl) : JDsW X (e :: es) σ H (d :: ds) := ⟨jds_cons ha.run hr.run hs⟩
theorem jdw_ten9 {j k : Nat} {p1 p2 p3 : Pos} : JDW X (.BinOp (.Constant (.int 10) j p1) .Pow (.Constant (.int 9) k p2) p3) σ H (.int 1000000000) := by
  have e : (1000000000 : Int) = 10 ^ (9 : Int).toNat := by decide
  rw [e]
  exact ⟨jd_pow jd_int jd_int ⟨by decide, by decide, by decide⟩⟩
theorem jsw_list (i : Nat) {x : Str} {pos' : Pos} (hN : X.N.Nodup) (h : JAW X es σ H fun vs H1 => vs.length ≤ 2000 ∧ ∀ q, H1 q = none → JSW X sts D (σ.set i (some (.ref q))) (upd H1 q (.lst vs))) (hi : X.N[i]? = some x := by rfl) (hx : Loc X.env.scope x := by first | exact Or.inl rfl | exact Or.inr rfl) (hs : swapsWith (.List es pos2) (some (.Name x pos')) pos.line X.env = pure false := by rfl)
    (hf : X.fn x = true ∨ X.env.scope.names.lookup x = some .local := by first | exact .inl rfl | exact .inr rfl) : JSW X (.Assign [.Name x pos'] (.List es pos2) pos :: sts) D σ H :=
  ⟨jss_setE i hN (je_of (pe_lst paj) (JA.mono h.run fun vs H1 ⟨hl, k⟩ => ⟨small1 hl, fun q hq => (k q hq).run⟩)) hi hx hs hf⟩
theorem jsw_more (i j : Nat) {x y : Str} {pos' py : Pos} {q : Addr} {vs : List V} (hN : X.N.Nodup) (hv : σ[j]? = some (some (.ref q))) (hq : H q = some (.lst vs)) (h : JDsW X es σ H ds) (hz : vs.length + ds.length ≤ 2000) (k : ∀ p ws H1, Same H H1 → H1 p = some (.lst (vs ++ ws)) → DpAll X.K H1 ws ds → JSW X sts D (σ.set i (some (.ref p))) H1)
    (hj : X.N[j]? = some y := by rfl) (hvis : Vis X.env.scope y := by first | exact Or.inl rfl | exact Or.inr (Or.inl rfl) | exact Or.inr (Or.inr rfl)) (hd : (y == ("__debug__" : Str)) = false := by decide) (hcd : (y == ("__classdict__" : Str)) = false := by decide)
    (hi : X.N[i]? = some x := by rfl) (hx : Loc X.env.scope x := by first | exact Or.inl rfl | exact Or.inr rfl) (hs : swapsWith (.BinOp (.Name y py) .Add (.List es pos2) p) (some (.Name x pos')) pos.line X.env = pure false := by rfl)
    (hf : X.fn x = true ∨ X.env.scope.names.lookup x = some .local := by first | exact .inl rfl | exact .inr rfl) : JSW X (.Assign [.Name x pos'] (.BinOp (.Name y py) .Add (.List es pos2) p) pos :: sts) D σ H :=
  ⟨jss_setE i hN (je_of (pe_op op_cat pej pej) (JV.je (jv_var j hv hj hvis hd hcd) fun H1 s1 => je_of (pe_lst paj) (h.run H1 s1 _ fun ws H2 s2 hws => ⟨small1 (by rw [hws.len]; omega), fun lb hlb => by
    have s3 := same_new (o := .lst ws) hlb
    refine ⟨q, lb, vs, ws, rfl, rfl, (s1.trans (s2.trans s3)) _ _ hq, upd_same, small1 (by rw [hws.len]; exact hz), fun lc hlc => ?_⟩
    have s4 := same_new (o := .lst (vs ++ ws)) hlc
    exact (k lc ws _ (s1.trans (s2.trans (s3.trans s4))) upd_same (hws.on (s3.trans s4))).run⟩))) hi hx hs hf⟩
end
def lawNs : List Str := ["_law_script", "_law_state", "_law_turn", "_law_odd_here", "_law_six", "_law_heard_here", "_law_live", "_law_due"]
section
variable {P : Program} {w : World} {K : PySem.W.Frag} {mg : Str → Option Value} {base : Heap}
theorem S_law : FnScope ["_law_script", "_law_state", "_law_turn", "_law_odd_here", "_law_six", "_law_heard_here", "_law_live", "_law_due"] ["_law_script"] (defScope s_law) := ⟨rfl, rfl, rfl, by decide +kernel, rfl, by decide +kernel, by decide +kernel⟩
theorem law_end {f : Addr} {cdv : Value} {A : Around} {outer : List Env} {s : Shared} {H H0 : Hp} {E : XK} {Q : VK} (M : Mz P K mg) (hr : Room 16 (A.deeper (envOfC "law" (defScope s_law) s.heap.objs.size f cdv))) (qq : ∀ H', Q (.bl true) H') {v0 v4 v6 : V} {a ld : Addr} {o2 o3 o7 : Option V} {vd : List V} (hld : H ld = some (.lst vd)) (hvd : DpAll K H vd (dataTwo ++ [dataRec, .int 8])) :
    JSW (cxOf (L2.CX P w) P w K mg base lawNs "law" (defScope s_law) f cdv A outer s H0 E) ((defBody s_law).drop 10) { nx := fun _ H' => Q .non H', rt := Q } [some v0, some (.ref a), o2, o3, some v4, some (.ref ld), some v6, o7] H := by
  refine jsw_list 7 S_law.nd ?_
  refine jaw_int fun M1 m1 => ?_
  refine jaw_int fun M2 m2 => ?_
  refine jaw_int fun M3 m3 => ?_
  refine jaw_int fun M4 m4 => ?_
  refine jaw_int fun M5 m5 => ?_
  refine jaw_int fun M6 m6 => ?_
  refine jaw_int fun M7 m7 => ?_
  refine jaw_int fun M8 m8 => ?_
  refine jaw_int fun M9 m9 => ?_
  refine jaw_d (d := .tuple [.int 2, .int 9]) (jdw_tup (jdsw_cons jdw_int (jdsw_cons jdw_int jdsw_nil)) (by simp)) fun u M10 m10 hu => ?_
  refine jaw_int fun M11 m11 => ?_
  refine jaw_nil ⟨by simp, fun le hle => ?_⟩
  have m12 := same_new (o := .lst [.int 2, .int 1, .int 1, .int 1, .int 1, .int 1, .int 1, .int 1, .int 1, u, .int 2]) hle
  have sA := (m1.trans (m2.trans m3)).trans ((m4.trans (m5.trans m6)).trans ((m7.trans (m8.trans m9)).trans (m10.trans (m11.trans m12))))
  have hu2 := hu.on (m11.trans m12)
  have hve : DpAll K (upd M11 le (.lst [.int 2, .int 1, .int 1, .int 1, .int 1, .int 1, .int 1, .int 1, .int 1, u, .int 2])) [.int 2, .int 1, .int 1, .int 1, .int 1, .int 1, .int 1, .int 1, .int 1, u, .int 2] dataTwo :=
    .cons (.int _) (.cons (.int _) (.cons (.int _) (.cons (.int _) (.cons (.int _) (.cons (.int _) (.cons (.int _) (.cons (.int _) (.cons (.int _) (.cons hu2 (.cons (.int _) .nil))))))))))
  refine jsw_more 7 7 (ds := [dataRec, .int 8]) S_law.nd rfl upd_same (jdsw_cons ?_ (jdsw_cons jdw_int jdsw_nil)) (by simp) fun lf ws M13 m13 hlf hws => ?_
  · refine jdw_tup (jdsw_cons ?_ (jdsw_cons ?_ (jdsw_cons ?_ jdsw_nil))) (by simp)
    · refine jdw_tup (jdsw_cons ?_ (jdsw_cons ?_ jdsw_nil)) (by simp)
      · exact jdw_tup (jdsw_cons jdw_int (jdsw_cons jdw_int jdsw_nil)) (by simp)
      · exact jdw_tup jdsw_nil (by simp)
    · refine jdw_tup (jdsw_cons ?_ (jdsw_cons ?_ jdsw_nil)) (by simp)
      · exact jdw_tup (jdsw_cons jdw_int (jdsw_cons jdw_int jdsw_nil)) (by simp)
      · refine jdw_tup (jdsw_cons ?_ (jdsw_cons ?_ jdsw_nil)) (by simp)
        · exact jdw_tup (jdsw_cons jdw_int (jdsw_cons jdw_int jdsw_nil)) (by simp)
        · exact jdw_tup (jdsw_cons jdw_int (jdsw_cons jdw_int jdsw_nil)) (by simp)
    · refine jdw_tup (jdsw_cons ?_ (jdsw_cons ?_ jdsw_nil)) (by simp)
      · exact jdw_tup (jdsw_cons jdw_int (jdsw_cons jdw_ten9 jdsw_nil)) (by simp)
      · exact jdw_tup jdsw_nil (by simp)
  have sB := sA.trans m13
  have hvf := DpAll.app (hve.on m13) hws
  have ez : SeqAt.shaped (.list (dataTwo ++ [dataRec, .int 8])) = true := by decide +kernel
  have eq : PyData.eqv (.list (dataTwo ++ [dataRec, .int 8])) (.list (dataTwo ++ [dataRec, .int 8])) = true := by decide +kernel
  exact ⟨jss_one (js_ret (JV.je (v := .bl true) (jd_to (jd_eqD hr (jr_var 5 rfl (sB _ _ hld) (hvd.on sB)).jd (jr_var 7 rfl hlf hvf).jd ez ez) (congrArg PyData.bool eq)).bl fun H9 _ => qq H9))⟩
theorem law_two {f : Addr} {cdv : Value} {A : Around} {outer : List Env} {s : Shared} {H H0 : Hp} {E : XK} {Q : VK} (M : Mz P K mg) (hr : Room 16 (A.deeper (envOfC "law" (defScope s_law) s.heap.objs.size f cdv))) (qq : ∀ H', Q (.bl true) H') {v0 v4 : V} {a : Addr} {o2 o3 o5 o6 o7 : Option V} :
    JSs (cxOf (L2.CX P w) P w K mg base lawNs "law" (defScope s_law) f cdv A outer s H0 E) ((defBody s_law).drop 6) { nx := fun _ H' => Q .non H', rt := Q } [some v0, some (.ref a), o2, o3, some v4, o5, o6, o7] H := by
  refine jss_setE 6 S_law.nd (je_RecorderB (n := 11) (k := 2) (ns := twoN) M.toMx hr jv_int (by decide) (by decide) (by decide) (by decide) fun r2 K0 k0 hn2 B0 => ?_)
  refine jss_setE 5 S_law.nd (je_of (pe_lst paj) (ja_of (pa_cons pej (pa_cons pej (pa_cons pej (pa_cons pej (pa_cons pej (pa_cons pej (pa_cons pej pa_nil rfl) rfl) rfl) rfl) rfl) rfl) rfl) ?_))
  refine JV.je (jv_handsB (n := 14) (h := 2) M.toMx hr (jv_var 6 rfl) B0 rfl) fun K1 k1 => ?_
  refine je_writeB (n := 6) M.toMx hr (jv_var 6 rfl) (B0.on k1) twoD1 (by decide) twoG1 jv_int jv_int fun K2 k2 B1 => ?_
  refine je_readB (n := 6) M.toMx hr (jv_var 6 rfl) B1 twoD2 (by decide) twoG2 jv_int fun K3 k3 B2 => ?_
  refine je_doneB (n := 6) M.toMx hr (jv_var 6 rfl) B2 twoD3 (by decide) twoG3 jv_int jv_int fun K4 k4 B3 => ?_
  refine je_done1B (n := 6) M.toMx hr (jv_var 6 rfl) B3 twoD4 (by decide) twoG4 jv_int fun K5 k5 B4 => ?_
  refine je_writeB (n := 6) M.toMx hr (jv_var 6 rfl) B4 twoD5 (by decide) twoG5 jv_int jv_int fun K6 k6 B5 => ?_
  refine je_done1B (n := 6) M.toMx hr (jv_var 6 rfl) B5 twoD6 (by decide) twoG6 jv_int fun K7 k7 B6 => ?_
  refine ⟨small1 (by simp), fun la hla => ?_⟩
  have kA := same_new (o := .lst [.int 2, .int 1, .int 1, .int 1, .int 1, .int 1, .int 1]) hla
  refine jss_setE 5 S_law.nd (je_of (pe_op op_cat pej pej) (JV.je (jv_var 5 rfl) fun K8 k8 => ?_))
  refine je_of (pe_lst paj) (ja_of (pa_cons pej (pa_cons pej (pa_cons pej (pa_cons pej pa_nil rfl) rfl) rfl) rfl) ?_)
  have la8 := k8 _ _ (upd_same (H := K7) (a := la) (o := .lst [.int 2, .int 1, .int 1, .int 1, .int 1, .int 1, .int 1]))
  have B6' := (B6.on kA).on k8
  refine je_readB (n := 6) M.toMx hr (jv_var 6 rfl) B6' twoD7 (by decide) twoG7 jv_int fun K9 k9 B7 => ?_
  refine je_writeB (n := 6) M.toMx hr (jv_var 6 rfl) B7 twoD8 (by decide) twoG8 jv_int jv_int fun K10 k10 B8 => ?_
  refine JD.je (d := pI [2, 9]) (by rw [← two_free]; exact jd_freeB (n := 7) (h := 1) M.toMx hr (jv_var 6 rfl) B8 (by decide) jv_int (by decide) rfl) fun u9 K11 k11 hu9 => ?_
  refine je_doneB (n := 6) M.toMx hr (jv_var 6 rfl) (B8.on k11) twoD9 (by decide) twoG9 jv_int jv_int fun K12 k12 B9 => ?_
  refine ⟨small1 (by simp), fun lb hlb => ?_⟩
  have kB := same_new (o := .lst [.int 1, .int 1, u9, .int 2]) hlb
  have la12 := kB _ _ (at_sx k12 (B8.on k11) (k11 _ _ (at_sx k10 B7 (at_sx k9 B6' la8 fun _ _ _ _ z => nomatch z) fun _ _ _ _ z => nomatch z)) fun _ _ _ _ z => nomatch z)
  have hu12 := (at_dp k12 (B8.on k11) hu9).on kB
  refine ⟨la, lb, _, _, rfl, rfl, la12, upd_same, small1 (by simp), fun lc hlc => ?_⟩
  have kC := same_new (o := .lst ([.int 2, .int 1, .int 1, .int 1, .int 1, .int 1, .int 1] ++ [.int 1, .int 1, u9, .int 2])) hlc
  have B9' := (B9.on kB).on kC
  have hu13 := hu12.on kC
  have hd13 : DpAll K (upd (upd K12 lb (.lst [.int 1, .int 1, u9, .int 2])) lc (.lst ([.int 2, .int 1, .int 1, .int 1, .int 1, .int 1, .int 1] ++ [.int 1, .int 1, u9, .int 2]))) ([.int 2, .int 1, .int 1, .int 1, .int 1, .int 1, .int 1] ++ [.int 1, .int 1, u9, .int 2]) dataTwo :=
    .cons (.int _) (.cons (.int _) (.cons (.int _) (.cons (.int _) (.cons (.int _) (.cons (.int _) (.cons (.int _) (.cons (.int _) (.cons (.int _) (.cons hu13 (.cons (.int _) .nil))))))))))
  refine jss_setL 5 S_law.nd (ds := dataTwo ++ [dataRec, .int 8]) (jl_cat (jr_var 5 rfl upd_same hd13) (jl_lst (jds_cons (jd_to (jd_recordB (n := 13) M.toMx hr (jv_var 6 rfl) B9') (by rw [two_rec]; rfl)) (jds_cons (jd_to (jd_firstB (n := 11) (h := 1) M.toMx hr (jv_var 6 rfl) B9' jv_int (by decide)) two_first) jds_nil)) (small1 (by simp))).jr (small1 (by simp [dataTwo]))) fun ld vd K14 k14 hnd hld hvd => ?_
  have w := law_end (w := w) (base := base) (outer := outer) (v0 := v0) (v4 := v4) (v6 := .ref r2) (a := a) (o2 := o2) (o3 := o3) (o7 := o7) (s := s) (E := E) (H0 := H0) M hr qq hld hvd
  cases w with
  | mk w => assumption
theorem law_six {f : Addr} {cdv : Value} {A : Around} {outer : List Env} {s : Shared} {H H0 : Hp} {E : XK} {Q : VK} (M : Mz P K mg) (hr : Room 16 (A.deeper (envOfC "law" (defScope s_law) s.heap.objs.size f cdv))) (qq : ∀ H', Q (.bl true) H') {v0 : V} {a : Addr} {o2 o3 o4 o5 o6 o7 : Option V} :
    JSs (cxOf (L2.CX P w) P w K mg base lawNs "law" (defScope s_law) f cdv A outer s H0 E) ((defBody s_law).drop 3) { nx := fun _ H' => Q .non H', rt := Q } [some v0, some (.ref a), o2, o3, o4, o5, o6, o7] H := by
  refine jss_setE 4 S_law.nd (je_RecorderB (n := 11) (k := 6) (ns := sixN) M.toMx hr jv_int (by decide) (by decide) (by decide) (by decide) fun r6 H6 s6 hn6 A0 => ?_)
  refine jss_setE 5 S_law.nd (je_of (pe_lst paj) (ja_of (pa_cons pej (pa_cons pej (pa_cons pej (pa_cons pej (pa_cons pej (pa_cons pej pa_nil rfl) rfl) rfl) rfl) rfl) rfl) ?_))
  refine JV.je (jv_handsB (n := 14) (h := 6) M.toMx hr (jv_var 4 rfl) A0 rfl) fun J1 j1 => ?_
  refine je_writeB (n := 6) M.toMx hr (jv_var 4 rfl) (A0.on j1) sixD1 (by decide) sixG1 jv_int jv_int fun J2 j2 A2 => ?_
  refine JV.je (v := .str "write") (JD.sv (x := "write") (jd_doingB (n := 11) (h := 5) M.toMx hr (jv_var 4 rfl) A2 jv_int (by decide))) fun J3 j3 => ?_
  refine je_readB (n := 6) M.toMx hr (jv_var 4 rfl) (A2.on j3) sixD2 (by decide) sixG2 jv_int fun J4 j4 A4 => ?_
  refine je_done1B (n := 6) M.toMx hr (jv_var 4 rfl) A4 sixD3 (by decide) sixG3 jv_int fun J5 j5 A5 => ?_
  refine je_doneB (n := 6) M.toMx hr (jv_var 4 rfl) A5 sixD4 (by decide) sixG4 jv_int jv_int fun J6 j6 A6 => ?_
  refine ⟨small1 (by simp), fun lh hlh => ?_⟩
  have hd6 : DpAll K (upd J6 lh (.lst [.int 6, .int 1, .str "write", .int 1, .int 1, .int 1])) [.int 6, .int 1, .str "write", .int 1, .int 1, .int 1] dataSix := .cons (.int _) (.cons (.int _) (.cons (.str _) (.cons (.int _) (.cons (.int _) (.cons (.int _) .nil)))))
  refine jss_cons (js_ifF (jb_to (jb_neD (d1 := .list dataSix) (d2 := .list dataSix) hr (jr_var 5 rfl upd_same hd6).jd (jl_lst (jds_cons jd_int (jds_cons jd_int (jds_cons jd_str (jds_cons jd_int (jds_cons jd_int (jds_cons jd_int jds_nil)))))) (small1 (by simp))).jd (by decide +kernel) (by decide +kernel)) (by decide +kernel)) fun J7 j7 => jss_nil ?_)
  exact law_two M hr qq
theorem g_law {T : List (Addr × Str)} (M : Mz P K mg) (TA : TbX K mg base T "_law_asked_right") (TH : TbX K mg base T "_law_hands_right") (TN : TbX K mg base T "_law_names_right") (TL : TbX K mg base T "law") : FnG2 P w K mg base 17 "law" ["_law_script"] (spLaw K T) := by
  refine fng2 M.d_law S_law (fun vs H Q E ⟨v, ns, h, _⟩ => by rw [h]; rfl) (fun f cdv A outer s H vs Q E hr hgd hcd ⟨v0, ns, e, hv0, hnl, hT, qq⟩ => ?_) (fun _ _ _ _ _ _ us hl => match us, hl with | [_], _ => rfl)
  subst e
  obtain ⟨c, P1, hc1, TB, hmT, huT⟩ := TL.ex
  cases hc1 cdv hcd
  have GA := (g_law_are (P := P) (w := w) (base := base) M)
  refine jss_setE 1 S_law.nd (je_call (E := E0) (g_law_begin (P := P) (w := w) (base := base) M.toMo) hr passL (ja_of (pa_cons pej pa_nil rfl) (JV.je (jv_var 0 rfl) fun H1 s1 => ⟨v0, ns, rfl, hv0.on s1, hnl, fun a c0 l cs ls H2 s2 _ _ _ hD => ?_⟩)) (by decide) rfl (by decide) rfl rfl)
  have hD2 : Dr K H2 a l 0 := ⟨c0, cs, ls, hD⟩
  have hT2 := (hT.ext s1).ext s2
  refine jss_cons (js_forRE 2 (passes_of rfl) rfl S_law.nd M.f_range (JV.je (v := .int ((2 + min ns.length 4 : Nat) : Int)) ?_ fun H3 s3 => ⟨2 + min ns.length 4, rfl, by omega, fun j σ1 H4 => (∃ t, t ≤ 200 * j ∧ Dr K H4 a l t) ∧ Tabs T H4 ∧ ∃ o2 o3 o4 o5 o6 o7, σ1 = [some v0, some (.ref a), o2, o3, o4, o5, o6, o7], ⟨⟨0, Nat.zero_le _, hD2.on s3⟩, hT2.ext s3, _, _, _, _, _, _, rfl⟩, ?_, ?_⟩))
  · have e : ((2 + min ns.length 4 : Nat) : Int) = 2 + (if (4 : Int) < (((ns.map PyData.int).length : Nat) : Int) then 4 else (((ns.map PyData.int).length : Nat) : Int)) := by
      rw [List.length_map]
      split <;> omega
    rw [e]
    exact (jd_add jd_int (jd_min2 rfl M.f_min (jd_len M.f_len (jd_var 0 rfl (hv0.on (s1.trans s2)))) jd_int)).int
  · rintro j σ1 H4 hj ⟨⟨t, ht, hD4⟩, hT4, o2, o3, o4, o5, o6, o7, rfl⟩
    refine jss_one (js_if (jt_notE (je_call2 (E := E0) (g_law_right (P := P) (w := w) (base := base) M TA TH TN) hr hgd passL (ja_of (pa_cons pej pa_nil rfl) (JV.je (jv_var 1 rfl) fun H5 s5 => ⟨a, l, t, rfl, hD4.on s5, by omega, hT4.ext s5, fun H6 t6 hD6 ht6 hT6 => ⟨rfl, iteF (jss_nil ⟨⟨t6, by omega, hD6⟩, hT6, _, _, _, _, _, _, rfl⟩)⟩⟩)) (by decide) rfl (by decide) rfl rfl)))
  · rintro σ1 H4 ⟨⟨t, ht, hD4⟩, hT4, o2, o3, o4, o5, o6, o7, rfl⟩
    refine jss_cons (js_forT 3 (passes_of rfl) rfl S_law.nd ?_)
    refine je_of (pe_tup paj) (ja_of (pa_cons pej (pa_cons pej (pa_cons pej (pa_cons pej (pa_cons pej (pa_cons pej (pa_cons pej (pa_cons pej (pa_cons pej pa_nil rfl) rfl) rfl) rfl) rfl) rfl) rfl) rfl) rfl) ?_)
    refine JV.je jv_non fun G1 g1 => JV.je jv_int fun G2 g2 => JV.je jv_int fun G3 g3 => JV.je (jd_neg jd_int).int fun G4 g4 => JV.je jv_bl fun G5 g5 => JV.je jv_str fun G5' g5' => ?_
    have g05 := (g1.trans g2).trans ((g3.trans g4).trans (g5.trans g5'))
    refine je_of (pe_tup paj) (ja_of (pa_cons pej pa_nil rfl) (JV.je jv_int fun G6 g6 => ⟨small1 (by simp), fun t1 ht1 => ?_⟩))
    have g7 := same_new (o := .tup [V.int 2]) ht1
    refine je_of (pe_lst paj) (ja_of pa_nil ⟨small1 (by simp), fun l1 hl1 => ?_⟩)
    have g8 := same_new (o := .lst []) hl1
    refine JMF.je (α := Int) (da := PyData.int) jmf_new fun d1 G10 g10 hnd1 hd1 => ?_
    refine ⟨small1 (by simp), fun tq htq => ?_⟩
    have g11 := same_new (o := .tup [.non, .int 0, .int 7, .int (-1), .bl true, .str "2", .ref t1, .ref l1, .ref d1]) htq
    have gF := (g05.trans g6).trans (g7.trans (g8.trans (g10.trans g11)))
    have odd3 : ∀ {HF : Hp}, Same G10 HF → ∀ x ∈ ([.non, .int 0, .int 7, .int (-1), .bl true, .str "2", .ref t1, .ref l1, .ref d1] : List V), OddX K (fun x => btw x 1 6 = false) HF x := by
      intro HF sHF x hx
      rcases List.mem_cons.mp hx with z | hx
      · subst z; exact ⟨_, .none, .non, .non, sz_none.mono (by decide) (by decide), rfl⟩
      rcases List.mem_cons.mp hx with z | hx
      · subst z; exact ⟨_, .int 0, .int _, .int _, ⟨rfl, by decide, by decide +kernel⟩, rfl⟩
      rcases List.mem_cons.mp hx with z | hx
      · subst z; exact ⟨_, .int 7, .int _, .int _, ⟨rfl, by decide, by decide +kernel⟩, rfl⟩
      rcases List.mem_cons.mp hx with z | hx
      · subst z; exact ⟨_, .int (-1), .int _, .int _, ⟨rfl, by decide, by decide +kernel⟩, rfl⟩
      rcases List.mem_cons.mp hx with z | hx
      · subst z; exact ⟨_, .bool true, .bl _, .bl _, ⟨rfl, by decide, by decide +kernel⟩, rfl⟩
      rcases List.mem_cons.mp hx with z | hx
      · subst z; exact ⟨_, .str "2", .str _, .str _, ⟨rfl, by decide, by decide +kernel⟩, rfl⟩
      rcases List.mem_cons.mp hx with z | hx
      · subst z
        have h0 := ((g8.trans g10).trans sHF) _ _ (upd_same (H := G6) (a := t1) (o := .tup [V.int 2]))
        exact ⟨_, .tuple [.int 2], .tup h0, .tup (SqT.of h0) (.cons (.int 2) .nil), ⟨rfl, by decide, by decide +kernel⟩, rfl⟩
      rcases List.mem_cons.mp hx with z | hx
      · subst z
        have h0 := (g10.trans sHF) l1 (.lst []) upd_same
        exact ⟨_, .list [], .lst h0, .lst (SqL.len h0) .nil, ⟨rfl, by decide, by decide +kernel⟩, rfl⟩
      rcases List.mem_cons.mp hx with z | hx
      · subst z
        obtain ⟨kv, z1, z2⟩ := hd1
        cases z2
        have h0 := sHF _ _ z1
        exact ⟨_, .dict [], .dK h0, .mt h0, ⟨rfl, by decide, by decide +kernel⟩, rfl⟩
      cases hx
    generalize hys : ([.non, .int 0, .int 7, .int (-1), .bl true, .str "2", .ref t1, .ref l1, .ref d1] : List V) = ys at g11 gF odd3 ⊢
    refine ⟨tq, ys, fun _ σ1 H2 => Tabs T H2 ∧ SqT K H2 tq ys ∧ (∀ x ∈ ys, OddX K (fun x => btw x 1 6 = false) H2 x) ∧ ∃ o2 o3 o4 o5 o6 o7, σ1 = [some v0, some (.ref a), o2, o3, o4, o5, o6, o7], rfl, ⟨hT4.ext gF, SqT.of upd_same, odd3 g11, _, _, _, _, _, _, rfl⟩, fun j σ1 H2 z => z.2.1, ?_, ?_⟩
    · rintro j v σ1 H5 hv ⟨hT5, htq5, odd5, o2, o3, o4, o5, o6, o7, rfl⟩
      obtain ⟨Tn, d, hTh, hRp, hSz, hbt⟩ := odd5 v (List.mem_of_getElem? hv)
      refine jss_one (js_are (n := 3) GA hr hgd (fun _ => rfl) ?_)
      refine je_of (pe_lst paj) (ja_of (pa_cons pej pa_nil rfl) ?_)
      refine je_lam TB rfl hmT huT hT5 (hfree_of (show lamNB (defScope s_law) _ = true by decide +kernel)) fun f1 H6 e6 T6 n6 F1 => ?_
      refine ⟨small1 (by simp), fun lc hlc => ?_⟩
      have s7 := same_new (o := .lst [.ref f1]) hlc
      refine je_of (pe_tup paj) (ja_of (pa_cons pej (pa_cons pej pa_nil rfl) rfl) (JV.je jv_str fun H8 s8 => JV.je (jv_var 3 rfl) fun H9 s9 => ⟨small1 (by simp), fun tt htt => ?_⟩))
      have s10 := same_new (o := .tup [.str "number", v]) htt
      have s610 := s7.trans (s8.trans (s9.trans s10))
      have e510 := e6.trans (extN_same s610)
      have hTh10 := hTh.ext e510
      refine ⟨lc, tt, [f1], .num, v, d, rfl, rfl, (s8.trans (s9.trans s10)) _ _ upd_same, ?_, upd_same, rp_ext e510 _ _ hRp, hSz, by simp, fun H15 s15 => ?_⟩
      · intro g hg
        rcases List.mem_cons.mp hg with z | hg
        · subst z
          exact thk_of0 (N := ["_law_odd_here"]) (τ := [some v]) (sp := spMk K v Tn) (show lamNB (defScope s_law) _ = true by decide +kernel) (F1.on fun b o n e => (extN_same s610) b o e n) (fun i x v' h1 h2 => by
            match i, h1, h2 with
            | 0, h1, h2 => cases h1; cases h2; exact ⟨rfl, rfl, 3, rfl, rfl⟩
            | n + 1, h1, _ => cases h1) rfl spMk_on (fun f c' A outer s H Q E hr h => je_Recorder (n := 5) M.toMx hr passLam (jv_var 0 rfl) h.1 (fun _ => h.2) fun k hk k1 k2 => by
              rw [hk] at hbt
              have z : (decide (1 ≤ (k : Int)) && decide ((k : Int) ≤ 6)) = false := hbt
              rw [decide_eq_true (by omega), decide_eq_true (by omega)] at z
              cases z) (spMk_hs hTh10)
        cases hg
      · exact ⟨(T6.ext s610).ext s15, ext_sqt (e510.trans (extN_same s15)) htq5, fun x hx => (odd5 x hx).ext (e510.trans (extN_same s15)), _, _, _, _, _, _, rfl⟩
    · rintro σ1 H5 ⟨hT5, htq5, odd5, o2, o3, o4, o5, o6, o7, rfl⟩
      exact law_six M hr qq
end
end K28
-- KEnd
/-! KEnd: tables of the defs that make lambdas; the law called from outside. -/
namespace K28
open PySem PySem.Spec PyProof.Rows L2 LamX
theorem map_inj_of {α β : Type} {f : α → β} : ∀ {l : List α}, (l.map f).Nodup → ∀ x ∈ l, ∀ y ∈ l, f x = f y → x = y
  | [], _, x, hx, _, _, _ => by cases hx
  | a :: l, h, x, hx, y, hy, e => by
    obtain ⟨h1, h2⟩ := List.nodup_cons.mp (show (f a :: l.map f).Nodup from h)
    rcases List.mem_cons.mp hx with z | z <;> rcases List.mem_cons.mp hy with z2 | z2
    · rw [z, z2]
    · exact absurd (List.mem_map.mpr ⟨y, z2, by rw [← e, z]⟩) h1
    · exact absurd (List.mem_map.mpr ⟨x, z, by rw [e, z2]⟩) h1
    · exact map_inj_of h2 x z y z2 e
/-- the tables, and the name that their code objects bear -/
def tabsK (K : PySem.W.Frag) : List (Addr × Str) := tf.map fun p => (tabP K p.1, p.1 ++ ".<locals>." ++ "<lambda>")
def codesK (K : PySem.W.Frag) : List (Addr × Addr) := tf.map fun p => He.cT K p
theorem code_one {K : PySem.W.Frag} {mg : Str → Option Value} {x : Str} {st : Stmt} (T : Top K mg x st) : ∀ cdv, CodeOf K x cdv → cdv = .ref (He.codeOf K (x, none)) := by
  rintro cdv ⟨o, fd, l1, l2, l3⟩
  obtain ⟨⟨fd', F⟩, _⟩ := T
  obtain ⟨oc, od, dV, kV, doc, pm, an, cd, ct, sl, e1, e2, e3, _, _⟩ := F.ex
  obtain ⟨c, ec⟩ := He.codeIn_ref e3
  rw [e2] at l1
  have eo := Option.some.inj l1
  rw [← eo] at l2
  have ef : fd' = fd := Data.func.inj l2
  have e5 : fd'.code = .ref c := by rw [e1]; exact ec
  rw [He.codeOf_eq (p := (x, none)) e2 e5, ← l3, ← ef, e5]
theorem tbx_of {K : PySem.W.Frag} {mg : Str → Option Value} {w : World} {h base : Heap} {x : Str} {st : Stmt} (c : SaysK w h K) (tb : ∀ p ∈ codesK K, TabB base mg p.1 p.2) (T : Top K mg x st) (hx : (x, none) ∈ tf) : TbX K mg base (tabsK K) x := by
  have m := c.more
  unfold exB at m
  obtain ⟨_, m⟩ := He.ba m
  obtain ⟨_, m⟩ := He.ba m
  obtain ⟨_, m⟩ := He.ba m
  obtain ⟨_, m⟩ := He.ba m
  obtain ⟨_, nd⟩ := He.ba m
  have nd := of_decide_eq_true nd
  refine ⟨He.codeOf K (x, none), tabP K x, code_one T, tb _ (List.mem_map.mpr ⟨_, hx, rfl⟩), List.mem_map.mpr ⟨_, hx, rfl⟩, fun p hp e => ?_⟩
  obtain ⟨y, hy, ey⟩ := List.mem_map.mp hp
  subst ey
  have := map_inj_of nd y hy _ hx e
  rw [this]
/-! ### from outside -/
theorem end_of {P : Program} {w : World} {K : PySem.W.Frag} {mg mb : Str → Option Value} {cs : List (Addr × Addr)} {st : Shared} {a : Addr} {us : List Value} {ns : List Int} {k : Nat} {x y : Str} {sp : Sp}
    (inK : K.In st.heap) (nsG : st.heap.Ns mainGlobals mg) (nsB : st.heap.Ns builtinsNs mb) (bB : ∀ z : Str, z ≠ "__name__" → mb z = bootBuiltins z) (noL : st.heap.NoLimit) (gens0 : st.gens = #[])
    (tabs : ∀ q ∈ cs, st.heap.get? q.2 = some { cls := .none, data := .fields #[] }) (outK : ∀ q ∈ cs, K.lookup q.2 = none) (heads : ∀ q ∈ cs, PySem.W.CodeHd st.heap q.1 q.2)
    (bmod : ∃ (bm : Addr) (ob : Obj), mg "__builtins__" = some (.ref bm) ∧ bm ≠ builtinsNs ∧ st.heap.get? bm = some ob ∧ ob.cls = .type "module" ∧ ob.dict = some builtinsNs ∧ ob.data = .plain)
    (scr : st.heap.get? a = some { cls := .type "list", data := .seq us.toArray }) (hInts : IntsAre us ns) (short : ns.length ≤ sizeLine) (room : Room k callerA)
    (F : ∀ base : Heap, K.In base → base.Ns mainGlobals mg → (∀ q ∈ cs, TabB base mg q.1 q.2) → FnG2 P w K mg base k x [y] sp)
    (hsp : ∀ H : Hp, (∀ q ∈ cs, H q.2 = some (.tbl #[])) → SqL K H a (ns.map V.int) → sp [.ref a] H (fun v _ => v = .bl true) fun _ _ _ => False)
    (noX : ∀ (H : Hp) (e : Value) (s' : Shared), L2.CX P w [] H st (fun _ _ _ => False) e s' → False) :
    codeAny (model P w) callerA (.call (.ref (He.ga K x)) ⟨[.ref a], []⟩) (fun r s' => r = .ok (.ret (.bool true)) ∧ OldK st.heap s'.heap ∧ s'.os = st.os ∧ AllBare s'.gens) st := by
  have vI := vals_ints hInts
  have lI := hInts.length
  let tabAt : Addr → Prop := fun b => ∃ q ∈ cs, q.2 = b
  have tabObj : ∀ b, tabAt b → st.heap.get? b = some { cls := .none, data := .fields #[] } := by
    rintro b ⟨q, hq, rfl⟩
    exact tabs q hq
  have tabNoK : ∀ b, tabAt b → K.lookup b = none := by
    rintro b ⟨q, hq, rfl⟩
    exact outK q hq
  have aNo : ¬ tabAt a := fun z => by
    have e := tabObj a z
    rw [scr] at e
    exact nomatch congrArg Obj.data (Option.some.inj e)
  classical
  let own : Option HO := match K.lookup a with
    | none => some (.frz { cls := .type "list", data := .seq us.toArray } (.lst (ns.map V.int)))
    | some _ => none
  let HH : Hp := fun b => if tabAt b then some (.tbl #[]) else if b = a then own else none
  have hTab : ∀ b, tabAt b → HH b = some (.tbl #[]) := fun b z => if_pos z
  have hA : HH a = own := (if_neg aNo).trans (if_pos rfl)
  have hNo : ∀ b, ¬ tabAt b → b ≠ a → HH b = none := fun b z1 z2 => (if_neg z1).trans (if_neg z2)
  have three : ∀ b, tabAt b ∨ b = a ∨ HH b = none := fun b => by
    by_cases z1 : tabAt b
    · exact .inl z1
    · by_cases z2 : b = a
      · exact .inr (.inl z2)
      · exact .inr (.inr (hNo b z1 z2))
  have plain : ∀ {b : Addr} {o : Obj}, st.heap.get? b = some o → (∀ l n, o.data ≠ .seq l n) → o.data ≠ .fields #[] → HH b = none := by
    intro b o e n1 n2
    rcases three b with z | z | z
    · rw [tabObj b z] at e
      exact absurd (congrArg Obj.data (Option.some.inj e)).symm n2
    · rw [z, scr] at e
      exact absurd (congrArg Obj.data (Option.some.inj e)).symm (n1 _ _)
    · exact z
  have sees : ∀ {b : Addr} {o : Obj}, st.heap.get? b = some o → (∀ l n, o.data ≠ .seq l n) → o.data ≠ .fields #[] → (hidT st.heap HH).get? b = some o := fun e n1 n2 => hidT_get e (plain e n1 n2)
  have seesNs : ∀ {b : Addr} {m : Str → Option Value}, st.heap.Ns b m → (hidT st.heap HH).Ns b m := by
    rintro b m ⟨o, es, ep, e, d, r⟩
    refine ⟨o, es, ep, sees e (fun l n z => ?_) (fun z => ?_), d, r⟩ <;> (rw [d] at z; cases z)
  have kb : K.In (hidT st.heap HH) := by
    intro b o e
    refine hidT_get (inK b o e) ?_
    rcases three b with z | z | z
    · rw [tabNoK b z] at e
      cases e
    · subst z
      rw [hA]
      show (match K.lookup b with | none => some _ | some _ => none) = none
      rw [e]
    · exact z
  have seq : SqL K HH a (ns.map V.int) := by
    cases q : K.lookup a with
    | none =>
      have eo : own = some (.frz { cls := .type "list", data := .seq us.toArray } (.lst (ns.map V.int))) := by
        show (match K.lookup a with | none => some _ | some _ => none) = _
        rw [q]
      exact .inl (.inr ⟨_, hA.trans eo⟩)
    | some o =>
      have e := inK a o q
      rw [scr] at e
      cases e
      exact .inr ⟨_, us.toArray, _, q, rfl, rfl, rfl, by rw [List.size_toArray, lI]; exact short, by simpa using vI⟩
  have fit : HOk P w HH st.heap := by
    intro b o e
    rcases three b with z | z | z
    · rw [hTab b z] at e
      cases e
      exact tabObj b z
    · subst z
      rw [hA] at e
      cases q : K.lookup b with
      | none =>
        have eo : own = some (.frz { cls := .type "list", data := .seq us.toArray } (.lst (ns.map V.int))) := by
          show (match K.lookup b with | none => some _ | some _ => none) = _
          rw [q]
        rw [eo] at e
        cases e
        exact ⟨scr, by rw [List.length_map]; exact short, us, _, vI, scr⟩
      | some o' =>
        have eo : own = none := by
          show (match K.lookup b with | none => some _ | some _ => none) = _
          rw [q]
        rw [eo] at e
        cases e
    · rw [z] at e
      cases e
  obtain ⟨mc, lim1, lim2⟩ := noL
  have modB : L2.Mod K mg (hidT st.heap HH) := ⟨kb, seesNs nsG, ⟨mb, seesNs nsB, bB⟩, ⟨mc, seesNs lim1, lim2⟩⟩
  have tabB : ∀ q ∈ cs, TabB (hidT st.heap HH) mg q.1 q.2 := by
    intro q hq
    have tq := tabs q hq
    obtain ⟨bm, ob, b1, b2, b3, b4, b5, b6⟩ := bmod
    obtain ⟨og, eg, pg, g1, g2, g3⟩ := nsG
    have gq : mainGlobals ≠ q.2 := fun z => by
      rw [z, tq] at g1
      cases g1
      cases g2
    have bmG : bm ≠ mainGlobals := fun z => by
      rw [z, g1] at b3
      cases b3
      rw [g2] at b6
      cases b6
    have bmq : bm ≠ q.2 := fun z => by
      rw [z, tq] at b3
      cases b3
      cases b6
    refine ⟨?_, ⟨bm, ob, b1, b2, bmG, bmq, sees b3 (fun l n z => ?_) (fun z => ?_), b4, b5, b6⟩, gq⟩
    · obtain ⟨o, vs, fl, tfl, fg, tg, iF, tx, tt, c1, c2, c3, c4, c5, c6, c7, c8, c9, cne⟩ := heads q hq
      refine ⟨o, vs, fl, tfl, fg, tg, iF, tx, tt, sees c1 (fun l n z => ?_) (fun z => ?_), c2, c3, c4, c5, c6, c7, c8, c9, cne⟩
      · rw [c3] at z; cases z
      · rw [c3] at z
        cases z
        simp at c4
    · rw [b6] at z; cases z
    · rw [b6] at z; cases z
  obtain ⟨fd, _, runF, bd⟩ := (F _ kb (seesNs nsG) tabB).ex
  have env : Env0 P w K mg (hidT st.heap HH) callerA [] st HH := ⟨rfl, modB, fun b o e => of_hidT e, Nat.le_of_eq (hidT_size _ _), trivial, fun b hb => absurd (show b ∈ ([] : List Addr) from hb) List.not_mem_nil, fit, AllBare.of_eq gens0⟩
  have bdd : BindsTo st fd ⟨[.ref a], []⟩ ([y].zip [.ref a]) := bd st [.ref a] inK rfl
  refine codeAny_mono (runF callerA [] st HH ⟨[.ref a], []⟩ [.ref a] [.ref a] _ _ room rfl env bdd (.cons rfl .nil) (hsp HH (fun q hq => hTab _ ⟨q, hq, rfl⟩) seq)) fun r s' res => ?_
  cases r with
  | error e => exact (noX HH e s' res).elim
  | ok fl =>
    cases fl with
    | next => exact False.elim res
    | brk => exact False.elim res
    | cont => exact False.elim res
    | ret u =>
      obtain ⟨v, H', os, bare, un, fit', ru, qv⟩ := res
      have qv : v = .bl true := qv
      subst qv
      obtain rfl : u = Value.bool true := ru
      have stays : ∀ b o, ¬ tabAt b → st.heap.get? b = some o → s'.heap.get? b = some o := by
        intro b o nt e
        rcases three b with z | z | z
        · exact absurd z nt
        · subst z
          cases q : K.lookup b with
          | none =>
            have eo : HH b = some (.frz { cls := .type "list", data := .seq us.toArray } (.lst (ns.map V.int))) := by
              rw [hA]
              show (match K.lookup b with | none => some _ | some _ => none) = _
              rw [q]
            have h1 := (fit b _ eo).1
            have h2 := (fit' b _ (un.frzs b _ _ eo)).1
            rw [e] at h1
            cases h1
            exact h2
          | some o' =>
            have eo : HH b = none := by
              rw [hA]
              show (match K.lookup b with | none => some _ | some _ => none) = _
              rw [q]
            exact un.keep b o e eo (fun z => absurd (show b ∈ ([] : List Addr) from z) List.not_mem_nil) List.not_mem_nil
        · exact un.keep b o e z (fun z => absurd (show b ∈ ([] : List Addr) from z) List.not_mem_nil) List.not_mem_nil
      have grows : ∀ q ∈ cs, ∃ more : Array Value, s'.heap.get? q.2 = some { cls := .none, data := .fields more } := by
        intro q hq
        obtain ⟨more, z⟩ := un.tbls q.2 #[] (hTab _ ⟨q, hq, rfl⟩)
        exact ⟨_, fit' q.2 _ z⟩
      refine ⟨rfl, ⟨fun b o e => ?_, fun b o e => ?_⟩, os, bare⟩
      · by_cases hb : tabAt b
        · obtain ⟨q, hq, rfl⟩ := hb
          obtain ⟨more, hm⟩ := grows q hq
          rw [tabs q hq] at e
          cases e
          exact .inr (.inl ⟨((heads q hq).tab (tabs q hq)).isCodeTable, rfl, #[], more, rfl, by rw [Array.empty_append]; exact hm⟩)
        · exact .inl (stays b o hb e)
      · by_cases hb : tabAt b
        · obtain ⟨q, hq, rfl⟩ := hb
          obtain ⟨more, hm⟩ := grows q hq
          exact ⟨_, hm⟩
        · exact ⟨o, stays b o hb e⟩
end K28
set_option maxHeartbeats 0
-- KLast
namespace K28
open PySem PySem.Spec PyProof.Rows L2 LamX
theorem tabs0 {K : PySem.W.Frag} {H : Hp} (h : ∀ q ∈ codesK K, H q.2 = some (.tbl #[])) : Tabs (tabsK K) H := by
  intro p hp
  obtain ⟨y, hy, e⟩ := List.mem_map.mp hp
  subst e
  refine TabS.nil (h (He.cT K y) (List.mem_map.mpr ⟨y, hy, rfl⟩) ▸ ?_)
  have : ∀ z ∈ tf, (He.cT K z).2 = tabP K z.1 := by
    intro z hz
    have : z.2 = none := by
      rcases List.mem_cons.mp hz with e | hz
      · rw [e]
      rcases List.mem_cons.mp hz with e | hz
      · rw [e]
      rcases List.mem_cons.mp hz with e | hz
      · rw [e]
      rw [List.mem_singleton.mp hz]
    obtain ⟨z1, z2⟩ := z
    have e2 : z2 = none := this
    rw [e2]
    rfl
  rw [this y hy]
end K28
open PySem PySem.W PySem.Calls PyProof.Rows
theorem PySem.Challenge.cw_leastcells_k28_whole_recorders_holds : PySem.Challenge.rw_leastcells_k28_whole_recorders.Holds := by
  w_on; o_law
  refine HandSHeadRun.head_any (r := OpenLaw.row PySem.Challenge.rw_leastcells_k28_whole_recorders) (q := view (OpenLaw.row PySem.Challenge.rw_leastcells_k28_whole_recorders).prog [62]) (H := K28.hk) (ob := K28.ob) (M := 4000) (loose := K28.loose) (d := HandSHeadRun.topDef (OpenLaw.row PySem.Challenge.rw_leastcells_k28_whole_recorders).prog 62) (kwd := []) K28.ob_eq
    (by kernel_rfl) (fun s => by kernel_rfl) K28.run (by kernel_rfl) (by kernel_rfl) (by kernel_rfl) (by rfl) (by first | assumption | decide +kernel) (by decide +kernel) ⟨rfl, rfl, rfl, rfl, rfl, by decide +kernel⟩ ?hw ?hc
  case hw => w_witness2
  case hc =>
    refine Att.attach_callB (l := PySem.Challenge.rw_leastcells_k28_whole_recorders) (n := 63) rfl (by kernel_rfl) fun w s0 s1 mg mb fa o pm cd doc a vs ns G Y ho hd hcd hmg0 hobj hints hlen hbits hg => ?_
    obtain ⟨K, KX, c⟩ := Y
    have hmg : mg ("law" : PySem.Str) = some (.ref fa) := by
      have e : (HandSHeadRun.topDef (OpenLaw.row PySem.Challenge.rw_leastcells_k28_whole_recorders).prog 62).name = ("law" : PySem.Str) := by kernel_rfl
      rw [← e]
      exact hmg0
    have M : K28.Mz (PySem.Challenge.rw_leastcells_k28_whole_recorders).prog K mg := K28.mz_of (by kernel_rfl) (by kernel_rfl) KX G.T.g c
    have efa : fa = He.ga K "law" := by
      have e := hmg.symm.trans M.d_law.gl
      exact Value.ref.inj (Option.some.inj e)
    subst efa
    have inTf : ∀ q ∈ K28.codesK K, ∃ y ∈ K28.tf, He.cT K y = q := fun q hq => List.mem_map.mp hq
    refine K28.end_of (k := 17) (x := "law") (y := "_law_script") (sp := K28.spLaw K (K28.tabsK K)) (cs := K28.codesK K) KX G.T.g G.T.b G.T.builtins G.T.nolimit hg (fun q hq => ?_) (fun q hq => ?_) (fun q hq => ?_) G.T.bmain hobj hints (Nat.le_trans hlen (by decide)) ⟨rfl, by decide, by decide⟩ (fun base kb nb tb => ?_) (fun H hH hS => ?_) (fun H e s' z => ?_)
    · obtain ⟨y, hy, rfl⟩ := inTf q hq
      exact c.empty y hy
    · obtain ⟨y, hy, rfl⟩ := inTf q hq
      exact c.out y hy
    · obtain ⟨y, hy, rfl⟩ := inTf q hq
      exact PySem.W.codeHd_of_K KX (c.hd y hy)
    · exact K28.g_law M (K28.tbx_of c tb M.d_law_asked_right (by decide)) (K28.tbx_of c tb M.d_law_hands_right (by decide)) (K28.tbx_of c tb M.d_law_names_right (by decide)) (K28.tbx_of c tb M.d_law (by decide))
    · exact ⟨.ref a, ns, rfl, L2.Dp.lst hS (L2.DpAll.ofInts ns), by omega, K28.tabs0 hH, fun _ => rfl⟩
    · obtain ⟨_, _, _, _, _, _, _, _, _, _, _, _, z⟩ := z
      exact z.elim
