import PyProof.Rows.All
import Wide.All
import OpenK.AllK
import Wide.FinOn
import HandS.ForMost
import HandS.ForExc
import HandS.IsInst
import HandS.ExcIs
import HandS.ExcValue
import HandS.Codes
import HandS.Flow
import HandS.Style
import KE.KDictCopyH
import PySem.Challenge.RW_chessclock_k10_whole_clock
set_option Elab.async false
set_option linter.all false
set_option maxRecDepth 100000
set_option maxHeartbeats 4000000
namespace Ck
open PySem L2
open PyProof.Rows (envOfC)
def top (i : Nat) : Stmt := PySem.Challenge.pw_chessclock_k10_whole_clock.main.body.getD i (.Pass ⟨0, 0, 0, 0⟩)
abbrev s_Side___init : Stmt := inClass (top 7) 0
abbrev s_Side_begin : Stmt := inClass (top 7) 1
abbrev s_Side_stage : Stmt := inClass (top 7) 2
abbrev s_Side_is_over : Stmt := inClass (top 7) 3
abbrev s_Side_free : Stmt := inClass (top 7) 4
abbrev s_Side_until : Stmt := inClass (top 7) 5
abbrev s_Side_pass_by : Stmt := inClass (top 7) 6
abbrev s_Side_falls : Stmt := inClass (top 7) 7
abbrev s_Side_press : Stmt := inClass (top 7) 8
abbrev s_look_main : Stmt := top 13
abbrev s_look_stages : Stmt := top 14
abbrev s_Clock___init : Stmt := inClass (top 16) 0
abbrev s_Clock_look : Stmt := inClass (top 16) 1
abbrev s_Clock_start : Stmt := inClass (top 16) 2
abbrev s_Clock_stop : Stmt := inClass (top 16) 3
abbrev s_Clock_go : Stmt := inClass (top 16) 4
abbrev s_Clock_press : Stmt := inClass (top 16) 5
abbrev s_Clock_give : Stmt := inClass (top 16) 6
abbrev s_Clock_state : Stmt := inClass (top 16) 7
abbrev s_Clock_game : Stmt := inClass (top 16) 8
abbrev s_law_cell : Stmt := top 18
abbrev s_law_mix : Stmt := top 19
abbrev s_law_stages : Stmt := top 20
abbrev s_law_deeds : Stmt := top 21
abbrev s_law_new : Stmt := top 22
abbrev s_law_next : Stmt := top 23
abbrev s_law_tick : Stmt := top 24
abbrev s_law_press : Stmt := top 25
abbrev s_law_due : Stmt := top 26
abbrev s_law_state : Stmt := top 27
abbrev s_law_told : Stmt := top 28
abbrev s_law_shown : Stmt := top 29
abbrev s_law_same : Stmt := top 30
abbrev s_law : Stmt := top 31
theorem sc_Side___init : FnScope ["self", "stages"] ["self", "stages"] (defScope s_Side___init) := ⟨rfl, rfl, rfl, by decide +kernel, rfl, by decide +kernel, by decide +kernel⟩
theorem sc_Side_begin : FnScope ["self", "at"] ["self", "at"] (defScope s_Side_begin) := ⟨rfl, rfl, rfl, by decide +kernel, rfl, by decide +kernel, by decide +kernel⟩
theorem sc_Side_stage : FnScope ["self"] ["self"] (defScope s_Side_stage) := ⟨rfl, rfl, rfl, by decide +kernel, rfl, by decide +kernel, by decide +kernel⟩
theorem sc_Side_is_over : FnScope ["self"] ["self"] (defScope s_Side_is_over) := ⟨rfl, rfl, rfl, by decide +kernel, rfl, by decide +kernel, by decide +kernel⟩
theorem sc_Side_free : FnScope ["self"] ["self"] (defScope s_Side_free) := ⟨rfl, rfl, rfl, by decide +kernel, rfl, by decide +kernel, by decide +kernel⟩
theorem sc_Side_until : FnScope ["self"] ["self"] (defScope s_Side_until) := ⟨rfl, rfl, rfl, by decide +kernel, rfl, by decide +kernel, by decide +kernel⟩
theorem sc_Side_pass_by : FnScope ["self", "ticks", "counted"] ["self", "ticks"] (defScope s_Side_pass_by) := ⟨rfl, rfl, rfl, by decide +kernel, rfl, by decide +kernel, by decide +kernel⟩
theorem sc_Side_falls : FnScope ["self"] ["self"] (defScope s_Side_falls) := ⟨rfl, rfl, rfl, by decide +kernel, rfl, by decide +kernel, by decide +kernel⟩
theorem sc_Side_press : FnScope ["self"] ["self"] (defScope s_Side_press) := ⟨rfl, rfl, rfl, by decide +kernel, rfl, by decide +kernel, by decide +kernel⟩
theorem sc_look_main : FnScope ["stage", "is_last", "word", "moves", "ticks", "way", "extra"] ["stage", "is_last"] (defScope s_look_main) := ⟨rfl, rfl, rfl, by decide +kernel, rfl, by decide +kernel, by decide +kernel⟩
theorem sc_look_stages : FnScope ["stages", "k", "stage", "is_last"] ["stages"] (defScope s_look_stages) := ⟨rfl, rfl, rfl, by decide +kernel, rfl, by decide +kernel, by decide +kernel⟩
theorem sc_Clock___init : FnScope ["self", "stages"] ["self", "stages"] (defScope s_Clock___init) := ⟨rfl, rfl, rfl, by decide +kernel, rfl, by decide +kernel, by decide +kernel⟩
theorem sc_Clock_look : FnScope ["self"] ["self"] (defScope s_Clock_look) := ⟨rfl, rfl, rfl, by decide +kernel, rfl, by decide +kernel, by decide +kernel⟩
theorem sc_Clock_start : FnScope ["self"] ["self"] (defScope s_Clock_start) := ⟨rfl, rfl, rfl, by decide +kernel, rfl, by decide +kernel, by decide +kernel⟩
theorem sc_Clock_stop : FnScope ["self"] ["self"] (defScope s_Clock_stop) := ⟨rfl, rfl, rfl, by decide +kernel, rfl, by decide +kernel, by decide +kernel⟩
theorem sc_Clock_go : FnScope ["self", "ticks", "left", "side", "many"] ["self", "ticks"] (defScope s_Clock_go) := ⟨rfl, rfl, rfl, by decide +kernel, rfl, by decide +kernel, by decide +kernel⟩
theorem sc_Clock_press : FnScope ["self", "who"] ["self", "who"] (defScope s_Clock_press) := ⟨rfl, rfl, rfl, by decide +kernel, rfl, by decide +kernel, by decide +kernel⟩
theorem sc_Clock_give : FnScope ["self", "who", "ticks", "side"] ["self", "who", "ticks"] (defScope s_Clock_give) := ⟨rfl, rfl, rfl, by decide +kernel, rfl, by decide +kernel, by decide +kernel⟩
theorem sc_Clock_state : FnScope ["self", "who", "side"] ["self", "who"] (defScope s_Clock_state) := ⟨rfl, rfl, rfl, by decide +kernel, rfl, by decide +kernel, by decide +kernel⟩
theorem sc_Clock_game : FnScope ["self"] ["self"] (defScope s_Clock_game) := ⟨rfl, rfl, rfl, by decide +kernel, rfl, by decide +kernel, by decide +kernel⟩
theorem sc_law_cell : FnScope ["_law_script", "_law_k"] ["_law_script", "_law_k"] (defScope s_law_cell) := ⟨rfl, rfl, rfl, by decide +kernel, rfl, by decide +kernel, by decide +kernel⟩
theorem sc_law_mix : FnScope ["_law_script", "_law_k", "_law_number"] ["_law_script", "_law_k"] (defScope s_law_mix) := ⟨rfl, rfl, rfl, by decide +kernel, rfl, by decide +kernel, by decide +kernel⟩
theorem sc_law_stages : FnScope ["_law_script", "_law_k", "_law_found", "_law_j", "_law_number", "_law_way"] ["_law_script", "_law_k"] (defScope s_law_stages) := ⟨rfl, rfl, rfl, by decide +kernel, rfl, by decide +kernel, by decide +kernel⟩
theorem sc_law_deeds : FnScope ["_law_script", "_law_k", "_law_many", "_law_found", "_law_turn", "_law_j", "_law_number", "_law_way"] ["_law_script", "_law_k", "_law_many"] (defScope s_law_deeds) := ⟨rfl, rfl, rfl, by decide +kernel, rfl, by decide +kernel, by decide +kernel⟩
theorem sc_law_new : FnScope ["_law_stages_here", "_law_first", "_law_side", "_law_found"] ["_law_stages_here"] (defScope s_law_new) := ⟨rfl, rfl, rfl, by decide +kernel, rfl, by decide +kernel, by decide +kernel⟩
theorem sc_law_next : FnScope ["_law_world", "_law_side", "_law_stage"] ["_law_world", "_law_side"] (defScope s_law_next) := ⟨rfl, rfl, rfl, by decide +kernel, rfl, by decide +kernel, by decide +kernel⟩
theorem sc_law_tick : FnScope ["_law_world", "_law_side", "_law_stage"] ["_law_world"] (defScope s_law_tick) := ⟨rfl, rfl, rfl, by decide +kernel, rfl, by decide +kernel, by decide +kernel⟩
theorem sc_law_press : FnScope ["_law_world", "_law_side", "_law_stage", "_law_more"] ["_law_world"] (defScope s_law_press) := ⟨rfl, rfl, rfl, by decide +kernel, rfl, by decide +kernel, by decide +kernel⟩
theorem sc_law_due : FnScope ["_law_world", "_law_word", "_law_number", "_law_many", "_law_side"] ["_law_world", "_law_word", "_law_number"] (defScope s_law_due) := ⟨rfl, rfl, rfl, by decide +kernel, rfl, by decide +kernel, by decide +kernel⟩
theorem sc_law_state : FnScope ["_law_world", "_law_found", "_law_side"] ["_law_world"] (defScope s_law_state) := ⟨rfl, rfl, rfl, by decide +kernel, rfl, by decide +kernel, by decide +kernel⟩
theorem sc_law_told : FnScope ["_law_clock", "_law_word", "_law_number", "_law_kept", "_law_found", "e", "_law_kinds"] ["_law_clock", "_law_word", "_law_number"] (defScope s_law_told) := ⟨rfl, rfl, rfl, by decide +kernel, rfl, by decide +kernel, by decide +kernel⟩
theorem sc_law_shown : FnScope ["_law_clock"] ["_law_clock"] (defScope s_law_shown) := ⟨rfl, rfl, rfl, by decide +kernel, rfl, by decide +kernel, by decide +kernel⟩
theorem sc_law_same : FnScope ["_law_one", "_law_other", "_law_k"] ["_law_one", "_law_other"] (defScope s_law_same) := ⟨rfl, rfl, rfl, by decide +kernel, rfl, by decide +kernel, by decide +kernel⟩
theorem sc_law : FnScope ["_law_script", "_law_stages_here", "_law_handed", "_law_clock", "_law_world", "_law_deeds_here", "_law_word", "_law_number", "_law_found", "_law_due_here", "_law_shown_here", "_law_state_here", "_law_k"] ["_law_script"] (defScope s_law) := ⟨rfl, rfl, rfl, by decide +kernel, rfl, by decide +kernel, by decide +kernel⟩

/-! ### what the top has written -/
/-- an exception class of the text -/
structure ExcT (K : PySem.W.Frag) (C : Addr) : Prop where
  x : PySem.W.excIn K C [.type "ValueError", .type "Exception", .type "BaseException", .type "object"] "ValueError.__new__" = true
  k : PySem.W.keepIn K (.ref C) = true
  s : PySem.W.subIn K (.ref C) (.type "BaseException") = some true
  t : PySem.W.typeIn K (.ref C) = some (.type "type")
  i : ExcC K C
structure Txt (K : PySem.W.Frag) (mg : Str → Option Value) (CS CC cE cB cT cN cO aW : Addr) : Prop where
  clS : Cls K CS
  clC : Cls K CC
  nS1 : NoAttr K CS "stages"
  nS2 : NoAttr K CS "at"
  nS3 : NoAttr K CS "ticks"
  nS4 : NoAttr K CS "periods"
  nS5 : NoAttr K CS "moved"
  nS6 : NoAttr K CS "made"
  nS7 : NoAttr K CS "used"
  nC1 : NoAttr K CC "both"
  nC2 : NoAttr K CC "turn"
  nC3 : NoAttr K CC "runs"
  nC4 : NoAttr K CC "fallen"
  nC5 : NoAttr K CC "total"
  eB : ExcT K cB
  eT : ExcT K cT
  eN : ExcT K cN
  eO : ExcT K cO
  g_ClockError : mg "ClockError" = some (.ref cE)
  g_BadStages : mg "BadStages" = some (.ref cB)
  g_BadTicks : mg "BadTicks" = some (.ref cT)
  g_NotNow : mg "NotNow" = some (.ref cN)
  g_Over : mg "Over" = some (.ref cO)
  hB : PySem.W.exmOne K (.ref cB) (.ref cE) = some true
  hT : PySem.W.exmOne K (.ref cT) (.ref cE) = some true
  hN : PySem.W.exmOne K (.ref cN) (.ref cE) = some true
  hO : PySem.W.exmOne K (.ref cO) (.ref cE) = some true
  g_MOST_TICKS : ∃ u, mg "MOST_TICKS" = some u ∧ RelV (.int 1000000) u
  g_MOST_STAGES : ∃ u, mg "MOST_STAGES" = some u ∧ RelV (.int 5) u
  g_MOST_MOVES : ∃ u, mg "MOST_MOVES" = some u ∧ RelV (.int 200) u
  g_WAYS : mg "WAYS" = some (.ref aW)
  w_WAYS : ∀ H, SqT K H aW [.str "plain", .str "add", .str "back", .str "wait"]
  b_len : mg "len" = none
  b_max : mg "max" = none
  b_min : mg "min" = none
  b_list : mg "list" = none
  b_range : mg "range" = none
  b_isinstance : mg "isinstance" = none
  b_bool : mg "bool" = none
  b_tuple : mg "tuple" = none
  b_ValueError : mg "ValueError" = none
  b_int : mg "int" = none
  b_str : mg "str" = none
  b_all : mg "all" = none
  iTT : PySem.W.kitOne K (.ref cT) (.ref cT) = some true
  iTN : PySem.W.kitOne K (.ref cT) (.ref cN) = some false
  iTO : PySem.W.kitOne K (.ref cT) (.ref cO) = some false
  iTB : PySem.W.kitOne K (.ref cT) (.ref cB) = some false
  iTV : PySem.W.kitOne K (.ref cT) (.type "ValueError") = some true
  iNT : PySem.W.kitOne K (.ref cN) (.ref cT) = some false
  iNN : PySem.W.kitOne K (.ref cN) (.ref cN) = some true
  iNO : PySem.W.kitOne K (.ref cN) (.ref cO) = some false
  iNB : PySem.W.kitOne K (.ref cN) (.ref cB) = some false
  iNV : PySem.W.kitOne K (.ref cN) (.type "ValueError") = some true
  iOT : PySem.W.kitOne K (.ref cO) (.ref cT) = some false
  iON : PySem.W.kitOne K (.ref cO) (.ref cN) = some false
  iOO : PySem.W.kitOne K (.ref cO) (.ref cO) = some true
  iOB : PySem.W.kitOne K (.ref cO) (.ref cB) = some false
  iOV : PySem.W.kitOne K (.ref cO) (.type "ValueError") = some true
  iBT : PySem.W.kitOne K (.ref cB) (.ref cT) = some false
  iBN : PySem.W.kitOne K (.ref cB) (.ref cN) = some false
  iBO : PySem.W.kitOne K (.ref cB) (.ref cO) = some false
  iBB : PySem.W.kitOne K (.ref cB) (.ref cB) = some true
  iBV : PySem.W.kitOne K (.ref cB) (.type "ValueError") = some true

/-! ### defs, methods, makings, packed -/
section
variable (P : Program) (w : World) (K : PySem.W.Frag) (mg : Str → Option Value) (base : Heap)
structure CalX (E : CXT) (k : Nat) (x : Str) (sp : Sp) : Prop where
  ex : ∃ (f : Addr) (fd : FuncData) (ps : List Str), FnOk P w K mg base E k f fd ps sp ∧ mg x = some (.ref f) ∧ PySem.W.keepIn K (.ref f) = true ∧ Binds K fd ps []
structure MetX (E : CXT) (k : Nat) (C : Addr) (m : Str) (sp : Sp) : Prop where
  ex : ∃ (f : Addr) (fd : FuncData) (ps : List Str), Cls K C ∧ Meth K C m f ∧ FnOk P w K mg base E k f fd ps sp ∧ Binds K fd ps []
structure MakX (E : CXT) (k : Nat) (x : Str) (C : Addr) (sp : Sp) : Prop where
  ex : ∃ (f : Addr) (fd : FuncData) (ps : List Str), Mk K C f ∧ FnOk P w K mg base E k f fd ps sp ∧ mg x = some (.ref C) ∧ Binds K fd ps []
end
section
variable {X : Cx} {CX : CXT} {k j : Nat} {C : Addr} {x m : Str} {sp : Sp} {E : XK} {W : St → XK} {p pos apos : Pos} {e o : Expr} {es : List Expr} {ta : TE} {t : TA}
theorem pe_cX (c : CalX X.prog X.w X.K X.mg X.base CX k x sp) (hr : Room j X.A) (hk : k ≤ j) (hg : Gl X x) (hx : Passes CX X E) (ha : PA X (e :: es) t)
    (hdb : (x == ("__debug__" : Str)) = false := by decide) (he : starEach (e :: es) X.env = (false, eval e X.env) :: starEach es X.env := by rfl)
    (hpl : (backTo pos (starEach es X.env)).any (·.1) = false := by rfl) : PE X (.Call (.Name x p) (e :: es) [] pos) (tCall sp [] E t) := by
  obtain ⟨f, fd, ps, F, hm, kp, b⟩ := c.ex
  exact pe_call F (hr.mono hk) hg hm kp b .nil hx ha hdb he hpl
theorem pe_mkX (c : MakX X.prog X.w X.K X.mg X.base CX k x C sp) (hr : Room j X.A) (hk : k + 1 ≤ j) (hg : Gl X x) (hx : Passes CX X E) (ha : PA X (e :: es) t)
    (hdb : (x == ("__debug__" : Str)) = false := by decide) (he : starEach (e :: es) X.env = (false, eval e X.env) :: starEach es X.env := by rfl)
    (hpl : (backTo pos (starEach es X.env)).any (·.1) = false := by rfl) : PE X (.Call (.Name x p) (e :: es) [] pos) (tMake C sp [] E t) := by
  obtain ⟨f, fd, ps, M, F, hm, b⟩ := c.ex
  exact pe_make M F (hr.mono hk) hg hm b .nil hx ha hdb he hpl
theorem pe_mtX {pl : Sem Bool} (c : MetX X.prog X.w X.K X.mg X.base CX k C m sp) (hr : Room j X.A) (hk : k ≤ j) (hx : Passes CX X E) (he : PE X o ta) (ha : PA X (e :: es) t)
    (hst : starEach (e :: es) X.env = (false, eval e X.env) :: starEach es X.env := by rfl) (hpl : (backTo pos (starEach es X.env)).any (·.1) = false := by rfl)
    (ht : eval (.Call (.Attribute o m apos) (e :: es) [] pos) X.env = (do
      let ov ← eval o X.env
      standAt apos.atName
      let (g, fst) ← holding [ov] (getMethod ov m pl)
      callWith pos g fst (backTo pos (starEach (e :: es) X.env)) (backToKw pos (keywordEach [] X.env))) := by rfl) :
    PE X (.Call (.Attribute o m apos) (e :: es) [] pos) (tMeth C m sp [] E ta t) := by
  obtain ⟨f, fd, ps, hc, hm, F, b⟩ := c.ex
  exact pe_meth (pl := pl) he hc hm F (hr.mono hk) b .nil hx ha hst hpl ht
theorem pe_mtX0 {pl : Sem Bool} (c : MetX X.prog X.w X.K X.mg X.base CX k C m sp) (hr : Room j X.A) (hk : k ≤ j) (hx : Passes CX X E) (he : PE X o ta)
    (ht : eval (.Call (.Attribute o m apos) [] [] pos) X.env = (do
      let ov ← eval o X.env
      standAt apos.atName
      let (g, fst) ← holding [ov] (getMethod ov m pl)
      callWith pos g fst (backTo pos (starEach [] X.env)) (backToKw pos (keywordEach [] X.env))) := by rfl) :
    PE X (.Call (.Attribute o m apos) [] [] pos) (tMeth C m sp [] E ta tNil) := by
  obtain ⟨f, fd, ps, hc, hm, F, b⟩ := c.ex
  exact pe_meth0 (pl := pl) he hc hm F (hr.mono hk) b .nil hx ht
/-- a method whose error is wished for at the caller's slots -/
def kMeth (C : Addr) (m : Str) (sp : Sp) (E : XK) (t : TA) (σ : St) : V → Hp → VK → Prop := fun x H1 Q => ∃ a dx fs, x = .ref a ∧ H1 a = some (.ins C dx fs) ∧ fs.lookup m = none ∧ t σ H1 fun vs H2 => sp (x :: (vs ++ [])) H2 Q E
def tMethS (C : Addr) (m : Str) (sp : Sp) (W : St → XK) (ta : TE) (t : TA) : TE := fun σ H Q => ta σ H fun x H1 => kMeth C m sp (W σ) t σ x H1 Q
theorem pe_mtS {pl : Sem Bool} (c : MetX X.prog X.w X.K X.mg X.base CX k C m sp) (hr : Room j X.A) (hk : k ≤ j) (hx : ∀ σ, PassesAt CX X σ (W σ)) (he : PE X o ta) (ha : PA X (e :: es) t)
    (hst : starEach (e :: es) X.env = (false, eval e X.env) :: starEach es X.env := by rfl) (hpl : (backTo pos (starEach es X.env)).any (·.1) = false := by rfl)
    (ht : eval (.Call (.Attribute o m apos) (e :: es) [] pos) X.env = (do
      let ov ← eval o X.env
      standAt apos.atName
      let (g, fst) ← holding [ov] (getMethod ov m pl)
      callWith pos g fst (backTo pos (starEach (e :: es) X.env)) (backToKw pos (keywordEach [] X.env))) := by rfl) :
    PE X (.Call (.Attribute o m apos) (e :: es) [] pos) (tMethS C m sp W ta t) := by
  obtain ⟨f, fd, ps, hc, hm, F, b⟩ := c.ex
  refine ⟨fun pins s σ H Q I h => ?_⟩
  refine PySem.W.methodCall_KW (pl := pl) (thn (he.run pins s σ H _ I h) fun u s1 hh => ?_) ht
  obtain ⟨y, H1, I1, ry, a, dx, fs, ey, ea, l, q⟩ := hh
  subst ey
  obtain rfl : u = Value.ref a := ry
  refine getmeth_ok I1 ea hc hm l ?_
  refine PySem.W.callWith_K (first := [.ref a]) (h₀ := X.base) I.ok.mod.kin hm.kp (thn (ha.run pos pins s1 σ H1 _ I1 q) fun us s2 hh2 => ?_) hst hpl
  obtain ⟨vs, H2, I2, r, q2⟩ := hh2
  rw [List.append_nil] at q2
  exact ⟨I2.kIn, run_fnS (us := .ref a :: us) (vs := .ref a :: vs) (E := W) F (hr.mono hk) b (hx σ) I2 (.cons rfl r) q2⟩
theorem pe_mtS0 {pl : Sem Bool} (c : MetX X.prog X.w X.K X.mg X.base CX k C m sp) (hr : Room j X.A) (hk : k ≤ j) (hx : ∀ σ, PassesAt CX X σ (W σ)) (he : PE X o ta)
    (ht : eval (.Call (.Attribute o m apos) [] [] pos) X.env = (do
      let ov ← eval o X.env
      standAt apos.atName
      let (g, fst) ← holding [ov] (getMethod ov m pl)
      callWith pos g fst (backTo pos (starEach [] X.env)) (backToKw pos (keywordEach [] X.env))) := by rfl) :
    PE X (.Call (.Attribute o m apos) [] [] pos) (tMethS C m sp W ta tNil) := by
  obtain ⟨f, fd, ps, hc, hm, F, b⟩ := c.ex
  refine ⟨fun pins s σ H Q I h => ?_⟩
  refine PySem.W.methodCall_KW (pl := pl) (thn (he.run pins s σ H _ I h) fun u s1 hh => ?_) ht
  obtain ⟨y, H1, I1, ry, a, dx, fs, ey, ea, l, q⟩ := hh
  subst ey
  obtain rfl : u = Value.ref a := ry
  refine getmeth_ok I1 ea hc hm l ?_
  exact PySem.W.callWith_K0 (first := [.ref a]) I1.kIn hm.kp (run_fnS (us := [.ref a]) (vs := [.ref a]) (E := W) F (hr.mono hk) b (hx σ) I1 (.cons rfl .nil) q)
end

/-! ### a reading, step by step -/
section
variable {K : PySem.W.Frag} {σ : St} {H H' : Hp} {i j : Int} {n : Nat} {v x y z : V} {ta tb te tv tx : TE} {b : Bool} {a C dx p : Addr} {fs fs' : List (Str × V)} {f m : Str} {t u : TT} {xs ys : List V} {Q : VK} {QB : Bool → Hp → Prop} {QA : List V → Hp → Prop} {QS : St → Hp → Prop} {QH : Hp → Prop}
  {r r' : R2} {D : Ends} {t1 t2 : TS} {g : TG} {gs : TGs} {tA : TA} {sp : Sp} {E : XK}
theorem k_var (h : σ[n]? = some (some v)) (q : Q v H) : tVar n σ H Q := ⟨v, h, q⟩
theorem k_c (q : Q v H) : tC v σ H Q := q
theorem k_op (q : ta σ H fun x H1 => tb σ H1 fun y H2 => r x y H2 Q) : tOp r ta tb σ H Q := q
theorem k_un {r : V → Hp → VK → Prop} (q : ta σ H fun x H1 => r x H1 Q) : tUn r ta σ H Q := q
theorem k_I0 {g : Int → Int → V} (q : Q (g i j) H) : rI0 g (.int i) (.int j) H Q := ⟨i, j, rfl, rfl, q⟩
theorem k_I {c : Int → Int → Prop} {g : Int → Int → V} (hc : c i j) (q : Q (g i j) H) : rI c g (.int i) (.int j) H Q := ⟨i, j, rfl, rfl, hc, q⟩
theorem k_U {g : Int → V} (q : Q (g i) H) : rU g (.int i) H Q := ⟨i, rfl, q⟩
theorem decI (i j : Int) : decide (V.int i = V.int j) = decide (i = j) := by
  by_cases h : i = j
  · rw [decide_eq_true h, decide_eq_true (congrArg V.int h)]
  · rw [decide_eq_false h, decide_eq_false fun e => h (V.int.inj e)]
theorem decS (i j : Str) : decide (V.str i = V.str j) = decide (i = j) := by
  by_cases h : i = j
  · rw [decide_eq_true h, decide_eq_true (congrArg V.str h)]
  · rw [decide_eq_false h, decide_eq_false fun e => h (V.str.inj e)]
theorem decB (i j : Bool) : decide (V.bl i = V.bl j) = decide (i = j) := by cases i <;> cases j <;> rfl
theorem k_eqI (q : Q (.bl (decide (i = j))) H) : rEq (.int i) (.int j) H Q := ⟨rfl, by rw [decI]; exact q⟩
theorem k_eqS {i j : Str} (q : Q (.bl (decide (i = j))) H) : rEq (.str i) (.str j) H Q := ⟨rfl, by rw [decS]; exact q⟩
theorem k_eqB {i j : Bool} (q : Q (.bl (decide (i = j))) H) : rEq (.bl i) (.bl j) H Q := ⟨rfl, by rw [decB]; exact q⟩
theorem k_eq (h : scal x y = true) (q : Q (.bl (decide (x = y))) H) : rEq x y H Q := ⟨h, q⟩
theorem k_neI (q : Q (.bl (!decide (i = j))) H) : rNe (.int i) (.int j) H Q := ⟨rfl, by rw [decI]; exact q⟩
theorem k_neS {i j : Str} (q : Q (.bl (!decide (i = j))) H) : rNe (.str i) (.str j) H Q := ⟨rfl, by rw [decS]; exact q⟩
theorem k_neB {i j : Bool} (q : Q (.bl (!decide (i = j))) H) : rNe (.bl i) (.bl j) H Q := ⟨rfl, by rw [decB]; exact q⟩
theorem k_ne (h : scal x y = true) (q : Q (.bl (!decide (x = y))) H) : rNe x y H Q := ⟨h, q⟩
theorem k_ixL (h : SqL K H p xs) (hx : atI xs i = some v) (q : Q v H) : rIxL K (.ref p) (.int i) H Q := ⟨p, xs, i, v, rfl, rfl, h, hx, q⟩
theorem k_ixT (h : SqT K H p xs) (hx : atI xs i = some v) (q : Q v H) : rIxT K (.ref p) (.int i) H Q := ⟨p, xs, i, v, rfl, rfl, h, hx, q⟩
theorem k_ixTo (h : H p = some (.tup xs)) (hx : atI xs i = some v) (q : Q v H) : rIxT K (.ref p) (.int i) H Q := ⟨p, xs, i, v, rfl, rfl, SqT.of h, hx, q⟩
theorem k_ixLo (h : H p = some (.lst xs)) (hx : atI xs i = some v) (q : Q v H) : rIxL K (.ref p) (.int i) H Q := ⟨p, xs, i, v, rfl, rfl, SqL.of h, hx, q⟩
def kFld (K : PySem.W.Frag) (f : Str) : V → Hp → VK → Prop := fun x H1 Q => ∃ a C dx fs v, x = .ref a ∧ H1 a = some (.ins C dx fs) ∧ Cls K C ∧ NoAttr K C f ∧ fs.lookup f = some v ∧ Q v H1
theorem k_fld0 (q : ta σ H fun x H1 => kFld K f x H1 Q) : tFld K ta f σ H Q := q
theorem k_fld (ho : H a = some (.ins C dx fs)) (hc : Cls K C) (hn : NoAttr K C f) (hl : fs.lookup f = some v) (q : Q v H) : kFld K f (.ref a) H Q := ⟨a, C, dx, fs, v, rfl, ho, hc, hn, hl, q⟩
def kSet (K : PySem.W.Frag) (f : Str) : V → V → Hp → (Hp → Prop) → Prop := fun x y H2 Q => ∃ a C dx fs, x = .ref a ∧ H2 a = some (.ins C dx fs) ∧ Cls K C ∧ NoAttr K C f ∧ fs.length < 1000 ∧ Q (upd H2 a (.ins C dx (putF f y fs)))
theorem k_set0 (q : tv σ H fun y H1 => ta σ H1 fun x H2 => kSet K f x y H2 fun H3 => D.nx σ H3) : sFld K ta tv f D σ H := q
theorem k_set (ho : H a = some (.ins C dx fs)) (hc : Cls K C) (hn : NoAttr K C f) (hl : fs.length < 1000) (hp : putF f y fs = fs') (q : QH (upd H a (.ins C dx fs'))) : kSet K f (.ref a) y H QH :=
  ⟨a, C, dx, fs, rfl, ho, hc, hn, hl, by rw [hp]; exact q⟩
theorem k_tst0 (q : te σ H fun x H1 => ∃ k, x = .bl k ∧ QB k H1) : tTest te σ H QB := q
theorem k_tB0 (q : te σ H fun x H1 => ∃ k, x = .bl k ∧ QB k H1) : tB te σ H QB := q
theorem k_bl (q : QB b H) : ∃ k, V.bl b = .bl k ∧ QB k H := ⟨b, rfl, q⟩
theorem k_and (q : t σ H fun c H1 => if c = true then u σ H1 QB else QB false H1) : tAnd t u σ H QB := q
theorem k_or (q : t σ H fun c H1 => if c = true then QB true H1 else u σ H1 QB) : tOr t u σ H QB := q
theorem k_not (q : t σ H fun c H1 => QB (!c) H1) : tNot t σ H QB := q
theorem k_andV (q : ta σ H fun x H1 => ∃ c, x = .bl c ∧ if c = true then tb σ H1 Q else Q (.bl false) H1) : tAndV ta tb σ H Q := q
theorem k_orV (q : ta σ H fun x H1 => ∃ c, x = .bl c ∧ if c = true then Q (.bl true) H1 else tb σ H1 Q) : tOrV ta tb σ H Q := q
theorem k_notV (q : ta σ H fun x H1 => ∃ c, x = .bl c ∧ Q (.bl (!c)) H1) : tNotV ta σ H Q := q
theorem k_bl2 {R : Bool → Prop} (q : R b) : ∃ k, V.bl b = .bl k ∧ R k := ⟨b, rfl, q⟩
theorem k_ife (q : t σ H fun c H1 => if c = true then ta σ H1 Q else tb σ H1 Q) : tIf t ta tb σ H Q := q
theorem k_chain {tc : TE} (q : ta σ H fun x H1 => tb σ H1 fun y H2 => r x y H2 fun z H3 => ∃ k, z = .bl k ∧ (if k = true then tc σ H3 fun w' H4 => r' y w' H4 Q else Q (.bl false) H3)) : tChain r r' ta tb tc σ H Q := q
theorem k_yes {A B : Prop} (h : b = true) (q : A) : if b = true then A else B := by rw [if_pos h]; exact q
theorem k_noo {A B : Prop} (h : b = false) (q : B) : if b = true then A else B := by rw [if_neg (by rw [h]; decide)]; exact q
theorem k_CB {r : List V → Hp → VK → Prop} (q : tA σ H fun vs H1 => r vs H1 Q) : tCB r tA σ H Q := q
theorem k_cons {tr : TA} (q : ta σ H fun x H1 => tr σ H1 fun xs H2 => QA (x :: xs) H2) : tCons ta tr σ H QA := q
theorem k_nil (q : QA [] H) : tNil σ H QA := q
theorem k_call (q : tA σ H fun vs H1 => sp (vs ++ []) H1 Q E) : tCall sp [] E tA σ H Q := q
theorem k_meth0 (q : ta σ H fun x H1 => kMeth C m sp E tA σ x H1 Q) : tMeth C m sp [] E ta tA σ H Q := q
theorem k_methS0 {W : St → XK} (q : ta σ H fun x H1 => kMeth C m sp (W σ) tA σ x H1 Q) : tMethS C m sp W ta tA σ H Q := q
theorem k_meth (ho : H a = some (.ins C dx fs)) (hl : fs.lookup m = none) (q : tA σ H fun vs H2 => sp (.ref a :: (vs ++ [])) H2 Q E) : kMeth C m sp E tA σ (.ref a) H Q := ⟨a, dx, fs, rfl, ho, hl, q⟩
theorem k_make (q : tA σ H fun vs H1 => ∀ x dx, H1 x = none → H1 dx = none → dx ≠ x → sp (.ref x :: (vs ++ [])) (upd (upd H1 dx (.own x)) x (.ins C dx [])) (fun v H2 => v = .non ∧ Q (.ref x) H2) E) : tMake C sp [] E tA σ H Q := q
theorem k_seq (q : t1 ⟨t2 D, D.rt, D.bk, D.ct⟩ σ H) : tSeq t1 t2 D σ H := q
theorem k_cut (M : St → Hp → Prop) (h : t1 ⟨M, D.rt, D.bk, D.ct⟩ σ H) (q : ∀ σ' H', M σ' H' → t2 D σ' H') : C8.tCut t1 t2 D σ H := ⟨M, h, q⟩
theorem k_asg (q : te σ H fun x H1 => g x σ H1 D.nx) : tAsg te g D σ H := q
theorem k_gName (q : QS (σ.set n (some v)) H) : gName n v σ H QS := q
theorem k_ret (q : te σ H D.rt) : tRet te D σ H := q
theorem k_retN (q : D.rt .non H) : tRetN D σ H := q
theorem k_nx {f : St → Hp → Prop} {r : VK} {b c : St → Hp → Prop} (q : f σ H) : Ends.nx ⟨f, r, b, c⟩ σ H := q
theorem k_rt {f : St → Hp → Prop} {r : VK} {b c : St → Hp → Prop} (q : r v H) : Ends.rt ⟨f, r, b, c⟩ v H := q
theorem k_next (q : D.nx σ H) : tNext D σ H := q
theorem k_drop (q : te σ H fun _ H1 => D.nx σ H1) : tDrop te D σ H := q
theorem k_if (q : t σ H fun b H1 => if b = true then t1 D σ H1 else t2 D σ H1) : tIfS t t1 t2 D σ H := q
theorem k_tup0 (q : tA σ H fun xs H1 => xs.length ≤ sizeLine ∧ ∀ p, H1 p = none → Q (.ref p) (upd H1 p (.tup xs))) : tTup tA σ H Q := q
theorem k_lst0 (q : tA σ H fun xs H1 => xs.length ≤ sizeLine ∧ ∀ p, H1 p = none → Q (.ref p) (upd H1 p (.lst xs))) : tLst tA σ H Q := q
theorem k_len (h : xs.length ≤ sizeLine) {R : Prop} (q : R) : xs.length ≤ sizeLine ∧ R := ⟨h, q⟩
theorem k_dget0 (q : ta σ H fun x H1 => tb σ H1 fun y H2 => ∃ a v, x = .ref a ∧ DGet H2 a y (some v) ∧ Q v H2) : tDGet ta tb σ H Q := q
theorem k_dget {kvs : List (Key × V)} {s : Str} (h : H a = some (.dK kvs)) (hv : valV kvs (Sum.inr s) = some v) (q : Q v H) : ∃ a' v, V.ref a = .ref a' ∧ DGet H a' (.str s) (some v) ∧ Q v H := ⟨a, v, rfl, hv ▸ DGet.k (k := Sum.inr s) h, q⟩
theorem k_dput0 (q : tv σ H fun v H1 => ta σ H1 fun x H2 => tb σ H2 fun y H3 => ∃ a H4, x = .ref a ∧ DPut H3 a y v H4 ∧ D.nx σ H4) : sDPut ta tb tv D σ H := q
theorem k_dput {kvs kvs' : List (Key × V)} {s : Str} (h : H a = some (.dK kvs)) (hl : kvs.length < 1000) (hp : putK kvs (Sum.inr s) v = kvs') (q : QH (upd H a (.dK kvs'))) : ∃ a' H4, V.ref a = .ref a' ∧ DPut H a' (.str s) v H4 ∧ QH H4 :=
  ⟨a, _, rfl, DPut.k (k := Sum.inr s) h (Nat.lt_of_lt_of_le hl (by decide)), by rw [hp]; exact q⟩
theorem k_app0 {r : V → List V → Hp → VK → Prop} {T : String} (q : ta σ H fun x H1 => tyV K T x H1 ∧ tA σ H1 fun xs H2 => r x xs H2 Q) : tBM K T r ta tA σ H Q := q
theorem k_bm0 {r : V → List V → Hp → VK → Prop} {T : String} (q : ta σ H fun x H1 => tyV K T x H1 ∧ r x [] H1 Q) : tBM0 K T r ta σ H Q := q
theorem k_tyL {R : Prop} (h : H a = some (.lst xs)) (q : R) : tyV K "list" (.ref a) H ∧ R := ⟨.inl ⟨rfl, _, SqL.of h⟩, q⟩
theorem k_app (h : H a = some (.lst xs)) (hl : xs.length < 100000) (q : Q .non (upd H a (.lst (xs ++ [v])))) : rAppend (.ref a) [v] H Q := ⟨a, xs, v, rfl, rfl, h, Nat.lt_of_lt_of_le hl (by decide), q⟩
theorem k_gTup (h : H p = some (.tup xs)) (hl : xs.length = n) (q : gs xs σ H QS) : gTup K n gs (.ref p) σ H QS := ⟨p, xs, rfl, SqT.of h, hl, q⟩
theorem k_gCons (q : g v σ H fun σ' H' => gs xs σ' H' QS) : gCons g gs (v :: xs) σ H QS := ⟨v, xs, rfl, q⟩
theorem k_gNil (q : QS σ H) : gNil [] σ H QS := ⟨rfl, q⟩
def kMax2 : List V → Hp → VK → Prop := fun xs H Q => ∃ i j : Int, xs = [.int i, .int j] ∧ Q (.int (if j > i then j else i)) H
def kMin2 : List V → Hp → VK → Prop := fun xs H Q => ∃ i j : Int, xs = [.int i, .int j] ∧ Q (.int (if j < i then j else i)) H
def kLen (K : PySem.W.Frag) : List V → Hp → VK → Prop := fun xs H Q => ∃ p ys, xs = [V.ref p] ∧ (SqL K H p ys ∨ SqT K H p ys) ∧ Q (.int ys.length) H
def kList (K : PySem.W.Frag) : List V → Hp → VK → Prop := fun xs H Q => ∃ p ys, xs = [V.ref p] ∧ (SqL K H p ys ∨ SqT K H p ys) ∧ ∀ l, H l = none → Q (.ref l) (upd H l (.lst ys))
def kIsN : V → Hp → VK → Prop := fun x H Q => Q (.bl (decide (x = .non))) H
def kNotN : V → Hp → VK → Prop := fun x H Q => Q (.bl (!decide (x = .non))) H
theorem c_max2 (q : tA σ H fun vs H1 => kMax2 vs H1 Q) : tCB (fun xs H Q => ∃ i j, xs = [V.int i, V.int j] ∧ Q (V.int (if j > i then j else i)) H) tA σ H Q := q
theorem c_min2 (q : tA σ H fun vs H1 => kMin2 vs H1 Q) : tCB (fun xs H Q => ∃ i j, xs = [V.int i, V.int j] ∧ Q (V.int (if j < i then j else i)) H) tA σ H Q := q
theorem c_len (q : tA σ H fun vs H1 => kLen K vs H1 Q) : tCB (fun xs H Q => ∃ p ys, xs = [V.ref p] ∧ (SqL K H p ys ∨ SqT K H p ys) ∧ Q (V.int ys.length) H) tA σ H Q := q
theorem c_list (q : tA σ H fun vs H1 => kList K vs H1 Q) : tCB (fun xs H Q => ∃ p ys, xs = [V.ref p] ∧ (SqL K H p ys ∨ SqT K H p ys) ∧ ∀ l, H l = none → Q (V.ref l) (upd H l (.lst ys))) tA σ H Q := q
theorem c_isN (q : ta σ H fun x H1 => kIsN x H1 Q) : tOp (fun x y H Q => y = V.non ∧ Q (V.bl (decide (x = V.non))) H) ta (tC V.non) σ H Q := by
  refine (show ta σ H (fun x H1 => V.non = V.non ∧ Q (V.bl (decide (x = V.non))) H1) from ?_)
  have e : (fun x H1 => V.non = V.non ∧ Q (V.bl (decide (x = V.non))) H1) = fun x H1 => kIsN x H1 Q := by
    funext x H1
    exact propext ⟨fun z => z.2, fun z => ⟨rfl, z⟩⟩
  rw [e]
  exact q
theorem c_notN (q : ta σ H fun x H1 => kNotN x H1 Q) : tOp (fun x y H Q => y = V.non ∧ Q (V.bl (!decide (x = V.non))) H) ta (tC V.non) σ H Q := by
  refine (show ta σ H (fun x H1 => V.non = V.non ∧ Q (V.bl (!decide (x = V.non))) H1) from ?_)
  have e : (fun x H1 => V.non = V.non ∧ Q (V.bl (!decide (x = V.non))) H1) = fun x H1 => kNotN x H1 Q := by
    funext x H1
    exact propext ⟨fun z => z.2, fun z => ⟨rfl, z⟩⟩
  rw [e]
  exact q
theorem k_isN (q : Q (.bl (decide (x = .non))) H) : kIsN x H Q := q
theorem k_notN (q : Q (.bl (!decide (x = .non))) H) : kNotN x H Q := q
theorem k_max2 (q : Q (.int (if j > i then j else i)) H) : kMax2 [V.int i, V.int j] H Q := ⟨i, j, rfl, q⟩
theorem k_min2 (q : Q (.int (if j < i then j else i)) H) : kMin2 [V.int i, V.int j] H Q := ⟨i, j, rfl, q⟩
theorem k_lenLo (h : H p = some (.lst xs)) (q : Q (.int xs.length) H) : kLen K [V.ref p] H Q := ⟨p, xs, rfl, .inl (SqL.of h), q⟩
theorem k_lenTo (h : H p = some (.tup xs)) (q : Q (.int xs.length) H) : kLen K [V.ref p] H Q := ⟨p, xs, rfl, .inr (SqT.of h), q⟩
theorem k_lenL (h : SqL K H p xs) (q : Q (.int xs.length) H) : kLen K [V.ref p] H Q := ⟨p, xs, rfl, .inl h, q⟩
theorem k_lenT (h : SqT K H p xs) (q : Q (.int xs.length) H) : kLen K [V.ref p] H Q := ⟨p, xs, rfl, .inr h, q⟩
theorem k_list (h : H p = some (.lst xs)) (q : ∀ l, H l = none → Q (.ref l) (upd H l (.lst xs))) : kList K [V.ref p] H Q := ⟨p, xs, rfl, .inl (SqL.of h), q⟩
theorem k_in (h : SqT K H p xs) (hx : flatV x = true) (ha : xs.all flatV = true) (q : Q (.bl (inV x xs)) H) : rIn K false x (.ref p) H Q := ⟨p, xs, rfl, .inr h, hx, ha, q⟩
theorem k_nin (h : SqT K H p xs) (hx : flatV x = true) (ha : xs.all flatV = true) (q : Q (.bl (!inV x xs)) H) : rIn K true x (.ref p) H Q := ⟨p, xs, rfl, .inr h, hx, ha, q⟩
theorem k_inT (h : H p = some (.tup xs)) (hx : flatV x = true) (ha : xs.all flatV = true) (q : Q (.bl (inV x xs)) H) : rIn K false x (.ref p) H Q := ⟨p, xs, rfl, .inr (SqT.of h), hx, ha, q⟩
/-- what a for over a range, over a list, wants -/
def kForR (g : TG) (tb : TS) (D : Ends) (σ : St) : List V → Hp → Prop := fun vs H1 => ∃ j : Int, vs = [.int j] ∧ -(2 ^ 62) ≤ j ∧ j < 2 ^ 62 ∧ ∃ W : Nat → Nat → St → Hp → Prop, (∃ m, W 0 m σ H1) ∧ ∀ i m σ H, W i m σ H →
  ((Itr 0 j.toNat).stop i H ∧ D.nx σ H) ∨ ((Itr 0 j.toNat).go i H ∧ ∃ N : St → Hp → Prop, (∀ σ' H', N σ' H' → ∃ m', m' < m ∧ W (i + 1) m' σ' H') ∧ ∀ x H', (Itr 0 j.toNat).yld i H x H' → g x σ H' fun σ2 H2 => tb { D with nx := N, ct := N, bk := D.nx } σ2 H2)
def kForL (K : PySem.W.Frag) (g : TG) (tb : TS) (D : Ends) (σ : St) : V → Hp → Prop := fun x H1 => ∃ a, x = .ref a ∧ (∃ xs, SqL K H1 a xs) ∧ ∃ W : Nat → Nat → St → Hp → Prop, (∃ m, W 0 m σ H1) ∧ ∀ i m σ H, W i m σ H →
  ((Itl K a).stop i H ∧ D.nx σ H) ∨ ((Itl K a).go i H ∧ ∃ N : St → Hp → Prop, (∀ σ' H', N σ' H' → ∃ m', m' < m ∧ W (i + 1) m' σ' H') ∧ ∀ x H', (Itl K a).yld i H x H' → g x σ H' fun σ2 H2 => tb { D with nx := N, ct := N, bk := D.nx } σ2 H2)
theorem k_forR0 {tb : TS} (q : tA σ H fun vs H1 => kForR g tb D σ vs H1) : tFor (iRng1 tA) g tb D σ H := q
theorem k_forL0 {tb : TS} (q : ta σ H fun x H1 => kForL K g tb D σ x H1) : tFor (iList K ta) g tb D σ H := q
theorem k_forR {tb : TS} (Pv : Nat → St → Hp → Prop) (hn : (n : Int) < 2 ^ 62) (h0 : Pv 0 σ H) (hs : ∀ (i : Nat) σ H, i < n → Pv i σ H → g (.int (i : Int)) σ H fun σ2 H2 => tb ⟨Pv (i + 1), D.rt, D.nx, Pv (i + 1)⟩ σ2 H2) (hd : ∀ σ H, Pv n σ H → D.nx σ H) : kForR g tb D σ [.int (n : Int)] H := by
  refine ⟨n, rfl, ?_, hn, for_range (lo := 0) (n := n) Pv h0 (fun i σ H hi p => ?_) hd⟩
  · have h2 : (0 : Int) ≤ 2 ^ 62 := by decide
    omega
  · have e : (0 : Int) + (i : Int) = (i : Int) := Int.zero_add _
    rw [e]
    exact hs i σ H hi p
theorem k_forL {tb : TS} (Pv : Nat → St → Hp → Prop) (hx : SqL K H a xs) (h0 : Pv 0 σ H) (hl : ∀ i σ H, i ≤ xs.length → Pv i σ H → SqL K H a xs) (hs : ∀ (i : Nat) x σ H, xs[i]? = some x → Pv i σ H → g x σ H fun σ2 H2 => tb ⟨Pv (i + 1), D.rt, D.nx, Pv (i + 1)⟩ σ2 H2) (hd : ∀ σ H, Pv xs.length σ H → D.nx σ H) : kForL K g tb D σ (.ref a) H :=
  ⟨a, rfl, ⟨xs, hx⟩, for_list (K := K) (a := a) (xs := xs) Pv h0 hl hs hd⟩
theorem k_truL (h : SqL K H p xs) {R : Bool → Prop} (q : R (!xs.isEmpty)) : ∃ k, TruV K (.ref p) H k ∧ R k := ⟨_, .inl ⟨xs, h, rfl⟩, q⟩
def kStrI : List V → Hp → VK → Prop := fun xs H Q => ∃ i : Int, xs = [V.int i] ∧ i.natAbs.log2 < 1920 ∧ Q (.str (toString i)) H
theorem c_strI (q : tA σ H fun vs H1 => kStrI vs H1 Q) : tCB (fun xs H Q => ∃ i : Int, xs = [V.int i] ∧ i.natAbs.log2 < 1920 ∧ Q (V.str (toString i)) H) tA σ H Q := q
theorem k_strI (h : i.natAbs.log2 < 1920) (q : Q (.str (toString i)) H) : kStrI [.int i] H Q := ⟨i, rfl, h, q⟩
def kIntS : List V → Hp → VK → Prop := fun xs H Q => ∃ a n, xs = [V.str a] ∧ PySem.intText? a = some n ∧ a.length ≤ 640 ∧ Q (.int n) H
theorem c_intS (q : tA σ H fun vs H1 => kIntS vs H1 Q) : tCB (fun xs H Q => ∃ a n, xs = [V.str a] ∧ PySem.intText? a = some n ∧ a.length ≤ 640 ∧ Q (V.int n) H) tA σ H Q := q
theorem k_intS {s : Str} (h : PySem.intText? s = some i) (hl : s.length ≤ 640) (q : Q (.int i) H) : kIntS [.str s] H Q := ⟨s, i, rfl, h, hl, q⟩
def kAddS : V → V → Hp → VK → Prop := fun x y H Q => ∃ i j, x = V.str i ∧ y = V.str j ∧ i.length + j.length ≤ sizeLine ∧ Q (.str (i ++ j)) H
theorem c_addS (q : ta σ H fun x H1 => tb σ H1 fun y H2 => kAddS x y H2 Q) : tOp (fun x y H Q => ∃ i j, x = V.str i ∧ y = V.str j ∧ i.length + j.length ≤ sizeLine ∧ Q (V.str (i ++ j)) H) ta tb σ H Q := q
theorem k_addS {s t : Str} (h : s.length + t.length ≤ sizeLine) (q : Q (.str (s ++ t)) H) : kAddS (.str s) (.str t) H Q := ⟨s, t, rfl, rfl, h, q⟩
theorem k_ixS {s : Str} {c : Nat} (hl : s.length ≤ sizeLine) (hx : atI s.cps.toList i = some c) (q : Q (.str ⟨#[c]⟩) H) : rIxS (.str s) (.int i) H Q := ⟨s, i, c, rfl, rfl, hl, hx, q⟩
theorem k_notT (q : QB true H) (h : b = false) : QB (!b) H := by rw [h]; exact q
end

theorem notd_t {p : Prop} [Decidable p] (h : ¬ p) : (!decide p) = true := by rw [decide_eq_false h]; rfl
theorem notd_f {p : Prop} [Decidable p] (h : p) : (!decide p) = false := by rw [decide_eq_true h]; rfl
theorem not_t {b : Bool} (h : b = false) : (!b) = true := by rw [h]; rfl
theorem not_f {b : Bool} (h : b = true) : (!b) = false := by rw [h]; rfl
theorem pos_t {a b : Int} (h : a < b) : decide (a < b) = true := decide_eq_true h

/-! ### a def of the text, hidden places -/
def MDef (K : PySem.W.Frag) (C : Addr) (m qual : Str) (st : Stmt) (ps : List Str) : Prop := ∃ (f : Addr) (fd : FuncData), Fun K m qual st f fd ∧ Binds K fd ps [] ∧ Meth K C m f
def IDef (K : PySem.W.Frag) (mg : Str → Option Value) (C : Addr) (x qual : Str) (st : Stmt) (ps : List Str) : Prop := ∃ (f : Addr) (fd : FuncData), Fun K "__init__" qual st f fd ∧ Binds K fd ps [] ∧ Mk K C f ∧ mg x = some (.ref C)
def FDef (K : PySem.W.Frag) (mg : Str → Option Value) (x : Str) (st : Stmt) (ps : List Str) : Prop := ∃ (f : Addr) (fd : FuncData), Fun K x x st f fd ∧ Binds K fd ps [] ∧ mg x = some (.ref f)
section
variable {P : Program} {w : World} {K : PySem.W.Frag} {mg : Str → Option Value} {base : Heap} {C : Addr} {m x qual : Str} {st : Stmt} {N ps : List Str} {k : Nat} {sp : Sp}
/-- what is asked of a body that lets nothing out -/
abbrev Body0 (P : Program) (w : World) (K : PySem.W.Frag) (mg : Str → Option Value) (base : Heap) (qual : Str) (st : Stmt) (N : List Str) (k : Nat) (sp : Sp) : Prop :=
  ∀ (f : Addr) (cdv : Value) (A : Around) (outer : List Env) (s : Shared) (H : Hp) (vs : List V) (Q : VK) (E : XK), Room k (A.deeper (envOfC qual (defScope st) s.heap.objs.size f cdv)) → sp vs H Q E →
    ∃ t, PSs (cxOf CX0 P w K mg base N qual (defScope st) f cdv A outer s H E).nox (defBody st) t ∧ t { nx := fun _ H' => Q .non H', rt := Q } (start N vs) H
/-- .. that may raise -/
abbrev BodyX (P : Program) (w : World) (K : PySem.W.Frag) (mg : Str → Option Value) (base : Heap) (qual : Str) (st : Stmt) (N : List Str) (k : Nat) (sp : Sp) : Prop :=
  ∀ (f : Addr) (cdv : Value) (A : Around) (outer : List Env) (s : Shared) (H : Hp) (vs : List V) (Q : VK) (E : XK), Room k (A.deeper (envOfC qual (defScope st) s.heap.objs.size f cdv)) → sp vs H Q E →
    ∃ t, PSs (cxOf (L2.CX P w) P w K mg base N qual (defScope st) f cdv A outer s H E) (defBody st) t ∧ t { nx := fun _ H' => Q .non H', rt := Q } (start N vs) H
theorem MetX.of0 (d : MDef K C m qual st ps) (c : Cls K C) (S : FnScope N ps (defScope st)) (len : ∀ vs H Q E, sp vs H Q E → vs.length = ps.length) (hb : Body0 P w K mg base qual st N k sp) : MetX P w K mg base CX0 (k + 1) C m sp := by
  obtain ⟨f, fd, F, b, me⟩ := d
  exact ⟨f, fd, ps, c, me, F.ok S len (hb f), b⟩
theorem MetX.ofX (d : MDef K C m qual st ps) (c : Cls K C) (S : FnScope N ps (defScope st)) (len : ∀ vs H Q E, sp vs H Q E → vs.length = ps.length) (hb : BodyX P w K mg base qual st N k sp) : MetX P w K mg base (L2.CX P w) (k + 1) C m sp := by
  obtain ⟨f, fd, F, b, me⟩ := d
  exact ⟨f, fd, ps, c, me, F.okX S len (hb f), b⟩
theorem MakX.of0 (d : IDef K mg C x qual st ps) (S : FnScope N ps (defScope st)) (len : ∀ vs H Q E, sp vs H Q E → vs.length = ps.length) (hb : Body0 P w K mg base qual st N k sp) : MakX P w K mg base CX0 (k + 1) x C sp := by
  obtain ⟨f, fd, F, b, me, g⟩ := d
  exact ⟨f, fd, ps, me, F.ok S len (hb f), g, b⟩
theorem MakX.ofX (d : IDef K mg C x qual st ps) (S : FnScope N ps (defScope st)) (len : ∀ vs H Q E, sp vs H Q E → vs.length = ps.length) (hb : BodyX P w K mg base qual st N k sp) : MakX P w K mg base (L2.CX P w) (k + 1) x C sp := by
  obtain ⟨f, fd, F, b, me, g⟩ := d
  exact ⟨f, fd, ps, me, F.okX S len (hb f), g, b⟩
theorem CalX.of0 (d : FDef K mg x st ps) (S : FnScope N ps (defScope st)) (len : ∀ vs H Q E, sp vs H Q E → vs.length = ps.length) (hb : Body0 P w K mg base x st N k sp) : CalX P w K mg base CX0 (k + 1) x sp := by
  obtain ⟨f, fd, F, b, g⟩ := d
  exact ⟨f, fd, ps, F.ok S len (hb f), g, F.kp, b⟩
theorem CalX.ofX (d : FDef K mg x st ps) (S : FnScope N ps (defScope st)) (len : ∀ vs H Q E, sp vs H Q E → vs.length = ps.length) (hb : BodyX P w K mg base x st N k sp) : CalX P w K mg base (L2.CX P w) (k + 1) x sp := by
  obtain ⟨f, fd, F, b, g⟩ := d
  exact ⟨f, fd, ps, F.okX S len (hb f), g, F.kp, b⟩
end
open PyProof.Rows (envOfC)
/-! ### steps of the laws -/
section
variable {σ : St} {H : Hp} {a : Addr} {ta tb tv : TE} {v : V} {Q : VK} {QH : Hp → Prop} {D : Ends}
def kDGet : V → V → Hp → VK → Prop := fun x y H2 Q => ∃ a v, x = .ref a ∧ DGet H2 a y (some v) ∧ Q v H2
theorem k_dge0 (q : ta σ H fun x H1 => tb σ H1 fun y H2 => kDGet x y H2 Q) : tDGet ta tb σ H Q := q
theorem k_dge {kvs : List (Key × V)} {s : Str} (h : H a = some (.dK kvs)) (hv : valV kvs (Sum.inr s) = some v) (q : Q v H) : kDGet (.ref a) (.str s) H Q := ⟨a, v, rfl, hv ▸ DGet.k (k := Sum.inr s) h, q⟩
def kDPut : V → V → V → Hp → (Hp → Prop) → Prop := fun x y v H3 QH => ∃ a H4, x = .ref a ∧ DPut H3 a y v H4 ∧ QH H4
theorem k_dpu0 (q : tv σ H fun v H1 => ta σ H1 fun x H2 => tb σ H2 fun y H3 => kDPut x y v H3 fun H4 => D.nx σ H4) : sDPut ta tb tv D σ H := q
theorem k_dpu {kvs kvs' : List (Key × V)} {s : Str} (h : H a = some (.dK kvs)) (hl : kvs.length < 1000) (hp : putK kvs (Sum.inr s) v = kvs') (q : QH (upd H a (.dK kvs'))) : kDPut (.ref a) (.str s) v H QH :=
  ⟨a, _, rfl, DPut.k (k := Sum.inr s) h (Nat.lt_of_lt_of_le hl (by decide)), by rw [hp]; exact q⟩
end
/-! ### own tactics -/
/-- heap facts -/
local macro_rules | `(tactic| walk_at "hp") => `(tactic| first | assumption | exact upd_same | (refine Eq.trans (upd_ne ?hne) ?hrest; (case hne => first | assumption | exact Ne.symm (by assumption)); (case hrest => walk_at "hp")))
/-- a fact on Bools -/
local macro_rules | `(tactic| walk_at "bt") => `(tactic| first | with_reducible rfl | assumption | exact decide_eq_true (by assumption) | exact decide_eq_false (by assumption) | exact notd_t (by assumption) | exact notd_f (by assumption) | exact not_t (by assumption) | exact not_f (by assumption) | exact decide_eq_true (by omega) | exact decide_eq_false (by omega) | exact notd_t (by omega) | exact notd_f (by omega) | exact notd_f rfl | exact decide_eq_true rfl | rfl)
local macro_rules | `(tactic| walk_at "cl") => `(tactic| first | exact Txt.clS (by assumption) | exact Txt.clC (by assumption) | assumption)
local macro_rules | `(tactic| walk_at "na") => `(tactic| first | exact Txt.nS1 (by assumption) | exact Txt.nS2 (by assumption) | exact Txt.nS3 (by assumption) | exact Txt.nS4 (by assumption) | exact Txt.nS5 (by assumption) | exact Txt.nS6 (by assumption) | exact Txt.nS7 (by assumption) | exact Txt.nC1 (by assumption) | exact Txt.nC2 (by assumption) | exact Txt.nC3 (by assumption) | exact Txt.nC4 (by assumption) | exact Txt.nC5 (by assumption))
local macro_rules | `(tactic| walk_at "ci") => `(tactic| first | exact (show (0 : Int) < _ from by decide) | exact ⟨by decide, by decide⟩ | exact Or.inr ⟨by decide, by decide⟩ | exact Or.inl ⟨by decide, by decide⟩ | exact Or.inl ⟨by omega, by omega⟩)
local macro_rules | `(tactic| walk_at "ix") => `(tactic| first | assumption | exact rfl | exact atI_nat (by assumption))
local macro_rules | `(tactic| walk_at "sz") => `(tactic| first | exact Nat.le_trans (Nat.le_of_ble_eq_true (m := 100) rfl) (by decide) | omega)
local macro_rules | `(tactic| walk_at "l9") => `(tactic| first | exact (show (7 : Nat) < 1000 from by decide) | exact (show (6 : Nat) < 1000 from by decide) | exact (show (5 : Nat) < 1000 from by decide) | exact (show (4 : Nat) < 1000 from by decide) | exact (show (3 : Nat) < 1000 from by decide) | exact (show (2 : Nat) < 1000 from by decide) | exact (show (1 : Nat) < 1000 from by decide) | exact (show (0 : Nat) < 1000 from by decide))
local macro_rules | `(tactic| walk_at "dv") => `(tactic| first | with_reducible exact get_at | with_reducible exact get_gave | with_reducible exact get_used | with_reducible exact get_ticks | with_reducible exact get_made | with_reducible exact sget_at | with_reducible exact sget_ticks | with_reducible exact sget_periods | with_reducible exact sget_moved | with_reducible exact sget_made | with_reducible exact sget_used | with_reducible exact wget_stages | with_reducible exact wget_turn | with_reducible exact wget_runs | with_reducible exact wget_fallen | with_reducible exact wget_total | with_reducible exact wget_sides | exact rfl)
local macro_rules | `(tactic| walk_at "dp") => `(tactic| first | with_reducible exact put_at | with_reducible exact put_gave | with_reducible exact put_used | with_reducible exact put_ticks | with_reducible exact put_made | with_reducible exact sput_at | with_reducible exact sput_ticks | with_reducible exact sput_periods | with_reducible exact sput_moved | with_reducible exact sput_made | with_reducible exact sput_used | with_reducible exact wput_turn | with_reducible exact wput_runs | with_reducible exact wput_fallen | with_reducible exact wput_total | exact rfl)
local macro_rules | `(tactic| walk_at "rd1") => `(tactic| first
  | with_reducible refine' k_seq ?_
  | with_reducible refine' k_c ?_
  | ((with_reducible refine' k_var ?h ?_); (case h => exact rfl))
  | with_reducible refine' k_asg ?_
  | with_reducible refine' k_gName ?_
  | with_reducible refine' k_fld0 ?_
  | ((with_reducible refine' k_fld ?ho ?hc ?hn ?hl ?_); (case ho => walk_at "hp"); (case hc => walk_at "cl"); (case hn => walk_at "na"); (case hl => exact rfl))
  | with_reducible refine' c_isN ?_
  | with_reducible refine' c_notN ?_
  | with_reducible refine' c_addS ?_
  | with_reducible refine' k_op ?_
  | with_reducible refine' k_I0 ?_
  | ((with_reducible refine' k_I ?h ?_); (case h => walk_at "ci"))
  | with_reducible refine' k_tst0 ?_
  | with_reducible refine' k_tB0 ?_
  | with_reducible refine' k_bl ?_
  | with_reducible refine' k_bl2 ?_
  | with_reducible refine' k_if ?_
  | with_reducible refine' k_and ?_
  | with_reducible refine' k_or ?_
  | with_reducible refine' k_not ?_
  | ((with_reducible refine' k_yes ?h ?_); (case h => walk_at "bt"))
  | ((with_reducible refine' k_noo ?h ?_); (case h => walk_at "bt"))
  | with_reducible refine' k_eqI ?_
  | with_reducible refine' k_eqS ?_
  | with_reducible refine' k_eqB ?_
  | ((with_reducible refine' k_eq ?h ?_); (case h => exact rfl))
  | with_reducible refine' k_neI ?_
  | with_reducible refine' k_neS ?_
  | with_reducible refine' k_neB ?_
  | ((with_reducible refine' k_ne ?h ?_); (case h => exact rfl))
  | ((with_reducible refine' k_ixTo ?h ?hx ?_); (case h => walk_at "hp"); (case hx => walk_at "ix"))
  | ((with_reducible refine' k_ixLo ?h ?hx ?_); (case h => walk_at "hp"); (case hx => walk_at "ix"))
  | ((with_reducible refine' k_ixT ?h ?hx ?_); (case h => assumption); (case hx => walk_at "ix"))
  | ((with_reducible refine' k_ixL ?h ?hx ?_); (case h => assumption); (case hx => walk_at "ix"))
  | ((with_reducible refine' k_in ?h ?h1 ?h2 ?_); (case h => assumption); (case h1 => exact rfl); (case h2 => exact rfl))
  | ((with_reducible refine' k_inT ?h ?h1 ?h2 ?_); (case h => walk_at "hp"); (case h1 => exact rfl); (case h2 => exact rfl))
  | ((with_reducible refine' k_nin ?h ?h1 ?h2 ?_); (case h => assumption); (case h1 => exact rfl); (case h2 => exact rfl))
  | with_reducible refine' k_forR0 ?_
  | with_reducible refine' k_forL0 ?_
  | ((with_reducible refine' k_truL ?h ?_); (case h => assumption))
  | with_reducible refine' c_strI ?_
  | with_reducible refine' c_intS ?_
  | ((with_reducible refine' k_app ?h ?hl ?_); (case h => walk_at "hp"); (case hl => first | assumption | omega))
  | with_reducible refine' k_set0 ?_
  | ((with_reducible refine' k_set ?ho ?hc ?hn ?hl ?hp ?_); (case ho => walk_at "hp"); (case hc => walk_at "cl"); (case hn => walk_at "na"); (case hl => walk_at "l9"); (case hp => exact rfl))
  | with_reducible refine' k_meth0 ?_
  | with_reducible refine' k_methS0 ?_
  | ((with_reducible refine' k_meth ?ho ?hl ?_); (case ho => walk_at "hp"); (case hl => exact rfl))
  | with_reducible refine' k_cons ?_
  | with_reducible refine' k_nil ?_
  | with_reducible refine' k_ret ?_
  | with_reducible refine' k_retN ?_
  | with_reducible refine' k_next ?_
  | with_reducible refine' k_drop ?_
  | with_reducible refine' k_chain ?_
  | with_reducible refine' k_isN ?_
  | with_reducible refine' k_notN ?_
  | with_reducible refine' c_max2 ?_
  | with_reducible refine' c_min2 ?_
  | with_reducible refine' c_len ?_
  | with_reducible refine' c_list ?_
  | ((with_reducible refine' k_lenLo ?h ?_); (case h => walk_at "hp"))
  | ((with_reducible refine' k_lenTo ?h ?_); (case h => walk_at "hp"))
  | ((with_reducible refine' k_lenL ?h ?_); (case h => assumption))
  | ((with_reducible refine' k_lenT ?h ?_); (case h => assumption))
  | ((with_reducible refine' k_list ?h ?_); (case h => walk_at "hp"))
  | with_reducible refine' k_call ?_
  | with_reducible refine' k_max2 ?_
  | with_reducible refine' k_min2 ?_
  | with_reducible refine' k_ife ?_
  | with_reducible refine' k_andV ?_
  | with_reducible refine' k_orV ?_
  | with_reducible refine' k_notV ?_
  | with_reducible refine' k_un ?_
  | with_reducible refine' k_U ?_
  | with_reducible refine' k_make ?_
  | with_reducible refine' k_dge0 ?_
  | ((with_reducible refine' k_dge ?h ?hv ?_); (case h => walk_at "hp"); (case hv => walk_at "dv"))
  | with_reducible refine' k_dpu0 ?_
  | ((with_reducible refine' k_dpu ?h ?hl ?hp ?_); (case h => walk_at "hp"); (case hl => walk_at "l9"); (case hp => walk_at "dp"))
  | with_reducible refine' k_app0 ?_
  | with_reducible refine' k_bm0 ?_
  | ((with_reducible refine' k_tyL ?h ?_); (case h => walk_at "hp"))
  | with_reducible refine' k_tup0 ?_
  | with_reducible refine' k_lst0 ?_
  | ((with_reducible refine' k_len ?h ?_); (case h => walk_at "sz"))
  | ((with_reducible refine' k_gTup ?h ?hl ?_); (case h => walk_at "hp"); (case hl => exact rfl))
  | with_reducible refine' k_gCons ?_
  | with_reducible refine' k_gNil ?_
  | with_reducible refine' k_pairs ?_
  | with_reducible refine' k_pairs0 ?_
  | with_reducible refine' k_dg20 ?_
  | ((with_reducible refine' k_dg2 ?h ?_); (case h => walk_at "hp"))
  | with_reducible refine' k_sl0 ?_
  | with_reducible refine' k_part ?_
  | with_reducible refine' k_noPart ?_
  | with_reducible refine' k_gSub ?_
  | with_reducible refine' k_makeS ?_
  | with_reducible refine' k_CB ?_)
local macro_rules | `(tactic| walk_at "rd") => `(tactic| repeat walk_at "rd1")

/-! ### data: a stage, a side -/
inductive Stg where
  | main (m : Option Int) (t : Int) (w : Str) (e : Int)
  | over (p t : Int)
@[reducible] def mv : Option Int → V
  | none => .non
  | some i => .int i
def Stg.vs : Stg → List V
  | .main m t w e => [.str "main", mv m, .int t, .str w, .int e]
  | .over p t => [.str "over", .int p, .int t]
def Stg.isOver : Stg → Bool
  | .main .. => false
  | .over .. => true
structure Sd where
  at_ : Nat
  ticks : Int
  periods : Int
  moved : Int
  made : Int
  used : Int
def sf (l : Addr) (d : Sd) : List (Str × V) := [("stages", .ref l), ("at", .int d.at_), ("ticks", .int d.ticks), ("periods", .int d.periods), ("moved", .int d.moved), ("made", .int d.made), ("used", .int d.used)]
/-- the stages' tuples -/
def Tups (H : Hp) (as : List Addr) (ss : List Stg) : Prop := as.length = ss.length ∧ ∀ (i : Nat) (a : Addr) (s : Stg), as[i]? = some a → ss[i]? = some s → H a = some (.tup s.vs)
structure StL (H : Hp) (l : Addr) (as : List Addr) (ss : List Stg) : Prop where
  lst : H l = some (.lst (as.map V.ref))
  tup : Tups H as ss
theorem StL.get {H : Hp} {l : Addr} {as : List Addr} {ss : List Stg} (h : StL H l as ss) {i : Nat} {s : Stg} (hs : ss[i]? = some s) : ∃ a, as[i]? = some a ∧ H a = some (.tup s.vs) := by
  obtain ⟨hi, _⟩ := List.getElem?_eq_some_iff.mp hs
  have hl := h.tup.1
  have ha : as[i]? = some as[i] := List.getElem?_eq_getElem (by omega)
  exact ⟨_, ha, h.tup.2 i _ s ha hs⟩
theorem StL.upd {H : Hp} {l p C dx : Addr} {as : List Addr} {ss : List Stg} {fs : List (Str × V)} {o : HO} (h : StL H l as ss) (hp : H p = some (.ins C dx fs)) : StL (upd H p o) l as ss :=
  ⟨by rw [upd_ne (ne_of h.lst hp (fun z => by cases z))]; exact h.lst, h.tup.1, fun i a s ha hs => by
    have q := h.tup.2 i a s ha hs
    rw [upd_ne (ne_of q hp (fun z => by cases z))]
    exact q⟩
theorem atI_refs {as : List Addr} {i : Nat} {a : Addr} (h : as[i]? = some a) : atI (as.map V.ref) (i : Int) = some (V.ref a) := atI_nat (by rw [List.getElem?_map, h]; rfl)

/-! ### promises -/
/-- a side with the stage that it is in -/
structure SideS (CS : Addr) (H : Hp) (p dx l : Addr) (as : List Addr) (ss : List Stg) (d : Sd) (s : Stg) : Prop where
  ob : H p = some (.ins CS dx (sf l d))
  st : StL H l as ss
  cur : ss[d.at_]? = some s
def spStage (CS : Addr) : Sp := fun vs H Q _ => ∃ p dx l as ss d s, vs = [.ref p] ∧ SideS CS H p dx l as ss d s ∧ ∀ a, H a = some (.tup s.vs) → Q (.ref a) H
def spIsOver (CS : Addr) : Sp := fun vs H Q _ => ∃ p dx l as ss d s, vs = [.ref p] ∧ SideS CS H p dx l as ss d s ∧ Q (.bl s.isOver) H
def freeOf (s : Stg) (d : Sd) : Int := match s with
  | .over .. => 0
  | .main _ _ w e => if w = "wait" then (if e - d.used > 0 then e - d.used else 0) else 0
def spFree (CS : Addr) : Sp := fun vs H Q _ => ∃ p dx l as ss d s, vs = [.ref p] ∧ SideS CS H p dx l as ss d s ∧ Q (.int (freeOf s d)) H
def spUntil (CS : Addr) : Sp := fun vs H Q _ => ∃ p dx l as ss d s, vs = [.ref p] ∧ SideS CS H p dx l as ss d s ∧ Q (.int (freeOf s d + d.ticks)) H
def passBy (s : Stg) (d : Sd) (n : Int) : Sd := { d with used := d.used + n, ticks := d.ticks - (if n - freeOf s d > 0 then n - freeOf s d else 0) }
def spPassBy (CS : Addr) : Sp := fun vs H Q _ => ∃ p dx l as ss d s n, vs = [.ref p, .int n] ∧ SideS CS H p dx l as ss d s ∧ Q .non (upd H p (.ins CS dx (sf l (passBy s d n))))
def beginOf (s : Stg) (n : Nat) (d : Sd) : Sd := match s with
  | .over pp t => { d with at_ := n, made := 0, periods := pp, ticks := t }
  | .main _ t _ _ => { d with at_ := n, made := 0, ticks := d.ticks + t }
def spBegin (CS : Addr) : Sp := fun vs H Q _ => ∃ p dx l as ss d s, ∃ n : Nat, vs = [.ref p, .int n] ∧ H p = some (.ins CS dx (sf l d)) ∧ StL H l as ss ∧ ss[n]? = some s ∧ Q .non (upd H p (.ins CS dx (sf l (beginOf s n d))))
/-- its time, or its period, is up: whether the flag falls, and the side behind -/
def fallsOf (ss : List Stg) (s : Stg) (d : Sd) : Bool × Sd := match s with
  | .over _ t => (decide (d.periods - 1 = 0), { d with periods := d.periods - 1, ticks := if d.periods - 1 > 0 then t else 0 })
  | .main m _ _ _ => match m with
    | some _ => (true, d)
    | none => match ss[d.at_ + 1]? with
      | some s' => (false, beginOf s' (d.at_ + 1) d)
      | none => (true, d)
def spFalls (CS : Addr) : Sp := fun vs H Q _ => ∃ p dx l as ss d s, vs = [.ref p] ∧ SideS CS H p dx l as ss d s ∧ Q (.bl (fallsOf ss s d).1) (upd H p (.ins CS dx (sf l (fallsOf ss s d).2)))
/-- what a move gets -/
def gain (s : Stg) (d : Sd) : Int := match s with
  | .over .. => 0
  | .main _ _ w e => if w = "add" then e else if w = "back" then (if d.used < e then d.used else e) else 0
def pressed (s : Stg) (d : Sd) : Sd := match s with
  | .over _ t => { d with moved := d.moved + 1, made := d.made + 1, ticks := t, used := 0 }
  | .main .. => { d with moved := d.moved + 1, made := d.made + 1, ticks := d.ticks + gain s d, used := 0 }
def pressOf (ss : List Stg) (s : Stg) (d : Sd) : Sd := match s with
  | .over .. => pressed s d
  | .main m _ _ _ => if m = some (d.made + 1) then (match ss[d.at_ + 1]? with
      | some s' => beginOf s' (d.at_ + 1) (pressed s d)
      | none => pressed s d) else pressed s d
def spPressS (CS : Addr) : Sp := fun vs H Q _ => ∃ p dx l as ss d s, vs = [.ref p] ∧ SideS CS H p dx l as ss d s ∧ (∀ m t w e, s = .main (some m) t w e → d.at_ + 1 < ss.length) ∧ Q .non (upd H p (.ins CS dx (sf l (pressOf ss s d))))
def side0 (s : Stg) : Sd := beginOf s 0 ⟨0, 0, 0, 0, 0, 0⟩
def spInitS (CS : Addr) : Sp := fun vs H Q _ => ∃ p dx l0 as ss s, vs = [.ref p, .ref l0] ∧ H p = some (.ins CS dx []) ∧ StL H l0 as ss ∧ ss[0]? = some s ∧
  ∀ l, H l = none → Q .non (upd (upd H l (.lst (as.map V.ref))) p (.ins CS dx (sf l (side0 s))))
theorem SideS.upd {CS : Addr} {H : Hp} {p dx l : Addr} {as : List Addr} {ss : List Stg} {d d' : Sd} {s s' : Stg} (S : SideS CS H p dx l as ss d s) (h : ss[d'.at_]? = some s') : SideS CS (upd H p (.ins CS dx (sf l d'))) p dx l as ss d' s' := ⟨upd_same, S.st.upd S.ob, h⟩
theorem upd2 {H : Hp} {a : Addr} {o u : HO} : upd (upd H a o) a u = upd H a u := by
  funext b
  unfold upd
  split <;> rfl
section
variable {P : Program} {w : World} {K : PySem.W.Frag} {mg : Str → Option Value} {base : Heap} {CS CC cE cB cT cN cO aW : Addr} (T : Txt K mg CS CC cE cB cT cN cO aW)
include T
theorem ok_stage (d : MDef K CS "stage" "Side.stage" s_Side_stage ["self"]) : MetX P w K mg base CX0 1 CS "stage" (spStage CS) := by
  refine MetX.of0 d T.clS sc_Side_stage (fun vs H Q E h => ?_) (fun f cdv A outer s H vs Q E hr h => ?_)
  · obtain ⟨p, dx, l, as, ss, d, s, rfl, _⟩ := h
    rfl
  · obtain ⟨p, dx, l, as, ss, d, s, rfl, S, q⟩ := h
    refine ⟨_, (pss_one (ps_ret (pe_ix ix_list (pe_fld (pv 0) rfl) (pe_fld (pv 0) rfl) (fun _ _ => rfl)))), ?_⟩
    obtain ⟨a, ha, ht⟩ := S.st.get S.cur
    have hp := S.ob
    have hl := S.st.lst
    have hx := atI_refs ha
    walk_at "rd"
    exact q a ht
theorem ok_isOver (c_Side_stage : MetX P w K mg base CX0 1 CS "stage" (spStage CS)) (d : MDef K CS "is_over" "Side.is_over" s_Side_is_over ["self"]) : MetX P w K mg base CX0 2 CS "is_over" (spIsOver CS) := by
  refine MetX.of0 d T.clS sc_Side_is_over (fun vs H Q E h => ?_) (fun f cdv A outer s H vs Q E hr h => ?_)
  · obtain ⟨p, dx, l, as, ss, d, s, rfl, _⟩ := h
    rfl
  · obtain ⟨p, dx, l, as, ss, d, s, rfl, S, q⟩ := h
    refine ⟨_, (pss_one (ps_ret (pe_cmpR op_eq (pe_ix ix_tup (pe_mtX0 c_Side_stage hr (by decide) pass0 (pv 0)) pe_int (fun _ _ => rfl)) pe_str (nomark _)))), ?_⟩
    have hp := S.ob
    walk_at "rd"
    refine ⟨p, dx, l, as, ss, d, s, rfl, S, fun a ht => ?_⟩
    cases s <;> walk_at "rd" <;> exact q
theorem ok_free (c_Side_stage : MetX P w K mg base CX0 1 CS "stage" (spStage CS)) (c_Side_is_over : MetX P w K mg base CX0 2 CS "is_over" (spIsOver CS)) (d : MDef K CS "free" "Side.free" s_Side_free ["self"]) : MetX P w K mg base CX0 3 CS "free" (spFree CS) := by
  refine MetX.of0 d T.clS sc_Side_free (fun vs H Q E h => ?_) (fun f cdv A outer s H vs Q E hr h => ?_)
  · obtain ⟨p, dx, l, as, ss, d, s, rfl, _⟩ := h
    rfl
  · obtain ⟨p, dx, l, as, ss, d, s, rfl, S, q⟩ := h
    refine ⟨_, (pss_cons (ps_if (PW.pt (pw_or (pt_val (pe_mtX0 c_Side_is_over hr (by decide) pass0 (pv 0))) (pw_or1 (pt_cmpR op_ne (pe_ix ix_tup (pe_mtX0 c_Side_stage hr (by decide) pass0 (pv 0)) pe_int (fun _ _ => rfl)) pe_str (nomark _))))) (pss_one (ps_ret pe_int)) pss_nil)
 (pss_one (ps_ret (pe_callB (call_max2 rfl) (by rfl) T.b_max (by decide +kernel) (pa_cons pe_int (pa_cons (pe_op op_sub (pe_ix ix_tup (pe_mtX0 c_Side_stage hr (by decide) pass0 (pv 0)) pe_int (fun _ _ => rfl)) (pe_fld (pv 0) rfl)) pa_nil)))))), ?_⟩
    have hp := S.ob
    walk_at "rd"
    refine ⟨p, dx, l, as, ss, d, s, rfl, S, ?_⟩
    walk_at "rd"
    cases s with
    | over pp t =>
      walk_at "rd"
      exact q
    | main m t w e =>
      walk_at "rd"
      refine ⟨p, dx, l, as, ss, d, _, rfl, S, fun a ht => ?_⟩
      walk_at "rd"
      by_cases hw : w = "wait"
      · walk_at "rd"
        refine ⟨p, dx, l, as, ss, d, _, rfl, S, fun a ht => ?_⟩
        walk_at "rd"
        have e1 : freeOf (.main m t w e) d = if e - d.used > 0 then e - d.used else 0 := if_pos hw
        rw [e1] at q
        exact q
      · walk_at "rd"
        have e1 : freeOf (.main m t w e) d = 0 := if_neg hw
        rw [e1] at q
        exact q
theorem ok_until (c_Side_free : MetX P w K mg base CX0 3 CS "free" (spFree CS)) (d : MDef K CS "until" "Side.until" s_Side_until ["self"]) : MetX P w K mg base CX0 4 CS "until" (spUntil CS) := by
  refine MetX.of0 d T.clS sc_Side_until (fun vs H Q E h => ?_) (fun f cdv A outer s H vs Q E hr h => ?_)
  · obtain ⟨p, dx, l, as, ss, d, s, rfl, _⟩ := h
    rfl
  · obtain ⟨p, dx, l, as, ss, d, s, rfl, S, q⟩ := h
    refine ⟨_, (pss_one (ps_ret (pe_op op_add (pe_mtX0 c_Side_free hr (by decide) pass0 (pv 0)) (pe_fld (pv 0) rfl)))), ?_⟩
    have hp := S.ob
    walk_at "rd"
    refine ⟨p, dx, l, as, ss, d, s, rfl, S, ?_⟩
    walk_at "rd"
    exact q
theorem ok_passBy (c_Side_free : MetX P w K mg base CX0 3 CS "free" (spFree CS)) (d : MDef K CS "pass_by" "Side.pass_by" s_Side_pass_by ["self", "ticks"]) : MetX P w K mg base CX0 4 CS "pass_by" (spPassBy CS) := by
  refine MetX.of0 d T.clS sc_Side_pass_by (fun vs H Q E h => ?_) (fun f cdv A outer s H vs Q E hr h => ?_)
  · obtain ⟨p, dx, l, as, ss, d, s, n, rfl, _⟩ := h
    rfl
  · obtain ⟨p, dx, l, as, ss, d, s, n, rfl, S, q⟩ := h
    refine ⟨_, (pss_cons (ps_set (i := 2) sc_Side_pass_by.nd rfl (Or.inl rfl) (pe_callB (call_max2 rfl) (by rfl) T.b_max (by decide +kernel) (pa_cons pe_int (pa_cons (pe_op op_sub (pv 1) (pe_mtX0 c_Side_free hr (by decide) pass0 (pv 0))) pa_nil))))
 (pss_cons (ps_fld (pv 0) (pe_op op_add (pe_fld (pv 0) rfl) (pv 1)) rfl)
 (pss_one (ps_fld (pv 0) (pe_op op_sub (pe_fld (pv 0) rfl) (pv 2)) rfl)))), ?_⟩
    have hp := S.ob
    walk_at "rd"
    refine ⟨p, dx, l, as, ss, d, s, rfl, S, ?_⟩
    walk_at "rd"
    rw [upd2]
    exact q
theorem ok_begin (c_Side_stage : MetX P w K mg base CX0 1 CS "stage" (spStage CS)) (c_Side_is_over : MetX P w K mg base CX0 2 CS "is_over" (spIsOver CS)) (d : MDef K CS "begin" "Side.begin" s_Side_begin ["self", "at"]) : MetX P w K mg base CX0 3 CS "begin" (spBegin CS) := by
  refine MetX.of0 d T.clS sc_Side_begin (fun vs H Q E h => ?_) (fun f cdv A outer s H vs Q E hr h => ?_)
  · obtain ⟨p, dx, l, as, ss, d, s, n, rfl, _⟩ := h
    rfl
  · obtain ⟨p, dx, l, as, ss, d, s, n, rfl, hp, hs, hn, q⟩ := h
    refine ⟨_, (pss_cons (ps_fld (pv 0) (pv 1) rfl)
 (pss_cons (ps_fld (pv 0) pe_int rfl)
 (pss_one (ps_if (pt_val (pe_mtX0 c_Side_is_over hr (by decide) pass0 (pv 0))) (pss_cons (ps_fld (pv 0) (pe_ix ix_tup (pe_mtX0 c_Side_stage hr (by decide) pass0 (pv 0)) pe_int (fun _ _ => rfl)) rfl)
 (pss_one (ps_fld (pv 0) (pe_ix ix_tup (pe_mtX0 c_Side_stage hr (by decide) pass0 (pv 0)) pe_int (fun _ _ => rfl)) rfl))) (pss_one (ps_fld (pv 0) (pe_op op_add (pe_fld (pv 0) rfl) (pe_ix ix_tup (pe_mtX0 c_Side_stage hr (by decide) pass0 (pv 0)) pe_int (fun _ _ => rfl))) rfl)))))), ?_⟩
    walk_at "rd"
    have S1 : SideS CS (upd (upd H p (.ins CS dx (sf l { d with at_ := n }))) p (.ins CS dx (sf l { d with at_ := n, made := 0 }))) p dx l as ss { d with at_ := n, made := 0 } s := ⟨upd_same, (hs.upd hp).upd upd_same, hn⟩
    refine ⟨p, dx, l, as, ss, _, s, rfl, S1, ?_⟩
    cases s with
    | over pp t =>
      walk_at "rd"
      refine ⟨p, dx, l, as, ss, _, _, rfl, S1, fun a ht => ?_⟩
      walk_at "rd"
      refine ⟨p, dx, l, as, ss, { d with at_ := n, made := 0, periods := pp }, _, rfl, ⟨upd_same, S1.st.upd S1.ob, hn⟩, fun a ht => ?_⟩
      walk_at "rd"
      simp only [upd2]
      exact q
    | main m t w e =>
      walk_at "rd"
      refine ⟨p, dx, l, as, ss, _, _, rfl, S1, fun a ht => ?_⟩
      walk_at "rd"
      simp only [upd2]
      exact q
theorem ok_falls (c_Side_stage : MetX P w K mg base CX0 1 CS "stage" (spStage CS)) (c_Side_is_over : MetX P w K mg base CX0 2 CS "is_over" (spIsOver CS)) (c_Side_begin : MetX P w K mg base CX0 3 CS "begin" (spBegin CS)) (d : MDef K CS "falls" "Side.falls" s_Side_falls ["self"]) : MetX P w K mg base CX0 4 CS "falls" (spFalls CS) := by
  refine MetX.of0 d T.clS sc_Side_falls (fun vs H Q E h => ?_) (fun f cdv A outer s H vs Q E hr h => ?_)
  · obtain ⟨p, dx, l, as, ss, d, s, rfl, _⟩ := h
    rfl
  · obtain ⟨p, dx, l, as, ss, d, s, rfl, S, q⟩ := h
    refine ⟨_, (pss_cons (ps_if (pt_val (pe_mtX0 c_Side_is_over hr (by decide) pass0 (pv 0))) (pss_cons (ps_fld (pv 0) (pe_op op_sub (pe_fld (pv 0) rfl) pe_int) rfl)
 (pss_cons (ps_fld (pv 0) (pe_ifExp (pt_cmpR op_gt (pe_fld (pv 0) rfl) pe_int (nomark _)) (pe_ix ix_tup (pe_mtX0 c_Side_stage hr (by decide) pass0 (pv 0)) pe_int (fun _ _ => rfl)) pe_int) rfl)
 (pss_one (ps_ret (pe_cmpR op_eq (pe_fld (pv 0) rfl) pe_int (nomark _)))))) pss_nil)
 (pss_cons (ps_if (PW.pt (pw_and (pt_cmpR op_isN (pe_ix ix_tup (pe_mtX0 c_Side_stage hr (by decide) pass0 (pv 0)) pe_int (fun _ _ => rfl)) pe_non (nomark _)) (pw_and1 (pt_cmpR op_lt (pe_op op_add (pe_fld (pv 0) rfl) pe_int) (pe_callB call_len_seq (by rfl) T.b_len PySem.boot_len (pa_cons (pe_fld (pv 0) rfl) pa_nil)) (nomark _))))) (pss_cons (ps_expr (pe_mtX c_Side_begin hr (by decide) pass0 (pv 0) (pa_cons (pe_op op_add (pe_fld (pv 0) rfl) pe_int) pa_nil)))
 (pss_one (ps_ret pe_bl))) pss_nil)
 (pss_one (ps_ret pe_bl)))), ?_⟩
    have hp := S.ob
    have hl := S.st.lst
    have hlen := S.st.tup.1
    walk_at "rd"
    refine ⟨p, dx, l, as, ss, d, s, rfl, S, ?_⟩
    cases s with
    | over pp t =>
      walk_at "rd"
      by_cases hz : d.periods - 1 > 0
      · walk_at "rd"
        refine ⟨p, dx, l, as, ss, { d with periods := d.periods - 1 }, _, rfl, ⟨upd_same, S.st.upd S.ob, S.cur⟩, fun a ht => ?_⟩
        walk_at "rd"
        simp only [upd2]
        have e1 : (fallsOf ss (.over pp t) d) = (decide (d.periods - 1 = 0), { d with periods := d.periods - 1, ticks := t }) := by
          show (_, _) = _
          rw [if_pos hz]
        rw [e1] at q
        exact q
      · walk_at "rd"
        simp only [upd2]
        have e1 : (fallsOf ss (.over pp t) d) = (decide (d.periods - 1 = 0), { d with periods := d.periods - 1, ticks := 0 }) := by
          show (_, _) = _
          rw [if_neg hz]
        rw [e1] at q
        exact q
    | main m t w e =>
      walk_at "rd"
      refine ⟨p, dx, l, as, ss, d, _, rfl, S, fun a ht => ?_⟩
      have eH : upd H p (.ins CS dx (sf l d)) = H := by
        funext b
        unfold upd
        split
        · rename_i hb
          rw [hb, hp]
        · rfl
      cases m with
      | some m =>
        walk_at "rd"
        have e1 : (fallsOf ss (.main (some m) t w e) d) = (true, d) := rfl
        rw [e1, eH] at q
        exact q
      | none =>
        walk_at "rd"
        have e2 : (as.map V.ref).length = ss.length := by rw [List.length_map, hlen]
        by_cases hlt : d.at_ + 1 < ss.length
        · obtain ⟨s', hs'⟩ : ∃ s', ss[d.at_ + 1]? = some s' := ⟨_, List.getElem?_eq_getElem hlt⟩
          have hlt2 : ((d.at_ : Int) + 1 < ((as.map V.ref).length : Int)) := by omega
          walk_at "rd"
          refine ⟨p, dx, l, as, ss, d, s', d.at_ + 1, rfl, hp, S.st, hs', ?_⟩
          walk_at "rd"
          have e1 : (fallsOf ss (.main none t w e) d) = (false, beginOf s' (d.at_ + 1) d) := by
            show (match ss[d.at_ + 1]? with | some s' => (false, beginOf s' (d.at_ + 1) d) | none => (true, d)) = _
            rw [hs']
          rw [e1] at q
          exact q
        · have hlt2 : ¬ ((d.at_ : Int) + 1 < ((as.map V.ref).length : Int)) := by omega
          walk_at "rd"
          have e1 : (fallsOf ss (.main none t w e) d) = (true, d) := by
            show (match ss[d.at_ + 1]? with | some s' => (false, beginOf s' (d.at_ + 1) d) | none => (true, d)) = _
            rw [List.getElem?_eq_none (by omega)]
          rw [e1, eH] at q
          exact q
theorem ok_pressS (c_Side_stage : MetX P w K mg base CX0 1 CS "stage" (spStage CS)) (c_Side_is_over : MetX P w K mg base CX0 2 CS "is_over" (spIsOver CS)) (c_Side_begin : MetX P w K mg base CX0 3 CS "begin" (spBegin CS)) (d : MDef K CS "press" "Side.press" s_Side_press ["self"]) : MetX P w K mg base CX0 4 CS "press" (spPressS CS) := by
  refine MetX.of0 d T.clS sc_Side_press (fun vs H Q E h => ?_) (fun f cdv A outer s H vs Q E hr h => ?_)
  · obtain ⟨p, dx, l, as, ss, d, s, rfl, _⟩ := h
    rfl
  · obtain ⟨p, dx, l, as, ss, d, s, rfl, S, hbe, q⟩ := h
    refine ⟨_, (pss_cons (ps_fld (pv 0) (pe_op op_add (pe_fld (pv 0) rfl) pe_int) rfl)
 (pss_cons (ps_fld (pv 0) (pe_op op_add (pe_fld (pv 0) rfl) pe_int) rfl)
 (C8.pss_cut (ps_if (pt_val (pe_mtX0 c_Side_is_over hr (by decide) pass0 (pv 0))) (pss_one (ps_fld (pv 0) (pe_ix ix_tup (pe_mtX0 c_Side_stage hr (by decide) pass0 (pv 0)) pe_int (fun _ _ => rfl)) rfl)) (pss_one (ps_if (pt_cmpR op_eq (pe_ix ix_tup (pe_mtX0 c_Side_stage hr (by decide) pass0 (pv 0)) pe_int (fun _ _ => rfl)) pe_str (nomark _)) (pss_one (ps_fld (pv 0) (pe_op op_add (pe_fld (pv 0) rfl) (pe_ix ix_tup (pe_mtX0 c_Side_stage hr (by decide) pass0 (pv 0)) pe_int (fun _ _ => rfl))) rfl)) (pss_one (ps_if (pt_cmpR op_eq (pe_ix ix_tup (pe_mtX0 c_Side_stage hr (by decide) pass0 (pv 0)) pe_int (fun _ _ => rfl)) pe_str (nomark _)) (pss_one (ps_fld (pv 0) (pe_op op_add (pe_fld (pv 0) rfl) (pe_callB (call_min2 rfl) (by rfl) T.b_min (by decide +kernel) (pa_cons (pe_ix ix_tup (pe_mtX0 c_Side_stage hr (by decide) pass0 (pv 0)) pe_int (fun _ _ => rfl)) (pa_cons (pe_fld (pv 0) rfl) pa_nil)))) rfl)) pss_nil)))))
 (pss_cons (ps_fld (pv 0) pe_int rfl)
 (pss_one (ps_if (PW.pt (pw_and (pt_not (pt_val (pe_mtX0 c_Side_is_over hr (by decide) pass0 (pv 0)))) (pw_and1 (pt_cmpR op_eq (pe_fld (pv 0) rfl) (pe_ix ix_tup (pe_mtX0 c_Side_stage hr (by decide) pass0 (pv 0)) pe_int (fun _ _ => rfl)) (nomark _))))) (pss_one (ps_expr (pe_mtX c_Side_begin hr (by decide) pass0 (pv 0) (pa_cons (pe_op op_add (pe_fld (pv 0) rfl) pe_int) pa_nil)))) pss_nil)))))), ?_⟩
    have hp := S.ob
    walk_at "rd"
    refine k_cut (fun σ' H' => σ' = [some (.ref p)] ∧ H' = upd H p (.ins CS dx (sf l { pressed s d with used := d.used }))) ?_ ?_
    · have S1 : SideS CS (upd (upd H p (.ins CS dx (sf l { d with moved := d.moved + 1 }))) p (.ins CS dx (sf l { d with moved := d.moved + 1, made := d.made + 1 }))) p dx l as ss { d with moved := d.moved + 1, made := d.made + 1 } s := ⟨upd_same, (S.st.upd hp).upd upd_same, S.cur⟩
      walk_at "rd"
      refine ⟨p, dx, l, as, ss, _, s, rfl, S1, ?_⟩
      cases s with
      | over pp t =>
        walk_at "rd"
        refine ⟨p, dx, l, as, ss, _, _, rfl, S1, fun a ht => ?_⟩
        walk_at "rd"
        exact ⟨rfl, by simp only [upd2]; rfl⟩
      | main m t w e =>
        walk_at "rd"
        refine ⟨p, dx, l, as, ss, _, _, rfl, S1, fun a ht => ?_⟩
        walk_at "rd"
        by_cases h1 : w = "add"
        · walk_at "rd"
          refine ⟨p, dx, l, as, ss, _, _, rfl, S1, fun a2 ht2 => ?_⟩
          walk_at "rd"
          refine ⟨rfl, ?_⟩
          have e1 : pressed (.main m t w e) d = { d with moved := d.moved + 1, made := d.made + 1, ticks := d.ticks + e, used := 0 } := by
            show ({ d with moved := d.moved + 1, made := d.made + 1, ticks := d.ticks + gain (.main m t w e) d, used := 0 } : Sd) = _
            have e2 : gain (.main m t w e) d = e := if_pos h1
            rw [e2]
          rw [e1]
          simp only [upd2]
          rfl
        · walk_at "rd"
          refine ⟨p, dx, l, as, ss, _, _, rfl, S1, fun a3 ht3 => ?_⟩
          walk_at "rd"
          by_cases h2 : w = "back"
          · walk_at "rd"
            refine ⟨p, dx, l, as, ss, _, _, rfl, S1, fun a2 ht2 => ?_⟩
            walk_at "rd"
            refine ⟨rfl, ?_⟩
            have e1 : pressed (.main m t w e) d = { d with moved := d.moved + 1, made := d.made + 1, ticks := d.ticks + (if d.used < e then d.used else e), used := 0 } := by
              show ({ d with moved := d.moved + 1, made := d.made + 1, ticks := d.ticks + gain (.main m t w e) d, used := 0 } : Sd) = _
              have e2 : gain (.main m t w e) d = (if d.used < e then d.used else e) := (if_neg h1).trans (if_pos h2)
              rw [e2]
            rw [e1]
            simp only [upd2]
            rfl
          · walk_at "rd"
            refine ⟨rfl, ?_⟩
            have e1 : pressed (.main m t w e) d = { d with moved := d.moved + 1, made := d.made + 1, used := 0 } := by
              show ({ d with moved := d.moved + 1, made := d.made + 1, ticks := d.ticks + gain (.main m t w e) d, used := 0 } : Sd) = _
              have e2 : gain (.main m t w e) d = 0 := (if_neg h1).trans (if_neg h2)
              rw [e2, Int.add_zero]
            rw [e1]
            simp only [upd2]
            rfl
    · rintro σ' H' ⟨rfl, rfl⟩
      walk_at "rd"
      have c0 : ss[(pressed s d).at_]? = some s := by cases s <;> exact S.cur
      have u0 : { pressed s d with used := 0 } = pressed s d := by cases s <;> rfl
      have S2 : SideS CS (upd (upd H p (.ins CS dx (sf l { pressed s d with used := d.used }))) p (.ins CS dx (sf l { pressed s d with used := 0 }))) p dx l as ss { pressed s d with used := 0 } s := ⟨upd_same, (S.st.upd hp).upd upd_same, c0⟩
      refine ⟨p, dx, l, as, ss, _, s, rfl, S2, ?_⟩
      rw [u0] at S2
      cases s with
      | over pp t =>
        walk_at "rd"
        simp only [upd2]
        exact q
      | main m t w e =>
        walk_at "rd"
        refine ⟨p, dx, l, as, ss, _, _, rfl, S2, fun a ht => ?_⟩
        walk_at "rd"
        cases m with
        | none =>
          walk_at "rd"
          simp only [upd2]
          have e1 : pressOf ss (.main none t w e) d = pressed (.main none t w e) d := by simp [pressOf]
          rw [e1] at q
          exact q
        | some m =>
          refine k_eqI ?_
          walk_at "rd"
          by_cases hm : (pressed (.main (some m) t w e) d).made = m
          · walk_at "rd"
            obtain ⟨s', hs'⟩ : ∃ s', ss[d.at_ + 1]? = some s' := ⟨_, List.getElem?_eq_getElem (hbe m t w e rfl)⟩
            refine ⟨p, dx, l, as, ss, pressed (.main (some m) t w e) d, s', d.at_ + 1, rfl, S2.ob, S2.st, hs', ?_⟩
            walk_at "rd"
            simp only [upd2]
            have e1 : pressOf ss (.main (some m) t w e) d = beginOf s' (d.at_ + 1) (pressed (.main (some m) t w e) d) := by
              refine (if_pos (congrArg some hm.symm)).trans ?_
              rw [hs']
            rw [e1] at q
            exact q
          · walk_at "rd"
            simp only [upd2]
            have e1 : pressOf ss (.main (some m) t w e) d = pressed (.main (some m) t w e) d := if_neg (fun z => hm (Option.some.inj z).symm)
            rw [e1] at q
            exact q
theorem ok_initS (c_Side_begin : MetX P w K mg base CX0 3 CS "begin" (spBegin CS)) (d : IDef K mg CS "Side" "Side.__init__" s_Side___init ["self", "stages"]) : MakX P w K mg base CX0 4 "Side" CS (spInitS CS) := by
  refine MakX.of0 d sc_Side___init (fun vs H Q E h => ?_) (fun f cdv A outer s H vs Q E hr h => ?_)
  · obtain ⟨p, dx, l0, as, ss, s, rfl, _⟩ := h
    rfl
  · obtain ⟨p, dx, l0, as, ss, s, rfl, hp, S, h0, q⟩ := h
    refine ⟨_, (pss_cons (ps_fld (pv 0) (pe_callTy call_list_of (by rfl) T.b_list (by decide +kernel) (pa_cons (pv 1) pa_nil)) rfl)
 (pss_cons (ps_fld (pv 0) pe_int rfl)
 (pss_cons (ps_fld (pv 0) pe_int rfl)
 (pss_cons (ps_fld (pv 0) pe_int rfl)
 (pss_cons (ps_fld (pv 0) pe_int rfl)
 (pss_cons (ps_fld (pv 0) pe_int rfl)
 (pss_cons (ps_fld (pv 0) pe_int rfl)
 (pss_one (ps_expr (pe_mtX c_Side_begin hr (by decide) pass0 (pv 0) (pa_cons pe_int pa_nil))))))))))), ?_⟩
    have hl0 := S.lst
    walk_at "rd"
    intro l hl
    have hpl : p ≠ l := ne_of_none hp hl
    walk_at "rd"
    have S1 : StL (upd H l (.lst (as.map V.ref))) l as ss := ⟨upd_same, S.tup.1, fun i a s ha hs => by
      have z := S.tup.2 i a s ha hs
      rw [upd_ne (ne_of_none z hl)]
      exact z⟩
    have hp1 : (upd H l (.lst (as.map V.ref))) p = some (.ins CS dx []) := by rw [upd_ne hpl]; exact hp
    simp only [upd2]
    refine ⟨p, dx, l, as, ss, ⟨0, 0, 0, 0, 0, 0⟩, s, 0, rfl, upd_same, S1.upd hp1, h0, ?_⟩
    walk_at "rd"
    simp only [upd2]
    exact q l hl
end
/-! ### the whole clock, without a program: the mathematics -/
structure Wd where
  turn : Bool
  runs : Bool
  fallen : Option Bool
  total : Int
  d0 : Sd
  d1 : Sd
def Wd.side (w : Wd) (b : Bool) : Sd := match b with
  | true => w.d1
  | false => w.d0
def Wd.put (w : Wd) (b : Bool) (d : Sd) : Wd := match b with
  | true => { w with d1 := d }
  | false => { w with d0 := d }
def ti (b : Bool) : Int := match b with
  | true => 1
  | false => 0
def curS (ss : List Stg) (d : Sd) : Stg := ss.getD d.at_ (.over 1 1)
theorem curS_of {ss : List Stg} {d : Sd} {s : Stg} (h : ss[d.at_]? = some s) : curS ss d = s := by
  unfold curS
  rw [List.getD_eq_getElem?_getD, h]
  rfl
/-- so many ticks go by, no more than until the time or the period is up; what comes then -/
def evW (ss : List Stg) (w : Wd) (s : Stg) (d1 : Sd) (tot : Int) : Wd :=
  if d1.ticks > 0 then { w.put w.turn d1 with total := tot }
  else if (fallsOf ss s d1).1 = true then { w.put w.turn (fallsOf ss s d1).2 with total := tot, fallen := some w.turn, runs := false }
  else { w.put w.turn (fallsOf ss s d1).2 with total := tot }
def passW (ss : List Stg) (w : Wd) (n : Int) : Wd := evW ss w (curS ss (w.side w.turn)) (passBy (curS ss (w.side w.turn)) (w.side w.turn) n) (w.total + n)
theorem evW_put (ss : List Stg) (w : Wd) (s : Stg) (d d1 : Sd) (t tot : Int) : evW ss { w.put w.turn d with total := t } s d1 tot = evW ss w s d1 tot := by
  obtain ⟨turn, runs, fallen, total, d0, dd1⟩ := w
  cases turn <;> rfl
/-- tick by tick, till a flag falls -/
def runN (ss : List Stg) : Nat → Wd → Wd
  | 0, w => w
  | n + 1, w => match w.fallen with
    | some _ => w
    | none => runN ss n (passW ss w 1)
def GoodS (ss : List Stg) : Prop := 0 < ss.length ∧ ∀ (i : Nat) (s : Stg), ss[i]? = some s → match s with
  | .main m t _ e => 1 ≤ t ∧ 0 ≤ e ∧ (m ≠ none → i + 1 < ss.length)
  | .over p t => 1 ≤ p ∧ 1 ≤ t
/-- a side that goes on -/
structure SOk (ss : List Stg) (d : Sd) : Prop where
  cur : d.at_ < ss.length
  pos : 1 ≤ d.ticks
  per : ∀ p t, curS ss d = .over p t → 1 ≤ d.periods
  use : 0 ≤ d.used
structure WF (ss : List Stg) (w : Wd) : Prop where
  in0 : w.d0.at_ < ss.length
  in1 : w.d1.at_ < ss.length
  ok0 : w.fallen = none → SOk ss w.d0
  ok1 : w.fallen = none → SOk ss w.d1
theorem WF.inS {ss : List Stg} {w : Wd} (h : WF ss w) (b : Bool) : (w.side b).at_ < ss.length := by
  cases b
  · exact h.in0
  · exact h.in1
theorem WF.okS {ss : List Stg} {w : Wd} (h : WF ss w) (hf : w.fallen = none) (b : Bool) : SOk ss (w.side b) := by
  cases b
  · exact h.ok0 hf
  · exact h.ok1 hf
theorem cur_get {ss : List Stg} {d : Sd} (h : d.at_ < ss.length) : ss[d.at_]? = some (curS ss d) := by
  unfold curS
  rw [List.getD_eq_getElem?_getD, List.getElem?_eq_getElem h]
  rfl
theorem free_nonneg (s : Stg) (d : Sd) : 0 ≤ freeOf s d := by
  cases s with
  | over p t => exact Int.le_refl 0
  | main m t w e =>
    unfold freeOf
    dsimp only
    split
    · split <;> omega
    · omega
theorem runN_fallen {ss : List Stg} {w : Wd} {b : Bool} (h : w.fallen = some b) : ∀ n, runN ss n w = w
  | 0 => rfl
  | n + 1 => by
    unfold runN
    rw [h]
theorem runN_succ {ss : List Stg} {w : Wd} (h : w.fallen = none) (n : Nat) : runN ss (n + 1) w = runN ss n (passW ss w 1) := by
  rw [runN, h]
theorem runN_add (ss : List Stg) : ∀ (a b : Nat) (w : Wd), runN ss (a + b) w = runN ss b (runN ss a w)
  | 0, b, w => by rw [Nat.zero_add]; rfl
  | a + 1, b, w => by
    rw [Nat.succ_add]
    cases h : w.fallen with
    | some x => rw [runN_fallen h, runN_fallen h, runN_fallen h]
    | none => rw [Nat.add_one, runN_succ h, runN_succ h, runN_add ss a b]
/-- passing on, in two goes -/
theorem passBy_add (s : Stg) (d : Sd) {a b : Int} (ha : 0 ≤ a) (hb : 0 ≤ b) : passBy s (passBy s d a) b = passBy s d (a + b) := by
  have key : freeOf s (passBy s d a) = if freeOf s d - a > 0 then freeOf s d - a else 0 := by
    cases s with
    | over p t =>
      show (0 : Int) = if (0 : Int) - a > 0 then 0 - a else 0
      rw [if_neg (by omega)]
    | main m t w e =>
      show (if w = "wait" then (if e - (d.used + a) > 0 then e - (d.used + a) else 0) else 0) = if (if w = "wait" then (if e - d.used > 0 then e - d.used else 0) else 0) - a > 0 then (if w = "wait" then (if e - d.used > 0 then e - d.used else 0) else 0) - a else 0
      by_cases hw : w = "wait"
      · simp only [if_pos hw]
        split <;> split <;> (try split) <;> omega
      · simp only [if_neg hw]
        rw [if_neg (by omega)]
  have f0 := free_nonneg s d
  have e1 : (passBy s (passBy s d a) b).ticks = (passBy s d (a + b)).ticks := by
    show (d.ticks - (if a - freeOf s d > 0 then a - freeOf s d else 0)) - (if b - freeOf s (passBy s d a) > 0 then b - freeOf s (passBy s d a) else 0) = d.ticks - (if a + b - freeOf s d > 0 then a + b - freeOf s d else 0)
    rw [key]
    split <;> split <;> split <;> (try split) <;> omega
  have e2 : (passBy s (passBy s d a) b).used = (passBy s d (a + b)).used := by
    show d.used + a + b = d.used + (a + b)
    omega
  show ({ (passBy s d (a + b)) with used := (passBy s (passBy s d a) b).used, ticks := (passBy s (passBy s d a) b).ticks } : Sd) = passBy s d (a + b)
  rw [e1, e2]
theorem passBy_ticks (s : Stg) (d : Sd) {n : Int} (hp : 1 ≤ d.ticks) (hn : n < freeOf s d + d.ticks) : (passBy s d n).ticks > 0 := by
  show d.ticks - (if n - freeOf s d > 0 then n - freeOf s d else 0) > 0
  split <;> omega
theorem passBy_up (s : Stg) (d : Sd) (hp : 1 ≤ d.ticks) : (passBy s d (freeOf s d + d.ticks)).ticks = 0 := by
  show d.ticks - (if freeOf s d + d.ticks - freeOf s d > 0 then freeOf s d + d.ticks - freeOf s d else 0) = 0
  rw [if_pos (by omega)]
  omega
/-- the program's look: free + ticks is 0 just where the ticks are none -/
theorem until_zero (s : Stg) (d : Sd) {n : Int} (hp : 1 ≤ d.ticks) (h0 : 0 ≤ n) (hn : n ≤ freeOf s d + d.ticks) : (freeOf s (passBy s d n) + (passBy s d n).ticks = 0) ↔ ¬ (passBy s d n).ticks > 0 := by
  have key : freeOf s (passBy s d n) = if freeOf s d - n > 0 then freeOf s d - n else 0 := by
    cases s with
    | over p t =>
      show (0 : Int) = if (0 : Int) - n > 0 then 0 - n else 0
      rw [if_neg (by omega)]
    | main m t w e =>
      show (if w = "wait" then (if e - (d.used + n) > 0 then e - (d.used + n) else 0) else 0) = if (if w = "wait" then (if e - d.used > 0 then e - d.used else 0) else 0) - n > 0 then (if w = "wait" then (if e - d.used > 0 then e - d.used else 0) else 0) - n else 0
      by_cases hw : w = "wait"
      · simp only [if_pos hw]
        split <;> split <;> (try split) <;> omega
      · simp only [if_neg hw]
        rw [if_neg (by omega)]
  rw [key]
  show ((if freeOf s d - n > 0 then freeOf s d - n else 0) + (d.ticks - (if n - freeOf s d > 0 then n - freeOf s d else 0)) = 0) ↔ ¬ (d.ticks - (if n - freeOf s d > 0 then n - freeOf s d else 0)) > 0
  have f0 := free_nonneg s d
  constructor
  · intro h
    split at h <;> split at h <;> (try split) <;> omega
  · intro h
    split at h <;> split <;> (try split) <;> omega
theorem put_side (w : Wd) (b : Bool) (d : Sd) : (w.put b d).side b = d := by cases b <;> rfl
theorem put_put (w : Wd) (b : Bool) (d d' : Sd) : (w.put b d).put b d' = w.put b d' := by cases b <;> rfl
theorem put_turn (w : Wd) (b : Bool) (d : Sd) : (w.put b d).turn = w.turn := by cases b <;> rfl
theorem put_fallen (w : Wd) (b : Bool) (d : Sd) : (w.put b d).fallen = w.fallen := by cases b <;> rfl
theorem put_runs (w : Wd) (b : Bool) (d : Sd) : (w.put b d).runs = w.runs := by cases b <;> rfl
theorem put_total (w : Wd) (b : Bool) (d : Sd) : (w.put b d).total = w.total := by cases b <;> rfl
theorem side_tot (w : Wd) (b c : Bool) (d : Sd) (t : Int) : ({ w.put b d with total := t } : Wd).side c = (w.put b d).side c := by cases c <;> rfl
theorem put_tot (w : Wd) (b : Bool) (d d' : Sd) (t : Int) : ({ w.put b d with total := t } : Wd).put b d' = { w.put b d' with total := t } := by cases b <;> rfl
/-- many ticks are one by one -/
theorem passW_run {ss : List Stg} : ∀ (k : Nat) (w : Wd), w.fallen = none → 1 ≤ (w.side w.turn).ticks → 1 ≤ k → (k : Int) ≤ freeOf (curS ss (w.side w.turn)) (w.side w.turn) + (w.side w.turn).ticks → passW ss w k = runN ss k w
  | 0, _, _, _, h, _ => absurd h (by decide)
  | 1, w, hf, _, _, _ => by
    rw [runN_succ hf]
    rfl
  | k + 2, w, hf, hp, _, hk => by
    have hk : (k : Int) + 2 ≤ freeOf (curS ss (w.side w.turn)) (w.side w.turn) + (w.side w.turn).ticks := by
      have : ((k + 2 : Nat) : Int) = (k : Int) + 2 := by omega
      omega
    generalize hs : curS ss (w.side w.turn) = s at *
    have h1 : (passBy s (w.side w.turn) 1).ticks > 0 := passBy_ticks s _ hp (by omega)
    have e1 : passW ss w 1 = { w.put w.turn (passBy s (w.side w.turn) 1) with total := w.total + 1 } := by
      unfold passW evW
      rw [hs, if_pos h1]
    rw [runN_succ hf]
    have t1 : (passW ss w 1).turn = w.turn := by rw [e1]; exact put_turn ..
    have s1 : (passW ss w 1).side w.turn = passBy s (w.side w.turn) 1 := by rw [e1, side_tot, put_side]
    have f1 : (passW ss w 1).fallen = none := by rw [e1]; exact (put_fallen ..).trans hf
    have c1 : curS ss (passBy s (w.side w.turn) 1) = s := hs
    have ut : freeOf s (passBy s (w.side w.turn) 1) + (passBy s (w.side w.turn) 1).ticks = freeOf s (w.side w.turn) + (w.side w.turn).ticks - 1 := by
      cases s with
      | over p t =>
        show (0 : Int) + ((w.side w.turn).ticks - (if (1 : Int) - 0 > 0 then (1 : Int) - 0 else 0)) = 0 + (w.side w.turn).ticks - 1
        rw [if_pos (by decide)]
        omega
      | main m t wy e =>
        by_cases hw : wy = "wait"
        · show (if wy = "wait" then (if e - ((w.side w.turn).used + 1) > 0 then e - ((w.side w.turn).used + 1) else 0) else 0) + ((w.side w.turn).ticks - (if 1 - (if wy = "wait" then (if e - (w.side w.turn).used > 0 then e - (w.side w.turn).used else 0) else 0) > 0 then 1 - (if wy = "wait" then (if e - (w.side w.turn).used > 0 then e - (w.side w.turn).used else 0) else 0) else 0)) = (if wy = "wait" then (if e - (w.side w.turn).used > 0 then e - (w.side w.turn).used else 0) else 0) + (w.side w.turn).ticks - 1
          simp only [if_pos hw]
          split <;> split <;> split <;> omega
        · show (if wy = "wait" then (if e - ((w.side w.turn).used + 1) > 0 then e - ((w.side w.turn).used + 1) else 0) else 0) + ((w.side w.turn).ticks - (if 1 - (if wy = "wait" then (if e - (w.side w.turn).used > 0 then e - (w.side w.turn).used else 0) else 0) > 0 then 1 - (if wy = "wait" then (if e - (w.side w.turn).used > 0 then e - (w.side w.turn).used else 0) else 0) else 0)) = (if wy = "wait" then (if e - (w.side w.turn).used > 0 then e - (w.side w.turn).used else 0) else 0) + (w.side w.turn).ticks - 1
          simp only [if_neg hw]
          rw [if_pos (by decide)]
          omega
    have ih := passW_run (ss := ss) (k + 1) (passW ss w 1) f1 (by rw [t1, s1]; omega) (by omega) (by
      rw [t1, s1, c1]
      have : ((k + 1 : Nat) : Int) = (k : Int) + 1 := by omega
      omega)
    have ek : ((k + 2 : Nat) : Int) = 1 + ((k + 1 : Nat) : Int) := by omega
    rw [← ih, ek]
    have pa := passBy_add s (w.side w.turn) (a := 1) (b := ((k + 1 : Nat) : Int)) (by decide) (by omega)
    have tt : w.total + (1 + ((k + 1 : Nat) : Int)) = w.total + 1 + ((k + 1 : Nat) : Int) := by omega
    have p1 : passW ss w 1 = { w.put w.turn (passBy s (w.side w.turn) 1) with total := w.total + 1 } := e1
    have q2 : passW ss (passW ss w 1) ((k + 1 : Nat) : Int) = evW ss (passW ss w 1) s (passBy s (w.side w.turn) (1 + ((k + 1 : Nat) : Int))) (w.total + (1 + ((k + 1 : Nat) : Int))) := by
      show evW ss (passW ss w 1) (curS ss ((passW ss w 1).side (passW ss w 1).turn)) (passBy (curS ss ((passW ss w 1).side (passW ss w 1).turn)) ((passW ss w 1).side (passW ss w 1).turn) ((k + 1 : Nat) : Int)) ((passW ss w 1).total + ((k + 1 : Nat) : Int)) = _
      have tt1 : (passW ss w 1).total = w.total + 1 := by rw [p1]
      rw [t1, s1, c1, pa, tt1, tt]
    rw [q2, p1, evW_put]
    unfold passW
    rw [hs]
theorem wf_put {ss : List Stg} {w : Wd} {d : Sd} {tot : Int} (h : WF ss w) (hf : w.fallen = none) (hd : SOk ss d) : WF ss { w.put w.turn d with total := tot } := by
  obtain ⟨turn, runs, fallen, total, d0, d1⟩ := w
  cases turn
  · exact ⟨hd.cur, h.in1, fun _ => hd, h.ok1⟩
  · exact ⟨h.in0, hd.cur, h.ok0, fun _ => hd⟩
theorem begin_ok {ss : List Stg} (G : GoodS ss) {n : Nat} {s : Stg} {d : Sd} (hs : ss[n]? = some s) (ht : 0 ≤ d.ticks) (hu : 0 ≤ d.used) : SOk ss (beginOf s n d) := by
  have g := G.2 n s hs
  have hn := (List.getElem?_eq_some_iff.mp hs).1
  cases s with
  | over p t =>
    obtain ⟨g1, g2⟩ := g
    refine ⟨hn, g2, fun p' t' e => ?_, hu⟩
    have e2 : curS ss (beginOf (.over p t) n d) = .over p t := curS_of (d := beginOf (.over p t) n d) hs
    exact g1
  | main m t w e =>
    obtain ⟨g1, g2, g3⟩ := g
    refine ⟨hn, (show 1 ≤ d.ticks + t by omega), fun p' t' z => ?_, hu⟩
    have e2 : curS ss (beginOf (.main m t w e) n d) = .main m t w e := curS_of (d := beginOf (.main m t w e) n d) hs
    rw [e2] at z
    cases z
theorem passW_wf {ss : List Stg} (G : GoodS ss) {w : Wd} (h : WF ss w) (hf : w.fallen = none) {n : Int} (h0 : 0 ≤ n) (hn : n ≤ freeOf (curS ss (w.side w.turn)) (w.side w.turn) + (w.side w.turn).ticks) : WF ss (passW ss w n) := by
  have S := h.okS hf w.turn
  have hc := cur_get S.cur
  generalize hs : curS ss (w.side w.turn) = s at *
  have hd : (passBy s (w.side w.turn) n).at_ = (w.side w.turn).at_ := rfl
  have hp : (passBy s (w.side w.turn) n).periods = (w.side w.turn).periods := rfl
  have hu : 0 ≤ (passBy s (w.side w.turn) n).used := by
    have := S.use
    show 0 ≤ (w.side w.turn).used + n
    omega
  have hc1 : ∀ d : Sd, d.at_ = (w.side w.turn).at_ → curS ss d = s := fun d e => curS_of (by rw [e]; exact hc)
  have g := G.2 _ s hc
  have f0 := free_nonneg s (w.side w.turn)
  have ht : 0 ≤ (passBy s (w.side w.turn) n).ticks := by
    have := S.pos
    show 0 ≤ (w.side w.turn).ticks - (if n - freeOf s (w.side w.turn) > 0 then n - freeOf s (w.side w.turn) else 0)
    split <;> omega
  unfold passW
  rw [hs]
  unfold evW
  by_cases c : (passBy s (w.side w.turn) n).ticks > 0
  · rw [if_pos c]
    exact wf_put h hf ⟨S.cur, c, fun p t e => S.per p t (by rw [← e, hs]; exact (hc1 _ hd).symm), hu⟩
  · rw [if_neg c]
    have inn : (fallsOf ss s (passBy s (w.side w.turn) n)).2.at_ < ss.length := by
      cases s with
      | over p t => exact S.cur
      | main m t wy e =>
        cases m with
        | some m => exact S.cur
        | none =>
          show (match ss[(passBy (.main none t wy e) (w.side w.turn) n).at_ + 1]? with | some s' => (false, beginOf s' ((passBy (.main none t wy e) (w.side w.turn) n).at_ + 1) (passBy (.main none t wy e) (w.side w.turn) n)) | none => (true, (passBy (.main none t wy e) (w.side w.turn) n))).2.at_ < ss.length
          cases hx : ss[(passBy (.main none t wy e) (w.side w.turn) n).at_ + 1]? with
          | none => exact S.cur
          | some s' =>
            have hlt := (List.getElem?_eq_some_iff.mp hx).1
            cases s' <;> exact hlt
    by_cases c2 : (fallsOf ss s (passBy s (w.side w.turn) n)).1 = true
    · rw [if_pos c2]
      obtain ⟨turn, runs, fallen, total, d0, d1⟩ := w
      cases turn
      · exact ⟨inn, h.in1, (by intro z; cases z), (by intro z; cases z)⟩
      · exact ⟨h.in0, inn, (by intro z; cases z), (by intro z; cases z)⟩
    · rw [if_neg c2]
      refine wf_put h hf ?_
      cases s with
      | over p t =>
        have hper := S.per p t hs
        have c3 : ¬ ((passBy (.over p t) (w.side w.turn) n).periods - 1 = 0) := fun z => c2 (decide_eq_true z)
        rw [hp] at c3
        have c4 : (passBy (.over p t) (w.side w.turn) n).periods - 1 > 0 := by rw [hp]; omega
        refine ⟨S.cur, ?_, fun p' t' e => ?_, hu⟩
        · show 1 ≤ (if (passBy (.over p t) (w.side w.turn) n).periods - 1 > 0 then t else 0)
          rw [if_pos c4]
          exact g.2
        · show 1 ≤ (passBy (.over p t) (w.side w.turn) n).periods - 1
          omega
      | main m t wy e =>
        cases m with
        | some m => exact absurd rfl c2
        | none =>
          show SOk ss (match ss[(passBy (.main none t wy e) (w.side w.turn) n).at_ + 1]? with | some s' => (false, beginOf s' ((passBy (.main none t wy e) (w.side w.turn) n).at_ + 1) (passBy (.main none t wy e) (w.side w.turn) n)) | none => (true, (passBy (.main none t wy e) (w.side w.turn) n))).2
          have c3 : ¬ ((match ss[(passBy (.main none t wy e) (w.side w.turn) n).at_ + 1]? with | some s' => (false, beginOf s' ((passBy (.main none t wy e) (w.side w.turn) n).at_ + 1) (passBy (.main none t wy e) (w.side w.turn) n)) | none => (true, (passBy (.main none t wy e) (w.side w.turn) n))).1 = true) := c2
          cases hx : ss[(passBy (.main none t wy e) (w.side w.turn) n).at_ + 1]? with
          | none =>
            rw [hx] at c3
            exact absurd rfl c3
          | some s' => exact begin_ok G hx ht hu
theorem runN_wf {ss : List Stg} (G : GoodS ss) : ∀ (n : Nat) {w : Wd}, WF ss w → WF ss (runN ss n w)
  | 0, _, h => h
  | n + 1, w, h => by
    cases hf : w.fallen with
    | some b =>
      rw [runN_fallen hf]
      exact h
    | none =>
      rw [runN_succ hf]
      have S := h.okS hf w.turn
      have f0 := free_nonneg (curS ss (w.side w.turn)) (w.side w.turn)
      exact runN_wf G n (passW_wf G h hf (by decide) (by have := S.pos; omega))
theorem passW_total (ss : List Stg) (w : Wd) (n : Int) : (passW ss w n).total = w.total + n := by
  unfold passW evW
  split
  · rfl
  · split <;> rfl
theorem runN_total (ss : List Stg) : ∀ (n : Nat) (w : Wd), w.total ≤ (runN ss n w).total ∧ (runN ss n w).total ≤ w.total + n ∧ ((runN ss n w).fallen = none → (runN ss n w).total = w.total + n)
  | 0, w => ⟨Int.le_refl _, (show w.total ≤ w.total + ((0 : Nat) : Int) by omega), fun _ => (show w.total = w.total + ((0 : Nat) : Int) by omega)⟩
  | n + 1, w => by
    cases hf : w.fallen with
    | some b =>
      rw [runN_fallen hf]
      exact ⟨Int.le_refl _, by omega, fun z => by rw [hf] at z; cases z⟩
    | none =>
      rw [runN_succ hf]
      obtain ⟨a, b, c⟩ := runN_total ss n (passW ss w 1)
      rw [passW_total] at a b c
      exact ⟨by omega, by omega, fun z => by have := c z; omega⟩
theorem runN_runs {ss : List Stg} : ∀ (n : Nat) {w : Wd}, (runN ss n w).fallen = none → (runN ss n w).runs = w.runs
  | 0, _, _ => rfl
  | n + 1, w, h => by
    cases hf : w.fallen with
    | some b =>
      rw [runN_fallen hf]
    | none =>
      rw [runN_succ hf] at h ⊢
      rw [runN_runs n h]
      by_cases hp : (passW ss w 1).fallen = none
      · unfold passW evW at hp ⊢
        split at hp
        · rename_i c
          rw [if_pos c]
          exact put_runs ..
        · rename_i c
          split at hp
          · cases hp
          · rename_i c2
            rw [if_neg c, if_neg c2]
            exact put_runs ..
      · obtain ⟨b, hb⟩ := Option.ne_none_iff_exists'.mp hp
        rw [runN_fallen hb] at h
        rw [hb] at h
        cases h
/-! ### what is asked of a clock, what it tells -/
inductive Deed where
  | go (n : Int)
  | press (b : Bool)
  | start
  | stop
  | give (b : Bool) (n : Int)
inductive Kd where
  | t | n | o
def exW (ss : List Stg) (w : Wd) : Deed → Except Kd (V × Wd)
  | .go n => if n < 0 then .error .t else match w.fallen with
    | some _ => .error .o
    | none => if w.runs = true then .ok (.int ((runN ss n.toNat w).total - w.total), runN ss n.toNat w) else .ok (.int n, w)
  | .press b => match w.fallen with
    | some _ => .error .o
    | none => if w.runs = true ∧ b = w.turn then .ok (.non, { w.put w.turn (pressOf ss (curS ss (w.side w.turn)) (w.side w.turn)) with turn := !w.turn }) else .error .n
  | .start => match w.fallen with
    | some _ => .error .o
    | none => if w.runs = true then .error .n else .ok (.non, { w with runs := true })
  | .stop => match w.fallen with
    | some _ => .error .o
    | none => if w.runs = true then .ok (.non, { w with runs := false }) else .error .n
  | .give b n => match w.fallen with
    | some _ => .error .o
    | none => if w.runs = true then .error .n else if 1 ≤ (w.side b).ticks + n ∧ (w.side b).ticks + n ≤ 10000000 then .ok (.non, w.put b { w.side b with ticks := (w.side b).ticks + n }) else .error .t
theorem gain_nonneg {s : Stg} {d : Sd} (hu : 0 ≤ d.used) (he : ∀ m t w e, s = .main m t w e → 0 ≤ e) : 0 ≤ gain s d := by
  cases s with
  | over p t => exact Int.le_refl 0
  | main m t w e =>
    have := he m t w e rfl
    unfold gain
    dsimp only
    split
    · exact this
    · split
      · split <;> omega
      · omega
theorem press_ok {ss : List Stg} (G : GoodS ss) {d : Sd} (S : SOk ss d) : SOk ss (pressOf ss (curS ss d) d) := by
  have hc := cur_get S.cur
  have g := G.2 _ _ hc
  have gn : 0 ≤ gain (curS ss d) d := gain_nonneg S.use (fun m t w e h => by
    rw [h] at g
    exact g.2.1)
  generalize hs : curS ss d = s at *
  have hcs : ∀ d' : Sd, d'.at_ = d.at_ → curS ss d' = s := fun d' e => curS_of (by rw [e]; exact hc)
  cases s with
  | over p t => exact ⟨S.cur, g.2, fun p' t' _ => S.per p t hs, Int.le_refl 0⟩
  | main m t w e =>
    have o1 : SOk ss (pressed (.main m t w e) d) := by
      have := S.pos
      refine ⟨S.cur, (show 1 ≤ d.ticks + gain (.main m t w e) d by omega), fun p' t' h => ?_, Int.le_refl 0⟩
      have z := hcs (pressed (.main m t w e) d) rfl
      rw [z] at h
      cases h
    show SOk ss (if m = some (d.made + 1) then (match ss[d.at_ + 1]? with | some s' => beginOf s' (d.at_ + 1) (pressed (.main m t w e) d) | none => pressed (.main m t w e) d) else pressed (.main m t w e) d)
    split
    · split
      · rename_i s' hx
        exact begin_ok G hx (by have := o1.pos; omega) (Int.le_refl 0)
      · exact o1
    · exact o1
theorem exW_wf {ss : List Stg} (G : GoodS ss) {w w' : Wd} {v : V} {q : Deed} (h : WF ss w) (e : exW ss w q = .ok (v, w')) : WF ss w' := by
  cases q with
  | go n =>
    unfold exW at e
    dsimp only at e
    split at e
    · cases e
    · split at e
      · cases e
      · split at e
        · cases e
          exact runN_wf G _ h
        · cases e
          exact h
  | press b =>
    unfold exW at e
    dsimp only at e
    split at e
    · cases e
    · rename_i hf
      split at e
      · cases e
        have S := h.okS hf w.turn
        have P := press_ok G S
        obtain ⟨turn, runs, fallen, total, d0, d1⟩ := w
        cases turn
        · exact ⟨P.cur, h.in1, fun _ => P, h.ok1⟩
        · exact ⟨h.in0, P.cur, h.ok0, fun _ => P⟩
      · cases e
  | start =>
    unfold exW at e
    dsimp only at e
    split at e
    · cases e
    · split at e
      · cases e
      · cases e
        exact ⟨h.in0, h.in1, h.ok0, h.ok1⟩
  | stop =>
    unfold exW at e
    dsimp only at e
    split at e
    · cases e
    · split at e
      · cases e
        exact ⟨h.in0, h.in1, h.ok0, h.ok1⟩
      · cases e
  | give b n =>
    unfold exW at e
    dsimp only at e
    split at e
    · cases e
    · rename_i hf
      split at e
      · cases e
      · split at e
        · rename_i c
          cases e
          have S := h.okS hf b
          have o1 : SOk ss { w.side b with ticks := (w.side b).ticks + n } := ⟨S.cur, c.1, S.per, S.use⟩
          obtain ⟨turn, runs, fallen, total, d0, d1⟩ := w
          cases b
          · exact ⟨o1.cur, h.in1, fun _ => o1, h.ok1⟩
          · exact ⟨h.in0, o1.cur, h.ok0, fun _ => o1⟩
        · cases e
def wd0 (ss : List Stg) : Wd := ⟨false, false, none, 0, side0 (ss.getD 0 (.over 1 1)), side0 (ss.getD 0 (.over 1 1))⟩
theorem wd0_wf {ss : List Stg} (G : GoodS ss) : WF ss (wd0 ss) := by
  have h0 : ss[0]? = some (ss.getD 0 (.over 1 1)) := by
    rw [List.getD_eq_getElem?_getD, List.getElem?_eq_getElem G.1]
    rfl
  have o : SOk ss (side0 (ss.getD 0 (.over 1 1))) := begin_ok G h0 (Int.le_refl 0) (Int.le_refl 0)
  exact ⟨o.cur, o.cur, fun _ => o, fun _ => o⟩
theorem exW_start {ss : List Stg} {w : Wd} (hf : w.fallen = none) : exW ss w .start = if w.runs = true then .error .n else .ok (.non, { w with runs := true }) := by
  unfold exW
  dsimp only
  split
  · rename_i h
    rw [hf] at h
    cases h
  · rfl
theorem exW_startO {ss : List Stg} {w : Wd} {f : Bool} (hf : w.fallen = some f) : exW ss w .start = .error .o := by
  unfold exW
  dsimp only
  split
  · rfl
  · rename_i h
    rw [hf] at h
    cases h
theorem exW_stop {ss : List Stg} {w : Wd} (hf : w.fallen = none) : exW ss w .stop = if w.runs = true then .ok (.non, { w with runs := false }) else .error .n := by
  unfold exW
  dsimp only
  split
  · rename_i h
    rw [hf] at h
    cases h
  · rfl
theorem exW_stopO {ss : List Stg} {w : Wd} {f : Bool} (hf : w.fallen = some f) : exW ss w .stop = .error .o := by
  unfold exW
  dsimp only
  split
  · rfl
  · rename_i h
    rw [hf] at h
    cases h
theorem exW_press {ss : List Stg} {w : Wd} {b : Bool} (hf : w.fallen = none) : exW ss w (.press b) = if w.runs = true ∧ b = w.turn then .ok (.non, { w.put w.turn (pressOf ss (curS ss (w.side w.turn)) (w.side w.turn)) with turn := !w.turn }) else .error .n := by
  unfold exW
  dsimp only
  split
  · rename_i h
    rw [hf] at h
    cases h
  · rfl
theorem exW_pressO {ss : List Stg} {w : Wd} {b : Bool} {f : Bool} (hf : w.fallen = some f) : exW ss w (.press b) = .error .o := by
  unfold exW
  dsimp only
  split
  · rfl
  · rename_i h
    rw [hf] at h
    cases h
theorem exW_give {ss : List Stg} {w : Wd} {b : Bool} {n : Int} (hf : w.fallen = none) : exW ss w (.give b n) = if w.runs = true then .error .n else if 1 ≤ (w.side b).ticks + n ∧ (w.side b).ticks + n ≤ 10000000 then .ok (.non, w.put b { w.side b with ticks := (w.side b).ticks + n }) else .error .t := by
  unfold exW
  dsimp only
  split
  · rename_i h
    rw [hf] at h
    cases h
  · rfl
theorem exW_giveO {ss : List Stg} {w : Wd} {b : Bool} {n : Int} {f : Bool} (hf : w.fallen = some f) : exW ss w (.give b n) = .error .o := by
  unfold exW
  dsimp only
  split
  · rfl
  · rename_i h
    rw [hf] at h
    cases h
theorem exW_go0 {ss : List Stg} {w : Wd} {n : Int} (hn : n < 0) : exW ss w (.go n) = .error .t := if_pos hn
theorem exW_goO {ss : List Stg} {w : Wd} {n : Int} {f : Bool} (hn : ¬ n < 0) (hf : w.fallen = some f) : exW ss w (.go n) = .error .o := by
  refine (if_neg hn).trans ?_
  rw [hf]
theorem exW_go {ss : List Stg} {w : Wd} {n : Int} (hn : ¬ n < 0) (hf : w.fallen = none) : exW ss w (.go n) = if w.runs = true then .ok (.int ((runN ss n.toNat w).total - w.total), runN ss n.toNat w) else .ok (.int n, w) := by
  refine (if_neg hn).trans ?_
  rw [hf]
/-! ### a clock in the heap -/
structure CAdr where
  p : Addr
  dx : Addr
  lb : Addr
  q0 : Addr
  dx0 : Addr
  l0 : Addr
  q1 : Addr
  dx1 : Addr
  l1 : Addr
  as : List Addr
def CAdr.q (R : CAdr) (b : Bool) : Addr := match b with
  | true => R.q1
  | false => R.q0
def CAdr.dxs (R : CAdr) (b : Bool) : Addr := match b with
  | true => R.dx1
  | false => R.dx0
def CAdr.l (R : CAdr) (b : Bool) : Addr := match b with
  | true => R.l1
  | false => R.l0
@[reducible] def fv : Option Bool → V
  | none => .non
  | some b => .int (ti b)
def cf (lb : Addr) (w : Wd) : List (Str × V) := [("both", .ref lb), ("turn", .int (ti w.turn)), ("runs", .bl w.runs), ("fallen", fv w.fallen), ("total", .int w.total)]
structure ClockAt (CC CS : Addr) (H : Hp) (R : CAdr) (ss : List Stg) (w : Wd) : Prop where
  ob : H R.p = some (.ins CC R.dx (cf R.lb w))
  lst : H R.lb = some (.lst [.ref R.q0, .ref R.q1])
  sd : ∀ b, H (R.q b) = some (.ins CS (R.dxs b) (sf (R.l b) (w.side b)))
  st : ∀ b, StL H (R.l b) R.as ss
  ne : ∀ b, R.p ≠ R.q b
  n01 : R.q0 ≠ R.q1
/-- what stood elsewhere stands -/
def Fr (H H' : Hp) (R : CAdr) : Prop := ∀ b o, H b = some o → b ≠ R.p → b ≠ R.q0 → b ≠ R.q1 → H' b = some o
theorem Fr.refl (H : Hp) (R : CAdr) : Fr H H R := fun _ _ e _ _ _ => e
theorem Fr.q {H H' : Hp} {R : CAdr} {b : Bool} {o : HO} (f : Fr H H' R) : Fr H (upd H' (R.q b) o) R := fun c u e h1 h2 h3 => by
  rw [upd_ne (by cases b; exact h2; exact h3)]
  exact f c u e h1 h2 h3
theorem Fr.p {H H' : Hp} {R : CAdr} {o : HO} (f : Fr H H' R) : Fr H (upd H' R.p o) R := fun c u e h1 h2 h3 => by
  rw [upd_ne h1]
  exact f c u e h1 h2 h3
section
variable {CC CS : Addr} {H : Hp} {R : CAdr} {ss : List Stg} {w w' : Wd}
theorem ClockAt.sideS (c : ClockAt CC CS H R ss w) (b : Bool) (h : (w.side b).at_ < ss.length) : SideS CS H (R.q b) (R.dxs b) (R.l b) R.as ss (w.side b) (curS ss (w.side b)) := ⟨c.sd b, c.st b, cur_get h⟩
theorem ClockAt.put (c : ClockAt CC CS H R ss w) (b : Bool) (d : Sd) : ClockAt CC CS (upd H (R.q b) (.ins CS (R.dxs b) (sf (R.l b) d))) R ss (w.put b d) := by
  refine ⟨?_, ?_, fun b' => ?_, fun b' => (c.st b').upd (c.sd b), c.ne, c.n01⟩
  · rw [upd_ne (c.ne b)]
    have e : cf R.lb (w.put b d) = cf R.lb w := by cases b <;> rfl
    rw [e]
    exact c.ob
  · rw [upd_ne (ne_of c.lst (c.sd b) (by intro z; cases z))]
    exact c.lst
  · cases b <;> cases b'
    · exact upd_same
    · exact (upd_ne (Ne.symm c.n01)).trans (c.sd true)
    · exact (upd_ne c.n01).trans (c.sd false)
    · exact upd_same
theorem ClockAt.setp (c : ClockAt CC CS H R ss w) (h : ∀ b, w'.side b = w.side b) : ClockAt CC CS (upd H R.p (.ins CC R.dx (cf R.lb w'))) R ss w' := by
  refine ⟨upd_same, ?_, fun b' => ?_, fun b' => (c.st b').upd c.ob, c.ne, c.n01⟩
  · rw [upd_ne (ne_of c.lst c.ob (by intro z; cases z))]
    exact c.lst
  · rw [upd_ne (Ne.symm (c.ne b')), h b']
    exact c.sd b'
theorem ClockAt.cast (c : ClockAt CC CS H R ss w) (h : w = w') : ClockAt CC CS H R ss w' := h ▸ c
theorem at_both (R : CAdr) (b : Bool) : atI [V.ref R.q0, V.ref R.q1] (ti b) = some (.ref (R.q b)) := by cases b <;> rfl
end
def kc (cT cN cO : Addr) : Kd → Addr
  | .t => cT
  | .n => cN
  | .o => cO
/-- how a method ends -/
def outC (CC CS cT cN cO : Addr) (R : CAdr) (ss : List Stg) (H : Hp) (Q : VK) (E : XK) : Except Kd (V × Wd) → Prop
  | .ok (v, w') => ∀ H', ClockAt CC CS H' R ss w' → Fr H H' R → Q v H'
  | .error k => E (.ref (kc cT cN cO k)) none H
def spLook (CC cO : Addr) : Sp := fun vs H Q E => ∃ p dx lb, ∃ w : Wd, vs = [.ref p] ∧ H p = some (.ins CC dx (cf lb w)) ∧ (w.fallen = none → Q .non H) ∧ (∀ b, w.fallen = some b → E (.ref cO) none H)
def spStart (CC CS cT cN cO : Addr) : Sp := fun vs H Q E => ∃ R ss w, vs = [.ref R.p] ∧ ClockAt CC CS H R ss w ∧ outC CC CS cT cN cO R ss H Q E (exW ss w .start)
def spStop (CC CS cT cN cO : Addr) : Sp := fun vs H Q E => ∃ R ss w, vs = [.ref R.p] ∧ ClockAt CC CS H R ss w ∧ outC CC CS cT cN cO R ss H Q E (exW ss w .stop)
def spGo (CC CS cT cN cO : Addr) : Sp := fun vs H Q E => ∃ R ss w n, vs = [.ref R.p, .int n] ∧ ClockAt CC CS H R ss w ∧ GoodS ss ∧ WF ss w ∧ outC CC CS cT cN cO R ss H Q E (exW ss w (.go n))
def spPress (CC CS cT cN cO : Addr) : Sp := fun vs H Q E => ∃ R ss w b, vs = [.ref R.p, .int (ti b)] ∧ ClockAt CC CS H R ss w ∧ GoodS ss ∧ WF ss w ∧ outC CC CS cT cN cO R ss H Q E (exW ss w (.press b))
def spGive (CC CS cT cN cO : Addr) : Sp := fun vs H Q E => ∃ R ss w b n, vs = [.ref R.p, .int (ti b), .int n] ∧ ClockAt CC CS H R ss w ∧ outC CC CS cT cN cO R ss H Q E (exW ss w (.give b n))
/-- what is told of a side, of the game -/
def stT (d : Sd) : List V := [.int d.ticks, .int d.periods, .int d.moved, .int d.at_, .int d.used]
def gmT (w : Wd) : List V := [.int (ti w.turn), .bl w.runs, fv w.fallen, .int w.total]
def spState (CC CS : Addr) : Sp := fun vs H Q _ => ∃ R ss w b, vs = [.ref R.p, .int (ti b)] ∧ ClockAt CC CS H R ss w ∧ ∀ t, H t = none → Q (.ref t) (upd H t (.tup (stT (w.side b))))
def spGame (CC CS : Addr) : Sp := fun vs H Q _ => ∃ R ss w, vs = [.ref R.p] ∧ ClockAt CC CS H R ss w ∧ ∀ t, H t = none → Q (.ref t) (upd H t (.tup (gmT w)))
section
variable {P : Program} {w : World} {K : PySem.W.Frag} {mg : Str → Option Value} {base : Heap} {CS CC cE cB cT cN cO aW : Addr} (T : Txt K mg CS CC cE cB cT cN cO aW)
include T
theorem ok_look (d : MDef K CC "look" "Clock.look" s_Clock_look ["self"]) : MetX P w K mg base (L2.CX P w) 1 CC "look" (spLook CC cO) := by
  refine MetX.ofX d T.clC sc_Clock_look (fun vs H Q E h => ?_) (fun f cdv A outer s H vs Q E hr h => ?_)
  · obtain ⟨p, dx, lb, w, rfl, _⟩ := h
    rfl
  · obtain ⟨p, dx, lb, w, rfl, hp, q1, q2⟩ := h
    refine ⟨_, (pss_one (ps_if (pt_cmpR op_notN (pe_fld (pv 0) rfl) pe_non (nomark _)) (pss_one (ps_raise rfl (takes_of rfl rfl rfl rfl) (pmk_own PySem.F.excBase_ValueError T.eO.x T.g_Over T.eO.k (raises_own T.eO.s T.eO.t) (by exact rfl)))) pss_nil)), ?_⟩
    walk_at "rd"
    cases hf : w.fallen with
    | none =>
      walk_at "rd"
      exact q1 hf
    | some b =>
      walk_at "rd"
      exact q2 b hf
theorem ok_start (c_Clock_look : MetX P w K mg base (L2.CX P w) 1 CC "look" (spLook CC cO)) (d : MDef K CC "start" "Clock.start" s_Clock_start ["self"]) : MetX P w K mg base (L2.CX P w) 2 CC "start" (spStart CC CS cT cN cO) := by
  refine MetX.ofX d T.clC sc_Clock_start (fun vs H Q E h => ?_) (fun f cdv A outer s H vs Q E hr h => ?_)
  · obtain ⟨R, ss, w, rfl, _⟩ := h
    rfl
  · obtain ⟨R, ss, w, rfl, c, q⟩ := h
    refine ⟨_, (pss_cons (ps_expr (pe_mtX0 c_Clock_look hr (by decide) (passes_call (takes_of rfl rfl rfl rfl) (fun _ _ _ _ h => h)) (pv 0)))
 (pss_cons (ps_if (pt_val (pe_fld (pv 0) rfl)) (pss_one (ps_raise rfl (takes_of rfl rfl rfl rfl) (pmk_own PySem.F.excBase_ValueError T.eN.x T.g_NotNow T.eN.k (raises_own T.eN.s T.eN.t) (by exact rfl)))) pss_nil)
 (pss_one (ps_fld (pv 0) pe_bl rfl)))), ?_⟩
    have hp := c.ob
    walk_at "rd"
    refine ⟨R.p, R.dx, R.lb, w, rfl, hp, fun hf => ?_, fun b hf => ?_⟩
    · rw [exW_start hf] at q
      walk_at "rd"
      by_cases hr1 : w.runs = true
      · rw [if_pos hr1] at q
        walk_at "rd"
        exact q
      · rw [if_neg hr1] at q
        have hr2 : w.runs = false := by simpa using hr1
        walk_at "rd"
        exact q _ (c.setp (w' := { w with runs := true }) (fun b => by cases b <;> rfl)) (Fr.refl _ _).p
    · rw [exW_startO hf] at q
      exact q
theorem ok_stop (c_Clock_look : MetX P w K mg base (L2.CX P w) 1 CC "look" (spLook CC cO)) (d : MDef K CC "stop" "Clock.stop" s_Clock_stop ["self"]) : MetX P w K mg base (L2.CX P w) 2 CC "stop" (spStop CC CS cT cN cO) := by
  refine MetX.ofX d T.clC sc_Clock_stop (fun vs H Q E h => ?_) (fun f cdv A outer s H vs Q E hr h => ?_)
  · obtain ⟨R, ss, w, rfl, _⟩ := h
    rfl
  · obtain ⟨R, ss, w, rfl, c, q⟩ := h
    refine ⟨_, (pss_cons (ps_expr (pe_mtX0 c_Clock_look hr (by decide) (passes_call (takes_of rfl rfl rfl rfl) (fun _ _ _ _ h => h)) (pv 0)))
 (pss_cons (ps_if (pt_not (pt_val (pe_fld (pv 0) rfl))) (pss_one (ps_raise rfl (takes_of rfl rfl rfl rfl) (pmk_own PySem.F.excBase_ValueError T.eN.x T.g_NotNow T.eN.k (raises_own T.eN.s T.eN.t) (by exact rfl)))) pss_nil)
 (pss_one (ps_fld (pv 0) pe_bl rfl)))), ?_⟩
    have hp := c.ob
    walk_at "rd"
    refine ⟨R.p, R.dx, R.lb, w, rfl, hp, fun hf => ?_, fun b hf => ?_⟩
    · rw [exW_stop hf] at q
      walk_at "rd"
      by_cases hr1 : w.runs = true
      · rw [if_pos hr1] at q
        walk_at "rd"
        exact q _ (c.setp (w' := { w with runs := false }) (fun b => by cases b <;> rfl)) (Fr.refl _ _).p
      · rw [if_neg hr1] at q
        have hr2 : w.runs = false := by simpa using hr1
        walk_at "rd"
        exact q
    · rw [exW_stopO hf] at q
      exact q
theorem ok_state (d : MDef K CC "state" "Clock.state" s_Clock_state ["self", "who"]) : MetX P w K mg base CX0 1 CC "state" (spState CC CS) := by
  refine MetX.of0 d T.clC sc_Clock_state (fun vs H Q E h => ?_) (fun f cdv A outer s H vs Q E hr h => ?_)
  · obtain ⟨R, ss, w, b, rfl, _⟩ := h
    rfl
  · obtain ⟨R, ss, w, b, rfl, c, q⟩ := h
    refine ⟨_, (pss_cons (ps_set (i := 2) sc_Clock_state.nd rfl (Or.inl rfl) (pe_ix ix_list (pe_fld (pv 0) rfl) (pv 1) (fun _ _ => rfl)))
 (pss_one (ps_ret (pe_tup (pa_cons (pe_fld (pv 2) rfl) (pa_cons (pe_fld (pv 2) rfl) (pa_cons (pe_fld (pv 2) rfl) (pa_cons (pe_fld (pv 2) rfl) (pa_cons (pe_fld (pv 2) rfl) pa_nil))))))))), ?_⟩
    have hp := c.ob
    have hl := c.lst
    have hs := c.sd b
    have hx := at_both R b
    walk_at "rd"
    exact q
theorem ok_game (d : MDef K CC "game" "Clock.game" s_Clock_game ["self"]) : MetX P w K mg base CX0 1 CC "game" (spGame CC CS) := by
  refine MetX.of0 d T.clC sc_Clock_game (fun vs H Q E h => ?_) (fun f cdv A outer s H vs Q E hr h => ?_)
  · obtain ⟨R, ss, w, rfl, _⟩ := h
    rfl
  · obtain ⟨R, ss, w, rfl, c, q⟩ := h
    refine ⟨_, (pss_one (ps_ret (pe_tup (pa_cons (pe_fld (pv 0) rfl) (pa_cons (pe_fld (pv 0) rfl) (pa_cons (pe_fld (pv 0) rfl) (pa_cons (pe_fld (pv 0) rfl) pa_nil))))))), ?_⟩
    have hp := c.ob
    walk_at "rd"
    exact q
theorem ok_press (c_Clock_look : MetX P w K mg base (L2.CX P w) 1 CC "look" (spLook CC cO)) (c_Side_press : MetX P w K mg base CX0 4 CS "press" (spPressS CS)) (d : MDef K CC "press" "Clock.press" s_Clock_press ["self", "who"]) : MetX P w K mg base (L2.CX P w) 5 CC "press" (spPress CC CS cT cN cO) := by
  refine MetX.ofX d T.clC sc_Clock_press (fun vs H Q E h => ?_) (fun f cdv A outer s H vs Q E hr h => ?_)
  · obtain ⟨R, ss, w, b, rfl, _⟩ := h
    rfl
  · obtain ⟨R, ss, w, b, rfl, c, G, hw, q⟩ := h
    refine ⟨_, (pss_cons (ps_expr (pe_mtX0 c_Clock_look hr (by decide) (passes_call (takes_of rfl rfl rfl rfl) (fun _ _ _ _ h => h)) (pv 0)))
 (pss_cons (ps_if (PW.pt (pw_or (pt_not (pt_val (pe_fld (pv 0) rfl))) (pw_or1 (pt_cmpR op_ne (pv 1) (pe_fld (pv 0) rfl) (nomark _))))) (pss_one (ps_raise rfl (takes_of rfl rfl rfl rfl) (pmk_own PySem.F.excBase_ValueError T.eN.x T.g_NotNow T.eN.k (raises_own T.eN.s T.eN.t) (by exact rfl)))) pss_nil)
 (pss_cons (ps_expr (pe_mtX0 c_Side_press hr (by decide) pass0 (pe_ix ix_list (pe_fld (pv 0) rfl) (pv 1) (fun _ _ => rfl))))
 (pss_one (ps_fld (pv 0) (pe_op op_sub pe_int (pv 1)) rfl))))), ?_⟩
    have hp := c.ob
    have hl := c.lst
    walk_at "rd"
    refine ⟨R.p, R.dx, R.lb, w, rfl, hp, fun hf => ?_, fun b2 hf => ?_⟩
    · rw [exW_press hf] at q
      walk_at "rd"
      by_cases hr1 : w.runs = true
      · walk_at "rd"
        by_cases hb : b = w.turn
        · subst hb
          rw [if_pos ⟨hr1, rfl⟩] at q
          have ht : ti w.turn = ti w.turn := rfl
          walk_at "rd"
          have hs := c.sd w.turn
          have hx := at_both R w.turn
          walk_at "rd"
          have hin := hw.inS w.turn
          have SS := c.sideS w.turn hin
          refine ⟨R.q w.turn, R.dxs w.turn, R.l w.turn, R.as, ss, _, _, rfl, SS, fun m t wy e hm => ?_, ?_⟩
          · have g := G.2 _ _ (cur_get hin)
            rw [hm] at g
            exact g.2.2 (by intro z; cases z)
          · have c1 := c.put w.turn (pressOf ss (curS ss (w.side w.turn)) (w.side w.turn))
            have hp1 := c1.ob
            walk_at "rd"
            have c2 := c1.setp (w' := { w.put w.turn (pressOf ss (curS ss (w.side w.turn)) (w.side w.turn)) with turn := !w.turn }) (fun b => by cases b <;> rfl)
            have et : cf R.lb { w.put w.turn (pressOf ss (curS ss (w.side w.turn)) (w.side w.turn)) with turn := !w.turn } = putF "turn" (.int (1 - ti w.turn)) (cf R.lb (w.put w.turn (pressOf ss (curS ss (w.side w.turn)) (w.side w.turn)))) := by
              obtain ⟨turn, runs, fallen, total, d0, d1⟩ := w
              cases turn <;> rfl
            rw [et] at c2
            exact q _ c2 (Fr.refl _ _).q.p
        · rw [if_neg (fun z => hb z.2)] at q
          have ht : ¬ ti b = ti w.turn := fun z => hb (by cases b <;> cases h2 : w.turn <;> rw [h2] at z <;> first | rfl | cases z)
          walk_at "rd"
          exact q
      · rw [if_neg (fun z => hr1 z.1)] at q
        have hr2 : w.runs = false := by simpa using hr1
        walk_at "rd"
        exact q
    · rw [exW_pressO hf] at q
      exact q
theorem ok_give (c_Clock_look : MetX P w K mg base (L2.CX P w) 1 CC "look" (spLook CC cO)) (d : MDef K CC "give" "Clock.give" s_Clock_give ["self", "who", "ticks"]) : MetX P w K mg base (L2.CX P w) 2 CC "give" (spGive CC CS cT cN cO) := by
  refine MetX.ofX d T.clC sc_Clock_give (fun vs H Q E h => ?_) (fun f cdv A outer s H vs Q E hr h => ?_)
  · obtain ⟨R, ss, w, b, n, rfl, _⟩ := h
    rfl
  · obtain ⟨R, ss, w, b, n, rfl, c, q⟩ := h
    refine ⟨_, (pss_cons (ps_expr (pe_mtX0 c_Clock_look hr (by decide) (passes_call (takes_of rfl rfl rfl rfl) (fun _ _ _ _ h => h)) (pv 0)))
 (pss_cons (ps_if (pt_val (pe_fld (pv 0) rfl)) (pss_one (ps_raise rfl (takes_of rfl rfl rfl rfl) (pmk_own PySem.F.excBase_ValueError T.eN.x T.g_NotNow T.eN.k (raises_own T.eN.s T.eN.t) (by exact rfl)))) pss_nil)
 (pss_cons (ps_set (i := 3) sc_Clock_give.nd rfl (Or.inl rfl) (pe_ix ix_list (pe_fld (pv 0) rfl) (pv 1) (fun _ _ => rfl)))
 (pss_cons (ps_if (pt_not (pt_chain op_le op_le pe_int (pe_op op_add (pe_fld (pv 3) rfl) (pv 2)) (pe_op op_mul pe_int (C8.pe_gc rfl T.g_MOST_TICKS)))) (pss_one (ps_raise rfl (takes_of rfl rfl rfl rfl) (pmk_own PySem.F.excBase_ValueError T.eT.x T.g_BadTicks T.eT.k (raises_own T.eT.s T.eT.t) (by exact rfl)))) pss_nil)
 (pss_one (ps_fld (pv 3) (pe_op op_add (pe_fld (pv 3) rfl) (pv 2)) rfl)))))), ?_⟩
    have hp := c.ob
    have hl := c.lst
    have hs := c.sd b
    have hx := at_both R b
    walk_at "rd"
    refine ⟨R.p, R.dx, R.lb, w, rfl, hp, fun hf => ?_, fun b2 hf => ?_⟩
    · rw [exW_give hf] at q
      walk_at "rd"
      by_cases hr1 : w.runs = true
      · rw [if_pos hr1] at q
        walk_at "rd"
        exact q
      · rw [if_neg hr1] at q
        have hr2 : w.runs = false := by simpa using hr1
        walk_at "rd"
        by_cases h1 : 1 ≤ (w.side b).ticks + n
        · by_cases h2 : (w.side b).ticks + n ≤ 10000000
          · rw [if_pos ⟨h1, h2⟩] at q
            walk_at "rd"
            exact q _ (c.put b { w.side b with ticks := (w.side b).ticks + n }) (Fr.refl _ _).q
          · rw [if_neg (fun z => h2 z.2)] at q
            walk_at "rd"
            exact q
        · rw [if_neg (fun z => h1 z.1)] at q
          walk_at "rd"
          exact q
    · rw [exW_giveO hf] at q
      exact q
theorem ok_go (c_Clock_look : MetX P w K mg base (L2.CX P w) 1 CC "look" (spLook CC cO)) (c_Side_until : MetX P w K mg base CX0 4 CS "until" (spUntil CS)) (c_Side_pass_by : MetX P w K mg base CX0 4 CS "pass_by" (spPassBy CS)) (c_Side_falls : MetX P w K mg base CX0 4 CS "falls" (spFalls CS))
    (d : MDef K CC "go" "Clock.go" s_Clock_go ["self", "ticks"]) : MetX P w K mg base (L2.CX P w) 5 CC "go" (spGo CC CS cT cN cO) := by
  refine MetX.ofX d T.clC sc_Clock_go (fun vs H Q E h => ?_) (fun f cdv A outer s H vs Q E hr h => ?_)
  · obtain ⟨R, ss, w, n, rfl, _⟩ := h
    rfl
  · obtain ⟨R, ss, w, n, rfl, c, G, hw, q⟩ := h
    refine ⟨_, (pss_cons (ps_if (pt_cmpR op_lt (pv 1) pe_int (nomark _)) (pss_one (ps_raise rfl (takes_of rfl rfl rfl rfl) (pmk_own PySem.F.excBase_ValueError T.eT.x T.g_BadTicks T.eT.k (raises_own T.eT.s T.eT.t) (by exact rfl)))) pss_nil)
 (pss_cons (ps_expr (pe_mtX0 c_Clock_look hr (by decide) (passes_call (takes_of rfl rfl rfl rfl) (fun _ _ _ _ h => h)) (pv 0)))
 (C8.pss_cut (ps_set (i := 2) sc_Clock_go.nd rfl (Or.inl rfl) (pe_ifExp (pt_val (pe_fld (pv 0) rfl)) (pv 1) pe_int))
 (pss_cons (ps_set (i := 3) sc_Clock_go.nd rfl (Or.inl rfl) (pe_ix ix_list (pe_fld (pv 0) rfl) (pe_fld (pv 0) rfl) (fun _ _ => rfl)))
 (pss_cons (ps_while (passes_of rfl) (PW.pt (pw_and (pt_cmpR op_gt (pv 2) pe_int (nomark _)) (pw_and1 (pt_cmpR op_isN (pe_fld (pv 0) rfl) pe_non (nomark _))))) (pss_cons (ps_set (i := 4) sc_Clock_go.nd rfl (Or.inl rfl) (pe_callB (call_min2 rfl) (by rfl) T.b_min (by decide +kernel) (pa_cons (pv 2) (pa_cons (pe_mtX0 c_Side_until hr (by decide) pass0 (pv 3)) pa_nil))))
 (pss_cons (ps_expr (pe_mtX c_Side_pass_by hr (by decide) pass0 (pv 3) (pa_cons (pv 4) pa_nil)))
 (pss_cons (ps_set (i := 2) sc_Clock_go.nd rfl (Or.inl rfl) (pe_op op_sub (pv 2) (pv 4)))
 (pss_cons (ps_fld (pv 0) (pe_op op_add (pe_fld (pv 0) rfl) (pv 4)) rfl)
 (pss_one (ps_if (PW.pt (pw_and (pt_cmpR op_eq (pe_mtX0 c_Side_until hr (by decide) pass0 (pv 3)) pe_int (nomark _)) (pw_and1 (pt_val (pe_mtX0 c_Side_falls hr (by decide) pass0 (pv 3)))))) (pss_cons (ps_fld (pv 0) (pe_fld (pv 0) rfl) rfl)
 (pss_one (ps_fld (pv 0) pe_bl rfl))) pss_nil)))))))
 (pss_one (ps_ret (pe_op op_sub (pv 1) (pv 2))))))))), ?_⟩
    have hp := c.ob
    have hl := c.lst
    walk_at "rd"
    by_cases hn : n < 0
    · rw [exW_go0 hn] at q
      walk_at "rd"
      exact q
    · walk_at "rd"
      refine ⟨R.p, R.dx, R.lb, w, rfl, hp, fun hf => ?_, fun b2 hf => ?_⟩
      · rw [exW_go hn hf] at q
        walk_at "rd"
        obtain ⟨L, hL, hL0, hLq⟩ : ∃ L : Int, (if w.runs = true then n else 0) = L ∧ 0 ≤ L ∧ (∀ H', ClockAt CC CS H' R ss (runN ss L.toNat w) → Fr H H' R → Q (.int (n - L + ((runN ss L.toNat w).total - w.total))) H') := by
          refine ⟨_, rfl, ?_, ?_⟩
          · split <;> omega
          · by_cases hr1 : w.runs = true
            · rw [if_pos hr1] at q ⊢
              intro H' c' f'
              have e : n - n + ((runN ss n.toNat w).total - w.total) = (runN ss n.toNat w).total - w.total := by omega
              rw [e]
              exact q H' c' f'
            · rw [if_neg hr1] at q ⊢
              intro H' c' f'
              have e : n - 0 + ((runN ss (0 : Int).toNat w).total - w.total) = n := by
                show n - 0 + (w.total - w.total) = n
                omega
              rw [e]
              exact q H' c' f'
        refine k_cut (fun σ' H' => σ' = [some (.ref R.p), some (.int n), some (.int L), none, none] ∧ H' = H) ?_ ?_
        · by_cases hr1 : w.runs = true
          · rw [if_pos hr1] at hL
            subst hL
            walk_at "rd"
            exact ⟨rfl, rfl⟩
          · rw [if_neg hr1] at hL
            subst hL
            have hr2 : w.runs = false := by simpa using hr1
            walk_at "rd"
            exact ⟨rfl, rfl⟩
        · rintro σ' H' ⟨rfl, eH⟩
          have eH2 := eH.symm
          subst eH2
          have hx := at_both R w.turn
          walk_at "rd"
          refine ⟨fun m σ H' => ∃ (left : Int) (w' : Wd) (mv : Option V), σ = [some (.ref R.p), some (.int n), some (.int left), some (.ref (R.q w.turn)), mv] ∧ m = left.toNat ∧ 0 ≤ left ∧ ClockAt CC CS H' R ss w' ∧ Fr H H' R ∧ WF ss w' ∧ w'.turn = w.turn ∧ runN ss left.toNat w' = runN ss L.toNat w ∧ w'.total + left = w.total + L,
            ⟨_, L, w, none, rfl, rfl, hL0, c, Fr.refl _ _, hw, rfl, rfl, rfl⟩, ?_⟩
          rintro m σ H1 ⟨left, w', mv, rfl, rfl, h0, c1, f1, wf1, ht, hrun, htot⟩
          have hp1 := c1.ob
          walk_at "rd"
          have fin : runN ss left.toNat w' = w' → (n - left = n - L + ((runN ss L.toNat w).total - w.total)) := by
            intro e
            rw [← hrun, e]
            omega
          by_cases hlp : 0 < left
          · walk_at "rd"
            cases hf1 : w'.fallen with
            | some b =>
              walk_at "rd"
              have e1 := runN_fallen (ss := ss) hf1 left.toNat
              rw [fin e1]
              refine hLq H1 ?_ f1
              rw [← hrun, e1]
              exact c1
            | none =>
              walk_at "rd"
              have S1 := c1.sideS w.turn (wf1.inS w.turn)
              have O1 := wf1.okS hf1 w.turn
              have f0 := free_nonneg (curS ss (w'.side w.turn)) (w'.side w.turn)
              have p0 := O1.pos
              have hs1 := S1.ob
              obtain ⟨many, hmany, hm1, hm2, hm3⟩ : ∃ many : Int, (if freeOf (curS ss (w'.side w.turn)) (w'.side w.turn) + (w'.side w.turn).ticks < left then freeOf (curS ss (w'.side w.turn)) (w'.side w.turn) + (w'.side w.turn).ticks else left) = many ∧ 1 ≤ many ∧ many ≤ left ∧ many ≤ freeOf (curS ss (w'.side w.turn)) (w'.side w.turn) + (w'.side w.turn).ticks := by
                refine ⟨_, rfl, ?_⟩
                split <;> omega
              refine ⟨fun σ2 H2 => ∃ (left2 : Int) (w2 : Wd) (mv2 : Option V), σ2 = [some (.ref R.p), some (.int n), some (.int left2), some (.ref (R.q w.turn)), mv2] ∧ left2 < left ∧ 0 ≤ left2 ∧ ClockAt CC CS H2 R ss w2 ∧ Fr H H2 R ∧ WF ss w2 ∧ w2.turn = w.turn ∧ runN ss left2.toNat w2 = runN ss L.toNat w ∧ w2.total + left2 = w.total + L, ?_, ?_⟩
              · rintro σ2 H2 ⟨left2, w2, mv2, rfl, hlt, h02, r⟩
                exact ⟨_, (by omega), left2, w2, mv2, rfl, rfl, h02, r⟩
              · walk_at "rd"
                refine ⟨R.q w.turn, R.dxs w.turn, R.l w.turn, R.as, ss, _, _, rfl, S1, ?_⟩
                walk_at "rd"
                rw [hmany]
                refine ⟨R.q w.turn, R.dxs w.turn, R.l w.turn, R.as, ss, _, _, _, rfl, S1, ?_⟩
                have c2 := c1.put w.turn (passBy (curS ss (w'.side w.turn)) (w'.side w.turn) many)
                have hp2 := c2.ob
                have hs2 : upd H1 (R.q w.turn) (.ins CS (R.dxs w.turn) (sf (R.l w.turn) (passBy (curS ss (w'.side w.turn)) (w'.side w.turn) many))) (R.q w.turn) = some (.ins CS (R.dxs w.turn) (sf (R.l w.turn) (passBy (curS ss (w'.side w.turn)) (w'.side w.turn) many))) := upd_same
                have nq : R.q w.turn ≠ R.p := Ne.symm (c1.ne w.turn)
                walk_at "rd"
                have c3 := c2.setp (w' := { w'.put w.turn (passBy (curS ss (w'.side w.turn)) (w'.side w.turn) many) with total := w'.total + many }) (fun b => by cases b <;> rfl)
                have et : cf R.lb { w'.put w.turn (passBy (curS ss (w'.side w.turn)) (w'.side w.turn) many) with total := w'.total + many } = putF "total" (.int (w'.total + many)) (cf R.lb (w'.put w.turn (passBy (curS ss (w'.side w.turn)) (w'.side w.turn) many))) := rfl
                have ep : (w'.put w.turn (passBy (curS ss (w'.side w.turn)) (w'.side w.turn) many)).total = w'.total := put_total ..
                rw [ep]
                have s3 : ({ w'.put w.turn (passBy (curS ss (w'.side w.turn)) (w'.side w.turn) many) with total := w'.total + many } : Wd).side w.turn = passBy (curS ss (w'.side w.turn)) (w'.side w.turn) many := by rw [side_tot, put_side]
                have S3 := c3.sideS w.turn (by rw [s3]; exact O1.cur)
                have cs3 : curS ss (passBy (curS ss (w'.side w.turn)) (w'.side w.turn) many) = curS ss (w'.side w.turn) := rfl
                rw [s3, cs3] at S3
                have hpass : runN ss (left - many).toNat (passW ss w' many) = runN ss L.toNat w := by
                  have e1 : ((many.toNat : Nat) : Int) = many := by omega
                  have e2 := passW_run (ss := ss) many.toNat w' hf1 (by rw [ht]; exact p0) (by omega) (by rw [ht, e1]; exact hm3)
                  rw [e1] at e2
                  rw [e2, ← runN_add, ← hrun]
                  congr 1
                  omega
                have hwf := passW_wf G wf1 hf1 (n := many) (by omega) (by rw [ht]; exact hm3)
                have htt := passW_total ss w' many
                have uz := until_zero (curS ss (w'.side w.turn)) (w'.side w.turn) p0 (n := many) (by omega) hm3
                have epw : passW ss w' many = evW ss w' (curS ss (w'.side w.turn)) (passBy (curS ss (w'.side w.turn)) (w'.side w.turn) many) (w'.total + many) := by
                  unfold passW
                  rw [ht]
                refine ⟨R.q w.turn, R.dxs w.turn, R.l w.turn, R.as, ss, _, _, rfl, S3, ?_⟩
                walk_at "rd"
                by_cases hz : freeOf (curS ss (w'.side w.turn)) (passBy (curS ss (w'.side w.turn)) (w'.side w.turn) many) + (passBy (curS ss (w'.side w.turn)) (w'.side w.turn) many).ticks = 0
                · walk_at "rd"
                  refine ⟨R.q w.turn, R.dxs w.turn, R.l w.turn, R.as, ss, _, _, rfl, S3, ?_⟩
                  have nt := uz.mp hz
                  have c4 := c3.put w.turn (fallsOf ss (curS ss (w'.side w.turn)) (passBy (curS ss (w'.side w.turn)) (w'.side w.turn) many)).2
                  have e4 : ({ w'.put w.turn (passBy (curS ss (w'.side w.turn)) (w'.side w.turn) many) with total := w'.total + many } : Wd).put w.turn (fallsOf ss (curS ss (w'.side w.turn)) (passBy (curS ss (w'.side w.turn)) (w'.side w.turn) many)).2 = { w'.put w.turn (fallsOf ss (curS ss (w'.side w.turn)) (passBy (curS ss (w'.side w.turn)) (w'.side w.turn) many)).2 with total := w'.total + many } := put_tot ..
                  rw [e4] at c4
                  have hp4 := c4.ob
                  by_cases c5 : (fallsOf ss (curS ss (w'.side w.turn)) (passBy (curS ss (w'.side w.turn)) (w'.side w.turn) many)).1 = true
                  · walk_at "rd"
                    have e5 : passW ss w' many = { w'.put w.turn (fallsOf ss (curS ss (w'.side w.turn)) (passBy (curS ss (w'.side w.turn)) (w'.side w.turn) many)).2 with total := w'.total + many, fallen := some w.turn, runs := false } := by
                      rw [epw]
                      unfold evW
                      rw [if_neg nt, if_pos c5, ht]
                    have c6 := c4.setp (w' := passW ss w' many) (fun b => by rw [e5]; cases b <;> rfl)
                    have e6 : cf R.lb (passW ss w' many) = putF "runs" (.bl false) (putF "fallen" (.int (ti (w'.put w.turn (fallsOf ss (curS ss (w'.side w.turn)) (passBy (curS ss (w'.side w.turn)) (w'.side w.turn) many)).2).turn)) (cf R.lb { w'.put w.turn (fallsOf ss (curS ss (w'.side w.turn)) (passBy (curS ss (w'.side w.turn)) (w'.side w.turn) many)).2 with total := w'.total + many })) := by
                      rw [e5]
                      have e7 : (w'.put w.turn (fallsOf ss (curS ss (w'.side w.turn)) (passBy (curS ss (w'.side w.turn)) (w'.side w.turn) many)).2).turn = w.turn := (put_turn ..).trans ht
                      rw [e7]
                      rfl
                    rw [e6] at c6
                    rw [upd2]
                    refine ⟨left - many, passW ss w' many, _, rfl, by omega, by omega, c6, f1.q.p.q.p, hwf, ?_, hpass, by omega⟩
                    rw [e5]
                    exact (put_turn ..).trans ht
                  · have c5' : (fallsOf ss (curS ss (w'.side w.turn)) (passBy (curS ss (w'.side w.turn)) (w'.side w.turn) many)).1 = false := by simpa using c5
                    walk_at "rd"
                    have e5 : passW ss w' many = { w'.put w.turn (fallsOf ss (curS ss (w'.side w.turn)) (passBy (curS ss (w'.side w.turn)) (w'.side w.turn) many)).2 with total := w'.total + many } := by
                      rw [epw]
                      unfold evW
                      rw [if_neg nt, if_neg c5, ht]
                    rw [← e5] at c4
                    refine ⟨left - many, passW ss w' many, _, rfl, by omega, by omega, c4, f1.q.p.q, hwf, ?_, hpass, by omega⟩
                    rw [e5]
                    exact (put_turn ..).trans ht
                · walk_at "rd"
                  have nt : (passBy (curS ss (w'.side w.turn)) (w'.side w.turn) many).ticks > 0 := Classical.byContradiction fun z => hz (uz.mpr z)
                  have e5 : passW ss w' many = { w'.put w.turn (passBy (curS ss (w'.side w.turn)) (w'.side w.turn) many) with total := w'.total + many } := by
                    rw [epw]
                    unfold evW
                    rw [if_pos nt, ht]
                  have c3' := c3.cast e5.symm
                  refine ⟨left - many, passW ss w' many, _, rfl, by omega, by omega, c3', f1.q.p, hwf, ?_, hpass, by omega⟩
                  rw [e5]
                  exact (put_turn ..).trans ht
          · walk_at "rd"
            have hl0 : left = 0 := by omega
            subst hl0
            have e1 : runN ss (0 : Int).toNat w' = w' := rfl
            rw [fin e1]
            refine hLq H1 ?_ f1
            rw [← hrun]
            exact c1
      · rw [exW_goO hn hf] at q
        exact q
end
/-! ### stages as they are handed in -/
inductive RS where
  | tri (w : Str) (p t : Int)
  | pent (w : Str) (m : Option Int) (t : Int) (way : Str) (e : Int)
def RS.vs : RS → List V
  | .tri w p t => [.str w, .int p, .int t]
  | .pent w m t way e => [.str w, mv m, .int t, .str way, .int e]
def RS.w : RS → Str
  | .tri w _ _ => w
  | .pent w _ _ _ _ => w
def Stg.rs : Stg → RS
  | .main m t w e => .pent "main" m t w e
  | .over p t => .tri "over" p t
theorem Stg.rs_vs (s : Stg) : s.rs.vs = s.vs := by cases s <;> rfl
abbrev ways4 : List V := [.str "plain", .str "add", .str "back", .str "wait"]
def mainOk (m : Option Int) (t : Int) (way : Str) (e : Int) (last : Bool) : Bool :=
  (match m with
    | none => true
    | some i => decide (1 ≤ i) && decide (i ≤ 200) && !last) && decide (1 ≤ t) && decide (t ≤ 1000000) && inV (.str way) ways4 && decide (0 ≤ e) && decide (e ≤ 1000000)
def spLookMain (cB : Addr) : Sp := fun vs H Q E => ∃ a w m t way e last, vs = [.ref a, .bl last] ∧ H a = some (.tup [.str w, mv m, .int t, .str way, .int e]) ∧
  (mainOk m t way e last = true → Q .non H) ∧ (mainOk m t way e last = false → E (.ref cB) none H)
def RTups (H : Hp) (as : List Addr) (rs : List RS) : Prop := as.length = rs.length ∧ ∀ (i : Nat) (a : Addr) (s : RS), as[i]? = some a → rs[i]? = some s → H a = some (.tup s.vs)
def okAt (rs : List RS) (k : Nat) : Bool := match rs[k]? with
  | none => true
  | some (.pent w m t way e) => decide (w = "main") && mainOk m t way e (decide (k + 1 = rs.length)) && !(m.isNone && !decide (k + 1 = rs.length) && !(match rs[k + 1]? with | some s => decide (s.w = "over") | none => true))
  | some (.tri w p t) => decide (w = "over") && decide (k + 1 = rs.length) && decide (1 ≤ p) && decide (p ≤ 200) && decide (1 ≤ t) && decide (t ≤ 1000000)
def lookR (rs : List RS) : Bool := decide (1 ≤ rs.length) && decide (rs.length ≤ 5) && (List.range rs.length).all (okAt rs)
def spLookStages (cB : Addr) : Sp := fun vs H Q E => ∃ l as rs, vs = [.ref l] ∧ H l = some (.lst (as.map V.ref)) ∧ RTups H as rs ∧ (lookR rs = true → Q .non H) ∧ (lookR rs = false → E (.ref cB) none H)
section
variable {P : Program} {w : World} {K : PySem.W.Frag} {mg : Str → Option Value} {base : Heap} {CS CC cE cB cT cN cO aW : Addr} (T : Txt K mg CS CC cE cB cT cN cO aW)
include T
theorem ok_lookMain (d : FDef K mg "look_main" s_look_main ["stage", "is_last"]) : CalX P w K mg base (L2.CX P w) 1 "look_main" (spLookMain cB) := by
  refine CalX.ofX d sc_look_main (fun vs H Q E h => ?_) (fun f cdv A outer s H vs Q E hr h => ?_)
  · obtain ⟨a, w, m, t, way, e, last, rfl, _⟩ := h
    rfl
  · obtain ⟨a, w, m, t, way, e, last, rfl, ha, q1, q2⟩ := h
    refine ⟨_, (pss_cons (ps_asg (pv 0) (pg_tup rfl (pgs_cons (pg_name (i := 2) sc_look_main.nd rfl (Or.inl rfl)) (pgs_cons (pg_name (i := 3) sc_look_main.nd rfl (Or.inl rfl)) (pgs_cons (pg_name (i := 4) sc_look_main.nd rfl (Or.inl rfl)) (pgs_cons (pg_name (i := 5) sc_look_main.nd rfl (Or.inl rfl)) (pgs_cons (pg_name (i := 6) sc_look_main.nd rfl (Or.inl rfl)) pgs_nil)))))))
 (C8.pss_cut (ps_if (PW.pt (pw_or (PW.pt (pw_and (pt_cmpR op_notN (pv 3) pe_non (nomark _)) (pw_and1 (pt_not (pt_chain op_le op_le pe_int (pv 3) (C8.pe_gc rfl T.g_MOST_MOVES)))))) (pw_or1 (PW.pt (pw_and (pt_cmpR op_notN (pv 3) pe_non (nomark _)) (pw_and1 (pt_val (pv 1)))))))) (pss_one (ps_raise rfl (takes_of rfl rfl rfl rfl) (pmk_own PySem.F.excBase_ValueError T.eB.x T.g_BadStages T.eB.k (raises_own T.eB.s T.eB.t) (by exact rfl)))) pss_nil)
 (pss_one (ps_if (PW.pt (pw_or (pt_not (pt_chain op_le op_le pe_int (pv 4) (C8.pe_gc rfl T.g_MOST_TICKS))) (pw_or (pt_cmpR op_notIn_seq (pv 5) (pe_glob (v := .ref _) rfl T.g_WAYS rfl) (by rfl)) (pw_or1 (pt_not (pt_chain op_le op_le pe_int (pv 6) (C8.pe_gc rfl T.g_MOST_TICKS))))))) (pss_one (ps_raise rfl (takes_of rfl rfl rfl rfl) (pmk_own PySem.F.excBase_ValueError T.eB.x T.g_BadStages T.eB.k (raises_own T.eB.s T.eB.t) (by exact rfl)))) pss_nil)))), ?_⟩
    have hW := T.w_WAYS H
    walk_at "rd"
    refine k_cut (fun σ' H' => σ' = [some (.ref a), some (.bl last), some (.str w), some (mv m), some (.int t), some (.str way), some (.int e)] ∧ H' = H ∧ (match m with | none => True | some i => 1 ≤ i ∧ i ≤ 200 ∧ last = false)) ?_ ?_
    · cases m with
      | none =>
        walk_at "rd"
        exact ⟨rfl, rfl, trivial⟩
      | some i =>
        walk_at "rd"
        by_cases h1 : 1 ≤ i
        · by_cases h2 : i ≤ 200
          · walk_at "rd"
            cases last with
            | true =>
              walk_at "rd"
              exact q2 (by simp [mainOk])
            | false =>
              walk_at "rd"
              exact ⟨rfl, rfl, h1, h2, rfl⟩
          · walk_at "rd"
            exact q2 (by simp [mainOk, h2])
        · walk_at "rd"
          exact q2 (by simp [mainOk, h1])
    · rintro σ' H' ⟨rfl, eH, hm⟩
      have eH2 := eH.symm
      subst eH2
      have em : mainOk m t way e last = (decide (1 ≤ t) && decide (t ≤ 1000000) && inV (.str way) ways4 && decide (0 ≤ e) && decide (e ≤ 1000000)) := by
        cases m with
        | none => rfl
        | some i =>
          obtain ⟨a1, a2, a3⟩ := hm
          subst a3
          simp [mainOk, a1, a2]
      rw [em] at q1 q2
      walk_at "rd"
      by_cases h1 : 1 ≤ t
      · by_cases h2 : t ≤ 1000000
        · walk_at "rd"
          by_cases h3 : inV (.str way) ways4 = true
          · walk_at "rd"
            by_cases h4 : 0 ≤ e
            · by_cases h5 : e ≤ 1000000
              · walk_at "rd"
                exact q1 (by simp [h1, h2, h3, h4, h5])
              · walk_at "rd"
                exact q2 (by simp [h5])
            · walk_at "rd"
              exact q2 (by simp [h4])
          · have h3' : inV (.str way) ways4 = false := by simpa using h3
            walk_at "rd"
            exact q2 (by simp [h3'])
        · walk_at "rd"
          exact q2 (by simp [h2])
      · walk_at "rd"
        exact q2 (by simp [h1])
theorem ok_lookStages (c_look_main : CalX P w K mg base (L2.CX P w) 1 "look_main" (spLookMain cB)) (d : FDef K mg "look_stages" s_look_stages ["stages"]) : CalX P w K mg base (L2.CX P w) 2 "look_stages" (spLookStages cB) := by
  refine CalX.ofX d sc_look_stages (fun vs H Q E h => ?_) (fun f cdv A outer s H vs Q E hr h => ?_)
  · obtain ⟨l, as, rs, rfl, _⟩ := h
    rfl
  · obtain ⟨l, as, rs, rfl, hl, ht, q1, q2⟩ := h
    refine ⟨_, (pss_cons (ps_if (pt_not (pt_chain op_le op_le pe_int (pe_callB call_len_seq (by rfl) T.b_len PySem.boot_len (pa_cons (pv 0) pa_nil)) (C8.pe_gc rfl T.g_MOST_STAGES))) (pss_one (ps_raise rfl (takes_of rfl rfl rfl rfl) (pmk_own PySem.F.excBase_ValueError T.eB.x T.g_BadStages T.eB.k (raises_own T.eB.s T.eB.t) (by exact rfl)))) pss_nil)
 (pss_one (ps_for (passes_of rfl) rfl (pi_range1 rfl T.b_range (pa_cons (pe_callB call_len_seq (by rfl) T.b_len PySem.boot_len (pa_cons (pv 0) pa_nil)) pa_nil)) (pg_name (i := 1) sc_look_stages.nd rfl (Or.inl rfl)) (pss_cons (ps_set (i := 2) sc_look_stages.nd rfl (Or.inl rfl) (pe_ix ix_list (pv 0) (pv 1) (fun _ _ => rfl)))
 (pss_cons (ps_set (i := 3) sc_look_stages.nd rfl (Or.inl rfl) (pe_cmpR op_eq (pv 1) (pe_op op_sub (pe_callB call_len_seq (by rfl) T.b_len PySem.boot_len (pa_cons (pv 0) pa_nil)) pe_int) (nomark _)))
 (pss_one (ps_if (PW.pt (pw_and (pt_cmpR op_eq (pe_ix ix_tup (pv 2) pe_int (fun _ _ => rfl)) pe_str (nomark _)) (pw_and1 (pt_cmpR op_eq (pe_callB call_len_seq (by rfl) T.b_len PySem.boot_len (pa_cons (pv 2) pa_nil)) pe_int (nomark _))))) (pss_cons (ps_expr (pe_cX c_look_main hr (by decide) rfl (passes_call (takes_of rfl rfl rfl rfl) (fun _ _ _ _ h => h)) (pa_cons (pv 2) (pa_cons (pv 3) pa_nil))))
 (pss_one (ps_if (PW.pt (pw_and (pt_cmpR op_isN (pe_ix ix_tup (pv 2) pe_int (fun _ _ => rfl)) pe_non (nomark _)) (pw_and (pt_not (pt_val (pv 3))) (pw_and1 (pt_cmpR op_ne (pe_ix ix_tup (pe_ix ix_list (pv 0) (pe_op op_add (pv 1) pe_int) (fun _ _ => rfl)) pe_int (fun _ _ => rfl)) pe_str (nomark _)))))) (pss_one (ps_raise rfl (takes_of rfl rfl rfl rfl) (pmk_own PySem.F.excBase_ValueError T.eB.x T.g_BadStages T.eB.k (raises_own T.eB.s T.eB.t) (by exact rfl)))) pss_nil))) (pss_one (ps_if (PW.pt (pw_or (pt_cmpR op_ne (pe_ix ix_tup (pv 2) pe_int (fun _ _ => rfl)) pe_str (nomark _)) (pw_or (pt_cmpR op_ne (pe_callB call_len_seq (by rfl) T.b_len PySem.boot_len (pa_cons (pv 2) pa_nil)) pe_int (nomark _)) (pw_or1 (pt_not (pt_val (pv 3))))))) (pss_one (ps_raise rfl (takes_of rfl rfl rfl rfl) (pmk_own PySem.F.excBase_ValueError T.eB.x T.g_BadStages T.eB.k (raises_own T.eB.s T.eB.t) (by exact rfl)))) (pss_one (ps_if (PW.pt (pw_or (pt_not (pt_chain op_le op_le pe_int (pe_ix ix_tup (pv 2) pe_int (fun _ _ => rfl)) (C8.pe_gc rfl T.g_MOST_MOVES))) (pw_or1 (pt_not (pt_chain op_le op_le pe_int (pe_ix ix_tup (pv 2) pe_int (fun _ _ => rfl)) (C8.pe_gc rfl T.g_MOST_TICKS)))))) (pss_one (ps_raise rfl (takes_of rfl rfl rfl rfl) (pmk_own PySem.F.excBase_ValueError T.eB.x T.g_BadStages T.eB.k (raises_own T.eB.s T.eB.t) (by exact rfl)))) pss_nil))))))))))), ?_⟩
    have elen : (as.map V.ref).length = rs.length := by rw [List.length_map, ht.1]
    walk_at "rd"
    rw [elen]
    by_cases h1 : 1 ≤ rs.length
    · by_cases h2 : rs.length ≤ 5
      · walk_at "rd"
        rw [elen]
        refine k_forR (n := rs.length) (fun i σ' H' => (∃ a b c, σ' = [some (.ref l), a, b, c]) ∧ H' = H ∧ ∀ j, j < i → okAt rs j = true) (by have z : (5 : Int) < 2 ^ 62 := (by decide); omega) ⟨⟨_, _, _, rfl⟩, rfl, fun j hj => absurd hj (Nat.not_lt_zero j)⟩ (fun i σ' H' hi hP => ?_) (fun σ' H' hP => ?_)
        · obtain ⟨⟨a0, b0, c0, rfl⟩, eH, hok⟩ := hP
          have eH2 := eH.symm
          subst eH2
          have hbad : okAt rs i = false → E (.ref cB) none H := fun hb => q2 (by
            have hz : (List.range rs.length).all (okAt rs) = false := by
              rw [List.all_eq_false]
              exact ⟨i, List.mem_range.mpr hi, by rw [hb]; decide⟩
            simp [lookR, hz])
          have hgood : okAt rs i = true → ∀ j, j < i + 1 → okAt rs j = true := fun hg j hj => by
            by_cases e : j = i
            · rw [e]
              exact hg
            · exact hok j (by omega)
          obtain ⟨s, hs⟩ : ∃ s, rs[i]? = some s := ⟨_, List.getElem?_eq_getElem hi⟩
          have hia : i < as.length := by have := ht.1; omega
          obtain ⟨a, ha⟩ : ∃ a, as[i]? = some a := ⟨_, List.getElem?_eq_getElem hia⟩
          have hta := ht.2 i a s ha hs
          have hx := atI_refs ha
          have hlast : decide ((i : Int) = (rs.length : Int) - 1) = decide (i + 1 = rs.length) := decide_eq_decide.mpr ⟨fun z => by omega, fun z => by omega⟩
          walk_at "rd"
          rw [elen, hlast]
          generalize hL : decide (i + 1 = rs.length) = last
          have eok : okAt rs i = match (some s) with
            | none => true
            | some (.pent w m t way e) => decide (w = "main") && mainOk m t way e last && !(m.isNone && !last && !(match rs[i + 1]? with | some s => decide (s.w = "over") | none => true))
            | some (.tri w p t) => decide (w = "over") && last && decide (1 ≤ p) && decide (p ≤ 200) && decide (1 ≤ t) && decide (t ≤ 1000000) := by
            unfold okAt
            rw [hs, hL]
          cases s with
          | tri w p t =>
            have hok3 : okAt rs i = (decide (w = "over") && last && decide (1 ≤ p) && decide (p ≤ 200) && decide (1 ≤ t) && decide (t ≤ 1000000)) := eok
            have hta : H a = some (.tup [.str w, .int p, .int t]) := hta
            walk_at "rd"
            by_cases hm : w = "main"
            · walk_at "rd"
              have hov : ¬ w = "over" := by rw [hm]; decide +kernel
              walk_at "rd"
              exact hbad (by rw [hok3]; simp [hov])
            · walk_at "rd"
              by_cases ho : w = "over"
              · walk_at "rd"
                cases last with
                | false =>
                  walk_at "rd"
                  exact hbad (by rw [hok3]; simp)
                | true =>
                  walk_at "rd"
                  by_cases b1 : 1 ≤ p
                  · by_cases b2 : p ≤ 200
                    · by_cases b3 : 1 ≤ t
                      · by_cases b4 : t ≤ 1000000
                        · walk_at "rd"
                          exact ⟨⟨_, _, _, rfl⟩, rfl, hgood (by rw [hok3]; simp [ho, b1, b2, b3, b4])⟩
                        · walk_at "rd"
                          exact hbad (by rw [hok3]; simp [b4])
                      · walk_at "rd"
                        exact hbad (by rw [hok3]; simp [b3])
                    · walk_at "rd"
                      exact hbad (by rw [hok3]; simp [b2])
                  · walk_at "rd"
                    exact hbad (by rw [hok3]; simp [b1])
              · walk_at "rd"
                exact hbad (by rw [hok3]; simp [ho])
          | pent w m t way e =>
            have hok5 : okAt rs i = (decide (w = "main") && mainOk m t way e last && !(m.isNone && !last && !(match rs[i + 1]? with | some s => decide (s.w = "over") | none => true))) := eok
            have hta : H a = some (.tup [.str w, mv m, .int t, .str way, .int e]) := hta
            walk_at "rd"
            by_cases hm : w = "main"
            · walk_at "rd"
              refine ⟨a, w, m, t, way, e, last, rfl, hta, fun hmo => ?_, fun hmo => ?_⟩
              · walk_at "rd"
                cases m with
                | some m =>
                  walk_at "rd"
                  exact ⟨⟨_, _, _, rfl⟩, rfl, hgood (by rw [hok5]; simp [hm, hmo])⟩
                | none =>
                  walk_at "rd"
                  cases last with
                  | true =>
                    walk_at "rd"
                    exact ⟨⟨_, _, _, rfl⟩, rfl, hgood (by rw [hok5]; simp [hm, hmo])⟩
                  | false =>
                    have hlt : i + 1 < rs.length := by
                      have := of_decide_eq_false hL
                      omega
                    obtain ⟨s2, hs2⟩ : ∃ s, rs[i + 1]? = some s := ⟨_, List.getElem?_eq_getElem hlt⟩
                    obtain ⟨a2, ha2⟩ : ∃ a, as[i + 1]? = some a := ⟨_, List.getElem?_eq_getElem (by have := ht.1; omega)⟩
                    have ht2 := ht.2 (i + 1) a2 s2 ha2 hs2
                    have hx2 := atI_refs ha2
                    have hx3 : atI (as.map V.ref) ((i : Int) + 1) = some (.ref a2) := hx2
                    have hw2 : atI s2.vs 0 = some (.str s2.w) := by cases s2 <;> rfl
                    walk_at "rd"
                    by_cases ho : s2.w = "over"
                    · walk_at "rd"
                      exact ⟨⟨_, _, _, rfl⟩, rfl, hgood (by rw [hok5, hs2]; simp [hm, hmo, ho])⟩
                    · walk_at "rd"
                      exact hbad (by rw [hok5, hs2]; simp [ho])
              · exact hbad (by rw [hok5]; simp [hmo])
            · walk_at "rd"
              by_cases ho : w = "over"
              · walk_at "rd"
                exact hbad (by rw [hok5]; simp [hm])
              · walk_at "rd"
                exact hbad (by rw [hok5]; simp [hm])
        · obtain ⟨⟨a0, b0, c0, rfl⟩, eH, hok⟩ := hP
          have eH2 := eH.symm
          subst eH2
          exact q1 (by
            have hz : (List.range rs.length).all (okAt rs) = true := List.all_eq_true.mpr fun j hj => hok j (List.mem_range.mp hj)
            simp [lookR, h1, h2, hz])
      · have h2' : ¬ ((rs.length : Int) ≤ 5) := by omega
        walk_at "rd"
        exact q2 (by simp [lookR, h2])
    · have h1' : ¬ ((1 : Int) ≤ (rs.length : Int)) := by omega
      walk_at "rd"
      exact q2 (by simp [lookR, h1])
end
/-! ### stages that pass the look are stages -/
def RS.toS : RS → Stg
  | .pent _ m t way e => .main m t way e
  | .tri _ p t => .over p t
theorem mainOk_t {m : Option Int} {t e : Int} {way : Str} {last : Bool} (h : mainOk m t way e last = true) : 1 ≤ t ∧ 0 ≤ e ∧ (m ≠ none → last = false) := by
  unfold mainOk at h
  simp only [Bool.and_eq_true, decide_eq_true_eq] at h
  obtain ⟨⟨⟨⟨⟨h1, h2⟩, h3⟩, h4⟩, h5⟩, h6⟩ := h
  refine ⟨h2, h5, fun hm => ?_⟩
  cases m with
  | none => exact absurd rfl hm
  | some i =>
    simp only [Bool.and_eq_true, Bool.not_eq_true'] at h1
    exact h1.2
theorem lookR_good {rs : List RS} (h : lookR rs = true) : rs = (rs.map RS.toS).map Stg.rs ∧ GoodS (rs.map RS.toS) := by
  unfold lookR at h
  simp only [Bool.and_eq_true, decide_eq_true_eq] at h
  obtain ⟨⟨h1, h2⟩, h3⟩ := h
  have ok : ∀ i, i < rs.length → okAt rs i = true := fun i hi => List.all_eq_true.mp h3 i (List.mem_range.mpr hi)
  constructor
  · refine List.ext_getElem? fun i => ?_
    rw [List.getElem?_map, List.getElem?_map]
    cases hi : rs[i]? with
    | none => rfl
    | some s =>
      have o := ok i (List.getElem?_eq_some_iff.mp hi).1
      unfold okAt at o
      rw [hi] at o
      cases s with
      | tri w p t =>
        simp only [Bool.and_eq_true, decide_eq_true_eq] at o
        have hw : w = "over" := o.1.1.1.1.1
        subst hw
        rfl
      | pent w m t way e =>
        simp only [Bool.and_eq_true, decide_eq_true_eq] at o
        have hw : w = "main" := o.1.1
        subst hw
        rfl
  · refine ⟨by rw [List.length_map]; omega, fun i s hs => ?_⟩
    rw [List.getElem?_map] at hs
    rw [List.length_map]
    cases hi : rs[i]? with
    | none =>
      rw [hi] at hs
      cases hs
    | some r =>
      rw [hi] at hs
      cases hs
      have hlt := (List.getElem?_eq_some_iff.mp hi).1
      have o := ok i hlt
      unfold okAt at o
      rw [hi] at o
      cases r with
      | tri w p t =>
        simp only [Bool.and_eq_true, decide_eq_true_eq] at o
        exact ⟨o.1.1.1.2, o.1.2⟩
      | pent w m t way e =>
        simp only [Bool.and_eq_true, decide_eq_true_eq] at o
        obtain ⟨a, b, c⟩ := mainOk_t o.1.2
        refine ⟨a, b, fun hm => ?_⟩
        have := of_decide_eq_false (c hm)
        omega
def spInitC (CC CS cB : Addr) : Sp := fun vs H Q E => ∃ p dx l0 as rs, vs = [.ref p, .ref l0] ∧ H p = some (.ins CC dx []) ∧ H l0 = some (.lst (as.map V.ref)) ∧ RTups H as rs ∧
  (lookR rs = false → E (.ref cB) none H) ∧
  (lookR rs = true → ∀ R H', ClockAt CC CS H' R (rs.map RS.toS) (wd0 (rs.map RS.toS)) → R.p = p → R.as = as → (∀ b, H (R.q b) = none ∧ H (R.l b) = none) → (∀ b o, H b = some o → b ≠ p → H' b = some o) → Q .non H')
section
variable {P : Program} {w : World} {K : PySem.W.Frag} {mg : Str → Option Value} {base : Heap} {CS CC cE cB cT cN cO aW : Addr} (T : Txt K mg CS CC cE cB cT cN cO aW)
include T
theorem ok_initC (c_look_stages : CalX P w K mg base (L2.CX P w) 2 "look_stages" (spLookStages cB)) (c_mkSide : MakX P w K mg base CX0 4 "Side" CS (spInitS CS)) (d : IDef K mg CC "Clock" "Clock.__init__" s_Clock___init ["self", "stages"]) : MakX P w K mg base (L2.CX P w) 6 "Clock" CC (spInitC CC CS cB) := by
  refine MakX.ofX d sc_Clock___init (fun vs H Q E h => ?_) (fun f cdv A outer s H vs Q E hr h => ?_)
  · obtain ⟨p, dx, l0, as, rs, rfl, _⟩ := h
    rfl
  · obtain ⟨p, dx, l0, as, rs, rfl, hp, hl, ht, q2, q1⟩ := h
    refine ⟨_, (pss_cons (ps_expr (pe_cX c_look_stages hr (by decide) rfl (passes_call (takes_of rfl rfl rfl rfl) (fun _ _ _ _ h => h)) (pa_cons (pv 1) pa_nil)))
 (pss_cons (ps_fld (pv 0) (pe_lst (pa_cons (pe_mkX c_mkSide hr (by decide) rfl pass0 (pa_cons (pv 1) pa_nil)) (pa_cons (pe_mkX c_mkSide hr (by decide) rfl pass0 (pa_cons (pv 1) pa_nil)) pa_nil))) rfl)
 (pss_cons (ps_fld (pv 0) pe_int rfl)
 (pss_cons (ps_fld (pv 0) pe_bl rfl)
 (pss_cons (ps_fld (pv 0) pe_non rfl)
 (pss_one (ps_fld (pv 0) pe_int rfl))))))), ?_⟩
    walk_at "rd"
    refine ⟨l0, as, rs, rfl, hl, ht, fun hlook => ?_, fun hlook => q2 hlook⟩
    have q := q1 hlook
    obtain ⟨hrs, G⟩ := lookR_good hlook
    have hS : StL H l0 as (rs.map RS.toS) := ⟨hl, by rw [List.length_map]; exact ht.1, fun i a s ha hs => by
      have e2 : rs[i]? = some s.rs := by
        rw [hrs, List.getElem?_map, hs]
        rfl
      have := ht.2 i a s.rs ha e2
      rw [Stg.rs_vs] at this
      exact this⟩
    generalize rs.map RS.toS = ss at *
    have h0 : ss[0]? = some (ss.getD 0 (.over 1 1)) := by
      rw [List.getD_eq_getElem?_getD, List.getElem?_eq_getElem G.1]
      rfl
    generalize hs0 : ss.getD 0 (.over 1 1) = s0 at *
    walk_at "rd"
    intro x0 dx0 nx0 nd0 ne0
    have S1 : StL (upd (upd H dx0 (.own x0)) x0 (.ins CS dx0 [])) l0 as ss := ⟨by rw [upd_ne (ne_of_none hl nx0), upd_ne (ne_of_none hl nd0)]; exact hl, hS.tup.1, fun i a s ha hs => by
      have z := hS.tup.2 i a s ha hs
      rw [upd_ne (ne_of_none z nx0), upd_ne (ne_of_none z nd0)]
      exact z⟩
    refine ⟨x0, dx0, l0, as, ss, s0, rfl, upd_same, S1, h0, fun la nla => ⟨rfl, ?_⟩⟩
    have nlx : la ≠ x0 := fun e => by
      rw [e, upd_same] at nla
      cases nla
    have nla0 : H la = none := by
      rw [upd_ne nlx] at nla
      by_cases e : la = dx0
      · rw [e]
        exact nd0
      · rw [upd_ne e] at nla
        exact nla
    have m1 : ∀ b o, H b = some o → upd (upd (upd (upd H dx0 (.own x0)) x0 (.ins CS dx0 [])) la (.lst (as.map V.ref))) x0 (.ins CS dx0 (sf la (side0 s0))) b = some o := fun b o e => by
      rw [upd_ne (ne_of_none e nx0), upd_ne (ne_of_none e nla0), upd_ne (ne_of_none e nx0), upd_ne (ne_of_none e nd0)]
      exact e
    have l1 : upd (upd (upd (upd H dx0 (.own x0)) x0 (.ins CS dx0 [])) la (.lst (as.map V.ref))) x0 (.ins CS dx0 (sf la (side0 s0))) la = some (.lst (as.map V.ref)) := by
      rw [upd_ne nlx, upd_same]
    have o1 : upd (upd (upd (upd H dx0 (.own x0)) x0 (.ins CS dx0 [])) la (.lst (as.map V.ref))) x0 (.ins CS dx0 (sf la (side0 s0))) x0 = some (.ins CS dx0 (sf la (side0 s0))) := upd_same
    generalize upd (upd (upd (upd H dx0 (.own x0)) x0 (.ins CS dx0 [])) la (.lst (as.map V.ref))) x0 (.ins CS dx0 (sf la (side0 s0))) = H1 at *
    walk_at "rd"
    intro x1 dx1 nx1 nd1 ne1
    have hl1 := m1 _ _ hl
    have S2 : StL (upd (upd H1 dx1 (.own x1)) x1 (.ins CS dx1 [])) l0 as ss := ⟨by rw [upd_ne (ne_of_none hl1 nx1), upd_ne (ne_of_none hl1 nd1)]; exact hl1, hS.tup.1, fun i a s ha hs => by
      have z := m1 _ _ (hS.tup.2 i a s ha hs)
      rw [upd_ne (ne_of_none z nx1), upd_ne (ne_of_none z nd1)]
      exact z⟩
    refine ⟨x1, dx1, l0, as, ss, s0, rfl, upd_same, S2, h0, fun lc nlc => ⟨rfl, ?_⟩⟩
    have nly : lc ≠ x1 := fun e => by
      rw [e, upd_same] at nlc
      cases nlc
    have nlc0 : H1 lc = none := by
      rw [upd_ne nly] at nlc
      by_cases e : lc = dx1
      · rw [e]
        exact nd1
      · rw [upd_ne e] at nlc
        exact nlc
    have m2 : ∀ b o, H1 b = some o → upd (upd (upd (upd H1 dx1 (.own x1)) x1 (.ins CS dx1 [])) lc (.lst (as.map V.ref))) x1 (.ins CS dx1 (sf lc (side0 s0))) b = some o := fun b o e => by
      rw [upd_ne (ne_of_none e nx1), upd_ne (ne_of_none e nlc0), upd_ne (ne_of_none e nx1), upd_ne (ne_of_none e nd1)]
      exact e
    have l2 : upd (upd (upd (upd H1 dx1 (.own x1)) x1 (.ins CS dx1 [])) lc (.lst (as.map V.ref))) x1 (.ins CS dx1 (sf lc (side0 s0))) lc = some (.lst (as.map V.ref)) := by
      rw [upd_ne nly, upd_same]
    have o2 : upd (upd (upd (upd H1 dx1 (.own x1)) x1 (.ins CS dx1 [])) lc (.lst (as.map V.ref))) x1 (.ins CS dx1 (sf lc (side0 s0))) x1 = some (.ins CS dx1 (sf lc (side0 s0))) := upd_same
    have n01 : x0 ≠ x1 := ne_of_none o1 nx1
    generalize upd (upd (upd (upd H1 dx1 (.own x1)) x1 (.ins CS dx1 [])) lc (.lst (as.map V.ref))) x1 (.ins CS dx1 (sf lc (side0 s0))) = H2 at *
    walk_at "rd"
    intro lb nlb
    have hp2 := m2 _ _ (m1 _ _ hp)
    have npb : p ≠ lb := ne_of_none hp2 nlb
    have np0 : p ≠ x0 := ne_of_none hp nx0
    have np1 : p ≠ x1 := ne_of_none (m1 _ _ hp) nx1
    have n0b : x0 ≠ lb := ne_of_none (m2 _ _ o1) nlb
    have n1b : x1 ≠ lb := ne_of_none o2 nlb
    have nab : la ≠ lb := ne_of_none (m2 _ _ l1) nlb
    have ncb : lc ≠ lb := ne_of_none l2 nlb
    have npa : p ≠ la := ne_of_none hp nla0
    have npc : p ≠ lc := ne_of_none (m1 _ _ hp) nlc0
    walk_at "rd"
    simp only [upd2]
    have tu : ∀ (i : Nat) (a : Addr) (s : Stg), as[i]? = some a → ss[i]? = some s → upd (upd H2 lb (.lst [.ref x0, .ref x1])) p (.ins CC dx (cf lb (wd0 ss))) a = some (.tup s.vs) := fun i a s ha hs => by
      have z0 := hS.tup.2 i a s ha hs
      have z := m2 _ _ (m1 _ _ z0)
      rw [upd_ne (ne_of z0 hp (by intro z; cases z)), upd_ne (ne_of_none z nlb)]
      exact z
    refine q ⟨p, dx, lb, x0, dx0, la, x1, dx1, lc, as⟩ _ (show ClockAt CC CS (upd (upd H2 lb (.lst [.ref x0, .ref x1])) p (.ins CC dx (cf lb (wd0 ss)))) ⟨p, dx, lb, x0, dx0, la, x1, dx1, lc, as⟩ ss (wd0 ss) from ⟨upd_same, ?_, fun b => ?_, fun b => ?_, fun b => ?_, n01⟩) rfl rfl (fun b => ?_) (fun b o e hb => ?_)
    · show upd _ p _ lb = _
      rw [upd_ne (Ne.symm npb), upd_same]
    · cases b
      · show upd _ p _ x0 = some (.ins CS dx0 (sf la (side0 (ss.getD 0 (.over 1 1)))))
        rw [upd_ne (Ne.symm np0), upd_ne n0b, hs0]
        exact m2 _ _ o1
      · show upd _ p _ x1 = some (.ins CS dx1 (sf lc (side0 (ss.getD 0 (.over 1 1)))))
        rw [upd_ne (Ne.symm np1), upd_ne n1b, hs0]
        exact o2
    · cases b
      · refine ⟨?_, hS.tup.1, tu⟩
        show upd _ p _ la = _
        rw [upd_ne (Ne.symm npa), upd_ne nab]
        exact m2 _ _ l1
      · refine ⟨?_, hS.tup.1, tu⟩
        show upd _ p _ lc = _
        rw [upd_ne (Ne.symm npc), upd_ne ncb]
        exact l2
    · cases b
      · exact np0
      · exact np1
    · cases b
      · exact ⟨nx0, nla0⟩
      · refine ⟨?_, ?_⟩
        · show H x1 = none
          cases e : H x1 with
          | none => rfl
          | some o =>
            rw [m1 _ _ e] at nx1
            cases nx1
        · show H lc = none
          cases e : H lc with
          | none => rfl
          | some o =>
            rw [m1 _ _ e] at nlc0
            cases nlc0
    · rw [upd_ne hb, upd_ne (ne_of_none (m2 _ _ (m1 _ _ e)) nlb)]
      exact m2 _ _ (m1 _ _ e)
end
/-! ### the law's draws -/
def cellF (ns : List Int) (k : Int) : Int := if ns.isEmpty then 0 else ns.getD (k % (ns.length : Int)).toNat 0
def mix3 (n : Int) : Int := (n / 64 * 69621 + n) % 4294967231
def mixF (ns : List Int) (k : Int) : Int := mix3 ((cellF ns k + 104729 * (k + 1)) % 4294967291 * 48271 % 4294967279)
theorem mixF_nonneg (ns : List Int) (k : Int) : 0 ≤ mixF ns k := Int.emod_nonneg _ (by decide)
theorem mixF_lt (ns : List Int) (k : Int) : mixF ns k < 4294967231 := Int.emod_lt_of_pos _ (by decide)
def way4 (i : Int) : Str := match i.toNat with
  | 0 => "plain"
  | 1 => "add"
  | 2 => "back"
  | _ => "wait"
theorem at_way4 {i : Int} (h0 : 0 ≤ i) (h1 : i < 4) : atI [V.str "plain", V.str "add", V.str "back", V.str "wait"] i = some (.str (way4 i)) := by
  have h : i = 0 ∨ i = 1 ∨ i = 2 ∨ i = 3 := by omega
  rcases h with rfl | rfl | rfl | rfl <;> rfl
def mainAt (ns : List Int) (k : Int) (j : Nat) : Stg :=
  .main (some (1 + mixF ns (k + 1 + j) / 4 % 4)) (1 + mixF ns (k + 1 + j) / 16 % 40) (way4 (mixF ns (k + 1 + j) % 4)) (mixF ns (k + 1 + j) / 640 % 7)
def mainsF (ns : List Int) (k : Int) : List Stg := (List.range (mixF ns k % 3).toNat).map (mainAt ns k)
def addNone (n : Int) (l : List Stg) : List Stg := if n % 3 < 2 ∨ (l = [] ∧ n / 3 % 2 = 0) then l ++ [.main none (1 + n / 12 % 60) (way4 (n / 3 % 4)) (n / 720 % 9)] else l
def addOver (n : Int) (l : List Stg) : List Stg := if 0 < n % 3 then l ++ [.over (1 + n / 7000 % 4) (1 + n / 28000 % 12)] else l
def stagesF (ns : List Int) (k : Int) : List Stg := addOver (mixF ns (k + 4)) (addNone (mixF ns (k + 4)) (mainsF ns k))
def spCell (K : PySem.W.Frag) : Sp := fun vs H Q _ => ∃ a ns k, vs = [.ref a, .int k] ∧ SqL K H a (ns.map V.int) ∧ Q (.int (cellF ns k)) H
def spMix (K : PySem.W.Frag) : Sp := fun vs H Q _ => ∃ a ns k, vs = [.ref a, .int k] ∧ SqL K H a (ns.map V.int) ∧ Q (.int (mixF ns k)) H
/-- a new list of tuples -/
structure NewT (H H' : Hp) (l : Addr) (as : List Addr) (vss : List (List V)) : Prop where
  nl : H l = none
  na : ∀ a, a ∈ as → H a = none
  sm : Same H H'
  lst : H' l = some (.lst (as.map V.ref))
  len : as.length = vss.length
  tup : ∀ (i : Nat) (a : Addr) (vs : List V), as[i]? = some a → vss[i]? = some vs → H' a = some (.tup vs)
theorem NewT.start {H : Hp} {l : Addr} (h : H l = none) : NewT H (upd H l (.lst [])) l [] [] :=
  ⟨h, fun a ha => by simp at ha, fun b o e => by rw [upd_ne (ne_of_none e h)]; exact e, upd_same, rfl, fun i a vs ha => by simp at ha⟩
theorem NewT.push {H H' H2 : Hp} {l t : Addr} {as : List Addr} {vss : List (List V)} {vs : List V} (n : NewT H H' l as vss) (hs : Same H' H2) (ht : H2 t = none) :
    NewT H (upd (upd H2 t (.tup vs)) l (.lst (as.map V.ref ++ [.ref t]))) l (as ++ [t]) (vss ++ [vs]) := by
  have e2 : Same H H2 := n.sm.trans hs
  have l2 := hs _ _ n.lst
  refine ⟨n.nl, fun a ha => ?_, fun b o e => ?_, ?_, ?_, fun i a xs ha hx => ?_⟩
  · rcases List.mem_append.mp ha with h | h
    · exact n.na a h
    · rw [List.mem_singleton.mp h]
      exact e2.free ht
  · rw [upd_ne (ne_of_none e n.nl), upd_ne (ne_of_none (e2 b o e) ht)]
    exact e2 b o e
  · rw [upd_same, List.map_append]
    rfl
  · rw [List.length_append, List.length_append, n.len]
    rfl
  · by_cases hi : i < as.length
    · rw [List.getElem?_append_left hi] at ha
      rw [List.getElem?_append_left (by rw [← n.len]; exact hi)] at hx
      have z := hs _ _ (n.tup i a xs ha hx)
      rw [upd_ne (ne_of z l2 (by intro q; cases q)), upd_ne (ne_of_none z ht)]
      exact z
    · have hi2 : i = as.length := by
        have := (List.getElem?_eq_some_iff.mp ha).1
        rw [List.length_append] at this
        simp at this
        omega
      subst hi2
      rw [List.getElem?_append_right (Nat.le_refl _), Nat.sub_self] at ha
      rw [List.getElem?_append_right (by rw [n.len]; exact Nat.le_refl _), n.len, Nat.sub_self] at hx
      cases ha
      cases hx
      rw [upd_ne (fun e => by rw [e, l2] at ht; cases ht), upd_same]
theorem Same.new {H : Hp} {p : Addr} {o : HO} (h : H p = none) : Same H (upd H p o) := fun b u e => by
  rw [upd_ne (ne_of_none e h)]
  exact e
theorem NewT.ext {H H' H2 : Hp} {l : Addr} {as : List Addr} {vss : List (List V)} (n : NewT H H' l as vss) (hs : Same H' H2) : NewT H H2 l as vss :=
  ⟨n.nl, n.na, n.sm.trans hs, hs _ _ n.lst, n.len, fun i a vs ha hv => hs _ _ (n.tup i a vs ha hv)⟩
/-! ### lists of flat tuples, as data -/
def fd : V → PyData
  | .bl b => .bool b
  | .int i => .int i
  | .str x => .str x
  | _ => .none
def flD : V → Bool
  | .non => true
  | .bl _ => true
  | .int _ => true
  | .str x => PyData.canLay0 (.str x)
  | _ => false
theorem dp_flat {K : PySem.W.Frag} {H : Hp} {v : V} (h : flD v = true) : Dp K H v (fd v) := by
  cases v with
  | non => exact .non
  | bl b => exact .bl b
  | int i => exact .int i
  | str x => exact .str x
  | byt b => cases h
  | flt b => cases h
  | ref a => cases h
  | ty n => cases h
theorem dp_flats {K : PySem.W.Frag} {H : Hp} : ∀ {vs : List V}, vs.all flD = true → DpAll K H vs (vs.map fd)
  | [], _ => .nil
  | v :: r, h => by
    rw [List.all_cons, Bool.and_eq_true] at h
    exact .cons (dp_flat h.1) (dp_flats h.2)
theorem lay_flat {v : V} (h : flD v = true) : PyData.canLay0 (fd v) = true := by
  cases v <;> first | rfl | exact h | cases h
theorem lay_flats : ∀ {vs : List V}, vs.all flD = true → PyData.canLayAll0 (vs.map fd) = true
  | [], _ => rfl
  | v :: r, h => by
    rw [List.all_cons, Bool.and_eq_true] at h
    show (PyData.canLay0 (fd v) && PyData.canLayAll0 (r.map fd)) = true
    rw [lay_flat h.1, lay_flats h.2]
    rfl
theorem dep_flat (v : V) : (fd v).depth = 0 := by cases v <;> rfl
theorem dep_flats : ∀ vs : List V, PyData.depthAll (vs.map fd) = 0
  | [] => rfl
  | v :: r => by
    show max (PyData.depth (fd v)) (PyData.depthAll (r.map fd)) = 0
    rw [dep_flat, dep_flats r]
    rfl
abbrev td (vs : List V) : PyData := .tuple (vs.map fd)
theorem dp_tups {K : PySem.W.Frag} {H : Hp} : ∀ {as : List Addr} {vss : List (List V)}, as.length = vss.length → (∀ (i : Nat) (a : Addr) (vs : List V), as[i]? = some a → vss[i]? = some vs → H a = some (.tup vs)) → (∀ vs, vs ∈ vss → vs.all flD = true) → DpAll K H (as.map V.ref) (vss.map td)
  | [], [], _, _, _ => .nil
  | a :: as, vs :: vss, hl, ht, hf => .cons (.tup (SqT.of (ht 0 a vs rfl rfl)) (dp_flats (hf vs List.mem_cons_self)))
      (dp_tups (by simpa using hl) (fun i a' vs' h1 h2 => ht (i + 1) a' vs' h1 h2) (fun v hv => hf v (List.mem_cons_of_mem _ hv)))
  | [], _ :: _, hl, _, _ => by simp at hl
  | _ :: _, [], hl, _, _ => by simp at hl
theorem lay_tups : ∀ {vss : List (List V)}, (∀ vs, vs ∈ vss → vs.all flD = true) → PyData.canLayAll0 (vss.map td) = true
  | [], _ => rfl
  | vs :: r, h => by
    show (PyData.canLayAll0 (vs.map fd) && PyData.canLayAll0 (r.map td)) = true
    rw [lay_flats (h vs List.mem_cons_self), lay_tups fun v hv => h v (List.mem_cons_of_mem _ hv)]
    rfl
theorem dep_tups : ∀ vss : List (List V), PyData.depthAll (vss.map td) ≤ 1
  | [] => Nat.zero_le _
  | vs :: r => by
    show max (PyData.depthAll (vs.map fd) + 1) (PyData.depthAll (r.map td)) ≤ 1
    rw [dep_flats]
    have := dep_tups r
    omega
theorem shaped_tups {vss : List (List V)} (h : ∀ vs, vs ∈ vss → vs.all flD = true) : SeqAt.shaped (.list (vss.map td)) = true := by
  have h1 : PyData.canLay0 (.list (vss.map td)) = true := lay_tups h
  have h2 : PyData.depth (.list (vss.map td)) ≤ 64 := by
    show PyData.depthAll (vss.map td) + 1 ≤ 64
    have := dep_tups vss
    omega
  unfold SeqAt.shaped
  rw [h1, decide_eq_true h2]
  rfl
theorem dp_lst {K : PySem.W.Frag} {H : Hp} {l : Addr} {as : List Addr} {vss : List (List V)} (hl : SqL K H l (as.map V.ref)) (hn : as.length = vss.length) (ht : ∀ (i : Nat) (a : Addr) (vs : List V), as[i]? = some a → vss[i]? = some vs → H a = some (.tup vs)) (hf : ∀ vs, vs ∈ vss → vs.all flD = true) :
    Dp K H (.ref l) (.list (vss.map td)) := .lst hl (dp_tups hn ht hf)
theorem way4_ok (i : Int) : flD (.str (way4 i)) = true := by
  unfold way4
  split <;> decide +kernel
theorem mv_ok (m : Option Int) : flD (mv m) = true := by cases m <;> rfl
theorem k_eqD {K : PySem.W.Frag} {H : Hp} {x y : V} {Q : VK} (d e : PyData) (h1 : Dp K H x d) (h2 : Dp K H y e) (s1 : SeqAt.shaped d = true) (s2 : SeqAt.shaped e = true) (q : Q (.bl (PyData.eqv d e)) H) : rEqD K x y H Q := ⟨d, e, h1, h2, s1, s2, q⟩
theorem k_neD {K : PySem.W.Frag} {H : Hp} {x y : V} {Q : VK} (d e : PyData) (h1 : Dp K H x d) (h2 : Dp K H y e) (s1 : SeqAt.shaped d = true) (s2 : SeqAt.shaped e = true) (q : Q (.bl (!PyData.eqv d e)) H) : rNeD K x y H Q := ⟨d, e, h1, h2, s1, s2, q⟩
theorem eqv_nil (l : List PyData) : PyData.eqv (.list l) (.list []) = l.isEmpty := by cases l <;> rfl
theorem main_ok : flD (.str "main") = true := by decide +kernel
theorem mains_flat (ns : List Int) (k : Int) : ∀ vs, vs ∈ (mainsF ns k).map Stg.vs → vs.all flD = true := fun vs hv => by
  obtain ⟨s, hs, rfl⟩ := List.mem_map.mp hv
  obtain ⟨j, hj, rfl⟩ := List.mem_map.mp hs
  show (flD (.str "main") && (flD (mv (some _)) && (true && (flD (.str (way4 _)) && (true && true))))) = true
  rw [main_ok, mv_ok, way4_ok]
  rfl
def spStages (K : PySem.W.Frag) : Sp := fun vs H Q _ => ∃ a ns k, vs = [.ref a, .int k] ∧ SqL K H a (ns.map V.int) ∧ ∀ l as H', NewT H H' l as ((stagesF ns k).map Stg.vs) → Q (.ref l) H'
section
variable {P : Program} {w : World} {K : PySem.W.Frag} {mg : Str → Option Value} {base : Heap} {CS CC cE cB cT cN cO aW : Addr} (T : Txt K mg CS CC cE cB cT cN cO aW)
include T
theorem ok_cell (d : FDef K mg "_law_cell" s_law_cell ["_law_script", "_law_k"]) : CalX P w K mg base CX0 1 "_law_cell" (spCell K) := by
  refine CalX.of0 d sc_law_cell (fun vs H Q E h => ?_) (fun f cdv A outer s H vs Q E hr h => ?_)
  · obtain ⟨a, ns, k, rfl, _⟩ := h
    rfl
  · obtain ⟨a, ns, k, rfl, hS, q⟩ := h
    refine ⟨_, (pss_cons (ps_if (pt_truth (pv 0) (by intro _; rfl)) (pss_one (ps_ret (pe_ix ix_list (pv 0) (pe_op op_mod (pv 1) (pe_callB call_len_seq (by rfl) T.b_len PySem.boot_len (pa_cons (pv 0) pa_nil))) (fun _ _ => rfl)))) pss_nil)
 (pss_one (ps_ret pe_int))), ?_⟩
    walk_at "rd"
    cases ns with
    | nil =>
      walk_at "rd"
      exact q
    | cons n r =>
      have hlen : ((List.map V.int (n :: r)).length : Int) = ((n :: r).length : Int) := by rw [List.length_map]
      have hpos : (0 : Int) < ((n :: r).length : Int) := by
        rw [List.length_cons]
        omega
      walk_at "rd"
      rw [hlen]
      refine k_I hpos ?_
      have h0 := Int.emod_nonneg k (Int.ne_of_gt hpos)
      have h1 := Int.emod_lt_of_pos k hpos
      have hx : atI (List.map V.int (n :: r)) (k % ((n :: r).length : Int)) = some (.int ((n :: r).getD (k % ((n :: r).length : Int)).toNat 0)) := by
        refine at_of (j := (k % ((n :: r).length : Int)).toNat) (by omega) ?_
        rw [List.getElem?_map, List.getD_eq_getElem?_getD, List.getElem?_eq_getElem (by omega)]
        rfl
      walk_at "rd"
      exact q
theorem ok_mix (c__law_cell : CalX P w K mg base CX0 1 "_law_cell" (spCell K)) (d : FDef K mg "_law_mix" s_law_mix ["_law_script", "_law_k"]) : CalX P w K mg base CX0 2 "_law_mix" (spMix K) := by
  refine CalX.of0 d sc_law_mix (fun vs H Q E h => ?_) (fun f cdv A outer s H vs Q E hr h => ?_)
  · obtain ⟨a, ns, k, rfl, _⟩ := h
    rfl
  · obtain ⟨a, ns, k, rfl, hS, q⟩ := h
    refine ⟨_, (pss_cons (ps_set (i := 2) sc_law_mix.nd rfl (Or.inl rfl) (pe_op op_mod (pe_op op_add (pe_cX c__law_cell hr (by decide) rfl pass0 (pa_cons (pv 0) (pa_cons (pv 1) pa_nil))) (pe_op op_mul pe_int (pe_op op_add (pv 1) pe_int))) pe_int))
 (pss_cons (ps_set (i := 2) sc_law_mix.nd rfl (Or.inl rfl) (pe_op op_mod (pe_op op_mul (pv 2) pe_int) pe_int))
 (pss_one (ps_ret (pe_op op_mod (pe_op op_add (pe_op op_mul (pe_op op_fdiv (pv 2) pe_int) pe_int) (pv 2)) pe_int))))), ?_⟩
    walk_at "rd"
    refine ⟨a, ns, k, rfl, hS, ?_⟩
    walk_at "rd"
    exact q
theorem ok_stages (c__law_mix : CalX P w K mg base CX0 2 "_law_mix" (spMix K)) (d : FDef K mg "_law_stages" s_law_stages ["_law_script", "_law_k"]) : CalX P w K mg base CX0 3 "_law_stages" (spStages K) := by
  refine CalX.of0 d sc_law_stages (fun vs H Q E h => ?_) (fun f cdv A outer s H vs Q E hr h => ?_)
  · obtain ⟨a, ns, k, rfl, _⟩ := h
    rfl
  · obtain ⟨a, ns, k, rfl, hS, q⟩ := h
    refine ⟨_, (pss_cons (ps_set (i := 2) sc_law_stages.nd rfl (Or.inl rfl) (pe_lst pa_nil))
 (pss_cons (ps_for PassesOwn.never rfl (pi_range1 rfl T.b_range (pa_cons (pe_op op_mod (pe_cX c__law_mix hr (by decide) rfl pass0 (pa_cons (pv 0) (pa_cons (pv 1) pa_nil))) pe_int) pa_nil)) (pg_name (i := 3) sc_law_stages.nd rfl (Or.inl rfl)) (pss_cons (ps_set (i := 4) sc_law_stages.nd rfl (Or.inl rfl) (pe_cX c__law_mix hr (by decide) rfl pass0 (pa_cons (pv 0) (pa_cons (pe_op op_add (pe_op op_add (pv 1) pe_int) (pv 3)) pa_nil))))
 (pss_cons (ps_set (i := 5) sc_law_stages.nd rfl (Or.inl rfl) (pe_ix ix_list (pe_lst (pa_cons pe_str (pa_cons pe_str (pa_cons pe_str (pa_cons pe_str pa_nil))))) (pe_op op_mod (pv 4) pe_int) (fun _ _ => rfl)))
 (pss_one (ps_expr (pe_bm PySem.F.plainAttrs_list PySem.F.slot_list_append PySem.F.type_list_append mt_append (pv 2) (pa_cons (pe_tup (pa_cons pe_str (pa_cons (pe_op op_add pe_int (pe_op op_mod (pe_op op_fdiv (pv 4) pe_int) pe_int)) (pa_cons (pe_op op_add pe_int (pe_op op_mod (pe_op op_fdiv (pv 4) pe_int) pe_int)) (pa_cons (pv 5) (pa_cons (pe_op op_mod (pe_op op_fdiv (pv 4) pe_int) pe_int) pa_nil)))))) pa_nil)))))))
 (pss_cons (ps_set (i := 4) sc_law_stages.nd rfl (Or.inl rfl) (pe_cX c__law_mix hr (by decide) rfl pass0 (pa_cons (pv 0) (pa_cons (pe_op op_add (pv 1) pe_int) pa_nil))))
 (C8.pss_cut (ps_if (PW.pt (pw_or (pt_cmpR op_lt (pe_op op_mod (pv 4) pe_int) pe_int (nomark _)) (pw_or1 (PW.pt (pw_and (pt_cmpR (op_eqD hr.units) (pv 2) (pe_lst pa_nil) (nomark _)) (pw_and1 (pt_cmpR op_eq (pe_op op_mod (pe_op op_fdiv (pv 4) pe_int) pe_int) pe_int (nomark _)))))))) (pss_cons (ps_set (i := 5) sc_law_stages.nd rfl (Or.inl rfl) (pe_ix ix_list (pe_lst (pa_cons pe_str (pa_cons pe_str (pa_cons pe_str (pa_cons pe_str pa_nil))))) (pe_op op_mod (pe_op op_fdiv (pv 4) pe_int) pe_int) (fun _ _ => rfl)))
 (pss_one (ps_expr (pe_bm PySem.F.plainAttrs_list PySem.F.slot_list_append PySem.F.type_list_append mt_append (pv 2) (pa_cons (pe_tup (pa_cons pe_str (pa_cons pe_non (pa_cons (pe_op op_add pe_int (pe_op op_mod (pe_op op_fdiv (pv 4) pe_int) pe_int)) (pa_cons (pv 5) (pa_cons (pe_op op_mod (pe_op op_fdiv (pv 4) pe_int) pe_int) pa_nil)))))) pa_nil))))) pss_nil)
 (pss_cons (ps_if (pt_cmpR op_gt (pe_op op_mod (pv 4) pe_int) pe_int (nomark _)) (pss_one (ps_expr (pe_bm PySem.F.plainAttrs_list PySem.F.slot_list_append PySem.F.type_list_append mt_append (pv 2) (pa_cons (pe_tup (pa_cons pe_str (pa_cons (pe_op op_add pe_int (pe_op op_mod (pe_op op_fdiv (pv 4) pe_int) pe_int)) (pa_cons (pe_op op_add pe_int (pe_op op_mod (pe_op op_fdiv (pv 4) pe_int) pe_int)) pa_nil)))) pa_nil)))) pss_nil)
 (pss_one (ps_ret (pv 2)))))))), ?_⟩
    walk_at "rd"
    intro l nl
    walk_at "rd"
    have n0 := NewT.start (H := H) nl
    refine ⟨a, ns, k, rfl, n0.sm.seq hS, ?_⟩
    walk_at "rd"
    have m0 := mixF_nonneg ns k
    obtain ⟨m, hm⟩ : ∃ m : Nat, mixF ns k % 3 = (m : Int) := ⟨(mixF ns k % 3).toNat, by omega⟩
    have hmm : (mixF ns k % 3).toNat = m := by omega
    rw [hm]
    have hlt : (m : Int) < 3 := by omega
    refine k_forR (n := m) (fun i σ' H' => ∃ as x3 x4 x5, σ' = [some (.ref a), some (.int k), some (.ref l), x3, x4, x5] ∧ NewT H H' l as (((List.range i).map (mainAt ns k)).map Stg.vs)) (by have z : (3 : Int) < 2 ^ 62 := (by decide); omega)
      ⟨[], _, _, _, rfl, n0⟩ (fun i σ' H' hi hP => ?_) (fun σ' H' hP => ?_)
    · obtain ⟨as, x3, x4, x5, rfl, n⟩ := hP
      walk_at "rd"
      refine ⟨a, ns, _, rfl, n.sm.seq hS, ?_⟩
      walk_at "rd"
      intro p np
      have nlp : l ≠ p := ne_of_none n.lst np
      have hx := at_way4 (i := mixF ns (k + 1 + i) % 4) (by omega) (by omega)
      have hl := n.lst
      have hlen : (as.map V.ref).length < 100000 := by
        rw [List.length_map, n.len, List.length_map, List.length_map, List.length_range]
        omega
      walk_at "rd"
      intro t nt
      have nlt : l ≠ t := ne_of_none (show upd H' p _ l = some (.lst (as.map V.ref)) from by rw [upd_ne nlp]; exact hl) nt
      walk_at "rd"
      refine ⟨as ++ [t], _, _, _, rfl, ?_⟩
      rw [List.range_succ, List.map_append, List.map_append]
      exact n.push (fun b o e => by rw [upd_ne (ne_of_none e np)]; exact e) nt
    · obtain ⟨as, x3, x4, x5, rfl, n⟩ := hP
      walk_at "rd"
      refine ⟨a, ns, _, rfl, n.sm.seq hS, ?_⟩
      walk_at "rd"
      have en : ((List.range m).map (mainAt ns k)) = mainsF ns k := by
        unfold mainsF
        rw [hmm]
      rw [en] at n
      have hmlen : (mainsF ns k).length ≤ 2 := by
        rw [← en, List.length_map, List.length_range]
        omega
      generalize hM : mixF ns (k + 4) = N at *
      refine k_cut (fun σ' H' => ∃ as x3 x5, σ' = [some (.ref a), some (.int k), some (.ref l), x3, some (.int N), x5] ∧ NewT H H' l as ((addNone N (mainsF ns k)).map Stg.vs)) ?_ ?_
      · have N0 : 0 ≤ N := by rw [← hM]; exact mixF_nonneg ns _
        have hx := at_way4 (i := N / 3 % 4) (by omega) (by omega)
        have hlen : (as.map V.ref).length < 100000 := by
          rw [List.length_map, n.len, List.length_map]
          omega
        have addT : (N % 3 < 2 ∨ (mainsF ns k = [] ∧ N / 3 % 2 = 0)) → addNone N (mainsF ns k) = mainsF ns k ++ [.main none (1 + N / 12 % 60) (way4 (N / 3 % 4)) (N / 720 % 9)] := fun c => if_pos c
        have addF : ¬ (N % 3 < 2 ∨ (mainsF ns k = [] ∧ N / 3 % 2 = 0)) → addNone N (mainsF ns k) = mainsF ns k := fun c => if_neg c
        have hl := n.lst
        by_cases c1 : N % 3 < 2
        · walk_at "rd"
          intro p np
          have nlp : l ≠ p := ne_of_none hl np
          walk_at "rd"
          intro t nt
          have nlt : l ≠ t := ne_of_none (Same.new np _ _ hl) nt
          walk_at "rd"
          refine ⟨as ++ [t], _, _, rfl, ?_⟩
          rw [addT (.inl c1), List.map_append]
          exact n.push (Same.new np) nt
        · walk_at "rd"
          intro z nz
          have n2 := n.ext (Same.new (o := .lst []) nz)
          have hl2 := n2.lst
          refine k_eqD _ (.list []) (dp_lst (SqL.of hl2) n2.len n2.tup (mains_flat ns k)) (.lst (SqL.of upd_same) .nil) (shaped_tups (mains_flat ns k)) (by decide +kernel) ?_
          rw [eqv_nil]
          walk_at "rd"
          by_cases c2 : mainsF ns k = []
          · have e2 : (((mainsF ns k).map Stg.vs).map td).isEmpty = true := by rw [c2]; rfl
            walk_at "rd"
            by_cases c3 : N / 3 % 2 = 0
            · walk_at "rd"
              intro p np
              have nlp : l ≠ p := ne_of_none hl2 np
              have nlz : l ≠ z := ne_of_none hl nz
              walk_at "rd"
              intro t nt
              have nlt : l ≠ t := ne_of_none (Same.new np _ _ hl2) nt
              walk_at "rd"
              refine ⟨as ++ [t], _, _, rfl, ?_⟩
              rw [addT (.inr ⟨c2, c3⟩), List.map_append]
              exact n2.push (Same.new np) nt
            · walk_at "rd"
              refine ⟨as, _, _, rfl, ?_⟩
              rw [addF (fun c => c.elim c1 fun c => c3 c.2)]
              exact n2
          · have e2 : (((mainsF ns k).map Stg.vs).map td).isEmpty = false := by
              cases h : mainsF ns k with
              | nil => exact absurd h c2
              | cons _ _ => rfl
            walk_at "rd"
            refine ⟨as, _, _, rfl, ?_⟩
            rw [addF (fun c => c.elim c1 fun c => c2 c.1)]
            exact n2
      · rintro σ' H2 ⟨as2, x3, x5, rfl, n2⟩
        have N0 : 0 ≤ N := by rw [← hM]; exact mixF_nonneg ns _
        have hl := n2.lst
        have hlen : (as2.map V.ref).length < 100000 := by
          rw [List.length_map, n2.len, List.length_map]
          unfold addNone
          split
          · rw [List.length_append, List.length_singleton]
            omega
          · omega
        have q2 : ∀ as H', NewT H H' l as ((addOver N (addNone N (mainsF ns k))).map Stg.vs) → Q (.ref l) H' := fun as H' n => q l as H' (by
          unfold stagesF
          rw [hM]
          exact n)
        by_cases c1 : 0 < N % 3
        · have e1 : addOver N (addNone N (mainsF ns k)) = addNone N (mainsF ns k) ++ [.over (1 + N / 7000 % 4) (1 + N / 28000 % 12)] := if_pos c1
          rw [e1, List.map_append] at q2
          walk_at "rd"
          intro t nt
          have nlt : l ≠ t := ne_of_none hl nt
          walk_at "rd"
          exact q2 _ _ (n2.push (Same.refl _) nt)
        · have e1 : addOver N (addNone N (mainsF ns k)) = addNone N (mainsF ns k) := if_neg c1
          rw [e1] at q2
          walk_at "rd"
          exact q2 _ _ n2
end
/-! ### the drawn stages pass the look -/
structure MB (t : Int) (w : Str) (e : Int) : Prop where
  t1 : 1 ≤ t
  t2 : t ≤ 1000000
  w : inV (.str w) ways4 = true
  e0 : 0 ≤ e
  e1 : e ≤ 1000000
theorem okAt_main {ss : List Stg} {i : Nat} {j t e : Int} {w : Str} (h : ss[i]? = some (.main (some j) t w e)) (hi : i + 1 < ss.length) (b : MB t w e) (j1 : 1 ≤ j) (j2 : j ≤ 200) : okAt (ss.map Stg.rs) i = true := by
  unfold okAt
  rw [List.getElem?_map, h, List.length_map]
  have hn : ¬ (i + 1 = ss.length) := by omega
  simp [Stg.rs, mainOk, b.t1, b.t2, b.w, b.e0, b.e1, j1, j2, hn]
theorem okAt_none {ss : List Stg} {i : Nat} {t e : Int} {w : Str} (h : ss[i]? = some (.main none t w e)) (hn : i + 1 = ss.length ∨ ∃ p q, ss[i + 1]? = some (.over p q)) (b : MB t w e) : okAt (ss.map Stg.rs) i = true := by
  unfold okAt
  rw [List.getElem?_map, h, List.length_map, List.getElem?_map]
  rcases hn with hn | ⟨p, q, hn⟩
  · simp [Stg.rs, mainOk, b.t1, b.t2, b.w, b.e0, b.e1, hn]
  · simp [Stg.rs, mainOk, b.t1, b.t2, b.w, b.e0, b.e1, hn, RS.w]
theorem okAt_over {ss : List Stg} {i : Nat} {p t : Int} (h : ss[i]? = some (.over p t)) (hi : i + 1 = ss.length) (p1 : 1 ≤ p) (p2 : p ≤ 200) (t1 : 1 ≤ t) (t2 : t ≤ 1000000) : okAt (ss.map Stg.rs) i = true := by
  unfold okAt
  rw [List.getElem?_map, h, List.length_map]
  simp [Stg.rs, hi, p1, p2, t1, t2]
def MainB (s : Stg) : Prop := ∃ j t w e, s = .main (some j) t w e ∧ MB t w e ∧ 1 ≤ j ∧ j ≤ 200
inductive TailB : List Stg → Prop
  | n {t e : Int} {w : Str} (b : MB t w e) : TailB [.main none t w e]
  | o {p t : Int} (p1 : 1 ≤ p) (p2 : p ≤ 200) (t1 : 1 ≤ t) (t2 : t ≤ 1000000) : TailB [.over p t]
  | no {t e : Int} {w : Str} {p q : Int} (b : MB t w e) (p1 : 1 ≤ p) (p2 : p ≤ 200) (t1 : 1 ≤ q) (t2 : q ≤ 1000000) : TailB [.main none t w e, .over p q]
theorem look_ok {ms tl : List Stg} (hm : ∀ s, s ∈ ms → MainB s) (hl : ms.length ≤ 3) (ht : TailB tl) : lookR ((ms ++ tl).map Stg.rs) = true := by
  have t0 : 1 ≤ tl.length ∧ tl.length ≤ 2 := by cases ht <;> simp
  have L : (ms ++ tl).length = ms.length + tl.length := List.length_append
  unfold lookR
  have hall : (List.range ((ms ++ tl).map Stg.rs).length).all (okAt ((ms ++ tl).map Stg.rs)) = true := by
    refine List.all_eq_true.mpr fun i hi => ?_
    rw [List.mem_range, List.length_map, L] at hi
    by_cases hi2 : i < ms.length
    · have e1 : (ms ++ tl)[i]? = some ms[i] := by rw [List.getElem?_append_left hi2, List.getElem?_eq_getElem hi2]
      obtain ⟨j, t, w, e, es, b, j1, j2⟩ := hm ms[i] (List.getElem_mem hi2)
      rw [es] at e1
      exact okAt_main e1 (by omega) b j1 j2
    · have e1 : (ms ++ tl)[i]? = tl[i - ms.length]? := List.getElem?_append_right (by omega)
      have e2 : (ms ++ tl)[i + 1]? = tl[i + 1 - ms.length]? := List.getElem?_append_right (by omega)
      cases ht with
      | n b =>
        have hi3 : i - ms.length = 0 := by simp at hi; omega
        rw [hi3] at e1
        exact okAt_none e1 (.inl (by rw [L]; simp at hi ⊢; omega)) b
      | o p1 p2 t1 t2 =>
        have hi3 : i - ms.length = 0 := by simp at hi; omega
        rw [hi3] at e1
        exact okAt_over e1 (by rw [L]; simp at hi ⊢; omega) p1 p2 t1 t2
      | no b p1 p2 t1 t2 =>
        by_cases hi4 : i = ms.length
        · have hi3 : i - ms.length = 0 := by omega
          have hi5 : i + 1 - ms.length = 1 := by omega
          rw [hi3] at e1
          rw [hi5] at e2
          exact okAt_none e1 (.inr ⟨_, _, e2⟩) b
        · have hi3 : i - ms.length = 1 := by simp at hi; omega
          rw [hi3] at e1
          exact okAt_over e1 (by rw [L]; simp at hi ⊢; omega) p1 p2 t1 t2
  rw [hall, List.length_map, L]
  have h1 : 1 ≤ ms.length + tl.length := by omega
  have h2 : ms.length + tl.length ≤ 5 := by omega
  simp [h1, h2]
theorem way4_in (i : Int) : inV (.str (way4 i)) ways4 = true := by
  unfold way4
  split <;> decide +kernel
theorem mains_B (ns : List Int) (k : Int) : ∀ s, s ∈ mainsF ns k → MainB s := fun s hs => by
  obtain ⟨j, hj, rfl⟩ := List.mem_map.mp hs
  have m0 := mixF_nonneg ns (k + 1 + j)
  exact ⟨_, _, _, _, rfl, ⟨by omega, by omega, way4_in _, by omega, by omega⟩, by omega, by omega⟩
theorem stages_split (ns : List Int) (k : Int) : ∃ tl, stagesF ns k = mainsF ns k ++ tl ∧ TailB tl := by
  have N0 := mixF_nonneg ns (k + 4)
  unfold stagesF addNone addOver
  generalize mixF ns (k + 4) = N at *
  have bn : MB (1 + N / 12 % 60) (way4 (N / 3 % 4)) (N / 720 % 9) := ⟨by omega, by omega, way4_in _, by omega, by omega⟩
  by_cases c1 : N % 3 < 2 ∨ (mainsF ns k = [] ∧ N / 3 % 2 = 0)
  · rw [if_pos c1]
    by_cases c2 : 0 < N % 3
    · rw [if_pos c2]
      exact ⟨_, List.append_assoc .., .no bn (by omega) (by omega) (by omega) (by omega)⟩
    · rw [if_neg c2]
      exact ⟨_, rfl, .n bn⟩
  · rw [if_neg c1]
    have c2 : 0 < N % 3 := by
      have : ¬ N % 3 < 2 := fun z => c1 (.inl z)
      omega
    rw [if_pos c2]
    exact ⟨_, rfl, .o (by omega) (by omega) (by omega) (by omega)⟩
theorem mains_len (ns : List Int) (k : Int) : (mainsF ns k).length ≤ 2 := by
  unfold mainsF
  rw [List.length_map, List.length_range]
  have := mixF_nonneg ns k
  omega
theorem stages_look (ns : List Int) (k : Int) : lookR ((stagesF ns k).map Stg.rs) = true := by
  obtain ⟨tl, e, t⟩ := stages_split ns k
  rw [e]
  exact look_ok (mains_B ns k) (Nat.le_trans (mains_len ns k) (by decide)) t
theorem rs_toS (ss : List Stg) : (ss.map Stg.rs).map RS.toS = ss := by
  rw [List.map_map]
  have : (RS.toS ∘ Stg.rs) = id := by
    funext s
    cases s <;> rfl
  rw [this, List.map_id]
theorem stages_good (ns : List Int) (k : Int) : GoodS (stagesF ns k) := by
  have h := (lookR_good (stages_look ns k)).2
  rw [rs_toS] at h
  exact h
/-! ### the drawn deeds -/
def gw (b : Bool) : Str := match b with
  | true => "give1"
  | false => "give0"
def Deed.word : Deed → Str
  | .go _ => "go"
  | .press _ => "press"
  | .start => "start"
  | .stop => "stop"
  | .give b _ => gw b
def Deed.num : Deed → Int
  | .go n => n
  | .press b => ti b
  | .start => 0
  | .stop => 0
  | .give _ n => n
def Deed.vs (d : Deed) : List V := [.str d.word, .int d.num]
abbrev nine : List V := [.int 0, .int 1, .int 2, .int 3, .int 5, .int 9, .int 25, .int 100, .int 1]
abbrev six : List V := [.int 3, .int (-2), .int 50, .int (-100), .int 9999970, .int (-1)]
def pick9 (i : Int) : Int := match i.toNat with
  | 0 => 0 | 1 => 1 | 2 => 2 | 3 => 3 | 4 => 5 | 5 => 9 | 6 => 25 | 7 => 100 | _ => 1
def pick6 (i : Int) : Int := match i.toNat with
  | 0 => 3 | 1 => -2 | 2 => 50 | 3 => -100 | 4 => 9999970 | _ => -1
theorem at9 {i : Int} (h0 : 0 ≤ i) (h1 : i < 9) : atI nine i = some (.int (pick9 i)) := by
  have h : i = 0 ∨ i = 1 ∨ i = 2 ∨ i = 3 ∨ i = 4 ∨ i = 5 ∨ i = 6 ∨ i = 7 ∨ i = 8 := by omega
  rcases h with rfl | rfl | rfl | rfl | rfl | rfl | rfl | rfl | rfl <;> rfl
theorem at6 {i : Int} (h0 : 0 ≤ i) (h1 : i < 6) : atI six i = some (.int (pick6 i)) := by
  have h : i = 0 ∨ i = 1 ∨ i = 2 ∨ i = 3 ∨ i = 4 ∨ i = 5 := by omega
  rcases h with rfl | rfl | rfl | rfl | rfl | rfl <;> rfl
theorem pick9_le (i : Int) : 0 ≤ pick9 i ∧ pick9 i ≤ 100 := by
  unfold pick9
  split <;> exact ⟨by decide, by decide⟩
def deedStep (n : Int) (t : Bool) : Deed × Bool :=
  if n % 10 < 4 then (.go (pick9 (n / 10 % 9)), t)
  else if n % 10 < 8 then (if n / 10 % 9 = 0 then (.press (!t), t) else (.press t, !t))
  else if n % 10 = 8 then (if n / 10 % 2 = 0 then .stop else .start, t)
  else (.give (decide (n / 10 % 2 = 1)) (pick6 (n / 20 % 6)), t)
def deedsF (ns : List Int) (k : Int) : Nat → List Deed × Bool
  | 0 => ([], false)
  | m + 1 => ((deedsF ns k m).1 ++ [(deedStep (mixF ns (k + m)) (deedsF ns k m).2).1], (deedStep (mixF ns (k + m)) (deedsF ns k m).2).2)
theorem deedsF_len (ns : List Int) (k : Int) : ∀ m, (deedsF ns k m).1.length = m
  | 0 => rfl
  | m + 1 => by
    show ((deedsF ns k m).1 ++ [_]).length = m + 1
    rw [List.length_append, deedsF_len ns k m]
    rfl
/-- what is asked of a deed: ticks that go by are few -/
def DeedB : Deed → Prop
  | .go n => -1 ≤ n ∧ n ≤ 100
  | _ => True
theorem deedsF_B (ns : List Int) (k : Int) : ∀ m d, d ∈ (deedsF ns k m).1 → DeedB d
  | 0, d, h => by simp [deedsF] at h
  | m + 1, d, h => by
    rcases List.mem_append.mp h with h | h
    · exact deedsF_B ns k m d h
    · rw [List.mem_singleton.mp h]
      unfold deedStep
      split
      · have := pick9_le (mixF ns (k + m) / 10 % 9)
        exact ⟨by omega, this.2⟩
      · split
        · split <;> trivial
        · split
          · show DeedB (if mixF ns (k + m) / 10 % 2 = 0 then .stop else .start)
            split <;> trivial
          · trivial
theorem ti_not (b : Bool) : 1 - ti b = ti (!b) := by cases b <;> rfl
def spDeeds (K : PySem.W.Frag) : Sp := fun vs H Q _ => ∃ a ns k, ∃ m : Nat, vs = [.ref a, .int k, .int m] ∧ SqL K H a (ns.map V.int) ∧ m ≤ 30 ∧ ∀ l as H', NewT H H' l as ((deedsF ns k m).1.map Deed.vs) → Q (.ref l) H'
section
variable {P : Program} {w : World} {K : PySem.W.Frag} {mg : Str → Option Value} {base : Heap} {CS CC cE cB cT cN cO aW : Addr} (T : Txt K mg CS CC cE cB cT cN cO aW)
include T
theorem ok_deeds (c__law_mix : CalX P w K mg base CX0 2 "_law_mix" (spMix K)) (d : FDef K mg "_law_deeds" s_law_deeds ["_law_script", "_law_k", "_law_many"]) : CalX P w K mg base CX0 3 "_law_deeds" (spDeeds K) := by
  refine CalX.of0 d sc_law_deeds (fun vs H Q E h => ?_) (fun f cdv A outer s H vs Q E hr h => ?_)
  · obtain ⟨a, ns, k, m, rfl, _⟩ := h
    rfl
  · obtain ⟨a, ns, k, m, rfl, hS, hm, q⟩ := h
    refine ⟨_, (pss_cons (ps_set (i := 3) sc_law_deeds.nd rfl (Or.inl rfl) (pe_lst pa_nil))
 (pss_cons (ps_set (i := 4) sc_law_deeds.nd rfl (Or.inl rfl) pe_int)
 (pss_cons (ps_for PassesOwn.never rfl (pi_range1 rfl T.b_range (pa_cons (pv 2) pa_nil)) (pg_name (i := 5) sc_law_deeds.nd rfl (Or.inl rfl)) (pss_cons (ps_set (i := 6) sc_law_deeds.nd rfl (Or.inl rfl) (pe_cX c__law_mix hr (by decide) rfl pass0 (pa_cons (pv 0) (pa_cons (pe_op op_add (pv 1) (pv 5)) pa_nil))))
 (pss_cons (ps_set (i := 7) sc_law_deeds.nd rfl (Or.inl rfl) (pe_op op_mod (pv 6) pe_int))
 (pss_one (ps_if (pt_cmpR op_lt (pv 7) pe_int (nomark _)) (pss_one (ps_expr (pe_bm PySem.F.plainAttrs_list PySem.F.slot_list_append PySem.F.type_list_append mt_append (pv 3) (pa_cons (pe_tup (pa_cons pe_str (pa_cons (pe_ix ix_list (pe_lst (pa_cons pe_int (pa_cons pe_int (pa_cons pe_int (pa_cons pe_int (pa_cons pe_int (pa_cons pe_int (pa_cons pe_int (pa_cons pe_int (pa_cons pe_int pa_nil)))))))))) (pe_op op_mod (pe_op op_fdiv (pv 6) pe_int) pe_int) (fun _ _ => rfl)) pa_nil))) pa_nil)))) (pss_one (ps_if (pt_cmpR op_lt (pv 7) pe_int (nomark _)) (pss_cons (ps_set (i := 4) sc_law_deeds.nd rfl (Or.inl rfl) (pe_ifExp (pt_cmpR op_eq (pe_op op_mod (pe_op op_fdiv (pv 6) pe_int) pe_int) pe_int (nomark _)) (pe_op op_sub pe_int (pv 4)) (pv 4)))
 (pss_cons (ps_expr (pe_bm PySem.F.plainAttrs_list PySem.F.slot_list_append PySem.F.type_list_append mt_append (pv 3) (pa_cons (pe_tup (pa_cons pe_str (pa_cons (pv 4) pa_nil))) pa_nil)))
 (pss_one (ps_set (i := 4) sc_law_deeds.nd rfl (Or.inl rfl) (pe_op op_sub pe_int (pv 4)))))) (pss_one (ps_if (pt_cmpR op_eq (pv 7) pe_int (nomark _)) (pss_one (ps_expr (pe_bm PySem.F.plainAttrs_list PySem.F.slot_list_append PySem.F.type_list_append mt_append (pv 3) (pa_cons (pe_tup (pa_cons (pe_ix ix_list (pe_lst (pa_cons pe_str (pa_cons pe_str pa_nil))) (pe_op op_mod (pe_op op_fdiv (pv 6) pe_int) pe_int) (fun _ _ => rfl)) (pa_cons pe_int pa_nil))) pa_nil)))) (pss_one (ps_expr (pe_bm PySem.F.plainAttrs_list PySem.F.slot_list_append PySem.F.type_list_append mt_append (pv 3) (pa_cons (pe_tup (pa_cons (pe_op op_add_str pe_str (pe_callTy call_str_int (by rfl) T.b_str (by decide +kernel) (pa_cons (pe_op op_mod (pe_op op_fdiv (pv 6) pe_int) pe_int) pa_nil))) (pa_cons (pe_ix ix_list (pe_lst (pa_cons pe_int (pa_cons (pe_un un_neg pe_int) (pa_cons pe_int (pa_cons (pe_un un_neg pe_int) (pa_cons pe_int (pa_cons (pe_un un_neg pe_int) pa_nil))))))) (pe_op op_mod (pe_op op_fdiv (pv 6) pe_int) pe_int) (fun _ _ => rfl)) pa_nil))) pa_nil)))))))))))))
 (pss_one (ps_ret (pv 3)))))), ?_⟩
    walk_at "rd"
    intro l nl
    walk_at "rd"
    have n0 := NewT.start (H := H) nl
    refine k_forR (n := m) (fun i σ' H' => ∃ as x5 x6 x7, σ' = [some (.ref a), some (.int k), some (.int m), some (.ref l), some (.int (ti (deedsF ns k i).2)), x5, x6, x7] ∧ NewT H H' l as ((deedsF ns k i).1.map Deed.vs)) (by have z : (30 : Int) < 2 ^ 62 := (by decide); omega)
      ⟨[], _, _, _, rfl, n0⟩ (fun i σ' H' hi hP => ?_) (fun σ' H' hP => ?_)
    · obtain ⟨as, x5, x6, x7, rfl, n⟩ := hP
      walk_at "rd"
      refine ⟨a, ns, _, rfl, n.sm.seq hS, ?_⟩
      walk_at "rd"
      have hl := n.lst
      have hlen : (as.map V.ref).length < 100000 := by
        rw [List.length_map, n.len, List.length_map, deedsF_len]
        omega
      have fin : ∀ (dd : Deed) (b : Bool), deedStep (mixF ns (k + i)) (deedsF ns k i).2 = (dd, b) → ∀ t H2, Same H' H2 → H2 t = none →
          NewT H (upd (upd H2 t (.tup dd.vs)) l (.lst (as.map V.ref ++ [.ref t]))) l (as ++ [t]) ((deedsF ns k (i + 1)).1.map Deed.vs) ∧ (deedsF ns k (i + 1)).2 = b := fun dd b e t H2 hs nt => by
        constructor
        · show NewT H _ l (as ++ [t]) (((deedsF ns k i).1 ++ [(deedStep (mixF ns (k + i)) (deedsF ns k i).2).1]).map Deed.vs)
          rw [e, List.map_append]
          exact n.push hs nt
        · show (deedStep (mixF ns (k + i)) (deedsF ns k i).2).2 = b
          rw [e]
      have N0 := mixF_nonneg ns (k + i)
      unfold deedStep at fin
      generalize mixF ns (k + i) = N at *
      generalize (deedsF ns k i).2 = tb at *
      by_cases c1 : N % 10 < 4
      · rw [if_pos c1] at fin
        walk_at "rd"
        intro p np
        have nlp : l ≠ p := ne_of_none hl np
        have hx := at9 (i := N / 10 % 9) (by omega) (by omega)
        walk_at "rd"
        intro t nt
        have nlt : l ≠ t := ne_of_none (Same.new np _ _ hl) nt
        walk_at "rd"
        have e := fin _ _ rfl t _ (Same.new (o := .lst nine) np) nt
        exact ⟨as ++ [t], _, _, _, by rw [e.2]; rfl, e.1⟩
      · rw [if_neg c1] at fin
        walk_at "rd"
        by_cases c2 : N % 10 < 8
        · rw [if_pos c2] at fin
          walk_at "rd"
          by_cases c3 : N / 10 % 9 = 0
          · rw [if_pos c3] at fin
            walk_at "rd"
            rw [ti_not]
            intro t nt
            have nlt : l ≠ t := ne_of_none hl nt
            walk_at "rd"
            have e := fin _ _ rfl t _ (Same.refl _) nt
            exact ⟨as ++ [t], _, _, _, by rw [e.2, ti_not, Bool.not_not]; rfl, e.1⟩
          · rw [if_neg c3] at fin
            walk_at "rd"
            intro t nt
            have nlt : l ≠ t := ne_of_none hl nt
            walk_at "rd"
            have e := fin _ _ rfl t _ (Same.refl _) nt
            exact ⟨as ++ [t], _, _, _, by rw [e.2, ti_not]; rfl, e.1⟩
        · rw [if_neg c2] at fin
          walk_at "rd"
          by_cases c4 : N % 10 = 8
          · rw [if_pos c4] at fin
            walk_at "rd"
            intro p np
            have nlp : l ≠ p := ne_of_none hl np
            by_cases c5 : N / 10 % 2 = 0
            · rw [if_pos c5] at fin
              have hx2 : atI [V.str "stop", V.str "start"] (N / 10 % 2) = some (.str "stop") := by rw [c5]; rfl
              walk_at "rd"
              intro t nt
              have nlt : l ≠ t := ne_of_none (Same.new np _ _ hl) nt
              walk_at "rd"
              have e := fin _ _ rfl t _ (Same.new (o := .lst [.str "stop", .str "start"]) np) nt
              exact ⟨as ++ [t], _, _, _, by rw [e.2]; rfl, e.1⟩
            · rw [if_neg c5] at fin
              have c6 : N / 10 % 2 = 1 := by omega
              have hx2 : atI [V.str "stop", V.str "start"] (N / 10 % 2) = some (.str "start") := by rw [c6]; rfl
              walk_at "rd"
              intro t nt
              have nlt : l ≠ t := ne_of_none (Same.new np _ _ hl) nt
              walk_at "rd"
              have e := fin _ _ rfl t _ (Same.new (o := .lst [.str "stop", .str "start"]) np) nt
              exact ⟨as ++ [t], _, _, _, by rw [e.2]; rfl, e.1⟩
          · rw [if_neg c4] at fin
            walk_at "rd"
            have hx := at6 (i := N / 20 % 6) (by omega) (by omega)
            obtain ⟨b, hb, hbw⟩ : ∃ b : Bool, N / 10 % 2 = ti b ∧ ("give" : Str) ++ (Str.ofString (toString (ti b))) = gw b := by
              by_cases c5 : N / 10 % 2 = 0
              · exact ⟨false, c5, by decide +kernel⟩
              · exact ⟨true, (show N / 10 % 2 = 1 by omega), by decide +kernel⟩
            have hbd : decide (N / 10 % 2 = 1) = b := by
              rw [hb]
              cases b <;> rfl
            rw [hbd] at fin
            rw [hb]
            refine k_strI (by cases b <;> decide) ?_
            walk_at "rd"
            refine k_addS (by rw [sizeLine_eq]; cases b <;> decide +kernel) ?_
            rw [hbw]
            walk_at "rd"
            intro p np
            have nlp : l ≠ p := ne_of_none hl np
            walk_at "rd"
            intro t nt
            have nlt : l ≠ t := ne_of_none (Same.new np _ _ hl) nt
            walk_at "rd"
            have e := fin _ _ rfl t _ (Same.new (o := .lst six) np) nt
            exact ⟨as ++ [t], _, _, _, by rw [e.2]; rfl, e.1⟩
    · obtain ⟨as, x5, x6, x7, rfl, n⟩ := hP
      walk_at "rd"
      exact q _ _ _ n
end
/-! ### an error that is kept behind its except suite: it is tracked from the catch on -/
def ExT (cls : Value) (d : Option Addr) (a : Addr) : HO := .ext fun h => ∃ (oe : Obj) (vs : Array Value), h.get? a = some oe ∧ Zc cls d oe ∧ oe.data = .fields vs
theorem exT_ok {P : Program} {w : World} {H : Hp} {h : Heap} {a : Addr} {cls : Value} {d : Option Addr} {oe : Obj} {vs : Array Value} (e : h.get? a = some oe) (z : Zc cls d oe) (dd : oe.data = .fields vs) : ObjOk P w H h a (ExT cls d a) :=
  ⟨⟨oe, vs, e, z, dd⟩, ⟨oe, e⟩, fun _ _ p k => by
    obtain ⟨o, v, q, r⟩ := p
    exact ⟨o, v, k o q, r⟩⟩
section
variable {X : Cx} {pins : List (Addr × Obj)} {σ : L2.St} {H : Hp} {s sI : Shared}
/-- an object of ours that nobody tracks is tracked from here on -/
theorem track {a : Addr} {o : HO} (I : Inv X pins σ H s) (hn : H a = none) (n0 : ∀ u, X.s_0.heap.get? a = some u → False) (nL : a ≠ X.env.locals) (nC : ∀ x c, X.env.cells.lookup x = some c → c ≠ a) (nP : ∀ p, p ∈ X.pn ++ pins → p.1 ≠ a)
    (ok : ObjOk X.prog X.w (upd H a o) s.heap a o) : Inv X pins σ (upd H a o) s := by
  have ne : ∀ b u, H b = some u → b ≠ a := fun b u e => ne_of_none e hn
  obtain ⟨i1, i2, i3, B, i5, i6, i7, i8, i9, i10, i11⟩ := I
  refine ⟨i1, i2, i3, ⟨B.keep, B.slot, fun b u e n hx => ?_, B.there, fun b xs e => ?_, fun b u v e => ?_, fun b ps e => ?_⟩, i5, i6, ?_, fun x c e => ?_, fun p hp => ?_, fun b u e => ?_, i11⟩
  · rw [upd_ne (fun z => by rw [z] at e; exact n0 u e)]
    exact B.free b u e n hx
  · have z := B.tups b xs e
    rw [upd_ne (ne _ _ z)]
    exact z
  · have z := B.frzs b u v e
    rw [upd_ne (ne _ _ z)]
    exact z
  · obtain ⟨m, z⟩ := B.tbls b ps e
    exact ⟨m, by rw [upd_ne (ne _ _ z)]; exact z⟩
  · rw [upd_ne (Ne.symm nL)]
    exact i7
  · rw [upd_ne (nC x c e)]
    exact i8 x c e
  · obtain ⟨e1, e2, e3⟩ := i9 p hp
    exact ⟨e1, by rw [upd_ne (nP p hp)]; exact e2, e3⟩
  · by_cases hb : b = a
    · subst hb
      rw [upd_same] at e
      cases e
      exact ok
    · rw [upd_ne hb] at e
      exact (i10 b u e).stay (fun c v _ q => q) (fun c q => by rw [upd_ne (ne _ _ q)]; exact q) fun c xs q => by rw [upd_ne (ne _ _ q)]; exact q
/-- into an except suite that pins nothing more -/
theorem Inv.suite0 (I : Inv X pins σ H s) (a : Addr) : Inv (X.suite a (X.pn ++ pins)) [] σ H s :=
  ⟨I.ok.suite _ _, I.os, I.bare, I.base, I.loc, I.cell, I.free, I.freeC, fun p hp => I.pin p (by rw [List.append_nil] at hp; exact hp), I.hok, I.len⟩
theorem Inv.unsuite0 {a : Addr} {q : List (Addr × Obj)} (I : Inv (X.suite a (X.pn ++ pins)) q σ H s) (ok : X.Ok) : Inv X pins σ H s :=
  ⟨ok, I.os, I.bare, I.base, I.loc, I.cell, I.free, I.freeC, fun p hp => I.pin p (List.mem_append_left _ hp), I.hok, I.len⟩
end
/-- what the clause wishes of an error of the body: slot i is its name's -/
def wKeep (K : PySem.W.Frag) (c : Value) (i : Nat) (ts : Addr → Value → Option Addr → TS) (Wout : WX) (D : Ends) : WX := fun cls d σ H =>
  ∃ b, PySem.W.exmOne K cls c = some b ∧ (b = true → ∀ a, H a = none → ts a cls d ⟨fun σ' H' => D.nx (σ'.set i none) H', D.rt, fun σ' H' => D.bk (σ'.set i none) H', fun σ' H' => D.ct (σ'.set i none) H'⟩ (σ.set i (some (.ref a))) (upd H a (ExT cls d a))) ∧
    (b = false → Wout cls d σ H)
section
variable {X : Cx} {x n : Str} {c : Value} {i : Nat} {body suite : List Stmt} {b₀ : Stmt} {np pos pos' : Pos} {tb : WX → TS} {ts : Addr → Value → Option Addr → TS} {Wout : WX}
theorem ps_try_keep (hs : X.stack = X.env :: X.outer) (hf : X.env.frame = some X.env.locals) (hN : X.N.Nodup) (hi : X.N[i]? = some n) (hln : X.env.kindOf n = some .local) (hc : Names X x c) (tk : Takes X Wout)
    (hb : ∀ (W : WX) (pn : List (Addr × Obj)) (xe : Value → Shared → Prop), Takes (X.tr pn xe) W → PassesOwn (model X.prog X.w) X.A X.env xe → PSs (X.tr pn xe) body (tb W))
    (hsu : ∀ (a : Addr) (cls : Value) (d : Option Addr) (pn : List (Addr × Obj)), PSs (X.suite a pn) (b₀ :: suite) (ts a cls d)) (hex : X.ex = [] := by rfl) :
    PS X (.Try body [.ExceptHandler (some (.Name x np)) (some n) (b₀ :: suite) pos'] [] [] pos) (fun D σ H => tb (wKeep X.K c i ts Wout D) D σ H) := by
  refine ⟨fun pins s σ H D I h => ?_⟩
  have okX := I.ok
  have frX : X.A.frames = some (X.env :: X.outer) := by rw [okX.frames, hs]
  refine wpAny_Try_except ?_
  refine wpAny_mono ((hb (wKeep X.K c i ts Wout D) (X.pn ++ pins) (fun e s₁ => wpAny (model X.prog X.w) X.A (noteFrame e X.env) (fun _ s₂ => wpAny (model X.prog X.w) X.A (setFlight e none) (fun _ s₃ =>
    wpAny (model X.prog X.w) X.A (handleBy e X.env [.ExceptHandler (some (.Name x np)) (some n) (b₀ :: suite) pos']) (SP X pins D) X.xe s₃) X.xe s₂) X.xe s₁) (fun u s' air => ?_) PassesOwn.looking).run [] s σ H D (I.toTry _) h) (fun f s1 hsp => ?_) (fun e s1 he => he)
  · obtain ⟨a, B, sI, pins', σ', H', cls, d, rfl, J', nb, up, sky, na, os, ag, b, hb1, hyes, hno⟩ := air
    have J : Inv X pins σ' H' sI := J'.ofTry okX
    rw [hs] at sky
    show wpAny (model X.prog X.w) X.A (noteFrame (.ref a) X.env) _ _ _
    refine Sky.land Zc.steady frX hf sky fun h3 fl3 up3 => ?_
    have J3 : Inv X pins σ' H' { s' with heap := h3 } := J.landed nb fl3.1 (up.trans up3) os ag
    have out : ∀ {hp : Heap}, HandSPX.FlyingZ B (X.env :: X.outer) a (Zc cls d) hp → ∃ oe vs, hp.get? a = some oe ∧ Zc cls d oe ∧ oe.data = .fields vs ∧ a ∉ frs (X.env :: X.outer) := fun {hp} fl => by
      obtain ⟨oe, vs, he, hz, hd⟩ := fl.there
      refine ⟨oe, vs, he, hz, hd, fun hm => ?_⟩
      obtain ⟨_, o', e', hnf⟩ := fl.2.2.1.mem hm
      rw [he] at e'
      cases e'
      exact hnf _ hd
    obtain ⟨oe3, vs3, he3, hz3, hd3, nfr⟩ := out fl3
    have nL : a ≠ X.env.locals := fun z => nfr (List.mem_filterMap.mpr ⟨X.env, List.mem_cons_self, by rw [hf, z]⟩)
    have nI : ∀ u, sI.heap.get? a = some u → False := fun u e => by
      have z := nb a u e (by rw [hs]; exact nfr)
      rw [fl3.2.1] at z
      cases z
    have n0 : ∀ u, X.s_0.heap.get? a = some u → False := fun u e => by
      obtain ⟨o', e'⟩ := J.base.there a u e (by rw [hex]; exact fun z => nomatch z)
      exact nI o' e'
    have nC : ∀ y k, X.env.cells.lookup y = some k → k ≠ a := fun y k e z => by
      obtain ⟨v, o, ho, _⟩ := J.cell y k e
      rw [z] at ho
      exact nI o ho
    have nP : ∀ p, p ∈ X.pn ++ pins → p.1 ≠ a := fun p hp z => by
      have q := (J.pin p hp).1
      rw [z] at q
      exact nI _ q
    have S3 := Inv.suite0 J3 a
    refine wpAny_handleBy_cons (codeAny_handlers_test ?_) (by intro q; cases q)
    have LT : PySem.W.Looks (model X.prog X.w) h3 (typeOf (.ref a)) cls := fun A Q E s k q => wpAny_typeOf_ref (k _ _ he3) (by rw [hz3.1]; exact q)
    have LM := PySem.W.exm_one (M := model X.prog X.w) (J3.kIn) LT hb1
    have nm : ∀ {Q : Value → Shared → Prop} {E : Value → Shared → Prop}, Q c { s' with heap := h3 } → wpAny (model X.prog X.w) (X.A.mark (some (.ref a))) (eval (.Name x np) X.env) Q E { s' with heap := h3 } := fun {Q E} q => by
      obtain ⟨hg, hdbg, hm | ⟨hm, hv, hnn⟩⟩ := hc
      · exact ld_glob (X := X.suite a (X.pn ++ pins)) S3 hg hm q hdbg
      · exact ld_blt (X := X.suite a (X.pn ++ pins)) S3 hg hm hv q hnn hdbg
    refine nm (LM.here ?_)
    cases b with
    | true =>
      refine codeAny_handlers_suite_as ?_
      refine HandSPX.lands_againZ fl3 fun h4 fl4 up4 => ?_
      have J4 : Inv X pins σ' H' { s' with heap := h4 } := J.landed nb fl4.1 ((up.trans up3).trans up4) os ag
      obtain ⟨oe4, vs4, he4, hz4, hd4, _⟩ := out fl4
      have J5 := track J4 na n0 nL nC nP (exT_ok (d := d) he4 hz4 hd4)
      have S5 := Inv.suite0 J5 a
      refine store_ok (X := X.suite a (X.pn ++ pins)) (v := .ref a) S5 hN hi (.inl hln) rfl (fun s5 S6 => ?_) (.inr hln)
      refine wpAny_mono ((hsu a cls d (X.pn ++ pins)).run [] s5 _ _ _ S6 (hyes rfl a na)) (fun f s6 hsp => ?_) (fun _ _ z => False.elim z)
      have fin : ∀ {σ6 : L2.St} {H6 : Hp} {Q : Shared → Prop}, Inv (X.suite a (X.pn ++ pins)) [] σ6 H6 s6 → (∀ s7, Inv X pins (σ6.set i none) H6 s7 → Q s7) →
          wpAny (model X.prog X.w) X.A (do bindName X.env n .none; unbindBehindTheSuite X.env n pos') (fun _ s7 => Q s7) X.xe s6 := fun {σ6 H6 Q} S7 hq => gone_ok (Inv.unsuite0 S7 okX) hN hi hln hq
      cases f with
      | next =>
        obtain ⟨σ6, H6, S7, q6⟩ := hsp
        exact fin S7 fun s7 J7 => ⟨_, _, J7, q6⟩
      | brk =>
        obtain ⟨σ6, H6, S7, q6⟩ := hsp
        exact fin S7 fun s7 J7 => ⟨_, _, J7, q6⟩
      | cont =>
        obtain ⟨σ6, H6, S7, q6⟩ := hsp
        exact fin S7 fun s7 J7 => ⟨_, _, J7, q6⟩
      | ret u =>
        obtain ⟨v6, σ6, H6, S7, r6, q6⟩ := hsp
        exact fin S7 fun s7 J7 => ⟨_, _, _, J7, r6, q6⟩
    | false =>
      show wpAny _ X.A (handleBy (.ref a) X.env []) _ _ _
      refine wpAny_handleBy_nil ?_
      obtain ⟨k1, k2, k3, oe, vs, TT, oT, ts', he, hz, hd, h1, hr⟩ := id fl3
      unfold PySem.passOn
      refine wpAny_bind (wpAny_field he hd h1 ?_)
      rw [if_neg (show ¬ ((Value.ref TT == Value.none) = true) from by simp)]
      have far : wpAny (model X.prog X.w) X.A (setFlight (.ref a) X.env.frame) (fun _ s4 => wpAny (model X.prog X.w) X.A (throw (.ref a) : Sem Flow) (SP X pins D) X.xe s4) X.xe { s' with heap := h3 } := by
        rw [hf]
        refine HandSPX.setFlight_upZ fl3 fun h4 hh4 up4 => wpAny_throw (tk _ _ ?_)
        exact ⟨a, B, sI, pins, σ', H', cls, d, rfl, J, nb, (up.trans up3).trans up4, .inr (.inr (by rw [hs]; exact hh4)), na, os, ag, hno rfl⟩
      first
        | exact wpAny_bind (wpAny_pure (wpAny_bind far))
        | exact wpAny_bind far
  · cases f with
    | next =>
      obtain ⟨σ', H', J', q⟩ := hsp
      exact wpAny_execs_nil ⟨σ', H', J'.ofTry okX, q⟩
    | brk =>
      obtain ⟨σ', H', J', q⟩ := hsp
      exact ⟨σ', H', J'.ofTry okX, q⟩
    | cont =>
      obtain ⟨σ', H', J', q⟩ := hsp
      exact ⟨σ', H', J'.ofTry okX, q⟩
    | ret u =>
      obtain ⟨v, σ', H', J', r, q⟩ := hsp
      exact ⟨v, σ', H', J'.ofTry okX, r, q⟩
/-- isinstance of a kept error -/
def rIsK (K : PySem.W.Frag) : List V → Hp → VK → Prop := fun xs H Q => ∃ (a D : Addr) (c : V) (cv : Value) (b : Bool), xs = [.ref a, c] ∧ H a = some (ExT (.ref D) none a) ∧ ExcC K D ∧ (∀ u, RelV c u → u = cv) ∧ PySem.W.kitOne K (.ref D) cv = some b ∧ Q (.bl b) H
def rIsKT (K : PySem.W.Frag) : List V → Hp → VK → Prop := fun xs H Q => ∃ (a D tp : Addr) (cs : List V) (us : List Value) (b : Bool), xs = [.ref a, .ref tp] ∧ H tp = some (.tup cs) ∧ Paired ClsV cs us ∧ H a = some (ExT (.ref D) none a) ∧ ExcC K D ∧ PySem.W.kitAny K (.ref D) us = some b ∧ Q (.bl b) H
theorem inst_of {pins : List (Addr × Obj)} {σ : L2.St} {H : Hp} {s : Shared} {a D : Addr} (I : Inv X pins σ H s) (h : H a = some (ExT (.ref D) none a)) : ∃ oe, PySem.W.InstAt s.heap a oe D none := by
  obtain ⟨⟨oe, vs, he, hz, hd⟩, _, _⟩ := I.hok a _ h
  refine ⟨oe, ?_⟩
  obtain ⟨oc, od, oda, osl⟩ := oe
  obtain ⟨h1, h2⟩ := hz
  dsimp only at h1 h2 hd
  subst h1 h2 hd
  exact ⟨he, rfl, rfl, trivial⟩
theorem call_isK : CallR X (.builtin "isinstance") (rIsK X.K) := by
  intro pins s σ H xs us Q I r h
  obtain ⟨a, D, c, cv, b, rfl, ha, C, hcv, e, q⟩ := h
  obtain ⟨u1, u2, rfl, r1, r2⟩ := vals2 r
  cases r1
  have ec := hcv _ r2
  subst ec
  obtain ⟨oe, J⟩ := inst_of I ha
  exact PySem.W.kia_one (PySem.W.handS_kitx_exc C.hg C.hk C.hs C.hd C.ha C.hn C.ht C.hm) I.kIn J e (fun z => nomatch z) fun tk => ⟨.bl b, H, I.tok tk, rfl, q⟩
theorem call_isKT : CallR X (.builtin "isinstance") (rIsKT X.K) := by
  intro pins s σ H xs us Q I r h
  obtain ⟨a, D, tp, cs, ws, b, rfl, hT, k, ha, C, e, q⟩ := h
  obtain ⟨u1, u2, rfl, r1, r2⟩ := vals2 r
  cases r1
  cases (show u2 = Value.ref tp from r2)
  obtain ⟨oe, J⟩ := inst_of I ha
  obtain ⟨_, its, rv, o, h1, h2, n, h3⟩ := (show ObjOk X.prog X.w H s.heap tp (.tup cs) from I.hok tp _ hT)
  have e3 := ClsV.all k rv
  subst e3
  obtain ⟨oc, od, dt, sl⟩ := o
  simp only at h2 h3
  subst h2 h3
  exact PySem.W.kia_tup (PySem.W.handS_kitx_exc C.hg C.hk C.hs C.hd C.ha C.hn C.ht C.hm) I.kIn J h1 e (fun z => nomatch z) fun tk => ⟨.bl b, H, I.tok tk, rfl, q⟩
/-- how often a truth stands in a list of truths -/
def rCntB (K : PySem.W.Frag) : V → List V → Hp → VK → Prop := fun x xs H Q => ∃ (p : Addr) (bs : List Bool) (k : Bool), x = .ref p ∧ xs = [.bl k] ∧ SqL K H p (bs.map V.bl) ∧ Q (.int (bs.count k : Nat)) H
theorem reads_bools {h : Heap} : ∀ {bs : List Bool} {its : List Value}, Vals (bs.map V.bl) its → ReadsAll h its (bs.map PyData.bool) []
  | [], _, .nil => .nil
  | b :: r, _, .cons rv rr => by
    cases rv
    exact ReadsAll.cons (as := []) (bs := []) (.bool b) (reads_bools rr)
theorem all_bools : ∀ bs : List Bool, (bs.map PyData.bool).all PySem.Spec.Shape.bool.has = true
  | [] => rfl
  | b :: r => by
    rw [List.map_cons, List.all_cons, all_bools r]
    rfl
theorem cnt_bools (k : Bool) : ∀ bs : List Bool, PySem.Spec.countIn (.bool k) (bs.map PyData.bool) = ((bs.count k : Nat) : Int)
  | [] => rfl
  | b :: r => by
    have ih := cnt_bools k r
    rw [List.count_cons, List.map_cons]
    show (if (b == k) = true then (1 : Int) else 0) + PySem.Spec.countIn (.bool k) (r.map PyData.bool) = _
    rw [ih]
    cases h : (b == k) <;> simp <;> omega
theorem mt_countB : MtR X "list.count" (rCntB X.K) := by
  intro pins s σ H x xs v us Q I rx rxs h
  obtain ⟨p, bs, k, rfl, rfl, hs, q⟩ := h
  cases rx
  obtain ⟨u, rfl, ru⟩ := rxs.one
  cases ru
  obtain ⟨its, rv, pl, hlen⟩ := I.list hs
  refine PyProof.Rows.count_list_bools (k := k) pl.isList (reads_bools (h := s.heap) rv) (all_bools bs) ?_
  rw [cnt_bools]
  exact ⟨.int (bs.count k : Nat), H, I.tok _, ⟨_, rfl⟩, q⟩
end
/-! ### what the law is told -/
def kw : Kd → Str
  | .t => "ticks"
  | .n => "now"
  | .o => "over"
def toldV : Except Kd (V × Wd) → V
  | .ok r => r.1
  | .error k => .str (kw k)
def toldW (w : Wd) : Except Kd (V × Wd) → Wd
  | .ok r => r.2
  | .error _ => w
theorem told_wf {ss : List Stg} (G : GoodS ss) {w : Wd} {d : Deed} (h : WF ss w) : WF ss (toldW w (exW ss w d)) := by
  cases e : exW ss w d with
  | error k => exact h
  | ok r =>
    obtain ⟨v, w'⟩ := r
    exact exW_wf G h e
theorem outC_of {CC CS cT cN cO : Addr} {R : CAdr} {ss : List Stg} {w : Wd} {d : Deed} {H : Hp} {Q : VK} {E : XK} (h1 : ∀ v w' H', exW ss w d = .ok (v, w') → ClockAt CC CS H' R ss w' → Fr H H' R → Q v H') (h2 : ∀ k, exW ss w d = .error k → E (.ref (kc cT cN cO k)) none H) :
    outC CC CS cT cN cO R ss H Q E (exW ss w d) := by
  cases e : exW ss w d with
  | error k => exact h2 k e
  | ok r =>
    obtain ⟨v, w'⟩ := r
    exact fun H' c f => h1 v w' H' e c f
def spTold (CC CS : Addr) : Sp := fun vs H Q _ => ∃ R ss w d, vs = [.ref R.p, .str d.word, .int d.num] ∧ ClockAt CC CS H R ss w ∧ GoodS ss ∧ WF ss w ∧
  ∀ H', ClockAt CC CS H' R ss (toldW w (exW ss w d)) → Fr H H' R → Q (toldV (exW ss w d)) H'
def spShown (CC CS : Addr) : Sp := fun vs H Q _ => ∃ R ss w, vs = [.ref R.p] ∧ ClockAt CC CS H R ss w ∧ ∀ l as H', NewT H H' l as [stT w.d0, stT w.d1, gmT w] → Q (.ref l) H'
theorem ClockAt.same {CC CS : Addr} {H H' : Hp} {R : CAdr} {ss : List Stg} {w : Wd} (c : ClockAt CC CS H R ss w) (s : Same H H') : ClockAt CC CS H' R ss w :=
  ⟨s _ _ c.ob, s _ _ c.lst, fun b => s _ _ (c.sd b), fun b => ⟨s _ _ (c.st b).lst, (c.st b).tup.1, fun i a x ha hx => s _ _ ((c.st b).tup.2 i a x ha hx)⟩, c.ne, c.n01⟩
theorem Fr.same {H H' : Hp} {R : CAdr} (s : Same H H') : Fr H H' R := fun b o e _ _ _ => s b o e
theorem NewT.start1 {H : Hp} {l : Addr} {as : List Addr} {vss : List (List V)} (h : H l = none) (hl : as.length = vss.length) (ht : ∀ (i : Nat) (a : Addr) (vs : List V), as[i]? = some a → vss[i]? = some vs → H a = some (.tup vs)) {H0 : Hp} (s : Same H0 H) (hn : ∀ a, a ∈ as → H0 a = none) : NewT H0 (upd H l (.lst (as.map V.ref))) l as vss :=
  ⟨s.free h, hn, s.trans (Same.new h), upd_same, hl, fun i a vs ha hv => by
    have z := ht i a vs ha hv
    rw [upd_ne (ne_of_none z h)]
    exact z⟩
section
variable {P : Program} {w : World} {K : PySem.W.Frag} {mg : Str → Option Value} {base : Heap} {CS CC cE cB cT cN cO aW : Addr} (T : Txt K mg CS CC cE cB cT cN cO aW)
include T
theorem ok_shown (c_Clock_state : MetX P w K mg base CX0 1 CC "state" (spState CC CS)) (c_Clock_game : MetX P w K mg base CX0 1 CC "game" (spGame CC CS)) (d : FDef K mg "_law_shown" s_law_shown ["_law_clock"]) : CalX P w K mg base CX0 2 "_law_shown" (spShown CC CS) := by
  refine CalX.of0 d sc_law_shown (fun vs H Q E h => ?_) (fun f cdv A outer s H vs Q E hr h => ?_)
  · obtain ⟨R, ss, w, rfl, _⟩ := h
    rfl
  · obtain ⟨R, ss, w, rfl, c, q⟩ := h
    refine ⟨_, (pss_one (ps_ret (pe_lst (pa_cons (pe_mtX c_Clock_state hr (by decide) pass0 (pv 0) (pa_cons pe_int pa_nil)) (pa_cons (pe_mtX c_Clock_state hr (by decide) pass0 (pv 0) (pa_cons pe_int pa_nil)) (pa_cons (pe_mtX0 c_Clock_game hr (by decide) pass0 (pv 0)) pa_nil)))))), ?_⟩
    have hp := c.ob
    walk_at "rd"
    refine ⟨R, ss, w, false, rfl, c, fun t0 n0 => ?_⟩
    have s0 : Same H (upd H t0 (.tup (stT (w.side false)))) := Same.new n0
    have c0 := c.same s0
    have e0 : (upd H t0 (.tup (stT (w.side false)))) t0 = some (.tup (stT w.d0)) := upd_same
    generalize upd H t0 (.tup (stT (w.side false))) = H0 at *
    have hp0 := c0.ob
    walk_at "rd"
    refine ⟨R, ss, w, true, rfl, c0, fun t1 n1 => ?_⟩
    have s1 : Same H0 (upd H0 t1 (.tup (stT (w.side true)))) := Same.new n1
    have c1 := c0.same s1
    have e1 : (upd H0 t1 (.tup (stT (w.side true)))) t1 = some (.tup (stT w.d1)) := upd_same
    generalize upd H0 t1 (.tup (stT (w.side true))) = H1 at *
    have hp1 := c1.ob
    walk_at "rd"
    refine ⟨R, ss, w, rfl, c1, fun t2 n2 => ?_⟩
    have s2 : Same H1 (upd H1 t2 (.tup (gmT w))) := Same.new n2
    have e2 : (upd H1 t2 (.tup (gmT w))) t2 = some (.tup (gmT w)) := upd_same
    generalize upd H1 t2 (.tup (gmT w)) = H2 at *
    walk_at "rd"
    intro l nl
    refine q l [t0, t1, t2] _ (NewT.start1 (as := [t0, t1, t2]) (vss := [stT w.d0, stT w.d1, gmT w]) nl rfl (fun i a vs ha hv => ?_) ((s0.trans s1).trans s2) (fun a ha => ?_))
    · match i, ha, hv with
      | 0, ha, hv =>
        cases ha
        cases hv
        exact s2 _ _ (s1 _ _ e0)
      | 1, ha, hv =>
        cases ha
        cases hv
        exact s2 _ _ e1
      | 2, ha, hv =>
        cases ha
        cases hv
        exact e2
      | i + 3, ha, hv => simp at ha
    · simp at ha
      rcases ha with rfl | rfl | rfl
      · exact n0
      · exact s0.free n1
      · exact (s0.trans s1).free n2
theorem ok_told (c_Clock_go : MetX P w K mg base (L2.CX P w) 5 CC "go" (spGo CC CS cT cN cO)) (c_Clock_press : MetX P w K mg base (L2.CX P w) 5 CC "press" (spPress CC CS cT cN cO)) (c_Clock_start : MetX P w K mg base (L2.CX P w) 2 CC "start" (spStart CC CS cT cN cO))
    (c_Clock_stop : MetX P w K mg base (L2.CX P w) 2 CC "stop" (spStop CC CS cT cN cO)) (c_Clock_give : MetX P w K mg base (L2.CX P w) 2 CC "give" (spGive CC CS cT cN cO)) (d : FDef K mg "_law_told" s_law_told ["_law_clock", "_law_word", "_law_number"]) :
    CalX P w K mg base CX0 6 "_law_told" (spTold CC CS) := by
  refine CalX.of0 d sc_law_told (fun vs H Q E h => ?_) (fun f cdv A outer s H vs Q E hr h => ?_)
  · obtain ⟨R, ss, w, d, rfl, _⟩ := h
    rfl
  · obtain ⟨R, ss, w, d, rfl, c, G, wf, q⟩ := h
    refine ⟨_, (pss_cons (ps_set (i := 3) sc_law_told.nd rfl (Or.inl rfl) pe_non)
 (pss_cons (ps_set (i := 4) sc_law_told.nd rfl (Or.inl rfl) pe_non)
 (C8.pss_cut (ps_try_keep (i := 5) rfl rfl sc_law_told.nd rfl rfl ⟨rfl, by decide, .inl T.g_ClockError⟩ takes0 (fun W pn xe tk _ => (pss_one (ps_if (pt_cmpR op_eq (pv 1) pe_str (nomark _)) (pss_one (ps_set (i := 4) sc_law_told.nd rfl (Or.inl rfl) (pe_mtS c_Clock_go hr (by decide) (fun σ => passAt tk σ) (pv 0) (pa_cons (pv 2) pa_nil)))) (pss_one (ps_if (pt_cmpR op_eq (pv 1) pe_str (nomark _)) (pss_one (ps_set (i := 4) sc_law_told.nd rfl (Or.inl rfl) (pe_mtS c_Clock_press hr (by decide) (fun σ => passAt tk σ) (pv 0) (pa_cons (pv 2) pa_nil)))) (pss_one (ps_if (pt_cmpR op_eq (pv 1) pe_str (nomark _)) (pss_one (ps_set (i := 4) sc_law_told.nd rfl (Or.inl rfl) (pe_mtS0 c_Clock_start hr (by decide) (fun σ => passAt tk σ) (pv 0)))) (pss_one (ps_if (pt_cmpR op_eq (pv 1) pe_str (nomark _)) (pss_one (ps_set (i := 4) sc_law_told.nd rfl (Or.inl rfl) (pe_mtS0 c_Clock_stop hr (by decide) (fun σ => passAt tk σ) (pv 0)))) (pss_one (ps_set (i := 4) sc_law_told.nd rfl (Or.inl rfl) (pe_mtS c_Clock_give hr (by decide) (fun σ => passAt tk σ) (pv 0) (pa_cons (pe_callTy call_int_str (by rfl) T.b_int (by decide +kernel) (pa_cons (pe_ix ix_str (pv 1) (pe_un un_neg pe_int) (fun _ _ => rfl)) pa_nil)) (pa_cons (pv 2) pa_nil)))))))))))))) (fun a cls d pn => (pss_one (ps_set (i := 3) sc_law_told.nd rfl (Or.inl rfl) (pv 5)))))
 (pss_cons (ps_if (pt_cmpR op_isN (pv 3) pe_non (nomark _)) (pss_one (ps_ret (pv 4))) pss_nil)
 (pss_cons (ps_set (i := 6) sc_law_told.nd rfl (Or.inl rfl) (pe_lst (pa_cons (pe_callB call_isK (by rfl) T.b_isinstance (by decide +kernel) (pa_cons (pv 3) (pa_cons (pe_glob (v := .ref _) rfl T.g_BadTicks rfl) pa_nil))) (pa_cons (pe_callB call_isK (by rfl) T.b_isinstance (by decide +kernel) (pa_cons (pv 3) (pa_cons (pe_glob (v := .ref _) rfl T.g_NotNow rfl) pa_nil))) (pa_cons (pe_callB call_isK (by rfl) T.b_isinstance (by decide +kernel) (pa_cons (pv 3) (pa_cons (pe_glob (v := .ref _) rfl T.g_Over rfl) pa_nil))) pa_nil)))))
 (pss_cons (ps_if (PW.pt (pw_or (pt_cmpR op_ne (pe_bm PySem.F.plainAttrs_list PySem.F.slot_list_count PySem.F.type_list_count mt_countB (pv 6) (pa_cons pe_bl pa_nil)) pe_int (nomark _)) (pw_or (pt_val (pe_callB call_isK (by rfl) T.b_isinstance (by decide +kernel) (pa_cons (pv 3) (pa_cons (pe_glob (v := .ref _) rfl T.g_BadStages rfl) pa_nil)))) (pw_or1 (pt_not (pt_val (pe_callB call_isK (by rfl) T.b_isinstance (by decide +kernel) (pa_cons (pv 3) (pa_cons (pe_bltn (v := .ty "ValueError") rfl T.b_ValueError (by decide +kernel) rfl) pa_nil))))))))) (pss_one (ps_ret pe_str)) pss_nil)
 (pss_one (ps_ret (pe_ix ix_list (pe_lst (pa_cons pe_str (pa_cons pe_str (pa_cons pe_str pa_nil)))) (pe_bm PySem.F.plainAttrs_list PySem.F.slot_list_index PySem.F.type_list_index mt_index (pv 6) (pa_cons pe_bl pa_nil)) (fun _ _ => rfl)))))))))), ?_⟩
    have hp := c.ob
    walk_at "rd"
    dsimp only
    refine k_cut (fun σ' H' => (∃ v w', exW ss w d = .ok (v, w') ∧ σ' = [some (.ref R.p), some (.str d.word), some (.int d.num), some .non, some v, none, none] ∧ ClockAt CC CS H' R ss w' ∧ Fr H H' R) ∨
      (∃ k a, exW ss w d = .error k ∧ σ' = [some (.ref R.p), some (.str d.word), some (.int d.num), some (.ref a), some .non, none, none] ∧ H a = none ∧ H' = upd H a (ExT (.ref (kc cT cN cO k)) none a))) ?_ ?_
    · dsimp only
      have okk : ∀ v w' H', exW ss w d = .ok (v, w') → ClockAt CC CS H' R ss w' → Fr H H' R → ((∃ v w', exW ss w d = .ok (v, w') ∧ [some (.ref R.p), some (.str d.word), some (.int d.num), some .non, some v, none, none] = [some (.ref R.p), some (.str d.word), some (.int d.num), some .non, some v, none, none] ∧ ClockAt CC CS H' R ss w' ∧ Fr H H' R)) := fun v w' H' e c' f' => ⟨v, w', e, rfl, c', f'⟩
      have ee : ∀ k, PySem.W.exmOne K (.ref (kc cT cN cO k)) (.ref cE) = some true := fun k => by
        cases k
        · exact T.hT
        · exact T.hN
        · exact T.hO
      cases d with
      | go n =>
        walk_at "rd"
        refine ⟨R, ss, w, n, rfl, c, G, wf, outC_of (fun v w' H' e c' f' => ?_) (fun k e => ⟨true, ee k, fun _ a na => ?_, fun z => nomatch z⟩)⟩
        · walk_at "rd"
          exact .inl ⟨v, w', e, rfl, c', f'⟩
        · dsimp only
          walk_at "rd"
          exact .inr ⟨k, a, e, rfl, na, rfl⟩
      | press b =>
        walk_at "rd"
        refine ⟨R, ss, w, b, rfl, c, G, wf, outC_of (fun v w' H' e c' f' => ?_) (fun k e => ⟨true, ee k, fun _ a na => ?_, fun z => nomatch z⟩)⟩
        · walk_at "rd"
          exact .inl ⟨v, w', e, rfl, c', f'⟩
        · dsimp only
          walk_at "rd"
          exact .inr ⟨k, a, e, rfl, na, rfl⟩
      | start =>
        walk_at "rd"
        refine ⟨R, ss, w, rfl, c, outC_of (fun v w' H' e c' f' => ?_) (fun k e => ⟨true, ee k, fun _ a na => ?_, fun z => nomatch z⟩)⟩
        · walk_at "rd"
          exact .inl ⟨v, w', e, rfl, c', f'⟩
        · dsimp only
          walk_at "rd"
          exact .inr ⟨k, a, e, rfl, na, rfl⟩
      | stop =>
        walk_at "rd"
        refine ⟨R, ss, w, rfl, c, outC_of (fun v w' H' e c' f' => ?_) (fun k e => ⟨true, ee k, fun _ a na => ?_, fun z => nomatch z⟩)⟩
        · walk_at "rd"
          exact .inl ⟨v, w', e, rfl, c', f'⟩
        · dsimp only
          walk_at "rd"
          exact .inr ⟨k, a, e, rfl, na, rfl⟩
      | give b n =>
        have g1 : decide (Deed.word (.give b n) = "go") = false := by show decide (gw b = "go") = false; cases b <;> decide +kernel
        have g2 : decide (Deed.word (.give b n) = "press") = false := by show decide (gw b = "press") = false; cases b <;> decide +kernel
        have g3 : decide (Deed.word (.give b n) = "start") = false := by show decide (gw b = "start") = false; cases b <;> decide +kernel
        have g4 : decide (Deed.word (.give b n) = "stop") = false := by show decide (gw b = "stop") = false; cases b <;> decide +kernel
        walk_at "rd"
        refine k_ixS (s := gw b) (c := 48 + (ti b).toNat) (by rw [sizeLine_eq]; cases b <;> decide +kernel) (by cases b <;> rfl) ?_
        walk_at "rd"
        refine k_intS (i := ti b) (by cases b <;> decide +kernel) (by cases b <;> decide +kernel) ?_
        walk_at "rd"
        refine ⟨R, ss, w, b, n, rfl, c, outC_of (fun v w' H' e c' f' => ?_) (fun k e => ⟨true, ee k, fun _ a na => ?_, fun z => nomatch z⟩)⟩
        · walk_at "rd"
          exact .inl ⟨v, w', e, rfl, c', f'⟩
        · dsimp only
          walk_at "rd"
          exact .inr ⟨k, a, e, rfl, na, rfl⟩
    · rintro σ' H' (⟨v, w', e, rfl, c', f'⟩ | ⟨k, a, e, rfl, na, rfl⟩)
      · walk_at "rd"
        rw [e] at q
        exact q H' c' f'
      · walk_at "rd"
        rw [e] at q
        have ha : upd H a (ExT (.ref (kc cT cN cO k)) none a) a = some (ExT (.ref (kc cT cN cO k)) none a) := upd_same
        have s1 : Same H (upd H a (ExT (.ref (kc cT cN cO k)) none a)) := Same.new na
        have c1 := c.same s1
        have hC : ExcC K (kc cT cN cO k) := by
          cases k
          · exact T.eT.i
          · exact T.eN.i
          · exact T.eO.i
        generalize upd H a (ExT (.ref (kc cT cN cO k)) none a) = H1 at *
        obtain ⟨b1, b2, b3, i1, i2, i3, hcnt, hidx⟩ : ∃ b1 b2 b3 : Bool, PySem.W.kitOne K (.ref (kc cT cN cO k)) (.ref cT) = some b1 ∧ PySem.W.kitOne K (.ref (kc cT cN cO k)) (.ref cN) = some b2 ∧ PySem.W.kitOne K (.ref (kc cT cN cO k)) (.ref cO) = some b3 ∧
            [b1, b2, b3].count true = 1 ∧ ∃ j : Nat, ([V.bl b1, V.bl b2, V.bl b3])[j]? = some (.bl true) ∧ (∀ (m : Nat) (z' : V), m < j → ([V.bl b1, V.bl b2, V.bl b3])[m]? = some z' → eqV z' (.bl true) = false) ∧ atI [V.str "ticks", V.str "now", V.str "over"] (j : Int) = some (.str (kw k)) := by
          cases k
          · exact ⟨true, false, false, T.iTT, T.iTN, T.iTO, rfl, 0, rfl, fun m z' h => absurd h (Nat.not_lt_zero m), rfl⟩
          · exact ⟨false, true, false, T.iNT, T.iNN, T.iNO, rfl, 1, rfl, fun m z' h e => by
              have hm : m = 0 := by omega
              subst hm
              cases e
              rfl, rfl⟩
          · exact ⟨false, false, true, T.iOT, T.iON, T.iOO, rfl, 2, rfl, fun m z' h e => by
              have hm : m = 0 ∨ m = 1 := by omega
              rcases hm with rfl | rfl <;> cases e <;> rfl, rfl⟩
        refine ⟨a, _, .ref cT, .ref cT, b1, rfl, ha, hC, fun u r => r, i1, ?_⟩
        walk_at "rd"
        refine ⟨a, _, .ref cN, .ref cN, b2, rfl, ha, hC, fun u r => r, i2, ?_⟩
        walk_at "rd"
        refine ⟨a, _, .ref cO, .ref cO, b3, rfl, ha, hC, fun u r => r, i3, ?_⟩
        walk_at "rd"
        intro l nl
        have nal : a ≠ l := ne_of_none ha nl
        have hl : upd H1 l (.lst [.bl b1, .bl b2, .bl b3]) l = some (.lst ([b1, b2, b3].map V.bl)) := upd_same
        walk_at "rd"
        refine ⟨l, [b1, b2, b3], true, rfl, rfl, SqL.of hl, ?_⟩
        rw [hcnt]
        walk_at "rd"
        have ib : PySem.W.kitOne K (.ref (kc cT cN cO k)) (.ref cB) = some false := by
          cases k
          · exact T.iTB
          · exact T.iNB
          · exact T.iOB
        have iv : PySem.W.kitOne K (.ref (kc cT cN cO k)) (.type "ValueError") = some true := by
          cases k
          · exact T.iTV
          · exact T.iNV
          · exact T.iOV
        have ha2 : upd H1 l (.lst [.bl b1, .bl b2, .bl b3]) a = some (ExT (.ref (kc cT cN cO k)) none a) := by rw [upd_ne nal]; exact ha
        refine ⟨a, _, .ref cB, .ref cB, false, rfl, ha2, hC, fun u r => r, ib, ?_⟩
        walk_at "rd"
        refine ⟨a, _, .ty "ValueError", .type "ValueError", true, rfl, ha2, hC, fun u r => r, iv, ?_⟩
        walk_at "rd"
        intro l2 nl2
        have nll : l ≠ l2 := ne_of_none hl nl2
        have hl2 : upd (upd H1 l (.lst [.bl b1, .bl b2, .bl b3])) l2 (.lst [.str "ticks", .str "now", .str "over"]) l = some (.lst [.bl b1, .bl b2, .bl b3]) := by rw [upd_ne nll]; exact upd_same
        walk_at "rd"
        obtain ⟨j, j1, j2, j3⟩ := hidx
        refine ⟨l, [.bl b1, .bl b2, .bl b3], .bl true, j, .bl true, rfl, rfl, SqL.of hl2, rfl, rfl, j1, rfl, j2, ?_⟩
        walk_at "rd"
        have s2 : Same H1 (upd H1 l (.lst [.bl b1, .bl b2, .bl b3])) := Same.new nl
        have s3 : Same (upd H1 l (.lst [.bl b1, .bl b2, .bl b3])) (upd (upd H1 l (.lst [.bl b1, .bl b2, .bl b3])) l2 (.lst [.str "ticks", .str "now", .str "over"])) := Same.new nl2
        exact q _ (c1.same (s2.trans s3)) (Fr.same ((s1.trans s2).trans s3))
end
/-! ### all that is no instance stands -/
def Fx (H H' : Hp) : Prop := ∀ b o, H b = some o → (∀ C dx fs, o ≠ .ins C dx fs) → H' b = some o
theorem Fx.refl (H : Hp) : Fx H H := fun _ _ e _ => e
theorem Fx.trans {H H1 H2 : Hp} (f : Fx H H1) (g : Fx H1 H2) : Fx H H2 := fun b o e n => g b o (f b o e n) n
theorem Same.fx {H H' : Hp} (s : Same H H') : Fx H H' := fun b o e _ => s b o e
theorem ne_ins {H : Hp} {a b C dx : Addr} {o : HO} {fs : List (Str × V)} (e : H b = some o) (n : ∀ C dx fs, o ≠ .ins C dx fs) (h : H a = some (.ins C dx fs)) : b ≠ a := fun z => by
  rw [z, h] at e
  cases e
  exact n _ _ _ rfl
theorem Fr.fx {CC CS : Addr} {H H' : Hp} {R : CAdr} {ss : List Stg} {w : Wd} (f : Fr H H' R) (c : ClockAt CC CS H R ss w) : Fx H H' := fun b o e n =>
  f b o e (ne_ins e n c.ob) (ne_ins e n (c.sd false)) (ne_ins e n (c.sd true))
theorem Fx.lst {H H' : Hp} {a : Addr} {xs : List V} (f : Fx H H') (h : H a = some (.lst xs)) : H' a = some (.lst xs) := f _ _ h (fun _ _ _ z => nomatch z)
theorem Fx.tup {H H' : Hp} {a : Addr} {xs : List V} (f : Fx H H') (h : H a = some (.tup xs)) : H' a = some (.tup xs) := f _ _ h (fun _ _ _ z => nomatch z)
theorem Fx.seq {K : PySem.W.Frag} {H H' : Hp} {a : Addr} {xs : List V} (f : Fx H H') (h : SqL K H a xs) : SqL K H' a xs := by
  rcases h with (h | ⟨o, h⟩) | h
  · exact .inl (.inl (f _ _ h (fun _ _ _ z => nomatch z)))
  · exact .inl (.inr ⟨o, f _ _ h (fun _ _ _ z => nomatch z)⟩)
  · exact .inr h
/-- rows of tuples -/
structure Rows (H : Hp) (as : List Addr) (vss : List (List V)) : Prop where
  len : as.length = vss.length
  tup : ∀ (i : Nat) (a : Addr) (vs : List V), as[i]? = some a → vss[i]? = some vs → H a = some (.tup vs)
theorem Rows.fx {H H' : Hp} {as : List Addr} {vss : List (List V)} (r : Rows H as vss) (f : Fx H H') : Rows H' as vss := ⟨r.len, fun i a vs ha hv => f.tup (r.tup i a vs ha hv)⟩
theorem NewT.rows {H H' : Hp} {l : Addr} {as : List Addr} {vss : List (List V)} (n : NewT H H' l as vss) : Rows H' as vss := ⟨n.len, n.tup⟩
theorem Rows.cons {H : Hp} {a : Addr} {vs : List V} {as : List Addr} {vss : List (List V)} (h : H a = some (.tup vs)) (r : Rows H as vss) : Rows H (a :: as) (vs :: vss) := ⟨by rw [List.length_cons, List.length_cons, r.len], fun i b us hb hu => by
  cases i with
  | zero =>
    cases hb
    cases hu
    exact h
  | succ i => exact r.tup i b us hb hu⟩
/-- a row of the list -/
theorem Rows.row {H : Hp} {as : List Addr} {vss : List (List V)} (r : Rows H as vss) {i : Nat} {x : V} (h : (as.map V.ref)[i]? = some x) : ∃ a vs, x = .ref a ∧ as[i]? = some a ∧ vss[i]? = some vs ∧ H a = some (.tup vs) := by
  rw [List.getElem?_map] at h
  cases ha : as[i]? with
  | none =>
    rw [ha] at h
    cases h
  | some a =>
    rw [ha] at h
    cases h
    have hlt := (List.getElem?_eq_some_iff.mp ha).1
    have hv : vss[i]? = some (vss[i]'(by rw [← r.len]; exact hlt)) := List.getElem?_eq_getElem _
    exact ⟨a, _, rfl, rfl, hv, r.tup i a _ ha hv⟩
/-! ### two clocks -/
def CAdr.Has (R : CAdr) (a : Addr) : Prop := a = R.p ∨ a = R.q0 ∨ a = R.q1
def Dis (R1 R2 : CAdr) : Prop := ∀ a, R1.Has a → ¬ R2.Has a
theorem Dis.symm {R1 R2 : CAdr} (d : Dis R1 R2) : Dis R2 R1 := fun a h1 h2 => d a h2 h1
theorem ClockAt.apart {CC CS : Addr} {H H' : Hp} {R R2 : CAdr} {ss s2 : List Stg} {w w2 : Wd} (c2 : ClockAt CC CS H R2 s2 w2) (c : ClockAt CC CS H R ss w) (d : Dis R2 R) (f : Fr H H' R) : ClockAt CC CS H' R2 s2 w2 := by
  have fx := f.fx c
  have k : ∀ a o, R2.Has a → H a = some o → H' a = some o := fun a o ha h => f a o h (fun e => d a ha (.inl e)) (fun e => d a ha (.inr (.inl e))) (fun e => d a ha (.inr (.inr e)))
  exact ⟨k _ _ (.inl rfl) c2.ob, fx.lst c2.lst, fun b => k _ _ (by cases b; exact .inr (.inl rfl); exact .inr (.inr rfl)) (c2.sd b), fun b => ⟨fx.lst (c2.st b).lst, (c2.st b).tup.1, fun i a x ha hx => fx.tup ((c2.st b).tup.2 i a x ha hx)⟩, c2.ne, c2.n01⟩
theorem ClockAt.has {CC CS : Addr} {H : Hp} {R : CAdr} {ss : List Stg} {w : Wd} (c : ClockAt CC CS H R ss w) {a : Addr} (h : R.Has a) : ∃ o, H a = some o := by
  rcases h with rfl | rfl | rfl
  · exact ⟨_, c.ob⟩
  · exact ⟨_, c.sd false⟩
  · exact ⟨_, c.sd true⟩
/-! ### in parts -/
def aft (ss : List Stg) (w : Wd) (n : Nat) : Wd := if w.runs = true then runN ss n w else w
def cnt (ss : List Stg) (w : Wd) (n : Nat) : Int := if w.runs = true then (runN ss n w).total - w.total else n
theorem aft0 (ss : List Stg) (w : Wd) : aft ss w 0 = w := by
  unfold aft
  split <;> rfl
theorem cnt0 (ss : List Stg) (w : Wd) : cnt ss w 0 = 0 := by
  unfold cnt
  split
  · show w.total - w.total = 0
    omega
  · rfl
theorem exW_aft {ss : List Stg} {w : Wd} (hf : w.fallen = none) (n : Nat) : exW ss w (.go n) = .ok (.int (cnt ss w n), aft ss w n) := by
  rw [exW_go (by omega) hf]
  unfold cnt aft
  by_cases h : w.runs = true
  · rw [if_pos h, if_pos h, if_pos h]
    rfl
  · rw [if_neg h, if_neg h, if_neg h]
theorem exW_part {ss : List Stg} {w : Wd} (a b : Nat) (hf : (aft ss w a).fallen = none) : exW ss (aft ss w a) (.go b) = .ok (.int (cnt ss w (a + b) - cnt ss w a), aft ss w (a + b)) := by
  rw [exW_aft hf]
  unfold aft cnt at *
  by_cases h : w.runs = true
  · rw [if_pos h] at hf
    simp only [if_pos h]
    rw [if_pos ((runN_runs a hf).trans h), if_pos ((runN_runs a hf).trans h), ← runN_add]
    have e : (runN ss (a + b) w).total - (runN ss a w).total = (runN ss (a + b) w).total - w.total - ((runN ss a w).total - w.total) := by omega
    rw [e]
  · simp only [if_neg h]
    have e : ((b : Nat) : Int) = ((a + b : Nat) : Int) - (a : Int) := by omega
    rw [e]
theorem aft_stop {ss : List Stg} {w : Wd} {f : Bool} (h0 : w.fallen = none) (a b : Nat) (hf : (aft ss w a).fallen = some f) : aft ss w (a + b) = aft ss w a ∧ cnt ss w (a + b) = cnt ss w a := by
  unfold aft cnt at *
  by_cases h : w.runs = true
  · rw [if_pos h] at hf
    simp only [if_pos h]
    rw [runN_add, runN_fallen hf]
    exact ⟨rfl, rfl⟩
  · rw [if_neg h, h0] at hf
    cases hf
theorem aft_wf {ss : List Stg} (G : GoodS ss) {w : Wd} (h : WF ss w) (n : Nat) : WF ss (aft ss w n) := by
  unfold aft
  split
  · exact runN_wf G _ h
  · exact h
def sumN (ns : List Nat) : Nat := ns.foldr (· + ·) 0
theorem sum_take (ns : List Nat) (i n : Nat) (h : ns[i]? = some n) : sumN (ns.take (i + 1)) = sumN (ns.take i) + n := by
  induction ns generalizing i with
  | nil => simp at h
  | cons x ns ih =>
    cases i with
    | zero =>
      have e : x = n := by simpa using h
      subst e
      show x + 0 = 0 + x
      omega
    | succ i =>
      have := ih i h
      show x + sumN (ns.take (i + 1)) = x + sumN (ns.take i) + n
      rw [this]
      omega
theorem sum_split (ns : List Nat) (i : Nat) : ∃ r, sumN ns = sumN (ns.take i) + r := by
  induction ns generalizing i with
  | nil => exact ⟨0, by simp [sumN]⟩
  | cons x ns ih =>
    cases i with
    | zero => exact ⟨x + sumN ns, (by show x + sumN ns = 0 + (x + sumN ns); omega)⟩
    | succ i =>
      obtain ⟨r, hr⟩ := ih i
      exact ⟨r, by show x + sumN ns = x + sumN (ns.take i) + r; omega⟩
theorem sum_ones (n : Nat) : sumN (List.replicate n 1) = n := by
  induction n with
  | zero => rfl
  | succ n ih =>
    show 1 + sumN (List.replicate n 1) = n + 1
    omega
def nv (n : Nat) : V := .int n
theorem Fr.trans {H H1 H2 : Hp} {R : CAdr} (f : Fr H H1 R) (g : Fr H1 H2 R) : Fr H H2 R := fun b o e n1 n2 n3 => g b o (f b o e n1 n2 n3) n1 n2 n3
section
variable {K : PySem.W.Frag} {σ : St} {H : Hp} {a b : Addr} {xs ys : List V} {Q : VK} {k : Int}
theorem k_cat (hx : H a = some (.lst xs)) (hy : H b = some (.lst ys)) (hl : xs.length + ys.length ≤ sizeLine) (q : ∀ p, H p = none → Q (.ref p) (upd H p (.lst (xs ++ ys)))) : rCat (.ref a) (.ref b) H Q := ⟨a, b, xs, ys, rfl, rfl, hx, hy, hl, q⟩
theorem k_rep (hx : H a = some (.lst xs)) (h1 : -(2 ^ 63) ≤ k) (h2 : k < 2 ^ 63) (hl : xs.length * k.toNat ≤ sizeLine) (q : ∀ p, H p = none → Q (.ref p) (upd H p (.lst (List.replicate k.toNat xs).flatten))) : rRep (.ref a) (.int k) H Q := ⟨a, k, xs, rfl, rfl, hx, h1, h2, hl, q⟩
end
theorem ones_nv (n : Nat) : (List.replicate n [V.int 1]).flatten = List.map nv (List.replicate n 1) := by
  induction n with
  | zero => rfl
  | succ n ih =>
    show [V.int 1] ++ (List.replicate n [V.int 1]).flatten = nv 1 :: List.map nv (List.replicate n 1)
    rw [ih]
    rfl
/-- a clock is made of stages that pass the look -/
theorem k_mkC {CC CS cB : Addr} {H : Hp} {l0 x dx : Addr} {as : List Addr} {ss : List Stg} {QH : Hp → Prop} {E : XK} (nx : H x = none) (nd : H dx = none) (hl : H l0 = some (.lst (as.map V.ref))) (r : Rows H as (ss.map Stg.vs)) (hk : lookR (ss.map Stg.rs) = true)
    (q : ∀ R H', R.p = x → ClockAt CC CS H' R ss (wd0 ss) → Same H H' → (∀ a, R.Has a → H a = none) → (∀ b, H (R.l b) = none) → QH H') :
    spInitC CC CS cB (.ref x :: ([.ref l0] ++ [])) (upd (upd H dx (.own x)) x (.ins CC dx [])) (fun v H2 => v = .non ∧ QH H2) E := by
  have m : ∀ b o, H b = some o → upd (upd H dx (.own x)) x (.ins CC dx []) b = some o := fun b o e => by
    rw [upd_ne (ne_of_none e nx), upd_ne (ne_of_none e nd)]
    exact e
  refine ⟨x, dx, l0, as, ss.map Stg.rs, rfl, upd_same, m _ _ hl, ⟨by rw [List.length_map, r.len, List.length_map], fun i a s ha hs => ?_⟩, fun z => (by rw [hk] at z; cases z), fun _ R H' c ep ea hq hs => ?_⟩
  · rw [List.getElem?_map] at hs
    cases hi : ss[i]? with
    | none =>
      rw [hi] at hs
      cases hs
    | some t =>
      rw [hi] at hs
      cases hs
      refine m _ _ ?_
      rw [Stg.rs_vs]
      exact r.tup i a _ ha (by rw [List.getElem?_map, hi]; rfl)
  · rw [rs_toS] at c
    have free : ∀ b, upd (upd H dx (.own x)) x (.ins CC dx []) b = none → H b = none := fun b e => by
      cases e2 : H b with
      | none => rfl
      | some o =>
        rw [m b o e2] at e
        cases e
    refine ⟨rfl, q R H' ep c (fun b o e => hs b o (m b o e) (ne_of_none e nx)) (fun a ha => ?_) (fun b => free _ (hq b).2)⟩
    rcases ha with rfl | rfl | rfl
    · rw [ep]
      exact nx
    · exact free _ (hq false).1
    · exact free _ (hq true).1
theorem dis_of {CC CS : Addr} {H : Hp} {R1 R2 : CAdr} {ss : List Stg} {w : Wd} (c : ClockAt CC CS H R1 ss w) (n : ∀ a, R2.Has a → H a = none) : Dis R1 R2 := fun a h1 h2 => by
  obtain ⟨o, e⟩ := c.has h1
  rw [n a h2] at e
  cases e
theorem eqv_tups {vss : List (List V)} (h : ∀ vs, vs ∈ vss → vs.all flD = true) : PyData.eqv (.list (vss.map td)) (.list (vss.map td)) = true :=
  SeqAt.eqv_refl _ (lay_tups h)
theorem shown_flat (w : Wd) : ∀ vs, vs ∈ [stT w.d0, stT w.d1, gmT w] → vs.all flD = true := fun vs h => by
  simp at h
  rcases h with rfl | rfl | rfl
  · rfl
  · rfl
  · cases h : w.fallen <;> simp [gmT, h, flD]
def DeedP : Deed → Prop
  | .go n => 0 ≤ n ∧ n ≤ 100
  | _ => True
theorem deedsF_P (ns : List Int) (k : Int) : ∀ m d, d ∈ (deedsF ns k m).1 → DeedP d
  | 0, d, h => by simp [deedsF] at h
  | m + 1, d, h => by
    rcases List.mem_append.mp h with h | h
    · exact deedsF_P ns k m d h
    · rw [List.mem_singleton.mp h]
      unfold deedStep
      split
      · exact pick9_le (mixF ns (k + m) / 10 % 9)
      · split
        · split <;> trivial
        · split
          · show DeedP (if mixF ns (k + m) / 10 % 2 = 0 then .stop else .start)
            split <;> trivial
          · trivial
/-- what the law is told of a deed that is no go -/
theorem told_kind {ss : List Stg} {w : Wd} {d : Deed} (h : ∀ n, d ≠ .go n) : toldV (exW ss w d) = .non ∨ ∃ s, toldV (exW ss w d) = .str s := by
  cases d with
  | go n => exact absurd rfl (h n)
  | press b =>
    unfold exW
    dsimp only
    split
    · exact .inr ⟨_, rfl⟩
    · split
      · exact .inl rfl
      · exact .inr ⟨_, rfl⟩
  | start =>
    unfold exW
    dsimp only
    split
    · exact .inr ⟨_, rfl⟩
    · split
      · exact .inr ⟨_, rfl⟩
      · exact .inl rfl
  | stop =>
    unfold exW
    dsimp only
    split
    · exact .inr ⟨_, rfl⟩
    · split
      · exact .inl rfl
      · exact .inr ⟨_, rfl⟩
  | give b n =>
    unfold exW
    dsimp only
    split
    · exact .inr ⟨_, rfl⟩
    · split
      · exact .inr ⟨_, rfl⟩
      · split
        · exact .inl rfl
        · exact .inr ⟨_, rfl⟩
/-! ### d.copy() -/
def rDCopy : V → List V → Hp → VK → Prop := fun x vs H Q => ∃ a kvs, x = .ref a ∧ vs = [] ∧ H a = some (.dK kvs) ∧ ∀ p, H p = none → Q (.ref p) (upd H p (.dK kvs))
theorem mt_dcopy {X : Cx} : MtM X "dict.copy" rDCopy := by
  intro pins s σ H x vs v us Q I rx rv h
  obtain ⟨a, kvs, rfl, rfl, hH, q⟩ := h
  cases rx
  have hus := rv.zero
  subst hus
  obtain ⟨z, hd, vs, r, dd⟩ := dk_of I.hok hH
  obtain ⟨o, es, ep, ho, hc, hdat, hk, hp, hn⟩ := dd
  have hsz : es.size = vs.length := by rw [← hp.length]; simp
  have hz : es.size ≤ sizeLine := by
    rw [hsz]
    have e : kvs.length = vs.length := Paired.length r
    omega
  refine call_copy_raw hd ⟨o, ho, hc, hdat⟩ hz (fun e he => .inl ?_) (fun h' hr hk' => ?_)
  · obtain ⟨k, hk1⟩ := hk e (by simpa using he)
    exact (mixKind X.prog X.w).byValue k e.key hk1.1
  · obtain ⟨o2, ho2, hc2, hd2⟩ := hr
    have I2 := I.laid (a := s.heap.objs.size) (o := .dK kvs) (h' := h') (t' := s.toks) hk' (Nat.le_refl _) ⟨z, beq_eq_false_iff_ne.mpr (Ne.symm (Nat.ne_of_lt I.big)), vs, r, o2, es, 0, ho2, hc2, hd2, hk, hp, hn⟩
    exact ⟨.ref _, _, I2, rfl, q _ I.fresh⟩
section
variable {σ : St} {H : Hp} {a : Addr} {kvs : List (Key × V)} {Q : VK} {QP : List (V × V) → Hp → Prop} {trs : List (TE × TE)} {tk tv td ty tx te : TE}
theorem k_pairs (q : tk σ H fun x H1 => tv σ H1 fun y H2 => tPairs trs σ H2 fun ps H3 => QP ((x, y) :: ps) H3) : tPairs ((tk, tv) :: trs) σ H QP := q
theorem k_pairs0 (q : QP [] H) : tPairs [] σ H QP := q
def kDG2 (ty tx : TE) (σ : St) : V → Hp → VK → Prop := fun x H1 Q => ∃ a, x = .ref a ∧ IsD H1 a ∧ ty σ H1 fun y H2 => tx σ H2 fun z H3 => ∃ o, DGet H3 a y o ∧ Q (o.getD z) H3
theorem k_dg20 (q : td σ H fun x H1 => kDG2 ty tx σ x H1 Q) : tDGet2 td ty tx σ H Q := q
theorem k_dg2 (h : H a = some (.dK kvs)) (q : ty σ H fun y H2 => tx σ H2 fun z H3 => ∃ o, DGet H3 a y o ∧ Q (o.getD z) H3) : kDG2 ty tx σ (.ref a) H Q := ⟨a, rfl, .inl ⟨kvs, .inl h⟩, q⟩
end
/-! ### the law's own clock, in dicts -/
def sdK (d : Sd) : List (Key × V) := [(.inr "at", .int d.at_), (.inr "ticks", .int d.ticks), (.inr "periods", .int d.periods), (.inr "moved", .int d.moved), (.inr "made", .int d.made), (.inr "used", .int d.used)]
section
variable {d : Sd} {i : Int} {n : Nat}
theorem sget_at : valV (sdK d) (Sum.inr "at") = some (.int d.at_) := rfl
theorem sget_ticks : valV (sdK d) (Sum.inr "ticks") = some (.int d.ticks) := rfl
theorem sget_periods : valV (sdK d) (Sum.inr "periods") = some (.int d.periods) := rfl
theorem sget_moved : valV (sdK d) (Sum.inr "moved") = some (.int d.moved) := rfl
theorem sget_made : valV (sdK d) (Sum.inr "made") = some (.int d.made) := rfl
theorem sget_used : valV (sdK d) (Sum.inr "used") = some (.int d.used) := rfl
theorem sput_at : putK (sdK d) (Sum.inr "at") (.int ((n : Int) + 1)) = sdK { d with at_ := n + 1 } := rfl
theorem sput_ticks : putK (sdK d) (Sum.inr "ticks") (.int i) = sdK { d with ticks := i } := rfl
theorem sput_periods : putK (sdK d) (Sum.inr "periods") (.int i) = sdK { d with periods := i } := rfl
theorem sput_moved : putK (sdK d) (Sum.inr "moved") (.int i) = sdK { d with moved := i } := rfl
theorem sput_made : putK (sdK d) (Sum.inr "made") (.int i) = sdK { d with made := i } := rfl
theorem sput_used : putK (sdK d) (Sum.inr "used") (.int i) = sdK { d with used := i } := rfl
end
def wdK (st sl : Addr) (w : Wd) : List (Key × V) := [(.inr "stages", .ref st), (.inr "turn", .int (ti w.turn)), (.inr "runs", .bl w.runs), (.inr "fallen", fv w.fallen), (.inr "total", .int w.total), (.inr "sides", .ref sl)]
section
variable {w : Wd} {st sl : Addr} {i : Int} {b c : Bool}
theorem wget_stages : valV (wdK st sl w) (Sum.inr "stages") = some (.ref st) := rfl
theorem wget_turn : valV (wdK st sl w) (Sum.inr "turn") = some (.int (ti w.turn)) := rfl
theorem wget_runs : valV (wdK st sl w) (Sum.inr "runs") = some (.bl w.runs) := rfl
theorem wget_fallen : valV (wdK st sl w) (Sum.inr "fallen") = some (fv w.fallen) := rfl
theorem wget_total : valV (wdK st sl w) (Sum.inr "total") = some (.int w.total) := rfl
theorem wget_sides : valV (wdK st sl w) (Sum.inr "sides") = some (.ref sl) := rfl
theorem wput_turn : putK (wdK st sl w) (Sum.inr "turn") (.int (ti b)) = wdK st sl { w with turn := b } := rfl
theorem wput_runs : putK (wdK st sl w) (Sum.inr "runs") (.bl b) = wdK st sl { w with runs := b } := rfl
theorem wput_fallen : putK (wdK st sl w) (Sum.inr "fallen") (.int (ti b)) = wdK st sl { w with fallen := some b } := rfl
theorem wput_total : putK (wdK st sl w) (Sum.inr "total") (.int i) = wdK st sl { w with total := i } := rfl
theorem wdK_sides (w : Wd) (b : Bool) (d : Sd) : wdK st sl (w.put b d) = wdK st sl w := by cases b <;> rfl
end
structure WAdr where
  p : Addr
  st : Addr
  sl : Addr
  p0 : Addr
  p1 : Addr
  as : List Addr
def WAdr.q (D : WAdr) (b : Bool) : Addr := match b with
  | true => D.p1
  | false => D.p0
structure WorldAt (H : Hp) (D : WAdr) (ss : List Stg) (w : Wd) : Prop where
  ob : H D.p = some (.dK (wdK D.st D.sl w))
  st : StL H D.st D.as ss
  sl : H D.sl = some (.lst [.ref D.p0, .ref D.p1])
  sd : ∀ b, H (D.q b) = some (.dK (sdK (w.side b)))
  ne : ∀ b, D.p ≠ D.q b
  n01 : D.p0 ≠ D.p1
def FrW (H H' : Hp) (D : WAdr) : Prop := ∀ b o, H b = some o → b ≠ D.p → b ≠ D.p0 → b ≠ D.p1 → H' b = some o
theorem FrW.refl (H : Hp) (D : WAdr) : FrW H H D := fun _ _ e _ _ _ => e
theorem FrW.trans {H H1 H2 : Hp} {D : WAdr} (f : FrW H H1 D) (g : FrW H1 H2 D) : FrW H H2 D := fun b o e n1 n2 n3 => g b o (f b o e n1 n2 n3) n1 n2 n3
theorem FrW.q {H H' : Hp} {D : WAdr} {b : Bool} {o : HO} (f : FrW H H' D) : FrW H (upd H' (D.q b) o) D := fun c u e h1 h2 h3 => by
  rw [upd_ne (by cases b; exact h2; exact h3)]
  exact f c u e h1 h2 h3
theorem FrW.p {H H' : Hp} {D : WAdr} {o : HO} (f : FrW H H' D) : FrW H (upd H' D.p o) D := fun c u e h1 h2 h3 => by
  rw [upd_ne h1]
  exact f c u e h1 h2 h3
theorem FrW.same {H H' : Hp} {D : WAdr} (s : Same H H') : FrW H H' D := fun b o e _ _ _ => s b o e
theorem stL_updK {H : Hp} {l p : Addr} {as : List Addr} {ss : List Stg} {k : List (Key × V)} {o : HO} (h : StL H l as ss) (hp : H p = some (.dK k)) : StL (upd H p o) l as ss :=
  ⟨by rw [upd_ne (ne_of h.lst hp (fun z => by cases z))]; exact h.lst, h.tup.1, fun i a s ha hs => by
    have q := h.tup.2 i a s ha hs
    rw [upd_ne (ne_of q hp (fun z => by cases z))]
    exact q⟩
section
variable {H : Hp} {D : WAdr} {ss : List Stg} {w w' : Wd}
theorem WorldAt.put (c : WorldAt H D ss w) (b : Bool) (d : Sd) : WorldAt (upd H (D.q b) (.dK (sdK d))) D ss (w.put b d) := by
  refine ⟨?_, stL_updK c.st (c.sd b), ?_, fun b' => ?_, c.ne, c.n01⟩
  · rw [upd_ne (c.ne b), wdK_sides]
    exact c.ob
  · rw [upd_ne (ne_of c.sl (c.sd b) (by intro z; cases z))]
    exact c.sl
  · cases b <;> cases b'
    · exact upd_same
    · exact (upd_ne (Ne.symm c.n01)).trans (c.sd true)
    · exact (upd_ne c.n01).trans (c.sd false)
    · exact upd_same
theorem WorldAt.setp (c : WorldAt H D ss w) (h : ∀ b, w'.side b = w.side b) : WorldAt (upd H D.p (.dK (wdK D.st D.sl w'))) D ss w' := by
  refine ⟨upd_same, stL_updK c.st c.ob, ?_, fun b' => ?_, c.ne, c.n01⟩
  · rw [upd_ne (ne_of c.sl c.ob (by intro z; cases z))]
    exact c.sl
  · rw [upd_ne (Ne.symm (c.ne b')), h b']
    exact c.sd b'
theorem WorldAt.cast (c : WorldAt H D ss w) (h : w = w') : WorldAt H D ss w' := h ▸ c
theorem WorldAt.same {H' : Hp} (c : WorldAt H D ss w) (s : Same H H') : WorldAt H' D ss w :=
  ⟨s _ _ c.ob, ⟨s _ _ c.st.lst, c.st.tup.1, fun i a x ha hx => s _ _ (c.st.tup.2 i a x ha hx)⟩, s _ _ c.sl, fun b => s _ _ (c.sd b), c.ne, c.n01⟩
theorem at_qs (D : WAdr) (b : Bool) : atI [V.ref D.p0, V.ref D.p1] (ti b) = some (.ref (D.q b)) := by cases b <;> rfl
end
theorem gain_get (s : Stg) (d : Sd) (m : Option Int) (t x : Int) (w : Str) : ((valV (κ := Key) [(Sum.inr "add", V.int x), (Sum.inr "back", V.int (if d.used < x then d.used else x))] (Sum.inr w : Key)).getD (.int 0)) = .int (gain (.main m t w x) d) := by
  unfold gain
  dsimp only
  by_cases h1 : w = "add"
  · subst h1
    rfl
  · by_cases h2 : w = "back"
    · subst h2
      rw [if_neg h1, if_pos rfl]
      rfl
    · rw [if_neg h1, if_neg h2, valV_neg (fun z => h1 (Sum.inr.inj z).symm), valV_neg (fun z => h2 (Sum.inr.inj z).symm), valV_nil]
      rfl
/-! ### own tactics -/
/-- heap facts -/
local macro_rules | `(tactic| walk_at "hp") => `(tactic| first | assumption | exact upd_same | (refine Eq.trans (upd_ne ?hne) ?hrest; (case hne => first | assumption | exact Ne.symm (by assumption)); (case hrest => walk_at "hp")))
/-- a fact on Bools -/
local macro_rules | `(tactic| walk_at "bt") => `(tactic| first | with_reducible rfl | assumption | exact decide_eq_true (by assumption) | exact decide_eq_false (by assumption) | exact notd_t (by assumption) | exact notd_f (by assumption) | exact not_t (by assumption) | exact not_f (by assumption) | exact decide_eq_true (by omega) | exact decide_eq_false (by omega) | exact notd_t (by omega) | exact notd_f (by omega) | exact notd_f rfl | exact decide_eq_true rfl | rfl)
local macro_rules | `(tactic| walk_at "cl") => `(tactic| first | exact Txt.clS (by assumption) | exact Txt.clC (by assumption) | assumption)
local macro_rules | `(tactic| walk_at "na") => `(tactic| first | exact Txt.nS1 (by assumption) | exact Txt.nS2 (by assumption) | exact Txt.nS3 (by assumption) | exact Txt.nS4 (by assumption) | exact Txt.nS5 (by assumption) | exact Txt.nS6 (by assumption) | exact Txt.nS7 (by assumption) | exact Txt.nC1 (by assumption) | exact Txt.nC2 (by assumption) | exact Txt.nC3 (by assumption) | exact Txt.nC4 (by assumption) | exact Txt.nC5 (by assumption))
local macro_rules | `(tactic| walk_at "ci") => `(tactic| first | exact (show (0 : Int) < _ from by decide) | exact ⟨by decide, by decide⟩ | exact Or.inr ⟨by decide, by decide⟩ | exact Or.inl ⟨by decide, by decide⟩ | exact Or.inl ⟨by omega, by omega⟩)
local macro_rules | `(tactic| walk_at "ix") => `(tactic| first | assumption | exact rfl | exact atI_nat (by assumption))
local macro_rules | `(tactic| walk_at "sz") => `(tactic| first | exact Nat.le_trans (Nat.le_of_ble_eq_true (m := 100) rfl) (by decide) | omega)
local macro_rules | `(tactic| walk_at "l9") => `(tactic| first | exact (show (7 : Nat) < 1000 from by decide) | exact (show (6 : Nat) < 1000 from by decide) | exact (show (5 : Nat) < 1000 from by decide) | exact (show (4 : Nat) < 1000 from by decide) | exact (show (3 : Nat) < 1000 from by decide) | exact (show (2 : Nat) < 1000 from by decide) | exact (show (1 : Nat) < 1000 from by decide) | exact (show (0 : Nat) < 1000 from by decide))
local macro_rules | `(tactic| walk_at "dv") => `(tactic| first | with_reducible exact get_at | with_reducible exact get_gave | with_reducible exact get_used | with_reducible exact get_ticks | with_reducible exact get_made | with_reducible exact sget_at | with_reducible exact sget_ticks | with_reducible exact sget_periods | with_reducible exact sget_moved | with_reducible exact sget_made | with_reducible exact sget_used | with_reducible exact wget_stages | with_reducible exact wget_turn | with_reducible exact wget_runs | with_reducible exact wget_fallen | with_reducible exact wget_total | with_reducible exact wget_sides | exact rfl)
local macro_rules | `(tactic| walk_at "dp") => `(tactic| first | with_reducible exact put_at | with_reducible exact put_gave | with_reducible exact put_used | with_reducible exact put_ticks | with_reducible exact put_made | with_reducible exact sput_at | with_reducible exact sput_ticks | with_reducible exact sput_periods | with_reducible exact sput_moved | with_reducible exact sput_made | with_reducible exact sput_used | with_reducible exact wput_turn | with_reducible exact wput_runs | with_reducible exact wput_fallen | with_reducible exact wput_total | exact rfl)
local macro_rules | `(tactic| walk_at "rd1") => `(tactic| first
  | with_reducible refine' k_seq ?_
  | with_reducible refine' k_c ?_
  | ((with_reducible refine' k_var ?h ?_); (case h => exact rfl))
  | with_reducible refine' k_asg ?_
  | with_reducible refine' k_gName ?_
  | with_reducible refine' k_fld0 ?_
  | ((with_reducible refine' k_fld ?ho ?hc ?hn ?hl ?_); (case ho => walk_at "hp"); (case hc => walk_at "cl"); (case hn => walk_at "na"); (case hl => exact rfl))
  | with_reducible refine' c_isN ?_
  | with_reducible refine' c_notN ?_
  | with_reducible refine' c_addS ?_
  | with_reducible refine' k_op ?_
  | with_reducible refine' k_I0 ?_
  | ((with_reducible refine' k_I ?h ?_); (case h => walk_at "ci"))
  | with_reducible refine' k_tst0 ?_
  | with_reducible refine' k_tB0 ?_
  | with_reducible refine' k_bl ?_
  | with_reducible refine' k_bl2 ?_
  | with_reducible refine' k_if ?_
  | with_reducible refine' k_and ?_
  | with_reducible refine' k_or ?_
  | with_reducible refine' k_not ?_
  | ((with_reducible refine' k_yes ?h ?_); (case h => walk_at "bt"))
  | ((with_reducible refine' k_noo ?h ?_); (case h => walk_at "bt"))
  | with_reducible refine' k_eqI ?_
  | with_reducible refine' k_eqS ?_
  | with_reducible refine' k_eqB ?_
  | ((with_reducible refine' k_eq ?h ?_); (case h => exact rfl))
  | with_reducible refine' k_neI ?_
  | with_reducible refine' k_neS ?_
  | with_reducible refine' k_neB ?_
  | ((with_reducible refine' k_ne ?h ?_); (case h => exact rfl))
  | ((with_reducible refine' k_ixTo ?h ?hx ?_); (case h => walk_at "hp"); (case hx => walk_at "ix"))
  | ((with_reducible refine' k_ixLo ?h ?hx ?_); (case h => walk_at "hp"); (case hx => walk_at "ix"))
  | ((with_reducible refine' k_ixT ?h ?hx ?_); (case h => assumption); (case hx => walk_at "ix"))
  | ((with_reducible refine' k_ixL ?h ?hx ?_); (case h => assumption); (case hx => walk_at "ix"))
  | ((with_reducible refine' k_in ?h ?h1 ?h2 ?_); (case h => assumption); (case h1 => exact rfl); (case h2 => exact rfl))
  | ((with_reducible refine' k_inT ?h ?h1 ?h2 ?_); (case h => walk_at "hp"); (case h1 => exact rfl); (case h2 => exact rfl))
  | ((with_reducible refine' k_nin ?h ?h1 ?h2 ?_); (case h => assumption); (case h1 => exact rfl); (case h2 => exact rfl))
  | with_reducible refine' k_forR0 ?_
  | with_reducible refine' k_forL0 ?_
  | ((with_reducible refine' k_truL ?h ?_); (case h => assumption))
  | with_reducible refine' c_strI ?_
  | with_reducible refine' c_intS ?_
  | ((with_reducible refine' k_app ?h ?hl ?_); (case h => walk_at "hp"); (case hl => first | assumption | omega))
  | with_reducible refine' k_set0 ?_
  | ((with_reducible refine' k_set ?ho ?hc ?hn ?hl ?hp ?_); (case ho => walk_at "hp"); (case hc => walk_at "cl"); (case hn => walk_at "na"); (case hl => walk_at "l9"); (case hp => exact rfl))
  | with_reducible refine' k_meth0 ?_
  | with_reducible refine' k_methS0 ?_
  | ((with_reducible refine' k_meth ?ho ?hl ?_); (case ho => walk_at "hp"); (case hl => exact rfl))
  | with_reducible refine' k_cons ?_
  | with_reducible refine' k_nil ?_
  | with_reducible refine' k_ret ?_
  | with_reducible refine' k_retN ?_
  | with_reducible refine' k_next ?_
  | with_reducible refine' k_drop ?_
  | with_reducible refine' k_chain ?_
  | with_reducible refine' k_isN ?_
  | with_reducible refine' k_notN ?_
  | with_reducible refine' c_max2 ?_
  | with_reducible refine' c_min2 ?_
  | with_reducible refine' c_len ?_
  | with_reducible refine' c_list ?_
  | ((with_reducible refine' k_lenLo ?h ?_); (case h => walk_at "hp"))
  | ((with_reducible refine' k_lenTo ?h ?_); (case h => walk_at "hp"))
  | ((with_reducible refine' k_lenL ?h ?_); (case h => assumption))
  | ((with_reducible refine' k_lenT ?h ?_); (case h => assumption))
  | ((with_reducible refine' k_list ?h ?_); (case h => walk_at "hp"))
  | with_reducible refine' k_call ?_
  | with_reducible refine' k_max2 ?_
  | with_reducible refine' k_min2 ?_
  | with_reducible refine' k_ife ?_
  | with_reducible refine' k_andV ?_
  | with_reducible refine' k_orV ?_
  | with_reducible refine' k_notV ?_
  | with_reducible refine' k_un ?_
  | with_reducible refine' k_U ?_
  | with_reducible refine' k_make ?_
  | with_reducible refine' k_dge0 ?_
  | ((with_reducible refine' k_dge ?h ?hv ?_); (case h => walk_at "hp"); (case hv => walk_at "dv"))
  | with_reducible refine' k_dpu0 ?_
  | ((with_reducible refine' k_dpu ?h ?hl ?hp ?_); (case h => walk_at "hp"); (case hl => walk_at "l9"); (case hp => walk_at "dp"))
  | with_reducible refine' k_app0 ?_
  | with_reducible refine' k_bm0 ?_
  | ((with_reducible refine' k_tyL ?h ?_); (case h => walk_at "hp"))
  | with_reducible refine' k_tup0 ?_
  | with_reducible refine' k_lst0 ?_
  | ((with_reducible refine' k_len ?h ?_); (case h => walk_at "sz"))
  | ((with_reducible refine' k_gTup ?h ?hl ?_); (case h => walk_at "hp"); (case hl => exact rfl))
  | with_reducible refine' k_gCons ?_
  | with_reducible refine' k_gNil ?_
  | with_reducible refine' k_pairs ?_
  | with_reducible refine' k_pairs0 ?_
  | with_reducible refine' k_dg20 ?_
  | ((with_reducible refine' k_dg2 ?h ?_); (case h => walk_at "hp"))
  | with_reducible refine' k_sl0 ?_
  | with_reducible refine' k_part ?_
  | with_reducible refine' k_noPart ?_
  | with_reducible refine' k_gSub ?_
  | with_reducible refine' k_makeS ?_
  | with_reducible refine' k_CB ?_)
local macro_rules | `(tactic| walk_at "rd") => `(tactic| repeat walk_at "rd1")

/-! ### the law's own clock: walks -/
def WAdr.Has (D : WAdr) (a : Addr) : Prop := a = D.p ∨ a = D.p0 ∨ a = D.p1
def spNew : Sp := fun vs H Q _ => ∃ l as ss, vs = [.ref l] ∧ StL H l as ss ∧ 0 < ss.length ∧ ∀ D H', D.st = l → WorldAt H' D ss (wd0 ss) → Same H H' → (∀ a, D.Has a → H a = none) → Q (.ref D.p) H'
def spNext : Sp := fun vs H Q _ => ∃ D ss w b s, vs = [.ref (WAdr.p D), .ref (D.q b)] ∧ WorldAt H D ss w ∧ ss[(w.side b).at_ + 1]? = some s ∧ Q .non (upd H (D.q b) (.dK (sdK (beginOf s ((w.side b).at_ + 1) (w.side b)))))
def spTick : Sp := fun vs H Q _ => ∃ D ss w, vs = [.ref (WAdr.p D)] ∧ WorldAt H D ss w ∧ GoodS ss ∧ WF ss w ∧ w.fallen = none ∧ ∀ H', WorldAt H' D ss (passW ss w 1) → FrW H H' D → Q .non H'
def spPressW : Sp := fun vs H Q _ => ∃ D ss w, vs = [.ref (WAdr.p D)] ∧ WorldAt H D ss w ∧ GoodS ss ∧ WF ss w ∧ ∀ H', WorldAt H' D ss { w.put w.turn (pressOf ss (curS ss (w.side w.turn)) (w.side w.turn)) with turn := !w.turn } → FrW H H' D → Q .non H'
theorem wd_tot {st sl : Addr} (w : Wd) (b : Bool) (d : Sd) (t : Int) : wdK st sl { w.put b d with total := t } = wdK st sl { w with total := t } := by cases b <;> rfl
theorem wd_fal {st sl : Addr} (w : Wd) (b : Bool) (d : Sd) (t : Int) (f : Option Bool) (r : Bool) : wdK st sl { w.put b d with total := t, fallen := f, runs := r } = wdK st sl { w with total := t, fallen := f, runs := r } := by cases b <;> rfl
theorem wd_turn {st sl : Addr} (w : Wd) (b c : Bool) (d : Sd) : wdK st sl { w.put b d with turn := c } = wdK st sl { w with turn := c } := by cases b <;> rfl
section
variable {P : Program} {w : World} {K : PySem.W.Frag} {mg : Str → Option Value} {base : Heap} {CS CC cE cB cT cN cO aW : Addr} (T : Txt K mg CS CC cE cB cT cN cO aW)
include T
theorem ok_new (d : FDef K mg "_law_new" s_law_new ["_law_stages_here"]) : CalX P w K mg base CX0 1 "_law_new" spNew := by
  refine CalX.of0 d sc_law_new (fun vs H Q E h => ?_) (fun f cdv A outer s H vs Q E hr h => ?_)
  · obtain ⟨l, as, ss, rfl, _⟩ := h
    rfl
  · obtain ⟨l, as, ss, rfl, hL, hpos, q⟩ := h
    have hu := hu_of hr
    refine ⟨_, (pss_cons (ps_set (i := 1) sc_law_new.nd rfl (Or.inl rfl) (pe_ix ix_list (pv 0) pe_int (fun _ _ => rfl)))
 (pss_cons (ps_set (i := 2) sc_law_new.nd rfl (Or.inl rfl) (pe_disp (pps_cons pe_str pe_int (pps_cons pe_str (pe_ix ix_tup (pv 1) pe_int (fun _ _ => rfl)) (pps_cons pe_str pe_int (pps_cons pe_str pe_int (pps_cons pe_str pe_int (pps_cons pe_str pe_int pps_nil)))))) (by rfl) (by rfl) (fun z => by cases z) (by decide)))
 (C8.pss_cut (ps_if (pt_cmpR op_eq (pe_ix ix_tup (pv 1) pe_int (fun _ _ => rfl)) pe_str (nomark _)) (pss_one (ps_dput hu (pv 2) pe_str (pe_ix ix_tup (pv 1) pe_int (fun _ _ => rfl)) rfl)) pss_nil)
 (pss_cons (ps_set (i := 3) sc_law_new.nd rfl (Or.inl rfl) (pe_disp (pps_cons pe_str (pv 0) (pps_cons pe_str pe_int (pps_cons pe_str pe_bl (pps_cons pe_str pe_non (pps_cons pe_str pe_int pps_nil))))) (by rfl) (by rfl) (fun z => by cases z) (by decide)))
 (pss_cons (ps_dput hu (pv 3) pe_str (pe_lst (pa_cons (pv 2) (pa_cons (pe_bm0 PySem.F.plainAttrs_dict PySem.F.slot_dict_copy PySem.F.type_dict_copy mt_dcopy (pv 2)) pa_nil))) rfl)
 (pss_one (ps_ret (pv 3)))))))), ?_⟩
    have hl := hL.lst
    have h0 : ss[0]? = some (ss.getD 0 (.over 1 1)) := by
      rw [List.getD_eq_getElem?_getD, List.getElem?_eq_getElem hpos]
      rfl
    unfold wd0 at q
    generalize ss.getD 0 (.over 1 1) = s0 at *
    obtain ⟨a, ha, hta⟩ := hL.get h0
    have hx : atI (as.map V.ref) 0 = some (.ref a) := atI_refs ha
    walk_at "rd"
    intro p np
    have nap : a ≠ p := ne_of_none hta np
    have h2 : ∃ v, atI s0.vs 2 = some (.int v) ∧ ∀ m, s0 = m → (match m with | .main _ t _ _ => v = t | .over _ t => v = t) := by
      cases s0 with
      | main m t wy e => exact ⟨t, rfl, fun m e => by subst e; rfl⟩
      | over pp t => exact ⟨t, rfl, fun m e => by subst e; rfl⟩
    obtain ⟨v, hv, hv2⟩ := h2
    walk_at "rd"
    refine ⟨upd_same, [(.inr "at", .int 0), (.inr "ticks", .int v), (.inr "periods", .int 0), (.inr "moved", .int 0), (.inr "made", .int 0), (.inr "used", .int 0)], rfl, Nat.le_of_ble_eq_true rfl, ?_⟩
    have em : mergeK [] [((Sum.inr "at" : Key), V.int 0), (.inr "ticks", .int v), (.inr "periods", .int 0), (.inr "moved", .int 0), (.inr "made", .int 0), (.inr "used", .int 0)] = sdK ⟨0, v, 0, 0, 0, 0⟩ := rfl
    rw [em, upd2]
    have hp : upd H p (.dK (sdK ⟨0, v, 0, 0, 0, 0⟩)) p = some (.dK (sdK ⟨0, v, 0, 0, 0, 0⟩)) := upd_same
    have s1 : Same H (upd H p (.dK (sdK ⟨0, v, 0, 0, 0, 0⟩))) := Same.new np
    generalize upd H p (.dK (sdK ⟨0, v, 0, 0, 0, 0⟩)) = H1 at *
    have hta1 := s1 _ _ hta
    walk_at "rd"
    refine k_cut (fun σ' H' => σ' = [some (.ref l), some (.ref a), some (.ref p), none] ∧ Same H H' ∧ H' p = some (.dK (sdK (side0 s0)))) ?_ ?_
    · cases s0 with
      | main m t wy e =>
        have hta1 : H1 a = some (.tup [.str "main", mv m, .int t, .str wy, .int e]) := hta1
        have hvt : v = t := hv2 _ rfl
        subst hvt
        have hm : decide (("main" : Str) = "over") = false := by decide +kernel
        walk_at "rd"
        refine ⟨rfl, s1, ?_⟩
        rw [hp]
        show _ = some (HO.dK (sdK ⟨0, 0 + v, 0, 0, 0, 0⟩))
        rw [Int.zero_add]
      | over pp t =>
        have hta1 : H1 a = some (.tup [.str "over", .int pp, .int t]) := hta1
        have hvt : v = t := hv2 _ rfl
        subst hvt
        walk_at "rd"
        refine ⟨rfl, fun b o e => ?_, upd_same⟩
        rw [upd_ne (ne_of_none e np)]
        exact s1 _ _ e
    · rintro σ' H2 ⟨rfl, s2, hp2⟩
      walk_at "rd"
      intro p2 np2
      have npp : p ≠ p2 := ne_of_none hp2 np2
      walk_at "rd"
      refine ⟨upd_same, [(.inr "stages", .ref l), (.inr "turn", .int 0), (.inr "runs", .bl false), (.inr "fallen", .non), (.inr "total", .int 0)], rfl, Nat.le_of_ble_eq_true rfl, ?_⟩
      have em2 : mergeK [] [((Sum.inr "stages" : Key), V.ref l), (.inr "turn", .int 0), (.inr "runs", .bl false), (.inr "fallen", .non), (.inr "total", .int 0)] = [(.inr "stages", .ref l), (.inr "turn", .int 0), (.inr "runs", .bl false), (.inr "fallen", .non), (.inr "total", .int 0)] := rfl
      rw [em2, upd2]
      have hp22 : upd H2 p2 (.dK [(.inr "stages", .ref l), (.inr "turn", .int 0), (.inr "runs", .bl false), (.inr "fallen", .non), (.inr "total", .int 0)]) p2 = some (.dK [(.inr "stages", .ref l), (.inr "turn", .int 0), (.inr "runs", .bl false), (.inr "fallen", .non), (.inr "total", .int 0)]) := upd_same
      have s3 : Same H2 (upd H2 p2 (.dK [(.inr "stages", .ref l), (.inr "turn", .int 0), (.inr "runs", .bl false), (.inr "fallen", .non), (.inr "total", .int 0)])) := Same.new np2
      generalize upd H2 p2 (.dK [(.inr "stages", .ref l), (.inr "turn", .int 0), (.inr "runs", .bl false), (.inr "fallen", .non), (.inr "total", .int 0)]) = H3 at *
      have hp3 := s3 _ _ hp2
      walk_at "rd"
      refine ⟨.inr (.inr (.inl ⟨rfl, .inl ⟨_, hp3⟩⟩)), p, _, rfl, rfl, hp3, fun pc npc => ?_⟩
      have hpc : upd H3 pc (.dK (sdK (side0 s0))) pc = some (.dK (sdK (side0 s0))) := upd_same
      have s4 : Same H3 (upd H3 pc (.dK (sdK (side0 s0)))) := Same.new npc
      have n01 : p ≠ pc := ne_of_none hp3 npc
      have n2c : p2 ≠ pc := ne_of_none hp22 npc
      generalize upd H3 pc (.dK (sdK (side0 s0))) = H4 at *
      have hp4 := s4 _ _ hp3
      have hp24 := s4 _ _ hp22
      walk_at "rd"
      intro l3 nl3
      have hl3 : upd H4 l3 (.lst [.ref p, .ref pc]) l3 = some (.lst [.ref p, .ref pc]) := upd_same
      have s5 : Same H4 (upd H4 l3 (.lst [.ref p, .ref pc])) := Same.new nl3
      generalize upd H4 l3 (.lst [.ref p, .ref pc]) = H5 at *
      have hp5 := s5 _ _ hp4
      have hpc5 := s5 _ _ hpc
      have hp25 := s5 _ _ hp24
      have sH : Same H H5 := ((s2.trans s3).trans s4).trans s5
      walk_at "rd"
      have np2H : H p2 = none := s2.free np2
      refine q ⟨p2, l, l3, p, pc, as⟩ _ rfl ⟨upd_same, ?_, ?_, fun b => ?_, fun b => ?_, n01⟩ (fun b o e => ?_) (fun b hb => ?_)
      · exact stL_updK ⟨sH _ _ hL.lst, hL.tup.1, fun i a x ha hx => sH _ _ (hL.tup.2 i a x ha hx)⟩ hp25
      · show upd H5 p2 _ l3 = _
        rw [upd_ne (ne_of hl3 hp25 (by intro z; cases z))]
        exact hl3
      · cases b
        · show upd H5 p2 _ p = _
          rw [upd_ne npp]
          exact hp5
        · show upd H5 p2 _ pc = _
          rw [upd_ne (Ne.symm n2c)]
          exact hpc5
      · cases b
        · exact Ne.symm npp
        · exact n2c
      · rw [upd_ne (ne_of_none e np2H)]
        exact sH _ _ e
      · rcases hb with rfl | rfl | rfl
        · exact np2H
        · exact np
        · exact (s2.trans s3).free npc
theorem ok_next (d : FDef K mg "_law_next" s_law_next ["_law_world", "_law_side"]) : CalX P w K mg base CX0 1 "_law_next" spNext := by
  refine CalX.of0 d sc_law_next (fun vs H Q E h => ?_) (fun f cdv A outer s H vs Q E hr h => ?_)
  · obtain ⟨D, ss, w, b, s, rfl, _⟩ := h
    rfl
  · obtain ⟨D, ss, w, b, s0, rfl, c, hs, q⟩ := h
    have hu := hu_of hr
    refine ⟨_, (pss_cons (ps_dput hu (pv 1) pe_str (pe_op op_add (pe_dget hu (pv 1) pe_str (fun _ _ => rfl)) pe_int) rfl)
 (pss_cons (ps_dput hu (pv 1) pe_str pe_int rfl)
 (pss_cons (ps_set (i := 2) sc_law_next.nd rfl (Or.inl rfl) (pe_ix ix_list (pe_dget hu (pv 0) pe_str (fun _ _ => rfl)) (pe_dget hu (pv 1) pe_str (fun _ _ => rfl)) (fun _ _ => rfl)))
 (pss_one (ps_if (pt_cmpR op_eq (pe_ix ix_tup (pv 2) pe_int (fun _ _ => rfl)) pe_str (nomark _)) (pss_cons (ps_dput hu (pv 1) pe_str (pe_ix ix_tup (pv 2) pe_int (fun _ _ => rfl)) rfl)
 (pss_one (ps_dput hu (pv 1) pe_str (pe_ix ix_tup (pv 2) pe_int (fun _ _ => rfl)) rfl))) (pss_one (ps_dput hu (pv 1) pe_str (pe_op op_add (pe_dget hu (pv 1) pe_str (fun _ _ => rfl)) (pe_ix ix_tup (pv 2) pe_int (fun _ _ => rfl))) rfl))))))), ?_⟩
    have hob := c.ob
    have hsd := c.sd b
    have hne := c.ne b
    have hst := c.st.lst
    obtain ⟨a, ha, hta⟩ := c.st.get hs
    have hx := atI_refs ha
    have n1 : D.st ≠ D.q b := ne_of hst hsd (by intro z; cases z)
    have n2 : a ≠ D.q b := ne_of hta hsd (by intro z; cases z)
    cases s0 with
    | main m t wy e =>
      have hta : H a = some (.tup [.str "main", mv m, .int t, .str wy, .int e]) := hta
      have hm : decide (("main" : Str) = "over") = false := by decide +kernel
      walk_at "rd"
      simp only [upd2]
      exact q
    | over pp t =>
      have hta : H a = some (.tup [.str "over", .int pp, .int t]) := hta
      walk_at "rd"
      simp only [upd2]
      exact q
theorem ok_tick (c__law_next : CalX P w K mg base CX0 1 "_law_next" spNext) (d : FDef K mg "_law_tick" s_law_tick ["_law_world"]) : CalX P w K mg base CX0 2 "_law_tick" spTick := by
  refine CalX.of0 d sc_law_tick (fun vs H Q E h => ?_) (fun f cdv A outer s H vs Q E hr h => ?_)
  · obtain ⟨D, ss, w, rfl, _⟩ := h
    rfl
  · obtain ⟨D, ss, w, rfl, c, G, wf, hf, q⟩ := h
    have hu := hu_of hr
    refine ⟨_, (pss_cons (ps_set (i := 1) sc_law_tick.nd rfl (Or.inl rfl) (pe_ix ix_list (pe_dget hu (pv 0) pe_str (fun _ _ => rfl)) (pe_dget hu (pv 0) pe_str (fun _ _ => rfl)) (fun _ _ => rfl)))
 (pss_cons (ps_set (i := 2) sc_law_tick.nd rfl (Or.inl rfl) (pe_ix ix_list (pe_dget hu (pv 0) pe_str (fun _ _ => rfl)) (pe_dget hu (pv 1) pe_str (fun _ _ => rfl)) (fun _ _ => rfl)))
 (pss_cons (ps_dput hu (pv 1) pe_str (pe_op op_add (pe_dget hu (pv 1) pe_str (fun _ _ => rfl)) pe_int) rfl)
 (pss_cons (ps_dput hu (pv 0) pe_str (pe_op op_add (pe_dget hu (pv 0) pe_str (fun _ _ => rfl)) pe_int) rfl)
 (C8.pss_cut (ps_if (PW.pt (pw_or (pt_cmpR op_eq (pe_ix ix_tup (pv 2) pe_int (fun _ _ => rfl)) pe_str (nomark _)) (pw_or (pt_cmpR op_ne (pe_ix ix_tup (pv 2) pe_int (fun _ _ => rfl)) pe_str (nomark _)) (pw_or1 (pt_cmpR op_gt (pe_dget hu (pv 1) pe_str (fun _ _ => rfl)) (pe_ix ix_tup (pv 2) pe_int (fun _ _ => rfl)) (nomark _)))))) (pss_one (ps_dput hu (pv 1) pe_str (pe_op op_sub (pe_dget hu (pv 1) pe_str (fun _ _ => rfl)) pe_int) rfl)) pss_nil)
 (pss_cons (ps_if (pt_cmpR op_gt (pe_dget hu (pv 1) pe_str (fun _ _ => rfl)) pe_int (nomark _)) (pss_one ps_retN) pss_nil)
 (pss_cons (ps_if (pt_cmpR op_eq (pe_ix ix_tup (pv 2) pe_int (fun _ _ => rfl)) pe_str (nomark _)) (pss_cons (ps_dput hu (pv 1) pe_str (pe_op op_sub (pe_dget hu (pv 1) pe_str (fun _ _ => rfl)) pe_int) rfl)
 (pss_one (ps_if (pt_cmpR op_gt (pe_dget hu (pv 1) pe_str (fun _ _ => rfl)) pe_int (nomark _)) (pss_cons (ps_dput hu (pv 1) pe_str (pe_ix ix_tup (pv 2) pe_int (fun _ _ => rfl)) rfl)
 (pss_one ps_retN)) pss_nil))) (pss_one (ps_if (PW.pt (pw_and (pt_cmpR op_isN (pe_ix ix_tup (pv 2) pe_int (fun _ _ => rfl)) pe_non (nomark _)) (pw_and1 (pt_cmpR op_lt (pe_op op_add (pe_dget hu (pv 1) pe_str (fun _ _ => rfl)) pe_int) (pe_callB call_len_seq (by rfl) T.b_len PySem.boot_len (pa_cons (pe_dget hu (pv 0) pe_str (fun _ _ => rfl)) pa_nil)) (nomark _))))) (pss_cons (ps_expr (pe_cX c__law_next hr (by decide) rfl pass0 (pa_cons (pv 0) (pa_cons (pv 1) pa_nil))))
 (pss_one ps_retN)) pss_nil)))
 (pss_cons (ps_dput hu (pv 0) pe_str (pe_dget hu (pv 0) pe_str (fun _ _ => rfl)) rfl)
 (pss_one (ps_dput hu (pv 0) pe_str pe_bl rfl)))))))))), ?_⟩
    have hob := c.ob
    have hsl := c.sl
    have hsd := c.sd w.turn
    have hne := c.ne w.turn
    have hst := c.st.lst
    have hx1 := at_qs D w.turn
    have S := wf.okS hf w.turn
    have hcur := cur_get S.cur
    obtain ⟨a, ha, hta⟩ := c.st.get hcur
    have hx := atI_refs ha
    have n1 : D.st ≠ D.q w.turn := ne_of hst hsd (by intro z; cases z)
    have n2 : a ≠ D.q w.turn := ne_of hta hsd (by intro z; cases z)
    have n3 : D.st ≠ D.p := ne_of hst hob (by intro z; cases z)
    have n4 : a ≠ D.p := ne_of hta hob (by intro z; cases z)
    walk_at "rd"
    dsimp only
    have e1 : wdK D.st D.sl { w.put w.turn { w.side w.turn with used := (w.side w.turn).used + 1 } with total := w.total + 1 } = wdK D.st D.sl { w with total := w.total + 1 } := wd_tot ..
    have c1 := (c.put w.turn { w.side w.turn with used := (w.side w.turn).used + 1 }).setp (w' := { w.put w.turn { w.side w.turn with used := (w.side w.turn).used + 1 } with total := w.total + 1 }) (fun b => by cases b <;> rfl)
    rw [e1] at c1
    have fr1 : FrW H (upd (upd H (D.q w.turn) (.dK (sdK { w.side w.turn with used := (w.side w.turn).used + 1 }))) D.p (.dK (wdK D.st D.sl { w with total := w.total + 1 }))) D := (FrW.refl _ _).q.p
    generalize upd (upd H (D.q w.turn) (.dK (sdK { w.side w.turn with used := (w.side w.turn).used + 1 }))) D.p (.dK (wdK D.st D.sl { w with total := w.total + 1 })) = H1 at *
    have hsd1 : H1 (D.q w.turn) = some (.dK (sdK { w.side w.turn with used := (w.side w.turn).used + 1 })) := by
      have z := c1.sd w.turn
      rw [side_tot, put_side] at z
      exact z
    have ep : passW ss w 1 = evW ss w (curS ss (w.side w.turn)) (passBy (curS ss (w.side w.turn)) (w.side w.turn) 1) (w.total + 1) := rfl
    have et : (passBy (curS ss (w.side w.turn)) (w.side w.turn) 1).ticks = (w.side w.turn).ticks - (if 1 - freeOf (curS ss (w.side w.turn)) (w.side w.turn) > 0 then 1 - freeOf (curS ss (w.side w.turn)) (w.side w.turn) else 0) := rfl
    have f0 := free_nonneg (curS ss (w.side w.turn)) (w.side w.turn)
    have hpos := S.pos
    have hper := S.per
    have hta1 : H1 a = some (.tup (curS ss (w.side w.turn)).vs) := fr1 _ _ hta n4 (by cases hq : w.turn <;> rw [hq] at n2 <;> first | exact n2 | exact (ne_of hta (c.sd false) (by intro z; cases z))) (by cases hq : w.turn <;> rw [hq] at n2 <;> first | exact n2 | exact (ne_of hta (c.sd true) (by intro z; cases z)))
    generalize hs : curS ss (w.side w.turn) = s0 at *
    refine k_cut (fun σ' H' => σ' = [some (.ref D.p), some (.ref (D.q w.turn)), some (.ref a)] ∧ WorldAt H' D ss { w.put w.turn (passBy s0 (w.side w.turn) 1) with total := w.total + 1 } ∧ FrW H H' D) ?_ ?_
    · have dec : 1 - freeOf s0 (w.side w.turn) > 0 → freeOf s0 (w.side w.turn) = 0 → WorldAt (upd H1 (D.q w.turn) (.dK (sdK { w.side w.turn with used := (w.side w.turn).used + 1, ticks := (w.side w.turn).ticks - 1 }))) D ss { w.put w.turn (passBy s0 (w.side w.turn) 1) with total := w.total + 1 } := fun h1 h2 => by
        have e2 : passBy s0 (w.side w.turn) 1 = { w.side w.turn with used := (w.side w.turn).used + 1, ticks := (w.side w.turn).ticks - 1 } := by
          unfold passBy
          rw [if_pos h1, h2]
          rfl
        rw [e2]
        have z := c1.put w.turn { w.side w.turn with used := (w.side w.turn).used + 1, ticks := (w.side w.turn).ticks - 1 }
        rw [put_tot] at z
        exact z
      have nod : ¬ (1 - freeOf s0 (w.side w.turn) > 0) → WorldAt H1 D ss { w.put w.turn (passBy s0 (w.side w.turn) 1) with total := w.total + 1 } := fun h1 => by
        have e2 : passBy s0 (w.side w.turn) 1 = { w.side w.turn with used := (w.side w.turn).used + 1 } := by
          unfold passBy
          rw [if_neg h1, Int.sub_zero]
        rw [e2]
        exact c1
      cases s0 with
      | over pp t =>
        have hta1 : H1 a = some (.tup [.str "over", .int pp, .int t]) := hta1
        have hfr : freeOf (.over pp t) (w.side w.turn) = 0 := rfl
        walk_at "rd"
        exact ⟨rfl, dec (by rw [hfr]; decide) hfr, fr1.q⟩
      | main m t wy e =>
        have hta1 : H1 a = some (.tup [.str "main", mv m, .int t, .str wy, .int e]) := hta1
        have hm : decide (("main" : Str) = "over") = false := by decide +kernel
        walk_at "rd"
        by_cases hw : wy = "wait"
        · have hfr : freeOf (.main m t wy e) (w.side w.turn) = if e - (w.side w.turn).used > 0 then e - (w.side w.turn).used else 0 := if_pos hw
          walk_at "rd"
          by_cases hu2 : e - (w.side w.turn).used > 0
          · rw [if_pos hu2] at hfr
            have hg : ¬ (e < (w.side w.turn).used + 1) := by omega
            walk_at "rd"
            exact ⟨rfl, nod (by rw [hfr]; omega), fr1⟩
          · rw [if_neg hu2] at hfr
            have hg : e < (w.side w.turn).used + 1 := by omega
            walk_at "rd"
            exact ⟨rfl, dec (by rw [hfr]; decide) hfr, fr1.q⟩
        · have hfr : freeOf (.main m t wy e) (w.side w.turn) = 0 := if_neg hw
          walk_at "rd"
          exact ⟨rfl, dec (by rw [hfr]; decide) hfr, fr1.q⟩
    · clear hsd1 hta1 fr1 c1
      rintro σ' H2 ⟨rfl, c2, fr2⟩
      have hta2 : H2 a = some (.tup s0.vs) := fr2 _ _ hta n4 (by cases hq : w.turn <;> rw [hq] at n2 <;> first | exact n2 | exact (ne_of hta (c.sd false) (by intro z; cases z))) (by cases hq : w.turn <;> rw [hq] at n2 <;> first | exact n2 | exact (ne_of hta (c.sd true) (by intro z; cases z)))
      have hsd2 : H2 (D.q w.turn) = some (.dK (sdK (passBy s0 (w.side w.turn) 1))) := by
        have z := c2.sd w.turn
        rw [side_tot, put_side] at z
        exact z
      have hob2 : H2 D.p = some (.dK (wdK D.st D.sl { w with total := w.total + 1 })) := by
        have z := c2.ob
        have e2 : wdK D.st D.sl { w.put w.turn (passBy s0 (w.side w.turn) 1) with total := w.total + 1 } = wdK D.st D.sl { w with total := w.total + 1 } := wd_tot ..
        rw [e2] at z
        exact z
      have hst2 := c2.st.lst
      have hlen : D.as.length = ss.length := c.st.tup.1
      have hpa : (passBy s0 (w.side w.turn) 1).at_ = (w.side w.turn).at_ := rfl
      have hpp : (passBy s0 (w.side w.turn) 1).periods = (w.side w.turn).periods := rfl
      have nq : D.q w.turn ≠ D.p := Ne.symm hne
      have hx3 := hx
      rw [ep] at q
      unfold evW at q
      have fin : ∀ Hq d', WorldAt Hq D ss { w.put w.turn d' with total := w.total + 1 } → WorldAt (upd (upd Hq D.p (.dK (wdK D.st D.sl { w with total := w.total + 1, fallen := some w.turn }))) D.p (.dK (wdK D.st D.sl { w with total := w.total + 1, fallen := some w.turn, runs := false }))) D ss { w.put w.turn d' with total := w.total + 1, fallen := some w.turn, runs := false } := fun Hq d' cq => by
        rw [upd2]
        have z := cq.setp (w' := { w.put w.turn d' with total := w.total + 1, fallen := some w.turn, runs := false }) (fun b => by cases b <;> rfl)
        have e2 : wdK D.st D.sl { w.put w.turn d' with total := w.total + 1, fallen := some w.turn, runs := false } = wdK D.st D.sl { w with total := w.total + 1, fallen := some w.turn, runs := false } := wd_fal ..
        rw [e2] at z
        exact z
      have put2 : ∀ d', WorldAt (upd H2 (D.q w.turn) (.dK (sdK d'))) D ss { w.put w.turn d' with total := w.total + 1 } := fun d' => by
        have z := c2.put w.turn d'
        rw [put_tot] at z
        exact z
      have hL : (D.as.map V.ref).length = ss.length := by rw [List.length_map]; exact hlen
      walk_at "rd"
      by_cases ct : (passBy s0 (w.side w.turn) 1).ticks > 0
      · rw [if_pos ct] at q
        walk_at "rd"
        exact q _ c2 fr2
      · rw [if_neg ct] at q
        have ht0 : (passBy s0 (w.side w.turn) 1).ticks = 0 := by
          rw [et] at ct ⊢
          split at ct <;> rename_i h1
          · rw [if_pos h1]
            omega
          · rw [if_neg h1]
            omega
        generalize hd1 : passBy s0 (w.side w.turn) 1 = d1 at *
        cases s0 with
        | over pp t =>
          have hta2 : H2 a = some (.tup [.str "over", .int pp, .int t]) := hta2
          have hpr := hper pp t rfl
          by_cases cp : 0 < d1.periods - 1
          · have ef : fallsOf ss (.over pp t) d1 = (false, { d1 with periods := d1.periods - 1, ticks := t }) := by
              show (decide (d1.periods - 1 = 0), ({ d1 with periods := d1.periods - 1, ticks := if d1.periods - 1 > 0 then t else 0 } : Sd)) = _
              rw [if_pos cp, decide_eq_false (by omega)]
            rw [ef] at q
            dsimp only at q
            rw [if_neg Bool.false_ne_true] at q
            walk_at "rd"
            simp only [upd2]
            exact q _ (put2 _) fr2.q
          · have ef : fallsOf ss (.over pp t) d1 = (true, { d1 with periods := d1.periods - 1 }) := by
              show (decide (d1.periods - 1 = 0), ({ d1 with periods := d1.periods - 1, ticks := if d1.periods - 1 > 0 then t else 0 } : Sd)) = _
              rw [if_neg cp, decide_eq_true (by omega), ← ht0]
            rw [ef, if_pos rfl] at q
            walk_at "rd"
            exact q _ (fin _ _ (put2 _)) fr2.q.p.p
        | main m t wy e =>
          have hm : decide (("main" : Str) = "over") = false := by decide +kernel
          cases m with
          | some mm =>
            have hta2 : H2 a = some (.tup [.str "main", .int mm, .int t, .str wy, .int e]) := hta2
            have ef : fallsOf ss (.main (some mm) t wy e) d1 = (true, d1) := rfl
            rw [ef, if_pos rfl] at q
            have hz : decide (V.int mm = V.non) = false := decide_eq_false (by intro z; cases z)
            walk_at "rd"
            exact q _ (fin _ _ c2) fr2.p.p
          | none =>
            have hta2 : H2 a = some (.tup [.str "main", .non, .int t, .str wy, .int e]) := hta2
            walk_at "rd"
            rw [hL]
            by_cases ca : d1.at_ + 1 < ss.length
            · have hx4 : ss[d1.at_ + 1]? = some ss[d1.at_ + 1] := List.getElem?_eq_getElem ca
              have ef : fallsOf ss (.main none t wy e) d1 = (false, beginOf ss[d1.at_ + 1] (d1.at_ + 1) d1) := by
                show (match ss[d1.at_ + 1]? with | some s' => (false, beginOf s' (d1.at_ + 1) d1) | none => (true, d1)) = _
                rw [hx4]
              rw [ef] at q
              dsimp only at q
              rw [if_neg Bool.false_ne_true] at q
              walk_at "rd"
              have es : ({ w.put w.turn d1 with total := w.total + 1 } : Wd).side w.turn = d1 := by rw [side_tot, put_side]
              refine ⟨D, ss, _, w.turn, ss[d1.at_ + 1], rfl, c2, by rw [es]; exact hx4, ?_⟩
              rw [es]
              walk_at "rd"
              exact q _ (put2 _) fr2.q
            · have hx4 : ss[d1.at_ + 1]? = none := List.getElem?_eq_none (by omega)
              have ef : fallsOf ss (.main none t wy e) d1 = (true, d1) := by
                show (match ss[d1.at_ + 1]? with | some s' => (false, beginOf s' (d1.at_ + 1) d1) | none => (true, d1)) = _
                rw [hx4]
              rw [ef, if_pos rfl] at q
              walk_at "rd"
              exact q _ (fin _ _ c2) fr2.p.p
end
def spStateW : Sp := fun vs H Q _ => ∃ D ss w, vs = [.ref (WAdr.p D)] ∧ WorldAt H D ss w ∧ ∀ l as H', NewT H H' l as [stT w.d0, stT w.d1, gmT w] → Q (.ref l) H'
/-- a scalar that is told of a clock -/
inductive Sc1 : V → Prop
  | i (n : Int) : Sc1 (.int n)
  | b (c : Bool) : Sc1 (.bl c)
  | n : Sc1 .non
def spSameW : Sp := fun vs H Q _ => ∃ a b xs, vs = [.ref a, .ref b] ∧ H a = some (.tup xs) ∧ H b = some (.tup xs) ∧ xs.length ≤ 10 ∧ (∀ x, x ∈ xs → Sc1 x) ∧ Q (.bl true) H
theorem rowsS {H H' H2 : Hp} {l t : Addr} {as : List Addr} {vss : List (List V)} {vs : List V} (n : NewT H H' l as vss) (_ : Addr) (h : H2 t = some (.tup vs)) (s : Same H' H2) : (as ++ [t]).length = (vss ++ [vs]).length ∧ ∀ (i : Nat) (a : Addr) (us : List V), (as ++ [t])[i]? = some a → (vss ++ [vs])[i]? = some us → H2 a = some (.tup us) := by
  refine ⟨by rw [List.length_append, List.length_append, n.len]; rfl, fun i b us hb hu => ?_⟩
  by_cases hi : i < as.length
  · rw [List.getElem?_append_left hi] at hb
    rw [List.getElem?_append_left (by rw [← n.len]; exact hi)] at hu
    exact s _ _ (n.tup i b us hb hu)
  · have h0 := (List.getElem?_eq_some_iff.mp hb).1
    rw [List.length_append] at h0
    have h1 : [t].length = 1 := rfl
    have hi : i = as.length := by omega
    subst hi
    rw [List.getElem?_append_right (Nat.le_refl _), Nat.sub_self] at hb
    rw [List.getElem?_append_right (by rw [n.len]; exact Nat.le_refl _), n.len, Nat.sub_self] at hu
    cases hb
    cases hu
    exact h
section
variable {P : Program} {w : World} {K : PySem.W.Frag} {mg : Str → Option Value} {base : Heap} {CS CC cE cB cT cN cO aW : Addr} (T : Txt K mg CS CC cE cB cT cN cO aW)
include T
theorem ok_pressW (c__law_next : CalX P w K mg base CX0 1 "_law_next" spNext) (d : FDef K mg "_law_press" s_law_press ["_law_world"]) : CalX P w K mg base CX0 2 "_law_press" spPressW := by
  refine CalX.of0 d sc_law_press (fun vs H Q E h => ?_) (fun f cdv A outer s H vs Q E hr h => ?_)
  · obtain ⟨D, ss, w, rfl, _⟩ := h
    rfl
  · obtain ⟨D, ss, w, rfl, c, G, wf, q⟩ := h
    have hu := hu_of hr
    refine ⟨_, (pss_cons (ps_set (i := 1) sc_law_press.nd rfl (Or.inl rfl) (pe_ix ix_list (pe_dget hu (pv 0) pe_str (fun _ _ => rfl)) (pe_dget hu (pv 0) pe_str (fun _ _ => rfl)) (fun _ _ => rfl)))
 (pss_cons (ps_set (i := 2) sc_law_press.nd rfl (Or.inl rfl) (pe_ix ix_list (pe_dget hu (pv 0) pe_str (fun _ _ => rfl)) (pe_dget hu (pv 1) pe_str (fun _ _ => rfl)) (fun _ _ => rfl)))
 (pss_cons (ps_dput hu (pv 1) pe_str (pe_op op_add (pe_dget hu (pv 1) pe_str (fun _ _ => rfl)) pe_int) rfl)
 (pss_cons (ps_dput hu (pv 1) pe_str (pe_op op_add (pe_dget hu (pv 1) pe_str (fun _ _ => rfl)) pe_int) rfl)
 (C8.pss_cut (ps_if (pt_cmpR op_eq (pe_ix ix_tup (pv 2) pe_int (fun _ _ => rfl)) pe_str (nomark _)) (pss_one (ps_dput hu (pv 1) pe_str (pe_ix ix_tup (pv 2) pe_int (fun _ _ => rfl)) rfl)) (pss_cons (ps_set (i := 3) sc_law_press.nd rfl (Or.inl rfl) (pe_disp (pps_cons pe_str (pe_ix ix_tup (pv 2) pe_int (fun _ _ => rfl)) (pps_cons pe_str (pe_callB (call_min2 rfl) (by rfl) T.b_min (by decide +kernel) (pa_cons (pe_ix ix_tup (pv 2) pe_int (fun _ _ => rfl)) (pa_cons (pe_dget hu (pv 1) pe_str (fun _ _ => rfl)) pa_nil))) pps_nil)) (by rfl) (by rfl) (fun z => by cases z) (by decide)))
 (pss_one (ps_dput hu (pv 1) pe_str (pe_op op_add (pe_dget hu (pv 1) pe_str (fun _ _ => rfl)) (pe_dget2 hu (pv 3) (pe_ix ix_tup (pv 2) pe_int (fun _ _ => rfl)) pe_int ⟨rfl, rfl, rfl, rfl⟩)) rfl))))
 (pss_cons (ps_dput hu (pv 1) pe_str pe_int rfl)
 (pss_cons (ps_if (PW.pt (pw_and (pt_cmpR op_eq (pe_ix ix_tup (pv 2) pe_int (fun _ _ => rfl)) pe_str (nomark _)) (pw_and1 (pt_cmpR op_eq (pe_dget hu (pv 1) pe_str (fun _ _ => rfl)) (pe_ix ix_tup (pv 2) pe_int (fun _ _ => rfl)) (nomark _))))) (pss_one (ps_expr (pe_cX c__law_next hr (by decide) rfl pass0 (pa_cons (pv 0) (pa_cons (pv 1) pa_nil))))) pss_nil)
 (pss_one (ps_dput hu (pv 0) pe_str (pe_op op_sub pe_int (pe_dget hu (pv 0) pe_str (fun _ _ => rfl))) rfl))))))))), ?_⟩
    have hob := c.ob
    have hsl := c.sl
    have hsd := c.sd w.turn
    have hne := c.ne w.turn
    have nq : D.q w.turn ≠ D.p := Ne.symm hne
    have hst := c.st.lst
    have hx1 := at_qs D w.turn
    have hcur := cur_get (wf.inS w.turn)
    have g := G.2 _ _ hcur
    obtain ⟨a, ha, hta⟩ := c.st.get hcur
    have hx := atI_refs ha
    have n1 : D.st ≠ D.q w.turn := ne_of hst hsd (by intro z; cases z)
    have n2 : a ≠ D.q w.turn := ne_of hta hsd (by intro z; cases z)
    walk_at "rd"
    simp only [upd2]
    generalize hs : curS ss (w.side w.turn) = s0 at *
    have na : ∀ b, a ≠ D.q b := fun b => ne_of hta (c.sd b) (by intro z; cases z)
    have nap : a ≠ D.p := ne_of hta hob (by intro z; cases z)
    refine k_cut (fun σ' H' => ∃ x3, σ' = [some (.ref D.p), some (.ref (D.q w.turn)), some (.ref a), x3] ∧ WorldAt H' D ss (w.put w.turn { pressed s0 (w.side w.turn) with used := (w.side w.turn).used }) ∧ FrW H H' D) ?_ ?_
    · cases s0 with
      | over pp t =>
        have hta : H a = some (.tup [.str "over", .int pp, .int t]) := hta
        walk_at "rd"
        simp only [upd2]
        exact ⟨_, rfl, c.put w.turn _, (FrW.refl _ _).q⟩
      | main m t wy e =>
        have hta : H a = some (.tup [.str "main", mv m, .int t, .str wy, .int e]) := hta
        have hm : decide (("main" : Str) = "over") = false := by decide +kernel
        have s1 : ∀ o, upd H (D.q w.turn) o (D.q w.turn) = some o := fun o => upd_same
        walk_at "rd"
        intro pm npm
        have npq : D.q w.turn ≠ pm := ne_of_none (s1 _) npm
        have hta1 : upd H (D.q w.turn) (.dK (sdK { w.side w.turn with moved := (w.side w.turn).moved + 1, made := (w.side w.turn).made + 1 })) a = some (.tup [.str "main", mv m, .int t, .str wy, .int e]) := by
          rw [upd_ne n2]
          exact hta
        have nam : a ≠ pm := ne_of_none hta1 npm
        walk_at "rd"
        refine ⟨upd_same, [(.inr "add", .int e), (.inr "back", .int (if (w.side w.turn).used < e then (w.side w.turn).used else e))], rfl, Nat.le_of_ble_eq_true rfl, ?_⟩
        have em : mergeK [] [((Sum.inr "add" : Key), V.int e), (.inr "back", .int (if (w.side w.turn).used < e then (w.side w.turn).used else e))] = [(.inr "add", .int e), (.inr "back", .int (if (w.side w.turn).used < e then (w.side w.turn).used else e))] := rfl
        rw [em, upd2]
        have c1 := c.put w.turn { w.side w.turn with moved := (w.side w.turn).moved + 1, made := (w.side w.turn).made + 1 }
        have fr1 : FrW H (upd H (D.q w.turn) (.dK (sdK { w.side w.turn with moved := (w.side w.turn).moved + 1, made := (w.side w.turn).made + 1 }))) D := (FrW.refl _ _).q
        have hq1 : upd H (D.q w.turn) (.dK (sdK { w.side w.turn with moved := (w.side w.turn).moved + 1, made := (w.side w.turn).made + 1 })) (D.q w.turn) = some (.dK (sdK { w.side w.turn with moved := (w.side w.turn).moved + 1, made := (w.side w.turn).made + 1 })) := upd_same
        generalize upd H (D.q w.turn) (.dK (sdK { w.side w.turn with moved := (w.side w.turn).moved + 1, made := (w.side w.turn).made + 1 })) = H1 at *
        have hpm : upd H1 pm (.dK [(.inr "add", .int e), (.inr "back", .int (if (w.side w.turn).used < e then (w.side w.turn).used else e))]) pm = some (.dK [(.inr "add", .int e), (.inr "back", .int (if (w.side w.turn).used < e then (w.side w.turn).used else e))]) := upd_same
        have s2 : Same H1 (upd H1 pm (.dK [(.inr "add", .int e), (.inr "back", .int (if (w.side w.turn).used < e then (w.side w.turn).used else e))])) := Same.new npm
        generalize upd H1 pm (.dK [(.inr "add", .int e), (.inr "back", .int (if (w.side w.turn).used < e then (w.side w.turn).used else e))]) = H2 at *
        have hta2 := s2 _ _ hta1
        have hq2 := s2 _ _ hq1
        have c2 := c1.same s2
        walk_at "rd"
        refine ⟨_, DGet.k (k := Sum.inr wy) hpm, ?_⟩
        rw [gain_get (.main m t wy e) (w.side w.turn) m t e wy]
        walk_at "rd"
        have c3 := c2.put w.turn { pressed (.main m t wy e) (w.side w.turn) with used := (w.side w.turn).used }
        rw [put_put] at c3
        exact ⟨_, rfl, c3, (fr1.trans (FrW.same s2)).q⟩
    · rintro σ' H2 ⟨x3, rfl, c2, fr2⟩
      have hta2 : H2 a = some (.tup s0.vs) := fr2 _ _ hta nap (na false) (na true)
      have hsd2 := c2.sd w.turn
      rw [put_side] at hsd2
      have hob2 := c2.ob
      rw [wdK_sides] at hob2
      have c3 := c2.put w.turn (pressed s0 (w.side w.turn))
      rw [put_put] at c3
      have hu0 : ({ pressed s0 (w.side w.turn) with used := 0 } : Sd) = pressed s0 (w.side w.turn) := by cases s0 <;> rfl
      have turnc : ∀ Hq d', WorldAt Hq D ss (w.put w.turn d') → WorldAt (upd Hq D.p (.dK (wdK D.st D.sl { w with turn := !w.turn }))) D ss { w.put w.turn d' with turn := !w.turn } := fun Hq d' cq => by
        have z := cq.setp (w' := { w.put w.turn d' with turn := !w.turn }) (fun b => by cases b <;> rfl)
        rw [wd_turn] at z
        exact z
      have hsd3 : ∀ o, upd H2 (D.q w.turn) o (D.q w.turn) = some o := fun o => upd_same
      have htn : (1 : Int) - ti w.turn = ti (!w.turn) := ti_not _
      cases s0 with
      | over pp t =>
        have hta2 : H2 a = some (.tup [.str "over", .int pp, .int t]) := hta2
        have hm : decide (("over" : Str) = "main") = false := by decide +kernel
        walk_at "rd"
        rw [hu0, htn]
        walk_at "rd"
        exact q _ (turnc _ _ c3) fr2.q.p
      | main m t wy e =>
        have hta2 : H2 a = some (.tup [.str "main", mv m, .int t, .str wy, .int e]) := hta2
        walk_at "rd"
        rw [hu0]
        have hpm : (pressed (.main m t wy e) (w.side w.turn)).made = (w.side w.turn).made + 1 := rfl
        have hpa : (pressed (.main m t wy e) (w.side w.turn)).at_ = (w.side w.turn).at_ := rfl
        have hob3 := c3.ob
        rw [wdK_sides] at hob3
        have hsd4 := c3.sd w.turn
        rw [put_side] at hsd4
        have fr3 : FrW H (upd H2 (D.q w.turn) (.dK (sdK (pressed (.main m t wy e) (w.side w.turn))))) D := fr2.q
        have hta3 : upd H2 (D.q w.turn) (.dK (sdK (pressed (.main m t wy e) (w.side w.turn)))) a = some (.tup [.str "main", mv m, .int t, .str wy, .int e]) := by
          rw [upd_ne n2]
          exact hta2
        generalize upd H2 (D.q w.turn) (.dK (sdK (pressed (.main m t wy e) (w.side w.turn)))) = H3 at *
        have q1 : ∀ d', (if m = some ((w.side w.turn).made + 1) then (match ss[(w.side w.turn).at_ + 1]? with | some s' => beginOf s' ((w.side w.turn).at_ + 1) (pressed (.main m t wy e) (w.side w.turn)) | none => pressed (.main m t wy e) (w.side w.turn)) else pressed (.main m t wy e) (w.side w.turn)) = d' → ∀ H', WorldAt H' D ss { w.put w.turn d' with turn := !w.turn } → FrW H H' D → Q .non H' := fun d' e H' z1 z2 => by
          subst e
          exact q H' z1 z2
        have putN : ∀ d', WorldAt (upd H3 (D.q w.turn) (.dK (sdK d'))) D ss (w.put w.turn d') := fun d' => by
          have z := c3.put w.turn d'
          rw [put_put] at z
          exact z
        cases m with
        | none =>
          have hz : decide (V.int (pressed (.main none t wy e) (w.side w.turn)).made = V.non) = false := decide_eq_false (by intro z; cases z)
          have hta4 : H3 a = some (.tup [.str "main", .non, .int t, .str wy, .int e]) := hta3
          refine k_eq rfl ?_
          walk_at "rd"
          rw [htn]
          walk_at "rd"
          exact q1 _ (if_neg (by intro z; cases z)) _ (turnc _ _ c3) fr3.p
        | some mm =>
          have hta4 : H3 a = some (.tup [.str "main", .int mm, .int t, .str wy, .int e]) := hta3
          refine k_eqI ?_
          rw [hpm]
          by_cases hmm : (w.side w.turn).made + 1 = mm
          · have hlt : (w.side w.turn).at_ + 1 < ss.length := g.2.2 (by intro z; cases z)
            have hx4 : ss[(w.side w.turn).at_ + 1]? = some ss[(w.side w.turn).at_ + 1] := List.getElem?_eq_getElem hlt
            walk_at "rd"
            have es : (w.put w.turn (pressed (.main (some mm) t wy e) (w.side w.turn))).side w.turn = pressed (.main (some mm) t wy e) (w.side w.turn) := put_side ..
            refine ⟨D, ss, _, w.turn, ss[(w.side w.turn).at_ + 1], rfl, c3, by rw [es]; exact hx4, ?_⟩
            rw [es]
            have hq5 : ∀ o, upd H3 (D.q w.turn) o (D.q w.turn) = some o := fun o => upd_same
            walk_at "rd"
            rw [htn]
            walk_at "rd"
            exact q1 _ (by rw [if_pos (by rw [hmm]), hx4] <;> rfl) _ (turnc _ _ (putN _)) fr3.q.p
          · walk_at "rd"
            rw [htn]
            walk_at "rd"
            exact q1 _ (if_neg (fun z => hmm (Option.some.inj z).symm)) _ (turnc _ _ c3) fr3.p
theorem ok_stateW (d : FDef K mg "_law_state" s_law_state ["_law_world"]) : CalX P w K mg base CX0 1 "_law_state" spStateW := by
  refine CalX.of0 d sc_law_state (fun vs H Q E h => ?_) (fun f cdv A outer s H vs Q E hr h => ?_)
  · obtain ⟨D, ss, w, rfl, _⟩ := h
    rfl
  · obtain ⟨D, ss, w, rfl, c, q⟩ := h
    have hu := hu_of hr
    refine ⟨_, (pss_cons (ps_set (i := 1) sc_law_state.nd rfl (Or.inl rfl) (pe_lst pa_nil))
 (pss_cons (ps_for PassesOwn.never rfl (pi_list (pe_dget hu (pv 0) pe_str (fun _ _ => rfl))) (pg_name (i := 2) sc_law_state.nd rfl (Or.inl rfl)) (pss_one (ps_expr (pe_bm PySem.F.plainAttrs_list PySem.F.slot_list_append PySem.F.type_list_append mt_append (pv 1) (pa_cons (pe_tup (pa_cons (pe_dget hu (pv 2) pe_str (fun _ _ => rfl)) (pa_cons (pe_dget hu (pv 2) pe_str (fun _ _ => rfl)) (pa_cons (pe_dget hu (pv 2) pe_str (fun _ _ => rfl)) (pa_cons (pe_dget hu (pv 2) pe_str (fun _ _ => rfl)) (pa_cons (pe_dget hu (pv 2) pe_str (fun _ _ => rfl)) pa_nil)))))) pa_nil)))))
 (pss_one (ps_ret (pe_op op_cat (pv 1) (pe_lst (pa_cons (pe_tup (pa_cons (pe_dget hu (pv 0) pe_str (fun _ _ => rfl)) (pa_cons (pe_dget hu (pv 0) pe_str (fun _ _ => rfl)) (pa_cons (pe_dget hu (pv 0) pe_str (fun _ _ => rfl)) (pa_cons (pe_dget hu (pv 0) pe_str (fun _ _ => rfl)) pa_nil))))) pa_nil))))))), ?_⟩
    have hob := c.ob
    walk_at "rd"
    intro l nl
    have n0 := NewT.start (H := H) nl
    have hob1 := n0.sm _ _ hob
    walk_at "rd"
    refine k_forL (xs := [.ref D.p0, .ref D.p1]) (fun i σ' H' => ∃ as x2, σ' = [some (.ref D.p), some (.ref l), x2] ∧ NewT H H' l as ([stT w.d0, stT w.d1].take i)) (SqL.of (n0.sm _ _ c.sl))
      ⟨[], _, rfl, n0⟩ (fun i σ' H' _ hP => ?_) (fun i y σ' H' hi hP => ?_) (fun σ' H' hP => ?_)
    · obtain ⟨as, x2, rfl, n⟩ := hP
      exact SqL.of (n.sm _ _ c.sl)
    · obtain ⟨as, x2, rfl, n⟩ := hP
      have hl := n.lst
      have hi2 : i < 2 := (List.getElem?_eq_some_iff.mp hi).1
      have hlen : (as.map V.ref).length < 100000 := by
        rw [List.length_map, n.len, List.length_take]
        omega
      obtain ⟨b, hy, hbt⟩ : ∃ b, y = .ref (D.q b) ∧ [stT w.d0, stT w.d1].take (i + 1) = [stT w.d0, stT w.d1].take i ++ [stT (w.side b)] := by
        have : i = 0 ∨ i = 1 := by omega
        rcases this with rfl | rfl
        · cases hi
          exact ⟨false, rfl, rfl⟩
        · cases hi
          exact ⟨true, rfl, rfl⟩
      subst hy
      have hsd := n.sm _ _ (c.sd b)
      rw [hbt]
      walk_at "rd"
      intro t nt
      have nlt : l ≠ t := ne_of_none hl nt
      walk_at "rd"
      exact ⟨as ++ [t], _, rfl, n.push (Same.refl _) nt⟩
    · obtain ⟨as, x2, rfl, n⟩ := hP
      have n : NewT H H' l as [stT w.d0, stT w.d1] := n
      have hob2 := n.sm _ _ hob
      have hl := n.lst
      walk_at "rd"
      intro t nt
      have s1 : Same H' (upd H' t (.tup (gmT w))) := Same.new nt
      have ht : upd H' t (.tup (gmT w)) t = some (.tup (gmT w)) := upd_same
      have et : (HO.tup [V.int (ti w.turn), V.bl w.runs, fv w.fallen, V.int w.total]) = .tup (gmT w) := rfl
      rw [et]
      generalize upd H' t (.tup (gmT w)) = H2 at *
      walk_at "rd"
      intro l2 nl2
      have s2 : Same H2 (upd H2 l2 (.lst [.ref t])) := Same.new nl2
      have hl2 : upd H2 l2 (.lst [.ref t]) l2 = some (.lst [.ref t]) := upd_same
      generalize upd H2 l2 (.lst [.ref t]) = H3 at *
      walk_at "rd"
      refine k_cat (s2 _ _ (s1 _ _ hl)) hl2 (by rw [List.length_map, n.len, sizeLine_eq]; show 2 + 1 ≤ _; omega) ?_
      intro l4 nl4
      have ea : as.map V.ref ++ [V.ref t] = (as ++ [t]).map V.ref := by rw [List.map_append]; rfl
      rw [ea]
      have r3 := rowsS n t (s2 _ _ ht) (s1.trans s2)
      refine q l4 (as ++ [t]) _ (NewT.start1 (vss := [stT w.d0, stT w.d1, gmT w]) nl4 r3.1 r3.2 ((n.sm.trans s1).trans s2) (fun b hb => ?_))
      rcases List.mem_append.mp hb with hb | hb
      · exact n.na b hb
      · rw [List.mem_singleton.mp hb]
        exact n.sm.free nt
theorem ok_sameW (d : FDef K mg "_law_same" s_law_same ["_law_one", "_law_other"]) : CalX P w K mg base CX0 1 "_law_same" spSameW := by
  refine CalX.of0 d sc_law_same (fun vs H Q E h => ?_) (fun f cdv A outer s H vs Q E hr h => ?_)
  · obtain ⟨a, b, xs, rfl, _⟩ := h
    rfl
  · obtain ⟨a, b, xs, rfl, ha, hb, hl, hsc, q⟩ := h
    refine ⟨_, (pss_cons (ps_if (pt_cmpR op_ne (pe_callB call_len_seq (by rfl) T.b_len PySem.boot_len (pa_cons (pv 0) pa_nil)) (pe_callB call_len_seq (by rfl) T.b_len PySem.boot_len (pa_cons (pv 1) pa_nil)) (nomark _)) (pss_one (ps_ret pe_bl)) pss_nil)
 (pss_cons (ps_for PassesOwn.never rfl (pi_range1 rfl T.b_range (pa_cons (pe_callB call_len_seq (by rfl) T.b_len PySem.boot_len (pa_cons (pv 0) pa_nil)) pa_nil)) (pg_name (i := 2) sc_law_same.nd rfl (Or.inl rfl)) (pss_one (ps_if (PW.pt (pw_or (pt_cmpR op_ne (pe_callB call_isi (by rfl) T.b_isinstance (by decide +kernel) (pa_cons (pe_ix ix_tup (pv 0) (pv 2) (fun _ _ => rfl)) (pa_cons (pe_bltn (v := .ty "bool") rfl T.b_bool (by decide +kernel) rfl) pa_nil))) (pe_callB call_isi (by rfl) T.b_isinstance (by decide +kernel) (pa_cons (pe_ix ix_tup (pv 1) (pv 2) (fun _ _ => rfl)) (pa_cons (pe_bltn (v := .ty "bool") rfl T.b_bool (by decide +kernel) rfl) pa_nil))) (nomark _)) (pw_or1 (pt_cmpR op_ne (pe_ix ix_tup (pv 0) (pv 2) (fun _ _ => rfl)) (pe_ix ix_tup (pv 1) (pv 2) (fun _ _ => rfl)) (nomark _))))) (pss_one (ps_ret pe_bl)) pss_nil)))
 (pss_one (ps_ret pe_bl)))), ?_⟩
    walk_at "rd"
    refine k_forR (n := xs.length) (fun i σ' H' => ∃ x2, σ' = [some (.ref a), some (.ref b), x2] ∧ H' = H) (by have z : (10 : Int) < 2 ^ 62 := (by decide); omega) ⟨_, rfl, rfl⟩ (fun i σ' H' hi hP => ?_) (fun σ' H' hP => ?_)
    · obtain ⟨x2, rfl, eH⟩ := hP
      have eH2 := eH.symm
      subst eH2
      obtain ⟨x, hx0⟩ : ∃ x, xs[i]? = some x := ⟨_, List.getElem?_eq_getElem hi⟩
      have hx : atI xs (i : Int) = some x := atI_nat hx0
      have hs := hsc x (List.mem_of_getElem? hx0)
      cases hs with
      | i n =>
        have hk := kit_ty (K := K) (a := "int") (b := "bool") (r := false) rfl
        walk_at "rd"
        refine ⟨.int n, .ty "bool", .type "int", .type "bool", false, rfl, .ty _, .base (.int _), hk, ?_⟩
        walk_at "rd"
        refine ⟨.int n, .ty "bool", .type "int", .type "bool", false, rfl, .ty _, .base (.int _), hk, ?_⟩
        walk_at "rd"
        exact ⟨_, rfl, rfl⟩
      | b c =>
        have hk := kit_ty (K := K) (a := "bool") (b := "bool") (r := true) rfl
        walk_at "rd"
        refine ⟨.bl c, .ty "bool", .type "bool", .type "bool", true, rfl, .ty _, .base (.bl _), hk, ?_⟩
        walk_at "rd"
        refine ⟨.bl c, .ty "bool", .type "bool", .type "bool", true, rfl, .ty _, .base (.bl _), hk, ?_⟩
        walk_at "rd"
        exact ⟨_, rfl, rfl⟩
      | n =>
        have hk := kit_ty (K := K) (a := "NoneType") (b := "bool") (r := false) rfl
        walk_at "rd"
        refine ⟨.non, .ty "bool", .type "NoneType", .type "bool", false, rfl, .ty _, .base .non, hk, ?_⟩
        walk_at "rd"
        refine ⟨.non, .ty "bool", .type "NoneType", .type "bool", false, rfl, .ty _, .base .non, hk, ?_⟩
        walk_at "rd"
        exact ⟨_, rfl, rfl⟩
    · obtain ⟨x2, rfl, eH⟩ := hP
      have eH2 := eH.symm
      subst eH2
      walk_at "rd"
      exact q
end
def spDue : Sp := fun vs H Q _ => ∃ D ss w d, vs = [.ref (WAdr.p D), .str (Deed.word d), .int d.num] ∧ WorldAt H D ss w ∧ GoodS ss ∧ WF ss w ∧ ∀ H', WorldAt H' D ss (toldW w (exW ss w d)) → FrW H H' D → Q (toldV (exW ss w d)) H'
theorem runN_one {ss : List Stg} {w : Wd} {j : Nat} (h : (runN ss j w).fallen = none) : runN ss (j + 1) w = passW ss (runN ss j w) 1 := by
  rw [runN_add, runN_succ h]
  rfl
theorem wd_side {st sl : Addr} (w : Wd) (b : Bool) (d : Sd) : wdK st sl (w.put b d) = wdK st sl w := wdK_sides w b d
section
variable {P : Program} {w : World} {K : PySem.W.Frag} {mg : Str → Option Value} {base : Heap} {CS CC cE cB cT cN cO aW : Addr} (T : Txt K mg CS CC cE cB cT cN cO aW)
include T
theorem ok_due (c__law_tick : CalX P w K mg base CX0 2 "_law_tick" spTick) (c__law_press : CalX P w K mg base CX0 2 "_law_press" spPressW) (d : FDef K mg "_law_due" s_law_due ["_law_world", "_law_word", "_law_number"]) : CalX P w K mg base CX0 3 "_law_due" spDue := by
  refine CalX.of0 d sc_law_due (fun vs H Q E h => ?_) (fun f cdv A outer s H vs Q E hr h => ?_)
  · obtain ⟨D, ss, w, d, rfl, _⟩ := h
    rfl
  · obtain ⟨D, ss, w, d, rfl, c, G, wf, q⟩ := h
    have hu := hu_of hr
    refine ⟨_, (pss_cons (ps_if (PW.pt (pw_and (pt_cmpR op_eq (pv 1) pe_str (nomark _)) (pw_and1 (pt_cmpR op_lt (pv 2) pe_int (nomark _))))) (pss_one (ps_ret pe_str)) pss_nil)
 (pss_cons (ps_if (pt_cmpR op_notN (pe_dget hu (pv 0) pe_str (fun _ _ => rfl)) pe_non (nomark _)) (pss_one (ps_ret pe_str)) pss_nil)
 (pss_cons (ps_if (pt_cmpR op_eq (pv 1) pe_str (nomark _)) (pss_cons (ps_set (i := 3) sc_law_due.nd rfl (Or.inl rfl) pe_int)
 (pss_cons (ps_while PassesOwn.never (PW.pt (pw_and (pt_cmpR op_lt (pv 3) (pv 2) (nomark _)) (pw_and (pt_cmpR op_isN (pe_dget hu (pv 0) pe_str (fun _ _ => rfl)) pe_non (nomark _)) (pw_and1 (pt_val (pe_dget hu (pv 0) pe_str (fun _ _ => rfl))))))) (pss_cons (ps_expr (pe_cX c__law_tick hr (by decide) rfl pass0 (pa_cons (pv 0) pa_nil)))
 (pss_one (ps_set (i := 3) sc_law_due.nd rfl (Or.inl rfl) (pe_op op_add (pv 3) pe_int)))))
 (pss_one (ps_ret (pe_ifExp (pt_cmpR op_notN (pe_dget hu (pv 0) pe_str (fun _ _ => rfl)) pe_non (nomark _)) (pv 3) (pv 2)))))) pss_nil)
 (pss_cons (ps_if (pt_cmpR op_eq (pv 1) pe_str (nomark _)) (pss_cons (ps_if (PW.pt (pw_or (pt_not (pt_val (pe_dget hu (pv 0) pe_str (fun _ _ => rfl)))) (pw_or1 (pt_cmpR op_ne (pv 2) (pe_dget hu (pv 0) pe_str (fun _ _ => rfl)) (nomark _))))) (pss_one (ps_ret pe_str)) pss_nil)
 (pss_one (ps_expr (pe_cX c__law_press hr (by decide) rfl pass0 (pa_cons (pv 0) pa_nil))))) (pss_one (ps_if (pt_cmpR op_in_seq (pv 1) (pe_tup (pa_cons pe_str (pa_cons pe_str pa_nil))) (by rfl)) (pss_cons (ps_if (pt_cmpR op_eq (pe_dget hu (pv 0) pe_str (fun _ _ => rfl)) (pe_cmpR op_eq (pv 1) pe_str (nomark _)) (nomark _)) (pss_one (ps_ret pe_str)) pss_nil)
 (pss_one (ps_dput hu (pv 0) pe_str (pe_cmpR op_eq (pv 1) pe_str (nomark _)) rfl))) (pss_cons (ps_set (i := 4) sc_law_due.nd rfl (Or.inl rfl) (pe_ix ix_list (pe_dget hu (pv 0) pe_str (fun _ _ => rfl)) (pe_callTy call_int_str (by rfl) T.b_int (by decide +kernel) (pa_cons (pe_ix ix_str (pv 1) (pe_un un_neg pe_int) (fun _ _ => rfl)) pa_nil)) (fun _ _ => rfl)))
 (pss_cons (ps_if (pt_val (pe_dget hu (pv 0) pe_str (fun _ _ => rfl))) (pss_one (ps_ret pe_str)) pss_nil)
 (pss_cons (ps_if (pt_not (pt_chain op_le op_le pe_int (pe_op op_add (pe_dget hu (pv 4) pe_str (fun _ _ => rfl)) (pv 2)) pe_int)) (pss_one (ps_ret pe_str)) pss_nil)
 (pss_one (ps_dput hu (pv 4) pe_str (pe_op op_add (pe_dget hu (pv 4) pe_str (fun _ _ => rfl)) (pv 2)) rfl))))))))
 (pss_one (ps_ret pe_non)))))), ?_⟩
    have hob := c.ob
    have hsl := c.sl
    have vnn : (!decide (V.non = V.non)) = false := notd_f rfl
    have vni : ∀ b, (!decide (V.int (ti b) = V.non)) = true := fun b => notd_t (by intro z; cases z)
    have vin : ∀ b, decide (V.int (ti b) = V.non) = false := fun b => decide_eq_false (by intro z; cases z)
    have vn0 : decide (V.non = V.non) = true := decide_eq_true rfl
    cases d with
    | go n =>
      by_cases hn : n < 0
      · rw [exW_go0 hn] at q
        walk_at "rd"
        exact q _ c (FrW.refl _ _)
      · cases hf : w.fallen with
        | some b =>
          rw [exW_goO hn hf] at q
          have hob : H D.p = some (.dK (wdK D.st D.sl w)) := hob
          have hfv : fv w.fallen = .int (ti b) := by rw [hf]
          have hnf : (!decide (fv w.fallen = V.non)) = true := by rw [hfv]; exact vni b
          walk_at "rd"
          exact q _ c (FrW.refl _ _)
        | none =>
          have hfv : fv w.fallen = .non := by rw [hf]
          have hnf : (!decide (fv w.fallen = V.non)) = false := by rw [hfv]; exact vnn
          have hng : decide (n < 0) = false := decide_eq_false hn
          rw [exW_go hn hf] at q
          walk_at "rd"
          by_cases hr1 : w.runs = true
          · rw [if_pos hr1] at q
            refine ⟨fun m σ H' => ∃ j : Nat, (j : Int) ≤ n ∧ σ = [some (.ref D.p), some (.str "go"), some (.int n), some (.int j), none] ∧ m = n.toNat - j ∧ WorldAt H' D ss (runN ss j w) ∧ FrW H H' D ∧ (runN ss j w).total = w.total + j ∧ WF ss (runN ss j w), ⟨_, 0, by omega, rfl, rfl, c, FrW.refl _ _, by show w.total = w.total + 0; omega, wf⟩, ?_⟩
            rintro m σ H1 ⟨j, hj, rfl, rfl, c1, fr1, htot, wf1⟩
            have hob1 := c1.ob
            have done : ∀ v, ((runN ss j w).fallen ≠ none ∨ (j : Int) = n) → v = (j : Int) → Q (.int v) H1 := fun v h e => by
              have er : runN ss n.toNat w = runN ss j w := by
                have ej : n.toNat = j + (n.toNat - j) := by omega
                rw [ej, runN_add]
                rcases h with h | h
                · obtain ⟨b, hb⟩ := Option.ne_none_iff_exists'.mp h
                  exact runN_fallen hb _
                · have ez : n.toNat - j = 0 := by omega
                  rw [ez]
                  rfl
              rw [er] at q
              have ev : v = (runN ss j w).total - w.total := by omega
              rw [ev]
              exact q H1 c1 fr1
            walk_at "rd"
            by_cases hlt : (j : Int) < n
            · walk_at "rd"
              cases hfj : (runN ss j w).fallen with
              | some b =>
                have g1 : decide (fv (runN ss j w).fallen = V.non) = false := by rw [hfj]; exact vin b
                have g2 : (!decide (fv (runN ss j w).fallen = V.non)) = true := by rw [hfj]; exact vni b
                walk_at "rd"
                exact done _ (.inl (by rw [hfj]; intro z; cases z)) rfl
              | none =>
                have g1 : decide (fv (runN ss j w).fallen = V.non) = true := by rw [hfj]; exact vn0
                have g3 : (runN ss j w).runs = true := (runN_runs j hfj).trans hr1
                walk_at "rd"
                refine ⟨fun σ2 H2 => σ2 = [some (.ref D.p), some (.str "go"), some (.int n), some (.int ((j + 1 : Nat) : Int)), none] ∧ WorldAt H2 D ss (runN ss (j + 1) w) ∧ FrW H H2 D, fun σ2 H2 h2 => ?_, ?_⟩
                · obtain ⟨rfl, c2, fr2⟩ := h2
                  have e1 := runN_one hfj
                  refine ⟨_, (by omega : n.toNat - (j + 1) < n.toNat - j), j + 1, by omega, rfl, rfl, c2, fr2, ?_, ?_⟩
                  · rw [e1, passW_total, htot]
                    omega
                  · exact runN_wf G _ wf
                · walk_at "rd"
                  refine ⟨D, ss, runN ss j w, rfl, c1, G, wf1, hfj, fun H2 c2 fr2 => ?_⟩
                  walk_at "rd"
                  rw [← runN_one hfj] at c2
                  exact ⟨rfl, c2, fr1.trans fr2⟩
            · walk_at "rd"
              cases hfj : (runN ss j w).fallen with
              | some b =>
                have g2 : (!decide (fv (runN ss j w).fallen = V.non)) = true := by rw [hfj]; exact vni b
                walk_at "rd"
                exact done _ (.inl (by rw [hfj]; intro z; cases z)) rfl
              | none =>
                have g2 : (!decide (fv (runN ss j w).fallen = V.non)) = false := by rw [hfj]; exact vnn
                walk_at "rd"
                exact done _ (.inr (by omega)) (by omega)
          · rw [if_neg hr1] at q
            have hr2 : w.runs = false := by simpa using hr1
            have g1 : decide (fv w.fallen = V.non) = true := by rw [hfv]; exact vn0
            refine ⟨fun m σ H' => σ = [some (.ref D.p), some (.str "go"), some (.int n), some (.int 0), none] ∧ H' = H, ⟨0, rfl, rfl⟩, ?_⟩
            rintro m σ H1 ⟨rfl, eH⟩
            have eH2 := eH.symm
            subst eH2
            walk_at "rd"
            by_cases hlt : (0 : Int) < n
            · walk_at "rd"
              exact q _ c (FrW.refl _ _)
            · walk_at "rd"
              exact q _ c (FrW.refl _ _)
    | press b =>
      cases hf : w.fallen with
      | some f =>
        rw [exW_pressO hf] at q
        have hfv : fv w.fallen = .int (ti f) := by rw [hf]
        have hnf : (!decide (fv w.fallen = V.non)) = true := by rw [hfv]; exact vni f
        walk_at "rd"
        exact q _ c (FrW.refl _ _)
      | none =>
        have hfv : fv w.fallen = .non := by rw [hf]
        have hnf : (!decide (fv w.fallen = V.non)) = false := by rw [hfv]; exact vnn
        rw [exW_press hf] at q
        walk_at "rd"
        by_cases hr1 : w.runs = true
        · walk_at "rd"
          by_cases hb : b = w.turn
          · rw [if_pos ⟨hr1, hb⟩] at q
            have hn2 : (!decide ((Deed.press b).num = ti w.turn)) = false := notd_f (by rw [hb]; rfl)
            walk_at "rd"
            refine ⟨D, ss, w, rfl, c, G, wf, fun H2 c2 fr2 => ?_⟩
            walk_at "rd"
            exact q _ c2 fr2
          · rw [if_neg (fun z => hb z.2)] at q
            have hn2 : (!decide ((Deed.press b).num = ti w.turn)) = true := notd_t (fun z => hb (by cases b <;> cases h2 : w.turn <;> rw [h2] at z <;> first | rfl | cases z))
            walk_at "rd"
            exact q _ c (FrW.refl _ _)
        · rw [if_neg (fun z => hr1 z.1)] at q
          have hr2 : w.runs = false := by simpa using hr1
          walk_at "rd"
          exact q _ c (FrW.refl _ _)
    | start =>
      have hin : inV (.str (Deed.word .start)) [.str "start", .str "stop"] = true := by
        show inV (.str "start") [.str "start", .str "stop"] = true
        decide +kernel
      have hds : decide (Deed.word .start = "start") = true := by
        show decide (("start" : Str) = "start") = true
        decide +kernel
      have hgo : decide (Deed.word .start = "go") = false := by
        show decide (("start" : Str) = "go") = false
        decide +kernel
      have hpr : decide (Deed.word .start = "press") = false := by
        show decide (("start" : Str) = "press") = false
        decide +kernel
      cases hf : w.fallen with
      | some f =>
        rw [exW_startO hf] at q
        have hfv : fv w.fallen = .int (ti f) := by rw [hf]
        have hnf : (!decide (fv w.fallen = V.non)) = true := by rw [hfv]; exact vni f
        walk_at "rd"
        exact q _ c (FrW.refl _ _)
      | none =>
        have hfv : fv w.fallen = .non := by rw [hf]
        have hnf : (!decide (fv w.fallen = V.non)) = false := by rw [hfv]; exact vnn
        rw [exW_start hf] at q
        walk_at "rd"
        intro p np
        have npp : D.p ≠ p := ne_of_none hob np
        have sp : Same H (upd H p (.tup [.str "start", .str "stop"])) := Same.new np
        walk_at "rd"
        cases hr1 : w.runs with
        | true =>
          rw [if_pos hr1] at q
          have hrd : decide (w.runs = decide (Deed.word .start = "start")) = true := by rw [hds, hr1]; rfl
          walk_at "rd"
          exact q _ (c.same sp) (FrW.same sp)
        | false =>
          rw [if_neg (by rw [hr1]; exact Bool.false_ne_true)] at q
          have hrd : decide (w.runs = decide (Deed.word .start = "start")) = false := by rw [hds, hr1]; rfl
          walk_at "rd"
          rw [hds]
          exact q _ ((c.same sp).setp (w' := { w with runs := true }) (fun b => by cases b <;> rfl)) (FrW.same sp).p
    | stop =>
      have hin : inV (.str (Deed.word .stop)) [.str "start", .str "stop"] = true := by
        show inV (.str "stop") [.str "start", .str "stop"] = true
        decide +kernel
      have hds : decide (Deed.word .stop = "start") = false := by
        show decide (("stop" : Str) = "start") = false
        decide +kernel
      have hgo : decide (Deed.word .stop = "go") = false := by
        show decide (("stop" : Str) = "go") = false
        decide +kernel
      have hpr : decide (Deed.word .stop = "press") = false := by
        show decide (("stop" : Str) = "press") = false
        decide +kernel
      cases hf : w.fallen with
      | some f =>
        rw [exW_stopO hf] at q
        have hfv : fv w.fallen = .int (ti f) := by rw [hf]
        have hnf : (!decide (fv w.fallen = V.non)) = true := by rw [hfv]; exact vni f
        walk_at "rd"
        exact q _ c (FrW.refl _ _)
      | none =>
        have hfv : fv w.fallen = .non := by rw [hf]
        have hnf : (!decide (fv w.fallen = V.non)) = false := by rw [hfv]; exact vnn
        rw [exW_stop hf] at q
        walk_at "rd"
        intro p np
        have npp : D.p ≠ p := ne_of_none hob np
        have sp : Same H (upd H p (.tup [.str "start", .str "stop"])) := Same.new np
        walk_at "rd"
        cases hr1 : w.runs with
        | false =>
          rw [if_neg (by rw [hr1]; exact Bool.false_ne_true)] at q
          have hrd : decide (w.runs = decide (Deed.word .stop = "start")) = true := by rw [hds, hr1]; rfl
          walk_at "rd"
          exact q _ (c.same sp) (FrW.same sp)
        | true =>
          rw [if_pos hr1] at q
          have hrd : decide (w.runs = decide (Deed.word .stop = "start")) = false := by rw [hds, hr1]; rfl
          walk_at "rd"
          rw [hds]
          exact q _ ((c.same sp).setp (w' := { w with runs := false }) (fun b => by cases b <;> rfl)) (FrW.same sp).p
    | give b n =>
      have hin : inV (.str (Deed.word (.give b n))) [.str "start", .str "stop"] = false := by
        show inV (.str (gw b)) [.str "start", .str "stop"] = false
        cases b <;> decide +kernel
      have hgo : decide (Deed.word (.give b n) = "go") = false := by
        show decide (gw b = "go") = false
        cases b <;> decide +kernel
      have hpr : decide (Deed.word (.give b n) = "press") = false := by
        show decide (gw b = "press") = false
        cases b <;> decide +kernel
      cases hf : w.fallen with
      | some f =>
        rw [exW_giveO hf] at q
        have hfv : fv w.fallen = .int (ti f) := by rw [hf]
        have hnf : (!decide (fv w.fallen = V.non)) = true := by rw [hfv]; exact vni f
        walk_at "rd"
        exact q _ c (FrW.refl _ _)
      | none =>
        have hfv : fv w.fallen = .non := by rw [hf]
        have hnf : (!decide (fv w.fallen = V.non)) = false := by rw [hfv]; exact vnn
        rw [exW_give hf] at q
        walk_at "rd"
        intro p np
        have npp : D.p ≠ p := ne_of_none hob np
        have sp : Same H (upd H p (.tup [.str "start", .str "stop"])) := Same.new np
        have c1 := c.same sp
        have f1 : FrW H (upd H p (.tup [.str "start", .str "stop"])) D := FrW.same sp
        have ht : upd H p (.tup [.str "start", .str "stop"]) p = some (.tup [.str "start", .str "stop"]) := upd_same
        generalize upd H p (.tup [.str "start", .str "stop"]) = H1 at *
        have hob1 := c1.ob
        have hsl1 := c1.sl
        have hsd1 := c1.sd b
        have hx := at_qs D b
        walk_at "rd"
        refine k_ixS (s := gw b) (c := 48 + (ti b).toNat) (by rw [sizeLine_eq]; cases b <;> decide +kernel) (by cases b <;> rfl) ?_
        walk_at "rd"
        refine k_intS (i := ti b) (by cases b <;> decide +kernel) (by cases b <;> decide +kernel) ?_
        walk_at "rd"
        by_cases hr1 : w.runs = true
        · rw [if_pos hr1] at q
          walk_at "rd"
          exact q _ c1 f1
        · rw [if_neg hr1] at q
          have hr2 : w.runs = false := by simpa using hr1
          have hnum : (Deed.give b n).num = n := rfl
          walk_at "rd"
          rw [hnum]
          by_cases h1 : 1 ≤ (w.side b).ticks + n
          · by_cases h2 : (w.side b).ticks + n ≤ 10000000
            · rw [if_pos ⟨h1, h2⟩] at q
              walk_at "rd"
              exact q _ (c1.put b { w.side b with ticks := (w.side b).ticks + n }) f1.q
            · rw [if_neg (fun z => h2 z.2)] at q
              walk_at "rd"
              exact q _ c1 f1
          · rw [if_neg (fun z => h1 z.1)] at q
            walk_at "rd"
            exact q _ c1 f1
end
def spLaw (K : PySem.W.Frag) : Sp := fun vs H Q _ => ∃ a ns, vs = [.ref a] ∧ SqL K H a (List.map V.int ns) ∧ ∀ H', Q (.bl true) H'
theorem spLaw_of {K : PySem.W.Frag} {H : Hp} {a : Addr} {ns : List Int} (hl : ns.length ≤ 63) (hS : SqL K H a (ns.map V.int)) : spLaw K [.ref a] H (fun v _ => v = .bl true) fun _ _ _ => False := ⟨a, ns, rfl, hS, fun _ => rfl⟩
/-- what is told of a deed is an int, a text or nothing -/
theorem told_sc (ss : List Stg) (w : Wd) (d : Deed) : (∃ i, toldV (exW ss w d) = .int i) ∨ toldV (exW ss w d) = .non ∨ ∃ s, toldV (exW ss w d) = .str s := by
  by_cases hg : ∃ n, d = .go n
  · obtain ⟨n, rfl⟩ := hg
    unfold exW
    dsimp only
    split
    · exact .inr (.inr ⟨_, rfl⟩)
    · split
      · exact .inr (.inr ⟨_, rfl⟩)
      · split
        · exact .inl ⟨_, rfl⟩
        · exact .inl ⟨_, rfl⟩
  · rcases told_kind (ss := ss) (w := w) (d := d) (fun n e => hg ⟨n, e⟩) with h | h
    · exact .inr (.inl h)
    · exact .inr (.inr h)
def Fz (H H' : Hp) : Prop := ∀ b o, H b = some o → (∀ C dx fs, o ≠ .ins C dx fs) → (∀ k, o ≠ .dK k) → H' b = some o
theorem Fz.refl (H : Hp) : Fz H H := fun _ _ e _ _ => e
theorem Fz.trans {H H1 H2 : Hp} (f : Fz H H1) (g : Fz H1 H2) : Fz H H2 := fun b o e n m => g b o (f b o e n m) n m
theorem Fx.fz {H H' : Hp} (f : Fx H H') : Fz H H' := fun b o e n _ => f b o e n
theorem FrW.fz {H H' : Hp} {D : WAdr} {ss : List Stg} {w : Wd} (f : FrW H H' D) (c : WorldAt H D ss w) : Fz H H' := fun b o e _ m => by
  have k : ∀ p kk, H p = some (.dK kk) → b ≠ p := fun p kk hp z => by
    rw [z, hp] at e
    cases e
    exact m _ rfl
  exact f b o e (k _ _ c.ob) (k _ _ (c.sd false)) (k _ _ (c.sd true))
theorem Fz.lst {H H' : Hp} {a : Addr} {xs : List V} (f : Fz H H') (h : H a = some (.lst xs)) : H' a = some (.lst xs) := f _ _ h (fun _ _ _ z => nomatch z) (fun _ z => nomatch z)
theorem Fz.tup {H H' : Hp} {a : Addr} {xs : List V} (f : Fz H H') (h : H a = some (.tup xs)) : H' a = some (.tup xs) := f _ _ h (fun _ _ _ z => nomatch z) (fun _ z => nomatch z)
/-- the clock's walk leaves the dicts -/
theorem WorldAt.fr {CC CS : Addr} {H H' : Hp} {R : CAdr} {D : WAdr} {ss : List Stg} {w v : Wd} (c : WorldAt H D ss w) (k : ClockAt CC CS H R ss v) (f : Fr H H' R) : WorldAt H' D ss w := by
  have fx := f.fx k
  exact ⟨fx _ _ c.ob (fun _ _ _ z => nomatch z), ⟨fx.lst c.st.lst, c.st.tup.1, fun i a x ha hx => fx.tup (c.st.tup.2 i a x ha hx)⟩, fx.lst c.sl, fun b => fx _ _ (c.sd b) (fun _ _ _ z => nomatch z), c.ne, c.n01⟩
theorem ClockAt.frW {CC CS : Addr} {H H' : Hp} {R : CAdr} {D : WAdr} {ss : List Stg} {w v : Wd} (k : ClockAt CC CS H R ss v) (c : WorldAt H D ss w) (f : FrW H H' D) : ClockAt CC CS H' R ss v := by
  have g : ∀ b o, H b = some o → (∀ k, o ≠ .dK k) → H' b = some o := fun b o e m => by
    have k : ∀ p kk, H p = some (.dK kk) → b ≠ p := fun p kk hp z => by
      rw [z, hp] at e
      cases e
      exact m _ rfl
    exact f b o e (k _ _ c.ob) (k _ _ (c.sd false)) (k _ _ (c.sd true))
  exact ⟨g _ _ k.ob (fun _ z => nomatch z), g _ _ k.lst (fun _ z => nomatch z), fun b => g _ _ (k.sd b) (fun _ z => nomatch z), fun b => ⟨g _ _ (k.st b).lst (fun _ z => nomatch z), (k.st b).tup.1, fun i a x ha hx => g _ _ ((k.st b).tup.2 i a x ha hx) (fun _ z => nomatch z)⟩, k.ne, k.n01⟩
/-- another list is emptied -/
theorem ClockAt.updL {CC CS : Addr} {H : Hp} {R : CAdr} {ss : List Stg} {w : Wd} {l : Addr} {xs ys : List V} (k : ClockAt CC CS H R ss w) (h : H l = some (.lst xs)) (n1 : R.lb ≠ l) (n2 : ∀ b, R.l b ≠ l) : ClockAt CC CS (upd H l (.lst ys)) R ss w :=
  ⟨by rw [upd_ne (ne_of k.ob h (by intro z; cases z))]; exact k.ob, by rw [upd_ne n1]; exact k.lst, fun b => by rw [upd_ne (ne_of (k.sd b) h (by intro z; cases z))]; exact k.sd b,
    fun b => ⟨by rw [upd_ne (n2 b)]; exact (k.st b).lst, (k.st b).tup.1, fun i a x ha hx => by
      have e := (k.st b).tup.2 i a x ha hx
      rw [upd_ne (ne_of e h (by intro z; cases z))]
      exact e⟩, k.ne, k.n01⟩
theorem rows_cat {H : Hp} {l : Addr} {as : List Addr} {vss : List (List V)} {o : HO} {xs : List V} (r : Rows H as vss) (h : H l = some (.lst xs)) : Rows (upd H l o) as vss := ⟨r.len, fun i a vs ha hv => by
  have e := r.tup i a vs ha hv
  rw [upd_ne (ne_of e h (by intro z; cases z))]
  exact e⟩
theorem rows_snocA {H : Hp} {as : List Addr} {vss : List (List V)} {vs : List V} {a : Addr} (r : Rows H as vss) (h : H a = some (.tup vs)) : Rows H (as ++ [a]) (vss ++ [vs]) := by
  refine ⟨by rw [List.length_append, List.length_append, r.len]; rfl, fun i b us hb hu => ?_⟩
  by_cases hi : i < as.length
  · rw [List.getElem?_append_left hi] at hb
    rw [List.getElem?_append_left (by rw [← r.len]; exact hi)] at hu
    exact r.tup i b us hb hu
  · have h0 := (List.getElem?_eq_some_iff.mp hb).1
    rw [List.length_append] at h0
    have h1 : [a].length = 1 := rfl
    have hi : i = as.length := by omega
    subst hi
    rw [List.getElem?_append_right (Nat.le_refl _), Nat.sub_self] at hb
    rw [List.getElem?_append_right (by rw [r.len]; exact Nat.le_refl _), r.len, Nat.sub_self] at hu
    cases hb
    cases hu
    exact h
theorem stT_sc (d : Sd) : ∀ x, x ∈ stT d → Sc1 x := fun x h => by
  simp [stT] at h
  rcases h with rfl | rfl | rfl | rfl | rfl <;> exact .i _
theorem gmT_sc (w : Wd) : ∀ x, x ∈ gmT w → Sc1 x := fun x h => by
  simp only [gmT, List.mem_cons, List.not_mem_nil, or_false] at h
  rcases h with rfl | rfl | rfl | rfl
  · exact .i _
  · exact .b _
  · cases w.fallen with
    | none => exact .n
    | some b => exact .i _
  · exact .i _
theorem k_tYes {σ : St} {H : Hp} {QB : Bool → Hp → Prop} (q : QB true H) : tYes σ H QB := q
section
variable {P : Program} {w : World} {K : PySem.W.Frag} {mg : Str → Option Value} {base : Heap} {CS CC cE cB cT cN cO aW : Addr} (T : Txt K mg CS CC cE cB cT cN cO aW)
include T
theorem ok_law (c__law_told : CalX P w K mg base CX0 6 "_law_told" (spTold CC CS)) (c__law_shown : CalX P w K mg base CX0 2 "_law_shown" (spShown CC CS)) (c__law_new : CalX P w K mg base CX0 1 "_law_new" spNew) (c__law_due : CalX P w K mg base CX0 3 "_law_due" spDue)
    (c__law_state : CalX P w K mg base CX0 1 "_law_state" spStateW) (c__law_same : CalX P w K mg base CX0 1 "_law_same" spSameW)
    (c__law_stages : CalX P w K mg base CX0 3 "_law_stages" (spStages K)) (c__law_deeds : CalX P w K mg base CX0 3 "_law_deeds" (spDeeds K)) (c__law_mix : CalX P w K mg base CX0 2 "_law_mix" (spMix K))
    (c_mkClock : MakX P w K mg base (L2.CX P w) 6 "Clock" CC (spInitC CC CS cB)) {f0 : Addr} {fd : FuncData} (F : Fun K "law" "law" s_law f0 fd) : FnOk P w K mg base CX0 8 f0 fd ["_law_script"] (spLaw K) := by
  refine F.ok sc_law (fun vs H Q E h => ?_) (fun cdv A outer s H vs Q E hr h => ?_)
  · obtain ⟨a, ns, rfl, _⟩ := h
    rfl
  · obtain ⟨a, ns, rfl, hS, q⟩ := h
    refine ⟨_, (pss_cons (ps_set (i := 1) sc_law.nd rfl (Or.inl rfl) (pe_cX c__law_stages hr (by decide) rfl pass0 (pa_cons (pv 0) (pa_cons pe_int pa_nil))))
 (pss_cons (ps_set (i := 2) sc_law.nd rfl (Or.inl rfl) (pe_callTy call_list_of (by rfl) T.b_list (by decide +kernel) (pa_cons (pv 1) pa_nil)))
 (pss_cons (ps_set (i := 3) sc_law.nd rfl (Or.inl rfl) (pe_mkX c_mkClock hr (by decide) rfl passL (pa_cons (pv 2) pa_nil)))
 (pss_cons (ps_expr (pe_bm0 PySem.F.plainAttrs_list PySem.F.slot_list_clear PySem.F.type_list_clear mt_clear (pv 2)))
 (pss_cons (ps_set (i := 4) sc_law.nd rfl (Or.inl rfl) (pe_cX c__law_new hr (by decide) rfl pass0 (pa_cons (pv 1) pa_nil)))
 (pss_cons (ps_set (i := 5) sc_law.nd rfl (Or.inl rfl) (pe_cX c__law_deeds hr (by decide) rfl pass0 (pa_cons (pv 0) (pa_cons pe_int (pa_cons (pe_op op_mod (pe_cX c__law_mix hr (by decide) rfl pass0 (pa_cons (pv 0) (pa_cons pe_int pa_nil))) pe_int) pa_nil)))))
 (C8.pss_cut (ps_if (pt_cmpR op_gt (pe_op op_mod (pe_cX c__law_mix hr (by decide) rfl pass0 (pa_cons (pv 0) (pa_cons pe_int pa_nil))) pe_int) pe_int (nomark _)) (pss_one (ps_set (i := 5) sc_law.nd rfl (Or.inl rfl) (pe_op op_cat (pe_lst (pa_cons (pe_tup (pa_cons pe_str (pa_cons pe_int pa_nil))) pa_nil)) (pv 5)))) pss_nil)
 (C8.pss_cut (ps_if (pt_cmpR op_eq (pe_op op_mod (pe_cX c__law_mix hr (by decide) rfl pass0 (pa_cons (pv 0) (pa_cons pe_int pa_nil))) pe_int) pe_int (nomark _)) (pss_one (ps_expr (pe_bm PySem.F.plainAttrs_list PySem.F.slot_list_append PySem.F.type_list_append mt_append (pv 5) (pa_cons (pe_tup (pa_cons pe_str (pa_cons (pe_un un_neg pe_int) pa_nil))) pa_nil)))) pss_nil)
 (pss_cons (ps_for PassesOwn.never rfl (pi_list (pv 5)) (pg_tup rfl (pgs_cons (pg_name (i := 6) sc_law.nd rfl (Or.inl rfl)) (pgs_cons (pg_name (i := 7) sc_law.nd rfl (Or.inl rfl)) pgs_nil))) (pss_cons (ps_set (i := 8) sc_law.nd rfl (Or.inl rfl) (pe_cX c__law_told hr (by decide) rfl pass0 (pa_cons (pv 3) (pa_cons (pv 6) (pa_cons (pv 7) pa_nil)))))
 (pss_cons (ps_set (i := 9) sc_law.nd rfl (Or.inl rfl) (pe_cX c__law_due hr (by decide) rfl pass0 (pa_cons (pv 4) (pa_cons (pv 6) (pa_cons (pv 7) pa_nil)))))
 (C8.pss_cut (ps_if (PW.pt (pw_or (pt_val (pe_callB call_isi (by rfl) T.b_isinstance (by decide +kernel) (pa_cons (pv 8) (pa_cons (pe_bltn (v := .ty "bool") rfl T.b_bool (by decide +kernel) rfl) pa_nil)))) (pw_or1 (pt_cmpR op_ne (pv 8) (pv 9) (nomark _))))) (pss_one (ps_ret pe_bl)) pss_nil)
 (pss_cons (ps_set (i := 10) sc_law.nd rfl (Or.inr rfl) (pe_cX c__law_shown hr (by decide) rfl pass0 (pa_cons (pv 3) pa_nil)))
 (pss_cons (ps_set (i := 11) sc_law.nd rfl (Or.inr rfl) (pe_cX c__law_state hr (by decide) rfl pass0 (pa_cons (pv 4) pa_nil)))
 (pss_one (ps_if (pt_not (pt_val (pe_callB (cr_all rfl) (by rfl) T.b_all (by decide +kernel) (pa_cons (pe_lc (own := [("_law_k", 12)]) (g := gName 12) (by rfl) sc_law.nd (pi_range1 rfl T.b_range (pa_cons pe_int pa_nil)) (blkOk_by (own := [("_law_k", 12)]) (N := ["_law_script", "_law_stages_here", "_law_handed", "_law_clock", "_law_world", "_law_deeds_here", "_law_word", "_law_number", "_law_found", "_law_due_here", "_law_shown_here", "_law_state_here", "_law_k"]) (sc := defScope s_law) (by decide +kernel)) (fun _ _ _ _ _ => pg_name (i := 12) sc_law.nd rfl (Or.inl rfl)) (fun _ _ _ _ _ => pts_nil) (fun _ _ _ _ _ => (pe_and (pe_callB (show CallR _ (.builtin "isinstance") (rIsi K) from call_isi) (by rfl) T.b_isinstance (by decide +kernel) (pa_cons (pe_ix (show IxR _ (rIxL K) from ix_list) (pv 10) (pv 12) (fun _ _ => rfl)) (pa_cons (pe_bltn (v := .ty "tuple") rfl T.b_tuple (by decide +kernel) rfl) pa_nil))) (pe_one (pe_cX c__law_same hr (by decide) rfl pass0 (pa_cons (pe_ix (show IxR _ (rIxL K) from ix_list) (pv 10) (pv 12) (fun _ _ => rfl)) (pa_cons (pe_ix (show IxR _ (rIxL K) from ix_list) (pv 11) (pv 12) (fun _ _ => rfl)) pa_nil))))))) pa_nil)))) (pss_one (ps_ret pe_bl)) pss_nil))))))))
 (pss_one (ps_ret pe_bl))))))))))), ?_⟩
    walk_at "rd"
    refine ⟨a, ns, 0, rfl, hS, fun l0 as0 H1 n1 => ?_⟩
    have G := stages_good ns 0
    have hk := stages_look ns 0
    generalize stagesF ns 0 = ss at *
    have hl0 := n1.lst
    have r1 := n1.rows
    have hS1 := n1.sm.seq hS
    walk_at "rd"
    intro l1 nl1
    have hl1 : upd H1 l1 (.lst (as0.map V.ref)) l1 = some (.lst (as0.map V.ref)) := upd_same
    have s1 : Same H1 (upd H1 l1 (.lst (as0.map V.ref))) := Same.new nl1
    have n01 : l0 ≠ l1 := ne_of_none hl0 nl1
    generalize upd H1 l1 (.lst (as0.map V.ref)) = H2 at *
    have r2 := r1.fx (Same.fx s1)
    walk_at "rd"
    refine fun x1 dx1 nx1 nd1 _ => k_mkC nx1 nd1 hl1 r2 hk fun R H3 ep c3 s2 hn2 hn3 => ?_
    subst ep
    have hl13 := s2 _ _ hl1
    have hl03 := s2 _ _ (s1 _ _ hl0)
    have nlb : R.lb ≠ l1 := fun z => by
      have e := c3.lst
      rw [z, hl13] at e
      have e2 : as0.map V.ref = [V.ref R.q0, V.ref R.q1] := by
        injection e with e
        injection e with e
      have hq0 := hn2 R.q0 (.inr (.inl rfl))
      have h0 : 0 < as0.length := by
        have := congrArg List.length e2
        rw [List.length_map] at this
        show 0 < as0.length
        rw [this]
        exact Nat.succ_pos 1
      have e3 : as0[0]? = some R.q0 := by
        have := congrArg (fun l : List V => l[0]?) e2
        rw [List.getElem?_map] at this
        cases hz : as0[0]? with
        | none =>
          rw [hz] at this
          cases this
        | some b =>
          rw [hz] at this
          cases this
          rfl
      have h1 : 0 < (ss.map Stg.vs).length := by rw [← r2.len]; exact h0
      have := r2.tup 0 R.q0 _ e3 (List.getElem?_eq_getElem h1)
      rw [hq0] at this
      cases this
    have nll : ∀ b, R.l b ≠ l1 := fun b z => by
      have e := hn3 b
      rw [z, hl1] at e
      cases e
    walk_at "rd"
    refine ⟨l1, _, rfl, rfl, hl13, ?_⟩
    have c4 := c3.updL (ys := []) hl13 nlb nll
    have nl1H : H l1 = none := n1.sm.free nl1
    have sH : Same H (upd H3 l1 (.lst [])) := fun b o e => by
      rw [upd_ne (ne_of_none e nl1H)]
      exact s2 _ _ (s1 _ _ (n1.sm _ _ e))
    have hl04 : upd H3 l1 (.lst []) l0 = some (.lst (as0.map V.ref)) := by
      rw [upd_ne n01]
      exact hl03
    have r4 := rows_cat (o := .lst []) (r2.fx (Same.fx s2)) hl13
    generalize upd H3 l1 (.lst []) = H4 at *
    walk_at "rd"
    refine ⟨l0, as0, ss, rfl, ⟨hl04, by rw [r4.len, List.length_map], fun i b s hb hs => r4.tup i b _ hb (by rw [List.getElem?_map, hs]; rfl)⟩, G.1, fun D H5 eD cD s5 _ => ?_⟩
    have c5 := c4.same s5
    have wf0 := wd0_wf G
    generalize wd0 ss = w0 at *
    have hS5 := (sH.trans s5).seq hS
    clear hl13 hl03 hl04 r4 r2 hl1 nlb nll hn2 hn3
    walk_at "rd"
    refine ⟨a, ns, 11, rfl, hS5, ?_⟩
    walk_at "rd"
    have m0 := mixF_nonneg ns 11
    obtain ⟨m, hm⟩ : ∃ m : Nat, mixF ns 11 % 31 = (m : Int) := ⟨(mixF ns 11 % 31).toNat, by omega⟩
    rw [hm]
    refine ⟨a, ns, 12, m, rfl, hS5, by omega, fun l5 as5 H6 n6 => ?_⟩
    have hlen : (deedsF ns 12 m).1.length ≤ 30 := by
      rw [deedsF_len]
      omega
    generalize (deedsF ns 12 m).1 = ds5 at *
    walk_at "rd"
    refine k_cut (fun σ' H' => ∃ l bs, ∃ ds : List Deed, σ' = [some (.ref a), some (.ref l0), some (.ref l1), some (.ref R.p), some (.ref D.p), some (.ref l), none, none, none, none, none, none, none] ∧ H' l = some (.lst (bs.map V.ref)) ∧ Rows H' bs (ds.map Deed.vs) ∧ Same H5 H' ∧ H5 l = none ∧ ds.length ≤ 31) ?_ ?_
    · walk_at "rd"
      refine ⟨a, ns, 10, rfl, n6.sm.seq hS5, ?_⟩
      walk_at "rd"
      by_cases c0 : 0 < mixF ns 10 % 6
      · walk_at "rd"
        intro t0 nt0
        have ht0 : upd H6 t0 (.tup [.str "start", .int 0]) t0 = some (.tup (Deed.vs .start)) := upd_same
        have s7 : Same H6 (upd H6 t0 (.tup [.str "start", .int 0])) := Same.new nt0
        generalize upd H6 t0 (.tup [.str "start", .int 0]) = H7 at *
        walk_at "rd"
        intro l7 nl7
        have hl7 : upd H7 l7 (.lst [.ref t0]) l7 = some (.lst [.ref t0]) := upd_same
        have s8 : Same H7 (upd H7 l7 (.lst [.ref t0])) := Same.new nl7
        generalize upd H7 l7 (.lst [.ref t0]) = H8 at *
        walk_at "rd"
        refine k_cat hl7 (s8 _ _ (s7 _ _ n6.lst)) (by rw [List.length_map, n6.len, List.length_map, sizeLine_eq]; have e : [V.ref t0].length = 1 := rfl; omega) ?_
        intro l8 nl8
        walk_at "rd"
        have s9 : Same H8 (upd H8 l8 (.lst ([.ref t0] ++ as5.map V.ref))) := Same.new nl8
        exact ⟨l8, t0 :: as5, .start :: ds5, rfl, upd_same, (Rows.cons (s8 _ _ ht0) (n6.rows.fx (Same.fx (s7.trans s8)))).fx (Same.fx s9), ((n6.sm.trans s7).trans s8).trans s9, ((n6.sm.trans s7).trans s8).free nl8, by rw [List.length_cons]; omega⟩
      · walk_at "rd"
        exact ⟨l5, as5, ds5, rfl, n6.lst, n6.rows, n6.sm, n6.nl, by omega⟩
    · clear n6 hlen
      rintro σ7 H7 ⟨l7, bs7, ds7, rfl, hl7, r7, s7, nl7, len7⟩
      refine k_cut (fun σ' H' => ∃ l bs, ∃ ds : List Deed, σ' = [some (.ref a), some (.ref l0), some (.ref l1), some (.ref R.p), some (.ref D.p), some (.ref l), none, none, none, none, none, none, none] ∧ H' l = some (.lst (bs.map V.ref)) ∧ Rows H' bs (ds.map Deed.vs) ∧ Same H5 H') ?_ ?_
      · walk_at "rd"
        refine ⟨a, ns, 9, rfl, s7.seq hS5, ?_⟩
        walk_at "rd"
        by_cases c0 : mixF ns 9 % 7 = 0
        · have hlA : (bs7.map V.ref).length < 100000 := by
            rw [List.length_map, r7.len, List.length_map]
            omega
          walk_at "rd"
          intro t0 nt0
          have nlt : l7 ≠ t0 := ne_of_none hl7 nt0
          have s8 : Same H7 (upd H7 t0 (.tup [.str "go", .int (-1)])) := Same.new nt0
          have ht0 : upd H7 t0 (.tup [.str "go", .int (-1)]) t0 = some (.tup (Deed.vs (.go (-1)))) := upd_same
          walk_at "rd"
          refine ⟨l7, bs7 ++ [t0], ds7 ++ [.go (-1)], rfl, by rw [List.map_append]; exact upd_same, ?_, fun b o e => ?_⟩
          · rw [List.map_append]
            exact rows_cat (rows_snocA (r7.fx (Same.fx s8)) ht0) (s8 _ _ hl7)
          · rw [upd_ne (ne_of_none e nl7)]
            exact s8 _ _ (s7 _ _ e)
        · walk_at "rd"
          exact ⟨l7, bs7, ds7, rfl, hl7, r7, s7⟩
      · clear hl7 r7 s7 nl7 len7
        rintro σ8 H8 ⟨l8, bs, es, rfl, hl8, r8, s8⟩
        have c8 := c5.same s8
        have cD8 := cD.same s8
        walk_at "rd"
        refine k_forL (xs := bs.map V.ref) (fun i σ' H' => ∃ w1 x6 x7 x8 x9 x10 x11 x12, σ' = [some (.ref a), some (.ref l0), some (.ref l1), some (.ref R.p), some (.ref D.p), some (.ref l8), x6, x7, x8, x9, x10, x11, x12] ∧ ClockAt CC CS H' R ss w1 ∧ WorldAt H' D ss w1 ∧ WF ss w1 ∧ Fz H8 H') (SqL.of hl8)
          ⟨w0, _, _, _, _, _, _, _, rfl, c8, cD8, wf0, Fz.refl _⟩ (fun i σ' H' _ hP => ?_) (fun i y σ' H' hi hP => ?_) (fun σ' H' hP => ?_)
        · obtain ⟨w1, x6, x7, x8, x9, x10, x11, x12, rfl, k1, d1, wf1, fz⟩ := hP
          exact SqL.of (fz.lst hl8)
        · obtain ⟨w1, x6, x7, x8, x9, x10, x11, x12, rfl, k1, d1, wf1, fz⟩ := hP
          obtain ⟨t, vs, rfl, _, hv, ht⟩ := r8.row hi
          have ht := fz.tup ht
          rw [List.getElem?_map] at hv
          cases hd : es[i]? with
          | none =>
            rw [hd] at hv
            cases hv
          | some d =>
            rw [hd] at hv
            cases hv
            have ht : H' t = some (.tup [.str d.word, .int d.num]) := ht
            walk_at "rd"
            refine ⟨R, ss, w1, d, rfl, k1, G, wf1, fun H10 k2 fr1 => ?_⟩
            have d2 := d1.fr k1 fr1
            have fz2 := fz.trans (Fx.fz (fr1.fx k1))
            dsimp only
            walk_at "rd"
            refine ⟨D, ss, w1, d, rfl, d2, G, wf1, fun H11 d3 frw => ?_⟩
            have k3 := k2.frW d2 frw
            have fz3 := fz2.trans (frw.fz d2)
            have wf2 := told_wf G (d := d) wf1
            have sc := told_sc ss w1 d
            generalize toldW w1 (exW ss w1 d) = w2 at *
            generalize toldV (exW ss w1 d) = v at *
            dsimp only
            walk_at "rd"
            refine k_cut (fun σ' H' => σ' = [some (.ref a), some (.ref l0), some (.ref l1), some (.ref R.p), some (.ref D.p), some (.ref l8), some (.str d.word), some (.int d.num), some v, some v, x10, x11, x12] ∧ H' = H11) ?_ ?_
            · rcases sc with ⟨n, rfl⟩ | rfl | ⟨z, rfl⟩
              · have hk := kit_ty (K := K) (a := "int") (b := "bool") (r := false) rfl
                walk_at "rd"
                refine ⟨.int n, .ty "bool", .type "int", .type "bool", false, rfl, .ty _, .base (.int _), hk, ?_⟩
                walk_at "rd"
                exact ⟨rfl, rfl⟩
              · have hk := kit_ty (K := K) (a := "NoneType") (b := "bool") (r := false) rfl
                walk_at "rd"
                refine ⟨.non, .ty "bool", .type "NoneType", .type "bool", false, rfl, .ty _, .base .non, hk, ?_⟩
                walk_at "rd"
                exact ⟨rfl, rfl⟩
              · have hk := kit_ty (K := K) (a := "str") (b := "bool") (r := false) rfl
                walk_at "rd"
                refine ⟨.str z, .ty "bool", .type "str", .type "bool", false, rfl, .ty _, .base (.str _), hk, ?_⟩
                walk_at "rd"
                exact ⟨rfl, rfl⟩
            · rintro σ' H' ⟨rfl, eH⟩
              have eH2 := eH.symm
              subst eH2
              walk_at "rd"
              refine ⟨R, ss, w2, rfl, k3, fun la aa H12 na => ?_⟩
              have sa := na.sm
              have k4 := k3.same sa
              have d4 := d3.same sa
              walk_at "rd"
              refine ⟨D, ss, w2, rfl, d4, fun lb ab H13 nb => ?_⟩
              have sb := nb.sm
              have k5 := k4.same sb
              have d5 := d4.same sb
              have fz5 := fz3.trans ((Fx.fz (Same.fx sa)).trans (Fx.fz (Same.fx sb)))
              have hla := sb _ _ na.lst
              have hlb := nb.lst
              have ra := na.rows.fx (Same.fx sb)
              have rb := nb.rows
              walk_at "rd"
              refine ⟨3, rfl, by decide, by decide, fun D0 nD => lc_range (n := 3) (fun i H' => H' D0 = some (.lst (List.replicate i (.bl true))) ∧ Same H13 H') ⟨upd_same, Same.new nD⟩ (fun i H' hi hP => ?_) (fun H' hP => ?_)⟩
              · obtain ⟨hD0, sm⟩ := hP
                rw [Int.zero_add]
                have hia : i < aa.length := by rw [ra.len]; exact hi
                have hib : i < ab.length := by rw [rb.len]; exact hi
                obtain ⟨ta, hta⟩ : ∃ t, aa[i]? = some t := ⟨_, List.getElem?_eq_getElem hia⟩
                obtain ⟨tb, htb⟩ : ∃ t, ab[i]? = some t := ⟨_, List.getElem?_eq_getElem hib⟩
                obtain ⟨vs, hvs, hlen, hsc⟩ : ∃ vs, [stT w2.d0, stT w2.d1, gmT w2][i]? = some vs ∧ vs.length ≤ 10 ∧ ∀ x, x ∈ vs → Sc1 x := by
                  have : i = 0 ∨ i = 1 ∨ i = 2 := by omega
                  rcases this with rfl | rfl | rfl
                  · exact ⟨_, rfl, Nat.le_of_ble_eq_true rfl, stT_sc _⟩
                  · exact ⟨_, rfl, Nat.le_of_ble_eq_true rfl, stT_sc _⟩
                  · exact ⟨_, rfl, Nat.le_of_ble_eq_true rfl, gmT_sc _⟩
                have h1 := sm _ _ (ra.tup i ta vs hta hvs)
                have h2 := sm _ _ (rb.tup i tb vs htb hvs)
                have hxa := atI_refs hta
                have hxb := atI_refs htb
                have hla2 := sm _ _ hla
                have hlb2 := sm _ _ hlb
                walk_at "rd"
                refine ⟨rfl, ?_⟩
                refine k_tYes ?_
                walk_at "rd"
                refine ⟨.ref ta, .ty "tuple", .type "tuple", .type "tuple", true, rfl, .ty _, .base (.tup h1), kit_ty (a := "tuple") (b := "tuple") (r := true) rfl, ?_⟩
                walk_at "rd"
                refine ⟨ta, tb, vs, rfl, h1, h2, hlen, hsc, ?_⟩
                walk_at "rd"
                refine ⟨_, hD0, by rw [List.length_replicate, sizeLine_eq]; omega, ?_, fun b o e => ?_⟩
                · rw [List.replicate_succ']
                  exact upd_same
                · rw [upd_ne (ne_of_none e nD)]
                  exact sm _ _ e
              · obtain ⟨hD0, sm⟩ := hP
                walk_at "rd"
                refine ⟨D0, [true, true, true], rfl, SqL.of hD0, ?_⟩
                walk_at "rd"
                exact ⟨w2, _, _, _, _, _, _, _, rfl, k5.same sm, d5.same sm, wf2, fz5.trans (Fx.fz (Same.fx sm))⟩
        · obtain ⟨w1, x6, x7, x8, x9, x10, x11, x12, rfl, k1, d1, wf1, fz⟩ := hP
          walk_at "rd"
          exact q _
end
/-! ### what the top has written, gathered -/
theorem all_mk {l : PySem.W.OpenLaw} {w : World} {K : PySem.W.Frag} {h : Heap} {mg : Str → Option Value} {fa CS CC cE cB cT cN cO aW f1 f2 f3 f4 f5 f6 f7 f8 f9 f10 f11 f12 f13 f14 f15 f16 f17 f18 f19 f20 f21 f22 f23 f24 f25 f26 f27 f28 f29 f30 f31 f32 f33 f34 : Addr} (X : K.In h) (G : h.Ns mainGlobals mg) (hfa : mg "law" = some (.ref fa))
    {odW od1 an1 od2 an2 od3 an3 od4 an4 od5 an5 od6 an6 od7 an7 od8 an8 od9 an9 od10 an10 od11 an11 od12 an12 od13 an13 od14 an14 od15 an15 od16 an16 od17 an17 od18 an18 od19 an19 od20 an20 od21 an21 od22 an22 od23 an23 od24 an24 od25 an25 od26 an26 od27 an27 od28 an28 od29 an29 od30 an30 od31 an31 od32 an32 od33 an33 od34 an34 : Option Addr} {slW sl1 sl2 sl3 sl4 sl5 sl6 sl7 sl8 sl9 sl10 sl11 sl12 sl13 sl14 sl15 sl16 sl17 sl18 sl19 sl20 sl21 sl22 sl23 sl24 sl25 sl26 sl27 sl28 sl29 sl30 sl31 sl32 sl33 sl34 : Array (Option Value)} {uMOST_TICKS uMOST_STAGES uMOST_MOVES oc1 kV1 dc1 pm1 cd1 ct1 oc2 kV2 dc2 pm2 cd2 ct2 oc3 kV3 dc3 pm3 cd3 ct3 oc4 kV4 dc4 pm4 cd4 ct4 oc5 kV5 dc5 pm5 cd5 ct5 oc6 kV6 dc6 pm6 cd6 ct6 oc7 kV7 dc7 pm7 cd7 ct7 oc8 kV8 dc8 pm8 cd8 ct8 oc9 kV9 dc9 pm9 cd9 ct9 oc10 kV10 dc10 pm10 cd10 ct10 oc11 kV11 dc11 pm11 cd11 ct11 oc12 kV12 dc12 pm12 cd12 ct12 oc13 kV13 dc13 pm13 cd13 ct13 oc14 kV14 dc14 pm14 cd14 ct14 oc15 kV15 dc15 pm15 cd15 ct15 oc16 kV16 dc16 pm16 cd16 ct16 oc17 kV17 dc17 pm17 cd17 ct17 oc18 kV18 dc18 pm18 cd18 ct18 oc19 kV19 dc19 pm19 cd19 ct19 oc20 kV20 dc20 pm20 cd20 ct20 oc21 kV21 dc21 pm21 cd21 ct21 oc22 kV22 dc22 pm22 cd22 ct22 oc23 kV23 dc23 pm23 cd23 ct23 oc24 kV24 dc24 pm24 cd24 ct24 oc25 kV25 dc25 pm25 cd25 ct25 oc26 kV26 dc26 pm26 cd26 ct26 oc27 kV27 dc27 pm27 cd27 ct27 oc28 kV28 dc28 pm28 cd28 ct28 oc29 kV29 dc29 pm29 cd29 ct29 oc30 kV30 dc30 pm30 cd30 ct30 oc31 kV31 dc31 pm31 cd31 ct31 oc32 kV32 dc32 pm32 cd32 ct32 oc33 kV33 dc33 pm33 cd33 ct33 oc34 kV34 dc34 pm34 cd34 ct34 : Value} {itsW : Array Value} {nW : Nat}
    (aCS : PySem.W.nsIn K mainGlobals "Side" = some (some (.ref CS)))
    (aCC : PySem.W.nsIn K mainGlobals "Clock" = some (some (.ref CC)))
    (acE : PySem.W.nsIn K mainGlobals "ClockError" = some (some (.ref cE)))
    (acB : PySem.W.nsIn K mainGlobals "BadStages" = some (some (.ref cB)))
    (acT : PySem.W.nsIn K mainGlobals "BadTicks" = some (some (.ref cT)))
    (acN : PySem.W.nsIn K mainGlobals "NotNow" = some (some (.ref cN)))
    (acO : PySem.W.nsIn K mainGlobals "Over" = some (some (.ref cO)))
    (a1 : PySem.W.findIn K (.ref CS) "__init__" = some (some (.ref f1)))
    (i1 : PySem.W.isFn K (.ref f1) = true)
    (l1 : K.lookup f1 = some ⟨oc1, od1, .func (PySem.W.fnOf "__init__" "Side.__init__" (defArgs s_Side___init) (defBody s_Side___init) (defScope s_Side___init) .none kV1 dc1 pm1 an1 cd1 ct1), sl1⟩)
    (c1 : PySem.W.codeIn K cd1 "Side.__init__" = true)
    (k1 : PySem.W.keepIn K (.ref f1) = true)
    (a2 : PySem.W.findIn K (.ref CS) "begin" = some (some (.ref f2)))
    (i2 : PySem.W.isFn K (.ref f2) = true)
    (l2 : K.lookup f2 = some ⟨oc2, od2, .func (PySem.W.fnOf "begin" "Side.begin" (defArgs s_Side_begin) (defBody s_Side_begin) (defScope s_Side_begin) .none kV2 dc2 pm2 an2 cd2 ct2), sl2⟩)
    (c2 : PySem.W.codeIn K cd2 "Side.begin" = true)
    (k2 : PySem.W.keepIn K (.ref f2) = true)
    (a3 : PySem.W.findIn K (.ref CS) "stage" = some (some (.ref f3)))
    (i3 : PySem.W.isFn K (.ref f3) = true)
    (l3 : K.lookup f3 = some ⟨oc3, od3, .func (PySem.W.fnOf "stage" "Side.stage" (defArgs s_Side_stage) (defBody s_Side_stage) (defScope s_Side_stage) .none kV3 dc3 pm3 an3 cd3 ct3), sl3⟩)
    (c3 : PySem.W.codeIn K cd3 "Side.stage" = true)
    (k3 : PySem.W.keepIn K (.ref f3) = true)
    (a4 : PySem.W.findIn K (.ref CS) "is_over" = some (some (.ref f4)))
    (i4 : PySem.W.isFn K (.ref f4) = true)
    (l4 : K.lookup f4 = some ⟨oc4, od4, .func (PySem.W.fnOf "is_over" "Side.is_over" (defArgs s_Side_is_over) (defBody s_Side_is_over) (defScope s_Side_is_over) .none kV4 dc4 pm4 an4 cd4 ct4), sl4⟩)
    (c4 : PySem.W.codeIn K cd4 "Side.is_over" = true)
    (k4 : PySem.W.keepIn K (.ref f4) = true)
    (a5 : PySem.W.findIn K (.ref CS) "free" = some (some (.ref f5)))
    (i5 : PySem.W.isFn K (.ref f5) = true)
    (l5 : K.lookup f5 = some ⟨oc5, od5, .func (PySem.W.fnOf "free" "Side.free" (defArgs s_Side_free) (defBody s_Side_free) (defScope s_Side_free) .none kV5 dc5 pm5 an5 cd5 ct5), sl5⟩)
    (c5 : PySem.W.codeIn K cd5 "Side.free" = true)
    (k5 : PySem.W.keepIn K (.ref f5) = true)
    (a6 : PySem.W.findIn K (.ref CS) "until" = some (some (.ref f6)))
    (i6 : PySem.W.isFn K (.ref f6) = true)
    (l6 : K.lookup f6 = some ⟨oc6, od6, .func (PySem.W.fnOf "until" "Side.until" (defArgs s_Side_until) (defBody s_Side_until) (defScope s_Side_until) .none kV6 dc6 pm6 an6 cd6 ct6), sl6⟩)
    (c6 : PySem.W.codeIn K cd6 "Side.until" = true)
    (k6 : PySem.W.keepIn K (.ref f6) = true)
    (a7 : PySem.W.findIn K (.ref CS) "pass_by" = some (some (.ref f7)))
    (i7 : PySem.W.isFn K (.ref f7) = true)
    (l7 : K.lookup f7 = some ⟨oc7, od7, .func (PySem.W.fnOf "pass_by" "Side.pass_by" (defArgs s_Side_pass_by) (defBody s_Side_pass_by) (defScope s_Side_pass_by) .none kV7 dc7 pm7 an7 cd7 ct7), sl7⟩)
    (c7 : PySem.W.codeIn K cd7 "Side.pass_by" = true)
    (k7 : PySem.W.keepIn K (.ref f7) = true)
    (a8 : PySem.W.findIn K (.ref CS) "falls" = some (some (.ref f8)))
    (i8 : PySem.W.isFn K (.ref f8) = true)
    (l8 : K.lookup f8 = some ⟨oc8, od8, .func (PySem.W.fnOf "falls" "Side.falls" (defArgs s_Side_falls) (defBody s_Side_falls) (defScope s_Side_falls) .none kV8 dc8 pm8 an8 cd8 ct8), sl8⟩)
    (c8 : PySem.W.codeIn K cd8 "Side.falls" = true)
    (k8 : PySem.W.keepIn K (.ref f8) = true)
    (a9 : PySem.W.findIn K (.ref CS) "press" = some (some (.ref f9)))
    (i9 : PySem.W.isFn K (.ref f9) = true)
    (l9 : K.lookup f9 = some ⟨oc9, od9, .func (PySem.W.fnOf "press" "Side.press" (defArgs s_Side_press) (defBody s_Side_press) (defScope s_Side_press) .none kV9 dc9 pm9 an9 cd9 ct9), sl9⟩)
    (c9 : PySem.W.codeIn K cd9 "Side.press" = true)
    (k9 : PySem.W.keepIn K (.ref f9) = true)
    (a10 : PySem.W.nsIn K mainGlobals "look_main" = some (some (.ref f10)))
    (l10 : K.lookup f10 = some ⟨oc10, od10, .func (PySem.W.fnOf "look_main" "look_main" (defArgs s_look_main) (defBody s_look_main) (defScope s_look_main) .none kV10 dc10 pm10 an10 cd10 ct10), sl10⟩)
    (c10 : PySem.W.codeIn K cd10 "look_main" = true)
    (k10 : PySem.W.keepIn K (.ref f10) = true)
    (a11 : PySem.W.nsIn K mainGlobals "look_stages" = some (some (.ref f11)))
    (l11 : K.lookup f11 = some ⟨oc11, od11, .func (PySem.W.fnOf "look_stages" "look_stages" (defArgs s_look_stages) (defBody s_look_stages) (defScope s_look_stages) .none kV11 dc11 pm11 an11 cd11 ct11), sl11⟩)
    (c11 : PySem.W.codeIn K cd11 "look_stages" = true)
    (k11 : PySem.W.keepIn K (.ref f11) = true)
    (a12 : PySem.W.findIn K (.ref CC) "__init__" = some (some (.ref f12)))
    (i12 : PySem.W.isFn K (.ref f12) = true)
    (l12 : K.lookup f12 = some ⟨oc12, od12, .func (PySem.W.fnOf "__init__" "Clock.__init__" (defArgs s_Clock___init) (defBody s_Clock___init) (defScope s_Clock___init) .none kV12 dc12 pm12 an12 cd12 ct12), sl12⟩)
    (c12 : PySem.W.codeIn K cd12 "Clock.__init__" = true)
    (k12 : PySem.W.keepIn K (.ref f12) = true)
    (a13 : PySem.W.findIn K (.ref CC) "look" = some (some (.ref f13)))
    (i13 : PySem.W.isFn K (.ref f13) = true)
    (l13 : K.lookup f13 = some ⟨oc13, od13, .func (PySem.W.fnOf "look" "Clock.look" (defArgs s_Clock_look) (defBody s_Clock_look) (defScope s_Clock_look) .none kV13 dc13 pm13 an13 cd13 ct13), sl13⟩)
    (c13 : PySem.W.codeIn K cd13 "Clock.look" = true)
    (k13 : PySem.W.keepIn K (.ref f13) = true)
    (a14 : PySem.W.findIn K (.ref CC) "start" = some (some (.ref f14)))
    (i14 : PySem.W.isFn K (.ref f14) = true)
    (l14 : K.lookup f14 = some ⟨oc14, od14, .func (PySem.W.fnOf "start" "Clock.start" (defArgs s_Clock_start) (defBody s_Clock_start) (defScope s_Clock_start) .none kV14 dc14 pm14 an14 cd14 ct14), sl14⟩)
    (c14 : PySem.W.codeIn K cd14 "Clock.start" = true)
    (k14 : PySem.W.keepIn K (.ref f14) = true)
    (a15 : PySem.W.findIn K (.ref CC) "stop" = some (some (.ref f15)))
    (i15 : PySem.W.isFn K (.ref f15) = true)
    (l15 : K.lookup f15 = some ⟨oc15, od15, .func (PySem.W.fnOf "stop" "Clock.stop" (defArgs s_Clock_stop) (defBody s_Clock_stop) (defScope s_Clock_stop) .none kV15 dc15 pm15 an15 cd15 ct15), sl15⟩)
    (c15 : PySem.W.codeIn K cd15 "Clock.stop" = true)
    (k15 : PySem.W.keepIn K (.ref f15) = true)
    (a16 : PySem.W.findIn K (.ref CC) "go" = some (some (.ref f16)))
    (i16 : PySem.W.isFn K (.ref f16) = true)
    (l16 : K.lookup f16 = some ⟨oc16, od16, .func (PySem.W.fnOf "go" "Clock.go" (defArgs s_Clock_go) (defBody s_Clock_go) (defScope s_Clock_go) .none kV16 dc16 pm16 an16 cd16 ct16), sl16⟩)
    (c16 : PySem.W.codeIn K cd16 "Clock.go" = true)
    (k16 : PySem.W.keepIn K (.ref f16) = true)
    (a17 : PySem.W.findIn K (.ref CC) "press" = some (some (.ref f17)))
    (i17 : PySem.W.isFn K (.ref f17) = true)
    (l17 : K.lookup f17 = some ⟨oc17, od17, .func (PySem.W.fnOf "press" "Clock.press" (defArgs s_Clock_press) (defBody s_Clock_press) (defScope s_Clock_press) .none kV17 dc17 pm17 an17 cd17 ct17), sl17⟩)
    (c17 : PySem.W.codeIn K cd17 "Clock.press" = true)
    (k17 : PySem.W.keepIn K (.ref f17) = true)
    (a18 : PySem.W.findIn K (.ref CC) "give" = some (some (.ref f18)))
    (i18 : PySem.W.isFn K (.ref f18) = true)
    (l18 : K.lookup f18 = some ⟨oc18, od18, .func (PySem.W.fnOf "give" "Clock.give" (defArgs s_Clock_give) (defBody s_Clock_give) (defScope s_Clock_give) .none kV18 dc18 pm18 an18 cd18 ct18), sl18⟩)
    (c18 : PySem.W.codeIn K cd18 "Clock.give" = true)
    (k18 : PySem.W.keepIn K (.ref f18) = true)
    (a19 : PySem.W.findIn K (.ref CC) "state" = some (some (.ref f19)))
    (i19 : PySem.W.isFn K (.ref f19) = true)
    (l19 : K.lookup f19 = some ⟨oc19, od19, .func (PySem.W.fnOf "state" "Clock.state" (defArgs s_Clock_state) (defBody s_Clock_state) (defScope s_Clock_state) .none kV19 dc19 pm19 an19 cd19 ct19), sl19⟩)
    (c19 : PySem.W.codeIn K cd19 "Clock.state" = true)
    (k19 : PySem.W.keepIn K (.ref f19) = true)
    (a20 : PySem.W.findIn K (.ref CC) "game" = some (some (.ref f20)))
    (i20 : PySem.W.isFn K (.ref f20) = true)
    (l20 : K.lookup f20 = some ⟨oc20, od20, .func (PySem.W.fnOf "game" "Clock.game" (defArgs s_Clock_game) (defBody s_Clock_game) (defScope s_Clock_game) .none kV20 dc20 pm20 an20 cd20 ct20), sl20⟩)
    (c20 : PySem.W.codeIn K cd20 "Clock.game" = true)
    (k20 : PySem.W.keepIn K (.ref f20) = true)
    (a21 : PySem.W.nsIn K mainGlobals "_law_cell" = some (some (.ref f21)))
    (l21 : K.lookup f21 = some ⟨oc21, od21, .func (PySem.W.fnOf "_law_cell" "_law_cell" (defArgs s_law_cell) (defBody s_law_cell) (defScope s_law_cell) .none kV21 dc21 pm21 an21 cd21 ct21), sl21⟩)
    (c21 : PySem.W.codeIn K cd21 "_law_cell" = true)
    (k21 : PySem.W.keepIn K (.ref f21) = true)
    (a22 : PySem.W.nsIn K mainGlobals "_law_mix" = some (some (.ref f22)))
    (l22 : K.lookup f22 = some ⟨oc22, od22, .func (PySem.W.fnOf "_law_mix" "_law_mix" (defArgs s_law_mix) (defBody s_law_mix) (defScope s_law_mix) .none kV22 dc22 pm22 an22 cd22 ct22), sl22⟩)
    (c22 : PySem.W.codeIn K cd22 "_law_mix" = true)
    (k22 : PySem.W.keepIn K (.ref f22) = true)
    (a23 : PySem.W.nsIn K mainGlobals "_law_stages" = some (some (.ref f23)))
    (l23 : K.lookup f23 = some ⟨oc23, od23, .func (PySem.W.fnOf "_law_stages" "_law_stages" (defArgs s_law_stages) (defBody s_law_stages) (defScope s_law_stages) .none kV23 dc23 pm23 an23 cd23 ct23), sl23⟩)
    (c23 : PySem.W.codeIn K cd23 "_law_stages" = true)
    (k23 : PySem.W.keepIn K (.ref f23) = true)
    (a24 : PySem.W.nsIn K mainGlobals "_law_deeds" = some (some (.ref f24)))
    (l24 : K.lookup f24 = some ⟨oc24, od24, .func (PySem.W.fnOf "_law_deeds" "_law_deeds" (defArgs s_law_deeds) (defBody s_law_deeds) (defScope s_law_deeds) .none kV24 dc24 pm24 an24 cd24 ct24), sl24⟩)
    (c24 : PySem.W.codeIn K cd24 "_law_deeds" = true)
    (k24 : PySem.W.keepIn K (.ref f24) = true)
    (a25 : PySem.W.nsIn K mainGlobals "_law_new" = some (some (.ref f25)))
    (l25 : K.lookup f25 = some ⟨oc25, od25, .func (PySem.W.fnOf "_law_new" "_law_new" (defArgs s_law_new) (defBody s_law_new) (defScope s_law_new) .none kV25 dc25 pm25 an25 cd25 ct25), sl25⟩)
    (c25 : PySem.W.codeIn K cd25 "_law_new" = true)
    (k25 : PySem.W.keepIn K (.ref f25) = true)
    (a26 : PySem.W.nsIn K mainGlobals "_law_next" = some (some (.ref f26)))
    (l26 : K.lookup f26 = some ⟨oc26, od26, .func (PySem.W.fnOf "_law_next" "_law_next" (defArgs s_law_next) (defBody s_law_next) (defScope s_law_next) .none kV26 dc26 pm26 an26 cd26 ct26), sl26⟩)
    (c26 : PySem.W.codeIn K cd26 "_law_next" = true)
    (k26 : PySem.W.keepIn K (.ref f26) = true)
    (a27 : PySem.W.nsIn K mainGlobals "_law_tick" = some (some (.ref f27)))
    (l27 : K.lookup f27 = some ⟨oc27, od27, .func (PySem.W.fnOf "_law_tick" "_law_tick" (defArgs s_law_tick) (defBody s_law_tick) (defScope s_law_tick) .none kV27 dc27 pm27 an27 cd27 ct27), sl27⟩)
    (c27 : PySem.W.codeIn K cd27 "_law_tick" = true)
    (k27 : PySem.W.keepIn K (.ref f27) = true)
    (a28 : PySem.W.nsIn K mainGlobals "_law_press" = some (some (.ref f28)))
    (l28 : K.lookup f28 = some ⟨oc28, od28, .func (PySem.W.fnOf "_law_press" "_law_press" (defArgs s_law_press) (defBody s_law_press) (defScope s_law_press) .none kV28 dc28 pm28 an28 cd28 ct28), sl28⟩)
    (c28 : PySem.W.codeIn K cd28 "_law_press" = true)
    (k28 : PySem.W.keepIn K (.ref f28) = true)
    (a29 : PySem.W.nsIn K mainGlobals "_law_due" = some (some (.ref f29)))
    (l29 : K.lookup f29 = some ⟨oc29, od29, .func (PySem.W.fnOf "_law_due" "_law_due" (defArgs s_law_due) (defBody s_law_due) (defScope s_law_due) .none kV29 dc29 pm29 an29 cd29 ct29), sl29⟩)
    (c29 : PySem.W.codeIn K cd29 "_law_due" = true)
    (k29 : PySem.W.keepIn K (.ref f29) = true)
    (a30 : PySem.W.nsIn K mainGlobals "_law_state" = some (some (.ref f30)))
    (l30 : K.lookup f30 = some ⟨oc30, od30, .func (PySem.W.fnOf "_law_state" "_law_state" (defArgs s_law_state) (defBody s_law_state) (defScope s_law_state) .none kV30 dc30 pm30 an30 cd30 ct30), sl30⟩)
    (c30 : PySem.W.codeIn K cd30 "_law_state" = true)
    (k30 : PySem.W.keepIn K (.ref f30) = true)
    (a31 : PySem.W.nsIn K mainGlobals "_law_told" = some (some (.ref f31)))
    (l31 : K.lookup f31 = some ⟨oc31, od31, .func (PySem.W.fnOf "_law_told" "_law_told" (defArgs s_law_told) (defBody s_law_told) (defScope s_law_told) .none kV31 dc31 pm31 an31 cd31 ct31), sl31⟩)
    (c31 : PySem.W.codeIn K cd31 "_law_told" = true)
    (k31 : PySem.W.keepIn K (.ref f31) = true)
    (a32 : PySem.W.nsIn K mainGlobals "_law_shown" = some (some (.ref f32)))
    (l32 : K.lookup f32 = some ⟨oc32, od32, .func (PySem.W.fnOf "_law_shown" "_law_shown" (defArgs s_law_shown) (defBody s_law_shown) (defScope s_law_shown) .none kV32 dc32 pm32 an32 cd32 ct32), sl32⟩)
    (c32 : PySem.W.codeIn K cd32 "_law_shown" = true)
    (k32 : PySem.W.keepIn K (.ref f32) = true)
    (a33 : PySem.W.nsIn K mainGlobals "_law_same" = some (some (.ref f33)))
    (l33 : K.lookup f33 = some ⟨oc33, od33, .func (PySem.W.fnOf "_law_same" "_law_same" (defArgs s_law_same) (defBody s_law_same) (defScope s_law_same) .none kV33 dc33 pm33 an33 cd33 ct33), sl33⟩)
    (c33 : PySem.W.codeIn K cd33 "_law_same" = true)
    (k33 : PySem.W.keepIn K (.ref f33) = true)
    (a34 : PySem.W.nsIn K mainGlobals "law" = some (some (.ref f34)))
    (l34 : K.lookup f34 = some ⟨oc34, od34, .func (PySem.W.fnOf "law" "law" (defArgs s_law) (defBody s_law) (defScope s_law) .none kV34 dc34 pm34 an34 cd34 ct34), sl34⟩)
    (c34 : PySem.W.codeIn K cd34 "law" = true)
    (k34 : PySem.W.keepIn K (.ref f34) = true)
    (pgCS : PySem.W.plainGet K CS Str.empty = true)
    (hdCS : PySem.W.hasDictIn K CS = true)
    (poCS : PySem.W.plainOver K CS = true)
    (saCS : PySem.W.findIn K (.ref CS) "__setattr__" = some (some (.builtin "object.__setattr__")))
    (mkCS : PySem.W.makesIn K CS = true)
    (kcCS : PySem.W.keepIn K (.ref CS) = true)
    (nS1 : PySem.W.findIn K (.ref CS) "stages" = some none)
    (nS2 : PySem.W.findIn K (.ref CS) "at" = some none)
    (nS3 : PySem.W.findIn K (.ref CS) "ticks" = some none)
    (nS4 : PySem.W.findIn K (.ref CS) "periods" = some none)
    (nS5 : PySem.W.findIn K (.ref CS) "moved" = some none)
    (nS6 : PySem.W.findIn K (.ref CS) "made" = some none)
    (nS7 : PySem.W.findIn K (.ref CS) "used" = some none)
    (pgCC : PySem.W.plainGet K CC Str.empty = true)
    (hdCC : PySem.W.hasDictIn K CC = true)
    (poCC : PySem.W.plainOver K CC = true)
    (saCC : PySem.W.findIn K (.ref CC) "__setattr__" = some (some (.builtin "object.__setattr__")))
    (mkCC : PySem.W.makesIn K CC = true)
    (kcCC : PySem.W.keepIn K (.ref CC) = true)
    (nC1 : PySem.W.findIn K (.ref CC) "both" = some none)
    (nC2 : PySem.W.findIn K (.ref CC) "turn" = some none)
    (nC3 : PySem.W.findIn K (.ref CC) "runs" = some none)
    (nC4 : PySem.W.findIn K (.ref CC) "fallen" = some none)
    (nC5 : PySem.W.findIn K (.ref CC) "total" = some none)
    (hn : PySem.W.specialIn K (.builtin "object.__class__") "__get__" = some (some (.builtin "getset_descriptor.__get__")))
    (ht : PySem.W.takesIn K (.builtin "object.__class__") = some true)
    (xxB : PySem.W.excIn K cB [.type "ValueError", .type "Exception", .type "BaseException", .type "object"] "ValueError.__new__" = true)
    (xkB : PySem.W.keepIn K (.ref cB) = true)
    (xsB : PySem.W.subIn K (.ref cB) (.type "BaseException") = some true)
    (xtB : PySem.W.typeIn K (.ref cB) = some (.type "type"))
    (xgB : PySem.W.findIn K (.ref cB) "__getattribute__" = some (some (.builtin "BaseException.__getattribute__")))
    (xjB : PySem.W.findIn K (.ref cB) "__getattr__" = some none)
    (xdB : PySem.W.hasDictIn K cB = true)
    (xaB : PySem.W.findIn K (.ref cB) "__class__" = some (some (.builtin "object.__class__")))
    (xmB : PySem.W.mroIn K cB (.type "object") = some true)
    (hB : PySem.W.exmOne K (.ref cB) (.ref cE) = some true)
    (iBB : PySem.W.kitOne K (.ref cB) (.ref cB) = some true)
    (iBT : PySem.W.kitOne K (.ref cB) (.ref cT) = some false)
    (iBN : PySem.W.kitOne K (.ref cB) (.ref cN) = some false)
    (iBO : PySem.W.kitOne K (.ref cB) (.ref cO) = some false)
    (iBV : PySem.W.kitOne K (.ref cB) (.type "ValueError") = some true)
    (xxT : PySem.W.excIn K cT [.type "ValueError", .type "Exception", .type "BaseException", .type "object"] "ValueError.__new__" = true)
    (xkT : PySem.W.keepIn K (.ref cT) = true)
    (xsT : PySem.W.subIn K (.ref cT) (.type "BaseException") = some true)
    (xtT : PySem.W.typeIn K (.ref cT) = some (.type "type"))
    (xgT : PySem.W.findIn K (.ref cT) "__getattribute__" = some (some (.builtin "BaseException.__getattribute__")))
    (xjT : PySem.W.findIn K (.ref cT) "__getattr__" = some none)
    (xdT : PySem.W.hasDictIn K cT = true)
    (xaT : PySem.W.findIn K (.ref cT) "__class__" = some (some (.builtin "object.__class__")))
    (xmT : PySem.W.mroIn K cT (.type "object") = some true)
    (hT : PySem.W.exmOne K (.ref cT) (.ref cE) = some true)
    (iTB : PySem.W.kitOne K (.ref cT) (.ref cB) = some false)
    (iTT : PySem.W.kitOne K (.ref cT) (.ref cT) = some true)
    (iTN : PySem.W.kitOne K (.ref cT) (.ref cN) = some false)
    (iTO : PySem.W.kitOne K (.ref cT) (.ref cO) = some false)
    (iTV : PySem.W.kitOne K (.ref cT) (.type "ValueError") = some true)
    (xxN : PySem.W.excIn K cN [.type "ValueError", .type "Exception", .type "BaseException", .type "object"] "ValueError.__new__" = true)
    (xkN : PySem.W.keepIn K (.ref cN) = true)
    (xsN : PySem.W.subIn K (.ref cN) (.type "BaseException") = some true)
    (xtN : PySem.W.typeIn K (.ref cN) = some (.type "type"))
    (xgN : PySem.W.findIn K (.ref cN) "__getattribute__" = some (some (.builtin "BaseException.__getattribute__")))
    (xjN : PySem.W.findIn K (.ref cN) "__getattr__" = some none)
    (xdN : PySem.W.hasDictIn K cN = true)
    (xaN : PySem.W.findIn K (.ref cN) "__class__" = some (some (.builtin "object.__class__")))
    (xmN : PySem.W.mroIn K cN (.type "object") = some true)
    (hN : PySem.W.exmOne K (.ref cN) (.ref cE) = some true)
    (iNB : PySem.W.kitOne K (.ref cN) (.ref cB) = some false)
    (iNT : PySem.W.kitOne K (.ref cN) (.ref cT) = some false)
    (iNN : PySem.W.kitOne K (.ref cN) (.ref cN) = some true)
    (iNO : PySem.W.kitOne K (.ref cN) (.ref cO) = some false)
    (iNV : PySem.W.kitOne K (.ref cN) (.type "ValueError") = some true)
    (xxO : PySem.W.excIn K cO [.type "ValueError", .type "Exception", .type "BaseException", .type "object"] "ValueError.__new__" = true)
    (xkO : PySem.W.keepIn K (.ref cO) = true)
    (xsO : PySem.W.subIn K (.ref cO) (.type "BaseException") = some true)
    (xtO : PySem.W.typeIn K (.ref cO) = some (.type "type"))
    (xgO : PySem.W.findIn K (.ref cO) "__getattribute__" = some (some (.builtin "BaseException.__getattribute__")))
    (xjO : PySem.W.findIn K (.ref cO) "__getattr__" = some none)
    (xdO : PySem.W.hasDictIn K cO = true)
    (xaO : PySem.W.findIn K (.ref cO) "__class__" = some (some (.builtin "object.__class__")))
    (xmO : PySem.W.mroIn K cO (.type "object") = some true)
    (hO : PySem.W.exmOne K (.ref cO) (.ref cE) = some true)
    (iOB : PySem.W.kitOne K (.ref cO) (.ref cB) = some false)
    (iOT : PySem.W.kitOne K (.ref cO) (.ref cT) = some false)
    (iON : PySem.W.kitOne K (.ref cO) (.ref cN) = some false)
    (iOO : PySem.W.kitOne K (.ref cO) (.ref cO) = some true)
    (iOV : PySem.W.kitOne K (.ref cO) (.type "ValueError") = some true)
    (aMOST_TICKS : PySem.W.nsIn K mainGlobals "MOST_TICKS" = some (some uMOST_TICKS))
    (rMOST_TICKS : RelV (.int 1000000) uMOST_TICKS)
    (aMOST_STAGES : PySem.W.nsIn K mainGlobals "MOST_STAGES" = some (some uMOST_STAGES))
    (rMOST_STAGES : RelV (.int 5) uMOST_STAGES)
    (aMOST_MOVES : PySem.W.nsIn K mainGlobals "MOST_MOVES" = some (some uMOST_MOVES))
    (rMOST_MOVES : RelV (.int 200) uMOST_MOVES)
    (aaW : PySem.W.nsIn K mainGlobals "WAYS" = some (some (.ref aW)))
    (lW : K.lookup aW = some ⟨.type "tuple", odW, .seq itsW nW, slW⟩)
    (zW : itsW.size ≤ sizeLine)
    (vW : Vals [.str "plain", .str "add", .str "back", .str "wait"] itsW.toList)
    (nb_len : PySem.W.nsIn K mainGlobals "len" = some none)
    (nb_max : PySem.W.nsIn K mainGlobals "max" = some none)
    (nb_min : PySem.W.nsIn K mainGlobals "min" = some none)
    (nb_list : PySem.W.nsIn K mainGlobals "list" = some none)
    (nb_range : PySem.W.nsIn K mainGlobals "range" = some none)
    (nb_isinstance : PySem.W.nsIn K mainGlobals "isinstance" = some none)
    (nb_bool : PySem.W.nsIn K mainGlobals "bool" = some none)
    (nb_tuple : PySem.W.nsIn K mainGlobals "tuple" = some none)
    (nb_ValueError : PySem.W.nsIn K mainGlobals "ValueError" = some none)
    (nb_int : PySem.W.nsIn K mainGlobals "int" = some none)
    (nb_str : PySem.W.nsIn K mainGlobals "str" = some none)
    (nb_all : PySem.W.nsIn K mainGlobals "all" = some none)
    : ∃ fd : FuncData, (∀ (s : Shared) (v : Value), BindsTo s fd ⟨[v], []⟩ [("_law_script", v)]) ∧ ∀ base : Heap, K.In base → base.Ns mainGlobals mg → FnOk l.prog w K mg base CX0 8 fa fd ["_law_script"] (spLaw K) := by
  have e := hfa.symm.trans (PySem.W.mg_of X G a34)
  cases e
  have T : Txt K mg CS CC cE cB cT cN cO aW := { clS := ⟨pgCS, hdCS, poCS, saCS⟩, clC := ⟨pgCC, hdCC, poCC, saCC⟩, nS1 := nS1, nS2 := nS2, nS3 := nS3, nS4 := nS4, nS5 := nS5, nS6 := nS6, nS7 := nS7, nC1 := nC1, nC2 := nC2, nC3 := nC3, nC4 := nC4, nC5 := nC5, eB := ⟨xxB, xkB, xsB, xtB, ⟨xgB, xjB, xsB, xdB, xaB, hn, ht, xmB⟩⟩, eT := ⟨xxT, xkT, xsT, xtT, ⟨xgT, xjT, xsT, xdT, xaT, hn, ht, xmT⟩⟩, eN := ⟨xxN, xkN, xsN, xtN, ⟨xgN, xjN, xsN, xdN, xaN, hn, ht, xmN⟩⟩, eO := ⟨xxO, xkO, xsO, xtO, ⟨xgO, xjO, xsO, xdO, xaO, hn, ht, xmO⟩⟩, g_ClockError := PySem.W.mg_of X G acE, g_BadStages := PySem.W.mg_of X G acB, g_BadTicks := PySem.W.mg_of X G acT, g_NotNow := PySem.W.mg_of X G acN, g_Over := PySem.W.mg_of X G acO, hB := hB, hT := hT, hN := hN, hO := hO, g_MOST_TICKS := ⟨_, PySem.W.mg_of X G aMOST_TICKS, rMOST_TICKS⟩, g_MOST_STAGES := ⟨_, PySem.W.mg_of X G aMOST_STAGES, rMOST_STAGES⟩, g_MOST_MOVES := ⟨_, PySem.W.mg_of X G aMOST_MOVES, rMOST_MOVES⟩, g_WAYS := PySem.W.mg_of X G aaW, w_WAYS := fun H => .inr ⟨_, itsW, nW, lW, rfl, rfl, zW, vW⟩, b_len := PySem.W.mg_none_of X G nb_len, b_max := PySem.W.mg_none_of X G nb_max, b_min := PySem.W.mg_none_of X G nb_min, b_list := PySem.W.mg_none_of X G nb_list, b_range := PySem.W.mg_none_of X G nb_range, b_isinstance := PySem.W.mg_none_of X G nb_isinstance, b_bool := PySem.W.mg_none_of X G nb_bool, b_tuple := PySem.W.mg_none_of X G nb_tuple, b_ValueError := PySem.W.mg_none_of X G nb_ValueError, b_int := PySem.W.mg_none_of X G nb_int, b_str := PySem.W.mg_none_of X G nb_str, b_all := PySem.W.mg_none_of X G nb_all, iBT := iBT, iBN := iBN, iBO := iBO, iBB := iBB, iBV := iBV, iTT := iTT, iTN := iTN, iTO := iTO, iTB := iTB, iTV := iTV, iNT := iNT, iNN := iNN, iNO := iNO, iNB := iNB, iNV := iNV, iOT := iOT, iON := iON, iOO := iOO, iOB := iOB, iOV := iOV }
  have F1 := fun_mk (st := s_Side___init) l1 c1 k1
  have b1 := F1.binds (ps := ["self", "stages"]) fun _ _ _ _ _ _ us hl => match us, hl with | [_, _], _ => rfl
  have D1 : IDef K mg CS "Side" "Side.__init__" s_Side___init ["self", "stages"] := ⟨_, _, F1, b1, ⟨mkCS, a1, i1, kcCS⟩, PySem.W.mg_of X G aCS⟩
  have F2 := fun_mk (st := s_Side_begin) l2 c2 k2
  have b2 := F2.binds (ps := ["self", "at"]) fun _ _ _ _ _ _ us hl => match us, hl with | [_, _], _ => rfl
  have D2 : MDef K CS "begin" "Side.begin" s_Side_begin ["self", "at"] := ⟨_, _, F2, b2, a2, i2, k2⟩
  have F3 := fun_mk (st := s_Side_stage) l3 c3 k3
  have b3 := F3.binds (ps := ["self"]) fun _ _ _ _ _ _ us hl => match us, hl with | [_], _ => rfl
  have D3 : MDef K CS "stage" "Side.stage" s_Side_stage ["self"] := ⟨_, _, F3, b3, a3, i3, k3⟩
  have F4 := fun_mk (st := s_Side_is_over) l4 c4 k4
  have b4 := F4.binds (ps := ["self"]) fun _ _ _ _ _ _ us hl => match us, hl with | [_], _ => rfl
  have D4 : MDef K CS "is_over" "Side.is_over" s_Side_is_over ["self"] := ⟨_, _, F4, b4, a4, i4, k4⟩
  have F5 := fun_mk (st := s_Side_free) l5 c5 k5
  have b5 := F5.binds (ps := ["self"]) fun _ _ _ _ _ _ us hl => match us, hl with | [_], _ => rfl
  have D5 : MDef K CS "free" "Side.free" s_Side_free ["self"] := ⟨_, _, F5, b5, a5, i5, k5⟩
  have F6 := fun_mk (st := s_Side_until) l6 c6 k6
  have b6 := F6.binds (ps := ["self"]) fun _ _ _ _ _ _ us hl => match us, hl with | [_], _ => rfl
  have D6 : MDef K CS "until" "Side.until" s_Side_until ["self"] := ⟨_, _, F6, b6, a6, i6, k6⟩
  have F7 := fun_mk (st := s_Side_pass_by) l7 c7 k7
  have b7 := F7.binds (ps := ["self", "ticks"]) fun _ _ _ _ _ _ us hl => match us, hl with | [_, _], _ => rfl
  have D7 : MDef K CS "pass_by" "Side.pass_by" s_Side_pass_by ["self", "ticks"] := ⟨_, _, F7, b7, a7, i7, k7⟩
  have F8 := fun_mk (st := s_Side_falls) l8 c8 k8
  have b8 := F8.binds (ps := ["self"]) fun _ _ _ _ _ _ us hl => match us, hl with | [_], _ => rfl
  have D8 : MDef K CS "falls" "Side.falls" s_Side_falls ["self"] := ⟨_, _, F8, b8, a8, i8, k8⟩
  have F9 := fun_mk (st := s_Side_press) l9 c9 k9
  have b9 := F9.binds (ps := ["self"]) fun _ _ _ _ _ _ us hl => match us, hl with | [_], _ => rfl
  have D9 : MDef K CS "press" "Side.press" s_Side_press ["self"] := ⟨_, _, F9, b9, a9, i9, k9⟩
  have F10 := fun_mk (st := s_look_main) l10 c10 k10
  have b10 := F10.binds (ps := ["stage", "is_last"]) fun _ _ _ _ _ _ us hl => match us, hl with | [_, _], _ => rfl
  have D10 : FDef K mg "look_main" s_look_main ["stage", "is_last"] := ⟨_, _, F10, b10, PySem.W.mg_of X G a10⟩
  have F11 := fun_mk (st := s_look_stages) l11 c11 k11
  have b11 := F11.binds (ps := ["stages"]) fun _ _ _ _ _ _ us hl => match us, hl with | [_], _ => rfl
  have D11 : FDef K mg "look_stages" s_look_stages ["stages"] := ⟨_, _, F11, b11, PySem.W.mg_of X G a11⟩
  have F12 := fun_mk (st := s_Clock___init) l12 c12 k12
  have b12 := F12.binds (ps := ["self", "stages"]) fun _ _ _ _ _ _ us hl => match us, hl with | [_, _], _ => rfl
  have D12 : IDef K mg CC "Clock" "Clock.__init__" s_Clock___init ["self", "stages"] := ⟨_, _, F12, b12, ⟨mkCC, a12, i12, kcCC⟩, PySem.W.mg_of X G aCC⟩
  have F13 := fun_mk (st := s_Clock_look) l13 c13 k13
  have b13 := F13.binds (ps := ["self"]) fun _ _ _ _ _ _ us hl => match us, hl with | [_], _ => rfl
  have D13 : MDef K CC "look" "Clock.look" s_Clock_look ["self"] := ⟨_, _, F13, b13, a13, i13, k13⟩
  have F14 := fun_mk (st := s_Clock_start) l14 c14 k14
  have b14 := F14.binds (ps := ["self"]) fun _ _ _ _ _ _ us hl => match us, hl with | [_], _ => rfl
  have D14 : MDef K CC "start" "Clock.start" s_Clock_start ["self"] := ⟨_, _, F14, b14, a14, i14, k14⟩
  have F15 := fun_mk (st := s_Clock_stop) l15 c15 k15
  have b15 := F15.binds (ps := ["self"]) fun _ _ _ _ _ _ us hl => match us, hl with | [_], _ => rfl
  have D15 : MDef K CC "stop" "Clock.stop" s_Clock_stop ["self"] := ⟨_, _, F15, b15, a15, i15, k15⟩
  have F16 := fun_mk (st := s_Clock_go) l16 c16 k16
  have b16 := F16.binds (ps := ["self", "ticks"]) fun _ _ _ _ _ _ us hl => match us, hl with | [_, _], _ => rfl
  have D16 : MDef K CC "go" "Clock.go" s_Clock_go ["self", "ticks"] := ⟨_, _, F16, b16, a16, i16, k16⟩
  have F17 := fun_mk (st := s_Clock_press) l17 c17 k17
  have b17 := F17.binds (ps := ["self", "who"]) fun _ _ _ _ _ _ us hl => match us, hl with | [_, _], _ => rfl
  have D17 : MDef K CC "press" "Clock.press" s_Clock_press ["self", "who"] := ⟨_, _, F17, b17, a17, i17, k17⟩
  have F18 := fun_mk (st := s_Clock_give) l18 c18 k18
  have b18 := F18.binds (ps := ["self", "who", "ticks"]) fun _ _ _ _ _ _ us hl => match us, hl with | [_, _, _], _ => rfl
  have D18 : MDef K CC "give" "Clock.give" s_Clock_give ["self", "who", "ticks"] := ⟨_, _, F18, b18, a18, i18, k18⟩
  have F19 := fun_mk (st := s_Clock_state) l19 c19 k19
  have b19 := F19.binds (ps := ["self", "who"]) fun _ _ _ _ _ _ us hl => match us, hl with | [_, _], _ => rfl
  have D19 : MDef K CC "state" "Clock.state" s_Clock_state ["self", "who"] := ⟨_, _, F19, b19, a19, i19, k19⟩
  have F20 := fun_mk (st := s_Clock_game) l20 c20 k20
  have b20 := F20.binds (ps := ["self"]) fun _ _ _ _ _ _ us hl => match us, hl with | [_], _ => rfl
  have D20 : MDef K CC "game" "Clock.game" s_Clock_game ["self"] := ⟨_, _, F20, b20, a20, i20, k20⟩
  have F21 := fun_mk (st := s_law_cell) l21 c21 k21
  have b21 := F21.binds (ps := ["_law_script", "_law_k"]) fun _ _ _ _ _ _ us hl => match us, hl with | [_, _], _ => rfl
  have D21 : FDef K mg "_law_cell" s_law_cell ["_law_script", "_law_k"] := ⟨_, _, F21, b21, PySem.W.mg_of X G a21⟩
  have F22 := fun_mk (st := s_law_mix) l22 c22 k22
  have b22 := F22.binds (ps := ["_law_script", "_law_k"]) fun _ _ _ _ _ _ us hl => match us, hl with | [_, _], _ => rfl
  have D22 : FDef K mg "_law_mix" s_law_mix ["_law_script", "_law_k"] := ⟨_, _, F22, b22, PySem.W.mg_of X G a22⟩
  have F23 := fun_mk (st := s_law_stages) l23 c23 k23
  have b23 := F23.binds (ps := ["_law_script", "_law_k"]) fun _ _ _ _ _ _ us hl => match us, hl with | [_, _], _ => rfl
  have D23 : FDef K mg "_law_stages" s_law_stages ["_law_script", "_law_k"] := ⟨_, _, F23, b23, PySem.W.mg_of X G a23⟩
  have F24 := fun_mk (st := s_law_deeds) l24 c24 k24
  have b24 := F24.binds (ps := ["_law_script", "_law_k", "_law_many"]) fun _ _ _ _ _ _ us hl => match us, hl with | [_, _, _], _ => rfl
  have D24 : FDef K mg "_law_deeds" s_law_deeds ["_law_script", "_law_k", "_law_many"] := ⟨_, _, F24, b24, PySem.W.mg_of X G a24⟩
  have F25 := fun_mk (st := s_law_new) l25 c25 k25
  have b25 := F25.binds (ps := ["_law_stages_here"]) fun _ _ _ _ _ _ us hl => match us, hl with | [_], _ => rfl
  have D25 : FDef K mg "_law_new" s_law_new ["_law_stages_here"] := ⟨_, _, F25, b25, PySem.W.mg_of X G a25⟩
  have F26 := fun_mk (st := s_law_next) l26 c26 k26
  have b26 := F26.binds (ps := ["_law_world", "_law_side"]) fun _ _ _ _ _ _ us hl => match us, hl with | [_, _], _ => rfl
  have D26 : FDef K mg "_law_next" s_law_next ["_law_world", "_law_side"] := ⟨_, _, F26, b26, PySem.W.mg_of X G a26⟩
  have F27 := fun_mk (st := s_law_tick) l27 c27 k27
  have b27 := F27.binds (ps := ["_law_world"]) fun _ _ _ _ _ _ us hl => match us, hl with | [_], _ => rfl
  have D27 : FDef K mg "_law_tick" s_law_tick ["_law_world"] := ⟨_, _, F27, b27, PySem.W.mg_of X G a27⟩
  have F28 := fun_mk (st := s_law_press) l28 c28 k28
  have b28 := F28.binds (ps := ["_law_world"]) fun _ _ _ _ _ _ us hl => match us, hl with | [_], _ => rfl
  have D28 : FDef K mg "_law_press" s_law_press ["_law_world"] := ⟨_, _, F28, b28, PySem.W.mg_of X G a28⟩
  have F29 := fun_mk (st := s_law_due) l29 c29 k29
  have b29 := F29.binds (ps := ["_law_world", "_law_word", "_law_number"]) fun _ _ _ _ _ _ us hl => match us, hl with | [_, _, _], _ => rfl
  have D29 : FDef K mg "_law_due" s_law_due ["_law_world", "_law_word", "_law_number"] := ⟨_, _, F29, b29, PySem.W.mg_of X G a29⟩
  have F30 := fun_mk (st := s_law_state) l30 c30 k30
  have b30 := F30.binds (ps := ["_law_world"]) fun _ _ _ _ _ _ us hl => match us, hl with | [_], _ => rfl
  have D30 : FDef K mg "_law_state" s_law_state ["_law_world"] := ⟨_, _, F30, b30, PySem.W.mg_of X G a30⟩
  have F31 := fun_mk (st := s_law_told) l31 c31 k31
  have b31 := F31.binds (ps := ["_law_clock", "_law_word", "_law_number"]) fun _ _ _ _ _ _ us hl => match us, hl with | [_, _, _], _ => rfl
  have D31 : FDef K mg "_law_told" s_law_told ["_law_clock", "_law_word", "_law_number"] := ⟨_, _, F31, b31, PySem.W.mg_of X G a31⟩
  have F32 := fun_mk (st := s_law_shown) l32 c32 k32
  have b32 := F32.binds (ps := ["_law_clock"]) fun _ _ _ _ _ _ us hl => match us, hl with | [_], _ => rfl
  have D32 : FDef K mg "_law_shown" s_law_shown ["_law_clock"] := ⟨_, _, F32, b32, PySem.W.mg_of X G a32⟩
  have F33 := fun_mk (st := s_law_same) l33 c33 k33
  have b33 := F33.binds (ps := ["_law_one", "_law_other"]) fun _ _ _ _ _ _ us hl => match us, hl with | [_, _], _ => rfl
  have D33 : FDef K mg "_law_same" s_law_same ["_law_one", "_law_other"] := ⟨_, _, F33, b33, PySem.W.mg_of X G a33⟩
  have F34 := fun_mk (st := s_law) l34 c34 k34
  refine ⟨PySem.W.fnOf "law" "law" (defArgs s_law) (defBody s_law) (defScope s_law) .none kV34 dc34 pm34 an34 cd34 ct34, fun s v => .of_eq rfl, fun base _ _ => ?_⟩
  have c_Side_stage := ok_stage (P := l.prog) (w := w) (base := base) T D3
  have c_Side_is_over := ok_isOver (P := l.prog) (w := w) (base := base) T c_Side_stage D4
  have c_Side_free := ok_free (P := l.prog) (w := w) (base := base) T c_Side_stage c_Side_is_over D5
  have c_Side_until := ok_until (P := l.prog) (w := w) (base := base) T c_Side_free D6
  have c_Side_pass_by := ok_passBy (P := l.prog) (w := w) (base := base) T c_Side_free D7
  have c_Side_begin := ok_begin (P := l.prog) (w := w) (base := base) T c_Side_stage c_Side_is_over D2
  have c_Side_falls := ok_falls (P := l.prog) (w := w) (base := base) T c_Side_stage c_Side_is_over c_Side_begin D8
  have c_Side_press := ok_pressS (P := l.prog) (w := w) (base := base) T c_Side_stage c_Side_is_over c_Side_begin D9
  have c_mkSide := ok_initS (P := l.prog) (w := w) (base := base) T c_Side_begin D1
  have c_Clock_look := ok_look (P := l.prog) (w := w) (base := base) T D13
  have c_Clock_start := ok_start (P := l.prog) (w := w) (base := base) T c_Clock_look D14
  have c_Clock_stop := ok_stop (P := l.prog) (w := w) (base := base) T c_Clock_look D15
  have c_Clock_state := ok_state (P := l.prog) (w := w) (base := base) T D19
  have c_Clock_game := ok_game (P := l.prog) (w := w) (base := base) T D20
  have c_Clock_press := ok_press (P := l.prog) (w := w) (base := base) T c_Clock_look c_Side_press D17
  have c_Clock_give := ok_give (P := l.prog) (w := w) (base := base) T c_Clock_look D18
  have c_Clock_go := ok_go (P := l.prog) (w := w) (base := base) T c_Clock_look c_Side_until c_Side_pass_by c_Side_falls D16
  have c_look_main := ok_lookMain (P := l.prog) (w := w) (base := base) T D10
  have c_look_stages := ok_lookStages (P := l.prog) (w := w) (base := base) T c_look_main D11
  have c_mkClock := ok_initC (P := l.prog) (w := w) (base := base) T c_look_stages c_mkSide D12
  have c__law_cell := ok_cell (P := l.prog) (w := w) (base := base) T D21
  have c__law_mix := ok_mix (P := l.prog) (w := w) (base := base) T c__law_cell D22
  have c__law_stages := ok_stages (P := l.prog) (w := w) (base := base) T c__law_mix D23
  have c__law_deeds := ok_deeds (P := l.prog) (w := w) (base := base) T c__law_mix D24
  have c__law_shown := ok_shown (P := l.prog) (w := w) (base := base) T c_Clock_state c_Clock_game D32
  have c__law_told := ok_told (P := l.prog) (w := w) (base := base) T c_Clock_go c_Clock_press c_Clock_start c_Clock_stop c_Clock_give D31
  have c__law_new := ok_new (P := l.prog) (w := w) (base := base) T D25
  have c__law_next := ok_next (P := l.prog) (w := w) (base := base) T D26
  have c__law_tick := ok_tick (P := l.prog) (w := w) (base := base) T c__law_next D27
  have c__law_press := ok_pressW (P := l.prog) (w := w) (base := base) T c__law_next D28
  have c__law_state := ok_stateW (P := l.prog) (w := w) (base := base) T D30
  have c__law_same := ok_sameW (P := l.prog) (w := w) (base := base) T D33
  have c__law_due := ok_due (P := l.prog) (w := w) (base := base) T c__law_tick c__law_press D29
  exact ok_law (P := l.prog) (w := w) (base := base) T c__law_told c__law_shown c__law_new c__law_due c__law_state c__law_same c__law_stages c__law_deeds c__law_mix c_mkClock F34
theorem walk {l : PySem.W.OpenLaw} {q : Program} {loose : List Str} {XP : (Str → Option Value) → Heap → Prop} {YP : World → Heap → Prop} {d : DefRec} {K : Params → PySem.W.Frag} (hn : l.most = some 63) (hdf : d.params.defaults = [])
    (hY : ∀ (w : World) (h : Heap), YP w h → (K w.params).In h)
    (F : ∀ (w : World) (mg : Str → Option Value) (fa : Addr) (h : Heap), (K w.params).In h → h.Ns mainGlobals mg → mg d.name = some (.ref fa) →
      ∃ fd : FuncData, (∀ (s : Shared) (u : Value), BindsTo s fd ⟨[u], []⟩ [("_law_script", u)]) ∧ ∀ base : Heap, (K w.params).In base → base.Ns mainGlobals mg → FnOk l.prog w (K w.params) mg base CX0 8 fa fd ["_law_script"] (spLaw (K w.params))) :
    PySem.W.WalkO q loose XP YP l.row.toRowW d [] (fun f vs => PySem.call f vs) :=
  L2.walk_of (n := 63) (k := 8) (x := "_law_script") (CX := fun _ => CX0) (sp := fun w => spLaw (K w.params)) hn (by decide) hdf ⟨rfl, by decide, by decide⟩ hY F (fun _ H a ns hl _ hS => spLaw_of hl hS) fun _ _ _ _ _ z => z
end Ck
open PySem PySem.W PyProof.Rows
set_option maxRecDepth 100000 in
set_option maxHeartbeats 0 in
theorem PySem.Challenge.cw_chessclock_k10_whole_clock_holds : PySem.Challenge.rw_chessclock_k10_whole_clock.Holds := by
  w_on; o_law; k_head; (case hw => w_witness2)
  k_fill
  refine Ck.walk (l := PySem.Challenge.rw_chessclock_k10_whole_clock) rfl rfl (fun w h Y => PySem.W.kIn_of Y) ?F
  case F =>
    intro w mg fa h KX G hmg
    refine' Ck.all_mk KX G hmg ?aCS ?aCC ?acE ?acB ?acT ?acN ?acO ?a1 ?i1 ?l1 ?c1 ?k1 ?a2 ?i2 ?l2 ?c2 ?k2 ?a3 ?i3 ?l3 ?c3 ?k3 ?a4 ?i4 ?l4 ?c4 ?k4 ?a5 ?i5 ?l5 ?c5 ?k5 ?a6 ?i6 ?l6 ?c6 ?k6 ?a7 ?i7 ?l7 ?c7 ?k7 ?a8 ?i8 ?l8 ?c8 ?k8 ?a9 ?i9 ?l9 ?c9 ?k9 ?a10 ?l10 ?c10 ?k10 ?a11 ?l11 ?c11 ?k11 ?a12 ?i12 ?l12 ?c12 ?k12 ?a13 ?i13 ?l13 ?c13 ?k13 ?a14 ?i14 ?l14 ?c14 ?k14 ?a15 ?i15 ?l15 ?c15 ?k15 ?a16 ?i16 ?l16 ?c16 ?k16 ?a17 ?i17 ?l17 ?c17 ?k17 ?a18 ?i18 ?l18 ?c18 ?k18 ?a19 ?i19 ?l19 ?c19 ?k19 ?a20 ?i20 ?l20 ?c20 ?k20 ?a21 ?l21 ?c21 ?k21 ?a22 ?l22 ?c22 ?k22 ?a23 ?l23 ?c23 ?k23 ?a24 ?l24 ?c24 ?k24 ?a25 ?l25 ?c25 ?k25 ?a26 ?l26 ?c26 ?k26 ?a27 ?l27 ?c27 ?k27 ?a28 ?l28 ?c28 ?k28 ?a29 ?l29 ?c29 ?k29 ?a30 ?l30 ?c30 ?k30 ?a31 ?l31 ?c31 ?k31 ?a32 ?l32 ?c32 ?k32 ?a33 ?l33 ?c33 ?k33 ?a34 ?l34 ?c34 ?k34 ?pgCS ?hdCS ?poCS ?saCS ?mkCS ?kcCS ?nS1 ?nS2 ?nS3 ?nS4 ?nS5 ?nS6 ?nS7 ?pgCC ?hdCC ?poCC ?saCC ?mkCC ?kcCC ?nC1 ?nC2 ?nC3 ?nC4 ?nC5 ?hn ?ht ?xxB ?xkB ?xsB ?xtB ?xgB ?xjB ?xdB ?xaB ?xmB ?hB ?iBB ?iBT ?iBN ?iBO ?iBV ?xxT ?xkT ?xsT ?xtT ?xgT ?xjT ?xdT ?xaT ?xmT ?hT ?iTB ?iTT ?iTN ?iTO ?iTV ?xxN ?xkN ?xsN ?xtN ?xgN ?xjN ?xdN ?xaN ?xmN ?hN ?iNB ?iNT ?iNN ?iNO ?iNV ?xxO ?xkO ?xsO ?xtO ?xgO ?xjO ?xdO ?xaO ?xmO ?hO ?iOB ?iOT ?iON ?iOO ?iOV ?aMOST_TICKS ?rMOST_TICKS ?aMOST_STAGES ?rMOST_STAGES ?aMOST_MOVES ?rMOST_MOVES ?aaW ?lW ?zW ?vW ?nb_len ?nb_max ?nb_min ?nb_list ?nb_range ?nb_isinstance ?nb_bool ?nb_tuple ?nb_ValueError ?nb_int ?nb_str ?nb_all
    (case aCS => k_is)
    (case aCC => k_is)
    (case acE => k_is)
    (case acB => k_is)
    (case acT => k_is)
    (case acN => k_is)
    (case acO => k_is)
    (case a1 => k_is)
    (case i1 => k_is)
    (case l1 => k_is)
    (case c1 => k_is)
    (case k1 => k_is)
    (case a2 => k_is)
    (case i2 => k_is)
    (case l2 => k_is)
    (case c2 => k_is)
    (case k2 => k_is)
    (case a3 => k_is)
    (case i3 => k_is)
    (case l3 => k_is)
    (case c3 => k_is)
    (case k3 => k_is)
    (case a4 => k_is)
    (case i4 => k_is)
    (case l4 => k_is)
    (case c4 => k_is)
    (case k4 => k_is)
    (case a5 => k_is)
    (case i5 => k_is)
    (case l5 => k_is)
    (case c5 => k_is)
    (case k5 => k_is)
    (case a6 => k_is)
    (case i6 => k_is)
    (case l6 => k_is)
    (case c6 => k_is)
    (case k6 => k_is)
    (case a7 => k_is)
    (case i7 => k_is)
    (case l7 => k_is)
    (case c7 => k_is)
    (case k7 => k_is)
    (case a8 => k_is)
    (case i8 => k_is)
    (case l8 => k_is)
    (case c8 => k_is)
    (case k8 => k_is)
    (case a9 => k_is)
    (case i9 => k_is)
    (case l9 => k_is)
    (case c9 => k_is)
    (case k9 => k_is)
    (case a10 => k_is)
    (case l10 => k_is)
    (case c10 => k_is)
    (case k10 => k_is)
    (case a11 => k_is)
    (case l11 => k_is)
    (case c11 => k_is)
    (case k11 => k_is)
    (case a12 => k_is)
    (case i12 => k_is)
    (case l12 => k_is)
    (case c12 => k_is)
    (case k12 => k_is)
    (case a13 => k_is)
    (case i13 => k_is)
    (case l13 => k_is)
    (case c13 => k_is)
    (case k13 => k_is)
    (case a14 => k_is)
    (case i14 => k_is)
    (case l14 => k_is)
    (case c14 => k_is)
    (case k14 => k_is)
    (case a15 => k_is)
    (case i15 => k_is)
    (case l15 => k_is)
    (case c15 => k_is)
    (case k15 => k_is)
    (case a16 => k_is)
    (case i16 => k_is)
    (case l16 => k_is)
    (case c16 => k_is)
    (case k16 => k_is)
    (case a17 => k_is)
    (case i17 => k_is)
    (case l17 => k_is)
    (case c17 => k_is)
    (case k17 => k_is)
    (case a18 => k_is)
    (case i18 => k_is)
    (case l18 => k_is)
    (case c18 => k_is)
    (case k18 => k_is)
    (case a19 => k_is)
    (case i19 => k_is)
    (case l19 => k_is)
    (case c19 => k_is)
    (case k19 => k_is)
    (case a20 => k_is)
    (case i20 => k_is)
    (case l20 => k_is)
    (case c20 => k_is)
    (case k20 => k_is)
    (case a21 => k_is)
    (case l21 => k_is)
    (case c21 => k_is)
    (case k21 => k_is)
    (case a22 => k_is)
    (case l22 => k_is)
    (case c22 => k_is)
    (case k22 => k_is)
    (case a23 => k_is)
    (case l23 => k_is)
    (case c23 => k_is)
    (case k23 => k_is)
    (case a24 => k_is)
    (case l24 => k_is)
    (case c24 => k_is)
    (case k24 => k_is)
    (case a25 => k_is)
    (case l25 => k_is)
    (case c25 => k_is)
    (case k25 => k_is)
    (case a26 => k_is)
    (case l26 => k_is)
    (case c26 => k_is)
    (case k26 => k_is)
    (case a27 => k_is)
    (case l27 => k_is)
    (case c27 => k_is)
    (case k27 => k_is)
    (case a28 => k_is)
    (case l28 => k_is)
    (case c28 => k_is)
    (case k28 => k_is)
    (case a29 => k_is)
    (case l29 => k_is)
    (case c29 => k_is)
    (case k29 => k_is)
    (case a30 => k_is)
    (case l30 => k_is)
    (case c30 => k_is)
    (case k30 => k_is)
    (case a31 => k_is)
    (case l31 => k_is)
    (case c31 => k_is)
    (case k31 => k_is)
    (case a32 => k_is)
    (case l32 => k_is)
    (case c32 => k_is)
    (case k32 => k_is)
    (case a33 => k_is)
    (case l33 => k_is)
    (case c33 => k_is)
    (case k33 => k_is)
    (case a34 => k_is)
    (case l34 => k_is)
    (case c34 => k_is)
    (case k34 => k_is)
    (case pgCS => k_is)
    (case hdCS => k_is)
    (case poCS => k_is)
    (case saCS => k_is)
    (case mkCS => k_is)
    (case kcCS => k_is)
    (case nS1 => k_is)
    (case nS2 => k_is)
    (case nS3 => k_is)
    (case nS4 => k_is)
    (case nS5 => k_is)
    (case nS6 => k_is)
    (case nS7 => k_is)
    (case pgCC => k_is)
    (case hdCC => k_is)
    (case poCC => k_is)
    (case saCC => k_is)
    (case mkCC => k_is)
    (case kcCC => k_is)
    (case nC1 => k_is)
    (case nC2 => k_is)
    (case nC3 => k_is)
    (case nC4 => k_is)
    (case nC5 => k_is)
    (case hn => k_is)
    (case ht => k_is)
    (case xxB => k_exc)
    (case xkB => k_is)
    (case xsB => k_is)
    (case xtB => k_is)
    (case xgB => k_is)
    (case xjB => k_is)
    (case xdB => k_is)
    (case xaB => k_is)
    (case xmB => k_is)
    (case hB => rfl)
    (case iBB => first | rfl | k_is)
    (case iBT => first | rfl | k_is)
    (case iBN => first | rfl | k_is)
    (case iBO => first | rfl | k_is)
    (case iBV => rfl)
    (case xxT => k_exc)
    (case xkT => k_is)
    (case xsT => k_is)
    (case xtT => k_is)
    (case xgT => k_is)
    (case xjT => k_is)
    (case xdT => k_is)
    (case xaT => k_is)
    (case xmT => k_is)
    (case hT => rfl)
    (case iTB => first | rfl | k_is)
    (case iTT => first | rfl | k_is)
    (case iTN => first | rfl | k_is)
    (case iTO => first | rfl | k_is)
    (case iTV => rfl)
    (case xxN => k_exc)
    (case xkN => k_is)
    (case xsN => k_is)
    (case xtN => k_is)
    (case xgN => k_is)
    (case xjN => k_is)
    (case xdN => k_is)
    (case xaN => k_is)
    (case xmN => k_is)
    (case hN => rfl)
    (case iNB => first | rfl | k_is)
    (case iNT => first | rfl | k_is)
    (case iNN => first | rfl | k_is)
    (case iNO => first | rfl | k_is)
    (case iNV => rfl)
    (case xxO => k_exc)
    (case xkO => k_is)
    (case xsO => k_is)
    (case xtO => k_is)
    (case xgO => k_is)
    (case xjO => k_is)
    (case xdO => k_is)
    (case xaO => k_is)
    (case xmO => k_is)
    (case hO => rfl)
    (case iOB => first | rfl | k_is)
    (case iOT => first | rfl | k_is)
    (case iON => first | rfl | k_is)
    (case iOO => first | rfl | k_is)
    (case iOV => rfl)
    (case aMOST_TICKS => k_is)
    (case rMOST_TICKS => exact ⟨_, rfl⟩)
    (case aMOST_STAGES => k_is)
    (case rMOST_STAGES => exact ⟨_, rfl⟩)
    (case aMOST_MOVES => k_is)
    (case rMOST_MOVES => exact ⟨_, rfl⟩)
    (case aaW => k_is)
    (case lW => k_is)
    (case zW => show (4 : Nat) ≤ sizeLine; decide)
    (case vW => exact .cons ⟨_, rfl⟩ (.cons ⟨_, rfl⟩ (.cons ⟨_, rfl⟩ (.cons ⟨_, rfl⟩ .nil))))
    (case nb_len => k_is)
    (case nb_max => k_is)
    (case nb_min => k_is)
    (case nb_list => k_is)
    (case nb_range => k_is)
    (case nb_isinstance => k_is)
    (case nb_bool => k_is)
    (case nb_tuple => k_is)
    (case nb_ValueError => k_is)
    (case nb_int => k_is)
    (case nb_str => k_is)
    (case nb_all => k_is)
