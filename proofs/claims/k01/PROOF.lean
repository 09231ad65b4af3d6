import PyProof.Rows.All
import Wide.All
import OpenK.AllK
import Wide.FinOn
import HandS.ForMost
import HandS.ForExc
import HandS.IsInst
import HandS.ExcIs
import HandS.ExcValue
import HandS.Codes
import HandS.Flow
import HandS.Style
import PySem.Challenge.RW_chessclock_k01_bad_stages
set_option Elab.async false
set_option linter.all false
set_option maxRecDepth 100000
set_option maxHeartbeats 4000000
namespace Ck
open PySem L2
open PyProof.Rows (envOfC)
def top (i : Nat) : Stmt := PySem.Challenge.pw_chessclock_k01_bad_stages.main.body.getD i (.Pass ⟨0, 0, 0, 0⟩)
abbrev s_wall : Stmt := top 0
abbrev s_Side___init : Stmt := inClass (top 8) 0
abbrev s_Side_begin : Stmt := inClass (top 8) 1
abbrev s_Side_stage : Stmt := inClass (top 8) 2
abbrev s_Side_is_over : Stmt := inClass (top 8) 3
abbrev s_Side_free : Stmt := inClass (top 8) 4
abbrev s_Side_until : Stmt := inClass (top 8) 5
abbrev s_Side_pass_by : Stmt := inClass (top 8) 6
abbrev s_Side_falls : Stmt := inClass (top 8) 7
abbrev s_Side_press : Stmt := inClass (top 8) 8
abbrev s_look_main : Stmt := top 14
abbrev s_look_stages : Stmt := top 15
abbrev s_Clock___init : Stmt := inClass (top 17) 0
abbrev s_Clock_look : Stmt := inClass (top 17) 1
abbrev s_Clock_start : Stmt := inClass (top 17) 2
abbrev s_Clock_stop : Stmt := inClass (top 17) 3
abbrev s_Clock_go : Stmt := inClass (top 17) 4
abbrev s_Clock_press : Stmt := inClass (top 17) 5
abbrev s_Clock_give : Stmt := inClass (top 17) 6
abbrev s_Clock_state : Stmt := inClass (top 17) 7
abbrev s_Clock_game : Stmt := inClass (top 17) 8
abbrev s_law_cell : Stmt := top 19
abbrev s_law_mix : Stmt := top 20
abbrev s_law_stages : Stmt := top 21
abbrev s_law_deeds : Stmt := top 22
abbrev s_law_main : Stmt := top 23
abbrev s_law_good : Stmt := top 24
abbrev s_law : Stmt := top 25
theorem sc_wall : FnScope ["k"] ["k"] (defScope s_wall) := ⟨rfl, rfl, rfl, by decide +kernel, rfl, by decide +kernel, by decide +kernel⟩
theorem sc_Side___init : FnScope ["self", "stages"] ["self", "stages"] (defScope s_Side___init) := ⟨rfl, rfl, rfl, by decide +kernel, rfl, by decide +kernel, by decide +kernel⟩
theorem sc_Side_begin : FnScope ["self", "at"] ["self", "at"] (defScope s_Side_begin) := ⟨rfl, rfl, rfl, by decide +kernel, rfl, by decide +kernel, by decide +kernel⟩
theorem sc_Side_stage : FnScope ["self"] ["self"] (defScope s_Side_stage) := ⟨rfl, rfl, rfl, by decide +kernel, rfl, by decide +kernel, by decide +kernel⟩
theorem sc_Side_is_over : FnScope ["self"] ["self"] (defScope s_Side_is_over) := ⟨rfl, rfl, rfl, by decide +kernel, rfl, by decide +kernel, by decide +kernel⟩
theorem sc_Side_free : FnScope ["self"] ["self"] (defScope s_Side_free) := ⟨rfl, rfl, rfl, by decide +kernel, rfl, by decide +kernel, by decide +kernel⟩
theorem sc_Side_until : FnScope ["self"] ["self"] (defScope s_Side_until) := ⟨rfl, rfl, rfl, by decide +kernel, rfl, by decide +kernel, by decide +kernel⟩
theorem sc_Side_pass_by : FnScope ["self", "ticks", "counted"] ["self", "ticks"] (defScope s_Side_pass_by) := ⟨rfl, rfl, rfl, by decide +kernel, rfl, by decide +kernel, by decide +kernel⟩
theorem sc_Side_falls : FnScope ["self"] ["self"] (defScope s_Side_falls) := ⟨rfl, rfl, rfl, by decide +kernel, rfl, by decide +kernel, by decide +kernel⟩
theorem sc_Side_press : FnScope ["self"] ["self"] (defScope s_Side_press) := ⟨rfl, rfl, rfl, by decide +kernel, rfl, by decide +kernel, by decide +kernel⟩
theorem sc_look_main : FnScope ["stage", "is_last", "word", "moves", "ticks", "way", "extra"] ["stage", "is_last"] (defScope s_look_main) := ⟨rfl, rfl, rfl, by decide +kernel, rfl, by decide +kernel, by decide +kernel⟩
theorem sc_look_stages : FnScope ["stages", "k", "stage", "is_last"] ["stages"] (defScope s_look_stages) := ⟨rfl, rfl, rfl, by decide +kernel, rfl, by decide +kernel, by decide +kernel⟩
theorem sc_Clock___init : FnScope ["self", "stages"] ["self", "stages"] (defScope s_Clock___init) := ⟨rfl, rfl, rfl, by decide +kernel, rfl, by decide +kernel, by decide +kernel⟩
theorem sc_Clock_look : FnScope ["self"] ["self"] (defScope s_Clock_look) := ⟨rfl, rfl, rfl, by decide +kernel, rfl, by decide +kernel, by decide +kernel⟩
theorem sc_Clock_start : FnScope ["self"] ["self"] (defScope s_Clock_start) := ⟨rfl, rfl, rfl, by decide +kernel, rfl, by decide +kernel, by decide +kernel⟩
theorem sc_Clock_stop : FnScope ["self"] ["self"] (defScope s_Clock_stop) := ⟨rfl, rfl, rfl, by decide +kernel, rfl, by decide +kernel, by decide +kernel⟩
theorem sc_Clock_go : FnScope ["self", "ticks", "left", "side", "many"] ["self", "ticks"] (defScope s_Clock_go) := ⟨rfl, rfl, rfl, by decide +kernel, rfl, by decide +kernel, by decide +kernel⟩
theorem sc_Clock_press : FnScope ["self", "who"] ["self", "who"] (defScope s_Clock_press) := ⟨rfl, rfl, rfl, by decide +kernel, rfl, by decide +kernel, by decide +kernel⟩
theorem sc_Clock_give : FnScope ["self", "who", "ticks", "side"] ["self", "who", "ticks"] (defScope s_Clock_give) := ⟨rfl, rfl, rfl, by decide +kernel, rfl, by decide +kernel, by decide +kernel⟩
theorem sc_Clock_state : FnScope ["self", "who"] ["self", "who"] (defScope s_Clock_state) := ⟨rfl, rfl, rfl, by decide +kernel, rfl, by decide +kernel, by decide +kernel⟩
theorem sc_Clock_game : FnScope ["self"] ["self"] (defScope s_Clock_game) := ⟨rfl, rfl, rfl, by decide +kernel, rfl, by decide +kernel, by decide +kernel⟩
theorem sc_law_cell : FnScope ["_law_script", "_law_k"] ["_law_script", "_law_k"] (defScope s_law_cell) := ⟨rfl, rfl, rfl, by decide +kernel, rfl, by decide +kernel, by decide +kernel⟩
theorem sc_law_mix : FnScope ["_law_script", "_law_k", "_law_number"] ["_law_script", "_law_k"] (defScope s_law_mix) := ⟨rfl, rfl, rfl, by decide +kernel, rfl, by decide +kernel, by decide +kernel⟩
theorem sc_law_stages : FnScope ["_law_script", "_law_k", "_law_found", "_law_j", "_law_number", "_law_way"] ["_law_script", "_law_k"] (defScope s_law_stages) := ⟨rfl, rfl, rfl, by decide +kernel, rfl, by decide +kernel, by decide +kernel⟩
theorem sc_law_deeds : FnScope ["_law_script", "_law_k", "_law_many", "_law_found", "_law_turn", "_law_j", "_law_number", "_law_way"] ["_law_script", "_law_k", "_law_many"] (defScope s_law_deeds) := ⟨rfl, rfl, rfl, by decide +kernel, rfl, by decide +kernel, by decide +kernel⟩
theorem sc_law_main : FnScope ["_law_stage", "_law_last", "_law_moves"] ["_law_stage", "_law_last"] (defScope s_law_main) := ⟨rfl, rfl, rfl, by decide +kernel, rfl, by decide +kernel, by decide +kernel⟩
theorem sc_law_good : FnScope ["_law_stages_here", "_law_k", "_law_stage", "_law_last"] ["_law_stages_here"] (defScope s_law_good) := ⟨rfl, rfl, rfl, by decide +kernel, rfl, by decide +kernel, by decide +kernel⟩
theorem sc_law : FnScope ["_law_script", "_law_stages_here", "_law_number", "_law_at", "_law_part", "_law_spot", "_law_some", "_law_worth", "_law_more", "_law_handed", "_law_kept", "e", "_law_good_here"] ["_law_script"] (defScope s_law) := ⟨rfl, rfl, rfl, by decide +kernel, rfl, by decide +kernel, by decide +kernel⟩

/-! ### what the top has written -/
/-- an exception class of the text -/
structure ExcT (K : PySem.W.Frag) (C : Addr) : Prop where
  x : PySem.W.excIn K C [.type "ValueError", .type "Exception", .type "BaseException", .type "object"] "ValueError.__new__" = true
  k : PySem.W.keepIn K (.ref C) = true
  s : PySem.W.subIn K (.ref C) (.type "BaseException") = some true
  t : PySem.W.typeIn K (.ref C) = some (.type "type")
  i : ExcC K C
structure Txt (K : PySem.W.Frag) (mg : Str → Option Value) (CS CC cE cB cT cN cO aW : Addr) : Prop where
  clS : Cls K CS
  clC : Cls K CC
  nS1 : NoAttr K CS "stages"
  nS2 : NoAttr K CS "at"
  nS3 : NoAttr K CS "ticks"
  nS4 : NoAttr K CS "periods"
  nS5 : NoAttr K CS "moved"
  nS6 : NoAttr K CS "made"
  nS7 : NoAttr K CS "used"
  nC1 : NoAttr K CC "both"
  nC2 : NoAttr K CC "turn"
  nC3 : NoAttr K CC "runs"
  nC4 : NoAttr K CC "fallen"
  nC5 : NoAttr K CC "total"
  eB : ExcT K cB
  eT : ExcT K cT
  eN : ExcT K cN
  eO : ExcT K cO
  g_ClockError : mg "ClockError" = some (.ref cE)
  g_BadStages : mg "BadStages" = some (.ref cB)
  g_BadTicks : mg "BadTicks" = some (.ref cT)
  g_NotNow : mg "NotNow" = some (.ref cN)
  g_Over : mg "Over" = some (.ref cO)
  hB : PySem.W.exmOne K (.ref cB) (.ref cE) = some true
  hT : PySem.W.exmOne K (.ref cT) (.ref cE) = some true
  hN : PySem.W.exmOne K (.ref cN) (.ref cE) = some true
  hO : PySem.W.exmOne K (.ref cO) (.ref cE) = some true
  g_MOST_TICKS : ∃ u, mg "MOST_TICKS" = some u ∧ RelV (.int 1000000) u
  g_MOST_STAGES : ∃ u, mg "MOST_STAGES" = some u ∧ RelV (.int 5) u
  g_MOST_MOVES : ∃ u, mg "MOST_MOVES" = some u ∧ RelV (.int 200) u
  g_WAYS : mg "WAYS" = some (.ref aW)
  w_WAYS : ∀ H, SqT K H aW [.str "plain", .str "add", .str "back", .str "wait"]
  b_len : mg "len" = none
  b_max : mg "max" = none
  b_min : mg "min" = none
  b_list : mg "list" = none
  b_range : mg "range" = none
  b_isinstance : mg "isinstance" = none
  b_bool : mg "bool" = none
  b_tuple : mg "tuple" = none
  b_ValueError : mg "ValueError" = none
  b_int : mg "int" = none
  b_str : mg "str" = none
  b_all : mg "all" = none
  iTT : PySem.W.kitOne K (.ref cT) (.ref cT) = some true
  iTN : PySem.W.kitOne K (.ref cT) (.ref cN) = some false
  iTO : PySem.W.kitOne K (.ref cT) (.ref cO) = some false
  iTB : PySem.W.kitOne K (.ref cT) (.ref cB) = some false
  iTV : PySem.W.kitOne K (.ref cT) (.type "ValueError") = some true
  iNT : PySem.W.kitOne K (.ref cN) (.ref cT) = some false
  iNN : PySem.W.kitOne K (.ref cN) (.ref cN) = some true
  iNO : PySem.W.kitOne K (.ref cN) (.ref cO) = some false
  iNB : PySem.W.kitOne K (.ref cN) (.ref cB) = some false
  iNV : PySem.W.kitOne K (.ref cN) (.type "ValueError") = some true
  iOT : PySem.W.kitOne K (.ref cO) (.ref cT) = some false
  iON : PySem.W.kitOne K (.ref cO) (.ref cN) = some false
  iOO : PySem.W.kitOne K (.ref cO) (.ref cO) = some true
  iOB : PySem.W.kitOne K (.ref cO) (.ref cB) = some false
  iOV : PySem.W.kitOne K (.ref cO) (.type "ValueError") = some true
  iBT : PySem.W.kitOne K (.ref cB) (.ref cT) = some false
  iBN : PySem.W.kitOne K (.ref cB) (.ref cN) = some false
  iBO : PySem.W.kitOne K (.ref cB) (.ref cO) = some false
  iBB : PySem.W.kitOne K (.ref cB) (.ref cB) = some true
  iBV : PySem.W.kitOne K (.ref cB) (.type "ValueError") = some true

/-! ### defs, methods, makings, packed -/
section
variable (P : Program) (w : World) (K : PySem.W.Frag) (mg : Str → Option Value) (base : Heap)
structure CalX (E : CXT) (k : Nat) (x : Str) (sp : Sp) : Prop where
  ex : ∃ (f : Addr) (fd : FuncData) (ps : List Str), FnOk P w K mg base E k f fd ps sp ∧ mg x = some (.ref f) ∧ PySem.W.keepIn K (.ref f) = true ∧ Binds K fd ps []
structure MetX (E : CXT) (k : Nat) (C : Addr) (m : Str) (sp : Sp) : Prop where
  ex : ∃ (f : Addr) (fd : FuncData) (ps : List Str), Cls K C ∧ Meth K C m f ∧ FnOk P w K mg base E k f fd ps sp ∧ Binds K fd ps []
structure MakX (E : CXT) (k : Nat) (x : Str) (C : Addr) (sp : Sp) : Prop where
  ex : ∃ (f : Addr) (fd : FuncData) (ps : List Str), Mk K C f ∧ FnOk P w K mg base E k f fd ps sp ∧ mg x = some (.ref C) ∧ Binds K fd ps []
end
section
variable {X : Cx} {CX : CXT} {k j : Nat} {C : Addr} {x m : Str} {sp : Sp} {E : XK} {W : St → XK} {p pos apos : Pos} {e o : Expr} {es : List Expr} {ta : TE} {t : TA}
theorem pe_cX (c : CalX X.prog X.w X.K X.mg X.base CX k x sp) (hr : Room j X.A) (hk : k ≤ j) (hg : Gl X x) (hx : Passes CX X E) (ha : PA X (e :: es) t)
    (hdb : (x == ("__debug__" : Str)) = false := by decide) (he : starEach (e :: es) X.env = (false, eval e X.env) :: starEach es X.env := by rfl)
    (hpl : (backTo pos (starEach es X.env)).any (·.1) = false := by rfl) : PE X (.Call (.Name x p) (e :: es) [] pos) (tCall sp [] E t) := by
  obtain ⟨f, fd, ps, F, hm, kp, b⟩ := c.ex
  exact pe_call F (hr.mono hk) hg hm kp b .nil hx ha hdb he hpl
theorem pe_mkX (c : MakX X.prog X.w X.K X.mg X.base CX k x C sp) (hr : Room j X.A) (hk : k + 1 ≤ j) (hg : Gl X x) (hx : Passes CX X E) (ha : PA X (e :: es) t)
    (hdb : (x == ("__debug__" : Str)) = false := by decide) (he : starEach (e :: es) X.env = (false, eval e X.env) :: starEach es X.env := by rfl)
    (hpl : (backTo pos (starEach es X.env)).any (·.1) = false := by rfl) : PE X (.Call (.Name x p) (e :: es) [] pos) (tMake C sp [] E t) := by
  obtain ⟨f, fd, ps, M, F, hm, b⟩ := c.ex
  exact pe_make M F (hr.mono hk) hg hm b .nil hx ha hdb he hpl
theorem pe_mtX {pl : Sem Bool} (c : MetX X.prog X.w X.K X.mg X.base CX k C m sp) (hr : Room j X.A) (hk : k ≤ j) (hx : Passes CX X E) (he : PE X o ta) (ha : PA X (e :: es) t)
    (hst : starEach (e :: es) X.env = (false, eval e X.env) :: starEach es X.env := by rfl) (hpl : (backTo pos (starEach es X.env)).any (·.1) = false := by rfl)
    (ht : eval (.Call (.Attribute o m apos) (e :: es) [] pos) X.env = (do
      let ov ← eval o X.env
      standAt apos.atName
      let (g, fst) ← holding [ov] (getMethod ov m pl)
      callWith pos g fst (backTo pos (starEach (e :: es) X.env)) (backToKw pos (keywordEach [] X.env))) := by rfl) :
    PE X (.Call (.Attribute o m apos) (e :: es) [] pos) (tMeth C m sp [] E ta t) := by
  obtain ⟨f, fd, ps, hc, hm, F, b⟩ := c.ex
  exact pe_meth (pl := pl) he hc hm F (hr.mono hk) b .nil hx ha hst hpl ht
theorem pe_mtX0 {pl : Sem Bool} (c : MetX X.prog X.w X.K X.mg X.base CX k C m sp) (hr : Room j X.A) (hk : k ≤ j) (hx : Passes CX X E) (he : PE X o ta)
    (ht : eval (.Call (.Attribute o m apos) [] [] pos) X.env = (do
      let ov ← eval o X.env
      standAt apos.atName
      let (g, fst) ← holding [ov] (getMethod ov m pl)
      callWith pos g fst (backTo pos (starEach [] X.env)) (backToKw pos (keywordEach [] X.env))) := by rfl) :
    PE X (.Call (.Attribute o m apos) [] [] pos) (tMeth C m sp [] E ta tNil) := by
  obtain ⟨f, fd, ps, hc, hm, F, b⟩ := c.ex
  exact pe_meth0 (pl := pl) he hc hm F (hr.mono hk) b .nil hx ht
/-- a method whose error is wished for at the caller's slots -/
def kMeth (C : Addr) (m : Str) (sp : Sp) (E : XK) (t : TA) (σ : St) : V → Hp → VK → Prop := fun x H1 Q => ∃ a dx fs, x = .ref a ∧ H1 a = some (.ins C dx fs) ∧ fs.lookup m = none ∧ t σ H1 fun vs H2 => sp (x :: (vs ++ [])) H2 Q E
def tMethS (C : Addr) (m : Str) (sp : Sp) (W : St → XK) (ta : TE) (t : TA) : TE := fun σ H Q => ta σ H fun x H1 => kMeth C m sp (W σ) t σ x H1 Q
theorem pe_mtS {pl : Sem Bool} (c : MetX X.prog X.w X.K X.mg X.base CX k C m sp) (hr : Room j X.A) (hk : k ≤ j) (hx : ∀ σ, PassesAt CX X σ (W σ)) (he : PE X o ta) (ha : PA X (e :: es) t)
    (hst : starEach (e :: es) X.env = (false, eval e X.env) :: starEach es X.env := by rfl) (hpl : (backTo pos (starEach es X.env)).any (·.1) = false := by rfl)
    (ht : eval (.Call (.Attribute o m apos) (e :: es) [] pos) X.env = (do
      let ov ← eval o X.env
      standAt apos.atName
      let (g, fst) ← holding [ov] (getMethod ov m pl)
      callWith pos g fst (backTo pos (starEach (e :: es) X.env)) (backToKw pos (keywordEach [] X.env))) := by rfl) :
    PE X (.Call (.Attribute o m apos) (e :: es) [] pos) (tMethS C m sp W ta t) := by
  obtain ⟨f, fd, ps, hc, hm, F, b⟩ := c.ex
  refine ⟨fun pins s σ H Q I h => ?_⟩
  refine PySem.W.methodCall_KW (pl := pl) (thn (he.run pins s σ H _ I h) fun u s1 hh => ?_) ht
  obtain ⟨y, H1, I1, ry, a, dx, fs, ey, ea, l, q⟩ := hh
  subst ey
  obtain rfl : u = Value.ref a := ry
  refine getmeth_ok I1 ea hc hm l ?_
  refine PySem.W.callWith_K (first := [.ref a]) (h₀ := X.base) I.ok.mod.kin hm.kp (thn (ha.run pos pins s1 σ H1 _ I1 q) fun us s2 hh2 => ?_) hst hpl
  obtain ⟨vs, H2, I2, r, q2⟩ := hh2
  rw [List.append_nil] at q2
  exact ⟨I2.kIn, run_fnS (us := .ref a :: us) (vs := .ref a :: vs) (E := W) F (hr.mono hk) b (hx σ) I2 (.cons rfl r) q2⟩
theorem pe_mtS0 {pl : Sem Bool} (c : MetX X.prog X.w X.K X.mg X.base CX k C m sp) (hr : Room j X.A) (hk : k ≤ j) (hx : ∀ σ, PassesAt CX X σ (W σ)) (he : PE X o ta)
    (ht : eval (.Call (.Attribute o m apos) [] [] pos) X.env = (do
      let ov ← eval o X.env
      standAt apos.atName
      let (g, fst) ← holding [ov] (getMethod ov m pl)
      callWith pos g fst (backTo pos (starEach [] X.env)) (backToKw pos (keywordEach [] X.env))) := by rfl) :
    PE X (.Call (.Attribute o m apos) [] [] pos) (tMethS C m sp W ta tNil) := by
  obtain ⟨f, fd, ps, hc, hm, F, b⟩ := c.ex
  refine ⟨fun pins s σ H Q I h => ?_⟩
  refine PySem.W.methodCall_KW (pl := pl) (thn (he.run pins s σ H _ I h) fun u s1 hh => ?_) ht
  obtain ⟨y, H1, I1, ry, a, dx, fs, ey, ea, l, q⟩ := hh
  subst ey
  obtain rfl : u = Value.ref a := ry
  refine getmeth_ok I1 ea hc hm l ?_
  exact PySem.W.callWith_K0 (first := [.ref a]) I1.kIn hm.kp (run_fnS (us := [.ref a]) (vs := [.ref a]) (E := W) F (hr.mono hk) b (hx σ) I1 (.cons rfl .nil) q)
end

/-! ### a reading, step by step -/
section
variable {K : PySem.W.Frag} {σ : St} {H H' : Hp} {i j : Int} {n : Nat} {v x y z : V} {ta tb te tv tx : TE} {b : Bool} {a C dx p : Addr} {fs fs' : List (Str × V)} {f m : Str} {t u : TT} {xs ys : List V} {Q : VK} {QB : Bool → Hp → Prop} {QA : List V → Hp → Prop} {QS : St → Hp → Prop} {QH : Hp → Prop}
  {r r' : R2} {D : Ends} {t1 t2 : TS} {g : TG} {gs : TGs} {tA : TA} {sp : Sp} {E : XK}
theorem k_var (h : σ[n]? = some (some v)) (q : Q v H) : tVar n σ H Q := ⟨v, h, q⟩
theorem k_c (q : Q v H) : tC v σ H Q := q
theorem k_op (q : ta σ H fun x H1 => tb σ H1 fun y H2 => r x y H2 Q) : tOp r ta tb σ H Q := q
theorem k_un {r : V → Hp → VK → Prop} (q : ta σ H fun x H1 => r x H1 Q) : tUn r ta σ H Q := q
theorem k_I0 {g : Int → Int → V} (q : Q (g i j) H) : rI0 g (.int i) (.int j) H Q := ⟨i, j, rfl, rfl, q⟩
theorem k_I {c : Int → Int → Prop} {g : Int → Int → V} (hc : c i j) (q : Q (g i j) H) : rI c g (.int i) (.int j) H Q := ⟨i, j, rfl, rfl, hc, q⟩
theorem k_U {g : Int → V} (q : Q (g i) H) : rU g (.int i) H Q := ⟨i, rfl, q⟩
theorem decI (i j : Int) : decide (V.int i = V.int j) = decide (i = j) := by
  by_cases h : i = j
  · rw [decide_eq_true h, decide_eq_true (congrArg V.int h)]
  · rw [decide_eq_false h, decide_eq_false fun e => h (V.int.inj e)]
theorem decS (i j : Str) : decide (V.str i = V.str j) = decide (i = j) := by
  by_cases h : i = j
  · rw [decide_eq_true h, decide_eq_true (congrArg V.str h)]
  · rw [decide_eq_false h, decide_eq_false fun e => h (V.str.inj e)]
theorem decB (i j : Bool) : decide (V.bl i = V.bl j) = decide (i = j) := by cases i <;> cases j <;> rfl
theorem k_eqI (q : Q (.bl (decide (i = j))) H) : rEq (.int i) (.int j) H Q := ⟨rfl, by rw [decI]; exact q⟩
theorem k_eqS {i j : Str} (q : Q (.bl (decide (i = j))) H) : rEq (.str i) (.str j) H Q := ⟨rfl, by rw [decS]; exact q⟩
theorem k_eqB {i j : Bool} (q : Q (.bl (decide (i = j))) H) : rEq (.bl i) (.bl j) H Q := ⟨rfl, by rw [decB]; exact q⟩
theorem k_eq (h : scal x y = true) (q : Q (.bl (decide (x = y))) H) : rEq x y H Q := ⟨h, q⟩
theorem k_neI (q : Q (.bl (!decide (i = j))) H) : rNe (.int i) (.int j) H Q := ⟨rfl, by rw [decI]; exact q⟩
theorem k_neS {i j : Str} (q : Q (.bl (!decide (i = j))) H) : rNe (.str i) (.str j) H Q := ⟨rfl, by rw [decS]; exact q⟩
theorem k_neB {i j : Bool} (q : Q (.bl (!decide (i = j))) H) : rNe (.bl i) (.bl j) H Q := ⟨rfl, by rw [decB]; exact q⟩
theorem k_ne (h : scal x y = true) (q : Q (.bl (!decide (x = y))) H) : rNe x y H Q := ⟨h, q⟩
theorem k_ixL (h : SqL K H p xs) (hx : atI xs i = some v) (q : Q v H) : rIxL K (.ref p) (.int i) H Q := ⟨p, xs, i, v, rfl, rfl, h, hx, q⟩
theorem k_ixT (h : SqT K H p xs) (hx : atI xs i = some v) (q : Q v H) : rIxT K (.ref p) (.int i) H Q := ⟨p, xs, i, v, rfl, rfl, h, hx, q⟩
theorem k_ixTo (h : H p = some (.tup xs)) (hx : atI xs i = some v) (q : Q v H) : rIxT K (.ref p) (.int i) H Q := ⟨p, xs, i, v, rfl, rfl, SqT.of h, hx, q⟩
theorem k_ixLo (h : H p = some (.lst xs)) (hx : atI xs i = some v) (q : Q v H) : rIxL K (.ref p) (.int i) H Q := ⟨p, xs, i, v, rfl, rfl, SqL.of h, hx, q⟩
def kFld (K : PySem.W.Frag) (f : Str) : V → Hp → VK → Prop := fun x H1 Q => ∃ a C dx fs v, x = .ref a ∧ H1 a = some (.ins C dx fs) ∧ Cls K C ∧ NoAttr K C f ∧ fs.lookup f = some v ∧ Q v H1
theorem k_fld0 (q : ta σ H fun x H1 => kFld K f x H1 Q) : tFld K ta f σ H Q := q
theorem k_fld (ho : H a = some (.ins C dx fs)) (hc : Cls K C) (hn : NoAttr K C f) (hl : fs.lookup f = some v) (q : Q v H) : kFld K f (.ref a) H Q := ⟨a, C, dx, fs, v, rfl, ho, hc, hn, hl, q⟩
def kSet (K : PySem.W.Frag) (f : Str) : V → V → Hp → (Hp → Prop) → Prop := fun x y H2 Q => ∃ a C dx fs, x = .ref a ∧ H2 a = some (.ins C dx fs) ∧ Cls K C ∧ NoAttr K C f ∧ fs.length < 1000 ∧ Q (upd H2 a (.ins C dx (putF f y fs)))
theorem k_set0 (q : tv σ H fun y H1 => ta σ H1 fun x H2 => kSet K f x y H2 fun H3 => D.nx σ H3) : sFld K ta tv f D σ H := q
theorem k_set (ho : H a = some (.ins C dx fs)) (hc : Cls K C) (hn : NoAttr K C f) (hl : fs.length < 1000) (hp : putF f y fs = fs') (q : QH (upd H a (.ins C dx fs'))) : kSet K f (.ref a) y H QH :=
  ⟨a, C, dx, fs, rfl, ho, hc, hn, hl, by rw [hp]; exact q⟩
theorem k_tst0 (q : te σ H fun x H1 => ∃ k, x = .bl k ∧ QB k H1) : tTest te σ H QB := q
theorem k_tB0 (q : te σ H fun x H1 => ∃ k, x = .bl k ∧ QB k H1) : tB te σ H QB := q
theorem k_bl (q : QB b H) : ∃ k, V.bl b = .bl k ∧ QB k H := ⟨b, rfl, q⟩
theorem k_and (q : t σ H fun c H1 => if c = true then u σ H1 QB else QB false H1) : tAnd t u σ H QB := q
theorem k_or (q : t σ H fun c H1 => if c = true then QB true H1 else u σ H1 QB) : tOr t u σ H QB := q
theorem k_not (q : t σ H fun c H1 => QB (!c) H1) : tNot t σ H QB := q
theorem k_andV (q : ta σ H fun x H1 => ∃ c, x = .bl c ∧ if c = true then tb σ H1 Q else Q (.bl false) H1) : tAndV ta tb σ H Q := q
theorem k_orV (q : ta σ H fun x H1 => ∃ c, x = .bl c ∧ if c = true then Q (.bl true) H1 else tb σ H1 Q) : tOrV ta tb σ H Q := q
theorem k_notV (q : ta σ H fun x H1 => ∃ c, x = .bl c ∧ Q (.bl (!c)) H1) : tNotV ta σ H Q := q
theorem k_bl2 {R : Bool → Prop} (q : R b) : ∃ k, V.bl b = .bl k ∧ R k := ⟨b, rfl, q⟩
theorem k_ife (q : t σ H fun c H1 => if c = true then ta σ H1 Q else tb σ H1 Q) : tIf t ta tb σ H Q := q
theorem k_chain {tc : TE} (q : ta σ H fun x H1 => tb σ H1 fun y H2 => r x y H2 fun z H3 => ∃ k, z = .bl k ∧ (if k = true then tc σ H3 fun w' H4 => r' y w' H4 Q else Q (.bl false) H3)) : tChain r r' ta tb tc σ H Q := q
theorem k_yes {A B : Prop} (h : b = true) (q : A) : if b = true then A else B := by rw [if_pos h]; exact q
theorem k_noo {A B : Prop} (h : b = false) (q : B) : if b = true then A else B := by rw [if_neg (by rw [h]; decide)]; exact q
theorem k_CB {r : List V → Hp → VK → Prop} (q : tA σ H fun vs H1 => r vs H1 Q) : tCB r tA σ H Q := q
theorem k_cons {tr : TA} (q : ta σ H fun x H1 => tr σ H1 fun xs H2 => QA (x :: xs) H2) : tCons ta tr σ H QA := q
theorem k_nil (q : QA [] H) : tNil σ H QA := q
theorem k_call (q : tA σ H fun vs H1 => sp (vs ++ []) H1 Q E) : tCall sp [] E tA σ H Q := q
theorem k_meth0 (q : ta σ H fun x H1 => kMeth C m sp E tA σ x H1 Q) : tMeth C m sp [] E ta tA σ H Q := q
theorem k_methS0 {W : St → XK} (q : ta σ H fun x H1 => kMeth C m sp (W σ) tA σ x H1 Q) : tMethS C m sp W ta tA σ H Q := q
theorem k_meth (ho : H a = some (.ins C dx fs)) (hl : fs.lookup m = none) (q : tA σ H fun vs H2 => sp (.ref a :: (vs ++ [])) H2 Q E) : kMeth C m sp E tA σ (.ref a) H Q := ⟨a, dx, fs, rfl, ho, hl, q⟩
theorem k_make (q : tA σ H fun vs H1 => ∀ x dx, H1 x = none → H1 dx = none → dx ≠ x → sp (.ref x :: (vs ++ [])) (upd (upd H1 dx (.own x)) x (.ins C dx [])) (fun v H2 => v = .non ∧ Q (.ref x) H2) E) : tMake C sp [] E tA σ H Q := q
theorem k_seq (q : t1 ⟨t2 D, D.rt, D.bk, D.ct⟩ σ H) : tSeq t1 t2 D σ H := q
theorem k_cut (M : St → Hp → Prop) (h : t1 ⟨M, D.rt, D.bk, D.ct⟩ σ H) (q : ∀ σ' H', M σ' H' → t2 D σ' H') : C8.tCut t1 t2 D σ H := ⟨M, h, q⟩
theorem k_asg (q : te σ H fun x H1 => g x σ H1 D.nx) : tAsg te g D σ H := q
theorem k_gName (q : QS (σ.set n (some v)) H) : gName n v σ H QS := q
theorem k_ret (q : te σ H D.rt) : tRet te D σ H := q
theorem k_retN (q : D.rt .non H) : tRetN D σ H := q
theorem k_nx {f : St → Hp → Prop} {r : VK} {b c : St → Hp → Prop} (q : f σ H) : Ends.nx ⟨f, r, b, c⟩ σ H := q
theorem k_rt {f : St → Hp → Prop} {r : VK} {b c : St → Hp → Prop} (q : r v H) : Ends.rt ⟨f, r, b, c⟩ v H := q
theorem k_next (q : D.nx σ H) : tNext D σ H := q
theorem k_drop (q : te σ H fun _ H1 => D.nx σ H1) : tDrop te D σ H := q
theorem k_if (q : t σ H fun b H1 => if b = true then t1 D σ H1 else t2 D σ H1) : tIfS t t1 t2 D σ H := q
theorem k_tup0 (q : tA σ H fun xs H1 => xs.length ≤ sizeLine ∧ ∀ p, H1 p = none → Q (.ref p) (upd H1 p (.tup xs))) : tTup tA σ H Q := q
theorem k_lst0 (q : tA σ H fun xs H1 => xs.length ≤ sizeLine ∧ ∀ p, H1 p = none → Q (.ref p) (upd H1 p (.lst xs))) : tLst tA σ H Q := q
theorem k_len (h : xs.length ≤ sizeLine) {R : Prop} (q : R) : xs.length ≤ sizeLine ∧ R := ⟨h, q⟩
theorem k_dget0 (q : ta σ H fun x H1 => tb σ H1 fun y H2 => ∃ a v, x = .ref a ∧ DGet H2 a y (some v) ∧ Q v H2) : tDGet ta tb σ H Q := q
theorem k_dget {kvs : List (Key × V)} {s : Str} (h : H a = some (.dK kvs)) (hv : valV kvs (Sum.inr s) = some v) (q : Q v H) : ∃ a' v, V.ref a = .ref a' ∧ DGet H a' (.str s) (some v) ∧ Q v H := ⟨a, v, rfl, hv ▸ DGet.k (k := Sum.inr s) h, q⟩
theorem k_dput0 (q : tv σ H fun v H1 => ta σ H1 fun x H2 => tb σ H2 fun y H3 => ∃ a H4, x = .ref a ∧ DPut H3 a y v H4 ∧ D.nx σ H4) : sDPut ta tb tv D σ H := q
theorem k_dput {kvs kvs' : List (Key × V)} {s : Str} (h : H a = some (.dK kvs)) (hl : kvs.length < 1000) (hp : putK kvs (Sum.inr s) v = kvs') (q : QH (upd H a (.dK kvs'))) : ∃ a' H4, V.ref a = .ref a' ∧ DPut H a' (.str s) v H4 ∧ QH H4 :=
  ⟨a, _, rfl, DPut.k (k := Sum.inr s) h (Nat.lt_of_lt_of_le hl (by decide)), by rw [hp]; exact q⟩
theorem k_app0 {r : V → List V → Hp → VK → Prop} {T : String} (q : ta σ H fun x H1 => tyV K T x H1 ∧ tA σ H1 fun xs H2 => r x xs H2 Q) : tBM K T r ta tA σ H Q := q
theorem k_bm0 {r : V → List V → Hp → VK → Prop} {T : String} (q : ta σ H fun x H1 => tyV K T x H1 ∧ r x [] H1 Q) : tBM0 K T r ta σ H Q := q
theorem k_tyL {R : Prop} (h : H a = some (.lst xs)) (q : R) : tyV K "list" (.ref a) H ∧ R := ⟨.inl ⟨rfl, _, SqL.of h⟩, q⟩
theorem k_app (h : H a = some (.lst xs)) (hl : xs.length < 100000) (q : Q .non (upd H a (.lst (xs ++ [v])))) : rAppend (.ref a) [v] H Q := ⟨a, xs, v, rfl, rfl, h, Nat.lt_of_lt_of_le hl (by decide), q⟩
theorem k_gTup (h : H p = some (.tup xs)) (hl : xs.length = n) (q : gs xs σ H QS) : gTup K n gs (.ref p) σ H QS := ⟨p, xs, rfl, SqT.of h, hl, q⟩
theorem k_gCons (q : g v σ H fun σ' H' => gs xs σ' H' QS) : gCons g gs (v :: xs) σ H QS := ⟨v, xs, rfl, q⟩
theorem k_gNil (q : QS σ H) : gNil [] σ H QS := ⟨rfl, q⟩
def kMax2 : List V → Hp → VK → Prop := fun xs H Q => ∃ i j : Int, xs = [.int i, .int j] ∧ Q (.int (if j > i then j else i)) H
def kMin2 : List V → Hp → VK → Prop := fun xs H Q => ∃ i j : Int, xs = [.int i, .int j] ∧ Q (.int (if j < i then j else i)) H
def kLen (K : PySem.W.Frag) : List V → Hp → VK → Prop := fun xs H Q => ∃ p ys, xs = [V.ref p] ∧ (SqL K H p ys ∨ SqT K H p ys) ∧ Q (.int ys.length) H
def kList (K : PySem.W.Frag) : List V → Hp → VK → Prop := fun xs H Q => ∃ p ys, xs = [V.ref p] ∧ (SqL K H p ys ∨ SqT K H p ys) ∧ ∀ l, H l = none → Q (.ref l) (upd H l (.lst ys))
def kIsN : V → Hp → VK → Prop := fun x H Q => Q (.bl (decide (x = .non))) H
def kNotN : V → Hp → VK → Prop := fun x H Q => Q (.bl (!decide (x = .non))) H
theorem c_max2 (q : tA σ H fun vs H1 => kMax2 vs H1 Q) : tCB (fun xs H Q => ∃ i j, xs = [V.int i, V.int j] ∧ Q (V.int (if j > i then j else i)) H) tA σ H Q := q
theorem c_min2 (q : tA σ H fun vs H1 => kMin2 vs H1 Q) : tCB (fun xs H Q => ∃ i j, xs = [V.int i, V.int j] ∧ Q (V.int (if j < i then j else i)) H) tA σ H Q := q
theorem c_len (q : tA σ H fun vs H1 => kLen K vs H1 Q) : tCB (fun xs H Q => ∃ p ys, xs = [V.ref p] ∧ (SqL K H p ys ∨ SqT K H p ys) ∧ Q (V.int ys.length) H) tA σ H Q := q
theorem c_list (q : tA σ H fun vs H1 => kList K vs H1 Q) : tCB (fun xs H Q => ∃ p ys, xs = [V.ref p] ∧ (SqL K H p ys ∨ SqT K H p ys) ∧ ∀ l, H l = none → Q (V.ref l) (upd H l (.lst ys))) tA σ H Q := q
theorem c_isN (q : ta σ H fun x H1 => kIsN x H1 Q) : tOp (fun x y H Q => y = V.non ∧ Q (V.bl (decide (x = V.non))) H) ta (tC V.non) σ H Q := by
  refine (show ta σ H (fun x H1 => V.non = V.non ∧ Q (V.bl (decide (x = V.non))) H1) from ?_)
  have e : (fun x H1 => V.non = V.non ∧ Q (V.bl (decide (x = V.non))) H1) = fun x H1 => kIsN x H1 Q := by
    funext x H1
    exact propext ⟨fun z => z.2, fun z => ⟨rfl, z⟩⟩
  rw [e]
  exact q
theorem c_notN (q : ta σ H fun x H1 => kNotN x H1 Q) : tOp (fun x y H Q => y = V.non ∧ Q (V.bl (!decide (x = V.non))) H) ta (tC V.non) σ H Q := by
  refine (show ta σ H (fun x H1 => V.non = V.non ∧ Q (V.bl (!decide (x = V.non))) H1) from ?_)
  have e : (fun x H1 => V.non = V.non ∧ Q (V.bl (!decide (x = V.non))) H1) = fun x H1 => kNotN x H1 Q := by
    funext x H1
    exact propext ⟨fun z => z.2, fun z => ⟨rfl, z⟩⟩
  rw [e]
  exact q
theorem k_isN (q : Q (.bl (decide (x = .non))) H) : kIsN x H Q := q
theorem k_notN (q : Q (.bl (!decide (x = .non))) H) : kNotN x H Q := q
theorem k_max2 (q : Q (.int (if j > i then j else i)) H) : kMax2 [V.int i, V.int j] H Q := ⟨i, j, rfl, q⟩
theorem k_min2 (q : Q (.int (if j < i then j else i)) H) : kMin2 [V.int i, V.int j] H Q := ⟨i, j, rfl, q⟩
theorem k_lenLo (h : H p = some (.lst xs)) (q : Q (.int xs.length) H) : kLen K [V.ref p] H Q := ⟨p, xs, rfl, .inl (SqL.of h), q⟩
theorem k_lenTo (h : H p = some (.tup xs)) (q : Q (.int xs.length) H) : kLen K [V.ref p] H Q := ⟨p, xs, rfl, .inr (SqT.of h), q⟩
theorem k_lenL (h : SqL K H p xs) (q : Q (.int xs.length) H) : kLen K [V.ref p] H Q := ⟨p, xs, rfl, .inl h, q⟩
theorem k_lenT (h : SqT K H p xs) (q : Q (.int xs.length) H) : kLen K [V.ref p] H Q := ⟨p, xs, rfl, .inr h, q⟩
theorem k_list (h : H p = some (.lst xs)) (q : ∀ l, H l = none → Q (.ref l) (upd H l (.lst xs))) : kList K [V.ref p] H Q := ⟨p, xs, rfl, .inl (SqL.of h), q⟩
theorem k_in (h : SqT K H p xs) (hx : flatV x = true) (ha : xs.all flatV = true) (q : Q (.bl (inV x xs)) H) : rIn K false x (.ref p) H Q := ⟨p, xs, rfl, .inr h, hx, ha, q⟩
theorem k_nin (h : SqT K H p xs) (hx : flatV x = true) (ha : xs.all flatV = true) (q : Q (.bl (!inV x xs)) H) : rIn K true x (.ref p) H Q := ⟨p, xs, rfl, .inr h, hx, ha, q⟩
theorem k_inT (h : H p = some (.tup xs)) (hx : flatV x = true) (ha : xs.all flatV = true) (q : Q (.bl (inV x xs)) H) : rIn K false x (.ref p) H Q := ⟨p, xs, rfl, .inr (SqT.of h), hx, ha, q⟩
/-- what a for over a range, over a list, wants -/
def kForR (g : TG) (tb : TS) (D : Ends) (σ : St) : List V → Hp → Prop := fun vs H1 => ∃ j : Int, vs = [.int j] ∧ -(2 ^ 62) ≤ j ∧ j < 2 ^ 62 ∧ ∃ W : Nat → Nat → St → Hp → Prop, (∃ m, W 0 m σ H1) ∧ ∀ i m σ H, W i m σ H →
  ((Itr 0 j.toNat).stop i H ∧ D.nx σ H) ∨ ((Itr 0 j.toNat).go i H ∧ ∃ N : St → Hp → Prop, (∀ σ' H', N σ' H' → ∃ m', m' < m ∧ W (i + 1) m' σ' H') ∧ ∀ x H', (Itr 0 j.toNat).yld i H x H' → g x σ H' fun σ2 H2 => tb { D with nx := N, ct := N, bk := D.nx } σ2 H2)
def kForL (K : PySem.W.Frag) (g : TG) (tb : TS) (D : Ends) (σ : St) : V → Hp → Prop := fun x H1 => ∃ a, x = .ref a ∧ (∃ xs, SqL K H1 a xs) ∧ ∃ W : Nat → Nat → St → Hp → Prop, (∃ m, W 0 m σ H1) ∧ ∀ i m σ H, W i m σ H →
  ((Itl K a).stop i H ∧ D.nx σ H) ∨ ((Itl K a).go i H ∧ ∃ N : St → Hp → Prop, (∀ σ' H', N σ' H' → ∃ m', m' < m ∧ W (i + 1) m' σ' H') ∧ ∀ x H', (Itl K a).yld i H x H' → g x σ H' fun σ2 H2 => tb { D with nx := N, ct := N, bk := D.nx } σ2 H2)
theorem k_forR0 {tb : TS} (q : tA σ H fun vs H1 => kForR g tb D σ vs H1) : tFor (iRng1 tA) g tb D σ H := q
theorem k_forL0 {tb : TS} (q : ta σ H fun x H1 => kForL K g tb D σ x H1) : tFor (iList K ta) g tb D σ H := q
theorem k_forR {tb : TS} (Pv : Nat → St → Hp → Prop) (hn : (n : Int) < 2 ^ 62) (h0 : Pv 0 σ H) (hs : ∀ (i : Nat) σ H, i < n → Pv i σ H → g (.int (i : Int)) σ H fun σ2 H2 => tb ⟨Pv (i + 1), D.rt, D.nx, Pv (i + 1)⟩ σ2 H2) (hd : ∀ σ H, Pv n σ H → D.nx σ H) : kForR g tb D σ [.int (n : Int)] H := by
  refine ⟨n, rfl, ?_, hn, for_range (lo := 0) (n := n) Pv h0 (fun i σ H hi p => ?_) hd⟩
  · have h2 : (0 : Int) ≤ 2 ^ 62 := by decide
    omega
  · have e : (0 : Int) + (i : Int) = (i : Int) := Int.zero_add _
    rw [e]
    exact hs i σ H hi p
theorem k_forL {tb : TS} (Pv : Nat → St → Hp → Prop) (hx : SqL K H a xs) (h0 : Pv 0 σ H) (hl : ∀ i σ H, i ≤ xs.length → Pv i σ H → SqL K H a xs) (hs : ∀ (i : Nat) x σ H, xs[i]? = some x → Pv i σ H → g x σ H fun σ2 H2 => tb ⟨Pv (i + 1), D.rt, D.nx, Pv (i + 1)⟩ σ2 H2) (hd : ∀ σ H, Pv xs.length σ H → D.nx σ H) : kForL K g tb D σ (.ref a) H :=
  ⟨a, rfl, ⟨xs, hx⟩, for_list (K := K) (a := a) (xs := xs) Pv h0 hl hs hd⟩
theorem k_truL (h : SqL K H p xs) {R : Bool → Prop} (q : R (!xs.isEmpty)) : ∃ k, TruV K (.ref p) H k ∧ R k := ⟨_, .inl ⟨xs, h, rfl⟩, q⟩
def kStrI : List V → Hp → VK → Prop := fun xs H Q => ∃ i : Int, xs = [V.int i] ∧ i.natAbs.log2 < 1920 ∧ Q (.str (toString i)) H
theorem c_strI (q : tA σ H fun vs H1 => kStrI vs H1 Q) : tCB (fun xs H Q => ∃ i : Int, xs = [V.int i] ∧ i.natAbs.log2 < 1920 ∧ Q (V.str (toString i)) H) tA σ H Q := q
theorem k_strI (h : i.natAbs.log2 < 1920) (q : Q (.str (toString i)) H) : kStrI [.int i] H Q := ⟨i, rfl, h, q⟩
def kIntS : List V → Hp → VK → Prop := fun xs H Q => ∃ a n, xs = [V.str a] ∧ PySem.intText? a = some n ∧ a.length ≤ 640 ∧ Q (.int n) H
theorem c_intS (q : tA σ H fun vs H1 => kIntS vs H1 Q) : tCB (fun xs H Q => ∃ a n, xs = [V.str a] ∧ PySem.intText? a = some n ∧ a.length ≤ 640 ∧ Q (V.int n) H) tA σ H Q := q
theorem k_intS {s : Str} (h : PySem.intText? s = some i) (hl : s.length ≤ 640) (q : Q (.int i) H) : kIntS [.str s] H Q := ⟨s, i, rfl, h, hl, q⟩
def kAddS : V → V → Hp → VK → Prop := fun x y H Q => ∃ i j, x = V.str i ∧ y = V.str j ∧ i.length + j.length ≤ sizeLine ∧ Q (.str (i ++ j)) H
theorem c_addS (q : ta σ H fun x H1 => tb σ H1 fun y H2 => kAddS x y H2 Q) : tOp (fun x y H Q => ∃ i j, x = V.str i ∧ y = V.str j ∧ i.length + j.length ≤ sizeLine ∧ Q (V.str (i ++ j)) H) ta tb σ H Q := q
theorem k_addS {s t : Str} (h : s.length + t.length ≤ sizeLine) (q : Q (.str (s ++ t)) H) : kAddS (.str s) (.str t) H Q := ⟨s, t, rfl, rfl, h, q⟩
theorem k_ixS {s : Str} {c : Nat} (hl : s.length ≤ sizeLine) (hx : atI s.cps.toList i = some c) (q : Q (.str ⟨#[c]⟩) H) : rIxS (.str s) (.int i) H Q := ⟨s, i, c, rfl, rfl, hl, hx, q⟩
theorem k_notT (q : QB true H) (h : b = false) : QB (!b) H := by rw [h]; exact q
end

theorem notd_t {p : Prop} [Decidable p] (h : ¬ p) : (!decide p) = true := by rw [decide_eq_false h]; rfl
theorem notd_f {p : Prop} [Decidable p] (h : p) : (!decide p) = false := by rw [decide_eq_true h]; rfl
theorem not_t {b : Bool} (h : b = false) : (!b) = true := by rw [h]; rfl
theorem not_f {b : Bool} (h : b = true) : (!b) = false := by rw [h]; rfl
theorem pos_t {a b : Int} (h : a < b) : decide (a < b) = true := decide_eq_true h

/-! ### a def of the text, hidden places -/
def MDef (K : PySem.W.Frag) (C : Addr) (m qual : Str) (st : Stmt) (ps : List Str) : Prop := ∃ (f : Addr) (fd : FuncData), Fun K m qual st f fd ∧ Binds K fd ps [] ∧ Meth K C m f
def IDef (K : PySem.W.Frag) (mg : Str → Option Value) (C : Addr) (x qual : Str) (st : Stmt) (ps : List Str) : Prop := ∃ (f : Addr) (fd : FuncData), Fun K "__init__" qual st f fd ∧ Binds K fd ps [] ∧ Mk K C f ∧ mg x = some (.ref C)
def FDef (K : PySem.W.Frag) (mg : Str → Option Value) (x : Str) (st : Stmt) (ps : List Str) : Prop := ∃ (f : Addr) (fd : FuncData), Fun K x x st f fd ∧ Binds K fd ps [] ∧ mg x = some (.ref f)
section
variable {P : Program} {w : World} {K : PySem.W.Frag} {mg : Str → Option Value} {base : Heap} {C : Addr} {m x qual : Str} {st : Stmt} {N ps : List Str} {k : Nat} {sp : Sp}
/-- what is asked of a body that lets nothing out -/
abbrev Body0 (P : Program) (w : World) (K : PySem.W.Frag) (mg : Str → Option Value) (base : Heap) (qual : Str) (st : Stmt) (N : List Str) (k : Nat) (sp : Sp) : Prop :=
  ∀ (f : Addr) (cdv : Value) (A : Around) (outer : List Env) (s : Shared) (H : Hp) (vs : List V) (Q : VK) (E : XK), Room k (A.deeper (envOfC qual (defScope st) s.heap.objs.size f cdv)) → sp vs H Q E →
    ∃ t, PSs (cxOf CX0 P w K mg base N qual (defScope st) f cdv A outer s H E).nox (defBody st) t ∧ t { nx := fun _ H' => Q .non H', rt := Q } (start N vs) H
/-- .. that may raise -/
abbrev BodyX (P : Program) (w : World) (K : PySem.W.Frag) (mg : Str → Option Value) (base : Heap) (qual : Str) (st : Stmt) (N : List Str) (k : Nat) (sp : Sp) : Prop :=
  ∀ (f : Addr) (cdv : Value) (A : Around) (outer : List Env) (s : Shared) (H : Hp) (vs : List V) (Q : VK) (E : XK), Room k (A.deeper (envOfC qual (defScope st) s.heap.objs.size f cdv)) → sp vs H Q E →
    ∃ t, PSs (cxOf (L2.CX P w) P w K mg base N qual (defScope st) f cdv A outer s H E) (defBody st) t ∧ t { nx := fun _ H' => Q .non H', rt := Q } (start N vs) H
theorem MetX.of0 (d : MDef K C m qual st ps) (c : Cls K C) (S : FnScope N ps (defScope st)) (len : ∀ vs H Q E, sp vs H Q E → vs.length = ps.length) (hb : Body0 P w K mg base qual st N k sp) : MetX P w K mg base CX0 (k + 1) C m sp := by
  obtain ⟨f, fd, F, b, me⟩ := d
  exact ⟨f, fd, ps, c, me, F.ok S len (hb f), b⟩
theorem MetX.ofX (d : MDef K C m qual st ps) (c : Cls K C) (S : FnScope N ps (defScope st)) (len : ∀ vs H Q E, sp vs H Q E → vs.length = ps.length) (hb : BodyX P w K mg base qual st N k sp) : MetX P w K mg base (L2.CX P w) (k + 1) C m sp := by
  obtain ⟨f, fd, F, b, me⟩ := d
  exact ⟨f, fd, ps, c, me, F.okX S len (hb f), b⟩
theorem MakX.of0 (d : IDef K mg C x qual st ps) (S : FnScope N ps (defScope st)) (len : ∀ vs H Q E, sp vs H Q E → vs.length = ps.length) (hb : Body0 P w K mg base qual st N k sp) : MakX P w K mg base CX0 (k + 1) x C sp := by
  obtain ⟨f, fd, F, b, me, g⟩ := d
  exact ⟨f, fd, ps, me, F.ok S len (hb f), g, b⟩
theorem MakX.ofX (d : IDef K mg C x qual st ps) (S : FnScope N ps (defScope st)) (len : ∀ vs H Q E, sp vs H Q E → vs.length = ps.length) (hb : BodyX P w K mg base qual st N k sp) : MakX P w K mg base (L2.CX P w) (k + 1) x C sp := by
  obtain ⟨f, fd, F, b, me, g⟩ := d
  exact ⟨f, fd, ps, me, F.okX S len (hb f), g, b⟩
theorem CalX.of0 (d : FDef K mg x st ps) (S : FnScope N ps (defScope st)) (len : ∀ vs H Q E, sp vs H Q E → vs.length = ps.length) (hb : Body0 P w K mg base x st N k sp) : CalX P w K mg base CX0 (k + 1) x sp := by
  obtain ⟨f, fd, F, b, g⟩ := d
  exact ⟨f, fd, ps, F.ok S len (hb f), g, F.kp, b⟩
theorem CalX.ofX (d : FDef K mg x st ps) (S : FnScope N ps (defScope st)) (len : ∀ vs H Q E, sp vs H Q E → vs.length = ps.length) (hb : BodyX P w K mg base x st N k sp) : CalX P w K mg base (L2.CX P w) (k + 1) x sp := by
  obtain ⟨f, fd, F, b, g⟩ := d
  exact ⟨f, fd, ps, F.okX S len (hb f), g, F.kp, b⟩
end
open PyProof.Rows (envOfC)
theorem k_gSub {ta ti : TE} {t : TSet} {v : V} {σ : St} {H : Hp} {QS : St → Hp → Prop} (q : ta σ H fun o H1 => ti σ H1 fun i H2 => t o i v H2 fun H3 => QS σ H3) : gSub ta ti t v σ H QS := q
section
variable {X : Cx} {CX : CXT} {k j : Nat} {C : Addr} {x : Str} {sp : Sp} {W : St → XK} {p pos : Pos} {e : Expr} {es : List Expr} {t : TA}
/-- a making whose error is wished for at the caller's slots -/
def tMakeS (C : Addr) (sp : Sp) (W : St → XK) (t : TA) : TE := fun σ H Q => t σ H fun vs H1 => ∀ x dx, H1 x = none → H1 dx = none → dx ≠ x → sp (.ref x :: (vs ++ [])) (upd (upd H1 dx (.own x)) x (.ins C dx [])) (fun v H2 => v = .non ∧ Q (.ref x) H2) (W σ)
theorem k_makeS {σ : St} {H : Hp} {Q : VK} (q : t σ H fun vs H1 => ∀ x dx, H1 x = none → H1 dx = none → dx ≠ x → sp (.ref x :: (vs ++ [])) (upd (upd H1 dx (.own x)) x (.ins C dx [])) (fun v H2 => v = .non ∧ Q (.ref x) H2) (W σ)) : tMakeS C sp W t σ H Q := q
theorem run_makeS {f : Addr} {fd : FuncData} {ps : List Str} {pins : List (Addr × Obj)} {σ : St} {H : Hp} {s : Shared} {Q : VK} {us ds : List Value} {vs dvs : List V} (M : Mk X.K C f) (F : FnOk X.prog X.w X.K X.mg X.base CX k f fd ps sp) (hr : Room (k + 1) X.A) (hb : Binds X.K fd ps ds) (hd : Vals dvs ds)
    (hx : PassesAt CX X σ (W σ)) (I : Inv X pins σ H s) (r : Vals vs us)
    (h : ∀ x dx, H x = none → H dx = none → dx ≠ x → sp (.ref x :: (vs ++ dvs)) (upd (upd H dx (.own x)) x (.ins C dx [])) (fun v H2 => v = .non ∧ Q (.ref x) H2) (W σ)) :
    wpAny (model X.prog X.w) X.A (call (.ref C) us) (EP X pins σ Q) X.xe s := by
  have hq := h (s.heap.objs.size + 1) s.heap.objs.size (I.hok.fresh (Nat.le_succ _)) (I.hok.fresh (Nat.le_refl _)) (Nat.ne_of_lt (Nat.lt_succ_self _))
  have I2 := Inv.made (C := C) I
  have r2 : Vals (V.ref (s.heap.objs.size + 1) :: (vs ++ dvs)) (Value.ref (s.heap.objs.size + 1) :: (us ++ ds)) := .cons rfl (r.append hd)
  have hl : (Value.ref (s.heap.objs.size + 1) :: us ++ ds).length = ps.length := by
    have e := r2.length
    rw [F.len _ _ _ _ hq] at e
    exact e.symm
  refine wpAny_call (make_map (f := f) I.kIn M.makes M.init (beq_iff_eq.mp M.fn) (codeAny_mono (F.run _ X.stack _ _ ⟨Value.ref (s.heap.objs.size + 1) :: us, []⟩ (Value.ref (s.heap.objs.size + 1) :: (us ++ ds)) _ _ (W σ) (hr.make C us [])
    (I2.env0.make C us []) (hb _ (Value.ref (s.heap.objs.size + 1) :: us) I2.kIn hl) r2 hq) fun r s' hq' => ?_))
  cases r with
  | error e => exact hx pins _ _ e s' I2 hq'
  | ok fl =>
    cases fl with
    | ret u =>
      obtain ⟨v, H', I3, rv, ev, q3⟩ := I2.after hq'
      subst ev
      exact ⟨rv, ⟨V.ref (s.heap.objs.size + 1), H', I3, rfl, q3⟩⟩
    | next => exact False.elim hq'
    | brk => exact False.elim hq'
    | cont => exact False.elim hq'
theorem pe_mkS (c : MakX X.prog X.w X.K X.mg X.base CX k x C sp) (hr : Room j X.A) (hk : k + 1 ≤ j) (hg : Gl X x) (hx : ∀ σ, PassesAt CX X σ (W σ)) (ha : PA X (e :: es) t)
    (hdb : (x == ("__debug__" : Str)) = false := by decide) (he : starEach (e :: es) X.env = (false, eval e X.env) :: starEach es X.env := by rfl)
    (hpl : (backTo pos (starEach es X.env)).any (·.1) = false := by rfl) : PE X (.Call (.Name x p) (e :: es) [] pos) (tMakeS C sp W t) := by
  obtain ⟨f, fd, ps, M, F, hm, b⟩ := c.ex
  refine ⟨fun pins s σ H Q I h => ?_⟩
  refine wpAny_Call_Name_kw (ld_glob I hg hm ?_ hdb)
  refine PySem.W.callWith_K (h₀ := X.base) I.ok.mod.kin M.kp (thn (ha.run pos pins s σ H _ I h) fun us s1 ⟨vs, H1, I1, r, q⟩ => ⟨I1.kIn, ?_⟩) he hpl
  exact run_makeS M F (hr.mono hk) b .nil (hx σ) I1 r q
end
section
variable {σ : St} {H : Hp} {Q : VK} {te : TE} {tl th : TO} {QO : Option Int → Hp → Prop} {r : V → Option Int → Option Int → Hp → VK → Prop}
theorem k_sl0 (q : te σ H fun x H1 => tl σ H1 fun l H2 => th σ H2 fun u H3 => r x l u H3 Q) : tSl r te tl th σ H Q := q
theorem k_part (q : te σ H fun x H1 => ∃ i, x = .int i ∧ QO (some i) H1) : tPart te σ H QO := q
theorem k_noPart (q : QO none H) : tNoPart σ H QO := q
end
/-! ### own tactics -/
/-- heap facts -/
local macro_rules | `(tactic| walk_at "hp") => `(tactic| first | assumption | exact upd_same | (refine Eq.trans (upd_ne ?hne) ?hrest; (case hne => first | assumption | exact Ne.symm (by assumption)); (case hrest => walk_at "hp")))
/-- a fact on Bools -/
local macro_rules | `(tactic| walk_at "bt") => `(tactic| first | with_reducible rfl | assumption | exact decide_eq_true (by assumption) | exact decide_eq_false (by assumption) | exact notd_t (by assumption) | exact notd_f (by assumption) | exact not_t (by assumption) | exact not_f (by assumption) | exact decide_eq_true (by omega) | exact decide_eq_false (by omega) | exact notd_t (by omega) | exact notd_f (by omega) | exact notd_f rfl | exact decide_eq_true rfl | rfl)
local macro_rules | `(tactic| walk_at "cl") => `(tactic| first | exact Txt.clS (by assumption) | exact Txt.clC (by assumption) | assumption)
local macro_rules | `(tactic| walk_at "na") => `(tactic| first | exact Txt.nS1 (by assumption) | exact Txt.nS2 (by assumption) | exact Txt.nS3 (by assumption) | exact Txt.nS4 (by assumption) | exact Txt.nS5 (by assumption) | exact Txt.nS6 (by assumption) | exact Txt.nS7 (by assumption) | exact Txt.nC1 (by assumption) | exact Txt.nC2 (by assumption) | exact Txt.nC3 (by assumption) | exact Txt.nC4 (by assumption) | exact Txt.nC5 (by assumption))
local macro_rules | `(tactic| walk_at "ci") => `(tactic| first | exact (show (0 : Int) < _ from by decide) | exact ⟨by decide, by decide⟩ | exact Or.inr ⟨by decide, by decide⟩ | exact Or.inl ⟨by decide, by decide⟩ | exact Or.inl ⟨by omega, by omega⟩)
local macro_rules | `(tactic| walk_at "ix") => `(tactic| first | assumption | exact rfl | exact atI_nat (by assumption))
local macro_rules | `(tactic| walk_at "sz") => `(tactic| first | exact Nat.le_trans (Nat.le_of_ble_eq_true (m := 100) rfl) (by decide) | omega)
local macro_rules | `(tactic| walk_at "l9") => `(tactic| first | exact (show (7 : Nat) < 1000 from by decide) | exact (show (6 : Nat) < 1000 from by decide) | exact (show (5 : Nat) < 1000 from by decide) | exact (show (4 : Nat) < 1000 from by decide) | exact (show (3 : Nat) < 1000 from by decide) | exact (show (2 : Nat) < 1000 from by decide) | exact (show (1 : Nat) < 1000 from by decide) | exact (show (0 : Nat) < 1000 from by decide))
local macro_rules | `(tactic| walk_at "dv") => `(tactic| first | with_reducible exact get_at | with_reducible exact get_gave | with_reducible exact get_used | with_reducible exact get_ticks | with_reducible exact get_made | with_reducible exact sget_at | with_reducible exact sget_ticks | with_reducible exact sget_periods | with_reducible exact sget_moved | with_reducible exact sget_made | with_reducible exact sget_used | with_reducible exact wget_stages | with_reducible exact wget_turn | with_reducible exact wget_runs | with_reducible exact wget_fallen | with_reducible exact wget_total | with_reducible exact wget_sides | exact rfl)
local macro_rules | `(tactic| walk_at "dp") => `(tactic| first | with_reducible exact put_at | with_reducible exact put_gave | with_reducible exact put_used | with_reducible exact put_ticks | with_reducible exact put_made | with_reducible exact sput_at | with_reducible exact sput_ticks | with_reducible exact sput_periods | with_reducible exact sput_moved | with_reducible exact sput_made | with_reducible exact sput_used | with_reducible exact wput_turn | with_reducible exact wput_runs | with_reducible exact wput_fallen | with_reducible exact wput_total | exact rfl)
local macro_rules | `(tactic| walk_at "rd1") => `(tactic| first
  | with_reducible refine' k_seq ?_
  | with_reducible refine' k_c ?_
  | ((with_reducible refine' k_var ?h ?_); (case h => exact rfl))
  | with_reducible refine' k_asg ?_
  | with_reducible refine' k_gName ?_
  | with_reducible refine' k_fld0 ?_
  | ((with_reducible refine' k_fld ?ho ?hc ?hn ?hl ?_); (case ho => walk_at "hp"); (case hc => walk_at "cl"); (case hn => walk_at "na"); (case hl => exact rfl))
  | with_reducible refine' c_isN ?_
  | with_reducible refine' c_notN ?_
  | with_reducible refine' c_addS ?_
  | with_reducible refine' k_op ?_
  | with_reducible refine' k_I0 ?_
  | ((with_reducible refine' k_I ?h ?_); (case h => walk_at "ci"))
  | with_reducible refine' k_tst0 ?_
  | with_reducible refine' k_tB0 ?_
  | with_reducible refine' k_bl ?_
  | with_reducible refine' k_bl2 ?_
  | with_reducible refine' k_if ?_
  | with_reducible refine' k_and ?_
  | with_reducible refine' k_or ?_
  | with_reducible refine' k_not ?_
  | ((with_reducible refine' k_yes ?h ?_); (case h => walk_at "bt"))
  | ((with_reducible refine' k_noo ?h ?_); (case h => walk_at "bt"))
  | with_reducible refine' k_eqI ?_
  | with_reducible refine' k_eqS ?_
  | with_reducible refine' k_eqB ?_
  | ((with_reducible refine' k_eq ?h ?_); (case h => exact rfl))
  | with_reducible refine' k_neI ?_
  | with_reducible refine' k_neS ?_
  | with_reducible refine' k_neB ?_
  | ((with_reducible refine' k_ne ?h ?_); (case h => exact rfl))
  | ((with_reducible refine' k_ixTo ?h ?hx ?_); (case h => walk_at "hp"); (case hx => walk_at "ix"))
  | ((with_reducible refine' k_ixLo ?h ?hx ?_); (case h => walk_at "hp"); (case hx => walk_at "ix"))
  | ((with_reducible refine' k_ixT ?h ?hx ?_); (case h => assumption); (case hx => walk_at "ix"))
  | ((with_reducible refine' k_ixL ?h ?hx ?_); (case h => assumption); (case hx => walk_at "ix"))
  | ((with_reducible refine' k_in ?h ?h1 ?h2 ?_); (case h => assumption); (case h1 => exact rfl); (case h2 => exact rfl))
  | ((with_reducible refine' k_inT ?h ?h1 ?h2 ?_); (case h => walk_at "hp"); (case h1 => exact rfl); (case h2 => exact rfl))
  | ((with_reducible refine' k_nin ?h ?h1 ?h2 ?_); (case h => assumption); (case h1 => exact rfl); (case h2 => exact rfl))
  | with_reducible refine' k_forR0 ?_
  | with_reducible refine' k_forL0 ?_
  | ((with_reducible refine' k_truL ?h ?_); (case h => assumption))
  | with_reducible refine' c_strI ?_
  | with_reducible refine' c_intS ?_
  | ((with_reducible refine' k_app ?h ?hl ?_); (case h => walk_at "hp"); (case hl => first | assumption | omega))
  | with_reducible refine' k_set0 ?_
  | ((with_reducible refine' k_set ?ho ?hc ?hn ?hl ?hp ?_); (case ho => walk_at "hp"); (case hc => walk_at "cl"); (case hn => walk_at "na"); (case hl => walk_at "l9"); (case hp => exact rfl))
  | with_reducible refine' k_meth0 ?_
  | with_reducible refine' k_methS0 ?_
  | ((with_reducible refine' k_meth ?ho ?hl ?_); (case ho => walk_at "hp"); (case hl => exact rfl))
  | with_reducible refine' k_cons ?_
  | with_reducible refine' k_nil ?_
  | with_reducible refine' k_ret ?_
  | with_reducible refine' k_retN ?_
  | with_reducible refine' k_next ?_
  | with_reducible refine' k_drop ?_
  | with_reducible refine' k_chain ?_
  | with_reducible refine' k_isN ?_
  | with_reducible refine' k_notN ?_
  | with_reducible refine' c_max2 ?_
  | with_reducible refine' c_min2 ?_
  | with_reducible refine' c_len ?_
  | with_reducible refine' c_list ?_
  | ((with_reducible refine' k_lenLo ?h ?_); (case h => walk_at "hp"))
  | ((with_reducible refine' k_lenTo ?h ?_); (case h => walk_at "hp"))
  | ((with_reducible refine' k_lenL ?h ?_); (case h => assumption))
  | ((with_reducible refine' k_lenT ?h ?_); (case h => assumption))
  | ((with_reducible refine' k_list ?h ?_); (case h => walk_at "hp"))
  | with_reducible refine' k_call ?_
  | with_reducible refine' k_max2 ?_
  | with_reducible refine' k_min2 ?_
  | with_reducible refine' k_ife ?_
  | with_reducible refine' k_andV ?_
  | with_reducible refine' k_orV ?_
  | with_reducible refine' k_notV ?_
  | with_reducible refine' k_un ?_
  | with_reducible refine' k_U ?_
  | with_reducible refine' k_make ?_
  | with_reducible refine' k_dge0 ?_
  | ((with_reducible refine' k_dge ?h ?hv ?_); (case h => walk_at "hp"); (case hv => walk_at "dv"))
  | with_reducible refine' k_dpu0 ?_
  | ((with_reducible refine' k_dpu ?h ?hl ?hp ?_); (case h => walk_at "hp"); (case hl => walk_at "l9"); (case hp => walk_at "dp"))
  | with_reducible refine' k_app0 ?_
  | with_reducible refine' k_bm0 ?_
  | ((with_reducible refine' k_tyL ?h ?_); (case h => walk_at "hp"))
  | with_reducible refine' k_tup0 ?_
  | with_reducible refine' k_lst0 ?_
  | ((with_reducible refine' k_len ?h ?_); (case h => walk_at "sz"))
  | ((with_reducible refine' k_gTup ?h ?hl ?_); (case h => walk_at "hp"); (case hl => exact rfl))
  | with_reducible refine' k_gCons ?_
  | with_reducible refine' k_gNil ?_
  | with_reducible refine' k_pairs ?_
  | with_reducible refine' k_pairs0 ?_
  | with_reducible refine' k_dg20 ?_
  | ((with_reducible refine' k_dg2 ?h ?_); (case h => walk_at "hp"))
  | with_reducible refine' k_sl0 ?_
  | with_reducible refine' k_part ?_
  | with_reducible refine' k_noPart ?_
  | with_reducible refine' k_gSub ?_
  | with_reducible refine' k_makeS ?_
  | with_reducible refine' k_CB ?_)
local macro_rules | `(tactic| walk_at "rd") => `(tactic| repeat walk_at "rd1")

/-! ### data: a stage, a side -/
inductive Stg where
  | main (m : Option Int) (t : Int) (w : Str) (e : Int)
  | over (p t : Int)
@[reducible] def mv : Option Int → V
  | none => .non
  | some i => .int i
def Stg.vs : Stg → List V
  | .main m t w e => [.str "main", mv m, .int t, .str w, .int e]
  | .over p t => [.str "over", .int p, .int t]
def Stg.isOver : Stg → Bool
  | .main .. => false
  | .over .. => true
structure Sd where
  at_ : Nat
  ticks : Int
  periods : Int
  moved : Int
  made : Int
  used : Int
def sf (l : Addr) (d : Sd) : List (Str × V) := [("stages", .ref l), ("at", .int d.at_), ("ticks", .int d.ticks), ("periods", .int d.periods), ("moved", .int d.moved), ("made", .int d.made), ("used", .int d.used)]
/-- the stages' tuples -/
def Tups (H : Hp) (as : List Addr) (ss : List Stg) : Prop := as.length = ss.length ∧ ∀ (i : Nat) (a : Addr) (s : Stg), as[i]? = some a → ss[i]? = some s → H a = some (.tup s.vs)
structure StL (H : Hp) (l : Addr) (as : List Addr) (ss : List Stg) : Prop where
  lst : H l = some (.lst (as.map V.ref))
  tup : Tups H as ss
theorem StL.get {H : Hp} {l : Addr} {as : List Addr} {ss : List Stg} (h : StL H l as ss) {i : Nat} {s : Stg} (hs : ss[i]? = some s) : ∃ a, as[i]? = some a ∧ H a = some (.tup s.vs) := by
  obtain ⟨hi, _⟩ := List.getElem?_eq_some_iff.mp hs
  have hl := h.tup.1
  have ha : as[i]? = some as[i] := List.getElem?_eq_getElem (by omega)
  exact ⟨_, ha, h.tup.2 i _ s ha hs⟩
theorem StL.upd {H : Hp} {l p C dx : Addr} {as : List Addr} {ss : List Stg} {fs : List (Str × V)} {o : HO} (h : StL H l as ss) (hp : H p = some (.ins C dx fs)) : StL (upd H p o) l as ss :=
  ⟨by rw [upd_ne (ne_of h.lst hp (fun z => by cases z))]; exact h.lst, h.tup.1, fun i a s ha hs => by
    have q := h.tup.2 i a s ha hs
    rw [upd_ne (ne_of q hp (fun z => by cases z))]
    exact q⟩
theorem atI_refs {as : List Addr} {i : Nat} {a : Addr} (h : as[i]? = some a) : atI (as.map V.ref) (i : Int) = some (V.ref a) := atI_nat (by rw [List.getElem?_map, h]; rfl)

/-! ### promises -/
/-- a side with the stage that it is in -/
structure SideS (CS : Addr) (H : Hp) (p dx l : Addr) (as : List Addr) (ss : List Stg) (d : Sd) (s : Stg) : Prop where
  ob : H p = some (.ins CS dx (sf l d))
  st : StL H l as ss
  cur : ss[d.at_]? = some s
def spStage (CS : Addr) : Sp := fun vs H Q _ => ∃ p dx l as ss d s, vs = [.ref p] ∧ SideS CS H p dx l as ss d s ∧ ∀ a, H a = some (.tup s.vs) → Q (.ref a) H
def spIsOver (CS : Addr) : Sp := fun vs H Q _ => ∃ p dx l as ss d s, vs = [.ref p] ∧ SideS CS H p dx l as ss d s ∧ Q (.bl s.isOver) H
def freeOf (s : Stg) (d : Sd) : Int := match s with
  | .over .. => 0
  | .main _ _ w e => if w = "wait" then (if e - d.used > 0 then e - d.used else 0) else 0
def spFree (CS : Addr) : Sp := fun vs H Q _ => ∃ p dx l as ss d s, vs = [.ref p] ∧ SideS CS H p dx l as ss d s ∧ Q (.int (freeOf s d)) H
def spUntil (CS : Addr) : Sp := fun vs H Q _ => ∃ p dx l as ss d s, vs = [.ref p] ∧ SideS CS H p dx l as ss d s ∧ Q (.int (freeOf s d + d.ticks)) H
def passBy (s : Stg) (d : Sd) (n : Int) : Sd := { d with used := d.used + n, ticks := d.ticks - (if n - freeOf s d > 0 then n - freeOf s d else 0) }
def spPassBy (CS : Addr) : Sp := fun vs H Q _ => ∃ p dx l as ss d s n, vs = [.ref p, .int n] ∧ SideS CS H p dx l as ss d s ∧ Q .non (upd H p (.ins CS dx (sf l (passBy s d n))))
def beginOf (s : Stg) (n : Nat) (d : Sd) : Sd := match s with
  | .over pp t => { d with at_ := n, made := 0, periods := pp, ticks := t }
  | .main _ t _ _ => { d with at_ := n, made := 0, ticks := d.ticks + t }
def spBegin (CS : Addr) : Sp := fun vs H Q _ => ∃ p dx l as ss d s, ∃ n : Nat, vs = [.ref p, .int n] ∧ H p = some (.ins CS dx (sf l d)) ∧ StL H l as ss ∧ ss[n]? = some s ∧ Q .non (upd H p (.ins CS dx (sf l (beginOf s n d))))
/-- its time, or its period, is up: whether the flag falls, and the side behind -/
def fallsOf (ss : List Stg) (s : Stg) (d : Sd) : Bool × Sd := match s with
  | .over _ t => (decide (d.periods - 1 = 0), { d with periods := d.periods - 1, ticks := if d.periods - 1 > 0 then t else 0 })
  | .main m _ _ _ => match m with
    | some _ => (true, d)
    | none => match ss[d.at_ + 1]? with
      | some s' => (false, beginOf s' (d.at_ + 1) d)
      | none => (true, d)
def spFalls (CS : Addr) : Sp := fun vs H Q _ => ∃ p dx l as ss d s, vs = [.ref p] ∧ SideS CS H p dx l as ss d s ∧ Q (.bl (fallsOf ss s d).1) (upd H p (.ins CS dx (sf l (fallsOf ss s d).2)))
/-- what a move gets -/
def gain (s : Stg) (d : Sd) : Int := match s with
  | .over .. => 0
  | .main _ _ w e => if w = "add" then e else if w = "back" then (if d.used < e then d.used else e) else 0
def pressed (s : Stg) (d : Sd) : Sd := match s with
  | .over _ t => { d with moved := d.moved + 1, made := d.made + 1, ticks := t, used := 0 }
  | .main .. => { d with moved := d.moved + 1, made := d.made + 1, ticks := d.ticks + gain s d, used := 0 }
def pressOf (ss : List Stg) (s : Stg) (d : Sd) : Sd := match s with
  | .over .. => pressed s d
  | .main m _ _ _ => if m = some (d.made + 1) then (match ss[d.at_ + 1]? with
      | some s' => beginOf s' (d.at_ + 1) (pressed s d)
      | none => pressed s d) else pressed s d
def spPressS (CS : Addr) : Sp := fun vs H Q _ => ∃ p dx l as ss d s, vs = [.ref p] ∧ SideS CS H p dx l as ss d s ∧ (∀ m t w e, s = .main (some m) t w e → d.at_ + 1 < ss.length) ∧ Q .non (upd H p (.ins CS dx (sf l (pressOf ss s d))))
def side0 (s : Stg) : Sd := beginOf s 0 ⟨0, 0, 0, 0, 0, 0⟩
def spInitS (CS : Addr) : Sp := fun vs H Q _ => ∃ p dx l0 as ss s, vs = [.ref p, .ref l0] ∧ H p = some (.ins CS dx []) ∧ StL H l0 as ss ∧ ss[0]? = some s ∧
  ∀ l, H l = none → Q .non (upd (upd H l (.lst (as.map V.ref))) p (.ins CS dx (sf l (side0 s))))
theorem SideS.upd {CS : Addr} {H : Hp} {p dx l : Addr} {as : List Addr} {ss : List Stg} {d d' : Sd} {s s' : Stg} (S : SideS CS H p dx l as ss d s) (h : ss[d'.at_]? = some s') : SideS CS (upd H p (.ins CS dx (sf l d'))) p dx l as ss d' s' := ⟨upd_same, S.st.upd S.ob, h⟩
theorem upd2 {H : Hp} {a : Addr} {o u : HO} : upd (upd H a o) a u = upd H a u := by
  funext b
  unfold upd
  split <;> rfl
section
variable {P : Program} {w : World} {K : PySem.W.Frag} {mg : Str → Option Value} {base : Heap} {CS CC cE cB cT cN cO aW : Addr} (T : Txt K mg CS CC cE cB cT cN cO aW)
include T
theorem ok_stage (d : MDef K CS "stage" "Side.stage" s_Side_stage ["self"]) : MetX P w K mg base CX0 1 CS "stage" (spStage CS) := by
  refine MetX.of0 d T.clS sc_Side_stage (fun vs H Q E h => ?_) (fun f cdv A outer s H vs Q E hr h => ?_)
  · obtain ⟨p, dx, l, as, ss, d, s, rfl, _⟩ := h
    rfl
  · obtain ⟨p, dx, l, as, ss, d, s, rfl, S, q⟩ := h
    refine ⟨_, (pss_one (ps_ret (pe_ix ix_list (pe_fld (pv 0) rfl) (pe_fld (pv 0) rfl) (fun _ _ => rfl)))), ?_⟩
    obtain ⟨a, ha, ht⟩ := S.st.get S.cur
    have hp := S.ob
    have hl := S.st.lst
    have hx := atI_refs ha
    walk_at "rd"
    exact q a ht
theorem ok_isOver (c_Side_stage : MetX P w K mg base CX0 1 CS "stage" (spStage CS)) (d : MDef K CS "is_over" "Side.is_over" s_Side_is_over ["self"]) : MetX P w K mg base CX0 2 CS "is_over" (spIsOver CS) := by
  refine MetX.of0 d T.clS sc_Side_is_over (fun vs H Q E h => ?_) (fun f cdv A outer s H vs Q E hr h => ?_)
  · obtain ⟨p, dx, l, as, ss, d, s, rfl, _⟩ := h
    rfl
  · obtain ⟨p, dx, l, as, ss, d, s, rfl, S, q⟩ := h
    refine ⟨_, (pss_one (ps_ret (pe_cmpR op_eq (pe_ix ix_tup (pe_mtX0 c_Side_stage hr (by decide) pass0 (pv 0)) pe_int (fun _ _ => rfl)) pe_str (nomark _)))), ?_⟩
    have hp := S.ob
    walk_at "rd"
    refine ⟨p, dx, l, as, ss, d, s, rfl, S, fun a ht => ?_⟩
    cases s <;> walk_at "rd" <;> exact q
theorem ok_free (c_Side_stage : MetX P w K mg base CX0 1 CS "stage" (spStage CS)) (c_Side_is_over : MetX P w K mg base CX0 2 CS "is_over" (spIsOver CS)) (d : MDef K CS "free" "Side.free" s_Side_free ["self"]) : MetX P w K mg base CX0 3 CS "free" (spFree CS) := by
  refine MetX.of0 d T.clS sc_Side_free (fun vs H Q E h => ?_) (fun f cdv A outer s H vs Q E hr h => ?_)
  · obtain ⟨p, dx, l, as, ss, d, s, rfl, _⟩ := h
    rfl
  · obtain ⟨p, dx, l, as, ss, d, s, rfl, S, q⟩ := h
    refine ⟨_, (pss_cons (ps_if (PW.pt (pw_or (pt_val (pe_mtX0 c_Side_is_over hr (by decide) pass0 (pv 0))) (pw_or1 (pt_cmpR op_ne (pe_ix ix_tup (pe_mtX0 c_Side_stage hr (by decide) pass0 (pv 0)) pe_int (fun _ _ => rfl)) pe_str (nomark _))))) (pss_one (ps_ret pe_int)) pss_nil)
 (pss_one (ps_ret (pe_callB (call_max2 rfl) (by rfl) T.b_max (by decide +kernel) (pa_cons pe_int (pa_cons (pe_op op_sub (pe_ix ix_tup (pe_mtX0 c_Side_stage hr (by decide) pass0 (pv 0)) pe_int (fun _ _ => rfl)) (pe_fld (pv 0) rfl)) pa_nil)))))), ?_⟩
    have hp := S.ob
    walk_at "rd"
    refine ⟨p, dx, l, as, ss, d, s, rfl, S, ?_⟩
    walk_at "rd"
    cases s with
    | over pp t =>
      walk_at "rd"
      exact q
    | main m t w e =>
      walk_at "rd"
      refine ⟨p, dx, l, as, ss, d, _, rfl, S, fun a ht => ?_⟩
      walk_at "rd"
      by_cases hw : w = "wait"
      · walk_at "rd"
        refine ⟨p, dx, l, as, ss, d, _, rfl, S, fun a ht => ?_⟩
        walk_at "rd"
        have e1 : freeOf (.main m t w e) d = if e - d.used > 0 then e - d.used else 0 := if_pos hw
        rw [e1] at q
        exact q
      · walk_at "rd"
        have e1 : freeOf (.main m t w e) d = 0 := if_neg hw
        rw [e1] at q
        exact q
theorem ok_until (c_Side_free : MetX P w K mg base CX0 3 CS "free" (spFree CS)) (d : MDef K CS "until" "Side.until" s_Side_until ["self"]) : MetX P w K mg base CX0 4 CS "until" (spUntil CS) := by
  refine MetX.of0 d T.clS sc_Side_until (fun vs H Q E h => ?_) (fun f cdv A outer s H vs Q E hr h => ?_)
  · obtain ⟨p, dx, l, as, ss, d, s, rfl, _⟩ := h
    rfl
  · obtain ⟨p, dx, l, as, ss, d, s, rfl, S, q⟩ := h
    refine ⟨_, (pss_one (ps_ret (pe_op op_add (pe_mtX0 c_Side_free hr (by decide) pass0 (pv 0)) (pe_fld (pv 0) rfl)))), ?_⟩
    have hp := S.ob
    walk_at "rd"
    refine ⟨p, dx, l, as, ss, d, s, rfl, S, ?_⟩
    walk_at "rd"
    exact q
theorem ok_passBy (c_Side_free : MetX P w K mg base CX0 3 CS "free" (spFree CS)) (d : MDef K CS "pass_by" "Side.pass_by" s_Side_pass_by ["self", "ticks"]) : MetX P w K mg base CX0 4 CS "pass_by" (spPassBy CS) := by
  refine MetX.of0 d T.clS sc_Side_pass_by (fun vs H Q E h => ?_) (fun f cdv A outer s H vs Q E hr h => ?_)
  · obtain ⟨p, dx, l, as, ss, d, s, n, rfl, _⟩ := h
    rfl
  · obtain ⟨p, dx, l, as, ss, d, s, n, rfl, S, q⟩ := h
    refine ⟨_, (pss_cons (ps_set (i := 2) sc_Side_pass_by.nd rfl (Or.inl rfl) (pe_callB (call_max2 rfl) (by rfl) T.b_max (by decide +kernel) (pa_cons pe_int (pa_cons (pe_op op_sub (pv 1) (pe_mtX0 c_Side_free hr (by decide) pass0 (pv 0))) pa_nil))))
 (pss_cons (ps_fld (pv 0) (pe_op op_add (pe_fld (pv 0) rfl) (pv 1)) rfl)
 (pss_one (ps_fld (pv 0) (pe_op op_sub (pe_fld (pv 0) rfl) (pv 2)) rfl)))), ?_⟩
    have hp := S.ob
    walk_at "rd"
    refine ⟨p, dx, l, as, ss, d, s, rfl, S, ?_⟩
    walk_at "rd"
    rw [upd2]
    exact q
theorem ok_begin (c_Side_stage : MetX P w K mg base CX0 1 CS "stage" (spStage CS)) (c_Side_is_over : MetX P w K mg base CX0 2 CS "is_over" (spIsOver CS)) (d : MDef K CS "begin" "Side.begin" s_Side_begin ["self", "at"]) : MetX P w K mg base CX0 3 CS "begin" (spBegin CS) := by
  refine MetX.of0 d T.clS sc_Side_begin (fun vs H Q E h => ?_) (fun f cdv A outer s H vs Q E hr h => ?_)
  · obtain ⟨p, dx, l, as, ss, d, s, n, rfl, _⟩ := h
    rfl
  · obtain ⟨p, dx, l, as, ss, d, s, n, rfl, hp, hs, hn, q⟩ := h
    refine ⟨_, (pss_cons (ps_fld (pv 0) (pv 1) rfl)
 (pss_cons (ps_fld (pv 0) pe_int rfl)
 (pss_one (ps_if (pt_val (pe_mtX0 c_Side_is_over hr (by decide) pass0 (pv 0))) (pss_cons (ps_fld (pv 0) (pe_ix ix_tup (pe_mtX0 c_Side_stage hr (by decide) pass0 (pv 0)) pe_int (fun _ _ => rfl)) rfl)
 (pss_one (ps_fld (pv 0) (pe_ix ix_tup (pe_mtX0 c_Side_stage hr (by decide) pass0 (pv 0)) pe_int (fun _ _ => rfl)) rfl))) (pss_one (ps_fld (pv 0) (pe_op op_add (pe_fld (pv 0) rfl) (pe_ix ix_tup (pe_mtX0 c_Side_stage hr (by decide) pass0 (pv 0)) pe_int (fun _ _ => rfl))) rfl)))))), ?_⟩
    walk_at "rd"
    have S1 : SideS CS (upd (upd H p (.ins CS dx (sf l { d with at_ := n }))) p (.ins CS dx (sf l { d with at_ := n, made := 0 }))) p dx l as ss { d with at_ := n, made := 0 } s := ⟨upd_same, (hs.upd hp).upd upd_same, hn⟩
    refine ⟨p, dx, l, as, ss, _, s, rfl, S1, ?_⟩
    cases s with
    | over pp t =>
      walk_at "rd"
      refine ⟨p, dx, l, as, ss, _, _, rfl, S1, fun a ht => ?_⟩
      walk_at "rd"
      refine ⟨p, dx, l, as, ss, { d with at_ := n, made := 0, periods := pp }, _, rfl, ⟨upd_same, S1.st.upd S1.ob, hn⟩, fun a ht => ?_⟩
      walk_at "rd"
      simp only [upd2]
      exact q
    | main m t w e =>
      walk_at "rd"
      refine ⟨p, dx, l, as, ss, _, _, rfl, S1, fun a ht => ?_⟩
      walk_at "rd"
      simp only [upd2]
      exact q
theorem ok_falls (c_Side_stage : MetX P w K mg base CX0 1 CS "stage" (spStage CS)) (c_Side_is_over : MetX P w K mg base CX0 2 CS "is_over" (spIsOver CS)) (c_Side_begin : MetX P w K mg base CX0 3 CS "begin" (spBegin CS)) (d : MDef K CS "falls" "Side.falls" s_Side_falls ["self"]) : MetX P w K mg base CX0 4 CS "falls" (spFalls CS) := by
  refine MetX.of0 d T.clS sc_Side_falls (fun vs H Q E h => ?_) (fun f cdv A outer s H vs Q E hr h => ?_)
  · obtain ⟨p, dx, l, as, ss, d, s, rfl, _⟩ := h
    rfl
  · obtain ⟨p, dx, l, as, ss, d, s, rfl, S, q⟩ := h
    refine ⟨_, (pss_cons (ps_if (pt_val (pe_mtX0 c_Side_is_over hr (by decide) pass0 (pv 0))) (pss_cons (ps_fld (pv 0) (pe_op op_sub (pe_fld (pv 0) rfl) pe_int) rfl)
 (pss_cons (ps_fld (pv 0) (pe_ifExp (pt_cmpR op_gt (pe_fld (pv 0) rfl) pe_int (nomark _)) (pe_ix ix_tup (pe_mtX0 c_Side_stage hr (by decide) pass0 (pv 0)) pe_int (fun _ _ => rfl)) pe_int) rfl)
 (pss_one (ps_ret (pe_cmpR op_eq (pe_fld (pv 0) rfl) pe_int (nomark _)))))) pss_nil)
 (pss_cons (ps_if (PW.pt (pw_and (pt_cmpR op_isN (pe_ix ix_tup (pe_mtX0 c_Side_stage hr (by decide) pass0 (pv 0)) pe_int (fun _ _ => rfl)) pe_non (nomark _)) (pw_and1 (pt_cmpR op_lt (pe_op op_add (pe_fld (pv 0) rfl) pe_int) (pe_callB call_len_seq (by rfl) T.b_len PySem.boot_len (pa_cons (pe_fld (pv 0) rfl) pa_nil)) (nomark _))))) (pss_cons (ps_expr (pe_mtX c_Side_begin hr (by decide) pass0 (pv 0) (pa_cons (pe_op op_add (pe_fld (pv 0) rfl) pe_int) pa_nil)))
 (pss_one (ps_ret pe_bl))) pss_nil)
 (pss_one (ps_ret pe_bl)))), ?_⟩
    have hp := S.ob
    have hl := S.st.lst
    have hlen := S.st.tup.1
    walk_at "rd"
    refine ⟨p, dx, l, as, ss, d, s, rfl, S, ?_⟩
    cases s with
    | over pp t =>
      walk_at "rd"
      by_cases hz : d.periods - 1 > 0
      · walk_at "rd"
        refine ⟨p, dx, l, as, ss, { d with periods := d.periods - 1 }, _, rfl, ⟨upd_same, S.st.upd S.ob, S.cur⟩, fun a ht => ?_⟩
        walk_at "rd"
        simp only [upd2]
        have e1 : (fallsOf ss (.over pp t) d) = (decide (d.periods - 1 = 0), { d with periods := d.periods - 1, ticks := t }) := by
          show (_, _) = _
          rw [if_pos hz]
        rw [e1] at q
        exact q
      · walk_at "rd"
        simp only [upd2]
        have e1 : (fallsOf ss (.over pp t) d) = (decide (d.periods - 1 = 0), { d with periods := d.periods - 1, ticks := 0 }) := by
          show (_, _) = _
          rw [if_neg hz]
        rw [e1] at q
        exact q
    | main m t w e =>
      walk_at "rd"
      refine ⟨p, dx, l, as, ss, d, _, rfl, S, fun a ht => ?_⟩
      have eH : upd H p (.ins CS dx (sf l d)) = H := by
        funext b
        unfold upd
        split
        · rename_i hb
          rw [hb, hp]
        · rfl
      cases m with
      | some m =>
        walk_at "rd"
        have e1 : (fallsOf ss (.main (some m) t w e) d) = (true, d) := rfl
        rw [e1, eH] at q
        exact q
      | none =>
        walk_at "rd"
        have e2 : (as.map V.ref).length = ss.length := by rw [List.length_map, hlen]
        by_cases hlt : d.at_ + 1 < ss.length
        · obtain ⟨s', hs'⟩ : ∃ s', ss[d.at_ + 1]? = some s' := ⟨_, List.getElem?_eq_getElem hlt⟩
          have hlt2 : ((d.at_ : Int) + 1 < ((as.map V.ref).length : Int)) := by omega
          walk_at "rd"
          refine ⟨p, dx, l, as, ss, d, s', d.at_ + 1, rfl, hp, S.st, hs', ?_⟩
          walk_at "rd"
          have e1 : (fallsOf ss (.main none t w e) d) = (false, beginOf s' (d.at_ + 1) d) := by
            show (match ss[d.at_ + 1]? with | some s' => (false, beginOf s' (d.at_ + 1) d) | none => (true, d)) = _
            rw [hs']
          rw [e1] at q
          exact q
        · have hlt2 : ¬ ((d.at_ : Int) + 1 < ((as.map V.ref).length : Int)) := by omega
          walk_at "rd"
          have e1 : (fallsOf ss (.main none t w e) d) = (true, d) := by
            show (match ss[d.at_ + 1]? with | some s' => (false, beginOf s' (d.at_ + 1) d) | none => (true, d)) = _
            rw [List.getElem?_eq_none (by omega)]
          rw [e1, eH] at q
          exact q
theorem ok_pressS (c_Side_stage : MetX P w K mg base CX0 1 CS "stage" (spStage CS)) (c_Side_is_over : MetX P w K mg base CX0 2 CS "is_over" (spIsOver CS)) (c_Side_begin : MetX P w K mg base CX0 3 CS "begin" (spBegin CS)) (d : MDef K CS "press" "Side.press" s_Side_press ["self"]) : MetX P w K mg base CX0 4 CS "press" (spPressS CS) := by
  refine MetX.of0 d T.clS sc_Side_press (fun vs H Q E h => ?_) (fun f cdv A outer s H vs Q E hr h => ?_)
  · obtain ⟨p, dx, l, as, ss, d, s, rfl, _⟩ := h
    rfl
  · obtain ⟨p, dx, l, as, ss, d, s, rfl, S, hbe, q⟩ := h
    refine ⟨_, (pss_cons (ps_fld (pv 0) (pe_op op_add (pe_fld (pv 0) rfl) pe_int) rfl)
 (pss_cons (ps_fld (pv 0) (pe_op op_add (pe_fld (pv 0) rfl) pe_int) rfl)
 (C8.pss_cut (ps_if (pt_val (pe_mtX0 c_Side_is_over hr (by decide) pass0 (pv 0))) (pss_one (ps_fld (pv 0) (pe_ix ix_tup (pe_mtX0 c_Side_stage hr (by decide) pass0 (pv 0)) pe_int (fun _ _ => rfl)) rfl)) (pss_one (ps_if (pt_cmpR op_eq (pe_ix ix_tup (pe_mtX0 c_Side_stage hr (by decide) pass0 (pv 0)) pe_int (fun _ _ => rfl)) pe_str (nomark _)) (pss_one (ps_fld (pv 0) (pe_op op_add (pe_fld (pv 0) rfl) (pe_ix ix_tup (pe_mtX0 c_Side_stage hr (by decide) pass0 (pv 0)) pe_int (fun _ _ => rfl))) rfl)) (pss_one (ps_if (pt_cmpR op_eq (pe_ix ix_tup (pe_mtX0 c_Side_stage hr (by decide) pass0 (pv 0)) pe_int (fun _ _ => rfl)) pe_str (nomark _)) (pss_one (ps_fld (pv 0) (pe_op op_add (pe_fld (pv 0) rfl) (pe_callB (call_min2 rfl) (by rfl) T.b_min (by decide +kernel) (pa_cons (pe_ix ix_tup (pe_mtX0 c_Side_stage hr (by decide) pass0 (pv 0)) pe_int (fun _ _ => rfl)) (pa_cons (pe_fld (pv 0) rfl) pa_nil)))) rfl)) pss_nil)))))
 (pss_cons (ps_fld (pv 0) pe_int rfl)
 (pss_one (ps_if (PW.pt (pw_and (pt_not (pt_val (pe_mtX0 c_Side_is_over hr (by decide) pass0 (pv 0)))) (pw_and1 (pt_cmpR op_eq (pe_fld (pv 0) rfl) (pe_ix ix_tup (pe_mtX0 c_Side_stage hr (by decide) pass0 (pv 0)) pe_int (fun _ _ => rfl)) (nomark _))))) (pss_one (ps_expr (pe_mtX c_Side_begin hr (by decide) pass0 (pv 0) (pa_cons (pe_op op_add (pe_fld (pv 0) rfl) pe_int) pa_nil)))) pss_nil)))))), ?_⟩
    have hp := S.ob
    walk_at "rd"
    refine k_cut (fun σ' H' => σ' = [some (.ref p)] ∧ H' = upd H p (.ins CS dx (sf l { pressed s d with used := d.used }))) ?_ ?_
    · have S1 : SideS CS (upd (upd H p (.ins CS dx (sf l { d with moved := d.moved + 1 }))) p (.ins CS dx (sf l { d with moved := d.moved + 1, made := d.made + 1 }))) p dx l as ss { d with moved := d.moved + 1, made := d.made + 1 } s := ⟨upd_same, (S.st.upd hp).upd upd_same, S.cur⟩
      walk_at "rd"
      refine ⟨p, dx, l, as, ss, _, s, rfl, S1, ?_⟩
      cases s with
      | over pp t =>
        walk_at "rd"
        refine ⟨p, dx, l, as, ss, _, _, rfl, S1, fun a ht => ?_⟩
        walk_at "rd"
        exact ⟨rfl, by simp only [upd2]; rfl⟩
      | main m t w e =>
        walk_at "rd"
        refine ⟨p, dx, l, as, ss, _, _, rfl, S1, fun a ht => ?_⟩
        walk_at "rd"
        by_cases h1 : w = "add"
        · walk_at "rd"
          refine ⟨p, dx, l, as, ss, _, _, rfl, S1, fun a2 ht2 => ?_⟩
          walk_at "rd"
          refine ⟨rfl, ?_⟩
          have e1 : pressed (.main m t w e) d = { d with moved := d.moved + 1, made := d.made + 1, ticks := d.ticks + e, used := 0 } := by
            show ({ d with moved := d.moved + 1, made := d.made + 1, ticks := d.ticks + gain (.main m t w e) d, used := 0 } : Sd) = _
            have e2 : gain (.main m t w e) d = e := if_pos h1
            rw [e2]
          rw [e1]
          simp only [upd2]
          rfl
        · walk_at "rd"
          refine ⟨p, dx, l, as, ss, _, _, rfl, S1, fun a3 ht3 => ?_⟩
          walk_at "rd"
          by_cases h2 : w = "back"
          · walk_at "rd"
            refine ⟨p, dx, l, as, ss, _, _, rfl, S1, fun a2 ht2 => ?_⟩
            walk_at "rd"
            refine ⟨rfl, ?_⟩
            have e1 : pressed (.main m t w e) d = { d with moved := d.moved + 1, made := d.made + 1, ticks := d.ticks + (if d.used < e then d.used else e), used := 0 } := by
              show ({ d with moved := d.moved + 1, made := d.made + 1, ticks := d.ticks + gain (.main m t w e) d, used := 0 } : Sd) = _
              have e2 : gain (.main m t w e) d = (if d.used < e then d.used else e) := (if_neg h1).trans (if_pos h2)
              rw [e2]
            rw [e1]
            simp only [upd2]
            rfl
          · walk_at "rd"
            refine ⟨rfl, ?_⟩
            have e1 : pressed (.main m t w e) d = { d with moved := d.moved + 1, made := d.made + 1, used := 0 } := by
              show ({ d with moved := d.moved + 1, made := d.made + 1, ticks := d.ticks + gain (.main m t w e) d, used := 0 } : Sd) = _
              have e2 : gain (.main m t w e) d = 0 := (if_neg h1).trans (if_neg h2)
              rw [e2, Int.add_zero]
            rw [e1]
            simp only [upd2]
            rfl
    · rintro σ' H' ⟨rfl, rfl⟩
      walk_at "rd"
      have c0 : ss[(pressed s d).at_]? = some s := by cases s <;> exact S.cur
      have u0 : { pressed s d with used := 0 } = pressed s d := by cases s <;> rfl
      have S2 : SideS CS (upd (upd H p (.ins CS dx (sf l { pressed s d with used := d.used }))) p (.ins CS dx (sf l { pressed s d with used := 0 }))) p dx l as ss { pressed s d with used := 0 } s := ⟨upd_same, (S.st.upd hp).upd upd_same, c0⟩
      refine ⟨p, dx, l, as, ss, _, s, rfl, S2, ?_⟩
      rw [u0] at S2
      cases s with
      | over pp t =>
        walk_at "rd"
        simp only [upd2]
        exact q
      | main m t w e =>
        walk_at "rd"
        refine ⟨p, dx, l, as, ss, _, _, rfl, S2, fun a ht => ?_⟩
        walk_at "rd"
        cases m with
        | none =>
          walk_at "rd"
          simp only [upd2]
          have e1 : pressOf ss (.main none t w e) d = pressed (.main none t w e) d := by simp [pressOf]
          rw [e1] at q
          exact q
        | some m =>
          refine k_eqI ?_
          walk_at "rd"
          by_cases hm : (pressed (.main (some m) t w e) d).made = m
          · walk_at "rd"
            obtain ⟨s', hs'⟩ : ∃ s', ss[d.at_ + 1]? = some s' := ⟨_, List.getElem?_eq_getElem (hbe m t w e rfl)⟩
            refine ⟨p, dx, l, as, ss, pressed (.main (some m) t w e) d, s', d.at_ + 1, rfl, S2.ob, S2.st, hs', ?_⟩
            walk_at "rd"
            simp only [upd2]
            have e1 : pressOf ss (.main (some m) t w e) d = beginOf s' (d.at_ + 1) (pressed (.main (some m) t w e) d) := by
              refine (if_pos (congrArg some hm.symm)).trans ?_
              rw [hs']
            rw [e1] at q
            exact q
          · walk_at "rd"
            simp only [upd2]
            have e1 : pressOf ss (.main (some m) t w e) d = pressed (.main (some m) t w e) d := if_neg (fun z => hm (Option.some.inj z).symm)
            rw [e1] at q
            exact q
theorem ok_initS (c_Side_begin : MetX P w K mg base CX0 3 CS "begin" (spBegin CS)) (d : IDef K mg CS "Side" "Side.__init__" s_Side___init ["self", "stages"]) : MakX P w K mg base CX0 4 "Side" CS (spInitS CS) := by
  refine MakX.of0 d sc_Side___init (fun vs H Q E h => ?_) (fun f cdv A outer s H vs Q E hr h => ?_)
  · obtain ⟨p, dx, l0, as, ss, s, rfl, _⟩ := h
    rfl
  · obtain ⟨p, dx, l0, as, ss, s, rfl, hp, S, h0, q⟩ := h
    refine ⟨_, (pss_cons (ps_fld (pv 0) (pe_callTy call_list_of (by rfl) T.b_list (by decide +kernel) (pa_cons (pv 1) pa_nil)) rfl)
 (pss_cons (ps_fld (pv 0) pe_int rfl)
 (pss_cons (ps_fld (pv 0) pe_int rfl)
 (pss_cons (ps_fld (pv 0) pe_int rfl)
 (pss_cons (ps_fld (pv 0) pe_int rfl)
 (pss_cons (ps_fld (pv 0) pe_int rfl)
 (pss_cons (ps_fld (pv 0) pe_int rfl)
 (pss_one (ps_expr (pe_mtX c_Side_begin hr (by decide) pass0 (pv 0) (pa_cons pe_int pa_nil))))))))))), ?_⟩
    have hl0 := S.lst
    walk_at "rd"
    intro l hl
    have hpl : p ≠ l := ne_of_none hp hl
    walk_at "rd"
    have S1 : StL (upd H l (.lst (as.map V.ref))) l as ss := ⟨upd_same, S.tup.1, fun i a s ha hs => by
      have z := S.tup.2 i a s ha hs
      rw [upd_ne (ne_of_none z hl)]
      exact z⟩
    have hp1 : (upd H l (.lst (as.map V.ref))) p = some (.ins CS dx []) := by rw [upd_ne hpl]; exact hp
    simp only [upd2]
    refine ⟨p, dx, l, as, ss, ⟨0, 0, 0, 0, 0, 0⟩, s, 0, rfl, upd_same, S1.upd hp1, h0, ?_⟩
    walk_at "rd"
    simp only [upd2]
    exact q l hl
end
/-! ### the whole clock, without a program: the mathematics -/
structure Wd where
  turn : Bool
  runs : Bool
  fallen : Option Bool
  total : Int
  d0 : Sd
  d1 : Sd
def Wd.side (w : Wd) (b : Bool) : Sd := match b with
  | true => w.d1
  | false => w.d0
def Wd.put (w : Wd) (b : Bool) (d : Sd) : Wd := match b with
  | true => { w with d1 := d }
  | false => { w with d0 := d }
def ti (b : Bool) : Int := match b with
  | true => 1
  | false => 0
def curS (ss : List Stg) (d : Sd) : Stg := ss.getD d.at_ (.over 1 1)
theorem curS_of {ss : List Stg} {d : Sd} {s : Stg} (h : ss[d.at_]? = some s) : curS ss d = s := by
  unfold curS
  rw [List.getD_eq_getElem?_getD, h]
  rfl
/-- so many ticks go by, no more than until the time or the period is up; what comes then -/
def evW (ss : List Stg) (w : Wd) (s : Stg) (d1 : Sd) (tot : Int) : Wd :=
  if d1.ticks > 0 then { w.put w.turn d1 with total := tot }
  else if (fallsOf ss s d1).1 = true then { w.put w.turn (fallsOf ss s d1).2 with total := tot, fallen := some w.turn, runs := false }
  else { w.put w.turn (fallsOf ss s d1).2 with total := tot }
def passW (ss : List Stg) (w : Wd) (n : Int) : Wd := evW ss w (curS ss (w.side w.turn)) (passBy (curS ss (w.side w.turn)) (w.side w.turn) n) (w.total + n)
theorem evW_put (ss : List Stg) (w : Wd) (s : Stg) (d d1 : Sd) (t tot : Int) : evW ss { w.put w.turn d with total := t } s d1 tot = evW ss w s d1 tot := by
  obtain ⟨turn, runs, fallen, total, d0, dd1⟩ := w
  cases turn <;> rfl
/-- tick by tick, till a flag falls -/
def runN (ss : List Stg) : Nat → Wd → Wd
  | 0, w => w
  | n + 1, w => match w.fallen with
    | some _ => w
    | none => runN ss n (passW ss w 1)
def GoodS (ss : List Stg) : Prop := 0 < ss.length ∧ ∀ (i : Nat) (s : Stg), ss[i]? = some s → match s with
  | .main m t _ e => 1 ≤ t ∧ 0 ≤ e ∧ (m ≠ none → i + 1 < ss.length)
  | .over p t => 1 ≤ p ∧ 1 ≤ t
/-- a side that goes on -/
structure SOk (ss : List Stg) (d : Sd) : Prop where
  cur : d.at_ < ss.length
  pos : 1 ≤ d.ticks
  per : ∀ p t, curS ss d = .over p t → 1 ≤ d.periods
  use : 0 ≤ d.used
structure WF (ss : List Stg) (w : Wd) : Prop where
  in0 : w.d0.at_ < ss.length
  in1 : w.d1.at_ < ss.length
  ok0 : w.fallen = none → SOk ss w.d0
  ok1 : w.fallen = none → SOk ss w.d1
theorem WF.inS {ss : List Stg} {w : Wd} (h : WF ss w) (b : Bool) : (w.side b).at_ < ss.length := by
  cases b
  · exact h.in0
  · exact h.in1
theorem WF.okS {ss : List Stg} {w : Wd} (h : WF ss w) (hf : w.fallen = none) (b : Bool) : SOk ss (w.side b) := by
  cases b
  · exact h.ok0 hf
  · exact h.ok1 hf
theorem cur_get {ss : List Stg} {d : Sd} (h : d.at_ < ss.length) : ss[d.at_]? = some (curS ss d) := by
  unfold curS
  rw [List.getD_eq_getElem?_getD, List.getElem?_eq_getElem h]
  rfl
theorem free_nonneg (s : Stg) (d : Sd) : 0 ≤ freeOf s d := by
  cases s with
  | over p t => exact Int.le_refl 0
  | main m t w e =>
    unfold freeOf
    dsimp only
    split
    · split <;> omega
    · omega
theorem runN_fallen {ss : List Stg} {w : Wd} {b : Bool} (h : w.fallen = some b) : ∀ n, runN ss n w = w
  | 0 => rfl
  | n + 1 => by
    unfold runN
    rw [h]
theorem runN_succ {ss : List Stg} {w : Wd} (h : w.fallen = none) (n : Nat) : runN ss (n + 1) w = runN ss n (passW ss w 1) := by
  rw [runN, h]
theorem runN_add (ss : List Stg) : ∀ (a b : Nat) (w : Wd), runN ss (a + b) w = runN ss b (runN ss a w)
  | 0, b, w => by rw [Nat.zero_add]; rfl
  | a + 1, b, w => by
    rw [Nat.succ_add]
    cases h : w.fallen with
    | some x => rw [runN_fallen h, runN_fallen h, runN_fallen h]
    | none => rw [Nat.add_one, runN_succ h, runN_succ h, runN_add ss a b]
/-- passing on, in two goes -/
theorem passBy_add (s : Stg) (d : Sd) {a b : Int} (ha : 0 ≤ a) (hb : 0 ≤ b) : passBy s (passBy s d a) b = passBy s d (a + b) := by
  have key : freeOf s (passBy s d a) = if freeOf s d - a > 0 then freeOf s d - a else 0 := by
    cases s with
    | over p t =>
      show (0 : Int) = if (0 : Int) - a > 0 then 0 - a else 0
      rw [if_neg (by omega)]
    | main m t w e =>
      show (if w = "wait" then (if e - (d.used + a) > 0 then e - (d.used + a) else 0) else 0) = if (if w = "wait" then (if e - d.used > 0 then e - d.used else 0) else 0) - a > 0 then (if w = "wait" then (if e - d.used > 0 then e - d.used else 0) else 0) - a else 0
      by_cases hw : w = "wait"
      · simp only [if_pos hw]
        split <;> split <;> (try split) <;> omega
      · simp only [if_neg hw]
        rw [if_neg (by omega)]
  have f0 := free_nonneg s d
  have e1 : (passBy s (passBy s d a) b).ticks = (passBy s d (a + b)).ticks := by
    show (d.ticks - (if a - freeOf s d > 0 then a - freeOf s d else 0)) - (if b - freeOf s (passBy s d a) > 0 then b - freeOf s (passBy s d a) else 0) = d.ticks - (if a + b - freeOf s d > 0 then a + b - freeOf s d else 0)
    rw [key]
    split <;> split <;> split <;> (try split) <;> omega
  have e2 : (passBy s (passBy s d a) b).used = (passBy s d (a + b)).used := by
    show d.used + a + b = d.used + (a + b)
    omega
  show ({ (passBy s d (a + b)) with used := (passBy s (passBy s d a) b).used, ticks := (passBy s (passBy s d a) b).ticks } : Sd) = passBy s d (a + b)
  rw [e1, e2]
theorem passBy_ticks (s : Stg) (d : Sd) {n : Int} (hp : 1 ≤ d.ticks) (hn : n < freeOf s d + d.ticks) : (passBy s d n).ticks > 0 := by
  show d.ticks - (if n - freeOf s d > 0 then n - freeOf s d else 0) > 0
  split <;> omega
theorem passBy_up (s : Stg) (d : Sd) (hp : 1 ≤ d.ticks) : (passBy s d (freeOf s d + d.ticks)).ticks = 0 := by
  show d.ticks - (if freeOf s d + d.ticks - freeOf s d > 0 then freeOf s d + d.ticks - freeOf s d else 0) = 0
  rw [if_pos (by omega)]
  omega
/-- the program's look: free + ticks is 0 just where the ticks are none -/
theorem until_zero (s : Stg) (d : Sd) {n : Int} (hp : 1 ≤ d.ticks) (h0 : 0 ≤ n) (hn : n ≤ freeOf s d + d.ticks) : (freeOf s (passBy s d n) + (passBy s d n).ticks = 0) ↔ ¬ (passBy s d n).ticks > 0 := by
  have key : freeOf s (passBy s d n) = if freeOf s d - n > 0 then freeOf s d - n else 0 := by
    cases s with
    | over p t =>
      show (0 : Int) = if (0 : Int) - n > 0 then 0 - n else 0
      rw [if_neg (by omega)]
    | main m t w e =>
      show (if w = "wait" then (if e - (d.used + n) > 0 then e - (d.used + n) else 0) else 0) = if (if w = "wait" then (if e - d.used > 0 then e - d.used else 0) else 0) - n > 0 then (if w = "wait" then (if e - d.used > 0 then e - d.used else 0) else 0) - n else 0
      by_cases hw : w = "wait"
      · simp only [if_pos hw]
        split <;> split <;> (try split) <;> omega
      · simp only [if_neg hw]
        rw [if_neg (by omega)]
  rw [key]
  show ((if freeOf s d - n > 0 then freeOf s d - n else 0) + (d.ticks - (if n - freeOf s d > 0 then n - freeOf s d else 0)) = 0) ↔ ¬ (d.ticks - (if n - freeOf s d > 0 then n - freeOf s d else 0)) > 0
  have f0 := free_nonneg s d
  constructor
  · intro h
    split at h <;> split at h <;> (try split) <;> omega
  · intro h
    split at h <;> split <;> (try split) <;> omega
theorem put_side (w : Wd) (b : Bool) (d : Sd) : (w.put b d).side b = d := by cases b <;> rfl
theorem put_put (w : Wd) (b : Bool) (d d' : Sd) : (w.put b d).put b d' = w.put b d' := by cases b <;> rfl
theorem put_turn (w : Wd) (b : Bool) (d : Sd) : (w.put b d).turn = w.turn := by cases b <;> rfl
theorem put_fallen (w : Wd) (b : Bool) (d : Sd) : (w.put b d).fallen = w.fallen := by cases b <;> rfl
theorem put_runs (w : Wd) (b : Bool) (d : Sd) : (w.put b d).runs = w.runs := by cases b <;> rfl
theorem put_total (w : Wd) (b : Bool) (d : Sd) : (w.put b d).total = w.total := by cases b <;> rfl
theorem side_tot (w : Wd) (b c : Bool) (d : Sd) (t : Int) : ({ w.put b d with total := t } : Wd).side c = (w.put b d).side c := by cases c <;> rfl
theorem put_tot (w : Wd) (b : Bool) (d d' : Sd) (t : Int) : ({ w.put b d with total := t } : Wd).put b d' = { w.put b d' with total := t } := by cases b <;> rfl
/-- many ticks are one by one -/
theorem passW_run {ss : List Stg} : ∀ (k : Nat) (w : Wd), w.fallen = none → 1 ≤ (w.side w.turn).ticks → 1 ≤ k → (k : Int) ≤ freeOf (curS ss (w.side w.turn)) (w.side w.turn) + (w.side w.turn).ticks → passW ss w k = runN ss k w
  | 0, _, _, _, h, _ => absurd h (by decide)
  | 1, w, hf, _, _, _ => by
    rw [runN_succ hf]
    rfl
  | k + 2, w, hf, hp, _, hk => by
    have hk : (k : Int) + 2 ≤ freeOf (curS ss (w.side w.turn)) (w.side w.turn) + (w.side w.turn).ticks := by
      have : ((k + 2 : Nat) : Int) = (k : Int) + 2 := by omega
      omega
    generalize hs : curS ss (w.side w.turn) = s at *
    have h1 : (passBy s (w.side w.turn) 1).ticks > 0 := passBy_ticks s _ hp (by omega)
    have e1 : passW ss w 1 = { w.put w.turn (passBy s (w.side w.turn) 1) with total := w.total + 1 } := by
      unfold passW evW
      rw [hs, if_pos h1]
    rw [runN_succ hf]
    have t1 : (passW ss w 1).turn = w.turn := by rw [e1]; exact put_turn ..
    have s1 : (passW ss w 1).side w.turn = passBy s (w.side w.turn) 1 := by rw [e1, side_tot, put_side]
    have f1 : (passW ss w 1).fallen = none := by rw [e1]; exact (put_fallen ..).trans hf
    have c1 : curS ss (passBy s (w.side w.turn) 1) = s := hs
    have ut : freeOf s (passBy s (w.side w.turn) 1) + (passBy s (w.side w.turn) 1).ticks = freeOf s (w.side w.turn) + (w.side w.turn).ticks - 1 := by
      cases s with
      | over p t =>
        show (0 : Int) + ((w.side w.turn).ticks - (if (1 : Int) - 0 > 0 then (1 : Int) - 0 else 0)) = 0 + (w.side w.turn).ticks - 1
        rw [if_pos (by decide)]
        omega
      | main m t wy e =>
        by_cases hw : wy = "wait"
        · show (if wy = "wait" then (if e - ((w.side w.turn).used + 1) > 0 then e - ((w.side w.turn).used + 1) else 0) else 0) + ((w.side w.turn).ticks - (if 1 - (if wy = "wait" then (if e - (w.side w.turn).used > 0 then e - (w.side w.turn).used else 0) else 0) > 0 then 1 - (if wy = "wait" then (if e - (w.side w.turn).used > 0 then e - (w.side w.turn).used else 0) else 0) else 0)) = (if wy = "wait" then (if e - (w.side w.turn).used > 0 then e - (w.side w.turn).used else 0) else 0) + (w.side w.turn).ticks - 1
          simp only [if_pos hw]
          split <;> split <;> split <;> omega
        · show (if wy = "wait" then (if e - ((w.side w.turn).used + 1) > 0 then e - ((w.side w.turn).used + 1) else 0) else 0) + ((w.side w.turn).ticks - (if 1 - (if wy = "wait" then (if e - (w.side w.turn).used > 0 then e - (w.side w.turn).used else 0) else 0) > 0 then 1 - (if wy = "wait" then (if e - (w.side w.turn).used > 0 then e - (w.side w.turn).used else 0) else 0) else 0)) = (if wy = "wait" then (if e - (w.side w.turn).used > 0 then e - (w.side w.turn).used else 0) else 0) + (w.side w.turn).ticks - 1
          simp only [if_neg hw]
          rw [if_pos (by decide)]
          omega
    have ih := passW_run (ss := ss) (k + 1) (passW ss w 1) f1 (by rw [t1, s1]; omega) (by omega) (by
      rw [t1, s1, c1]
      have : ((k + 1 : Nat) : Int) = (k : Int) + 1 := by omega
      omega)
    have ek : ((k + 2 : Nat) : Int) = 1 + ((k + 1 : Nat) : Int) := by omega
    rw [← ih, ek]
    have pa := passBy_add s (w.side w.turn) (a := 1) (b := ((k + 1 : Nat) : Int)) (by decide) (by omega)
    have tt : w.total + (1 + ((k + 1 : Nat) : Int)) = w.total + 1 + ((k + 1 : Nat) : Int) := by omega
    have p1 : passW ss w 1 = { w.put w.turn (passBy s (w.side w.turn) 1) with total := w.total + 1 } := e1
    have q2 : passW ss (passW ss w 1) ((k + 1 : Nat) : Int) = evW ss (passW ss w 1) s (passBy s (w.side w.turn) (1 + ((k + 1 : Nat) : Int))) (w.total + (1 + ((k + 1 : Nat) : Int))) := by
      show evW ss (passW ss w 1) (curS ss ((passW ss w 1).side (passW ss w 1).turn)) (passBy (curS ss ((passW ss w 1).side (passW ss w 1).turn)) ((passW ss w 1).side (passW ss w 1).turn) ((k + 1 : Nat) : Int)) ((passW ss w 1).total + ((k + 1 : Nat) : Int)) = _
      have tt1 : (passW ss w 1).total = w.total + 1 := by rw [p1]
      rw [t1, s1, c1, pa, tt1, tt]
    rw [q2, p1, evW_put]
    unfold passW
    rw [hs]
theorem wf_put {ss : List Stg} {w : Wd} {d : Sd} {tot : Int} (h : WF ss w) (hf : w.fallen = none) (hd : SOk ss d) : WF ss { w.put w.turn d with total := tot } := by
  obtain ⟨turn, runs, fallen, total, d0, d1⟩ := w
  cases turn
  · exact ⟨hd.cur, h.in1, fun _ => hd, h.ok1⟩
  · exact ⟨h.in0, hd.cur, h.ok0, fun _ => hd⟩
theorem begin_ok {ss : List Stg} (G : GoodS ss) {n : Nat} {s : Stg} {d : Sd} (hs : ss[n]? = some s) (ht : 0 ≤ d.ticks) (hu : 0 ≤ d.used) : SOk ss (beginOf s n d) := by
  have g := G.2 n s hs
  have hn := (List.getElem?_eq_some_iff.mp hs).1
  cases s with
  | over p t =>
    obtain ⟨g1, g2⟩ := g
    refine ⟨hn, g2, fun p' t' e => ?_, hu⟩
    have e2 : curS ss (beginOf (.over p t) n d) = .over p t := curS_of (d := beginOf (.over p t) n d) hs
    exact g1
  | main m t w e =>
    obtain ⟨g1, g2, g3⟩ := g
    refine ⟨hn, (show 1 ≤ d.ticks + t by omega), fun p' t' z => ?_, hu⟩
    have e2 : curS ss (beginOf (.main m t w e) n d) = .main m t w e := curS_of (d := beginOf (.main m t w e) n d) hs
    rw [e2] at z
    cases z
theorem passW_wf {ss : List Stg} (G : GoodS ss) {w : Wd} (h : WF ss w) (hf : w.fallen = none) {n : Int} (h0 : 0 ≤ n) (hn : n ≤ freeOf (curS ss (w.side w.turn)) (w.side w.turn) + (w.side w.turn).ticks) : WF ss (passW ss w n) := by
  have S := h.okS hf w.turn
  have hc := cur_get S.cur
  generalize hs : curS ss (w.side w.turn) = s at *
  have hd : (passBy s (w.side w.turn) n).at_ = (w.side w.turn).at_ := rfl
  have hp : (passBy s (w.side w.turn) n).periods = (w.side w.turn).periods := rfl
  have hu : 0 ≤ (passBy s (w.side w.turn) n).used := by
    have := S.use
    show 0 ≤ (w.side w.turn).used + n
    omega
  have hc1 : ∀ d : Sd, d.at_ = (w.side w.turn).at_ → curS ss d = s := fun d e => curS_of (by rw [e]; exact hc)
  have g := G.2 _ s hc
  have f0 := free_nonneg s (w.side w.turn)
  have ht : 0 ≤ (passBy s (w.side w.turn) n).ticks := by
    have := S.pos
    show 0 ≤ (w.side w.turn).ticks - (if n - freeOf s (w.side w.turn) > 0 then n - freeOf s (w.side w.turn) else 0)
    split <;> omega
  unfold passW
  rw [hs]
  unfold evW
  by_cases c : (passBy s (w.side w.turn) n).ticks > 0
  · rw [if_pos c]
    exact wf_put h hf ⟨S.cur, c, fun p t e => S.per p t (by rw [← e, hs]; exact (hc1 _ hd).symm), hu⟩
  · rw [if_neg c]
    have inn : (fallsOf ss s (passBy s (w.side w.turn) n)).2.at_ < ss.length := by
      cases s with
      | over p t => exact S.cur
      | main m t wy e =>
        cases m with
        | some m => exact S.cur
        | none =>
          show (match ss[(passBy (.main none t wy e) (w.side w.turn) n).at_ + 1]? with | some s' => (false, beginOf s' ((passBy (.main none t wy e) (w.side w.turn) n).at_ + 1) (passBy (.main none t wy e) (w.side w.turn) n)) | none => (true, (passBy (.main none t wy e) (w.side w.turn) n))).2.at_ < ss.length
          cases hx : ss[(passBy (.main none t wy e) (w.side w.turn) n).at_ + 1]? with
          | none => exact S.cur
          | some s' =>
            have hlt := (List.getElem?_eq_some_iff.mp hx).1
            cases s' <;> exact hlt
    by_cases c2 : (fallsOf ss s (passBy s (w.side w.turn) n)).1 = true
    · rw [if_pos c2]
      obtain ⟨turn, runs, fallen, total, d0, d1⟩ := w
      cases turn
      · exact ⟨inn, h.in1, (by intro z; cases z), (by intro z; cases z)⟩
      · exact ⟨h.in0, inn, (by intro z; cases z), (by intro z; cases z)⟩
    · rw [if_neg c2]
      refine wf_put h hf ?_
      cases s with
      | over p t =>
        have hper := S.per p t hs
        have c3 : ¬ ((passBy (.over p t) (w.side w.turn) n).periods - 1 = 0) := fun z => c2 (decide_eq_true z)
        rw [hp] at c3
        have c4 : (passBy (.over p t) (w.side w.turn) n).periods - 1 > 0 := by rw [hp]; omega
        refine ⟨S.cur, ?_, fun p' t' e => ?_, hu⟩
        · show 1 ≤ (if (passBy (.over p t) (w.side w.turn) n).periods - 1 > 0 then t else 0)
          rw [if_pos c4]
          exact g.2
        · show 1 ≤ (passBy (.over p t) (w.side w.turn) n).periods - 1
          omega
      | main m t wy e =>
        cases m with
        | some m => exact absurd rfl c2
        | none =>
          show SOk ss (match ss[(passBy (.main none t wy e) (w.side w.turn) n).at_ + 1]? with | some s' => (false, beginOf s' ((passBy (.main none t wy e) (w.side w.turn) n).at_ + 1) (passBy (.main none t wy e) (w.side w.turn) n)) | none => (true, (passBy (.main none t wy e) (w.side w.turn) n))).2
          have c3 : ¬ ((match ss[(passBy (.main none t wy e) (w.side w.turn) n).at_ + 1]? with | some s' => (false, beginOf s' ((passBy (.main none t wy e) (w.side w.turn) n).at_ + 1) (passBy (.main none t wy e) (w.side w.turn) n)) | none => (true, (passBy (.main none t wy e) (w.side w.turn) n))).1 = true) := c2
          cases hx : ss[(passBy (.main none t wy e) (w.side w.turn) n).at_ + 1]? with
          | none =>
            rw [hx] at c3
            exact absurd rfl c3
          | some s' => exact begin_ok G hx ht hu
theorem runN_wf {ss : List Stg} (G : GoodS ss) : ∀ (n : Nat) {w : Wd}, WF ss w → WF ss (runN ss n w)
  | 0, _, h => h
  | n + 1, w, h => by
    cases hf : w.fallen with
    | some b =>
      rw [runN_fallen hf]
      exact h
    | none =>
      rw [runN_succ hf]
      have S := h.okS hf w.turn
      have f0 := free_nonneg (curS ss (w.side w.turn)) (w.side w.turn)
      exact runN_wf G n (passW_wf G h hf (by decide) (by have := S.pos; omega))
theorem passW_total (ss : List Stg) (w : Wd) (n : Int) : (passW ss w n).total = w.total + n := by
  unfold passW evW
  split
  · rfl
  · split <;> rfl
theorem runN_total (ss : List Stg) : ∀ (n : Nat) (w : Wd), w.total ≤ (runN ss n w).total ∧ (runN ss n w).total ≤ w.total + n ∧ ((runN ss n w).fallen = none → (runN ss n w).total = w.total + n)
  | 0, w => ⟨Int.le_refl _, (show w.total ≤ w.total + ((0 : Nat) : Int) by omega), fun _ => (show w.total = w.total + ((0 : Nat) : Int) by omega)⟩
  | n + 1, w => by
    cases hf : w.fallen with
    | some b =>
      rw [runN_fallen hf]
      exact ⟨Int.le_refl _, by omega, fun z => by rw [hf] at z; cases z⟩
    | none =>
      rw [runN_succ hf]
      obtain ⟨a, b, c⟩ := runN_total ss n (passW ss w 1)
      rw [passW_total] at a b c
      exact ⟨by omega, by omega, fun z => by have := c z; omega⟩
theorem runN_runs {ss : List Stg} : ∀ (n : Nat) {w : Wd}, (runN ss n w).fallen = none → (runN ss n w).runs = w.runs
  | 0, _, _ => rfl
  | n + 1, w, h => by
    cases hf : w.fallen with
    | some b =>
      rw [runN_fallen hf]
    | none =>
      rw [runN_succ hf] at h ⊢
      rw [runN_runs n h]
      by_cases hp : (passW ss w 1).fallen = none
      · unfold passW evW at hp ⊢
        split at hp
        · rename_i c
          rw [if_pos c]
          exact put_runs ..
        · rename_i c
          split at hp
          · cases hp
          · rename_i c2
            rw [if_neg c, if_neg c2]
            exact put_runs ..
      · obtain ⟨b, hb⟩ := Option.ne_none_iff_exists'.mp hp
        rw [runN_fallen hb] at h
        rw [hb] at h
        cases h
/-! ### what is asked of a clock, what it tells -/
inductive Deed where
  | go (n : Int)
  | press (b : Bool)
  | start
  | stop
  | give (b : Bool) (n : Int)
inductive Kd where
  | t | n | o
def exW (ss : List Stg) (w : Wd) : Deed → Except Kd (V × Wd)
  | .go n => if n < 0 then .error .t else match w.fallen with
    | some _ => .error .o
    | none => if w.runs = true then .ok (.int ((runN ss n.toNat w).total - w.total), runN ss n.toNat w) else .ok (.int n, w)
  | .press b => match w.fallen with
    | some _ => .error .o
    | none => if w.runs = true ∧ b = w.turn then .ok (.non, { w.put w.turn (pressOf ss (curS ss (w.side w.turn)) (w.side w.turn)) with turn := !w.turn }) else .error .n
  | .start => match w.fallen with
    | some _ => .error .o
    | none => if w.runs = true then .error .n else .ok (.non, { w with runs := true })
  | .stop => match w.fallen with
    | some _ => .error .o
    | none => if w.runs = true then .ok (.non, { w with runs := false }) else .error .n
  | .give b n => match w.fallen with
    | some _ => .error .o
    | none => if w.runs = true then .error .n else if 1 ≤ (w.side b).ticks + n ∧ (w.side b).ticks + n ≤ 10000000 then .ok (.non, w.put b { w.side b with ticks := (w.side b).ticks + n }) else .error .t
theorem gain_nonneg {s : Stg} {d : Sd} (hu : 0 ≤ d.used) (he : ∀ m t w e, s = .main m t w e → 0 ≤ e) : 0 ≤ gain s d := by
  cases s with
  | over p t => exact Int.le_refl 0
  | main m t w e =>
    have := he m t w e rfl
    unfold gain
    dsimp only
    split
    · exact this
    · split
      · split <;> omega
      · omega
theorem press_ok {ss : List Stg} (G : GoodS ss) {d : Sd} (S : SOk ss d) : SOk ss (pressOf ss (curS ss d) d) := by
  have hc := cur_get S.cur
  have g := G.2 _ _ hc
  have gn : 0 ≤ gain (curS ss d) d := gain_nonneg S.use (fun m t w e h => by
    rw [h] at g
    exact g.2.1)
  generalize hs : curS ss d = s at *
  have hcs : ∀ d' : Sd, d'.at_ = d.at_ → curS ss d' = s := fun d' e => curS_of (by rw [e]; exact hc)
  cases s with
  | over p t => exact ⟨S.cur, g.2, fun p' t' _ => S.per p t hs, Int.le_refl 0⟩
  | main m t w e =>
    have o1 : SOk ss (pressed (.main m t w e) d) := by
      have := S.pos
      refine ⟨S.cur, (show 1 ≤ d.ticks + gain (.main m t w e) d by omega), fun p' t' h => ?_, Int.le_refl 0⟩
      have z := hcs (pressed (.main m t w e) d) rfl
      rw [z] at h
      cases h
    show SOk ss (if m = some (d.made + 1) then (match ss[d.at_ + 1]? with | some s' => beginOf s' (d.at_ + 1) (pressed (.main m t w e) d) | none => pressed (.main m t w e) d) else pressed (.main m t w e) d)
    split
    · split
      · rename_i s' hx
        exact begin_ok G hx (by have := o1.pos; omega) (Int.le_refl 0)
      · exact o1
    · exact o1
theorem exW_wf {ss : List Stg} (G : GoodS ss) {w w' : Wd} {v : V} {q : Deed} (h : WF ss w) (e : exW ss w q = .ok (v, w')) : WF ss w' := by
  cases q with
  | go n =>
    unfold exW at e
    dsimp only at e
    split at e
    · cases e
    · split at e
      · cases e
      · split at e
        · cases e
          exact runN_wf G _ h
        · cases e
          exact h
  | press b =>
    unfold exW at e
    dsimp only at e
    split at e
    · cases e
    · rename_i hf
      split at e
      · cases e
        have S := h.okS hf w.turn
        have P := press_ok G S
        obtain ⟨turn, runs, fallen, total, d0, d1⟩ := w
        cases turn
        · exact ⟨P.cur, h.in1, fun _ => P, h.ok1⟩
        · exact ⟨h.in0, P.cur, h.ok0, fun _ => P⟩
      · cases e
  | start =>
    unfold exW at e
    dsimp only at e
    split at e
    · cases e
    · split at e
      · cases e
      · cases e
        exact ⟨h.in0, h.in1, h.ok0, h.ok1⟩
  | stop =>
    unfold exW at e
    dsimp only at e
    split at e
    · cases e
    · split at e
      · cases e
        exact ⟨h.in0, h.in1, h.ok0, h.ok1⟩
      · cases e
  | give b n =>
    unfold exW at e
    dsimp only at e
    split at e
    · cases e
    · rename_i hf
      split at e
      · cases e
      · split at e
        · rename_i c
          cases e
          have S := h.okS hf b
          have o1 : SOk ss { w.side b with ticks := (w.side b).ticks + n } := ⟨S.cur, c.1, S.per, S.use⟩
          obtain ⟨turn, runs, fallen, total, d0, d1⟩ := w
          cases b
          · exact ⟨o1.cur, h.in1, fun _ => o1, h.ok1⟩
          · exact ⟨h.in0, o1.cur, h.ok0, fun _ => o1⟩
        · cases e
def wd0 (ss : List Stg) : Wd := ⟨false, false, none, 0, side0 (ss.getD 0 (.over 1 1)), side0 (ss.getD 0 (.over 1 1))⟩
theorem wd0_wf {ss : List Stg} (G : GoodS ss) : WF ss (wd0 ss) := by
  have h0 : ss[0]? = some (ss.getD 0 (.over 1 1)) := by
    rw [List.getD_eq_getElem?_getD, List.getElem?_eq_getElem G.1]
    rfl
  have o : SOk ss (side0 (ss.getD 0 (.over 1 1))) := begin_ok G h0 (Int.le_refl 0) (Int.le_refl 0)
  exact ⟨o.cur, o.cur, fun _ => o, fun _ => o⟩
theorem exW_start {ss : List Stg} {w : Wd} (hf : w.fallen = none) : exW ss w .start = if w.runs = true then .error .n else .ok (.non, { w with runs := true }) := by
  unfold exW
  dsimp only
  split
  · rename_i h
    rw [hf] at h
    cases h
  · rfl
theorem exW_startO {ss : List Stg} {w : Wd} {f : Bool} (hf : w.fallen = some f) : exW ss w .start = .error .o := by
  unfold exW
  dsimp only
  split
  · rfl
  · rename_i h
    rw [hf] at h
    cases h
theorem exW_stop {ss : List Stg} {w : Wd} (hf : w.fallen = none) : exW ss w .stop = if w.runs = true then .ok (.non, { w with runs := false }) else .error .n := by
  unfold exW
  dsimp only
  split
  · rename_i h
    rw [hf] at h
    cases h
  · rfl
theorem exW_stopO {ss : List Stg} {w : Wd} {f : Bool} (hf : w.fallen = some f) : exW ss w .stop = .error .o := by
  unfold exW
  dsimp only
  split
  · rfl
  · rename_i h
    rw [hf] at h
    cases h
theorem exW_press {ss : List Stg} {w : Wd} {b : Bool} (hf : w.fallen = none) : exW ss w (.press b) = if w.runs = true ∧ b = w.turn then .ok (.non, { w.put w.turn (pressOf ss (curS ss (w.side w.turn)) (w.side w.turn)) with turn := !w.turn }) else .error .n := by
  unfold exW
  dsimp only
  split
  · rename_i h
    rw [hf] at h
    cases h
  · rfl
theorem exW_pressO {ss : List Stg} {w : Wd} {b : Bool} {f : Bool} (hf : w.fallen = some f) : exW ss w (.press b) = .error .o := by
  unfold exW
  dsimp only
  split
  · rfl
  · rename_i h
    rw [hf] at h
    cases h
theorem exW_give {ss : List Stg} {w : Wd} {b : Bool} {n : Int} (hf : w.fallen = none) : exW ss w (.give b n) = if w.runs = true then .error .n else if 1 ≤ (w.side b).ticks + n ∧ (w.side b).ticks + n ≤ 10000000 then .ok (.non, w.put b { w.side b with ticks := (w.side b).ticks + n }) else .error .t := by
  unfold exW
  dsimp only
  split
  · rename_i h
    rw [hf] at h
    cases h
  · rfl
theorem exW_giveO {ss : List Stg} {w : Wd} {b : Bool} {n : Int} {f : Bool} (hf : w.fallen = some f) : exW ss w (.give b n) = .error .o := by
  unfold exW
  dsimp only
  split
  · rfl
  · rename_i h
    rw [hf] at h
    cases h
theorem exW_go0 {ss : List Stg} {w : Wd} {n : Int} (hn : n < 0) : exW ss w (.go n) = .error .t := if_pos hn
theorem exW_goO {ss : List Stg} {w : Wd} {n : Int} {f : Bool} (hn : ¬ n < 0) (hf : w.fallen = some f) : exW ss w (.go n) = .error .o := by
  refine (if_neg hn).trans ?_
  rw [hf]
theorem exW_go {ss : List Stg} {w : Wd} {n : Int} (hn : ¬ n < 0) (hf : w.fallen = none) : exW ss w (.go n) = if w.runs = true then .ok (.int ((runN ss n.toNat w).total - w.total), runN ss n.toNat w) else .ok (.int n, w) := by
  refine (if_neg hn).trans ?_
  rw [hf]
/-! ### a clock in the heap -/
structure CAdr where
  p : Addr
  dx : Addr
  lb : Addr
  q0 : Addr
  dx0 : Addr
  l0 : Addr
  q1 : Addr
  dx1 : Addr
  l1 : Addr
  as : List Addr
def CAdr.q (R : CAdr) (b : Bool) : Addr := match b with
  | true => R.q1
  | false => R.q0
def CAdr.dxs (R : CAdr) (b : Bool) : Addr := match b with
  | true => R.dx1
  | false => R.dx0
def CAdr.l (R : CAdr) (b : Bool) : Addr := match b with
  | true => R.l1
  | false => R.l0
@[reducible] def fv : Option Bool → V
  | none => .non
  | some b => .int (ti b)
def cf (lb : Addr) (w : Wd) : List (Str × V) := [("both", .ref lb), ("turn", .int (ti w.turn)), ("runs", .bl w.runs), ("fallen", fv w.fallen), ("total", .int w.total)]
structure ClockAt (CC CS : Addr) (H : Hp) (R : CAdr) (ss : List Stg) (w : Wd) : Prop where
  ob : H R.p = some (.ins CC R.dx (cf R.lb w))
  lst : H R.lb = some (.lst [.ref R.q0, .ref R.q1])
  sd : ∀ b, H (R.q b) = some (.ins CS (R.dxs b) (sf (R.l b) (w.side b)))
  st : ∀ b, StL H (R.l b) R.as ss
  ne : ∀ b, R.p ≠ R.q b
  n01 : R.q0 ≠ R.q1
/-- what stood elsewhere stands -/
def Fr (H H' : Hp) (R : CAdr) : Prop := ∀ b o, H b = some o → b ≠ R.p → b ≠ R.q0 → b ≠ R.q1 → H' b = some o
theorem Fr.refl (H : Hp) (R : CAdr) : Fr H H R := fun _ _ e _ _ _ => e
theorem Fr.q {H H' : Hp} {R : CAdr} {b : Bool} {o : HO} (f : Fr H H' R) : Fr H (upd H' (R.q b) o) R := fun c u e h1 h2 h3 => by
  rw [upd_ne (by cases b; exact h2; exact h3)]
  exact f c u e h1 h2 h3
theorem Fr.p {H H' : Hp} {R : CAdr} {o : HO} (f : Fr H H' R) : Fr H (upd H' R.p o) R := fun c u e h1 h2 h3 => by
  rw [upd_ne h1]
  exact f c u e h1 h2 h3
section
variable {CC CS : Addr} {H : Hp} {R : CAdr} {ss : List Stg} {w w' : Wd}
theorem ClockAt.sideS (c : ClockAt CC CS H R ss w) (b : Bool) (h : (w.side b).at_ < ss.length) : SideS CS H (R.q b) (R.dxs b) (R.l b) R.as ss (w.side b) (curS ss (w.side b)) := ⟨c.sd b, c.st b, cur_get h⟩
theorem ClockAt.put (c : ClockAt CC CS H R ss w) (b : Bool) (d : Sd) : ClockAt CC CS (upd H (R.q b) (.ins CS (R.dxs b) (sf (R.l b) d))) R ss (w.put b d) := by
  refine ⟨?_, ?_, fun b' => ?_, fun b' => (c.st b').upd (c.sd b), c.ne, c.n01⟩
  · rw [upd_ne (c.ne b)]
    have e : cf R.lb (w.put b d) = cf R.lb w := by cases b <;> rfl
    rw [e]
    exact c.ob
  · rw [upd_ne (ne_of c.lst (c.sd b) (by intro z; cases z))]
    exact c.lst
  · cases b <;> cases b'
    · exact upd_same
    · exact (upd_ne (Ne.symm c.n01)).trans (c.sd true)
    · exact (upd_ne c.n01).trans (c.sd false)
    · exact upd_same
theorem ClockAt.setp (c : ClockAt CC CS H R ss w) (h : ∀ b, w'.side b = w.side b) : ClockAt CC CS (upd H R.p (.ins CC R.dx (cf R.lb w'))) R ss w' := by
  refine ⟨upd_same, ?_, fun b' => ?_, fun b' => (c.st b').upd c.ob, c.ne, c.n01⟩
  · rw [upd_ne (ne_of c.lst c.ob (by intro z; cases z))]
    exact c.lst
  · rw [upd_ne (Ne.symm (c.ne b')), h b']
    exact c.sd b'
theorem ClockAt.cast (c : ClockAt CC CS H R ss w) (h : w = w') : ClockAt CC CS H R ss w' := h ▸ c
theorem at_both (R : CAdr) (b : Bool) : atI [V.ref R.q0, V.ref R.q1] (ti b) = some (.ref (R.q b)) := by cases b <;> rfl
end
def kc (cT cN cO : Addr) : Kd → Addr
  | .t => cT
  | .n => cN
  | .o => cO
/-- how a method ends -/
def outC (CC CS cT cN cO : Addr) (R : CAdr) (ss : List Stg) (H : Hp) (Q : VK) (E : XK) : Except Kd (V × Wd) → Prop
  | .ok (v, w') => ∀ H', ClockAt CC CS H' R ss w' → Fr H H' R → Q v H'
  | .error k => E (.ref (kc cT cN cO k)) none H
def spLook (CC cO : Addr) : Sp := fun vs H Q E => ∃ p dx lb, ∃ w : Wd, vs = [.ref p] ∧ H p = some (.ins CC dx (cf lb w)) ∧ (w.fallen = none → Q .non H) ∧ (∀ b, w.fallen = some b → E (.ref cO) none H)
def spStart (CC CS cT cN cO : Addr) : Sp := fun vs H Q E => ∃ R ss w, vs = [.ref R.p] ∧ ClockAt CC CS H R ss w ∧ outC CC CS cT cN cO R ss H Q E (exW ss w .start)
def spStop (CC CS cT cN cO : Addr) : Sp := fun vs H Q E => ∃ R ss w, vs = [.ref R.p] ∧ ClockAt CC CS H R ss w ∧ outC CC CS cT cN cO R ss H Q E (exW ss w .stop)
def spGo (CC CS cT cN cO : Addr) : Sp := fun vs H Q E => ∃ R ss w n, vs = [.ref R.p, .int n] ∧ ClockAt CC CS H R ss w ∧ GoodS ss ∧ WF ss w ∧ outC CC CS cT cN cO R ss H Q E (exW ss w (.go n))
def spPress (CC CS cT cN cO : Addr) : Sp := fun vs H Q E => ∃ R ss w b, vs = [.ref R.p, .int (ti b)] ∧ ClockAt CC CS H R ss w ∧ GoodS ss ∧ WF ss w ∧ outC CC CS cT cN cO R ss H Q E (exW ss w (.press b))
def spGive (CC CS cT cN cO : Addr) : Sp := fun vs H Q E => ∃ R ss w b n, vs = [.ref R.p, .int (ti b), .int n] ∧ ClockAt CC CS H R ss w ∧ outC CC CS cT cN cO R ss H Q E (exW ss w (.give b n))
/-- what is told of a side, of the game -/
def stT (d : Sd) : List V := [.int d.ticks, .int d.periods, .int d.moved, .int d.at_, .int d.used]
def gmT (w : Wd) : List V := [.int (ti w.turn), .bl w.runs, fv w.fallen, .int w.total]
def spState (CC CS : Addr) : Sp := fun vs H Q _ => ∃ R ss w b, vs = [.ref R.p, .int (ti b)] ∧ ClockAt CC CS H R ss w ∧ ∀ t, H t = none → Q (.ref t) (upd H t (.tup (stT (w.side b))))
def spGame (CC CS : Addr) : Sp := fun vs H Q _ => ∃ R ss w, vs = [.ref R.p] ∧ ClockAt CC CS H R ss w ∧ ∀ t, H t = none → Q (.ref t) (upd H t (.tup (gmT w)))
section
variable {P : Program} {w : World} {K : PySem.W.Frag} {mg : Str → Option Value} {base : Heap} {CS CC cE cB cT cN cO aW : Addr} (T : Txt K mg CS CC cE cB cT cN cO aW)
include T
theorem ok_look (d : MDef K CC "look" "Clock.look" s_Clock_look ["self"]) : MetX P w K mg base (L2.CX P w) 1 CC "look" (spLook CC cO) := by
  refine MetX.ofX d T.clC sc_Clock_look (fun vs H Q E h => ?_) (fun f cdv A outer s H vs Q E hr h => ?_)
  · obtain ⟨p, dx, lb, w, rfl, _⟩ := h
    rfl
  · obtain ⟨p, dx, lb, w, rfl, hp, q1, q2⟩ := h
    refine ⟨_, (pss_one (ps_if (pt_cmpR op_notN (pe_fld (pv 0) rfl) pe_non (nomark _)) (pss_one (ps_raise rfl (takes_of rfl rfl rfl rfl) (pmk_own PySem.F.excBase_ValueError T.eO.x T.g_Over T.eO.k (raises_own T.eO.s T.eO.t) (by exact rfl)))) pss_nil)), ?_⟩
    walk_at "rd"
    cases hf : w.fallen with
    | none =>
      walk_at "rd"
      exact q1 hf
    | some b =>
      walk_at "rd"
      exact q2 b hf
theorem ok_start (c_Clock_look : MetX P w K mg base (L2.CX P w) 1 CC "look" (spLook CC cO)) (d : MDef K CC "start" "Clock.start" s_Clock_start ["self"]) : MetX P w K mg base (L2.CX P w) 2 CC "start" (spStart CC CS cT cN cO) := by
  refine MetX.ofX d T.clC sc_Clock_start (fun vs H Q E h => ?_) (fun f cdv A outer s H vs Q E hr h => ?_)
  · obtain ⟨R, ss, w, rfl, _⟩ := h
    rfl
  · obtain ⟨R, ss, w, rfl, c, q⟩ := h
    refine ⟨_, (pss_cons (ps_expr (pe_mtX0 c_Clock_look hr (by decide) (passes_call (takes_of rfl rfl rfl rfl) (fun _ _ _ _ h => h)) (pv 0)))
 (pss_cons (ps_if (pt_val (pe_fld (pv 0) rfl)) (pss_one (ps_raise rfl (takes_of rfl rfl rfl rfl) (pmk_own PySem.F.excBase_ValueError T.eN.x T.g_NotNow T.eN.k (raises_own T.eN.s T.eN.t) (by exact rfl)))) pss_nil)
 (pss_one (ps_fld (pv 0) pe_bl rfl)))), ?_⟩
    have hp := c.ob
    walk_at "rd"
    refine ⟨R.p, R.dx, R.lb, w, rfl, hp, fun hf => ?_, fun b hf => ?_⟩
    · rw [exW_start hf] at q
      walk_at "rd"
      by_cases hr1 : w.runs = true
      · rw [if_pos hr1] at q
        walk_at "rd"
        exact q
      · rw [if_neg hr1] at q
        have hr2 : w.runs = false := by simpa using hr1
        walk_at "rd"
        exact q _ (c.setp (w' := { w with runs := true }) (fun b => by cases b <;> rfl)) (Fr.refl _ _).p
    · rw [exW_startO hf] at q
      exact q
theorem ok_stop (c_Clock_look : MetX P w K mg base (L2.CX P w) 1 CC "look" (spLook CC cO)) (d : MDef K CC "stop" "Clock.stop" s_Clock_stop ["self"]) : MetX P w K mg base (L2.CX P w) 2 CC "stop" (spStop CC CS cT cN cO) := by
  refine MetX.ofX d T.clC sc_Clock_stop (fun vs H Q E h => ?_) (fun f cdv A outer s H vs Q E hr h => ?_)
  · obtain ⟨R, ss, w, rfl, _⟩ := h
    rfl
  · obtain ⟨R, ss, w, rfl, c, q⟩ := h
    refine ⟨_, (pss_cons (ps_expr (pe_mtX0 c_Clock_look hr (by decide) (passes_call (takes_of rfl rfl rfl rfl) (fun _ _ _ _ h => h)) (pv 0)))
 (pss_cons (ps_if (pt_not (pt_val (pe_fld (pv 0) rfl))) (pss_one (ps_raise rfl (takes_of rfl rfl rfl rfl) (pmk_own PySem.F.excBase_ValueError T.eN.x T.g_NotNow T.eN.k (raises_own T.eN.s T.eN.t) (by exact rfl)))) pss_nil)
 (pss_one (ps_fld (pv 0) pe_bl rfl)))), ?_⟩
    have hp := c.ob
    walk_at "rd"
    refine ⟨R.p, R.dx, R.lb, w, rfl, hp, fun hf => ?_, fun b hf => ?_⟩
    · rw [exW_stop hf] at q
      walk_at "rd"
      by_cases hr1 : w.runs = true
      · rw [if_pos hr1] at q
        walk_at "rd"
        exact q _ (c.setp (w' := { w with runs := false }) (fun b => by cases b <;> rfl)) (Fr.refl _ _).p
      · rw [if_neg hr1] at q
        have hr2 : w.runs = false := by simpa using hr1
        walk_at "rd"
        exact q
    · rw [exW_stopO hf] at q
      exact q
theorem ok_game (d : MDef K CC "game" "Clock.game" s_Clock_game ["self"]) : MetX P w K mg base CX0 1 CC "game" (spGame CC CS) := by
  refine MetX.of0 d T.clC sc_Clock_game (fun vs H Q E h => ?_) (fun f cdv A outer s H vs Q E hr h => ?_)
  · obtain ⟨R, ss, w, rfl, _⟩ := h
    rfl
  · obtain ⟨R, ss, w, rfl, c, q⟩ := h
    refine ⟨_, (pss_one (ps_ret (pe_tup (pa_cons (pe_fld (pv 0) rfl) (pa_cons (pe_fld (pv 0) rfl) (pa_cons (pe_fld (pv 0) rfl) (pa_cons (pe_fld (pv 0) rfl) pa_nil))))))), ?_⟩
    have hp := c.ob
    walk_at "rd"
    exact q
theorem ok_press (c_Clock_look : MetX P w K mg base (L2.CX P w) 1 CC "look" (spLook CC cO)) (c_Side_press : MetX P w K mg base CX0 4 CS "press" (spPressS CS)) (d : MDef K CC "press" "Clock.press" s_Clock_press ["self", "who"]) : MetX P w K mg base (L2.CX P w) 5 CC "press" (spPress CC CS cT cN cO) := by
  refine MetX.ofX d T.clC sc_Clock_press (fun vs H Q E h => ?_) (fun f cdv A outer s H vs Q E hr h => ?_)
  · obtain ⟨R, ss, w, b, rfl, _⟩ := h
    rfl
  · obtain ⟨R, ss, w, b, rfl, c, G, hw, q⟩ := h
    refine ⟨_, (pss_cons (ps_expr (pe_mtX0 c_Clock_look hr (by decide) (passes_call (takes_of rfl rfl rfl rfl) (fun _ _ _ _ h => h)) (pv 0)))
 (pss_cons (ps_if (PW.pt (pw_or (pt_not (pt_val (pe_fld (pv 0) rfl))) (pw_or1 (pt_cmpR op_ne (pv 1) (pe_fld (pv 0) rfl) (nomark _))))) (pss_one (ps_raise rfl (takes_of rfl rfl rfl rfl) (pmk_own PySem.F.excBase_ValueError T.eN.x T.g_NotNow T.eN.k (raises_own T.eN.s T.eN.t) (by exact rfl)))) pss_nil)
 (pss_cons (ps_expr (pe_mtX0 c_Side_press hr (by decide) pass0 (pe_ix ix_list (pe_fld (pv 0) rfl) (pv 1) (fun _ _ => rfl))))
 (pss_one (ps_fld (pv 0) (pe_op op_sub pe_int (pv 1)) rfl))))), ?_⟩
    have hp := c.ob
    have hl := c.lst
    walk_at "rd"
    refine ⟨R.p, R.dx, R.lb, w, rfl, hp, fun hf => ?_, fun b2 hf => ?_⟩
    · rw [exW_press hf] at q
      walk_at "rd"
      by_cases hr1 : w.runs = true
      · walk_at "rd"
        by_cases hb : b = w.turn
        · subst hb
          rw [if_pos ⟨hr1, rfl⟩] at q
          have ht : ti w.turn = ti w.turn := rfl
          walk_at "rd"
          have hs := c.sd w.turn
          have hx := at_both R w.turn
          walk_at "rd"
          have hin := hw.inS w.turn
          have SS := c.sideS w.turn hin
          refine ⟨R.q w.turn, R.dxs w.turn, R.l w.turn, R.as, ss, _, _, rfl, SS, fun m t wy e hm => ?_, ?_⟩
          · have g := G.2 _ _ (cur_get hin)
            rw [hm] at g
            exact g.2.2 (by intro z; cases z)
          · have c1 := c.put w.turn (pressOf ss (curS ss (w.side w.turn)) (w.side w.turn))
            have hp1 := c1.ob
            walk_at "rd"
            have c2 := c1.setp (w' := { w.put w.turn (pressOf ss (curS ss (w.side w.turn)) (w.side w.turn)) with turn := !w.turn }) (fun b => by cases b <;> rfl)
            have et : cf R.lb { w.put w.turn (pressOf ss (curS ss (w.side w.turn)) (w.side w.turn)) with turn := !w.turn } = putF "turn" (.int (1 - ti w.turn)) (cf R.lb (w.put w.turn (pressOf ss (curS ss (w.side w.turn)) (w.side w.turn)))) := by
              obtain ⟨turn, runs, fallen, total, d0, d1⟩ := w
              cases turn <;> rfl
            rw [et] at c2
            exact q _ c2 (Fr.refl _ _).q.p
        · rw [if_neg (fun z => hb z.2)] at q
          have ht : ¬ ti b = ti w.turn := fun z => hb (by cases b <;> cases h2 : w.turn <;> rw [h2] at z <;> first | rfl | cases z)
          walk_at "rd"
          exact q
      · rw [if_neg (fun z => hr1 z.1)] at q
        have hr2 : w.runs = false := by simpa using hr1
        walk_at "rd"
        exact q
    · rw [exW_pressO hf] at q
      exact q
theorem ok_give (c_Clock_look : MetX P w K mg base (L2.CX P w) 1 CC "look" (spLook CC cO)) (d : MDef K CC "give" "Clock.give" s_Clock_give ["self", "who", "ticks"]) : MetX P w K mg base (L2.CX P w) 2 CC "give" (spGive CC CS cT cN cO) := by
  refine MetX.ofX d T.clC sc_Clock_give (fun vs H Q E h => ?_) (fun f cdv A outer s H vs Q E hr h => ?_)
  · obtain ⟨R, ss, w, b, n, rfl, _⟩ := h
    rfl
  · obtain ⟨R, ss, w, b, n, rfl, c, q⟩ := h
    refine ⟨_, (pss_cons (ps_expr (pe_mtX0 c_Clock_look hr (by decide) (passes_call (takes_of rfl rfl rfl rfl) (fun _ _ _ _ h => h)) (pv 0)))
 (pss_cons (ps_if (pt_val (pe_fld (pv 0) rfl)) (pss_one (ps_raise rfl (takes_of rfl rfl rfl rfl) (pmk_own PySem.F.excBase_ValueError T.eN.x T.g_NotNow T.eN.k (raises_own T.eN.s T.eN.t) (by exact rfl)))) pss_nil)
 (pss_cons (ps_set (i := 3) sc_Clock_give.nd rfl (Or.inl rfl) (pe_ix ix_list (pe_fld (pv 0) rfl) (pv 1) (fun _ _ => rfl)))
 (pss_cons (ps_if (pt_not (pt_chain op_le op_le pe_int (pe_op op_add (pe_fld (pv 3) rfl) (pv 2)) (pe_op op_mul pe_int (C8.pe_gc rfl T.g_MOST_TICKS)))) (pss_one (ps_raise rfl (takes_of rfl rfl rfl rfl) (pmk_own PySem.F.excBase_ValueError T.eT.x T.g_BadTicks T.eT.k (raises_own T.eT.s T.eT.t) (by exact rfl)))) pss_nil)
 (pss_one (ps_fld (pv 3) (pe_op op_add (pe_fld (pv 3) rfl) (pv 2)) rfl)))))), ?_⟩
    have hp := c.ob
    have hl := c.lst
    have hs := c.sd b
    have hx := at_both R b
    walk_at "rd"
    refine ⟨R.p, R.dx, R.lb, w, rfl, hp, fun hf => ?_, fun b2 hf => ?_⟩
    · rw [exW_give hf] at q
      walk_at "rd"
      by_cases hr1 : w.runs = true
      · rw [if_pos hr1] at q
        walk_at "rd"
        exact q
      · rw [if_neg hr1] at q
        have hr2 : w.runs = false := by simpa using hr1
        walk_at "rd"
        by_cases h1 : 1 ≤ (w.side b).ticks + n
        · by_cases h2 : (w.side b).ticks + n ≤ 10000000
          · rw [if_pos ⟨h1, h2⟩] at q
            walk_at "rd"
            exact q _ (c.put b { w.side b with ticks := (w.side b).ticks + n }) (Fr.refl _ _).q
          · rw [if_neg (fun z => h2 z.2)] at q
            walk_at "rd"
            exact q
        · rw [if_neg (fun z => h1 z.1)] at q
          walk_at "rd"
          exact q
    · rw [exW_giveO hf] at q
      exact q
theorem ok_go (c_Clock_look : MetX P w K mg base (L2.CX P w) 1 CC "look" (spLook CC cO)) (c_Side_until : MetX P w K mg base CX0 4 CS "until" (spUntil CS)) (c_Side_pass_by : MetX P w K mg base CX0 4 CS "pass_by" (spPassBy CS)) (c_Side_falls : MetX P w K mg base CX0 4 CS "falls" (spFalls CS))
    (d : MDef K CC "go" "Clock.go" s_Clock_go ["self", "ticks"]) : MetX P w K mg base (L2.CX P w) 5 CC "go" (spGo CC CS cT cN cO) := by
  refine MetX.ofX d T.clC sc_Clock_go (fun vs H Q E h => ?_) (fun f cdv A outer s H vs Q E hr h => ?_)
  · obtain ⟨R, ss, w, n, rfl, _⟩ := h
    rfl
  · obtain ⟨R, ss, w, n, rfl, c, G, hw, q⟩ := h
    refine ⟨_, (pss_cons (ps_if (pt_cmpR op_lt (pv 1) pe_int (nomark _)) (pss_one (ps_raise rfl (takes_of rfl rfl rfl rfl) (pmk_own PySem.F.excBase_ValueError T.eT.x T.g_BadTicks T.eT.k (raises_own T.eT.s T.eT.t) (by exact rfl)))) pss_nil)
 (pss_cons (ps_expr (pe_mtX0 c_Clock_look hr (by decide) (passes_call (takes_of rfl rfl rfl rfl) (fun _ _ _ _ h => h)) (pv 0)))
 (C8.pss_cut (ps_set (i := 2) sc_Clock_go.nd rfl (Or.inl rfl) (pe_ifExp (pt_val (pe_fld (pv 0) rfl)) (pv 1) pe_int))
 (pss_cons (ps_set (i := 3) sc_Clock_go.nd rfl (Or.inl rfl) (pe_ix ix_list (pe_fld (pv 0) rfl) (pe_fld (pv 0) rfl) (fun _ _ => rfl)))
 (pss_cons (ps_while (passes_of rfl) (PW.pt (pw_and (pt_cmpR op_gt (pv 2) pe_int (nomark _)) (pw_and1 (pt_cmpR op_isN (pe_fld (pv 0) rfl) pe_non (nomark _))))) (pss_cons (ps_set (i := 4) sc_Clock_go.nd rfl (Or.inl rfl) (pe_callB (call_min2 rfl) (by rfl) T.b_min (by decide +kernel) (pa_cons (pv 2) (pa_cons (pe_mtX0 c_Side_until hr (by decide) pass0 (pv 3)) pa_nil))))
 (pss_cons (ps_expr (pe_mtX c_Side_pass_by hr (by decide) pass0 (pv 3) (pa_cons (pv 4) pa_nil)))
 (pss_cons (ps_set (i := 2) sc_Clock_go.nd rfl (Or.inl rfl) (pe_op op_sub (pv 2) (pv 4)))
 (pss_cons (ps_fld (pv 0) (pe_op op_add (pe_fld (pv 0) rfl) (pv 4)) rfl)
 (pss_one (ps_if (PW.pt (pw_and (pt_cmpR op_eq (pe_mtX0 c_Side_until hr (by decide) pass0 (pv 3)) pe_int (nomark _)) (pw_and1 (pt_val (pe_mtX0 c_Side_falls hr (by decide) pass0 (pv 3)))))) (pss_cons (ps_fld (pv 0) (pe_fld (pv 0) rfl) rfl)
 (pss_one (ps_fld (pv 0) pe_bl rfl))) pss_nil)))))))
 (pss_one (ps_ret (pe_op op_sub (pv 1) (pv 2))))))))), ?_⟩
    have hp := c.ob
    have hl := c.lst
    walk_at "rd"
    by_cases hn : n < 0
    · rw [exW_go0 hn] at q
      walk_at "rd"
      exact q
    · walk_at "rd"
      refine ⟨R.p, R.dx, R.lb, w, rfl, hp, fun hf => ?_, fun b2 hf => ?_⟩
      · rw [exW_go hn hf] at q
        walk_at "rd"
        obtain ⟨L, hL, hL0, hLq⟩ : ∃ L : Int, (if w.runs = true then n else 0) = L ∧ 0 ≤ L ∧ (∀ H', ClockAt CC CS H' R ss (runN ss L.toNat w) → Fr H H' R → Q (.int (n - L + ((runN ss L.toNat w).total - w.total))) H') := by
          refine ⟨_, rfl, ?_, ?_⟩
          · split <;> omega
          · by_cases hr1 : w.runs = true
            · rw [if_pos hr1] at q ⊢
              intro H' c' f'
              have e : n - n + ((runN ss n.toNat w).total - w.total) = (runN ss n.toNat w).total - w.total := by omega
              rw [e]
              exact q H' c' f'
            · rw [if_neg hr1] at q ⊢
              intro H' c' f'
              have e : n - 0 + ((runN ss (0 : Int).toNat w).total - w.total) = n := by
                show n - 0 + (w.total - w.total) = n
                omega
              rw [e]
              exact q H' c' f'
        refine k_cut (fun σ' H' => σ' = [some (.ref R.p), some (.int n), some (.int L), none, none] ∧ H' = H) ?_ ?_
        · by_cases hr1 : w.runs = true
          · rw [if_pos hr1] at hL
            subst hL
            walk_at "rd"
            exact ⟨rfl, rfl⟩
          · rw [if_neg hr1] at hL
            subst hL
            have hr2 : w.runs = false := by simpa using hr1
            walk_at "rd"
            exact ⟨rfl, rfl⟩
        · rintro σ' H' ⟨rfl, eH⟩
          have eH2 := eH.symm
          subst eH2
          have hx := at_both R w.turn
          walk_at "rd"
          refine ⟨fun m σ H' => ∃ (left : Int) (w' : Wd) (mv : Option V), σ = [some (.ref R.p), some (.int n), some (.int left), some (.ref (R.q w.turn)), mv] ∧ m = left.toNat ∧ 0 ≤ left ∧ ClockAt CC CS H' R ss w' ∧ Fr H H' R ∧ WF ss w' ∧ w'.turn = w.turn ∧ runN ss left.toNat w' = runN ss L.toNat w ∧ w'.total + left = w.total + L,
            ⟨_, L, w, none, rfl, rfl, hL0, c, Fr.refl _ _, hw, rfl, rfl, rfl⟩, ?_⟩
          rintro m σ H1 ⟨left, w', mv, rfl, rfl, h0, c1, f1, wf1, ht, hrun, htot⟩
          have hp1 := c1.ob
          walk_at "rd"
          have fin : runN ss left.toNat w' = w' → (n - left = n - L + ((runN ss L.toNat w).total - w.total)) := by
            intro e
            rw [← hrun, e]
            omega
          by_cases hlp : 0 < left
          · walk_at "rd"
            cases hf1 : w'.fallen with
            | some b =>
              walk_at "rd"
              have e1 := runN_fallen (ss := ss) hf1 left.toNat
              rw [fin e1]
              refine hLq H1 ?_ f1
              rw [← hrun, e1]
              exact c1
            | none =>
              walk_at "rd"
              have S1 := c1.sideS w.turn (wf1.inS w.turn)
              have O1 := wf1.okS hf1 w.turn
              have f0 := free_nonneg (curS ss (w'.side w.turn)) (w'.side w.turn)
              have p0 := O1.pos
              have hs1 := S1.ob
              obtain ⟨many, hmany, hm1, hm2, hm3⟩ : ∃ many : Int, (if freeOf (curS ss (w'.side w.turn)) (w'.side w.turn) + (w'.side w.turn).ticks < left then freeOf (curS ss (w'.side w.turn)) (w'.side w.turn) + (w'.side w.turn).ticks else left) = many ∧ 1 ≤ many ∧ many ≤ left ∧ many ≤ freeOf (curS ss (w'.side w.turn)) (w'.side w.turn) + (w'.side w.turn).ticks := by
                refine ⟨_, rfl, ?_⟩
                split <;> omega
              refine ⟨fun σ2 H2 => ∃ (left2 : Int) (w2 : Wd) (mv2 : Option V), σ2 = [some (.ref R.p), some (.int n), some (.int left2), some (.ref (R.q w.turn)), mv2] ∧ left2 < left ∧ 0 ≤ left2 ∧ ClockAt CC CS H2 R ss w2 ∧ Fr H H2 R ∧ WF ss w2 ∧ w2.turn = w.turn ∧ runN ss left2.toNat w2 = runN ss L.toNat w ∧ w2.total + left2 = w.total + L, ?_, ?_⟩
              · rintro σ2 H2 ⟨left2, w2, mv2, rfl, hlt, h02, r⟩
                exact ⟨_, (by omega), left2, w2, mv2, rfl, rfl, h02, r⟩
              · walk_at "rd"
                refine ⟨R.q w.turn, R.dxs w.turn, R.l w.turn, R.as, ss, _, _, rfl, S1, ?_⟩
                walk_at "rd"
                rw [hmany]
                refine ⟨R.q w.turn, R.dxs w.turn, R.l w.turn, R.as, ss, _, _, _, rfl, S1, ?_⟩
                have c2 := c1.put w.turn (passBy (curS ss (w'.side w.turn)) (w'.side w.turn) many)
                have hp2 := c2.ob
                have hs2 : upd H1 (R.q w.turn) (.ins CS (R.dxs w.turn) (sf (R.l w.turn) (passBy (curS ss (w'.side w.turn)) (w'.side w.turn) many))) (R.q w.turn) = some (.ins CS (R.dxs w.turn) (sf (R.l w.turn) (passBy (curS ss (w'.side w.turn)) (w'.side w.turn) many))) := upd_same
                have nq : R.q w.turn ≠ R.p := Ne.symm (c1.ne w.turn)
                walk_at "rd"
                have c3 := c2.setp (w' := { w'.put w.turn (passBy (curS ss (w'.side w.turn)) (w'.side w.turn) many) with total := w'.total + many }) (fun b => by cases b <;> rfl)
                have et : cf R.lb { w'.put w.turn (passBy (curS ss (w'.side w.turn)) (w'.side w.turn) many) with total := w'.total + many } = putF "total" (.int (w'.total + many)) (cf R.lb (w'.put w.turn (passBy (curS ss (w'.side w.turn)) (w'.side w.turn) many))) := rfl
                have ep : (w'.put w.turn (passBy (curS ss (w'.side w.turn)) (w'.side w.turn) many)).total = w'.total := put_total ..
                rw [ep]
                have s3 : ({ w'.put w.turn (passBy (curS ss (w'.side w.turn)) (w'.side w.turn) many) with total := w'.total + many } : Wd).side w.turn = passBy (curS ss (w'.side w.turn)) (w'.side w.turn) many := by rw [side_tot, put_side]
                have S3 := c3.sideS w.turn (by rw [s3]; exact O1.cur)
                have cs3 : curS ss (passBy (curS ss (w'.side w.turn)) (w'.side w.turn) many) = curS ss (w'.side w.turn) := rfl
                rw [s3, cs3] at S3
                have hpass : runN ss (left - many).toNat (passW ss w' many) = runN ss L.toNat w := by
                  have e1 : ((many.toNat : Nat) : Int) = many := by omega
                  have e2 := passW_run (ss := ss) many.toNat w' hf1 (by rw [ht]; exact p0) (by omega) (by rw [ht, e1]; exact hm3)
                  rw [e1] at e2
                  rw [e2, ← runN_add, ← hrun]
                  congr 1
                  omega
                have hwf := passW_wf G wf1 hf1 (n := many) (by omega) (by rw [ht]; exact hm3)
                have htt := passW_total ss w' many
                have uz := until_zero (curS ss (w'.side w.turn)) (w'.side w.turn) p0 (n := many) (by omega) hm3
                have epw : passW ss w' many = evW ss w' (curS ss (w'.side w.turn)) (passBy (curS ss (w'.side w.turn)) (w'.side w.turn) many) (w'.total + many) := by
                  unfold passW
                  rw [ht]
                refine ⟨R.q w.turn, R.dxs w.turn, R.l w.turn, R.as, ss, _, _, rfl, S3, ?_⟩
                walk_at "rd"
                by_cases hz : freeOf (curS ss (w'.side w.turn)) (passBy (curS ss (w'.side w.turn)) (w'.side w.turn) many) + (passBy (curS ss (w'.side w.turn)) (w'.side w.turn) many).ticks = 0
                · walk_at "rd"
                  refine ⟨R.q w.turn, R.dxs w.turn, R.l w.turn, R.as, ss, _, _, rfl, S3, ?_⟩
                  have nt := uz.mp hz
                  have c4 := c3.put w.turn (fallsOf ss (curS ss (w'.side w.turn)) (passBy (curS ss (w'.side w.turn)) (w'.side w.turn) many)).2
                  have e4 : ({ w'.put w.turn (passBy (curS ss (w'.side w.turn)) (w'.side w.turn) many) with total := w'.total + many } : Wd).put w.turn (fallsOf ss (curS ss (w'.side w.turn)) (passBy (curS ss (w'.side w.turn)) (w'.side w.turn) many)).2 = { w'.put w.turn (fallsOf ss (curS ss (w'.side w.turn)) (passBy (curS ss (w'.side w.turn)) (w'.side w.turn) many)).2 with total := w'.total + many } := put_tot ..
                  rw [e4] at c4
                  have hp4 := c4.ob
                  by_cases c5 : (fallsOf ss (curS ss (w'.side w.turn)) (passBy (curS ss (w'.side w.turn)) (w'.side w.turn) many)).1 = true
                  · walk_at "rd"
                    have e5 : passW ss w' many = { w'.put w.turn (fallsOf ss (curS ss (w'.side w.turn)) (passBy (curS ss (w'.side w.turn)) (w'.side w.turn) many)).2 with total := w'.total + many, fallen := some w.turn, runs := false } := by
                      rw [epw]
                      unfold evW
                      rw [if_neg nt, if_pos c5, ht]
                    have c6 := c4.setp (w' := passW ss w' many) (fun b => by rw [e5]; cases b <;> rfl)
                    have e6 : cf R.lb (passW ss w' many) = putF "runs" (.bl false) (putF "fallen" (.int (ti (w'.put w.turn (fallsOf ss (curS ss (w'.side w.turn)) (passBy (curS ss (w'.side w.turn)) (w'.side w.turn) many)).2).turn)) (cf R.lb { w'.put w.turn (fallsOf ss (curS ss (w'.side w.turn)) (passBy (curS ss (w'.side w.turn)) (w'.side w.turn) many)).2 with total := w'.total + many })) := by
                      rw [e5]
                      have e7 : (w'.put w.turn (fallsOf ss (curS ss (w'.side w.turn)) (passBy (curS ss (w'.side w.turn)) (w'.side w.turn) many)).2).turn = w.turn := (put_turn ..).trans ht
                      rw [e7]
                      rfl
                    rw [e6] at c6
                    rw [upd2]
                    refine ⟨left - many, passW ss w' many, _, rfl, by omega, by omega, c6, f1.q.p.q.p, hwf, ?_, hpass, by omega⟩
                    rw [e5]
                    exact (put_turn ..).trans ht
                  · have c5' : (fallsOf ss (curS ss (w'.side w.turn)) (passBy (curS ss (w'.side w.turn)) (w'.side w.turn) many)).1 = false := by simpa using c5
                    walk_at "rd"
                    have e5 : passW ss w' many = { w'.put w.turn (fallsOf ss (curS ss (w'.side w.turn)) (passBy (curS ss (w'.side w.turn)) (w'.side w.turn) many)).2 with total := w'.total + many } := by
                      rw [epw]
                      unfold evW
                      rw [if_neg nt, if_neg c5, ht]
                    rw [← e5] at c4
                    refine ⟨left - many, passW ss w' many, _, rfl, by omega, by omega, c4, f1.q.p.q, hwf, ?_, hpass, by omega⟩
                    rw [e5]
                    exact (put_turn ..).trans ht
                · walk_at "rd"
                  have nt : (passBy (curS ss (w'.side w.turn)) (w'.side w.turn) many).ticks > 0 := Classical.byContradiction fun z => hz (uz.mpr z)
                  have e5 : passW ss w' many = { w'.put w.turn (passBy (curS ss (w'.side w.turn)) (w'.side w.turn) many) with total := w'.total + many } := by
                    rw [epw]
                    unfold evW
                    rw [if_pos nt, ht]
                  have c3' := c3.cast e5.symm
                  refine ⟨left - many, passW ss w' many, _, rfl, by omega, by omega, c3', f1.q.p, hwf, ?_, hpass, by omega⟩
                  rw [e5]
                  exact (put_turn ..).trans ht
          · walk_at "rd"
            have hl0 : left = 0 := by omega
            subst hl0
            have e1 : runN ss (0 : Int).toNat w' = w' := rfl
            rw [fin e1]
            refine hLq H1 ?_ f1
            rw [← hrun]
            exact c1
      · rw [exW_goO hn hf] at q
        exact q
end
/-! ### stages as they are handed in -/
inductive RS where
  | tri (w : Str) (p t : Int)
  | pent (w : Str) (m : Option Int) (t : Int) (way : Str) (e : Int)
def RS.vs : RS → List V
  | .tri w p t => [.str w, .int p, .int t]
  | .pent w m t way e => [.str w, mv m, .int t, .str way, .int e]
def RS.w : RS → Str
  | .tri w _ _ => w
  | .pent w _ _ _ _ => w
def Stg.rs : Stg → RS
  | .main m t w e => .pent "main" m t w e
  | .over p t => .tri "over" p t
theorem Stg.rs_vs (s : Stg) : s.rs.vs = s.vs := by cases s <;> rfl
abbrev ways4 : List V := [.str "plain", .str "add", .str "back", .str "wait"]
def mainOk (m : Option Int) (t : Int) (way : Str) (e : Int) (last : Bool) : Bool :=
  (match m with
    | none => true
    | some i => decide (1 ≤ i) && decide (i ≤ 200) && !last) && decide (1 ≤ t) && decide (t ≤ 1000000) && inV (.str way) ways4 && decide (0 ≤ e) && decide (e ≤ 1000000)
def spLookMain (cB : Addr) : Sp := fun vs H Q E => ∃ a w m t way e last, vs = [.ref a, .bl last] ∧ H a = some (.tup [.str w, mv m, .int t, .str way, .int e]) ∧
  (mainOk m t way e last = true → Q .non H) ∧ (mainOk m t way e last = false → E (.ref cB) none H)
def RTups (H : Hp) (as : List Addr) (rs : List RS) : Prop := as.length = rs.length ∧ ∀ (i : Nat) (a : Addr) (s : RS), as[i]? = some a → rs[i]? = some s → H a = some (.tup s.vs)
def okAt (rs : List RS) (k : Nat) : Bool := match rs[k]? with
  | none => true
  | some (.pent w m t way e) => decide (w = "main") && mainOk m t way e (decide (k + 1 = rs.length)) && !(m.isNone && !decide (k + 1 = rs.length) && !(match rs[k + 1]? with | some s => decide (s.w = "over") | none => true))
  | some (.tri w p t) => decide (w = "over") && decide (k + 1 = rs.length) && decide (1 ≤ p) && decide (p ≤ 200) && decide (1 ≤ t) && decide (t ≤ 1000000)
def lookR (rs : List RS) : Bool := decide (1 ≤ rs.length) && decide (rs.length ≤ 5) && (List.range rs.length).all (okAt rs)
def spLookStages (cB : Addr) : Sp := fun vs H Q E => ∃ l as rs, vs = [.ref l] ∧ H l = some (.lst (as.map V.ref)) ∧ RTups H as rs ∧ (lookR rs = true → Q .non H) ∧ (lookR rs = false → E (.ref cB) none H)
section
variable {P : Program} {w : World} {K : PySem.W.Frag} {mg : Str → Option Value} {base : Heap} {CS CC cE cB cT cN cO aW : Addr} (T : Txt K mg CS CC cE cB cT cN cO aW)
include T
theorem ok_lookMain (d : FDef K mg "look_main" s_look_main ["stage", "is_last"]) : CalX P w K mg base (L2.CX P w) 1 "look_main" (spLookMain cB) := by
  refine CalX.ofX d sc_look_main (fun vs H Q E h => ?_) (fun f cdv A outer s H vs Q E hr h => ?_)
  · obtain ⟨a, w, m, t, way, e, last, rfl, _⟩ := h
    rfl
  · obtain ⟨a, w, m, t, way, e, last, rfl, ha, q1, q2⟩ := h
    refine ⟨_, (pss_cons (ps_asg (pv 0) (pg_tup rfl (pgs_cons (pg_name (i := 2) sc_look_main.nd rfl (Or.inl rfl)) (pgs_cons (pg_name (i := 3) sc_look_main.nd rfl (Or.inl rfl)) (pgs_cons (pg_name (i := 4) sc_look_main.nd rfl (Or.inl rfl)) (pgs_cons (pg_name (i := 5) sc_look_main.nd rfl (Or.inl rfl)) (pgs_cons (pg_name (i := 6) sc_look_main.nd rfl (Or.inl rfl)) pgs_nil)))))))
 (C8.pss_cut (ps_if (PW.pt (pw_or (PW.pt (pw_and (pt_cmpR op_notN (pv 3) pe_non (nomark _)) (pw_and1 (pt_not (pt_chain op_le op_le pe_int (pv 3) (C8.pe_gc rfl T.g_MOST_MOVES)))))) (pw_or1 (PW.pt (pw_and (pt_cmpR op_notN (pv 3) pe_non (nomark _)) (pw_and1 (pt_val (pv 1)))))))) (pss_one (ps_raise rfl (takes_of rfl rfl rfl rfl) (pmk_own PySem.F.excBase_ValueError T.eB.x T.g_BadStages T.eB.k (raises_own T.eB.s T.eB.t) (by exact rfl)))) pss_nil)
 (pss_one (ps_if (PW.pt (pw_or (pt_not (pt_chain op_le op_le pe_int (pv 4) (C8.pe_gc rfl T.g_MOST_TICKS))) (pw_or (pt_cmpR op_notIn_seq (pv 5) (pe_glob (v := .ref _) rfl T.g_WAYS rfl) (by rfl)) (pw_or1 (pt_not (pt_chain op_le op_le pe_int (pv 6) (C8.pe_gc rfl T.g_MOST_TICKS))))))) (pss_one (ps_raise rfl (takes_of rfl rfl rfl rfl) (pmk_own PySem.F.excBase_ValueError T.eB.x T.g_BadStages T.eB.k (raises_own T.eB.s T.eB.t) (by exact rfl)))) pss_nil)))), ?_⟩
    have hW := T.w_WAYS H
    walk_at "rd"
    refine k_cut (fun σ' H' => σ' = [some (.ref a), some (.bl last), some (.str w), some (mv m), some (.int t), some (.str way), some (.int e)] ∧ H' = H ∧ (match m with | none => True | some i => 1 ≤ i ∧ i ≤ 200 ∧ last = false)) ?_ ?_
    · cases m with
      | none =>
        walk_at "rd"
        exact ⟨rfl, rfl, trivial⟩
      | some i =>
        walk_at "rd"
        by_cases h1 : 1 ≤ i
        · by_cases h2 : i ≤ 200
          · walk_at "rd"
            cases last with
            | true =>
              walk_at "rd"
              exact q2 (by simp [mainOk])
            | false =>
              walk_at "rd"
              exact ⟨rfl, rfl, h1, h2, rfl⟩
          · walk_at "rd"
            exact q2 (by simp [mainOk, h2])
        · walk_at "rd"
          exact q2 (by simp [mainOk, h1])
    · rintro σ' H' ⟨rfl, eH, hm⟩
      have eH2 := eH.symm
      subst eH2
      have em : mainOk m t way e last = (decide (1 ≤ t) && decide (t ≤ 1000000) && inV (.str way) ways4 && decide (0 ≤ e) && decide (e ≤ 1000000)) := by
        cases m with
        | none => rfl
        | some i =>
          obtain ⟨a1, a2, a3⟩ := hm
          subst a3
          simp [mainOk, a1, a2]
      rw [em] at q1 q2
      walk_at "rd"
      by_cases h1 : 1 ≤ t
      · by_cases h2 : t ≤ 1000000
        · walk_at "rd"
          by_cases h3 : inV (.str way) ways4 = true
          · walk_at "rd"
            by_cases h4 : 0 ≤ e
            · by_cases h5 : e ≤ 1000000
              · walk_at "rd"
                exact q1 (by simp [h1, h2, h3, h4, h5])
              · walk_at "rd"
                exact q2 (by simp [h5])
            · walk_at "rd"
              exact q2 (by simp [h4])
          · have h3' : inV (.str way) ways4 = false := by simpa using h3
            walk_at "rd"
            exact q2 (by simp [h3'])
        · walk_at "rd"
          exact q2 (by simp [h2])
      · walk_at "rd"
        exact q2 (by simp [h1])
theorem ok_lookStages (c_look_main : CalX P w K mg base (L2.CX P w) 1 "look_main" (spLookMain cB)) (d : FDef K mg "look_stages" s_look_stages ["stages"]) : CalX P w K mg base (L2.CX P w) 2 "look_stages" (spLookStages cB) := by
  refine CalX.ofX d sc_look_stages (fun vs H Q E h => ?_) (fun f cdv A outer s H vs Q E hr h => ?_)
  · obtain ⟨l, as, rs, rfl, _⟩ := h
    rfl
  · obtain ⟨l, as, rs, rfl, hl, ht, q1, q2⟩ := h
    refine ⟨_, (pss_cons (ps_if (pt_not (pt_chain op_le op_le pe_int (pe_callB call_len_seq (by rfl) T.b_len PySem.boot_len (pa_cons (pv 0) pa_nil)) (C8.pe_gc rfl T.g_MOST_STAGES))) (pss_one (ps_raise rfl (takes_of rfl rfl rfl rfl) (pmk_own PySem.F.excBase_ValueError T.eB.x T.g_BadStages T.eB.k (raises_own T.eB.s T.eB.t) (by exact rfl)))) pss_nil)
 (pss_one (ps_for (passes_of rfl) rfl (pi_range1 rfl T.b_range (pa_cons (pe_callB call_len_seq (by rfl) T.b_len PySem.boot_len (pa_cons (pv 0) pa_nil)) pa_nil)) (pg_name (i := 1) sc_look_stages.nd rfl (Or.inl rfl)) (pss_cons (ps_set (i := 2) sc_look_stages.nd rfl (Or.inl rfl) (pe_ix ix_list (pv 0) (pv 1) (fun _ _ => rfl)))
 (pss_cons (ps_set (i := 3) sc_look_stages.nd rfl (Or.inl rfl) (pe_cmpR op_eq (pv 1) (pe_op op_sub (pe_callB call_len_seq (by rfl) T.b_len PySem.boot_len (pa_cons (pv 0) pa_nil)) pe_int) (nomark _)))
 (pss_one (ps_if (PW.pt (pw_and (pt_cmpR op_eq (pe_ix ix_tup (pv 2) pe_int (fun _ _ => rfl)) pe_str (nomark _)) (pw_and1 (pt_cmpR op_eq (pe_callB call_len_seq (by rfl) T.b_len PySem.boot_len (pa_cons (pv 2) pa_nil)) pe_int (nomark _))))) (pss_cons (ps_expr (pe_cX c_look_main hr (by decide) rfl (passes_call (takes_of rfl rfl rfl rfl) (fun _ _ _ _ h => h)) (pa_cons (pv 2) (pa_cons (pv 3) pa_nil))))
 (pss_one (ps_if (PW.pt (pw_and (pt_cmpR op_isN (pe_ix ix_tup (pv 2) pe_int (fun _ _ => rfl)) pe_non (nomark _)) (pw_and (pt_not (pt_val (pv 3))) (pw_and1 (pt_cmpR op_ne (pe_ix ix_tup (pe_ix ix_list (pv 0) (pe_op op_add (pv 1) pe_int) (fun _ _ => rfl)) pe_int (fun _ _ => rfl)) pe_str (nomark _)))))) (pss_one (ps_raise rfl (takes_of rfl rfl rfl rfl) (pmk_own PySem.F.excBase_ValueError T.eB.x T.g_BadStages T.eB.k (raises_own T.eB.s T.eB.t) (by exact rfl)))) pss_nil))) (pss_one (ps_if (PW.pt (pw_or (pt_cmpR op_ne (pe_ix ix_tup (pv 2) pe_int (fun _ _ => rfl)) pe_str (nomark _)) (pw_or (pt_cmpR op_ne (pe_callB call_len_seq (by rfl) T.b_len PySem.boot_len (pa_cons (pv 2) pa_nil)) pe_int (nomark _)) (pw_or1 (pt_not (pt_val (pv 3))))))) (pss_one (ps_raise rfl (takes_of rfl rfl rfl rfl) (pmk_own PySem.F.excBase_ValueError T.eB.x T.g_BadStages T.eB.k (raises_own T.eB.s T.eB.t) (by exact rfl)))) (pss_one (ps_if (PW.pt (pw_or (pt_not (pt_chain op_le op_le pe_int (pe_ix ix_tup (pv 2) pe_int (fun _ _ => rfl)) (C8.pe_gc rfl T.g_MOST_MOVES))) (pw_or1 (pt_not (pt_chain op_le op_le pe_int (pe_ix ix_tup (pv 2) pe_int (fun _ _ => rfl)) (C8.pe_gc rfl T.g_MOST_TICKS)))))) (pss_one (ps_raise rfl (takes_of rfl rfl rfl rfl) (pmk_own PySem.F.excBase_ValueError T.eB.x T.g_BadStages T.eB.k (raises_own T.eB.s T.eB.t) (by exact rfl)))) pss_nil))))))))))), ?_⟩
    have elen : (as.map V.ref).length = rs.length := by rw [List.length_map, ht.1]
    walk_at "rd"
    rw [elen]
    by_cases h1 : 1 ≤ rs.length
    · by_cases h2 : rs.length ≤ 5
      · walk_at "rd"
        rw [elen]
        refine k_forR (n := rs.length) (fun i σ' H' => (∃ a b c, σ' = [some (.ref l), a, b, c]) ∧ H' = H ∧ ∀ j, j < i → okAt rs j = true) (by have z : (5 : Int) < 2 ^ 62 := (by decide); omega) ⟨⟨_, _, _, rfl⟩, rfl, fun j hj => absurd hj (Nat.not_lt_zero j)⟩ (fun i σ' H' hi hP => ?_) (fun σ' H' hP => ?_)
        · obtain ⟨⟨a0, b0, c0, rfl⟩, eH, hok⟩ := hP
          have eH2 := eH.symm
          subst eH2
          have hbad : okAt rs i = false → E (.ref cB) none H := fun hb => q2 (by
            have hz : (List.range rs.length).all (okAt rs) = false := by
              rw [List.all_eq_false]
              exact ⟨i, List.mem_range.mpr hi, by rw [hb]; decide⟩
            simp [lookR, hz])
          have hgood : okAt rs i = true → ∀ j, j < i + 1 → okAt rs j = true := fun hg j hj => by
            by_cases e : j = i
            · rw [e]
              exact hg
            · exact hok j (by omega)
          obtain ⟨s, hs⟩ : ∃ s, rs[i]? = some s := ⟨_, List.getElem?_eq_getElem hi⟩
          have hia : i < as.length := by have := ht.1; omega
          obtain ⟨a, ha⟩ : ∃ a, as[i]? = some a := ⟨_, List.getElem?_eq_getElem hia⟩
          have hta := ht.2 i a s ha hs
          have hx := atI_refs ha
          have hlast : decide ((i : Int) = (rs.length : Int) - 1) = decide (i + 1 = rs.length) := decide_eq_decide.mpr ⟨fun z => by omega, fun z => by omega⟩
          walk_at "rd"
          rw [elen, hlast]
          generalize hL : decide (i + 1 = rs.length) = last
          have eok : okAt rs i = match (some s) with
            | none => true
            | some (.pent w m t way e) => decide (w = "main") && mainOk m t way e last && !(m.isNone && !last && !(match rs[i + 1]? with | some s => decide (s.w = "over") | none => true))
            | some (.tri w p t) => decide (w = "over") && last && decide (1 ≤ p) && decide (p ≤ 200) && decide (1 ≤ t) && decide (t ≤ 1000000) := by
            unfold okAt
            rw [hs, hL]
          cases s with
          | tri w p t =>
            have hok3 : okAt rs i = (decide (w = "over") && last && decide (1 ≤ p) && decide (p ≤ 200) && decide (1 ≤ t) && decide (t ≤ 1000000)) := eok
            have hta : H a = some (.tup [.str w, .int p, .int t]) := hta
            walk_at "rd"
            by_cases hm : w = "main"
            · walk_at "rd"
              have hov : ¬ w = "over" := by rw [hm]; decide +kernel
              walk_at "rd"
              exact hbad (by rw [hok3]; simp [hov])
            · walk_at "rd"
              by_cases ho : w = "over"
              · walk_at "rd"
                cases last with
                | false =>
                  walk_at "rd"
                  exact hbad (by rw [hok3]; simp)
                | true =>
                  walk_at "rd"
                  by_cases b1 : 1 ≤ p
                  · by_cases b2 : p ≤ 200
                    · by_cases b3 : 1 ≤ t
                      · by_cases b4 : t ≤ 1000000
                        · walk_at "rd"
                          exact ⟨⟨_, _, _, rfl⟩, rfl, hgood (by rw [hok3]; simp [ho, b1, b2, b3, b4])⟩
                        · walk_at "rd"
                          exact hbad (by rw [hok3]; simp [b4])
                      · walk_at "rd"
                        exact hbad (by rw [hok3]; simp [b3])
                    · walk_at "rd"
                      exact hbad (by rw [hok3]; simp [b2])
                  · walk_at "rd"
                    exact hbad (by rw [hok3]; simp [b1])
              · walk_at "rd"
                exact hbad (by rw [hok3]; simp [ho])
          | pent w m t way e =>
            have hok5 : okAt rs i = (decide (w = "main") && mainOk m t way e last && !(m.isNone && !last && !(match rs[i + 1]? with | some s => decide (s.w = "over") | none => true))) := eok
            have hta : H a = some (.tup [.str w, mv m, .int t, .str way, .int e]) := hta
            walk_at "rd"
            by_cases hm : w = "main"
            · walk_at "rd"
              refine ⟨a, w, m, t, way, e, last, rfl, hta, fun hmo => ?_, fun hmo => ?_⟩
              · walk_at "rd"
                cases m with
                | some m =>
                  walk_at "rd"
                  exact ⟨⟨_, _, _, rfl⟩, rfl, hgood (by rw [hok5]; simp [hm, hmo])⟩
                | none =>
                  walk_at "rd"
                  cases last with
                  | true =>
                    walk_at "rd"
                    exact ⟨⟨_, _, _, rfl⟩, rfl, hgood (by rw [hok5]; simp [hm, hmo])⟩
                  | false =>
                    have hlt : i + 1 < rs.length := by
                      have := of_decide_eq_false hL
                      omega
                    obtain ⟨s2, hs2⟩ : ∃ s, rs[i + 1]? = some s := ⟨_, List.getElem?_eq_getElem hlt⟩
                    obtain ⟨a2, ha2⟩ : ∃ a, as[i + 1]? = some a := ⟨_, List.getElem?_eq_getElem (by have := ht.1; omega)⟩
                    have ht2 := ht.2 (i + 1) a2 s2 ha2 hs2
                    have hx2 := atI_refs ha2
                    have hx3 : atI (as.map V.ref) ((i : Int) + 1) = some (.ref a2) := hx2
                    have hw2 : atI s2.vs 0 = some (.str s2.w) := by cases s2 <;> rfl
                    walk_at "rd"
                    by_cases ho : s2.w = "over"
                    · walk_at "rd"
                      exact ⟨⟨_, _, _, rfl⟩, rfl, hgood (by rw [hok5, hs2]; simp [hm, hmo, ho])⟩
                    · walk_at "rd"
                      exact hbad (by rw [hok5, hs2]; simp [ho])
              · exact hbad (by rw [hok5]; simp [hmo])
            · walk_at "rd"
              by_cases ho : w = "over"
              · walk_at "rd"
                exact hbad (by rw [hok5]; simp [hm])
              · walk_at "rd"
                exact hbad (by rw [hok5]; simp [hm])
        · obtain ⟨⟨a0, b0, c0, rfl⟩, eH, hok⟩ := hP
          have eH2 := eH.symm
          subst eH2
          exact q1 (by
            have hz : (List.range rs.length).all (okAt rs) = true := List.all_eq_true.mpr fun j hj => hok j (List.mem_range.mp hj)
            simp [lookR, h1, h2, hz])
      · have h2' : ¬ ((rs.length : Int) ≤ 5) := by omega
        walk_at "rd"
        exact q2 (by simp [lookR, h2])
    · have h1' : ¬ ((1 : Int) ≤ (rs.length : Int)) := by omega
      walk_at "rd"
      exact q2 (by simp [lookR, h1])
end
/-! ### stages that pass the look are stages -/
def RS.toS : RS → Stg
  | .pent _ m t way e => .main m t way e
  | .tri _ p t => .over p t
theorem mainOk_t {m : Option Int} {t e : Int} {way : Str} {last : Bool} (h : mainOk m t way e last = true) : 1 ≤ t ∧ 0 ≤ e ∧ (m ≠ none → last = false) := by
  unfold mainOk at h
  simp only [Bool.and_eq_true, decide_eq_true_eq] at h
  obtain ⟨⟨⟨⟨⟨h1, h2⟩, h3⟩, h4⟩, h5⟩, h6⟩ := h
  refine ⟨h2, h5, fun hm => ?_⟩
  cases m with
  | none => exact absurd rfl hm
  | some i =>
    simp only [Bool.and_eq_true, Bool.not_eq_true'] at h1
    exact h1.2
theorem lookR_good {rs : List RS} (h : lookR rs = true) : rs = (rs.map RS.toS).map Stg.rs ∧ GoodS (rs.map RS.toS) := by
  unfold lookR at h
  simp only [Bool.and_eq_true, decide_eq_true_eq] at h
  obtain ⟨⟨h1, h2⟩, h3⟩ := h
  have ok : ∀ i, i < rs.length → okAt rs i = true := fun i hi => List.all_eq_true.mp h3 i (List.mem_range.mpr hi)
  constructor
  · refine List.ext_getElem? fun i => ?_
    rw [List.getElem?_map, List.getElem?_map]
    cases hi : rs[i]? with
    | none => rfl
    | some s =>
      have o := ok i (List.getElem?_eq_some_iff.mp hi).1
      unfold okAt at o
      rw [hi] at o
      cases s with
      | tri w p t =>
        simp only [Bool.and_eq_true, decide_eq_true_eq] at o
        have hw : w = "over" := o.1.1.1.1.1
        subst hw
        rfl
      | pent w m t way e =>
        simp only [Bool.and_eq_true, decide_eq_true_eq] at o
        have hw : w = "main" := o.1.1
        subst hw
        rfl
  · refine ⟨by rw [List.length_map]; omega, fun i s hs => ?_⟩
    rw [List.getElem?_map] at hs
    rw [List.length_map]
    cases hi : rs[i]? with
    | none =>
      rw [hi] at hs
      cases hs
    | some r =>
      rw [hi] at hs
      cases hs
      have hlt := (List.getElem?_eq_some_iff.mp hi).1
      have o := ok i hlt
      unfold okAt at o
      rw [hi] at o
      cases r with
      | tri w p t =>
        simp only [Bool.and_eq_true, decide_eq_true_eq] at o
        exact ⟨o.1.1.1.2, o.1.2⟩
      | pent w m t way e =>
        simp only [Bool.and_eq_true, decide_eq_true_eq] at o
        obtain ⟨a, b, c⟩ := mainOk_t o.1.2
        refine ⟨a, b, fun hm => ?_⟩
        have := of_decide_eq_false (c hm)
        omega
def spInitC (CC CS cB : Addr) : Sp := fun vs H Q E => ∃ p dx l0 as rs, vs = [.ref p, .ref l0] ∧ H p = some (.ins CC dx []) ∧ H l0 = some (.lst (as.map V.ref)) ∧ RTups H as rs ∧
  (lookR rs = false → E (.ref cB) none H) ∧
  (lookR rs = true → ∀ R H', ClockAt CC CS H' R (rs.map RS.toS) (wd0 (rs.map RS.toS)) → R.p = p → R.as = as → (∀ b, H (R.q b) = none) → (∀ b o, H b = some o → b ≠ p → H' b = some o) → Q .non H')
section
variable {P : Program} {w : World} {K : PySem.W.Frag} {mg : Str → Option Value} {base : Heap} {CS CC cE cB cT cN cO aW : Addr} (T : Txt K mg CS CC cE cB cT cN cO aW)
include T
theorem ok_initC (c_look_stages : CalX P w K mg base (L2.CX P w) 2 "look_stages" (spLookStages cB)) (c_mkSide : MakX P w K mg base CX0 4 "Side" CS (spInitS CS)) (d : IDef K mg CC "Clock" "Clock.__init__" s_Clock___init ["self", "stages"]) : MakX P w K mg base (L2.CX P w) 6 "Clock" CC (spInitC CC CS cB) := by
  refine MakX.ofX d sc_Clock___init (fun vs H Q E h => ?_) (fun f cdv A outer s H vs Q E hr h => ?_)
  · obtain ⟨p, dx, l0, as, rs, rfl, _⟩ := h
    rfl
  · obtain ⟨p, dx, l0, as, rs, rfl, hp, hl, ht, q2, q1⟩ := h
    refine ⟨_, (pss_cons (ps_expr (pe_cX c_look_stages hr (by decide) rfl (passes_call (takes_of rfl rfl rfl rfl) (fun _ _ _ _ h => h)) (pa_cons (pv 1) pa_nil)))
 (pss_cons (ps_fld (pv 0) (pe_lst (pa_cons (pe_mkX c_mkSide hr (by decide) rfl pass0 (pa_cons (pv 1) pa_nil)) (pa_cons (pe_mkX c_mkSide hr (by decide) rfl pass0 (pa_cons (pv 1) pa_nil)) pa_nil))) rfl)
 (pss_cons (ps_fld (pv 0) pe_int rfl)
 (pss_cons (ps_fld (pv 0) pe_bl rfl)
 (pss_cons (ps_fld (pv 0) pe_non rfl)
 (pss_one (ps_fld (pv 0) pe_int rfl))))))), ?_⟩
    walk_at "rd"
    refine ⟨l0, as, rs, rfl, hl, ht, fun hlook => ?_, fun hlook => q2 hlook⟩
    have q := q1 hlook
    obtain ⟨hrs, G⟩ := lookR_good hlook
    have hS : StL H l0 as (rs.map RS.toS) := ⟨hl, by rw [List.length_map]; exact ht.1, fun i a s ha hs => by
      have e2 : rs[i]? = some s.rs := by
        rw [hrs, List.getElem?_map, hs]
        rfl
      have := ht.2 i a s.rs ha e2
      rw [Stg.rs_vs] at this
      exact this⟩
    generalize rs.map RS.toS = ss at *
    have h0 : ss[0]? = some (ss.getD 0 (.over 1 1)) := by
      rw [List.getD_eq_getElem?_getD, List.getElem?_eq_getElem G.1]
      rfl
    generalize hs0 : ss.getD 0 (.over 1 1) = s0 at *
    walk_at "rd"
    intro x0 dx0 nx0 nd0 ne0
    have S1 : StL (upd (upd H dx0 (.own x0)) x0 (.ins CS dx0 [])) l0 as ss := ⟨by rw [upd_ne (ne_of_none hl nx0), upd_ne (ne_of_none hl nd0)]; exact hl, hS.tup.1, fun i a s ha hs => by
      have z := hS.tup.2 i a s ha hs
      rw [upd_ne (ne_of_none z nx0), upd_ne (ne_of_none z nd0)]
      exact z⟩
    refine ⟨x0, dx0, l0, as, ss, s0, rfl, upd_same, S1, h0, fun la nla => ⟨rfl, ?_⟩⟩
    have nlx : la ≠ x0 := fun e => by
      rw [e, upd_same] at nla
      cases nla
    have nla0 : H la = none := by
      rw [upd_ne nlx] at nla
      by_cases e : la = dx0
      · rw [e]
        exact nd0
      · rw [upd_ne e] at nla
        exact nla
    have m1 : ∀ b o, H b = some o → upd (upd (upd (upd H dx0 (.own x0)) x0 (.ins CS dx0 [])) la (.lst (as.map V.ref))) x0 (.ins CS dx0 (sf la (side0 s0))) b = some o := fun b o e => by
      rw [upd_ne (ne_of_none e nx0), upd_ne (ne_of_none e nla0), upd_ne (ne_of_none e nx0), upd_ne (ne_of_none e nd0)]
      exact e
    have l1 : upd (upd (upd (upd H dx0 (.own x0)) x0 (.ins CS dx0 [])) la (.lst (as.map V.ref))) x0 (.ins CS dx0 (sf la (side0 s0))) la = some (.lst (as.map V.ref)) := by
      rw [upd_ne nlx, upd_same]
    have o1 : upd (upd (upd (upd H dx0 (.own x0)) x0 (.ins CS dx0 [])) la (.lst (as.map V.ref))) x0 (.ins CS dx0 (sf la (side0 s0))) x0 = some (.ins CS dx0 (sf la (side0 s0))) := upd_same
    generalize upd (upd (upd (upd H dx0 (.own x0)) x0 (.ins CS dx0 [])) la (.lst (as.map V.ref))) x0 (.ins CS dx0 (sf la (side0 s0))) = H1 at *
    walk_at "rd"
    intro x1 dx1 nx1 nd1 ne1
    have hl1 := m1 _ _ hl
    have S2 : StL (upd (upd H1 dx1 (.own x1)) x1 (.ins CS dx1 [])) l0 as ss := ⟨by rw [upd_ne (ne_of_none hl1 nx1), upd_ne (ne_of_none hl1 nd1)]; exact hl1, hS.tup.1, fun i a s ha hs => by
      have z := m1 _ _ (hS.tup.2 i a s ha hs)
      rw [upd_ne (ne_of_none z nx1), upd_ne (ne_of_none z nd1)]
      exact z⟩
    refine ⟨x1, dx1, l0, as, ss, s0, rfl, upd_same, S2, h0, fun lc nlc => ⟨rfl, ?_⟩⟩
    have nly : lc ≠ x1 := fun e => by
      rw [e, upd_same] at nlc
      cases nlc
    have nlc0 : H1 lc = none := by
      rw [upd_ne nly] at nlc
      by_cases e : lc = dx1
      · rw [e]
        exact nd1
      · rw [upd_ne e] at nlc
        exact nlc
    have m2 : ∀ b o, H1 b = some o → upd (upd (upd (upd H1 dx1 (.own x1)) x1 (.ins CS dx1 [])) lc (.lst (as.map V.ref))) x1 (.ins CS dx1 (sf lc (side0 s0))) b = some o := fun b o e => by
      rw [upd_ne (ne_of_none e nx1), upd_ne (ne_of_none e nlc0), upd_ne (ne_of_none e nx1), upd_ne (ne_of_none e nd1)]
      exact e
    have l2 : upd (upd (upd (upd H1 dx1 (.own x1)) x1 (.ins CS dx1 [])) lc (.lst (as.map V.ref))) x1 (.ins CS dx1 (sf lc (side0 s0))) lc = some (.lst (as.map V.ref)) := by
      rw [upd_ne nly, upd_same]
    have o2 : upd (upd (upd (upd H1 dx1 (.own x1)) x1 (.ins CS dx1 [])) lc (.lst (as.map V.ref))) x1 (.ins CS dx1 (sf lc (side0 s0))) x1 = some (.ins CS dx1 (sf lc (side0 s0))) := upd_same
    have n01 : x0 ≠ x1 := ne_of_none o1 nx1
    generalize upd (upd (upd (upd H1 dx1 (.own x1)) x1 (.ins CS dx1 [])) lc (.lst (as.map V.ref))) x1 (.ins CS dx1 (sf lc (side0 s0))) = H2 at *
    walk_at "rd"
    intro lb nlb
    have hp2 := m2 _ _ (m1 _ _ hp)
    have npb : p ≠ lb := ne_of_none hp2 nlb
    have np0 : p ≠ x0 := ne_of_none hp nx0
    have np1 : p ≠ x1 := ne_of_none (m1 _ _ hp) nx1
    have n0b : x0 ≠ lb := ne_of_none (m2 _ _ o1) nlb
    have n1b : x1 ≠ lb := ne_of_none o2 nlb
    have nab : la ≠ lb := ne_of_none (m2 _ _ l1) nlb
    have ncb : lc ≠ lb := ne_of_none l2 nlb
    have npa : p ≠ la := ne_of_none hp nla0
    have npc : p ≠ lc := ne_of_none (m1 _ _ hp) nlc0
    walk_at "rd"
    simp only [upd2]
    have tu : ∀ (i : Nat) (a : Addr) (s : Stg), as[i]? = some a → ss[i]? = some s → upd (upd H2 lb (.lst [.ref x0, .ref x1])) p (.ins CC dx (cf lb (wd0 ss))) a = some (.tup s.vs) := fun i a s ha hs => by
      have z0 := hS.tup.2 i a s ha hs
      have z := m2 _ _ (m1 _ _ z0)
      rw [upd_ne (ne_of z0 hp (by intro z; cases z)), upd_ne (ne_of_none z nlb)]
      exact z
    refine q ⟨p, dx, lb, x0, dx0, la, x1, dx1, lc, as⟩ _ (show ClockAt CC CS (upd (upd H2 lb (.lst [.ref x0, .ref x1])) p (.ins CC dx (cf lb (wd0 ss)))) ⟨p, dx, lb, x0, dx0, la, x1, dx1, lc, as⟩ ss (wd0 ss) from ⟨upd_same, ?_, fun b => ?_, fun b => ?_, fun b => ?_, n01⟩) rfl rfl (fun b => ?_) (fun b o e hb => ?_)
    · show upd _ p _ lb = _
      rw [upd_ne (Ne.symm npb), upd_same]
    · cases b
      · show upd _ p _ x0 = some (.ins CS dx0 (sf la (side0 (ss.getD 0 (.over 1 1)))))
        rw [upd_ne (Ne.symm np0), upd_ne n0b, hs0]
        exact m2 _ _ o1
      · show upd _ p _ x1 = some (.ins CS dx1 (sf lc (side0 (ss.getD 0 (.over 1 1)))))
        rw [upd_ne (Ne.symm np1), upd_ne n1b, hs0]
        exact o2
    · cases b
      · refine ⟨?_, hS.tup.1, tu⟩
        show upd _ p _ la = _
        rw [upd_ne (Ne.symm npa), upd_ne nab]
        exact m2 _ _ l1
      · refine ⟨?_, hS.tup.1, tu⟩
        show upd _ p _ lc = _
        rw [upd_ne (Ne.symm npc), upd_ne ncb]
        exact l2
    · cases b
      · exact np0
      · exact np1
    · cases b
      · exact nx0
      · show H x1 = none
        cases e : H x1 with
        | none => rfl
        | some o =>
          rw [m1 _ _ e] at nx1
          cases nx1
    · rw [upd_ne hb, upd_ne (ne_of_none (m2 _ _ (m1 _ _ e)) nlb)]
      exact m2 _ _ (m1 _ _ e)
end
/-! ### the law's draws -/
def cellF (ns : List Int) (k : Int) : Int := if ns.isEmpty then 0 else ns.getD (k % (ns.length : Int)).toNat 0
def mix3 (n : Int) : Int := (n / 64 * 69621 + n) % 4294967231
def mixF (ns : List Int) (k : Int) : Int := mix3 ((cellF ns k + 104729 * (k + 1)) % 4294967291 * 48271 % 4294967279)
theorem mixF_nonneg (ns : List Int) (k : Int) : 0 ≤ mixF ns k := Int.emod_nonneg _ (by decide)
theorem mixF_lt (ns : List Int) (k : Int) : mixF ns k < 4294967231 := Int.emod_lt_of_pos _ (by decide)
def way4 (i : Int) : Str := match i.toNat with
  | 0 => "plain"
  | 1 => "add"
  | 2 => "back"
  | _ => "wait"
theorem at_way4 {i : Int} (h0 : 0 ≤ i) (h1 : i < 4) : atI [V.str "plain", V.str "add", V.str "back", V.str "wait"] i = some (.str (way4 i)) := by
  have h : i = 0 ∨ i = 1 ∨ i = 2 ∨ i = 3 := by omega
  rcases h with rfl | rfl | rfl | rfl <;> rfl
def mainAt (ns : List Int) (k : Int) (j : Nat) : Stg :=
  .main (some (1 + mixF ns (k + 1 + j) / 4 % 4)) (1 + mixF ns (k + 1 + j) / 16 % 40) (way4 (mixF ns (k + 1 + j) % 4)) (mixF ns (k + 1 + j) / 640 % 7)
def mainsF (ns : List Int) (k : Int) : List Stg := (List.range (mixF ns k % 3).toNat).map (mainAt ns k)
def addNone (n : Int) (l : List Stg) : List Stg := if n % 3 < 2 ∨ (l = [] ∧ n / 3 % 2 = 0) then l ++ [.main none (1 + n / 12 % 60) (way4 (n / 3 % 4)) (n / 720 % 9)] else l
def addOver (n : Int) (l : List Stg) : List Stg := if 0 < n % 3 then l ++ [.over (1 + n / 7000 % 4) (1 + n / 28000 % 12)] else l
def stagesF (ns : List Int) (k : Int) : List Stg := addOver (mixF ns (k + 4)) (addNone (mixF ns (k + 4)) (mainsF ns k))
def spCell (K : PySem.W.Frag) : Sp := fun vs H Q _ => ∃ a ns k, vs = [.ref a, .int k] ∧ SqL K H a (ns.map V.int) ∧ Q (.int (cellF ns k)) H
def spMix (K : PySem.W.Frag) : Sp := fun vs H Q _ => ∃ a ns k, vs = [.ref a, .int k] ∧ SqL K H a (ns.map V.int) ∧ Q (.int (mixF ns k)) H
/-- a new list of tuples -/
structure NewT (H H' : Hp) (l : Addr) (as : List Addr) (vss : List (List V)) : Prop where
  nl : H l = none
  na : ∀ a, a ∈ as → H a = none
  sm : Same H H'
  lst : H' l = some (.lst (as.map V.ref))
  len : as.length = vss.length
  tup : ∀ (i : Nat) (a : Addr) (vs : List V), as[i]? = some a → vss[i]? = some vs → H' a = some (.tup vs)
theorem NewT.start {H : Hp} {l : Addr} (h : H l = none) : NewT H (upd H l (.lst [])) l [] [] :=
  ⟨h, fun a ha => by simp at ha, fun b o e => by rw [upd_ne (ne_of_none e h)]; exact e, upd_same, rfl, fun i a vs ha => by simp at ha⟩
theorem NewT.push {H H' H2 : Hp} {l t : Addr} {as : List Addr} {vss : List (List V)} {vs : List V} (n : NewT H H' l as vss) (hs : Same H' H2) (ht : H2 t = none) :
    NewT H (upd (upd H2 t (.tup vs)) l (.lst (as.map V.ref ++ [.ref t]))) l (as ++ [t]) (vss ++ [vs]) := by
  have e2 : Same H H2 := n.sm.trans hs
  have l2 := hs _ _ n.lst
  refine ⟨n.nl, fun a ha => ?_, fun b o e => ?_, ?_, ?_, fun i a xs ha hx => ?_⟩
  · rcases List.mem_append.mp ha with h | h
    · exact n.na a h
    · rw [List.mem_singleton.mp h]
      exact e2.free ht
  · rw [upd_ne (ne_of_none e n.nl), upd_ne (ne_of_none (e2 b o e) ht)]
    exact e2 b o e
  · rw [upd_same, List.map_append]
    rfl
  · rw [List.length_append, List.length_append, n.len]
    rfl
  · by_cases hi : i < as.length
    · rw [List.getElem?_append_left hi] at ha
      rw [List.getElem?_append_left (by rw [← n.len]; exact hi)] at hx
      have z := hs _ _ (n.tup i a xs ha hx)
      rw [upd_ne (ne_of z l2 (by intro q; cases q)), upd_ne (ne_of_none z ht)]
      exact z
    · have hi2 : i = as.length := by
        have := (List.getElem?_eq_some_iff.mp ha).1
        rw [List.length_append] at this
        simp at this
        omega
      subst hi2
      rw [List.getElem?_append_right (Nat.le_refl _), Nat.sub_self] at ha
      rw [List.getElem?_append_right (by rw [n.len]; exact Nat.le_refl _), n.len, Nat.sub_self] at hx
      cases ha
      cases hx
      rw [upd_ne (fun e => by rw [e, l2] at ht; cases ht), upd_same]
theorem Same.new {H : Hp} {p : Addr} {o : HO} (h : H p = none) : Same H (upd H p o) := fun b u e => by
  rw [upd_ne (ne_of_none e h)]
  exact e
theorem NewT.ext {H H' H2 : Hp} {l : Addr} {as : List Addr} {vss : List (List V)} (n : NewT H H' l as vss) (hs : Same H' H2) : NewT H H2 l as vss :=
  ⟨n.nl, n.na, n.sm.trans hs, hs _ _ n.lst, n.len, fun i a vs ha hv => hs _ _ (n.tup i a vs ha hv)⟩
/-! ### lists of flat tuples, as data -/
def fd : V → PyData
  | .bl b => .bool b
  | .int i => .int i
  | .str x => .str x
  | _ => .none
def flD : V → Bool
  | .non => true
  | .bl _ => true
  | .int _ => true
  | .str x => PyData.canLay0 (.str x)
  | _ => false
theorem dp_flat {K : PySem.W.Frag} {H : Hp} {v : V} (h : flD v = true) : Dp K H v (fd v) := by
  cases v with
  | non => exact .non
  | bl b => exact .bl b
  | int i => exact .int i
  | str x => exact .str x
  | byt b => cases h
  | flt b => cases h
  | ref a => cases h
  | ty n => cases h
theorem dp_flats {K : PySem.W.Frag} {H : Hp} : ∀ {vs : List V}, vs.all flD = true → DpAll K H vs (vs.map fd)
  | [], _ => .nil
  | v :: r, h => by
    rw [List.all_cons, Bool.and_eq_true] at h
    exact .cons (dp_flat h.1) (dp_flats h.2)
theorem lay_flat {v : V} (h : flD v = true) : PyData.canLay0 (fd v) = true := by
  cases v <;> first | rfl | exact h | cases h
theorem lay_flats : ∀ {vs : List V}, vs.all flD = true → PyData.canLayAll0 (vs.map fd) = true
  | [], _ => rfl
  | v :: r, h => by
    rw [List.all_cons, Bool.and_eq_true] at h
    show (PyData.canLay0 (fd v) && PyData.canLayAll0 (r.map fd)) = true
    rw [lay_flat h.1, lay_flats h.2]
    rfl
theorem dep_flat (v : V) : (fd v).depth = 0 := by cases v <;> rfl
theorem dep_flats : ∀ vs : List V, PyData.depthAll (vs.map fd) = 0
  | [] => rfl
  | v :: r => by
    show max (PyData.depth (fd v)) (PyData.depthAll (r.map fd)) = 0
    rw [dep_flat, dep_flats r]
    rfl
abbrev td (vs : List V) : PyData := .tuple (vs.map fd)
theorem dp_tups {K : PySem.W.Frag} {H : Hp} : ∀ {as : List Addr} {vss : List (List V)}, as.length = vss.length → (∀ (i : Nat) (a : Addr) (vs : List V), as[i]? = some a → vss[i]? = some vs → H a = some (.tup vs)) → (∀ vs, vs ∈ vss → vs.all flD = true) → DpAll K H (as.map V.ref) (vss.map td)
  | [], [], _, _, _ => .nil
  | a :: as, vs :: vss, hl, ht, hf => .cons (.tup (SqT.of (ht 0 a vs rfl rfl)) (dp_flats (hf vs List.mem_cons_self)))
      (dp_tups (by simpa using hl) (fun i a' vs' h1 h2 => ht (i + 1) a' vs' h1 h2) (fun v hv => hf v (List.mem_cons_of_mem _ hv)))
  | [], _ :: _, hl, _, _ => by simp at hl
  | _ :: _, [], hl, _, _ => by simp at hl
theorem lay_tups : ∀ {vss : List (List V)}, (∀ vs, vs ∈ vss → vs.all flD = true) → PyData.canLayAll0 (vss.map td) = true
  | [], _ => rfl
  | vs :: r, h => by
    show (PyData.canLayAll0 (vs.map fd) && PyData.canLayAll0 (r.map td)) = true
    rw [lay_flats (h vs List.mem_cons_self), lay_tups fun v hv => h v (List.mem_cons_of_mem _ hv)]
    rfl
theorem dep_tups : ∀ vss : List (List V), PyData.depthAll (vss.map td) ≤ 1
  | [] => Nat.zero_le _
  | vs :: r => by
    show max (PyData.depthAll (vs.map fd) + 1) (PyData.depthAll (r.map td)) ≤ 1
    rw [dep_flats]
    have := dep_tups r
    omega
theorem shaped_tups {vss : List (List V)} (h : ∀ vs, vs ∈ vss → vs.all flD = true) : SeqAt.shaped (.list (vss.map td)) = true := by
  have h1 : PyData.canLay0 (.list (vss.map td)) = true := lay_tups h
  have h2 : PyData.depth (.list (vss.map td)) ≤ 64 := by
    show PyData.depthAll (vss.map td) + 1 ≤ 64
    have := dep_tups vss
    omega
  unfold SeqAt.shaped
  rw [h1, decide_eq_true h2]
  rfl
theorem dp_lst {K : PySem.W.Frag} {H : Hp} {l : Addr} {as : List Addr} {vss : List (List V)} (hl : SqL K H l (as.map V.ref)) (hn : as.length = vss.length) (ht : ∀ (i : Nat) (a : Addr) (vs : List V), as[i]? = some a → vss[i]? = some vs → H a = some (.tup vs)) (hf : ∀ vs, vs ∈ vss → vs.all flD = true) :
    Dp K H (.ref l) (.list (vss.map td)) := .lst hl (dp_tups hn ht hf)
theorem way4_ok (i : Int) : flD (.str (way4 i)) = true := by
  unfold way4
  split <;> decide +kernel
theorem mv_ok (m : Option Int) : flD (mv m) = true := by cases m <;> rfl
theorem k_eqD {K : PySem.W.Frag} {H : Hp} {x y : V} {Q : VK} (d e : PyData) (h1 : Dp K H x d) (h2 : Dp K H y e) (s1 : SeqAt.shaped d = true) (s2 : SeqAt.shaped e = true) (q : Q (.bl (PyData.eqv d e)) H) : rEqD K x y H Q := ⟨d, e, h1, h2, s1, s2, q⟩
theorem k_neD {K : PySem.W.Frag} {H : Hp} {x y : V} {Q : VK} (d e : PyData) (h1 : Dp K H x d) (h2 : Dp K H y e) (s1 : SeqAt.shaped d = true) (s2 : SeqAt.shaped e = true) (q : Q (.bl (!PyData.eqv d e)) H) : rNeD K x y H Q := ⟨d, e, h1, h2, s1, s2, q⟩
theorem eqv_nil (l : List PyData) : PyData.eqv (.list l) (.list []) = l.isEmpty := by cases l <;> rfl
theorem main_ok : flD (.str "main") = true := by decide +kernel
theorem mains_flat (ns : List Int) (k : Int) : ∀ vs, vs ∈ (mainsF ns k).map Stg.vs → vs.all flD = true := fun vs hv => by
  obtain ⟨s, hs, rfl⟩ := List.mem_map.mp hv
  obtain ⟨j, hj, rfl⟩ := List.mem_map.mp hs
  show (flD (.str "main") && (flD (mv (some _)) && (true && (flD (.str (way4 _)) && (true && true))))) = true
  rw [main_ok, mv_ok, way4_ok]
  rfl
def spStages (K : PySem.W.Frag) : Sp := fun vs H Q _ => ∃ a ns k, vs = [.ref a, .int k] ∧ SqL K H a (ns.map V.int) ∧ ∀ l as H', NewT H H' l as ((stagesF ns k).map Stg.vs) → Q (.ref l) H'
section
variable {P : Program} {w : World} {K : PySem.W.Frag} {mg : Str → Option Value} {base : Heap} {CS CC cE cB cT cN cO aW : Addr} (T : Txt K mg CS CC cE cB cT cN cO aW)
include T
theorem ok_cell (d : FDef K mg "_law_cell" s_law_cell ["_law_script", "_law_k"]) : CalX P w K mg base CX0 1 "_law_cell" (spCell K) := by
  refine CalX.of0 d sc_law_cell (fun vs H Q E h => ?_) (fun f cdv A outer s H vs Q E hr h => ?_)
  · obtain ⟨a, ns, k, rfl, _⟩ := h
    rfl
  · obtain ⟨a, ns, k, rfl, hS, q⟩ := h
    refine ⟨_, (pss_cons (ps_if (pt_truth (pv 0) (by intro _; rfl)) (pss_one (ps_ret (pe_ix ix_list (pv 0) (pe_op op_mod (pv 1) (pe_callB call_len_seq (by rfl) T.b_len PySem.boot_len (pa_cons (pv 0) pa_nil))) (fun _ _ => rfl)))) pss_nil)
 (pss_one (ps_ret pe_int))), ?_⟩
    walk_at "rd"
    cases ns with
    | nil =>
      walk_at "rd"
      exact q
    | cons n r =>
      have hlen : ((List.map V.int (n :: r)).length : Int) = ((n :: r).length : Int) := by rw [List.length_map]
      have hpos : (0 : Int) < ((n :: r).length : Int) := by
        rw [List.length_cons]
        omega
      walk_at "rd"
      rw [hlen]
      refine k_I hpos ?_
      have h0 := Int.emod_nonneg k (Int.ne_of_gt hpos)
      have h1 := Int.emod_lt_of_pos k hpos
      have hx : atI (List.map V.int (n :: r)) (k % ((n :: r).length : Int)) = some (.int ((n :: r).getD (k % ((n :: r).length : Int)).toNat 0)) := by
        refine at_of (j := (k % ((n :: r).length : Int)).toNat) (by omega) ?_
        rw [List.getElem?_map, List.getD_eq_getElem?_getD, List.getElem?_eq_getElem (by omega)]
        rfl
      walk_at "rd"
      exact q
theorem ok_mix (c__law_cell : CalX P w K mg base CX0 1 "_law_cell" (spCell K)) (d : FDef K mg "_law_mix" s_law_mix ["_law_script", "_law_k"]) : CalX P w K mg base CX0 2 "_law_mix" (spMix K) := by
  refine CalX.of0 d sc_law_mix (fun vs H Q E h => ?_) (fun f cdv A outer s H vs Q E hr h => ?_)
  · obtain ⟨a, ns, k, rfl, _⟩ := h
    rfl
  · obtain ⟨a, ns, k, rfl, hS, q⟩ := h
    refine ⟨_, (pss_cons (ps_set (i := 2) sc_law_mix.nd rfl (Or.inl rfl) (pe_op op_mod (pe_op op_add (pe_cX c__law_cell hr (by decide) rfl pass0 (pa_cons (pv 0) (pa_cons (pv 1) pa_nil))) (pe_op op_mul pe_int (pe_op op_add (pv 1) pe_int))) pe_int))
 (pss_cons (ps_set (i := 2) sc_law_mix.nd rfl (Or.inl rfl) (pe_op op_mod (pe_op op_mul (pv 2) pe_int) pe_int))
 (pss_one (ps_ret (pe_op op_mod (pe_op op_add (pe_op op_mul (pe_op op_fdiv (pv 2) pe_int) pe_int) (pv 2)) pe_int))))), ?_⟩
    walk_at "rd"
    refine ⟨a, ns, k, rfl, hS, ?_⟩
    walk_at "rd"
    exact q
theorem ok_stages (c__law_mix : CalX P w K mg base CX0 2 "_law_mix" (spMix K)) (d : FDef K mg "_law_stages" s_law_stages ["_law_script", "_law_k"]) : CalX P w K mg base CX0 3 "_law_stages" (spStages K) := by
  refine CalX.of0 d sc_law_stages (fun vs H Q E h => ?_) (fun f cdv A outer s H vs Q E hr h => ?_)
  · obtain ⟨a, ns, k, rfl, _⟩ := h
    rfl
  · obtain ⟨a, ns, k, rfl, hS, q⟩ := h
    refine ⟨_, (pss_cons (ps_set (i := 2) sc_law_stages.nd rfl (Or.inl rfl) (pe_lst pa_nil))
 (pss_cons (ps_for PassesOwn.never rfl (pi_range1 rfl T.b_range (pa_cons (pe_op op_mod (pe_cX c__law_mix hr (by decide) rfl pass0 (pa_cons (pv 0) (pa_cons (pv 1) pa_nil))) pe_int) pa_nil)) (pg_name (i := 3) sc_law_stages.nd rfl (Or.inl rfl)) (pss_cons (ps_set (i := 4) sc_law_stages.nd rfl (Or.inl rfl) (pe_cX c__law_mix hr (by decide) rfl pass0 (pa_cons (pv 0) (pa_cons (pe_op op_add (pe_op op_add (pv 1) pe_int) (pv 3)) pa_nil))))
 (pss_cons (ps_set (i := 5) sc_law_stages.nd rfl (Or.inl rfl) (pe_ix ix_list (pe_lst (pa_cons pe_str (pa_cons pe_str (pa_cons pe_str (pa_cons pe_str pa_nil))))) (pe_op op_mod (pv 4) pe_int) (fun _ _ => rfl)))
 (pss_one (ps_expr (pe_bm PySem.F.plainAttrs_list PySem.F.slot_list_append PySem.F.type_list_append mt_append (pv 2) (pa_cons (pe_tup (pa_cons pe_str (pa_cons (pe_op op_add pe_int (pe_op op_mod (pe_op op_fdiv (pv 4) pe_int) pe_int)) (pa_cons (pe_op op_add pe_int (pe_op op_mod (pe_op op_fdiv (pv 4) pe_int) pe_int)) (pa_cons (pv 5) (pa_cons (pe_op op_mod (pe_op op_fdiv (pv 4) pe_int) pe_int) pa_nil)))))) pa_nil)))))))
 (pss_cons (ps_set (i := 4) sc_law_stages.nd rfl (Or.inl rfl) (pe_cX c__law_mix hr (by decide) rfl pass0 (pa_cons (pv 0) (pa_cons (pe_op op_add (pv 1) pe_int) pa_nil))))
 (C8.pss_cut (ps_if (PW.pt (pw_or (pt_cmpR op_lt (pe_op op_mod (pv 4) pe_int) pe_int (nomark _)) (pw_or1 (PW.pt (pw_and (pt_cmpR (op_eqD hr.units) (pv 2) (pe_lst pa_nil) (nomark _)) (pw_and1 (pt_cmpR op_eq (pe_op op_mod (pe_op op_fdiv (pv 4) pe_int) pe_int) pe_int (nomark _)))))))) (pss_cons (ps_set (i := 5) sc_law_stages.nd rfl (Or.inl rfl) (pe_ix ix_list (pe_lst (pa_cons pe_str (pa_cons pe_str (pa_cons pe_str (pa_cons pe_str pa_nil))))) (pe_op op_mod (pe_op op_fdiv (pv 4) pe_int) pe_int) (fun _ _ => rfl)))
 (pss_one (ps_expr (pe_bm PySem.F.plainAttrs_list PySem.F.slot_list_append PySem.F.type_list_append mt_append (pv 2) (pa_cons (pe_tup (pa_cons pe_str (pa_cons pe_non (pa_cons (pe_op op_add pe_int (pe_op op_mod (pe_op op_fdiv (pv 4) pe_int) pe_int)) (pa_cons (pv 5) (pa_cons (pe_op op_mod (pe_op op_fdiv (pv 4) pe_int) pe_int) pa_nil)))))) pa_nil))))) pss_nil)
 (pss_cons (ps_if (pt_cmpR op_gt (pe_op op_mod (pv 4) pe_int) pe_int (nomark _)) (pss_one (ps_expr (pe_bm PySem.F.plainAttrs_list PySem.F.slot_list_append PySem.F.type_list_append mt_append (pv 2) (pa_cons (pe_tup (pa_cons pe_str (pa_cons (pe_op op_add pe_int (pe_op op_mod (pe_op op_fdiv (pv 4) pe_int) pe_int)) (pa_cons (pe_op op_add pe_int (pe_op op_mod (pe_op op_fdiv (pv 4) pe_int) pe_int)) pa_nil)))) pa_nil)))) pss_nil)
 (pss_one (ps_ret (pv 2)))))))), ?_⟩
    walk_at "rd"
    intro l nl
    walk_at "rd"
    have n0 := NewT.start (H := H) nl
    refine ⟨a, ns, k, rfl, n0.sm.seq hS, ?_⟩
    walk_at "rd"
    have m0 := mixF_nonneg ns k
    obtain ⟨m, hm⟩ : ∃ m : Nat, mixF ns k % 3 = (m : Int) := ⟨(mixF ns k % 3).toNat, by omega⟩
    have hmm : (mixF ns k % 3).toNat = m := by omega
    rw [hm]
    have hlt : (m : Int) < 3 := by omega
    refine k_forR (n := m) (fun i σ' H' => ∃ as x3 x4 x5, σ' = [some (.ref a), some (.int k), some (.ref l), x3, x4, x5] ∧ NewT H H' l as (((List.range i).map (mainAt ns k)).map Stg.vs)) (by have z : (3 : Int) < 2 ^ 62 := (by decide); omega)
      ⟨[], _, _, _, rfl, n0⟩ (fun i σ' H' hi hP => ?_) (fun σ' H' hP => ?_)
    · obtain ⟨as, x3, x4, x5, rfl, n⟩ := hP
      walk_at "rd"
      refine ⟨a, ns, _, rfl, n.sm.seq hS, ?_⟩
      walk_at "rd"
      intro p np
      have nlp : l ≠ p := ne_of_none n.lst np
      have hx := at_way4 (i := mixF ns (k + 1 + i) % 4) (by omega) (by omega)
      have hl := n.lst
      have hlen : (as.map V.ref).length < 100000 := by
        rw [List.length_map, n.len, List.length_map, List.length_map, List.length_range]
        omega
      walk_at "rd"
      intro t nt
      have nlt : l ≠ t := ne_of_none (show upd H' p _ l = some (.lst (as.map V.ref)) from by rw [upd_ne nlp]; exact hl) nt
      walk_at "rd"
      refine ⟨as ++ [t], _, _, _, rfl, ?_⟩
      rw [List.range_succ, List.map_append, List.map_append]
      exact n.push (fun b o e => by rw [upd_ne (ne_of_none e np)]; exact e) nt
    · obtain ⟨as, x3, x4, x5, rfl, n⟩ := hP
      walk_at "rd"
      refine ⟨a, ns, _, rfl, n.sm.seq hS, ?_⟩
      walk_at "rd"
      have en : ((List.range m).map (mainAt ns k)) = mainsF ns k := by
        unfold mainsF
        rw [hmm]
      rw [en] at n
      have hmlen : (mainsF ns k).length ≤ 2 := by
        rw [← en, List.length_map, List.length_range]
        omega
      generalize hM : mixF ns (k + 4) = N at *
      refine k_cut (fun σ' H' => ∃ as x3 x5, σ' = [some (.ref a), some (.int k), some (.ref l), x3, some (.int N), x5] ∧ NewT H H' l as ((addNone N (mainsF ns k)).map Stg.vs)) ?_ ?_
      · have N0 : 0 ≤ N := by rw [← hM]; exact mixF_nonneg ns _
        have hx := at_way4 (i := N / 3 % 4) (by omega) (by omega)
        have hlen : (as.map V.ref).length < 100000 := by
          rw [List.length_map, n.len, List.length_map]
          omega
        have addT : (N % 3 < 2 ∨ (mainsF ns k = [] ∧ N / 3 % 2 = 0)) → addNone N (mainsF ns k) = mainsF ns k ++ [.main none (1 + N / 12 % 60) (way4 (N / 3 % 4)) (N / 720 % 9)] := fun c => if_pos c
        have addF : ¬ (N % 3 < 2 ∨ (mainsF ns k = [] ∧ N / 3 % 2 = 0)) → addNone N (mainsF ns k) = mainsF ns k := fun c => if_neg c
        have hl := n.lst
        by_cases c1 : N % 3 < 2
        · walk_at "rd"
          intro p np
          have nlp : l ≠ p := ne_of_none hl np
          walk_at "rd"
          intro t nt
          have nlt : l ≠ t := ne_of_none (Same.new np _ _ hl) nt
          walk_at "rd"
          refine ⟨as ++ [t], _, _, rfl, ?_⟩
          rw [addT (.inl c1), List.map_append]
          exact n.push (Same.new np) nt
        · walk_at "rd"
          intro z nz
          have n2 := n.ext (Same.new (o := .lst []) nz)
          have hl2 := n2.lst
          refine k_eqD _ (.list []) (dp_lst (SqL.of hl2) n2.len n2.tup (mains_flat ns k)) (.lst (SqL.of upd_same) .nil) (shaped_tups (mains_flat ns k)) (by decide +kernel) ?_
          rw [eqv_nil]
          walk_at "rd"
          by_cases c2 : mainsF ns k = []
          · have e2 : (((mainsF ns k).map Stg.vs).map td).isEmpty = true := by rw [c2]; rfl
            walk_at "rd"
            by_cases c3 : N / 3 % 2 = 0
            · walk_at "rd"
              intro p np
              have nlp : l ≠ p := ne_of_none hl2 np
              have nlz : l ≠ z := ne_of_none hl nz
              walk_at "rd"
              intro t nt
              have nlt : l ≠ t := ne_of_none (Same.new np _ _ hl2) nt
              walk_at "rd"
              refine ⟨as ++ [t], _, _, rfl, ?_⟩
              rw [addT (.inr ⟨c2, c3⟩), List.map_append]
              exact n2.push (Same.new np) nt
            · walk_at "rd"
              refine ⟨as, _, _, rfl, ?_⟩
              rw [addF (fun c => c.elim c1 fun c => c3 c.2)]
              exact n2
          · have e2 : (((mainsF ns k).map Stg.vs).map td).isEmpty = false := by
              cases h : mainsF ns k with
              | nil => exact absurd h c2
              | cons _ _ => rfl
            walk_at "rd"
            refine ⟨as, _, _, rfl, ?_⟩
            rw [addF (fun c => c.elim c1 fun c => c2 c.1)]
            exact n2
      · rintro σ' H2 ⟨as2, x3, x5, rfl, n2⟩
        have N0 : 0 ≤ N := by rw [← hM]; exact mixF_nonneg ns _
        have hl := n2.lst
        have hlen : (as2.map V.ref).length < 100000 := by
          rw [List.length_map, n2.len, List.length_map]
          unfold addNone
          split
          · rw [List.length_append, List.length_singleton]
            omega
          · omega
        have q2 : ∀ as H', NewT H H' l as ((addOver N (addNone N (mainsF ns k))).map Stg.vs) → Q (.ref l) H' := fun as H' n => q l as H' (by
          unfold stagesF
          rw [hM]
          exact n)
        by_cases c1 : 0 < N % 3
        · have e1 : addOver N (addNone N (mainsF ns k)) = addNone N (mainsF ns k) ++ [.over (1 + N / 7000 % 4) (1 + N / 28000 % 12)] := if_pos c1
          rw [e1, List.map_append] at q2
          walk_at "rd"
          intro t nt
          have nlt : l ≠ t := ne_of_none hl nt
          walk_at "rd"
          exact q2 _ _ (n2.push (Same.refl _) nt)
        · have e1 : addOver N (addNone N (mainsF ns k)) = addNone N (mainsF ns k) := if_neg c1
          rw [e1] at q2
          walk_at "rd"
          exact q2 _ _ n2
end
/-! ### the drawn stages pass the look -/
structure MB (t : Int) (w : Str) (e : Int) : Prop where
  t1 : 1 ≤ t
  t2 : t ≤ 1000000
  w : inV (.str w) ways4 = true
  e0 : 0 ≤ e
  e1 : e ≤ 1000000
theorem okAt_main {ss : List Stg} {i : Nat} {j t e : Int} {w : Str} (h : ss[i]? = some (.main (some j) t w e)) (hi : i + 1 < ss.length) (b : MB t w e) (j1 : 1 ≤ j) (j2 : j ≤ 200) : okAt (ss.map Stg.rs) i = true := by
  unfold okAt
  rw [List.getElem?_map, h, List.length_map]
  have hn : ¬ (i + 1 = ss.length) := by omega
  simp [Stg.rs, mainOk, b.t1, b.t2, b.w, b.e0, b.e1, j1, j2, hn]
theorem okAt_none {ss : List Stg} {i : Nat} {t e : Int} {w : Str} (h : ss[i]? = some (.main none t w e)) (hn : i + 1 = ss.length ∨ ∃ p q, ss[i + 1]? = some (.over p q)) (b : MB t w e) : okAt (ss.map Stg.rs) i = true := by
  unfold okAt
  rw [List.getElem?_map, h, List.length_map, List.getElem?_map]
  rcases hn with hn | ⟨p, q, hn⟩
  · simp [Stg.rs, mainOk, b.t1, b.t2, b.w, b.e0, b.e1, hn]
  · simp [Stg.rs, mainOk, b.t1, b.t2, b.w, b.e0, b.e1, hn, RS.w]
theorem okAt_over {ss : List Stg} {i : Nat} {p t : Int} (h : ss[i]? = some (.over p t)) (hi : i + 1 = ss.length) (p1 : 1 ≤ p) (p2 : p ≤ 200) (t1 : 1 ≤ t) (t2 : t ≤ 1000000) : okAt (ss.map Stg.rs) i = true := by
  unfold okAt
  rw [List.getElem?_map, h, List.length_map]
  simp [Stg.rs, hi, p1, p2, t1, t2]
def MainB (s : Stg) : Prop := ∃ j t w e, s = .main (some j) t w e ∧ MB t w e ∧ 1 ≤ j ∧ j ≤ 200
inductive TailB : List Stg → Prop
  | n {t e : Int} {w : Str} (b : MB t w e) : TailB [.main none t w e]
  | o {p t : Int} (p1 : 1 ≤ p) (p2 : p ≤ 200) (t1 : 1 ≤ t) (t2 : t ≤ 1000000) : TailB [.over p t]
  | no {t e : Int} {w : Str} {p q : Int} (b : MB t w e) (p1 : 1 ≤ p) (p2 : p ≤ 200) (t1 : 1 ≤ q) (t2 : q ≤ 1000000) : TailB [.main none t w e, .over p q]
theorem look_ok {ms tl : List Stg} (hm : ∀ s, s ∈ ms → MainB s) (hl : ms.length ≤ 3) (ht : TailB tl) : lookR ((ms ++ tl).map Stg.rs) = true := by
  have t0 : 1 ≤ tl.length ∧ tl.length ≤ 2 := by cases ht <;> simp
  have L : (ms ++ tl).length = ms.length + tl.length := List.length_append
  unfold lookR
  have hall : (List.range ((ms ++ tl).map Stg.rs).length).all (okAt ((ms ++ tl).map Stg.rs)) = true := by
    refine List.all_eq_true.mpr fun i hi => ?_
    rw [List.mem_range, List.length_map, L] at hi
    by_cases hi2 : i < ms.length
    · have e1 : (ms ++ tl)[i]? = some ms[i] := by rw [List.getElem?_append_left hi2, List.getElem?_eq_getElem hi2]
      obtain ⟨j, t, w, e, es, b, j1, j2⟩ := hm ms[i] (List.getElem_mem hi2)
      rw [es] at e1
      exact okAt_main e1 (by omega) b j1 j2
    · have e1 : (ms ++ tl)[i]? = tl[i - ms.length]? := List.getElem?_append_right (by omega)
      have e2 : (ms ++ tl)[i + 1]? = tl[i + 1 - ms.length]? := List.getElem?_append_right (by omega)
      cases ht with
      | n b =>
        have hi3 : i - ms.length = 0 := by simp at hi; omega
        rw [hi3] at e1
        exact okAt_none e1 (.inl (by rw [L]; simp at hi ⊢; omega)) b
      | o p1 p2 t1 t2 =>
        have hi3 : i - ms.length = 0 := by simp at hi; omega
        rw [hi3] at e1
        exact okAt_over e1 (by rw [L]; simp at hi ⊢; omega) p1 p2 t1 t2
      | no b p1 p2 t1 t2 =>
        by_cases hi4 : i = ms.length
        · have hi3 : i - ms.length = 0 := by omega
          have hi5 : i + 1 - ms.length = 1 := by omega
          rw [hi3] at e1
          rw [hi5] at e2
          exact okAt_none e1 (.inr ⟨_, _, e2⟩) b
        · have hi3 : i - ms.length = 1 := by simp at hi; omega
          rw [hi3] at e1
          exact okAt_over e1 (by rw [L]; simp at hi ⊢; omega) p1 p2 t1 t2
  rw [hall, List.length_map, L]
  have h1 : 1 ≤ ms.length + tl.length := by omega
  have h2 : ms.length + tl.length ≤ 5 := by omega
  simp [h1, h2]
theorem way4_in (i : Int) : inV (.str (way4 i)) ways4 = true := by
  unfold way4
  split <;> decide +kernel
theorem mains_B (ns : List Int) (k : Int) : ∀ s, s ∈ mainsF ns k → MainB s := fun s hs => by
  obtain ⟨j, hj, rfl⟩ := List.mem_map.mp hs
  have m0 := mixF_nonneg ns (k + 1 + j)
  exact ⟨_, _, _, _, rfl, ⟨by omega, by omega, way4_in _, by omega, by omega⟩, by omega, by omega⟩
theorem stages_split (ns : List Int) (k : Int) : ∃ tl, stagesF ns k = mainsF ns k ++ tl ∧ TailB tl := by
  have N0 := mixF_nonneg ns (k + 4)
  unfold stagesF addNone addOver
  generalize mixF ns (k + 4) = N at *
  have bn : MB (1 + N / 12 % 60) (way4 (N / 3 % 4)) (N / 720 % 9) := ⟨by omega, by omega, way4_in _, by omega, by omega⟩
  by_cases c1 : N % 3 < 2 ∨ (mainsF ns k = [] ∧ N / 3 % 2 = 0)
  · rw [if_pos c1]
    by_cases c2 : 0 < N % 3
    · rw [if_pos c2]
      exact ⟨_, List.append_assoc .., .no bn (by omega) (by omega) (by omega) (by omega)⟩
    · rw [if_neg c2]
      exact ⟨_, rfl, .n bn⟩
  · rw [if_neg c1]
    have c2 : 0 < N % 3 := by
      have : ¬ N % 3 < 2 := fun z => c1 (.inl z)
      omega
    rw [if_pos c2]
    exact ⟨_, rfl, .o (by omega) (by omega) (by omega) (by omega)⟩
theorem mains_len (ns : List Int) (k : Int) : (mainsF ns k).length ≤ 2 := by
  unfold mainsF
  rw [List.length_map, List.length_range]
  have := mixF_nonneg ns k
  omega
theorem stages_look (ns : List Int) (k : Int) : lookR ((stagesF ns k).map Stg.rs) = true := by
  obtain ⟨tl, e, t⟩ := stages_split ns k
  rw [e]
  exact look_ok (mains_B ns k) (Nat.le_trans (mains_len ns k) (by decide)) t
theorem rs_toS (ss : List Stg) : (ss.map Stg.rs).map RS.toS = ss := by
  rw [List.map_map]
  have : (RS.toS ∘ Stg.rs) = id := by
    funext s
    cases s <;> rfl
  rw [this, List.map_id]
theorem stages_good (ns : List Int) (k : Int) : GoodS (stagesF ns k) := by
  have h := (lookR_good (stages_look ns k)).2
  rw [rs_toS] at h
  exact h
/-! ### the drawn deeds -/
def gw (b : Bool) : Str := match b with
  | true => "give1"
  | false => "give0"
def Deed.word : Deed → Str
  | .go _ => "go"
  | .press _ => "press"
  | .start => "start"
  | .stop => "stop"
  | .give b _ => gw b
def Deed.num : Deed → Int
  | .go n => n
  | .press b => ti b
  | .start => 0
  | .stop => 0
  | .give _ n => n
def Deed.vs (d : Deed) : List V := [.str d.word, .int d.num]
abbrev nine : List V := [.int 0, .int 1, .int 2, .int 3, .int 5, .int 9, .int 25, .int 100, .int 1]
abbrev six : List V := [.int 3, .int (-2), .int 50, .int (-100), .int 9999970, .int (-1)]
def pick9 (i : Int) : Int := match i.toNat with
  | 0 => 0 | 1 => 1 | 2 => 2 | 3 => 3 | 4 => 5 | 5 => 9 | 6 => 25 | 7 => 100 | _ => 1
def pick6 (i : Int) : Int := match i.toNat with
  | 0 => 3 | 1 => -2 | 2 => 50 | 3 => -100 | 4 => 9999970 | _ => -1
theorem at9 {i : Int} (h0 : 0 ≤ i) (h1 : i < 9) : atI nine i = some (.int (pick9 i)) := by
  have h : i = 0 ∨ i = 1 ∨ i = 2 ∨ i = 3 ∨ i = 4 ∨ i = 5 ∨ i = 6 ∨ i = 7 ∨ i = 8 := by omega
  rcases h with rfl | rfl | rfl | rfl | rfl | rfl | rfl | rfl | rfl <;> rfl
theorem at6 {i : Int} (h0 : 0 ≤ i) (h1 : i < 6) : atI six i = some (.int (pick6 i)) := by
  have h : i = 0 ∨ i = 1 ∨ i = 2 ∨ i = 3 ∨ i = 4 ∨ i = 5 := by omega
  rcases h with rfl | rfl | rfl | rfl | rfl | rfl <;> rfl
theorem pick9_le (i : Int) : 0 ≤ pick9 i ∧ pick9 i ≤ 100 := by
  unfold pick9
  split <;> exact ⟨by decide, by decide⟩
def deedStep (n : Int) (t : Bool) : Deed × Bool :=
  if n % 10 < 4 then (.go (pick9 (n / 10 % 9)), t)
  else if n % 10 < 8 then (if n / 10 % 9 = 0 then (.press (!t), t) else (.press t, !t))
  else if n % 10 = 8 then (if n / 10 % 2 = 0 then .stop else .start, t)
  else (.give (decide (n / 10 % 2 = 1)) (pick6 (n / 20 % 6)), t)
def deedsF (ns : List Int) (k : Int) : Nat → List Deed × Bool
  | 0 => ([], false)
  | m + 1 => ((deedsF ns k m).1 ++ [(deedStep (mixF ns (k + m)) (deedsF ns k m).2).1], (deedStep (mixF ns (k + m)) (deedsF ns k m).2).2)
theorem deedsF_len (ns : List Int) (k : Int) : ∀ m, (deedsF ns k m).1.length = m
  | 0 => rfl
  | m + 1 => by
    show ((deedsF ns k m).1 ++ [_]).length = m + 1
    rw [List.length_append, deedsF_len ns k m]
    rfl
/-- what is asked of a deed: ticks that go by are few -/
def DeedB : Deed → Prop
  | .go n => -1 ≤ n ∧ n ≤ 100
  | _ => True
theorem deedsF_B (ns : List Int) (k : Int) : ∀ m d, d ∈ (deedsF ns k m).1 → DeedB d
  | 0, d, h => by simp [deedsF] at h
  | m + 1, d, h => by
    rcases List.mem_append.mp h with h | h
    · exact deedsF_B ns k m d h
    · rw [List.mem_singleton.mp h]
      unfold deedStep
      split
      · have := pick9_le (mixF ns (k + m) / 10 % 9)
        exact ⟨by omega, this.2⟩
      · split
        · split <;> trivial
        · split
          · show DeedB (if mixF ns (k + m) / 10 % 2 = 0 then .stop else .start)
            split <;> trivial
          · trivial
theorem ti_not (b : Bool) : 1 - ti b = ti (!b) := by cases b <;> rfl
def spDeeds (K : PySem.W.Frag) : Sp := fun vs H Q _ => ∃ a ns k, ∃ m : Nat, vs = [.ref a, .int k, .int m] ∧ SqL K H a (ns.map V.int) ∧ m ≤ 30 ∧ ∀ l as H', NewT H H' l as ((deedsF ns k m).1.map Deed.vs) → Q (.ref l) H'
section
variable {P : Program} {w : World} {K : PySem.W.Frag} {mg : Str → Option Value} {base : Heap} {CS CC cE cB cT cN cO aW : Addr} (T : Txt K mg CS CC cE cB cT cN cO aW)
include T
theorem ok_deeds (c__law_mix : CalX P w K mg base CX0 2 "_law_mix" (spMix K)) (d : FDef K mg "_law_deeds" s_law_deeds ["_law_script", "_law_k", "_law_many"]) : CalX P w K mg base CX0 3 "_law_deeds" (spDeeds K) := by
  refine CalX.of0 d sc_law_deeds (fun vs H Q E h => ?_) (fun f cdv A outer s H vs Q E hr h => ?_)
  · obtain ⟨a, ns, k, m, rfl, _⟩ := h
    rfl
  · obtain ⟨a, ns, k, m, rfl, hS, hm, q⟩ := h
    refine ⟨_, (pss_cons (ps_set (i := 3) sc_law_deeds.nd rfl (Or.inl rfl) (pe_lst pa_nil))
 (pss_cons (ps_set (i := 4) sc_law_deeds.nd rfl (Or.inl rfl) pe_int)
 (pss_cons (ps_for PassesOwn.never rfl (pi_range1 rfl T.b_range (pa_cons (pv 2) pa_nil)) (pg_name (i := 5) sc_law_deeds.nd rfl (Or.inl rfl)) (pss_cons (ps_set (i := 6) sc_law_deeds.nd rfl (Or.inl rfl) (pe_cX c__law_mix hr (by decide) rfl pass0 (pa_cons (pv 0) (pa_cons (pe_op op_add (pv 1) (pv 5)) pa_nil))))
 (pss_cons (ps_set (i := 7) sc_law_deeds.nd rfl (Or.inl rfl) (pe_op op_mod (pv 6) pe_int))
 (pss_one (ps_if (pt_cmpR op_lt (pv 7) pe_int (nomark _)) (pss_one (ps_expr (pe_bm PySem.F.plainAttrs_list PySem.F.slot_list_append PySem.F.type_list_append mt_append (pv 3) (pa_cons (pe_tup (pa_cons pe_str (pa_cons (pe_ix ix_list (pe_lst (pa_cons pe_int (pa_cons pe_int (pa_cons pe_int (pa_cons pe_int (pa_cons pe_int (pa_cons pe_int (pa_cons pe_int (pa_cons pe_int (pa_cons pe_int pa_nil)))))))))) (pe_op op_mod (pe_op op_fdiv (pv 6) pe_int) pe_int) (fun _ _ => rfl)) pa_nil))) pa_nil)))) (pss_one (ps_if (pt_cmpR op_lt (pv 7) pe_int (nomark _)) (pss_cons (ps_set (i := 4) sc_law_deeds.nd rfl (Or.inl rfl) (pe_ifExp (pt_cmpR op_eq (pe_op op_mod (pe_op op_fdiv (pv 6) pe_int) pe_int) pe_int (nomark _)) (pe_op op_sub pe_int (pv 4)) (pv 4)))
 (pss_cons (ps_expr (pe_bm PySem.F.plainAttrs_list PySem.F.slot_list_append PySem.F.type_list_append mt_append (pv 3) (pa_cons (pe_tup (pa_cons pe_str (pa_cons (pv 4) pa_nil))) pa_nil)))
 (pss_one (ps_set (i := 4) sc_law_deeds.nd rfl (Or.inl rfl) (pe_op op_sub pe_int (pv 4)))))) (pss_one (ps_if (pt_cmpR op_eq (pv 7) pe_int (nomark _)) (pss_one (ps_expr (pe_bm PySem.F.plainAttrs_list PySem.F.slot_list_append PySem.F.type_list_append mt_append (pv 3) (pa_cons (pe_tup (pa_cons (pe_ix ix_list (pe_lst (pa_cons pe_str (pa_cons pe_str pa_nil))) (pe_op op_mod (pe_op op_fdiv (pv 6) pe_int) pe_int) (fun _ _ => rfl)) (pa_cons pe_int pa_nil))) pa_nil)))) (pss_one (ps_expr (pe_bm PySem.F.plainAttrs_list PySem.F.slot_list_append PySem.F.type_list_append mt_append (pv 3) (pa_cons (pe_tup (pa_cons (pe_op op_add_str pe_str (pe_callTy call_str_int (by rfl) T.b_str (by decide +kernel) (pa_cons (pe_op op_mod (pe_op op_fdiv (pv 6) pe_int) pe_int) pa_nil))) (pa_cons (pe_ix ix_list (pe_lst (pa_cons pe_int (pa_cons (pe_un un_neg pe_int) (pa_cons pe_int (pa_cons (pe_un un_neg pe_int) (pa_cons pe_int (pa_cons (pe_un un_neg pe_int) pa_nil))))))) (pe_op op_mod (pe_op op_fdiv (pv 6) pe_int) pe_int) (fun _ _ => rfl)) pa_nil))) pa_nil)))))))))))))
 (pss_one (ps_ret (pv 3)))))), ?_⟩
    walk_at "rd"
    intro l nl
    walk_at "rd"
    have n0 := NewT.start (H := H) nl
    refine k_forR (n := m) (fun i σ' H' => ∃ as x5 x6 x7, σ' = [some (.ref a), some (.int k), some (.int m), some (.ref l), some (.int (ti (deedsF ns k i).2)), x5, x6, x7] ∧ NewT H H' l as ((deedsF ns k i).1.map Deed.vs)) (by have z : (30 : Int) < 2 ^ 62 := (by decide); omega)
      ⟨[], _, _, _, rfl, n0⟩ (fun i σ' H' hi hP => ?_) (fun σ' H' hP => ?_)
    · obtain ⟨as, x5, x6, x7, rfl, n⟩ := hP
      walk_at "rd"
      refine ⟨a, ns, _, rfl, n.sm.seq hS, ?_⟩
      walk_at "rd"
      have hl := n.lst
      have hlen : (as.map V.ref).length < 100000 := by
        rw [List.length_map, n.len, List.length_map, deedsF_len]
        omega
      have fin : ∀ (dd : Deed) (b : Bool), deedStep (mixF ns (k + i)) (deedsF ns k i).2 = (dd, b) → ∀ t H2, Same H' H2 → H2 t = none →
          NewT H (upd (upd H2 t (.tup dd.vs)) l (.lst (as.map V.ref ++ [.ref t]))) l (as ++ [t]) ((deedsF ns k (i + 1)).1.map Deed.vs) ∧ (deedsF ns k (i + 1)).2 = b := fun dd b e t H2 hs nt => by
        constructor
        · show NewT H _ l (as ++ [t]) (((deedsF ns k i).1 ++ [(deedStep (mixF ns (k + i)) (deedsF ns k i).2).1]).map Deed.vs)
          rw [e, List.map_append]
          exact n.push hs nt
        · show (deedStep (mixF ns (k + i)) (deedsF ns k i).2).2 = b
          rw [e]
      have N0 := mixF_nonneg ns (k + i)
      unfold deedStep at fin
      generalize mixF ns (k + i) = N at *
      generalize (deedsF ns k i).2 = tb at *
      by_cases c1 : N % 10 < 4
      · rw [if_pos c1] at fin
        walk_at "rd"
        intro p np
        have nlp : l ≠ p := ne_of_none hl np
        have hx := at9 (i := N / 10 % 9) (by omega) (by omega)
        walk_at "rd"
        intro t nt
        have nlt : l ≠ t := ne_of_none (Same.new np _ _ hl) nt
        walk_at "rd"
        have e := fin _ _ rfl t _ (Same.new (o := .lst nine) np) nt
        exact ⟨as ++ [t], _, _, _, by rw [e.2]; rfl, e.1⟩
      · rw [if_neg c1] at fin
        walk_at "rd"
        by_cases c2 : N % 10 < 8
        · rw [if_pos c2] at fin
          walk_at "rd"
          by_cases c3 : N / 10 % 9 = 0
          · rw [if_pos c3] at fin
            walk_at "rd"
            rw [ti_not]
            intro t nt
            have nlt : l ≠ t := ne_of_none hl nt
            walk_at "rd"
            have e := fin _ _ rfl t _ (Same.refl _) nt
            exact ⟨as ++ [t], _, _, _, by rw [e.2, ti_not, Bool.not_not]; rfl, e.1⟩
          · rw [if_neg c3] at fin
            walk_at "rd"
            intro t nt
            have nlt : l ≠ t := ne_of_none hl nt
            walk_at "rd"
            have e := fin _ _ rfl t _ (Same.refl _) nt
            exact ⟨as ++ [t], _, _, _, by rw [e.2, ti_not]; rfl, e.1⟩
        · rw [if_neg c2] at fin
          walk_at "rd"
          by_cases c4 : N % 10 = 8
          · rw [if_pos c4] at fin
            walk_at "rd"
            intro p np
            have nlp : l ≠ p := ne_of_none hl np
            by_cases c5 : N / 10 % 2 = 0
            · rw [if_pos c5] at fin
              have hx2 : atI [V.str "stop", V.str "start"] (N / 10 % 2) = some (.str "stop") := by rw [c5]; rfl
              walk_at "rd"
              intro t nt
              have nlt : l ≠ t := ne_of_none (Same.new np _ _ hl) nt
              walk_at "rd"
              have e := fin _ _ rfl t _ (Same.new (o := .lst [.str "stop", .str "start"]) np) nt
              exact ⟨as ++ [t], _, _, _, by rw [e.2]; rfl, e.1⟩
            · rw [if_neg c5] at fin
              have c6 : N / 10 % 2 = 1 := by omega
              have hx2 : atI [V.str "stop", V.str "start"] (N / 10 % 2) = some (.str "start") := by rw [c6]; rfl
              walk_at "rd"
              intro t nt
              have nlt : l ≠ t := ne_of_none (Same.new np _ _ hl) nt
              walk_at "rd"
              have e := fin _ _ rfl t _ (Same.new (o := .lst [.str "stop", .str "start"]) np) nt
              exact ⟨as ++ [t], _, _, _, by rw [e.2]; rfl, e.1⟩
          · rw [if_neg c4] at fin
            walk_at "rd"
            have hx := at6 (i := N / 20 % 6) (by omega) (by omega)
            obtain ⟨b, hb, hbw⟩ : ∃ b : Bool, N / 10 % 2 = ti b ∧ ("give" : Str) ++ (Str.ofString (toString (ti b))) = gw b := by
              by_cases c5 : N / 10 % 2 = 0
              · exact ⟨false, c5, by decide +kernel⟩
              · exact ⟨true, (show N / 10 % 2 = 1 by omega), by decide +kernel⟩
            have hbd : decide (N / 10 % 2 = 1) = b := by
              rw [hb]
              cases b <;> rfl
            rw [hbd] at fin
            rw [hb]
            refine k_strI (by cases b <;> decide) ?_
            walk_at "rd"
            refine k_addS (by rw [sizeLine_eq]; cases b <;> decide +kernel) ?_
            rw [hbw]
            walk_at "rd"
            intro p np
            have nlp : l ≠ p := ne_of_none hl np
            walk_at "rd"
            intro t nt
            have nlt : l ≠ t := ne_of_none (Same.new np _ _ hl) nt
            walk_at "rd"
            have e := fin _ _ rfl t _ (Same.new (o := .lst six) np) nt
            exact ⟨as ++ [t], _, _, _, by rw [e.2]; rfl, e.1⟩
    · obtain ⟨as, x5, x6, x7, rfl, n⟩ := hP
      walk_at "rd"
      exact q _ _ _ n
end
/-! ### an error that is kept behind its except suite: it is tracked from the catch on -/
def ExT (cls : Value) (d : Option Addr) (a : Addr) : HO := .ext fun h => ∃ (oe : Obj) (vs : Array Value), h.get? a = some oe ∧ Zc cls d oe ∧ oe.data = .fields vs
theorem exT_ok {P : Program} {w : World} {H : Hp} {h : Heap} {a : Addr} {cls : Value} {d : Option Addr} {oe : Obj} {vs : Array Value} (e : h.get? a = some oe) (z : Zc cls d oe) (dd : oe.data = .fields vs) : ObjOk P w H h a (ExT cls d a) :=
  ⟨⟨oe, vs, e, z, dd⟩, ⟨oe, e⟩, fun _ _ p k => by
    obtain ⟨o, v, q, r⟩ := p
    exact ⟨o, v, k o q, r⟩⟩
section
variable {X : Cx} {pins : List (Addr × Obj)} {σ : L2.St} {H : Hp} {s sI : Shared}
/-- an object of ours that nobody tracks is tracked from here on -/
theorem track {a : Addr} {o : HO} (I : Inv X pins σ H s) (hn : H a = none) (n0 : ∀ u, X.s_0.heap.get? a = some u → False) (nL : a ≠ X.env.locals) (nC : ∀ x c, X.env.cells.lookup x = some c → c ≠ a) (nP : ∀ p, p ∈ X.pn ++ pins → p.1 ≠ a)
    (ok : ObjOk X.prog X.w (upd H a o) s.heap a o) : Inv X pins σ (upd H a o) s := by
  have ne : ∀ b u, H b = some u → b ≠ a := fun b u e => ne_of_none e hn
  obtain ⟨i1, i2, i3, B, i5, i6, i7, i8, i9, i10, i11⟩ := I
  refine ⟨i1, i2, i3, ⟨B.keep, B.slot, fun b u e n hx => ?_, B.there, fun b xs e => ?_, fun b u v e => ?_, fun b ps e => ?_⟩, i5, i6, ?_, fun x c e => ?_, fun p hp => ?_, fun b u e => ?_, i11⟩
  · rw [upd_ne (fun z => by rw [z] at e; exact n0 u e)]
    exact B.free b u e n hx
  · have z := B.tups b xs e
    rw [upd_ne (ne _ _ z)]
    exact z
  · have z := B.frzs b u v e
    rw [upd_ne (ne _ _ z)]
    exact z
  · obtain ⟨m, z⟩ := B.tbls b ps e
    exact ⟨m, by rw [upd_ne (ne _ _ z)]; exact z⟩
  · rw [upd_ne (Ne.symm nL)]
    exact i7
  · rw [upd_ne (nC x c e)]
    exact i8 x c e
  · obtain ⟨e1, e2, e3⟩ := i9 p hp
    exact ⟨e1, by rw [upd_ne (nP p hp)]; exact e2, e3⟩
  · by_cases hb : b = a
    · subst hb
      rw [upd_same] at e
      cases e
      exact ok
    · rw [upd_ne hb] at e
      exact (i10 b u e).stay (fun c v _ q => q) (fun c q => by rw [upd_ne (ne _ _ q)]; exact q) fun c xs q => by rw [upd_ne (ne _ _ q)]; exact q
/-- into an except suite that pins nothing more -/
theorem Inv.suite0 (I : Inv X pins σ H s) (a : Addr) : Inv (X.suite a (X.pn ++ pins)) [] σ H s :=
  ⟨I.ok.suite _ _, I.os, I.bare, I.base, I.loc, I.cell, I.free, I.freeC, fun p hp => I.pin p (by rw [List.append_nil] at hp; exact hp), I.hok, I.len⟩
theorem Inv.unsuite0 {a : Addr} {q : List (Addr × Obj)} (I : Inv (X.suite a (X.pn ++ pins)) q σ H s) (ok : X.Ok) : Inv X pins σ H s :=
  ⟨ok, I.os, I.bare, I.base, I.loc, I.cell, I.free, I.freeC, fun p hp => I.pin p (List.mem_append_left _ hp), I.hok, I.len⟩
end
/-- what the clause wishes of an error of the body: slot i is its name's -/
def wKeep (K : PySem.W.Frag) (c : Value) (i : Nat) (ts : Addr → Value → Option Addr → TS) (Wout : WX) (D : Ends) : WX := fun cls d σ H =>
  ∃ b, PySem.W.exmOne K cls c = some b ∧ (b = true → ∀ a, H a = none → ts a cls d ⟨fun σ' H' => D.nx (σ'.set i none) H', D.rt, fun σ' H' => D.bk (σ'.set i none) H', fun σ' H' => D.ct (σ'.set i none) H'⟩ (σ.set i (some (.ref a))) (upd H a (ExT cls d a))) ∧
    (b = false → Wout cls d σ H)
section
variable {X : Cx} {x n : Str} {c : Value} {i : Nat} {body suite : List Stmt} {b₀ : Stmt} {np pos pos' : Pos} {tb : WX → TS} {ts : Addr → Value → Option Addr → TS} {Wout : WX}
theorem ps_try_keep (hs : X.stack = X.env :: X.outer) (hf : X.env.frame = some X.env.locals) (hN : X.N.Nodup) (hi : X.N[i]? = some n) (hln : X.env.kindOf n = some .local) (hc : Names X x c) (tk : Takes X Wout)
    (hb : ∀ (W : WX) (pn : List (Addr × Obj)) (xe : Value → Shared → Prop), Takes (X.tr pn xe) W → PassesOwn (model X.prog X.w) X.A X.env xe → PSs (X.tr pn xe) body (tb W))
    (hsu : ∀ (a : Addr) (cls : Value) (d : Option Addr) (pn : List (Addr × Obj)), PSs (X.suite a pn) (b₀ :: suite) (ts a cls d)) (hex : X.ex = [] := by rfl) :
    PS X (.Try body [.ExceptHandler (some (.Name x np)) (some n) (b₀ :: suite) pos'] [] [] pos) (fun D σ H => tb (wKeep X.K c i ts Wout D) D σ H) := by
  refine ⟨fun pins s σ H D I h => ?_⟩
  have okX := I.ok
  have frX : X.A.frames = some (X.env :: X.outer) := by rw [okX.frames, hs]
  refine wpAny_Try_except ?_
  refine wpAny_mono ((hb (wKeep X.K c i ts Wout D) (X.pn ++ pins) (fun e s₁ => wpAny (model X.prog X.w) X.A (noteFrame e X.env) (fun _ s₂ => wpAny (model X.prog X.w) X.A (setFlight e none) (fun _ s₃ =>
    wpAny (model X.prog X.w) X.A (handleBy e X.env [.ExceptHandler (some (.Name x np)) (some n) (b₀ :: suite) pos']) (SP X pins D) X.xe s₃) X.xe s₂) X.xe s₁) (fun u s' air => ?_) PassesOwn.looking).run [] s σ H D (I.toTry _) h) (fun f s1 hsp => ?_) (fun e s1 he => he)
  · obtain ⟨a, B, sI, pins', σ', H', cls, d, rfl, J', nb, up, sky, na, os, ag, b, hb1, hyes, hno⟩ := air
    have J : Inv X pins σ' H' sI := J'.ofTry okX
    rw [hs] at sky
    show wpAny (model X.prog X.w) X.A (noteFrame (.ref a) X.env) _ _ _
    refine Sky.land Zc.steady frX hf sky fun h3 fl3 up3 => ?_
    have J3 : Inv X pins σ' H' { s' with heap := h3 } := J.landed nb fl3.1 (up.trans up3) os ag
    have out : ∀ {hp : Heap}, HandSPX.FlyingZ B (X.env :: X.outer) a (Zc cls d) hp → ∃ oe vs, hp.get? a = some oe ∧ Zc cls d oe ∧ oe.data = .fields vs ∧ a ∉ frs (X.env :: X.outer) := fun {hp} fl => by
      obtain ⟨oe, vs, he, hz, hd⟩ := fl.there
      refine ⟨oe, vs, he, hz, hd, fun hm => ?_⟩
      obtain ⟨_, o', e', hnf⟩ := fl.2.2.1.mem hm
      rw [he] at e'
      cases e'
      exact hnf _ hd
    obtain ⟨oe3, vs3, he3, hz3, hd3, nfr⟩ := out fl3
    have nL : a ≠ X.env.locals := fun z => nfr (List.mem_filterMap.mpr ⟨X.env, List.mem_cons_self, by rw [hf, z]⟩)
    have nI : ∀ u, sI.heap.get? a = some u → False := fun u e => by
      have z := nb a u e (by rw [hs]; exact nfr)
      rw [fl3.2.1] at z
      cases z
    have n0 : ∀ u, X.s_0.heap.get? a = some u → False := fun u e => by
      obtain ⟨o', e'⟩ := J.base.there a u e (by rw [hex]; exact fun z => nomatch z)
      exact nI o' e'
    have nC : ∀ y k, X.env.cells.lookup y = some k → k ≠ a := fun y k e z => by
      obtain ⟨v, o, ho, _⟩ := J.cell y k e
      rw [z] at ho
      exact nI o ho
    have nP : ∀ p, p ∈ X.pn ++ pins → p.1 ≠ a := fun p hp z => by
      have q := (J.pin p hp).1
      rw [z] at q
      exact nI _ q
    have S3 := Inv.suite0 J3 a
    refine wpAny_handleBy_cons (codeAny_handlers_test ?_) (by intro q; cases q)
    have LT : PySem.W.Looks (model X.prog X.w) h3 (typeOf (.ref a)) cls := fun A Q E s k q => wpAny_typeOf_ref (k _ _ he3) (by rw [hz3.1]; exact q)
    have LM := PySem.W.exm_one (M := model X.prog X.w) (J3.kIn) LT hb1
    have nm : ∀ {Q : Value → Shared → Prop} {E : Value → Shared → Prop}, Q c { s' with heap := h3 } → wpAny (model X.prog X.w) (X.A.mark (some (.ref a))) (eval (.Name x np) X.env) Q E { s' with heap := h3 } := fun {Q E} q => by
      obtain ⟨hg, hdbg, hm | ⟨hm, hv, hnn⟩⟩ := hc
      · exact ld_glob (X := X.suite a (X.pn ++ pins)) S3 hg hm q hdbg
      · exact ld_blt (X := X.suite a (X.pn ++ pins)) S3 hg hm hv q hnn hdbg
    refine nm (LM.here ?_)
    cases b with
    | true =>
      refine codeAny_handlers_suite_as ?_
      refine HandSPX.lands_againZ fl3 fun h4 fl4 up4 => ?_
      have J4 : Inv X pins σ' H' { s' with heap := h4 } := J.landed nb fl4.1 ((up.trans up3).trans up4) os ag
      obtain ⟨oe4, vs4, he4, hz4, hd4, _⟩ := out fl4
      have J5 := track J4 na n0 nL nC nP (exT_ok (d := d) he4 hz4 hd4)
      have S5 := Inv.suite0 J5 a
      refine store_ok (X := X.suite a (X.pn ++ pins)) (v := .ref a) S5 hN hi (.inl hln) rfl (fun s5 S6 => ?_) (.inr hln)
      refine wpAny_mono ((hsu a cls d (X.pn ++ pins)).run [] s5 _ _ _ S6 (hyes rfl a na)) (fun f s6 hsp => ?_) (fun _ _ z => False.elim z)
      have fin : ∀ {σ6 : L2.St} {H6 : Hp} {Q : Shared → Prop}, Inv (X.suite a (X.pn ++ pins)) [] σ6 H6 s6 → (∀ s7, Inv X pins (σ6.set i none) H6 s7 → Q s7) →
          wpAny (model X.prog X.w) X.A (do bindName X.env n .none; unbindBehindTheSuite X.env n pos') (fun _ s7 => Q s7) X.xe s6 := fun {σ6 H6 Q} S7 hq => gone_ok (Inv.unsuite0 S7 okX) hN hi hln hq
      cases f with
      | next =>
        obtain ⟨σ6, H6, S7, q6⟩ := hsp
        exact fin S7 fun s7 J7 => ⟨_, _, J7, q6⟩
      | brk =>
        obtain ⟨σ6, H6, S7, q6⟩ := hsp
        exact fin S7 fun s7 J7 => ⟨_, _, J7, q6⟩
      | cont =>
        obtain ⟨σ6, H6, S7, q6⟩ := hsp
        exact fin S7 fun s7 J7 => ⟨_, _, J7, q6⟩
      | ret u =>
        obtain ⟨v6, σ6, H6, S7, r6, q6⟩ := hsp
        exact fin S7 fun s7 J7 => ⟨_, _, _, J7, r6, q6⟩
    | false =>
      show wpAny _ X.A (handleBy (.ref a) X.env []) _ _ _
      refine wpAny_handleBy_nil ?_
      obtain ⟨k1, k2, k3, oe, vs, TT, oT, ts', he, hz, hd, h1, hr⟩ := id fl3
      unfold PySem.passOn
      refine wpAny_bind (wpAny_field he hd h1 ?_)
      rw [if_neg (show ¬ ((Value.ref TT == Value.none) = true) from by simp)]
      have far : wpAny (model X.prog X.w) X.A (setFlight (.ref a) X.env.frame) (fun _ s4 => wpAny (model X.prog X.w) X.A (throw (.ref a) : Sem Flow) (SP X pins D) X.xe s4) X.xe { s' with heap := h3 } := by
        rw [hf]
        refine HandSPX.setFlight_upZ fl3 fun h4 hh4 up4 => wpAny_throw (tk _ _ ?_)
        exact ⟨a, B, sI, pins, σ', H', cls, d, rfl, J, nb, (up.trans up3).trans up4, .inr (.inr (by rw [hs]; exact hh4)), na, os, ag, hno rfl⟩
      first
        | exact wpAny_bind (wpAny_pure (wpAny_bind far))
        | exact wpAny_bind far
  · cases f with
    | next =>
      obtain ⟨σ', H', J', q⟩ := hsp
      exact wpAny_execs_nil ⟨σ', H', J'.ofTry okX, q⟩
    | brk =>
      obtain ⟨σ', H', J', q⟩ := hsp
      exact ⟨σ', H', J'.ofTry okX, q⟩
    | cont =>
      obtain ⟨σ', H', J', q⟩ := hsp
      exact ⟨σ', H', J'.ofTry okX, q⟩
    | ret u =>
      obtain ⟨v, σ', H', J', r, q⟩ := hsp
      exact ⟨v, σ', H', J'.ofTry okX, r, q⟩
/-- isinstance of a kept error -/
def rIsK (K : PySem.W.Frag) : List V → Hp → VK → Prop := fun xs H Q => ∃ (a D : Addr) (c : V) (cv : Value) (b : Bool), xs = [.ref a, c] ∧ H a = some (ExT (.ref D) none a) ∧ ExcC K D ∧ (∀ u, RelV c u → u = cv) ∧ PySem.W.kitOne K (.ref D) cv = some b ∧ Q (.bl b) H
def rIsKT (K : PySem.W.Frag) : List V → Hp → VK → Prop := fun xs H Q => ∃ (a D tp : Addr) (cs : List V) (us : List Value) (b : Bool), xs = [.ref a, .ref tp] ∧ H tp = some (.tup cs) ∧ Paired ClsV cs us ∧ H a = some (ExT (.ref D) none a) ∧ ExcC K D ∧ PySem.W.kitAny K (.ref D) us = some b ∧ Q (.bl b) H
theorem inst_of {pins : List (Addr × Obj)} {σ : L2.St} {H : Hp} {s : Shared} {a D : Addr} (I : Inv X pins σ H s) (h : H a = some (ExT (.ref D) none a)) : ∃ oe, PySem.W.InstAt s.heap a oe D none := by
  obtain ⟨⟨oe, vs, he, hz, hd⟩, _, _⟩ := I.hok a _ h
  refine ⟨oe, ?_⟩
  obtain ⟨oc, od, oda, osl⟩ := oe
  obtain ⟨h1, h2⟩ := hz
  dsimp only at h1 h2 hd
  subst h1 h2 hd
  exact ⟨he, rfl, rfl, trivial⟩
theorem call_isK : CallR X (.builtin "isinstance") (rIsK X.K) := by
  intro pins s σ H xs us Q I r h
  obtain ⟨a, D, c, cv, b, rfl, ha, C, hcv, e, q⟩ := h
  obtain ⟨u1, u2, rfl, r1, r2⟩ := vals2 r
  cases r1
  have ec := hcv _ r2
  subst ec
  obtain ⟨oe, J⟩ := inst_of I ha
  exact PySem.W.kia_one (PySem.W.handS_kitx_exc C.hg C.hk C.hs C.hd C.ha C.hn C.ht C.hm) I.kIn J e (fun z => nomatch z) fun tk => ⟨.bl b, H, I.tok tk, rfl, q⟩
theorem call_isKT : CallR X (.builtin "isinstance") (rIsKT X.K) := by
  intro pins s σ H xs us Q I r h
  obtain ⟨a, D, tp, cs, ws, b, rfl, hT, k, ha, C, e, q⟩ := h
  obtain ⟨u1, u2, rfl, r1, r2⟩ := vals2 r
  cases r1
  cases (show u2 = Value.ref tp from r2)
  obtain ⟨oe, J⟩ := inst_of I ha
  obtain ⟨_, its, rv, o, h1, h2, n, h3⟩ := (show ObjOk X.prog X.w H s.heap tp (.tup cs) from I.hok tp _ hT)
  have e3 := ClsV.all k rv
  subst e3
  obtain ⟨oc, od, dt, sl⟩ := o
  simp only at h2 h3
  subst h2 h3
  exact PySem.W.kia_tup (PySem.W.handS_kitx_exc C.hg C.hk C.hs C.hd C.ha C.hn C.ht C.hm) I.kIn J h1 e (fun z => nomatch z) fun tk => ⟨.bl b, H, I.tok tk, rfl, q⟩
/-- how often a truth stands in a list of truths -/
def rCntB (K : PySem.W.Frag) : V → List V → Hp → VK → Prop := fun x xs H Q => ∃ (p : Addr) (bs : List Bool) (k : Bool), x = .ref p ∧ xs = [.bl k] ∧ SqL K H p (bs.map V.bl) ∧ Q (.int (bs.count k : Nat)) H
theorem reads_bools {h : Heap} : ∀ {bs : List Bool} {its : List Value}, Vals (bs.map V.bl) its → ReadsAll h its (bs.map PyData.bool) []
  | [], _, .nil => .nil
  | b :: r, _, .cons rv rr => by
    cases rv
    exact ReadsAll.cons (as := []) (bs := []) (.bool b) (reads_bools rr)
theorem all_bools : ∀ bs : List Bool, (bs.map PyData.bool).all PySem.Spec.Shape.bool.has = true
  | [] => rfl
  | b :: r => by
    rw [List.map_cons, List.all_cons, all_bools r]
    rfl
theorem cnt_bools (k : Bool) : ∀ bs : List Bool, PySem.Spec.countIn (.bool k) (bs.map PyData.bool) = ((bs.count k : Nat) : Int)
  | [] => rfl
  | b :: r => by
    have ih := cnt_bools k r
    rw [List.count_cons, List.map_cons]
    show (if (b == k) = true then (1 : Int) else 0) + PySem.Spec.countIn (.bool k) (r.map PyData.bool) = _
    rw [ih]
    cases h : (b == k) <;> simp <;> omega
theorem mt_countB : MtR X "list.count" (rCntB X.K) := by
  intro pins s σ H x xs v us Q I rx rxs h
  obtain ⟨p, bs, k, rfl, rfl, hs, q⟩ := h
  cases rx
  obtain ⟨u, rfl, ru⟩ := rxs.one
  cases ru
  obtain ⟨its, rv, pl, hlen⟩ := I.list hs
  refine PyProof.Rows.count_list_bools (k := k) pl.isList (reads_bools (h := s.heap) rv) (all_bools bs) ?_
  rw [cnt_bools]
  exact ⟨.int (bs.count k : Nat), H, I.tok _, ⟨_, rfl⟩, q⟩
end
/-! ### the law's own look at stages -/
def mainR : RS → Bool → Bool
  | .tri .., _ => false
  | .pent _ m t way e, last => mainOk m t way e last
def spMainL : Sp := fun vs H Q _ => ∃ a r last, vs = [.ref a, .bl last] ∧ H a = some (.tup (RS.vs r)) ∧ ∀ H', Same H H' → Q (.bl (mainR r last)) H'
def spGoodL : Sp := fun vs H Q _ => ∃ l as rs, vs = [.ref l] ∧ H l = some (.lst (as.map V.ref)) ∧ RTups H as rs ∧ rs.length ≤ 100 ∧ ∀ H', Same H H' → Q (.bl (lookR rs)) H'
section
variable {P : Program} {w : World} {K : PySem.W.Frag} {mg : Str → Option Value} {base : Heap} {CS CC cE cB cT cN cO aW : Addr} (T : Txt K mg CS CC cE cB cT cN cO aW)
include T
theorem ok_mainL (d : FDef K mg "_law_main" s_law_main ["_law_stage", "_law_last"]) : CalX P w K mg base CX0 1 "_law_main" spMainL := by
  refine CalX.of0 d sc_law_main (fun vs H Q E h => ?_) (fun f cdv A outer s H vs Q E hr h => ?_)
  · obtain ⟨a, r, last, rfl, _⟩ := h
    rfl
  · obtain ⟨a, r, last, rfl, ha, q⟩ := h
    refine ⟨_, (pss_cons (ps_if (pt_cmpR op_ne (pe_callB call_len_seq (by rfl) T.b_len PySem.boot_len (pa_cons (pv 0) pa_nil)) pe_int (nomark _)) (pss_one (ps_ret pe_bl)) pss_nil)
 (pss_cons (ps_set (i := 2) sc_law_main.nd rfl (Or.inl rfl) (pe_ix ix_tup (pv 0) pe_int (fun _ _ => rfl)))
 (C8.pss_cut (ps_if (PW.pt (pw_and (pt_cmpR op_notN (pv 2) pe_non (nomark _)) (pw_and1 (PW.pt (pw_or (pt_val (pv 1)) (pw_or1 (pt_not (pt_chain op_le op_le pe_int (pv 2) pe_int)))))))) (pss_one (ps_ret pe_bl)) pss_nil)
 (pss_one (ps_ret (pe_and (pe_chain op_le op_le pe_int (pe_ix ix_tup (pv 0) pe_int (fun _ _ => rfl)) pe_int) (pe_and (pe_cmpR op_in_seq (pe_ix ix_tup (pv 0) pe_int (fun _ _ => rfl)) (pe_tup (pa_cons pe_str (pa_cons pe_str (pa_cons pe_str (pa_cons pe_str pa_nil))))) (by rfl)) (pe_one (pe_chain op_le op_le pe_int (pe_ix ix_tup (pv 0) pe_int (fun _ _ => rfl)) pe_int))))))))), ?_⟩
    cases r with
    | tri w p t =>
      have ha : H a = some (.tup [.str w, .int p, .int t]) := ha
      walk_at "rd"
      exact q _ (Same.refl _)
    | pent w m t way e =>
      have ha : H a = some (.tup [.str w, mv m, .int t, .str way, .int e]) := ha
      have qf : mainOk m t way e last = false → ∀ H', Same H H' → Q (.bl false) H' := fun z H' s => by
        have y : mainR (.pent w m t way e) last = false := z
        rw [← y]
        exact q H' s
      have qt : mainOk m t way e last = true → ∀ H', Same H H' → Q (.bl true) H' := fun z H' s => by
        have y : mainR (.pent w m t way e) last = true := z
        rw [← y]
        exact q H' s
      walk_at "rd"
      refine k_cut (fun σ' H' => σ' = [some (.ref a), some (.bl last), some (mv m)] ∧ H' = H ∧ (match m with | none => True | some i => 1 ≤ i ∧ i ≤ 200 ∧ last = false)) ?_ ?_
      · cases m with
        | none =>
          walk_at "rd"
          exact ⟨rfl, rfl, trivial⟩
        | some i =>
          walk_at "rd"
          cases last with
          | true =>
            walk_at "rd"
            exact qf (by simp [mainOk]) _ (Same.refl _)
          | false =>
            walk_at "rd"
            by_cases h1 : 1 ≤ i
            · by_cases h2 : i ≤ 200
              · walk_at "rd"
                exact ⟨rfl, rfl, h1, h2, rfl⟩
              · walk_at "rd"
                exact qf (by simp [mainOk, h2]) _ (Same.refl _)
            · walk_at "rd"
              exact qf (by simp [mainOk, h1]) _ (Same.refl _)
      · rintro σ' H' ⟨rfl, eH, hm⟩
        have eH2 := eH.symm
        subst eH2
        have em : mainOk m t way e last = (decide (1 ≤ t) && decide (t ≤ 1000000) && inV (.str way) ways4 && decide (0 ≤ e) && decide (e ≤ 1000000)) := by
          cases m with
          | none => rfl
          | some i =>
            obtain ⟨a1, a2, a3⟩ := hm
            subst a3
            simp [mainOk, a1, a2]
        rw [em] at qf qt
        walk_at "rd"
        by_cases h1 : 1 ≤ t
        · by_cases h2 : t ≤ 1000000
          · walk_at "rd"
            intro p np
            have nap : a ≠ p := ne_of_none ha np
            have sp : Same H (upd H p (.tup [.str "plain", .str "add", .str "back", .str "wait"])) := Same.new np
            walk_at "rd"
            by_cases h3 : inV (.str way) ways4 = true
            · have h3' : inV (.str way) [.str "plain", .str "add", .str "back", .str "wait"] = true := h3
              walk_at "rd"
              by_cases h4 : 0 ≤ e
              · by_cases h5 : e ≤ 1000000
                · walk_at "rd"
                  have hd5 : decide (e ≤ 1000000) = true := decide_eq_true h5
                  try rw [hd5]
                  exact qt (by simp [h1, h2, h3, h4, h5]) _ sp
                · walk_at "rd"
                  have hd5 : decide (e ≤ 1000000) = false := decide_eq_false h5
                  try rw [hd5]
                  exact qf (by simp [h5]) _ sp
              · walk_at "rd"
                exact qf (by simp [h4]) _ sp
            · have h3' : inV (.str way) [.str "plain", .str "add", .str "back", .str "wait"] = false := by simpa using h3
              have h3'' : inV (.str way) ways4 = false := h3'
              walk_at "rd"
              exact qf (by simp [h3'']) _ sp
          · walk_at "rd"
            exact qf (by simp [h2]) _ (Same.refl _)
        · walk_at "rd"
          exact qf (by simp [h1]) _ (Same.refl _)
theorem ok_goodL (c__law_main : CalX P w K mg base CX0 1 "_law_main" spMainL) (d : FDef K mg "_law_good" s_law_good ["_law_stages_here"]) : CalX P w K mg base CX0 2 "_law_good" spGoodL := by
  refine CalX.of0 d sc_law_good (fun vs H Q E h => ?_) (fun f cdv A outer s H vs Q E hr h => ?_)
  · obtain ⟨l, as, rs, rfl, _⟩ := h
    rfl
  · obtain ⟨l, as, rs, rfl, hl0, ht0, hl100, q⟩ := h
    refine ⟨_, (pss_cons (ps_for PassesOwn.never rfl (pi_range1 rfl T.b_range (pa_cons (pe_callB call_len_seq (by rfl) T.b_len PySem.boot_len (pa_cons (pv 0) pa_nil)) pa_nil)) (pg_name (i := 1) sc_law_good.nd rfl (Or.inl rfl)) (pss_cons (ps_set (i := 2) sc_law_good.nd rfl (Or.inl rfl) (pe_ix ix_list (pv 0) (pv 1) (fun _ _ => rfl)))
 (pss_cons (ps_set (i := 3) sc_law_good.nd rfl (Or.inl rfl) (pe_cmpR op_eq (pv 1) (pe_op op_sub (pe_callB call_len_seq (by rfl) T.b_len PySem.boot_len (pa_cons (pv 0) pa_nil)) pe_int) (nomark _)))
 (pss_one (ps_if (pt_cmpR op_eq (pe_ix ix_tup (pv 2) pe_int (fun _ _ => rfl)) pe_str (nomark _)) (pss_one (ps_if (PW.pt (pw_or (pt_cmpR op_ne (pe_callB call_len_seq (by rfl) T.b_len PySem.boot_len (pa_cons (pv 2) pa_nil)) pe_int (nomark _)) (pw_or (pt_not (pt_val (pv 3))) (pw_or (pt_not (pt_chain op_le op_le pe_int (pe_ix ix_tup (pv 2) pe_int (fun _ _ => rfl)) pe_int)) (pw_or1 (pt_not (pt_chain op_le op_le pe_int (pe_ix ix_tup (pv 2) pe_int (fun _ _ => rfl)) pe_int))))))) (pss_one (ps_ret pe_bl)) pss_nil)) (pss_one (ps_if (PW.pt (pw_or (pt_cmpR op_ne (pe_ix ix_tup (pv 2) pe_int (fun _ _ => rfl)) pe_str (nomark _)) (pw_or1 (pt_not (pt_val (pe_cX c__law_main hr (by decide) rfl pass0 (pa_cons (pv 2) (pa_cons (pv 3) pa_nil)))))))) (pss_one (ps_ret pe_bl)) (pss_one (ps_if (PW.pt (pw_and (pt_cmpR op_isN (pe_ix ix_tup (pv 2) pe_int (fun _ _ => rfl)) pe_non (nomark _)) (pw_and (pt_not (pt_val (pv 3))) (pw_and1 (pt_cmpR op_ne (pe_ix ix_tup (pe_ix ix_list (pv 0) (pe_op op_add (pv 1) pe_int) (fun _ _ => rfl)) pe_int (fun _ _ => rfl)) pe_str (nomark _)))))) (pss_one (ps_ret pe_bl)) pss_nil)))))))))
 (pss_one (ps_ret (pe_chain op_le op_le pe_int (pe_callB call_len_seq (by rfl) T.b_len PySem.boot_len (pa_cons (pv 0) pa_nil)) pe_int)))), ?_⟩
    have elen : (as.map V.ref).length = rs.length := by rw [List.length_map, ht0.1]
    walk_at "rd"
    rw [elen]
    refine k_forR (n := rs.length) (fun i σ' H' => (∃ a b c, σ' = [some (.ref l), a, b, c]) ∧ Same H H' ∧ ∀ j, j < i → okAt rs j = true) (by have z : (100 : Int) < 2 ^ 62 := (by decide); omega) ⟨⟨_, _, _, rfl⟩, Same.refl _, fun j hj => absurd hj (Nat.not_lt_zero j)⟩ (fun i σ' H' hi hP => ?_) (fun σ' H' hP => ?_)
    · obtain ⟨⟨a0, b0, c0, rfl⟩, sm, hok⟩ := hP
      have hl := sm _ _ hl0
      have hbad : okAt rs i = false → ∀ H2, Same H' H2 → Q (.bl false) H2 := fun hb H2 s2 => by
        have hz : (List.range rs.length).all (okAt rs) = false := by
          rw [List.all_eq_false]
          exact ⟨i, List.mem_range.mpr hi, by rw [hb]; decide⟩
        have y : lookR rs = false := by simp [lookR, hz]
        rw [← y]
        exact q H2 (sm.trans s2)
      have hgood : okAt rs i = true → ∀ j, j < i + 1 → okAt rs j = true := fun hg j hj => by
        by_cases e : j = i
        · rw [e]
          exact hg
        · exact hok j (by omega)
      obtain ⟨s, hs⟩ : ∃ s, rs[i]? = some s := ⟨_, List.getElem?_eq_getElem hi⟩
      have hia : i < as.length := by have := ht0.1; omega
      obtain ⟨a, ha⟩ : ∃ a, as[i]? = some a := ⟨_, List.getElem?_eq_getElem hia⟩
      have hta := sm _ _ (ht0.2 i a s ha hs)
      have hx := atI_refs ha
      have hlast : decide ((i : Int) = (rs.length : Int) - 1) = decide (i + 1 = rs.length) := decide_eq_decide.mpr ⟨fun z => by omega, fun z => by omega⟩
      walk_at "rd"
      rw [elen, hlast]
      generalize hL : decide (i + 1 = rs.length) = last
      have eok : okAt rs i = match (some s) with
        | none => true
        | some (.pent w m t way e) => decide (w = "main") && mainOk m t way e last && !(m.isNone && !last && !(match rs[i + 1]? with | some s => decide (s.w = "over") | none => true))
        | some (.tri w p t) => decide (w = "over") && last && decide (1 ≤ p) && decide (p ≤ 200) && decide (1 ≤ t) && decide (t ≤ 1000000) := by
        unfold okAt
        rw [hs, hL] <;> (cases s <;> rfl)
      cases s with
      | tri w p t =>
        have hok3 : okAt rs i = (decide (w = "over") && last && decide (1 ≤ p) && decide (p ≤ 200) && decide (1 ≤ t) && decide (t ≤ 1000000)) := eok
        have hta : H' a = some (.tup [.str w, .int p, .int t]) := hta
        walk_at "rd"
        by_cases ho : w = "over"
        · walk_at "rd"
          cases last with
          | false =>
            walk_at "rd"
            exact hbad (by rw [hok3]; simp) _ (Same.refl _)
          | true =>
            walk_at "rd"
            by_cases b1 : 1 ≤ p
            · by_cases b2 : p ≤ 200
              · walk_at "rd"
                by_cases b3 : 1 ≤ t
                · by_cases b4 : t ≤ 1000000
                  · walk_at "rd"
                    exact ⟨⟨_, _, _, rfl⟩, sm, hgood (by rw [hok3]; simp [ho, b1, b2, b3, b4])⟩
                  · walk_at "rd"
                    exact hbad (by rw [hok3]; simp [b4]) _ (Same.refl _)
                · walk_at "rd"
                  exact hbad (by rw [hok3]; simp [b3]) _ (Same.refl _)
              · walk_at "rd"
                exact hbad (by rw [hok3]; simp [b2]) _ (Same.refl _)
            · walk_at "rd"
              exact hbad (by rw [hok3]; simp [b1]) _ (Same.refl _)
        · walk_at "rd"
          by_cases hm : w = "main"
          · walk_at "rd"
            refine ⟨a, .tri w p t, last, rfl, hta, fun H2 s2 => ?_⟩
            have hf : mainR (.tri w p t) last = false := rfl
            rw [hf]
            walk_at "rd"
            exact hbad (by rw [hok3]; simp [ho]) _ s2
          · walk_at "rd"
            exact hbad (by rw [hok3]; simp [ho]) _ (Same.refl _)
      | pent w m t way e =>
        have hok5 : okAt rs i = (decide (w = "main") && mainOk m t way e last && !(m.isNone && !last && !(match rs[i + 1]? with | some s => decide (s.w = "over") | none => true))) := eok
        have hta : H' a = some (.tup [.str w, mv m, .int t, .str way, .int e]) := hta
        walk_at "rd"
        by_cases ho : w = "over"
        · have hm : ¬ w = "main" := by rw [ho]; decide +kernel
          walk_at "rd"
          exact hbad (by rw [hok5]; simp [hm]) _ (Same.refl _)
        · walk_at "rd"
          by_cases hm : w = "main"
          · walk_at "rd"
            refine ⟨a, .pent w m t way e, last, rfl, hta, fun H2 s2 => ?_⟩
            have hmr : mainR (.pent w m t way e) last = mainOk m t way e last := rfl
            rw [hmr]
            have hta2 := s2 _ _ hta
            have hl2 := s2 _ _ hl
            cases hmo : mainOk m t way e last with
            | false =>
              walk_at "rd"
              exact hbad (by rw [hok5]; simp [hmo]) _ s2
            | true =>
              walk_at "rd"
              cases m with
              | some m =>
                walk_at "rd"
                exact ⟨⟨_, _, _, rfl⟩, sm.trans s2, hgood (by rw [hok5]; simp [hm, hmo])⟩
              | none =>
                walk_at "rd"
                cases last with
                | true =>
                  walk_at "rd"
                  exact ⟨⟨_, _, _, rfl⟩, sm.trans s2, hgood (by rw [hok5]; simp [hm, hmo])⟩
                | false =>
                  have hlt : i + 1 < rs.length := by
                    have := of_decide_eq_false hL
                    omega
                  obtain ⟨s2', hs2⟩ : ∃ s, rs[i + 1]? = some s := ⟨_, List.getElem?_eq_getElem hlt⟩
                  obtain ⟨a2, ha2⟩ : ∃ a, as[i + 1]? = some a := ⟨_, List.getElem?_eq_getElem (by have := ht0.1; omega)⟩
                  have ht2 := (sm.trans s2) _ _ (ht0.2 (i + 1) a2 s2' ha2 hs2)
                  have hx2 := atI_refs ha2
                  have hx3 : atI (as.map V.ref) ((i : Int) + 1) = some (.ref a2) := hx2
                  have hw2 : atI s2'.vs 0 = some (.str s2'.w) := by cases s2' <;> rfl
                  walk_at "rd"
                  by_cases ho2 : s2'.w = "over"
                  · walk_at "rd"
                    exact ⟨⟨_, _, _, rfl⟩, sm.trans s2, hgood (by rw [hok5, hs2]; simp [hm, hmo, ho2])⟩
                  · walk_at "rd"
                    exact hbad (by rw [hok5, hs2]; simp [ho2]) _ s2
          · walk_at "rd"
            exact hbad (by rw [hok5]; simp [hm]) _ (Same.refl _)
    · obtain ⟨⟨a0, b0, c0, rfl⟩, sm, hok⟩ := hP
      have hl := sm _ _ hl0
      have hz : (List.range rs.length).all (okAt rs) = true := List.all_eq_true.mpr fun j hj => hok j (List.mem_range.mp hj)
      walk_at "rd"
      rw [elen]
      by_cases h1 : 1 ≤ rs.length
      · by_cases h2 : rs.length ≤ 5
        · have y : lookR rs = true := by simp [lookR, h1, h2, hz]
          rw [y] at q
          have h1' : ((1 : Int) ≤ (rs.length : Int)) := by omega
          have h2' : ((rs.length : Int) ≤ 5) := by omega
          walk_at "rd"
          have hd5 : decide ((rs.length : Int) ≤ 5) = true := decide_eq_true h2'
          try rw [hd5]
          exact q _ sm
        · have y : lookR rs = false := by simp [lookR, h2]
          rw [y] at q
          have h1' : ((1 : Int) ≤ (rs.length : Int)) := by omega
          have h2' : ¬ ((rs.length : Int) ≤ 5) := by omega
          walk_at "rd"
          have hd5 : decide ((rs.length : Int) ≤ 5) = false := decide_eq_false h2'
          try rw [hd5]
          exact q _ sm
      · have y : lookR rs = false := by simp [lookR, h1]
        rw [y] at q
        have h1' : ¬ ((1 : Int) ≤ (rs.length : Int)) := by omega
        walk_at "rd"
        exact q _ sm
end
/-! ### raw stages, moved about -/
section
variable {H H' : Hp} {as bs : List Addr} {rs ss : List RS}
theorem RTups.same (r : RTups H as rs) (s : Same H H') : RTups H' as rs := ⟨r.1, fun i a x ha hx => s _ _ (r.2 i a x ha hx)⟩
theorem RTups.updL {D : Addr} {xs : List V} {o : HO} (r : RTups H as rs) (h : H D = some (.lst xs)) : RTups (upd H D o) as rs := ⟨r.1, fun i a x ha hx => by
  have e := r.2 i a x ha hx
  rw [upd_ne (ne_of e h (by intro z; cases z))]
  exact e⟩
theorem RTups.app (r : RTups H as rs) (q : RTups H bs ss) : RTups H (as ++ bs) (rs ++ ss) := ⟨by rw [List.length_append, List.length_append, r.1, q.1], fun i a x ha hx => by
  by_cases hi : i < as.length
  · rw [List.getElem?_append_left hi] at ha
    rw [List.getElem?_append_left (by rw [← r.1]; exact hi)] at hx
    exact r.2 i a x ha hx
  · rw [List.getElem?_append_right (by omega)] at ha
    rw [List.getElem?_append_right (by rw [← r.1]; omega), ← r.1] at hx
    exact q.2 _ a x ha hx⟩
theorem RTups.take (r : RTups H as rs) (k : Nat) : RTups H (as.take k) (rs.take k) := ⟨by rw [List.length_take, List.length_take, r.1], fun i a x ha hx => by
  rw [List.getElem?_take] at ha hx
  split at ha
  · rename_i h
    rw [if_pos h] at hx
    exact r.2 i a x ha hx
  · cases ha⟩
theorem RTups.drop (r : RTups H as rs) (k : Nat) : RTups H (as.drop k) (rs.drop k) := ⟨by rw [List.length_drop, List.length_drop, r.1], fun i a x ha hx => by
  rw [List.getElem?_drop] at ha hx
  exact r.2 _ a x ha hx⟩
theorem RTups.rep {a : Addr} {x : RS} (h : H a = some (.tup x.vs)) (n : Nat) : RTups H (List.replicate n a) (List.replicate n x) := ⟨by rw [List.length_replicate, List.length_replicate], fun i b y hb hy => by
  rw [List.getElem?_replicate] at hb hy
  split at hb
  · rename_i c
    rw [if_pos c] at hy
    cases hb
    cases hy
    exact h
  · cases hb⟩
theorem RTups.rev (r : RTups H as rs) : RTups H as.reverse rs.reverse := ⟨by rw [List.length_reverse, List.length_reverse, r.1], fun i a x ha hx => by
  have hi := (List.getElem?_eq_some_iff.mp ha).1
  rw [List.length_reverse] at hi
  rw [List.getElem?_reverse hi] at ha
  rw [List.getElem?_reverse (by rw [← r.1]; exact hi), ← r.1] at hx
  exact r.2 _ a x ha hx⟩
theorem RTups.erase (r : RTups H as rs) (k : Nat) : RTups H (as.eraseIdx k) (rs.eraseIdx k) := ⟨by rw [List.length_eraseIdx, List.length_eraseIdx, r.1], fun i a x ha hx => by
  rw [List.getElem?_eraseIdx] at ha hx
  split at ha
  · rename_i h
    rw [if_pos h] at hx
    exact r.2 i a x ha hx
  · rename_i h
    rw [if_neg h] at hx
    exact r.2 _ a x ha hx⟩
theorem RTups.set (r : RTups H as rs) (k : Nat) {a : Addr} {x : RS} (h : H a = some (.tup x.vs)) : RTups H (as.set k a) (rs.set k x) := ⟨by rw [List.length_set, List.length_set, r.1], fun i b y hb hy => by
  rw [List.getElem?_set] at hb hy
  split at hb
  · rename_i e
    rw [if_pos e] at hy
    split at hb
    · split at hy
      · cases hb
        cases hy
        exact h
      · cases hy
    · cases hb
  · rename_i e
    rw [if_neg e] at hy
    exact r.2 i b y hb hy⟩
end
theorem map_erase (as : List Addr) (k : Nat) : (as.map V.ref).eraseIdx k = (as.eraseIdx k).map V.ref := by
  induction as generalizing k with
  | nil => rfl
  | cons a as ih =>
    cases k with
    | zero => rfl
    | succ k => exact congrArg (V.ref a :: ·) (ih k)
theorem map_set (as : List Addr) (k : Nat) (a : Addr) : (as.map V.ref).set k (.ref a) = (as.set k a).map V.ref := by
  rw [List.map_set]
theorem cut_take (as : List Addr) (k : Nat) (h : k ≤ as.length) : cutV (as.map V.ref) none (some (k : Int)) = (as.take k).map V.ref := by
  unfold cutV
  rw [HT.sIx_none, HT.sIx_nat, List.drop_zero, List.length_map, Nat.sub_zero, Nat.min_eq_left h, List.map_take]
theorem cut_drop (as : List Addr) (k : Nat) (h : k ≤ as.length) : cutV (as.map V.ref) (some (k : Int)) none = (as.drop k).map V.ref := by
  unfold cutV
  rw [HT.sIx_none, HT.sIx_nat, List.length_map, Nat.min_eq_left h, List.map_drop, List.take_of_length_le (by rw [List.length_drop, List.length_map]; exact Nat.le_refl _)]
theorem rep_refs (n : Nat) (a : Addr) : (List.replicate n [V.ref a]).flatten = (List.replicate n a).map V.ref := by
  induction n with
  | zero => rfl
  | succ n ih =>
    show [V.ref a] ++ (List.replicate n [V.ref a]).flatten = V.ref a :: (List.replicate n a).map V.ref
    rw [ih]
    rfl
def FR (r : RS) : Prop := r.vs.all flD = true
/-- drawn stages, raw: what is known of their words -/
def DR (r : RS) : Prop := match r with
  | .tri w _ _ => w = "over"
  | .pent w _ _ way _ => w = "main" ∧ flD (.str way) = true
theorem over_ok : flD (.str "over") = true := by decide +kernel
theorem way_flat {w : Str} (h : inV (.str w) ways4 = true) : flD (.str w) = true := by
  unfold inV at h
  obtain ⟨y, hy, e⟩ := List.any_eq_true.mp h
  simp only [ways4, List.mem_cons, List.not_mem_nil, or_false] at hy
  rcases hy with rfl | rfl | rfl | rfl
  all_goals
    have e2 := eq_of_beq (show (_ == w) = true from e)
    rw [← e2]
    decide +kernel
theorem drawn_DR (ns : List Int) (k : Int) : ∀ r, r ∈ (stagesF ns k).map Stg.rs → DR r := fun r hr => by
  obtain ⟨s, hs, rfl⟩ := List.mem_map.mp hr
  obtain ⟨tl, e, ht⟩ := stages_split ns k
  rw [e] at hs
  rcases List.mem_append.mp hs with h | h
  · obtain ⟨j, t, w, x, rfl, b, _⟩ := mains_B ns k s h
    exact ⟨rfl, way_flat b.w⟩
  · cases ht with
    | n b =>
      rw [List.mem_singleton.mp h]
      exact ⟨rfl, way_flat b.w⟩
    | o p1 p2 t1 t2 =>
      rw [List.mem_singleton.mp h]
      rfl
    | no b p1 p2 t1 t2 =>
      rcases List.mem_cons.mp h with rfl | h
      · exact ⟨rfl, way_flat b.w⟩
      · rw [List.mem_singleton.mp h]
        rfl
theorem fr_pent {w way : Str} {m : Option Int} {t e : Int} (h1 : flD (.str w) = true) (h2 : flD (.str way) = true) : FR (.pent w m t way e) := by
  show (flD (.str w) && (flD (mv m) && (true && (flD (.str way) && (true && true))))) = true
  rw [h1, h2, mv_ok]
  rfl
theorem fr_tri {w : Str} {p t : Int} (h1 : flD (.str w) = true) : FR (.tri w p t) := by
  show (flD (.str w) && (true && (true && true))) = true
  rw [h1]
  rfl
theorem DR.fr {r : RS} (h : DR r) : FR r := by
  cases r with
  | tri w p t =>
    have h : w = "over" := h
    subst h
    exact fr_tri over_ok
  | pent w m t way e =>
    obtain ⟨h1, h2⟩ := h
    subst h1
    exact fr_pent main_ok h2
def pk8 (i : Int) : Option Int := match i.toNat with
  | 0 => some 0 | 1 => some 1 | 2 => some (-1) | 3 => some 200 | 4 => some 201 | 5 => some 1000000 | 6 => some 1000001 | _ => none
theorem at8 {i : Int} (h0 : 0 ≤ i) (h1 : i < 8) : atI [V.int 0, V.int 1, V.int (-1), V.int 200, V.int 201, V.int 1000000, V.int 1000001, V.non] i = some (mv (pk8 i)) := by
  have h : i = 0 ∨ i = 1 ∨ i = 2 ∨ i = 3 ∨ i = 4 ∨ i = 5 ∨ i = 6 ∨ i = 7 := by omega
  rcases h with rfl | rfl | rfl | rfl | rfl | rfl | rfl | rfl <;> rfl
def pw6 (i : Int) : Str := match i.toNat with
  | 0 => "main" | 1 => "over" | 2 => "mains" | 3 => "add" | 4 => "" | _ => "waits"
theorem atw6 {i : Int} (h0 : 0 ≤ i) (h1 : i < 6) : atI [V.str "main", V.str "over", V.str "mains", V.str "add", V.str "", V.str "waits"] i = some (.str (pw6 i)) := by
  have h : i = 0 ∨ i = 1 ∨ i = 2 ∨ i = 3 ∨ i = 4 ∨ i = 5 := by omega
  rcases h with rfl | rfl | rfl | rfl | rfl | rfl <;> rfl
theorem pw6_ok (i : Int) : flD (.str (pw6 i)) = true := by
  unfold pw6
  split <;> decide +kernel
theorem rs_rows {H : Hp} {as : List Addr} {rs : List RS} (r : RTups H as rs) : as.length = (rs.map RS.vs).length ∧ ∀ (i : Nat) (a : Addr) (vs : List V), as[i]? = some a → (rs.map RS.vs)[i]? = some vs → H a = some (.tup vs) := ⟨by rw [List.length_map, r.1], fun i a vs ha hv => by
  rw [List.getElem?_map] at hv
  cases h : rs[i]? with
  | none =>
    rw [h] at hv
    cases hv
  | some x =>
    rw [h] at hv
    cases hv
    exact r.2 i a x ha h⟩
theorem rs_flat {rs : List RS} (h : ∀ r, r ∈ rs → FR r) : ∀ vs, vs ∈ rs.map RS.vs → vs.all flD = true := fun vs hv => by
  obtain ⟨r, hr, rfl⟩ := List.mem_map.mp hv
  exact h r hr
theorem eqv_rows {vss : List (List V)} (h : ∀ vs, vs ∈ vss → vs.all flD = true) : PyData.eqv (.list (vss.map td)) (.list (vss.map td)) = true := SeqAt.eqv_refl _ (lay_tups h)
theorem stages_len5 (ns : List Int) (k : Int) : (stagesF ns k).length ≤ 5 ∧ 1 ≤ (stagesF ns k).length := by
  have h := stages_look ns k
  unfold lookR at h
  simp only [Bool.and_eq_true, decide_eq_true_eq, List.length_map] at h
  exact ⟨h.1.2, h.1.1⟩
/-- the index found -/
theorem ix_of {as : List Addr} {k : Nat} {a : Addr} (h : as[k]? = some a) : seqIndex? (k : Int) (as.map V.ref).length = some k := by
  obtain ⟨j, h1, h2, h3, _⟩ := atI_get (atI_refs h)
  rw [h1]
  have hk := (List.getElem?_eq_some_iff.mp h).1
  have e : seqIndex? (k : Int) (as.map V.ref).length = some k := by
    unfold seqIndex?
    rw [List.length_map]
    simp
    omega
  rw [h1] at e
  exact e
theorem pent_len (w : Str) (m : Option Int) (t : Int) (way : Str) (e : Int) : ((RS.vs (.pent w m t way e)).length : Int) = 5 := rfl
theorem tri_len (w : Str) (p t : Int) : ((RS.vs (.tri w p t)).length : Int) = 3 := rfl
theorem vs_pos (r : RS) : (0 : Int) < ((RS.vs r).length : Int) := by
  cases r with
  | tri w p t => rw [tri_len]; decide
  | pent w m t way e => rw [pent_len]; decide
def spLaw (K : PySem.W.Frag) : Sp := fun vs H Q _ => ∃ a ns, vs = [.ref a] ∧ SqL K H a (List.map V.int ns) ∧ ∀ H', Q (.bl true) H'
theorem spLaw_of {K : PySem.W.Frag} {H : Hp} {a : Addr} {ns : List Int} (hl : ns.length ≤ 63) (hS : SqL K H a (ns.map V.int)) : spLaw K [.ref a] H (fun v _ => v = .bl true) fun _ _ _ => False := ⟨a, ns, rfl, hS, fun _ => rfl⟩
section
variable {P : Program} {w : World} {K : PySem.W.Frag} {mg : Str → Option Value} {base : Heap} {CS CC cE cB cT cN cO aW : Addr} (T : Txt K mg CS CC cE cB cT cN cO aW)
include T
theorem ok_law (c__law_good : CalX P w K mg base CX0 2 "_law_good" spGoodL) (c__law_stages : CalX P w K mg base CX0 3 "_law_stages" (spStages K)) (c__law_mix : CalX P w K mg base CX0 2 "_law_mix" (spMix K))
    (c_mkClock : MakX P w K mg base (L2.CX P w) 6 "Clock" CC (spInitC CC CS cB)) {f0 : Addr} {fd : FuncData} (F : Fun K "law" "law" s_law f0 fd) : FnOk P w K mg base CX0 8 f0 fd ["_law_script"] (spLaw K) := by
  refine F.ok sc_law (fun vs H Q E h => ?_) (fun cdv A outer s H vs Q E hr h => ?_)
  · obtain ⟨a, ns, rfl, _⟩ := h
    rfl
  · obtain ⟨a, ns, rfl, hS, q⟩ := h
    refine ⟨_, (pss_cons (ps_set (i := 1) sc_law.nd rfl (Or.inl rfl) (pe_cX c__law_stages hr (by decide) rfl pass0 (pa_cons (pv 0) (pa_cons pe_int pa_nil))))
 (pss_cons (ps_set (i := 2) sc_law.nd rfl (Or.inl rfl) (pe_cX c__law_mix hr (by decide) rfl pass0 (pa_cons (pv 0) (pa_cons pe_int pa_nil))))
 (pss_cons (ps_set (i := 3) sc_law.nd rfl (Or.inl rfl) (pe_op op_mod (pe_op op_fdiv (pv 2) pe_int) (pe_callB call_len_seq (by rfl) T.b_len PySem.boot_len (pa_cons (pv 1) pa_nil))))
 (C8.pss_cut (ps_if (pt_cmpR op_lt (pe_op op_mod (pv 2) pe_int) pe_int (nomark _)) (pss_cons (ps_set (i := 4) sc_law.nd rfl (Or.inl rfl) (pe_callTy call_list_of (by rfl) T.b_list (by decide +kernel) (pa_cons (pe_ix ix_list (pv 1) (pv 3) (fun _ _ => rfl)) pa_nil)))
 (pss_cons (ps_set (i := 5) sc_law.nd rfl (Or.inl rfl) (pe_op op_mod (pe_op op_fdiv (pv 2) pe_int) (pe_callB call_len_seq (by rfl) T.b_len PySem.boot_len (pa_cons (pv 4) pa_nil))))
 (pss_cons (ps_set (i := 6) sc_law.nd rfl (Or.inl rfl) (pe_lst (pa_cons pe_int (pa_cons pe_int (pa_cons (pe_un un_neg pe_int) (pa_cons pe_int (pa_cons pe_int (pa_cons pe_int (pa_cons pe_int (pa_cons pe_non pa_nil))))))))))
 (pss_cons (ps_set (i := 7) sc_law.nd rfl (Or.inl rfl) (pe_ix ix_list (pv 6) (pe_op op_mod (pe_op op_fdiv (pv 2) pe_int) pe_int) (fun _ _ => rfl)))
 (C8.pss_cut (ps_if (PW.pt (pw_or (pt_cmpR op_eq (pv 5) pe_int (nomark _)) (pw_or1 (pt_cmpR op_eq (pv 5) pe_int (nomark _))))) (pss_one (ps_set (i := 7) sc_law.nd rfl (Or.inl rfl) (pe_ix ix_list (pe_lst (pa_cons pe_str (pa_cons pe_str (pa_cons pe_str (pa_cons pe_str (pa_cons pe_str (pa_cons pe_str pa_nil))))))) (pe_op op_mod (pe_op op_fdiv (pv 2) pe_int) pe_int) (fun _ _ => rfl)))) pss_nil)
 (C8.pss_cut (ps_if (PW.pt (pw_or (pt_cmpR op_notN (pv 7) pe_non (nomark _)) (pw_or1 (PW.pt (pw_and (pt_cmpR op_eq (pv 5) pe_int (nomark _)) (pw_and1 (pt_cmpR op_eq (pe_ix ix_list (pv 4) pe_int (fun _ _ => rfl)) pe_str (nomark _)))))))) (pss_one (ps_asg (pv 7) (pg_sub (pv 4) (pv 5) set_list))) pss_nil)
 (pss_one (ps_asg (pe_callTy call_tuple_of (by rfl) T.b_tuple (by decide +kernel) (pa_cons (pv 4) pa_nil)) (pg_sub (pv 1) (pv 3) set_list))))))))) pss_nil)
 (C8.pss_cut (ps_if (pt_cmpR op_eq (pe_op op_mod (pv 2) pe_int) pe_int (nomark _)) (pss_one (ps_expr (pe_bm PySem.F.plainAttrs_list PySem.F.slot_list_pop PySem.F.type_list_pop mt_popAt (pv 1) (pa_cons (pv 3) pa_nil)))) pss_nil)
 (C8.pss_cut (ps_if (pt_cmpR op_eq (pe_op op_mod (pv 2) pe_int) pe_int (nomark _)) (pss_cons (ps_set (i := 8) sc_law.nd rfl (Or.inl rfl) (pe_op op_rep (pe_lst (pa_cons (pe_ix ix_list (pv 1) (pv 3) (fun _ _ => rfl)) pa_nil)) (pe_op op_add pe_int (pe_op op_mod (pe_op op_fdiv (pv 2) pe_int) pe_int))))
 (pss_one (ps_set (i := 1) sc_law.nd rfl (Or.inl rfl) (pe_op op_cat (pe_op op_cat (pe_slice sl_list (pv 1) po_none (po_some (pv 3))) (pv 8)) (pe_slice sl_list (pv 1) (po_some (pv 3)) po_none))))) pss_nil)
 (C8.pss_cut (ps_if (pt_cmpR op_eq (pe_op op_mod (pv 2) pe_int) pe_int (nomark _)) (pss_one (ps_set (i := 1) sc_law.nd rfl (Or.inl rfl) (pe_revL (pv 1)))) pss_nil)
 (pss_cons (ps_set (i := 9) sc_law.nd rfl (Or.inl rfl) (pe_callTy call_list_of (by rfl) T.b_list (by decide +kernel) (pa_cons (pv 1) pa_nil)))
 (pss_cons (ps_set (i := 10) sc_law.nd rfl (Or.inl rfl) pe_non)
 (C8.pss_cut (ps_try_keep (i := 11) rfl rfl sc_law.nd rfl rfl ⟨rfl, by decide, .inl T.g_ClockError⟩ takes0 (fun W pn xe tk _ => (pss_one (ps_expr (pe_mkS c_mkClock hr (by decide) rfl (fun σ => passAt tk σ) (pa_cons (pv 9) pa_nil))))) (fun a cls d pn => (pss_one (ps_set (i := 10) sc_law.nd rfl (Or.inl rfl) (pv 11)))))
 (pss_cons (ps_if (pt_val (pe_cX c__law_good hr (by decide) rfl pass0 (pa_cons (pv 1) pa_nil))) (pss_one (ps_ret (pe_and (pe_cmpR op_isN (pv 10) pe_non (nomark _)) (pe_one (pe_cmpR (op_eqD hr.units) (pv 9) (pv 1) (nomark _)))))) pss_nil)
 (pss_cons (ps_set (i := 12) sc_law.nd rfl (Or.inl rfl) (pe_and (pe_callB call_isK (by rfl) T.b_isinstance (by decide +kernel) (pa_cons (pv 10) (pa_cons (pe_glob (v := .ref _) rfl T.g_BadStages rfl) pa_nil))) (pe_and (pe_callB call_isK (by rfl) T.b_isinstance (by decide +kernel) (pa_cons (pv 10) (pa_cons (pe_bltn (v := .ty "ValueError") rfl T.b_ValueError (by decide +kernel) rfl) pa_nil))) (pe_one (pe_cmpR (op_eqD hr.units) (pv 9) (pv 1) (nomark _))))))
 (pss_one (ps_ret (pe_and (pv 12) (pe_one (pe_not (pe_callB call_isKT (by rfl) T.b_isinstance (by decide +kernel) (pa_cons (pv 10) (pa_cons (pe_tup (pa_cons (pe_glob (v := .ref _) rfl T.g_BadTicks rfl) (pa_cons (pe_glob (v := .ref _) rfl T.g_NotNow rfl) (pa_cons (pe_glob (v := .ref _) rfl T.g_Over rfl) pa_nil)))) pa_nil)))))))))))))))))))), ?_⟩
    walk_at "rd"
    refine ⟨a, ns, 0, rfl, hS, fun l0 as0 H1 n1 => ?_⟩
    have hDR := drawn_DR ns 0
    obtain ⟨hl5, hl1⟩ := stages_len5 ns 0
    have r1 : RTups H1 as0 ((stagesF ns 0).map Stg.rs) := ⟨by rw [n1.len, List.length_map, List.length_map], fun i b x hb hx => by
      rw [List.getElem?_map] at hx
      cases hz : (stagesF ns 0)[i]? with
      | none =>
        rw [hz] at hx
        cases hx
      | some st =>
        rw [hz] at hx
        cases hx
        rw [Stg.rs_vs]
        exact n1.tup i b _ hb (by rw [List.getElem?_map, hz]; rfl)⟩
    rw [← List.length_map (f := Stg.rs)] at hl5 hl1
    have hl0 := n1.lst
    have hS1 := n1.sm.seq hS
    generalize (stagesF ns 0).map Stg.rs = rs0 at *
    have e0 : (as0.map V.ref).length = rs0.length := by rw [List.length_map, r1.1]
    walk_at "rd"
    refine ⟨a, ns, 10, rfl, hS1, ?_⟩
    have N0 := mixF_nonneg ns 10
    generalize mixF ns 10 = N at *
    have hpos : (0 : Int) < ((as0.map V.ref).length : Int) := by rw [e0]; omega
    walk_at "rd"
    refine k_I hpos ?_
    rw [e0]
    obtain ⟨k0, hk0⟩ : ∃ k0 : Nat, N / 8 % (rs0.length : Int) = (k0 : Int) := ⟨(N / 8 % (rs0.length : Int)).toNat, by have := Int.emod_nonneg (N / 8) (b := (rs0.length : Int)) (by omega); omega⟩
    have hk1 : k0 < rs0.length := by
      have := Int.emod_lt_of_pos (N / 8) (b := (rs0.length : Int)) (by omega)
      omega
    rw [hk0]
    walk_at "rd"
    refine k_cut (fun σ' H' => ∃ l as rs x4 x5 x6 x7 x8, σ' = [some (.ref a), some (.ref l), some (.int N), some (.int (k0 : Int)), x4, x5, x6, x7, x8, none, none, none, none] ∧ H' l = some (.lst (as.map V.ref)) ∧ RTups H' as rs ∧ (∀ r, r ∈ rs → FR r) ∧ rs.length ≤ 5 ∧ k0 < rs.length) ?_ ?_
    · obtain ⟨r, hr0⟩ : ∃ r, rs0[k0]? = some r := ⟨_, List.getElem?_eq_getElem hk1⟩
      have hka : k0 < as0.length := by rw [r1.1]; exact hk1
      obtain ⟨ta, hta0⟩ : ∃ t, as0[k0]? = some t := ⟨_, List.getElem?_eq_getElem hka⟩
      have hta := r1.2 k0 ta r hta0 hr0
      have hx := atI_refs hta0
      have hdr := hDR r (List.mem_of_getElem? hr0)
      walk_at "rd"
      by_cases c : N % 8 < 4
      · walk_at "rd"
        refine ⟨ta, r.vs, rfl, .inr (SqT.of hta), fun lp nlp => ?_⟩
        have hlp : upd H1 lp (.lst r.vs) lp = some (.lst r.vs) := upd_same
        have s2 : Same H1 (upd H1 lp (.lst r.vs)) := Same.new nlp
        have hl2 := s2 _ _ hl0
        have r2 := r1.same s2
        generalize upd H1 lp (.lst r.vs) = H2 at *
        have hvp := vs_pos r
        walk_at "rd"
        refine k_I hvp ?_
        walk_at "rd"
        intro p np
        have s3 : Same H2 (upd H2 p (.lst [.int 0, .int 1, .int (-1), .int 200, .int 201, .int 1000000, .int 1000001, .non])) := Same.new np
        have hp3 : upd H2 p (.lst [.int 0, .int 1, .int (-1), .int 200, .int 201, .int 1000000, .int 1000001, .non]) p = some (.lst [.int 0, .int 1, .int (-1), .int 200, .int 201, .int 1000000, .int 1000001, .non]) := upd_same
        have hl3 := s3 _ _ hl2
        have hlp3 := s3 _ _ hlp
        have r3 := r2.same s3
        generalize upd H2 p (.lst [.int 0, .int 1, .int (-1), .int 200, .int 201, .int 1000000, .int 1000001, .non]) = H3 at *
        have h8 := at8 (i := N / 160 % 8) (by omega) (by omega)
        walk_at "rd"
        refine k_cut (fun σ' H' => ∃ x6 wv, σ' = [some (.ref a), some (.ref l0), some (.int N), some (.int (k0 : Int)), some (.ref lp), some (.int (N / 32 % ((RS.vs r).length : Int))), x6, some wv, none, none, none, none, none] ∧ H' lp = some (.lst r.vs) ∧ H' l0 = some (.lst (as0.map V.ref)) ∧ RTups H' as0 rs0 ∧
          ((N / 32 % ((RS.vs r).length : Int) = 0 ∨ N / 32 % ((RS.vs r).length : Int) = 3) → wv = .str (pw6 (N / 160 % 6))) ∧ (¬ (N / 32 % ((RS.vs r).length : Int) = 0 ∨ N / 32 % ((RS.vs r).length : Int) = 3) → wv = mv (pk8 (N / 160 % 8)))) ?_ ?_
        · walk_at "rd"
          have h6 := atw6 (i := N / 160 % 6) (by omega) (by omega)
          generalize N / 32 % ((RS.vs r).length : Int) = S at *
          by_cases c0 : S = 0
          · walk_at "rd"
            intro p4 np4
            have s4 := Same.new (o := .lst [.str "main", .str "over", .str "mains", .str "add", .str "", .str "waits"]) np4
            walk_at "rd"
            exact ⟨_, _, rfl, s4 _ _ hlp3, s4 _ _ hl3, r3.same s4, fun _ => rfl, fun z => absurd (.inl c0) z⟩
          · walk_at "rd"
            by_cases c3 : S = 3
            · walk_at "rd"
              intro p4 np4
              have s4 := Same.new (o := .lst [.str "main", .str "over", .str "mains", .str "add", .str "", .str "waits"]) np4
              walk_at "rd"
              exact ⟨_, _, rfl, s4 _ _ hlp3, s4 _ _ hl3, r3.same s4, fun _ => rfl, fun z => absurd (.inr c3) z⟩
            · walk_at "rd"
              exact ⟨_, _, rfl, hlp3, hl3, r3, fun z => absurd z (fun z => by rcases z with z | z; exact c0 z; exact c3 z), fun _ => rfl⟩
        · clear hlp3 hl3 r3 hp3 s3
          rintro σ4 H4 ⟨x6, wv, rfl, hlp4, hl4, r4, hw1, hw2⟩
          refine k_cut (fun σ' H' => ∃ r' x5 x6 x7, σ' = [some (.ref a), some (.ref l0), some (.int N), some (.int (k0 : Int)), some (.ref lp), x5, x6, x7, none, none, none, none, none] ∧ H' lp = some (.lst (RS.vs r')) ∧ FR r' ∧ H' l0 = some (.lst (as0.map V.ref)) ∧ RTups H' as0 rs0) ?_ ?_
          · have npl : l0 ≠ lp := ne_of_none hl0 nlp
            have fin : ∀ r', FR r' → ∀ x5 x6 x7, ∃ r'' y5 y6 y7, ([some (.ref a), some (.ref l0), some (.int N), some (.int (k0 : Int)), some (.ref lp), x5, x6, x7, none, none, none, none, none] : St) = [some (.ref a), some (.ref l0), some (.int N), some (.int (k0 : Int)), some (.ref lp), y5, y6, y7, none, none, none, none, none] ∧ (upd H4 lp (.lst (RS.vs r'))) lp = some (.lst (RS.vs r'')) ∧ FR r'' ∧ (upd H4 lp (.lst (RS.vs r'))) l0 = some (.lst (as0.map V.ref)) ∧ RTups (upd H4 lp (.lst (RS.vs r'))) as0 rs0 := fun r' fr x5 x6 x7 =>
              ⟨r', _, _, _, rfl, upd_same, fr, by rw [upd_ne npl]; exact hl4, r4.updL hlp4⟩
            have fin0 : ∀ x5 x6 x7, ∃ r'' y5 y6 y7, ([some (.ref a), some (.ref l0), some (.int N), some (.int (k0 : Int)), some (.ref lp), x5, x6, x7, none, none, none, none, none] : St) = [some (.ref a), some (.ref l0), some (.int N), some (.int (k0 : Int)), some (.ref lp), y5, y6, y7, none, none, none, none, none] ∧ H4 lp = some (.lst (RS.vs r'')) ∧ FR r'' ∧ H4 l0 = some (.lst (as0.map V.ref)) ∧ RTups H4 as0 rs0 := fun x5 x6 x7 => ⟨r, _, _, _, rfl, hlp4, hdr.fr, hl4, r4⟩
            have wn : ∀ x : Str, (!decide (V.str x = V.non)) = true := fun x => notd_t (by intro z; cases z)
            have wi : ∀ x : Int, (!decide (V.int x = V.non)) = true := fun x => notd_t (by intro z; cases z)
            cases r with
            | pent w m t way e =>
              obtain ⟨hw, hway⟩ := hdr
              subst hw
              have hlp5 : H4 lp = some (.lst [.str "main", mv m, .int t, .str way, .int e]) := hlp4
              rw [pent_len] at *
              have hS : N / 32 % 5 = 0 ∨ N / 32 % 5 = 1 ∨ N / 32 % 5 = 2 ∨ N / 32 % 5 = 3 ∨ N / 32 % 5 = 4 := by omega
              generalize N / 32 % 5 = S at *
              rcases hS with rfl | rfl | rfl | rfl | rfl
              · have e1 := hw1 (.inl rfl)
                subst e1
                have wn1 := wn (pw6 (N / 160 % 6))
                walk_at "rd"
                refine ⟨lp, _, 0, 0, rfl, rfl, hlp5, rfl, ?_⟩
                exact fin (.pent (pw6 (N / 160 % 6)) m t way e) (fr_pent (pw6_ok _) hway) _ _ _
              · have e1 := hw2 (by omega)
                subst e1
                cases hp : pk8 (N / 160 % 8) with
                | none =>
                  have wz : (!decide (V.non = V.non)) = false := notd_f rfl
                  walk_at "rd"
                  refine ⟨lp, _, 1, 1, rfl, rfl, hlp5, rfl, ?_⟩
                  exact fin (.pent "main" none t way e) (fr_pent main_ok hway) _ _ _
                | some v =>
                  have wi1 := wi v
                  walk_at "rd"
                  refine ⟨lp, _, 1, 1, rfl, rfl, hlp5, rfl, ?_⟩
                  exact fin (.pent "main" (some v) t way e) (fr_pent main_ok hway) _ _ _
              · have e1 := hw2 (by omega)
                subst e1
                cases hp : pk8 (N / 160 % 8) with
                | none =>
                  have wz : (!decide (V.non = V.non)) = false := notd_f rfl
                  walk_at "rd"
                  exact fin0 _ _ _
                | some v =>
                  have wi1 := wi v
                  walk_at "rd"
                  refine ⟨lp, _, 2, 2, rfl, rfl, hlp5, rfl, ?_⟩
                  exact fin (.pent "main" m v way e) (fr_pent main_ok hway) _ _ _
              · have e1 := hw1 (.inr rfl)
                subst e1
                have wn1 := wn (pw6 (N / 160 % 6))
                walk_at "rd"
                refine ⟨lp, _, 3, 3, rfl, rfl, hlp5, rfl, ?_⟩
                exact fin (.pent "main" m t (pw6 (N / 160 % 6)) e) (fr_pent main_ok (pw6_ok _)) _ _ _
              · have e1 := hw2 (by omega)
                subst e1
                cases hp : pk8 (N / 160 % 8) with
                | none =>
                  have wz : (!decide (V.non = V.non)) = false := notd_f rfl
                  walk_at "rd"
                  exact fin0 _ _ _
                | some v =>
                  have wi1 := wi v
                  walk_at "rd"
                  refine ⟨lp, _, 4, 4, rfl, rfl, hlp5, rfl, ?_⟩
                  exact fin (.pent "main" m t way v) (fr_pent main_ok hway) _ _ _
            | tri w pp t =>
              have hw : w = "over" := hdr
              subst hw
              have hlp5 : H4 lp = some (.lst [.str "over", .int pp, .int t]) := hlp4
              rw [tri_len] at *
              have hS : N / 32 % 3 = 0 ∨ N / 32 % 3 = 1 ∨ N / 32 % 3 = 2 := by omega
              generalize N / 32 % 3 = S at *
              rcases hS with rfl | rfl | rfl
              · have e1 := hw1 (.inl rfl)
                subst e1
                have wn1 := wn (pw6 (N / 160 % 6))
                walk_at "rd"
                refine ⟨lp, _, 0, 0, rfl, rfl, hlp5, rfl, ?_⟩
                exact fin (.tri (pw6 (N / 160 % 6)) pp t) (fr_tri (pw6_ok _)) _ _ _
              · have e1 := hw2 (by omega)
                subst e1
                cases hp : pk8 (N / 160 % 8) with
                | none =>
                  have wz : (!decide (V.non = V.non)) = false := notd_f rfl
                  have wo : decide (("over" : Str) = "main") = false := by decide +kernel
                  walk_at "rd"
                  exact fin0 _ _ _
                | some v =>
                  have wi1 := wi v
                  walk_at "rd"
                  refine ⟨lp, _, 1, 1, rfl, rfl, hlp5, rfl, ?_⟩
                  exact fin (.tri "over" v t) (fr_tri over_ok) _ _ _
              · have e1 := hw2 (by omega)
                subst e1
                cases hp : pk8 (N / 160 % 8) with
                | none =>
                  have wz : (!decide (V.non = V.non)) = false := notd_f rfl
                  walk_at "rd"
                  exact fin0 _ _ _
                | some v =>
                  have wi1 := wi v
                  walk_at "rd"
                  refine ⟨lp, _, 2, 2, rfl, rfl, hlp5, rfl, ?_⟩
                  exact fin (.tri "over" pp v) (fr_tri over_ok) _ _ _
          · clear hlp4 hl4 r4 hw1 hw2
            rintro σ5 H5 ⟨r', x5, x6, x7, rfl, hlp5, fr5, hl5', r5⟩
            walk_at "rd"
            refine ⟨lp, RS.vs r', rfl, .inl ⟨SqL.of hlp5, fun tp ntp => ?_⟩⟩
            have s6 : Same H5 (upd H5 tp (.tup (RS.vs r'))) := Same.new ntp
            have htp : upd H5 tp (.tup (RS.vs r')) tp = some (.tup (RS.vs r')) := upd_same
            have hl6 := s6 _ _ hl5'
            have r6 := r5.same s6
            generalize upd H5 tp (.tup (RS.vs r')) = H6 at *
            walk_at "rd"
            have hix : ixN (as0.map V.ref).length (k0 : Int) = some k0 := by
              unfold ixN
              rw [if_pos (by omega), if_pos (by rw [List.length_map]; omega)]
              simp
            refine ⟨l0, as0.map V.ref, (k0 : Int), k0, rfl, rfl, hl6, hix, ?_⟩
            rw [map_set]
            refine ⟨l0, as0.set k0 tp, rs0.set k0 r', _, _, _, _, _, rfl, upd_same, (r6.set k0 htp).updL hl6, fun x hx => ?_, by rw [List.length_set]; exact hl5, by rw [List.length_set]; exact hk1⟩
            rcases List.mem_or_eq_of_mem_set hx with h | h
            · exact (hDR x h).fr
            · rw [h]
              exact fr5
      · walk_at "rd"
        exact ⟨l0, as0, rs0, _, _, _, _, _, rfl, hl0, r1, fun r hr => (hDR r hr).fr, hl5, hk1⟩
    · rintro σ3 H3 ⟨l3, as3, rs3, x4, x5, x6, x7, x8, rfl, hl3, r3, fr3, len3, hk3⟩
      refine k_cut (fun σ' H' => ∃ l as rs x4 x5 x6 x7 x8, σ' = [some (.ref a), some (.ref l), some (.int N), some (.int (k0 : Int)), x4, x5, x6, x7, x8, none, none, none, none] ∧ H' l = some (.lst (as.map V.ref)) ∧ RTups H' as rs ∧ (∀ r, r ∈ rs → FR r) ∧ rs.length ≤ 5 ∧ (N % 8 = 4 ∨ k0 < rs.length)) ?_ ?_
      · walk_at "rd"
        by_cases c : N % 8 = 4
        · walk_at "rd"
          obtain ⟨ta, hta0⟩ : ∃ t, as3[k0]? = some t := ⟨_, List.getElem?_eq_getElem (by rw [r3.1]; exact hk3)⟩
          refine ⟨l3, as3.map V.ref, (k0 : Int), k0, .ref ta, rfl, rfl, hl3, by omega, by omega, ix_of hta0, by rw [List.getElem?_map, hta0]; rfl, ?_⟩
          walk_at "rd"
          rw [map_erase]
          exact ⟨l3, _, rs3.eraseIdx k0, _, _, _, _, _, rfl, upd_same, (r3.erase k0).updL hl3, fun r hr => fr3 r (List.mem_of_mem_eraseIdx hr), by rw [List.length_eraseIdx]; split <;> omega, .inl c⟩
        · walk_at "rd"
          exact ⟨l3, as3, rs3, _, _, _, _, _, rfl, hl3, r3, fr3, len3, .inr hk3⟩
      · clear hl3 r3 fr3 len3 hk3
        rintro σ4 H4 ⟨l4, as4, rs4, x4, x5, x6, x7, x8, rfl, hl4, r4, fr4, len4, hk4⟩
        refine k_cut (fun σ' H' => ∃ l as rs x4 x5 x6 x7 x8, σ' = [some (.ref a), some (.ref l), some (.int N), some (.int (k0 : Int)), x4, x5, x6, x7, x8, none, none, none, none] ∧ H' l = some (.lst (as.map V.ref)) ∧ RTups H' as rs ∧ (∀ r, r ∈ rs → FR r) ∧ rs.length ≤ 100) ?_ ?_
        · walk_at "rd"
          by_cases c : N % 8 = 5
          · have hk : k0 < rs4.length := by rcases hk4 with z | z; omega; exact z
            have hka : k0 < as4.length := by rw [r4.1]; exact hk
            obtain ⟨r, hr0⟩ : ∃ r, rs4[k0]? = some r := ⟨_, List.getElem?_eq_getElem hk⟩
            obtain ⟨ta, hta0⟩ : ∃ t, as4[k0]? = some t := ⟨_, List.getElem?_eq_getElem hka⟩
            have hta := r4.2 k0 ta r hta0 hr0
            have hx := atI_refs hta0
            walk_at "rd"
            intro p np
            have hp5 : upd H4 p (.lst [.ref ta]) p = some (.lst [.ref ta]) := upd_same
            have s5 : Same H4 (upd H4 p (.lst [.ref ta])) := Same.new np
            generalize upd H4 p (.lst [.ref ta]) = H5 at *
            walk_at "rd"
            have hr4 := r4.1
            have hbd : 0 ≤ N / 160 % 6 ∧ N / 160 % 6 < 6 := by omega
            generalize N / 160 % 6 = cn at *
            refine ⟨p, 1 + cn, [.ref ta], rfl, rfl, hp5, by omega, by omega, by rw [sizeLine_eq]; show 1 * (1 + cn).toNat ≤ _; omega, fun p2 np2 => ?_⟩
            rw [rep_refs]
            have hp6 : upd H5 p2 (.lst ((List.replicate (1 + cn).toNat ta).map V.ref)) p2 = some (.lst ((List.replicate (1 + cn).toNat ta).map V.ref)) := upd_same
            have s6 : Same H5 (upd H5 p2 (.lst ((List.replicate (1 + cn).toNat ta).map V.ref))) := Same.new np2
            generalize upd H5 p2 (.lst ((List.replicate (1 + cn).toNat ta).map V.ref)) = H6 at *
            have hn6 : (List.replicate (1 + cn).toNat ta).length ≤ 6 := by rw [List.length_replicate]; omega
            have rr := RTups.rep hta (1 + cn).toNat
            have hfr : ∀ x, x ∈ List.replicate (1 + cn).toNat r → FR x := fun x hx => by
              rw [(List.mem_replicate.mp hx).2]
              exact fr4 r (List.mem_of_getElem? hr0)
            have hn7 : (List.replicate (1 + cn).toNat r).length ≤ 6 := by rw [List.length_replicate]; omega
            generalize List.replicate (1 + cn).toNat ta = ar at *
            generalize List.replicate (1 + cn).toNat r = rr0 at *
            have hl6 := s6 _ _ (s5 _ _ hl4)
            walk_at "rd"
            refine ⟨(k0 : Int), rfl, l4, as4.map V.ref, rfl, SqL.of hl6, fun p3 np3 => ?_⟩
            rw [cut_take _ _ (by omega)]
            have s7 : Same H6 (upd H6 p3 (.lst ((as4.take k0).map V.ref))) := Same.new np3
            have hp7 : upd H6 p3 (.lst ((as4.take k0).map V.ref)) p3 = some (.lst ((as4.take k0).map V.ref)) := upd_same
            generalize upd H6 p3 (.lst ((as4.take k0).map V.ref)) = H7 at *
            walk_at "rd"
            refine ⟨p3, p2, _, _, rfl, rfl, hp7, s7 _ _ hp6, by rw [List.length_map, List.length_map, List.length_take, sizeLine_eq]; omega, fun p4 np4 => ?_⟩
            rw [← List.map_append]
            have s8 : Same H7 (upd H7 p4 (.lst ((as4.take k0 ++ ar).map V.ref))) := Same.new np4
            have hp8 : upd H7 p4 (.lst ((as4.take k0 ++ ar).map V.ref)) p4 = some (.lst ((as4.take k0 ++ ar).map V.ref)) := upd_same
            generalize upd H7 p4 (.lst ((as4.take k0 ++ ar).map V.ref)) = H8 at *
            have hl8 := s8 _ _ (s7 _ _ hl6)
            walk_at "rd"
            refine ⟨(k0 : Int), rfl, ?_⟩
            walk_at "rd"
            refine ⟨l4, as4.map V.ref, rfl, SqL.of hl8, fun p5 np5 => ?_⟩
            rw [cut_drop _ _ (by omega)]
            have s9 : Same H8 (upd H8 p5 (.lst ((as4.drop k0).map V.ref))) := Same.new np5
            have hp9 : upd H8 p5 (.lst ((as4.drop k0).map V.ref)) p5 = some (.lst ((as4.drop k0).map V.ref)) := upd_same
            generalize upd H8 p5 (.lst ((as4.drop k0).map V.ref)) = H9 at *
            walk_at "rd"
            refine ⟨p4, p5, _, _, rfl, rfl, s9 _ _ hp8, hp9, by rw [List.length_map, List.length_map, List.length_append, List.length_take, List.length_drop, sizeLine_eq]; omega, fun p6 np6 => ?_⟩
            rw [← List.map_append]
            walk_at "rd"
            have sA : Same H4 (upd H9 p6 (.lst ((as4.take k0 ++ ar ++ as4.drop k0).map V.ref))) := ((((s5.trans s6).trans s7).trans s8).trans s9).trans (Same.new np6)
            refine ⟨p6, as4.take k0 ++ ar ++ as4.drop k0, rs4.take k0 ++ rr0 ++ rs4.drop k0, _, _, _, _, _, rfl, upd_same, (((r4.take k0).app rr).app (r4.drop k0)).same sA, fun x hx => ?_, by rw [List.length_append, List.length_append, List.length_take, List.length_drop]; omega⟩
            rcases List.mem_append.mp hx with h | h
            · rcases List.mem_append.mp h with h | h
              · exact fr4 x (List.mem_of_mem_take h)
              · exact hfr x h
            · exact fr4 x (List.mem_of_mem_drop h)
          · walk_at "rd"
            exact ⟨l4, as4, rs4, _, _, _, _, _, rfl, hl4, r4, fr4, by omega⟩
        · clear hl4 r4 fr4 len4 hk4
          rintro σ5 H5 ⟨l5, as5, rs5, x4, x5, x6, x7, x8, rfl, hl5, r5, fr5, len5⟩
          refine k_cut (fun σ' H' => ∃ l as rs x4 x5 x6 x7 x8, σ' = [some (.ref a), some (.ref l), some (.int N), some (.int (k0 : Int)), x4, x5, x6, x7, x8, none, none, none, none] ∧ H' l = some (.lst (as.map V.ref)) ∧ RTups H' as rs ∧ (∀ r, r ∈ rs → FR r) ∧ rs.length ≤ 100) ?_ ?_
          · walk_at "rd"
            by_cases c : N % 8 = 6
            · walk_at "rd"
              refine ⟨_, rfl, l5, as5.map V.ref, rfl, SqL.of hl5, fun p np => ?_⟩
              walk_at "rd"
              rw [← List.map_reverse]
              exact ⟨p, _, rs5.reverse, _, _, _, _, _, rfl, upd_same, (r5.rev).same (Same.new np), fun r hr => fr5 r (List.mem_reverse.mp hr), by rw [List.length_reverse]; exact len5⟩
            · walk_at "rd"
              exact ⟨l5, as5, rs5, _, _, _, _, _, rfl, hl5, r5, fr5, len5⟩
          · clear hl5 r5 fr5 len5
            rintro σ6 H6 ⟨l6, as6, rs6, x4, x5, x6, x7, x8, rfl, hl6, r6, fr6, len6⟩
            walk_at "rd"
            intro l9 nl9
            have hl9 : upd H6 l9 (.lst (as6.map V.ref)) l9 = some (.lst (as6.map V.ref)) := upd_same
            have s7 : Same H6 (upd H6 l9 (.lst (as6.map V.ref))) := Same.new nl9
            have hl7 := s7 _ _ hl6
            have r7 := r6.same s7
            generalize upd H6 l9 (.lst (as6.map V.ref)) = H7 at *
            walk_at "rd"
            dsimp only
            refine k_cut (fun σ' H' => ∃ x10, σ' = [some (.ref a), some (.ref l6), some (.int N), some (.int (k0 : Int)), x4, x5, x6, x7, x8, some (.ref l9), some x10, none, none] ∧ Same H7 H' ∧ ((lookR rs6 = true ∧ x10 = .non) ∨ (lookR rs6 = false ∧ ∃ b, x10 = .ref b ∧ H' b = some (ExT (.ref cB) none b)))) ?_ ?_
            · walk_at "rd"
              refine fun x1 dx1 nx1 nd1 _ => ?_
              have m : Same H7 (upd (upd H7 dx1 (.own x1)) x1 (.ins CC dx1 [])) := fun b o e => by
                rw [upd_ne (ne_of_none e nx1), upd_ne (ne_of_none e nd1)]
                exact e
              refine ⟨x1, dx1, l9, as6, rs6, rfl, upd_same, m _ _ hl9, r7.same m, fun hk => ⟨true, T.hB, fun _ b nb => ?_, fun z => nomatch z⟩, fun hk R H' c ep ea hq hs => ⟨rfl, ?_⟩⟩
              · dsimp only
                walk_at "rd"
                exact ⟨_, rfl, m.trans (Same.new nb), .inr ⟨hk, b, rfl, upd_same⟩⟩
              · walk_at "rd"
                exact ⟨_, rfl, fun b o e => hs b o (m b o e) (ne_of_none e nx1), .inl ⟨hk, rfl⟩⟩
            · rintro σ8 H8 ⟨x10, rfl, s8, hcase⟩
              have hl8 := s8 _ _ hl7
              have hl98 := s8 _ _ hl9
              have r8 := r7.same s8
              have hf := rs_flat fr6
              have ev := eqv_rows hf
              walk_at "rd"
              refine ⟨l6, as6, rs6, rfl, hl8, r8, len6, fun H9 s9 => ?_⟩
              have hl99 := s9 _ _ hl8
              have hl999 := s9 _ _ hl98
              obtain ⟨rr1, rr2⟩ := rs_rows (r8.same s9)
              rcases hcase with ⟨hk, rfl⟩ | ⟨hk, b, rfl, hb⟩
              · rw [hk]
                walk_at "rd"
                refine k_eqD _ _ (dp_lst (SqL.of hl999) rr1 rr2 hf) (dp_lst (SqL.of hl99) rr1 rr2 hf) (shaped_tups hf) (shaped_tups hf) ?_
                rw [ev]
                walk_at "rd"
                exact q _
              · rw [hk]
                have hb9 := s9 _ _ hb
                walk_at "rd"
                refine ⟨b, _, .ref cB, .ref cB, true, rfl, hb9, T.eB.i, fun u r => r, T.iBB, ?_⟩
                walk_at "rd"
                refine ⟨b, _, .ty "ValueError", .type "ValueError", true, rfl, hb9, T.eB.i, fun u r => r, T.iBV, ?_⟩
                walk_at "rd"
                refine k_eqD _ _ (dp_lst (SqL.of hl999) rr1 rr2 hf) (dp_lst (SqL.of hl99) rr1 rr2 hf) (shaped_tups hf) (shaped_tups hf) ?_
                rw [ev]
                walk_at "rd"
                intro tp ntp
                have hbt : b ≠ tp := ne_of_none hb9 ntp
                walk_at "rd"
                have hb10 : upd H9 tp (.tup [.ref cT, .ref cN, .ref cO]) b = some (ExT (.ref cB) none b) := by
                  rw [upd_ne hbt]
                  exact hb9
                refine ⟨b, cB, tp, [.ref cT, .ref cN, .ref cO], [.ref cT, .ref cN, .ref cO], false, rfl, upd_same, .cons (.own cT) (.cons (.own cN) (.cons (.own cO) .nil)), hb10, T.eB.i, kitAny_cons T.iBT (fun _ => kitAny_cons T.iBN (fun _ => kitAny_cons T.iBO (fun _ => rfl) (fun z => nomatch z)) (fun z => nomatch z)) (fun z => nomatch z), ?_⟩
                walk_at "rd"
                exact q _
end
/-! ### what the top has written, gathered -/
theorem all_mk {l : PySem.W.OpenLaw} {w : World} {K : PySem.W.Frag} {h : Heap} {mg : Str → Option Value} {fa CS CC cE cB cT cN cO aW f1 f2 f3 f4 f5 f6 f7 f8 f9 f10 f11 f12 f13 : Addr} (X : K.In h) (G : h.Ns mainGlobals mg) (hfa : mg "law" = some (.ref fa))
    {odW od1 an1 od2 an2 od3 an3 od4 an4 od5 an5 od6 an6 od7 an7 od8 an8 od9 an9 od10 an10 od11 an11 od12 an12 od13 an13 : Option Addr} {slW sl1 sl2 sl3 sl4 sl5 sl6 sl7 sl8 sl9 sl10 sl11 sl12 sl13 : Array (Option Value)} {uMOST_TICKS uMOST_STAGES uMOST_MOVES oc1 kV1 dc1 pm1 cd1 ct1 oc2 kV2 dc2 pm2 cd2 ct2 oc3 kV3 dc3 pm3 cd3 ct3 oc4 kV4 dc4 pm4 cd4 ct4 oc5 kV5 dc5 pm5 cd5 ct5 oc6 kV6 dc6 pm6 cd6 ct6 oc7 kV7 dc7 pm7 cd7 ct7 oc8 kV8 dc8 pm8 cd8 ct8 oc9 kV9 dc9 pm9 cd9 ct9 oc10 kV10 dc10 pm10 cd10 ct10 oc11 kV11 dc11 pm11 cd11 ct11 oc12 kV12 dc12 pm12 cd12 ct12 oc13 kV13 dc13 pm13 cd13 ct13 : Value} {itsW : Array Value} {nW : Nat}
    (aCS : PySem.W.nsIn K mainGlobals "Side" = some (some (.ref CS)))
    (aCC : PySem.W.nsIn K mainGlobals "Clock" = some (some (.ref CC)))
    (acE : PySem.W.nsIn K mainGlobals "ClockError" = some (some (.ref cE)))
    (acB : PySem.W.nsIn K mainGlobals "BadStages" = some (some (.ref cB)))
    (acT : PySem.W.nsIn K mainGlobals "BadTicks" = some (some (.ref cT)))
    (acN : PySem.W.nsIn K mainGlobals "NotNow" = some (some (.ref cN)))
    (acO : PySem.W.nsIn K mainGlobals "Over" = some (some (.ref cO)))
    (a1 : PySem.W.findIn K (.ref CS) "__init__" = some (some (.ref f1)))
    (i1 : PySem.W.isFn K (.ref f1) = true)
    (l1 : K.lookup f1 = some ⟨oc1, od1, .func (PySem.W.fnOf "__init__" "Side.__init__" (defArgs s_Side___init) (defBody s_Side___init) (defScope s_Side___init) .none kV1 dc1 pm1 an1 cd1 ct1), sl1⟩)
    (c1 : PySem.W.codeIn K cd1 "Side.__init__" = true)
    (k1 : PySem.W.keepIn K (.ref f1) = true)
    (a2 : PySem.W.findIn K (.ref CS) "begin" = some (some (.ref f2)))
    (i2 : PySem.W.isFn K (.ref f2) = true)
    (l2 : K.lookup f2 = some ⟨oc2, od2, .func (PySem.W.fnOf "begin" "Side.begin" (defArgs s_Side_begin) (defBody s_Side_begin) (defScope s_Side_begin) .none kV2 dc2 pm2 an2 cd2 ct2), sl2⟩)
    (c2 : PySem.W.codeIn K cd2 "Side.begin" = true)
    (k2 : PySem.W.keepIn K (.ref f2) = true)
    (a3 : PySem.W.findIn K (.ref CS) "stage" = some (some (.ref f3)))
    (i3 : PySem.W.isFn K (.ref f3) = true)
    (l3 : K.lookup f3 = some ⟨oc3, od3, .func (PySem.W.fnOf "stage" "Side.stage" (defArgs s_Side_stage) (defBody s_Side_stage) (defScope s_Side_stage) .none kV3 dc3 pm3 an3 cd3 ct3), sl3⟩)
    (c3 : PySem.W.codeIn K cd3 "Side.stage" = true)
    (k3 : PySem.W.keepIn K (.ref f3) = true)
    (a4 : PySem.W.findIn K (.ref CS) "is_over" = some (some (.ref f4)))
    (i4 : PySem.W.isFn K (.ref f4) = true)
    (l4 : K.lookup f4 = some ⟨oc4, od4, .func (PySem.W.fnOf "is_over" "Side.is_over" (defArgs s_Side_is_over) (defBody s_Side_is_over) (defScope s_Side_is_over) .none kV4 dc4 pm4 an4 cd4 ct4), sl4⟩)
    (c4 : PySem.W.codeIn K cd4 "Side.is_over" = true)
    (k4 : PySem.W.keepIn K (.ref f4) = true)
    (a5 : PySem.W.nsIn K mainGlobals "look_main" = some (some (.ref f5)))
    (l5 : K.lookup f5 = some ⟨oc5, od5, .func (PySem.W.fnOf "look_main" "look_main" (defArgs s_look_main) (defBody s_look_main) (defScope s_look_main) .none kV5 dc5 pm5 an5 cd5 ct5), sl5⟩)
    (c5 : PySem.W.codeIn K cd5 "look_main" = true)
    (k5 : PySem.W.keepIn K (.ref f5) = true)
    (a6 : PySem.W.nsIn K mainGlobals "look_stages" = some (some (.ref f6)))
    (l6 : K.lookup f6 = some ⟨oc6, od6, .func (PySem.W.fnOf "look_stages" "look_stages" (defArgs s_look_stages) (defBody s_look_stages) (defScope s_look_stages) .none kV6 dc6 pm6 an6 cd6 ct6), sl6⟩)
    (c6 : PySem.W.codeIn K cd6 "look_stages" = true)
    (k6 : PySem.W.keepIn K (.ref f6) = true)
    (a7 : PySem.W.findIn K (.ref CC) "__init__" = some (some (.ref f7)))
    (i7 : PySem.W.isFn K (.ref f7) = true)
    (l7 : K.lookup f7 = some ⟨oc7, od7, .func (PySem.W.fnOf "__init__" "Clock.__init__" (defArgs s_Clock___init) (defBody s_Clock___init) (defScope s_Clock___init) .none kV7 dc7 pm7 an7 cd7 ct7), sl7⟩)
    (c7 : PySem.W.codeIn K cd7 "Clock.__init__" = true)
    (k7 : PySem.W.keepIn K (.ref f7) = true)
    (a8 : PySem.W.nsIn K mainGlobals "_law_cell" = some (some (.ref f8)))
    (l8 : K.lookup f8 = some ⟨oc8, od8, .func (PySem.W.fnOf "_law_cell" "_law_cell" (defArgs s_law_cell) (defBody s_law_cell) (defScope s_law_cell) .none kV8 dc8 pm8 an8 cd8 ct8), sl8⟩)
    (c8 : PySem.W.codeIn K cd8 "_law_cell" = true)
    (k8 : PySem.W.keepIn K (.ref f8) = true)
    (a9 : PySem.W.nsIn K mainGlobals "_law_mix" = some (some (.ref f9)))
    (l9 : K.lookup f9 = some ⟨oc9, od9, .func (PySem.W.fnOf "_law_mix" "_law_mix" (defArgs s_law_mix) (defBody s_law_mix) (defScope s_law_mix) .none kV9 dc9 pm9 an9 cd9 ct9), sl9⟩)
    (c9 : PySem.W.codeIn K cd9 "_law_mix" = true)
    (k9 : PySem.W.keepIn K (.ref f9) = true)
    (a10 : PySem.W.nsIn K mainGlobals "_law_stages" = some (some (.ref f10)))
    (l10 : K.lookup f10 = some ⟨oc10, od10, .func (PySem.W.fnOf "_law_stages" "_law_stages" (defArgs s_law_stages) (defBody s_law_stages) (defScope s_law_stages) .none kV10 dc10 pm10 an10 cd10 ct10), sl10⟩)
    (c10 : PySem.W.codeIn K cd10 "_law_stages" = true)
    (k10 : PySem.W.keepIn K (.ref f10) = true)
    (a11 : PySem.W.nsIn K mainGlobals "_law_main" = some (some (.ref f11)))
    (l11 : K.lookup f11 = some ⟨oc11, od11, .func (PySem.W.fnOf "_law_main" "_law_main" (defArgs s_law_main) (defBody s_law_main) (defScope s_law_main) .none kV11 dc11 pm11 an11 cd11 ct11), sl11⟩)
    (c11 : PySem.W.codeIn K cd11 "_law_main" = true)
    (k11 : PySem.W.keepIn K (.ref f11) = true)
    (a12 : PySem.W.nsIn K mainGlobals "_law_good" = some (some (.ref f12)))
    (l12 : K.lookup f12 = some ⟨oc12, od12, .func (PySem.W.fnOf "_law_good" "_law_good" (defArgs s_law_good) (defBody s_law_good) (defScope s_law_good) .none kV12 dc12 pm12 an12 cd12 ct12), sl12⟩)
    (c12 : PySem.W.codeIn K cd12 "_law_good" = true)
    (k12 : PySem.W.keepIn K (.ref f12) = true)
    (a13 : PySem.W.nsIn K mainGlobals "law" = some (some (.ref f13)))
    (l13 : K.lookup f13 = some ⟨oc13, od13, .func (PySem.W.fnOf "law" "law" (defArgs s_law) (defBody s_law) (defScope s_law) .none kV13 dc13 pm13 an13 cd13 ct13), sl13⟩)
    (c13 : PySem.W.codeIn K cd13 "law" = true)
    (k13 : PySem.W.keepIn K (.ref f13) = true)
    (pgCS : PySem.W.plainGet K CS Str.empty = true)
    (hdCS : PySem.W.hasDictIn K CS = true)
    (poCS : PySem.W.plainOver K CS = true)
    (saCS : PySem.W.findIn K (.ref CS) "__setattr__" = some (some (.builtin "object.__setattr__")))
    (mkCS : PySem.W.makesIn K CS = true)
    (kcCS : PySem.W.keepIn K (.ref CS) = true)
    (nS1 : PySem.W.findIn K (.ref CS) "stages" = some none)
    (nS2 : PySem.W.findIn K (.ref CS) "at" = some none)
    (nS3 : PySem.W.findIn K (.ref CS) "ticks" = some none)
    (nS4 : PySem.W.findIn K (.ref CS) "periods" = some none)
    (nS5 : PySem.W.findIn K (.ref CS) "moved" = some none)
    (nS6 : PySem.W.findIn K (.ref CS) "made" = some none)
    (nS7 : PySem.W.findIn K (.ref CS) "used" = some none)
    (pgCC : PySem.W.plainGet K CC Str.empty = true)
    (hdCC : PySem.W.hasDictIn K CC = true)
    (poCC : PySem.W.plainOver K CC = true)
    (saCC : PySem.W.findIn K (.ref CC) "__setattr__" = some (some (.builtin "object.__setattr__")))
    (mkCC : PySem.W.makesIn K CC = true)
    (kcCC : PySem.W.keepIn K (.ref CC) = true)
    (nC1 : PySem.W.findIn K (.ref CC) "both" = some none)
    (nC2 : PySem.W.findIn K (.ref CC) "turn" = some none)
    (nC3 : PySem.W.findIn K (.ref CC) "runs" = some none)
    (nC4 : PySem.W.findIn K (.ref CC) "fallen" = some none)
    (nC5 : PySem.W.findIn K (.ref CC) "total" = some none)
    (hn : PySem.W.specialIn K (.builtin "object.__class__") "__get__" = some (some (.builtin "getset_descriptor.__get__")))
    (ht : PySem.W.takesIn K (.builtin "object.__class__") = some true)
    (xxB : PySem.W.excIn K cB [.type "ValueError", .type "Exception", .type "BaseException", .type "object"] "ValueError.__new__" = true)
    (xkB : PySem.W.keepIn K (.ref cB) = true)
    (xsB : PySem.W.subIn K (.ref cB) (.type "BaseException") = some true)
    (xtB : PySem.W.typeIn K (.ref cB) = some (.type "type"))
    (xgB : PySem.W.findIn K (.ref cB) "__getattribute__" = some (some (.builtin "BaseException.__getattribute__")))
    (xjB : PySem.W.findIn K (.ref cB) "__getattr__" = some none)
    (xdB : PySem.W.hasDictIn K cB = true)
    (xaB : PySem.W.findIn K (.ref cB) "__class__" = some (some (.builtin "object.__class__")))
    (xmB : PySem.W.mroIn K cB (.type "object") = some true)
    (hB : PySem.W.exmOne K (.ref cB) (.ref cE) = some true)
    (iBB : PySem.W.kitOne K (.ref cB) (.ref cB) = some true)
    (iBT : PySem.W.kitOne K (.ref cB) (.ref cT) = some false)
    (iBN : PySem.W.kitOne K (.ref cB) (.ref cN) = some false)
    (iBO : PySem.W.kitOne K (.ref cB) (.ref cO) = some false)
    (iBV : PySem.W.kitOne K (.ref cB) (.type "ValueError") = some true)
    (xxT : PySem.W.excIn K cT [.type "ValueError", .type "Exception", .type "BaseException", .type "object"] "ValueError.__new__" = true)
    (xkT : PySem.W.keepIn K (.ref cT) = true)
    (xsT : PySem.W.subIn K (.ref cT) (.type "BaseException") = some true)
    (xtT : PySem.W.typeIn K (.ref cT) = some (.type "type"))
    (xgT : PySem.W.findIn K (.ref cT) "__getattribute__" = some (some (.builtin "BaseException.__getattribute__")))
    (xjT : PySem.W.findIn K (.ref cT) "__getattr__" = some none)
    (xdT : PySem.W.hasDictIn K cT = true)
    (xaT : PySem.W.findIn K (.ref cT) "__class__" = some (some (.builtin "object.__class__")))
    (xmT : PySem.W.mroIn K cT (.type "object") = some true)
    (hT : PySem.W.exmOne K (.ref cT) (.ref cE) = some true)
    (iTB : PySem.W.kitOne K (.ref cT) (.ref cB) = some false)
    (iTT : PySem.W.kitOne K (.ref cT) (.ref cT) = some true)
    (iTN : PySem.W.kitOne K (.ref cT) (.ref cN) = some false)
    (iTO : PySem.W.kitOne K (.ref cT) (.ref cO) = some false)
    (iTV : PySem.W.kitOne K (.ref cT) (.type "ValueError") = some true)
    (xxN : PySem.W.excIn K cN [.type "ValueError", .type "Exception", .type "BaseException", .type "object"] "ValueError.__new__" = true)
    (xkN : PySem.W.keepIn K (.ref cN) = true)
    (xsN : PySem.W.subIn K (.ref cN) (.type "BaseException") = some true)
    (xtN : PySem.W.typeIn K (.ref cN) = some (.type "type"))
    (xgN : PySem.W.findIn K (.ref cN) "__getattribute__" = some (some (.builtin "BaseException.__getattribute__")))
    (xjN : PySem.W.findIn K (.ref cN) "__getattr__" = some none)
    (xdN : PySem.W.hasDictIn K cN = true)
    (xaN : PySem.W.findIn K (.ref cN) "__class__" = some (some (.builtin "object.__class__")))
    (xmN : PySem.W.mroIn K cN (.type "object") = some true)
    (hN : PySem.W.exmOne K (.ref cN) (.ref cE) = some true)
    (iNB : PySem.W.kitOne K (.ref cN) (.ref cB) = some false)
    (iNT : PySem.W.kitOne K (.ref cN) (.ref cT) = some false)
    (iNN : PySem.W.kitOne K (.ref cN) (.ref cN) = some true)
    (iNO : PySem.W.kitOne K (.ref cN) (.ref cO) = some false)
    (iNV : PySem.W.kitOne K (.ref cN) (.type "ValueError") = some true)
    (xxO : PySem.W.excIn K cO [.type "ValueError", .type "Exception", .type "BaseException", .type "object"] "ValueError.__new__" = true)
    (xkO : PySem.W.keepIn K (.ref cO) = true)
    (xsO : PySem.W.subIn K (.ref cO) (.type "BaseException") = some true)
    (xtO : PySem.W.typeIn K (.ref cO) = some (.type "type"))
    (xgO : PySem.W.findIn K (.ref cO) "__getattribute__" = some (some (.builtin "BaseException.__getattribute__")))
    (xjO : PySem.W.findIn K (.ref cO) "__getattr__" = some none)
    (xdO : PySem.W.hasDictIn K cO = true)
    (xaO : PySem.W.findIn K (.ref cO) "__class__" = some (some (.builtin "object.__class__")))
    (xmO : PySem.W.mroIn K cO (.type "object") = some true)
    (hO : PySem.W.exmOne K (.ref cO) (.ref cE) = some true)
    (iOB : PySem.W.kitOne K (.ref cO) (.ref cB) = some false)
    (iOT : PySem.W.kitOne K (.ref cO) (.ref cT) = some false)
    (iON : PySem.W.kitOne K (.ref cO) (.ref cN) = some false)
    (iOO : PySem.W.kitOne K (.ref cO) (.ref cO) = some true)
    (iOV : PySem.W.kitOne K (.ref cO) (.type "ValueError") = some true)
    (aMOST_TICKS : PySem.W.nsIn K mainGlobals "MOST_TICKS" = some (some uMOST_TICKS))
    (rMOST_TICKS : RelV (.int 1000000) uMOST_TICKS)
    (aMOST_STAGES : PySem.W.nsIn K mainGlobals "MOST_STAGES" = some (some uMOST_STAGES))
    (rMOST_STAGES : RelV (.int 5) uMOST_STAGES)
    (aMOST_MOVES : PySem.W.nsIn K mainGlobals "MOST_MOVES" = some (some uMOST_MOVES))
    (rMOST_MOVES : RelV (.int 200) uMOST_MOVES)
    (aaW : PySem.W.nsIn K mainGlobals "WAYS" = some (some (.ref aW)))
    (lW : K.lookup aW = some ⟨.type "tuple", odW, .seq itsW nW, slW⟩)
    (zW : itsW.size ≤ sizeLine)
    (vW : Vals [.str "plain", .str "add", .str "back", .str "wait"] itsW.toList)
    (nb_len : PySem.W.nsIn K mainGlobals "len" = some none)
    (nb_max : PySem.W.nsIn K mainGlobals "max" = some none)
    (nb_min : PySem.W.nsIn K mainGlobals "min" = some none)
    (nb_list : PySem.W.nsIn K mainGlobals "list" = some none)
    (nb_range : PySem.W.nsIn K mainGlobals "range" = some none)
    (nb_isinstance : PySem.W.nsIn K mainGlobals "isinstance" = some none)
    (nb_bool : PySem.W.nsIn K mainGlobals "bool" = some none)
    (nb_tuple : PySem.W.nsIn K mainGlobals "tuple" = some none)
    (nb_ValueError : PySem.W.nsIn K mainGlobals "ValueError" = some none)
    (nb_int : PySem.W.nsIn K mainGlobals "int" = some none)
    (nb_str : PySem.W.nsIn K mainGlobals "str" = some none)
    (nb_all : PySem.W.nsIn K mainGlobals "all" = some none)
    : ∃ fd : FuncData, (∀ (s : Shared) (v : Value), BindsTo s fd ⟨[v], []⟩ [("_law_script", v)]) ∧ ∀ base : Heap, K.In base → base.Ns mainGlobals mg → FnOk l.prog w K mg base CX0 8 fa fd ["_law_script"] (spLaw K) := by
  have e := hfa.symm.trans (PySem.W.mg_of X G a13)
  cases e
  have T : Txt K mg CS CC cE cB cT cN cO aW := { clS := ⟨pgCS, hdCS, poCS, saCS⟩, clC := ⟨pgCC, hdCC, poCC, saCC⟩, nS1 := nS1, nS2 := nS2, nS3 := nS3, nS4 := nS4, nS5 := nS5, nS6 := nS6, nS7 := nS7, nC1 := nC1, nC2 := nC2, nC3 := nC3, nC4 := nC4, nC5 := nC5, eB := ⟨xxB, xkB, xsB, xtB, ⟨xgB, xjB, xsB, xdB, xaB, hn, ht, xmB⟩⟩, eT := ⟨xxT, xkT, xsT, xtT, ⟨xgT, xjT, xsT, xdT, xaT, hn, ht, xmT⟩⟩, eN := ⟨xxN, xkN, xsN, xtN, ⟨xgN, xjN, xsN, xdN, xaN, hn, ht, xmN⟩⟩, eO := ⟨xxO, xkO, xsO, xtO, ⟨xgO, xjO, xsO, xdO, xaO, hn, ht, xmO⟩⟩, g_ClockError := PySem.W.mg_of X G acE, g_BadStages := PySem.W.mg_of X G acB, g_BadTicks := PySem.W.mg_of X G acT, g_NotNow := PySem.W.mg_of X G acN, g_Over := PySem.W.mg_of X G acO, hB := hB, hT := hT, hN := hN, hO := hO, g_MOST_TICKS := ⟨_, PySem.W.mg_of X G aMOST_TICKS, rMOST_TICKS⟩, g_MOST_STAGES := ⟨_, PySem.W.mg_of X G aMOST_STAGES, rMOST_STAGES⟩, g_MOST_MOVES := ⟨_, PySem.W.mg_of X G aMOST_MOVES, rMOST_MOVES⟩, g_WAYS := PySem.W.mg_of X G aaW, w_WAYS := fun H => .inr ⟨_, itsW, nW, lW, rfl, rfl, zW, vW⟩, b_len := PySem.W.mg_none_of X G nb_len, b_max := PySem.W.mg_none_of X G nb_max, b_min := PySem.W.mg_none_of X G nb_min, b_list := PySem.W.mg_none_of X G nb_list, b_range := PySem.W.mg_none_of X G nb_range, b_isinstance := PySem.W.mg_none_of X G nb_isinstance, b_bool := PySem.W.mg_none_of X G nb_bool, b_tuple := PySem.W.mg_none_of X G nb_tuple, b_ValueError := PySem.W.mg_none_of X G nb_ValueError, b_int := PySem.W.mg_none_of X G nb_int, b_str := PySem.W.mg_none_of X G nb_str, b_all := PySem.W.mg_none_of X G nb_all, iBT := iBT, iBN := iBN, iBO := iBO, iBB := iBB, iBV := iBV, iTT := iTT, iTN := iTN, iTO := iTO, iTB := iTB, iTV := iTV, iNT := iNT, iNN := iNN, iNO := iNO, iNB := iNB, iNV := iNV, iOT := iOT, iON := iON, iOO := iOO, iOB := iOB, iOV := iOV }
  have F1 := fun_mk (st := s_Side___init) l1 c1 k1
  have b1 := F1.binds (ps := ["self", "stages"]) fun _ _ _ _ _ _ us hl => match us, hl with | [_, _], _ => rfl
  have D1 : IDef K mg CS "Side" "Side.__init__" s_Side___init ["self", "stages"] := ⟨_, _, F1, b1, ⟨mkCS, a1, i1, kcCS⟩, PySem.W.mg_of X G aCS⟩
  have F2 := fun_mk (st := s_Side_begin) l2 c2 k2
  have b2 := F2.binds (ps := ["self", "at"]) fun _ _ _ _ _ _ us hl => match us, hl with | [_, _], _ => rfl
  have D2 : MDef K CS "begin" "Side.begin" s_Side_begin ["self", "at"] := ⟨_, _, F2, b2, a2, i2, k2⟩
  have F3 := fun_mk (st := s_Side_stage) l3 c3 k3
  have b3 := F3.binds (ps := ["self"]) fun _ _ _ _ _ _ us hl => match us, hl with | [_], _ => rfl
  have D3 : MDef K CS "stage" "Side.stage" s_Side_stage ["self"] := ⟨_, _, F3, b3, a3, i3, k3⟩
  have F4 := fun_mk (st := s_Side_is_over) l4 c4 k4
  have b4 := F4.binds (ps := ["self"]) fun _ _ _ _ _ _ us hl => match us, hl with | [_], _ => rfl
  have D4 : MDef K CS "is_over" "Side.is_over" s_Side_is_over ["self"] := ⟨_, _, F4, b4, a4, i4, k4⟩
  have F5 := fun_mk (st := s_look_main) l5 c5 k5
  have b5 := F5.binds (ps := ["stage", "is_last"]) fun _ _ _ _ _ _ us hl => match us, hl with | [_, _], _ => rfl
  have D5 : FDef K mg "look_main" s_look_main ["stage", "is_last"] := ⟨_, _, F5, b5, PySem.W.mg_of X G a5⟩
  have F6 := fun_mk (st := s_look_stages) l6 c6 k6
  have b6 := F6.binds (ps := ["stages"]) fun _ _ _ _ _ _ us hl => match us, hl with | [_], _ => rfl
  have D6 : FDef K mg "look_stages" s_look_stages ["stages"] := ⟨_, _, F6, b6, PySem.W.mg_of X G a6⟩
  have F7 := fun_mk (st := s_Clock___init) l7 c7 k7
  have b7 := F7.binds (ps := ["self", "stages"]) fun _ _ _ _ _ _ us hl => match us, hl with | [_, _], _ => rfl
  have D7 : IDef K mg CC "Clock" "Clock.__init__" s_Clock___init ["self", "stages"] := ⟨_, _, F7, b7, ⟨mkCC, a7, i7, kcCC⟩, PySem.W.mg_of X G aCC⟩
  have F8 := fun_mk (st := s_law_cell) l8 c8 k8
  have b8 := F8.binds (ps := ["_law_script", "_law_k"]) fun _ _ _ _ _ _ us hl => match us, hl with | [_, _], _ => rfl
  have D8 : FDef K mg "_law_cell" s_law_cell ["_law_script", "_law_k"] := ⟨_, _, F8, b8, PySem.W.mg_of X G a8⟩
  have F9 := fun_mk (st := s_law_mix) l9 c9 k9
  have b9 := F9.binds (ps := ["_law_script", "_law_k"]) fun _ _ _ _ _ _ us hl => match us, hl with | [_, _], _ => rfl
  have D9 : FDef K mg "_law_mix" s_law_mix ["_law_script", "_law_k"] := ⟨_, _, F9, b9, PySem.W.mg_of X G a9⟩
  have F10 := fun_mk (st := s_law_stages) l10 c10 k10
  have b10 := F10.binds (ps := ["_law_script", "_law_k"]) fun _ _ _ _ _ _ us hl => match us, hl with | [_, _], _ => rfl
  have D10 : FDef K mg "_law_stages" s_law_stages ["_law_script", "_law_k"] := ⟨_, _, F10, b10, PySem.W.mg_of X G a10⟩
  have F11 := fun_mk (st := s_law_main) l11 c11 k11
  have b11 := F11.binds (ps := ["_law_stage", "_law_last"]) fun _ _ _ _ _ _ us hl => match us, hl with | [_, _], _ => rfl
  have D11 : FDef K mg "_law_main" s_law_main ["_law_stage", "_law_last"] := ⟨_, _, F11, b11, PySem.W.mg_of X G a11⟩
  have F12 := fun_mk (st := s_law_good) l12 c12 k12
  have b12 := F12.binds (ps := ["_law_stages_here"]) fun _ _ _ _ _ _ us hl => match us, hl with | [_], _ => rfl
  have D12 : FDef K mg "_law_good" s_law_good ["_law_stages_here"] := ⟨_, _, F12, b12, PySem.W.mg_of X G a12⟩
  have F13 := fun_mk (st := s_law) l13 c13 k13
  refine ⟨PySem.W.fnOf "law" "law" (defArgs s_law) (defBody s_law) (defScope s_law) .none kV13 dc13 pm13 an13 cd13 ct13, fun s v => .of_eq rfl, fun base _ _ => ?_⟩
  have c_Side_stage := ok_stage (P := l.prog) (w := w) (base := base) T D3
  have c_Side_is_over := ok_isOver (P := l.prog) (w := w) (base := base) T c_Side_stage D4
  have c_Side_begin := ok_begin (P := l.prog) (w := w) (base := base) T c_Side_stage c_Side_is_over D2
  have c_mkSide := ok_initS (P := l.prog) (w := w) (base := base) T c_Side_begin D1
  have c_look_main := ok_lookMain (P := l.prog) (w := w) (base := base) T D5
  have c_look_stages := ok_lookStages (P := l.prog) (w := w) (base := base) T c_look_main D6
  have c_mkClock := ok_initC (P := l.prog) (w := w) (base := base) T c_look_stages c_mkSide D7
  have c__law_cell := ok_cell (P := l.prog) (w := w) (base := base) T D8
  have c__law_mix := ok_mix (P := l.prog) (w := w) (base := base) T c__law_cell D9
  have c__law_stages := ok_stages (P := l.prog) (w := w) (base := base) T c__law_mix D10
  have c__law_main := ok_mainL (P := l.prog) (w := w) (base := base) T D11
  have c__law_good := ok_goodL (P := l.prog) (w := w) (base := base) T c__law_main D12
  exact ok_law (P := l.prog) (w := w) (base := base) T c__law_good c__law_stages c__law_mix c_mkClock F13
theorem walk {l : PySem.W.OpenLaw} {q : Program} {loose : List Str} {XP : (Str → Option Value) → Heap → Prop} {YP : World → Heap → Prop} {d : DefRec} {K : Params → PySem.W.Frag} (hn : l.most = some 63) (hdf : d.params.defaults = [])
    (hY : ∀ (w : World) (h : Heap), YP w h → (K w.params).In h)
    (F : ∀ (w : World) (mg : Str → Option Value) (fa : Addr) (h : Heap), (K w.params).In h → h.Ns mainGlobals mg → mg d.name = some (.ref fa) →
      ∃ fd : FuncData, (∀ (s : Shared) (u : Value), BindsTo s fd ⟨[u], []⟩ [("_law_script", u)]) ∧ ∀ base : Heap, (K w.params).In base → base.Ns mainGlobals mg → FnOk l.prog w (K w.params) mg base CX0 8 fa fd ["_law_script"] (spLaw (K w.params))) :
    PySem.W.WalkO q loose XP YP l.row.toRowW d [] (fun f vs => PySem.call f vs) :=
  L2.walk_of (n := 63) (k := 8) (x := "_law_script") (CX := fun _ => CX0) (sp := fun w => spLaw (K w.params)) hn (by decide) hdf ⟨rfl, by decide, by decide⟩ hY F (fun _ H a ns hl _ hS => spLaw_of hl hS) fun _ _ _ _ _ z => z
end Ck
open PySem PySem.W PyProof.Rows
set_option maxRecDepth 100000 in
set_option maxHeartbeats 0 in
theorem PySem.Challenge.cw_chessclock_k01_bad_stages_holds : PySem.Challenge.rw_chessclock_k01_bad_stages.Holds := by
  w_on; o_law; k_head; (case hw => w_witness2)
  k_fill
  refine Ck.walk (l := PySem.Challenge.rw_chessclock_k01_bad_stages) rfl rfl (fun w h Y => PySem.W.kIn_of Y) ?F
  case F =>
    intro w mg fa h KX G hmg
    refine' Ck.all_mk KX G hmg ?aCS ?aCC ?acE ?acB ?acT ?acN ?acO ?a1 ?i1 ?l1 ?c1 ?k1 ?a2 ?i2 ?l2 ?c2 ?k2 ?a3 ?i3 ?l3 ?c3 ?k3 ?a4 ?i4 ?l4 ?c4 ?k4 ?a5 ?l5 ?c5 ?k5 ?a6 ?l6 ?c6 ?k6 ?a7 ?i7 ?l7 ?c7 ?k7 ?a8 ?l8 ?c8 ?k8 ?a9 ?l9 ?c9 ?k9 ?a10 ?l10 ?c10 ?k10 ?a11 ?l11 ?c11 ?k11 ?a12 ?l12 ?c12 ?k12 ?a13 ?l13 ?c13 ?k13 ?pgCS ?hdCS ?poCS ?saCS ?mkCS ?kcCS ?nS1 ?nS2 ?nS3 ?nS4 ?nS5 ?nS6 ?nS7 ?pgCC ?hdCC ?poCC ?saCC ?mkCC ?kcCC ?nC1 ?nC2 ?nC3 ?nC4 ?nC5 ?hn ?ht ?xxB ?xkB ?xsB ?xtB ?xgB ?xjB ?xdB ?xaB ?xmB ?hB ?iBB ?iBT ?iBN ?iBO ?iBV ?xxT ?xkT ?xsT ?xtT ?xgT ?xjT ?xdT ?xaT ?xmT ?hT ?iTB ?iTT ?iTN ?iTO ?iTV ?xxN ?xkN ?xsN ?xtN ?xgN ?xjN ?xdN ?xaN ?xmN ?hN ?iNB ?iNT ?iNN ?iNO ?iNV ?xxO ?xkO ?xsO ?xtO ?xgO ?xjO ?xdO ?xaO ?xmO ?hO ?iOB ?iOT ?iON ?iOO ?iOV ?aMOST_TICKS ?rMOST_TICKS ?aMOST_STAGES ?rMOST_STAGES ?aMOST_MOVES ?rMOST_MOVES ?aaW ?lW ?zW ?vW ?nb_len ?nb_max ?nb_min ?nb_list ?nb_range ?nb_isinstance ?nb_bool ?nb_tuple ?nb_ValueError ?nb_int ?nb_str ?nb_all
    (case aCS => k_is)
    (case aCC => k_is)
    (case acE => k_is)
    (case acB => k_is)
    (case acT => k_is)
    (case acN => k_is)
    (case acO => k_is)
    (case a1 => k_is)
    (case i1 => k_is)
    (case l1 => k_is)
    (case c1 => k_is)
    (case k1 => k_is)
    (case a2 => k_is)
    (case i2 => k_is)
    (case l2 => k_is)
    (case c2 => k_is)
    (case k2 => k_is)
    (case a3 => k_is)
    (case i3 => k_is)
    (case l3 => k_is)
    (case c3 => k_is)
    (case k3 => k_is)
    (case a4 => k_is)
    (case i4 => k_is)
    (case l4 => k_is)
    (case c4 => k_is)
    (case k4 => k_is)
    (case a5 => k_is)
    (case l5 => k_is)
    (case c5 => k_is)
    (case k5 => k_is)
    (case a6 => k_is)
    (case l6 => k_is)
    (case c6 => k_is)
    (case k6 => k_is)
    (case a7 => k_is)
    (case i7 => k_is)
    (case l7 => k_is)
    (case c7 => k_is)
    (case k7 => k_is)
    (case a8 => k_is)
    (case l8 => k_is)
    (case c8 => k_is)
    (case k8 => k_is)
    (case a9 => k_is)
    (case l9 => k_is)
    (case c9 => k_is)
    (case k9 => k_is)
    (case a10 => k_is)
    (case l10 => k_is)
    (case c10 => k_is)
    (case k10 => k_is)
    (case a11 => k_is)
    (case l11 => k_is)
    (case c11 => k_is)
    (case k11 => k_is)
    (case a12 => k_is)
    (case l12 => k_is)
    (case c12 => k_is)
    (case k12 => k_is)
    (case a13 => k_is)
    (case l13 => k_is)
    (case c13 => k_is)
    (case k13 => k_is)
    (case pgCS => k_is)
    (case hdCS => k_is)
    (case poCS => k_is)
    (case saCS => k_is)
    (case mkCS => k_is)
    (case kcCS => k_is)
    (case nS1 => k_is)
    (case nS2 => k_is)
    (case nS3 => k_is)
    (case nS4 => k_is)
    (case nS5 => k_is)
    (case nS6 => k_is)
    (case nS7 => k_is)
    (case pgCC => k_is)
    (case hdCC => k_is)
    (case poCC => k_is)
    (case saCC => k_is)
    (case mkCC => k_is)
    (case kcCC => k_is)
    (case nC1 => k_is)
    (case nC2 => k_is)
    (case nC3 => k_is)
    (case nC4 => k_is)
    (case nC5 => k_is)
    (case hn => k_is)
    (case ht => k_is)
    (case xxB => k_exc)
    (case xkB => k_is)
    (case xsB => k_is)
    (case xtB => k_is)
    (case xgB => k_is)
    (case xjB => k_is)
    (case xdB => k_is)
    (case xaB => k_is)
    (case xmB => k_is)
    (case hB => rfl)
    (case iBB => first | rfl | k_is)
    (case iBT => first | rfl | k_is)
    (case iBN => first | rfl | k_is)
    (case iBO => first | rfl | k_is)
    (case iBV => rfl)
    (case xxT => k_exc)
    (case xkT => k_is)
    (case xsT => k_is)
    (case xtT => k_is)
    (case xgT => k_is)
    (case xjT => k_is)
    (case xdT => k_is)
    (case xaT => k_is)
    (case xmT => k_is)
    (case hT => rfl)
    (case iTB => first | rfl | k_is)
    (case iTT => first | rfl | k_is)
    (case iTN => first | rfl | k_is)
    (case iTO => first | rfl | k_is)
    (case iTV => rfl)
    (case xxN => k_exc)
    (case xkN => k_is)
    (case xsN => k_is)
    (case xtN => k_is)
    (case xgN => k_is)
    (case xjN => k_is)
    (case xdN => k_is)
    (case xaN => k_is)
    (case xmN => k_is)
    (case hN => rfl)
    (case iNB => first | rfl | k_is)
    (case iNT => first | rfl | k_is)
    (case iNN => first | rfl | k_is)
    (case iNO => first | rfl | k_is)
    (case iNV => rfl)
    (case xxO => k_exc)
    (case xkO => k_is)
    (case xsO => k_is)
    (case xtO => k_is)
    (case xgO => k_is)
    (case xjO => k_is)
    (case xdO => k_is)
    (case xaO => k_is)
    (case xmO => k_is)
    (case hO => rfl)
    (case iOB => first | rfl | k_is)
    (case iOT => first | rfl | k_is)
    (case iON => first | rfl | k_is)
    (case iOO => first | rfl | k_is)
    (case iOV => rfl)
    (case aMOST_TICKS => k_is)
    (case rMOST_TICKS => exact ⟨_, rfl⟩)
    (case aMOST_STAGES => k_is)
    (case rMOST_STAGES => exact ⟨_, rfl⟩)
    (case aMOST_MOVES => k_is)
    (case rMOST_MOVES => exact ⟨_, rfl⟩)
    (case aaW => k_is)
    (case lW => k_is)
    (case zW => show (4 : Nat) ≤ sizeLine; decide)
    (case vW => exact .cons ⟨_, rfl⟩ (.cons ⟨_, rfl⟩ (.cons ⟨_, rfl⟩ (.cons ⟨_, rfl⟩ .nil))))
    (case nb_len => k_is)
    (case nb_max => k_is)
    (case nb_min => k_is)
    (case nb_list => k_is)
    (case nb_range => k_is)
    (case nb_isinstance => k_is)
    (case nb_bool => k_is)
    (case nb_tuple => k_is)
    (case nb_ValueError => k_is)
    (case nb_int => k_is)
    (case nb_str => k_is)
    (case nb_all => k_is)
