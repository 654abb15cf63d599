import PyProof.Rows.All
import Wide.All
import OpenK.AllK
import Wide.FinOn
import KE.KStateDown
import Lean
import HandS.ForMost
import HandS.Defaults
import HandS.Head0
import HandS.Head1
import HandS.Head2
import HandS.Head3
import HandS.HeadEnd
import HandS.HeadHook1
import HandS.HeadHook2
import HandS.Deep
import HandS.Gcd
import HandS.Wide
import HandS.Property
import HandS.CallRecv
import HandS.IsInst
import HandS.Conv
import HandS.Sort
import HandS.Strs
import HandS.Style
import HandS.TupAny
import HandS.Walk
import HandS.Flow
import PySem.Challenge.RW_cushioned_k46_whole_games_of_any_size
import KE.GoesEnum
section
set_option Elab.async false
set_option linter.all false
set_option maxRecDepth 100000
set_option maxHeartbeats 4000000
/-! ### the text of the program by places, the facts that the head hands on -/
namespace Cu
open PySem PySem.Spec PyProof.Rows L2
abbrev PW : Program := PySem.Challenge.pw_cushioned_k46_whole_games_of_any_size
abbrev RW : PySem.W.OpenRow := PySem.W.OpenLaw.row PySem.Challenge.rw_cushioned_k46_whole_games_of_any_size
def top (i : Nat) : Stmt := PW.main.body.getD i (.Pass ⟨0, 0, 0, 0⟩)
abbrev sReq : Stmt := top 11
abbrev sTabI : Stmt := inClass (top 12) 0
abbrev sIsPt : Stmt := inClass (top 12) 1
abbrev sChPt : Stmt := inClass (top 12) 2
abbrev sIsName : Stmt := top 17
abbrev sIsBall : Stmt := top 18
abbrev sChBall : Stmt := top 19
abbrev sChBalls : Stmt := top 20
abbrev sInv : Stmt := top 23
abbrev sChin : Stmt := top 24
abbrev sSolved : Stmt := top 25
abbrev sUnited : Stmt := top 26
abbrev sPtCls : Stmt := top 27
abbrev sMeCls : Stmt := top 28
abbrev sCrossed : Stmt := top 29
abbrev sIsCls : Stmt := top 32
abbrev sApart : Stmt := top 33
abbrev sTimI : Stmt := inClass (top 34) 0
abbrev sWithin : Stmt := inClass (top 34) 1
abbrev sHolds : Stmt := inClass (top 34) 2
abbrev sNext : Stmt := inClass (top 34) 3
abbrev sPartCls : Stmt := top 36
abbrev sAtPt : Stmt := top 37
abbrev sMeets : Stmt := top 38
abbrev sFallOf : Stmt := top 41
abbrev sFirstFall : Stmt := top 42
abbrev sEarlier : Stmt := top 44
abbrev sGamI : Stmt := inClass (top 45) 0
abbrev sNames : Stmt := inClass (top 45) 1
abbrev sNumber : Stmt := inClass (top 45) 2
abbrev sBallM : Stmt := inClass (top 45) 3
abbrev sLife : Stmt := inClass (top 45) 4
abbrev sGMeets : Stmt := inClass (top 45) 7
abbrev sLRow : Stmt := top 47
abbrev sLNumbers : Stmt := top 48
abbrev sLNames : Stmt := top 49
abbrev sLTable : Stmt := top 50
abbrev sLBall : Stmt := top 51
abbrev sLWalk : Stmt := top 52
abbrev sLFall : Stmt := top 53
abbrev sLBalls : Stmt := top 55
abbrev sLMeets : Stmt := top 56
abbrev sLaw : Stmt := top 57

/-- a def of the module, a method -/
def dG (x : Str) (st : Stmt) : He.DefD := ⟨(x, none), x, x, defArgs st, defBody st, defScope st, [], []⟩
def dM (c m q : Str) (st : Stmt) : He.DefD := ⟨(c, some m), m, q, defArgs st, defBody st, defScope st, [], []⟩
def dM1 (c m q : Str) (st : Stmt) : He.DefD := ⟨(c, some m), m, q, defArgs st, defBody st, defScope st, [.adr (He.dflAt (c, some m) 0)], []⟩
def fn : List He.DefD := [
  dG "require" sReq, dM1 "Table" "__init__" "Table.__init__" sTabI, dM "Table" "is_point" "Table.is_point" sIsPt, dM "Table" "check_point" "Table.check_point" sChPt,
  dG "is_name" sIsName, dG "is_ball" sIsBall, dG "check_ball" sChBall, dG "check_balls" sChBalls,
  dG "inverse" sInv, dG "chinese" sChin, dG "solved" sSolved, dG "united" sUnited, dG "point_classes" sPtCls, dG "meeting_classes" sMeCls, dG "crossed" sCrossed,
  dG "is_class" sIsCls, dG "are_apart" sApart, dM "Times" "__init__" "Times.__init__" sTimI, dM "Times" "is_within" "Times.is_within" sWithin, dM "Times" "holds" "Times.holds" sHolds, dM "Times" "next_from" "Times.next_from" sNext,
  dG "part_classes" sPartCls, dG "at_point" sAtPt, dG "meetings" sMeets, dG "fall_of" sFallOf, dG "first_fall" sFirstFall, dG "earlier" sEarlier,
  dM1 "Game" "__init__" "Game.__init__" sGamI, dM "Game" "number" "Game.number" sNumber, dM "Game" "ball" "Game.ball" sBallM, dM "Game" "life" "Game.life" sLife, dM "Game" "meetings" "Game.meetings" sGMeets,
  dG "_law_row" sLRow, dG "_law_numbers" sLNumbers, dG "_law_names" sLNames, dG "_law_table" sLTable, dG "_law_ball" sLBall, dG "_law_walk" sLWalk, dG "_law_fall" sLFall, dG "_law_balls" sLBalls, dG "_law_meets" sLMeets, dG "law" sLaw]
def gnames : List Str := (["require", "Table", "is_name", "is_ball", "check_ball", "check_balls", "inverse", "chinese", "solved", "united", "point_classes", "meeting_classes", "crossed", "is_class", "are_apart", "Times", "part_classes", "at_point", "meetings", "meetings_meetings"] : List Str) ++
  (["fall_of", "first_fall", "earlier", "Game", "_law_row", "_law_numbers", "_law_names", "_law_table", "_law_ball", "_law_walk", "_law_fall", "_law_balls", "_law_meets", "law", "WHOLE"] : List Str)
def frees : List Str := ["len", "abs", "int", "range", "max", "min", "all", "any", "tuple", "list", "enumerate", "sorted", "isinstance"]
def noats : List (Str × Str) := [("Table", "width"), ("Table", "height"), ("Table", "pockets"), ("Times", "start"), ("Times", "end"), ("Times", "classes"), ("Game", "table"), ("Game", "balls"), ("Game", "falls")]
def meths : List (Str × Str) := [("Table", "is_point"), ("Table", "check_point"), ("Times", "is_within"), ("Times", "holds"), ("Times", "next_from"), ("Game", "number"), ("Game", "ball"), ("Game", "life"), ("Game", "meetings")]
def clss : List Str := ["Table", "Times", "Game"]
def fa : List He.Fa := gnames.map He.Fa.glo ++ (frees.map He.Fa.free ++ (noats.map (fun p => He.Fa.noat p.1 p.2) ++ (meths.map (fun p => He.Fa.meth p.1 p.2) ++ (clss.map He.Fa.cls ++ (clss.map He.Fa.mkr ++
  [.int "MOST" (10 ^ 30), .int "MOST_POCKETS" 12, .int "MOST_NAME_CHARS" 12, .int "MOST_BALLS" 12, .int "MOST_CLASSES" 64, .str "NAME_CHARS" "abcdefghijklmnopqrstuvwxyz0123456789"])))))
/-! ### facts of my own: gcd, the one list of the module, the property, the second name of meetings -/
/-- the getter of Game.names -/
def getter (K : PySem.W.Frag) : Addr := match PySem.W.recIn K (He.ma K (He.ga K "Game") "names") "property" with
  | some (.ref g :: _) => g
  | _ => 0
/-- the only item of WHOLE -/
def wholeT (K : PySem.W.Frag) : Addr := match K.lookup (He.ga K "WHOLE") with
  | some ⟨_, _, .seq its _, _⟩ => (match its.toList with
    | .ref a :: _ => a
    | _ => 0)
  | _ => 0
def getB (K : PySem.W.Frag) : Bool := match K.lookup (getter K) with
  | some ⟨_, _, .func fd, _⟩ => PySem.W.codeIn K fd.code "Game.names" && He.dflB K fd.defaults []
  | _ => false
def propB (K : PySem.W.Frag) : Bool := match PySem.W.recIn K (He.ma K (He.ga K "Game") "names") "property" with
  | some (.ref _ :: _) => true
  | _ => false
def tup2B (K : PySem.W.Frag) : Bool := match K.lookup (wholeT K) with
  | some ⟨.type c, _, .seq its _, _⟩ => decide (c = "tuple") && (decide (its.size ≤ sizeLine) && He.relAll [.int 0, .int 1] its.toList)
  | _ => false
def lst1B (K : PySem.W.Frag) : Bool := match K.lookup (He.ga K "WHOLE") with
  | some ⟨.type c, none, .seq its _, _⟩ => decide (c = "list") && (decide (its.size ≤ sizeLine) && He.relAll [.ref (wholeT K)] its.toList)
  | _ => false
def moreB (K : PySem.W.Frag) : Bool := He.eqO (PySem.W.nsIn K mainGlobals "gcd") (some (some (.builtin "math.gcd"))) &&
  (He.eqO (PySem.W.findIn K (.ref (He.ga K "Game")) "names") (some (some (.ref (He.ma K (He.ga K "Game") "names")))) &&
  (He.eqO (PySem.W.specialIn K (.ref (He.ma K (He.ga K "Game") "names")) "__get__") (some (some (.builtin "property.__get__"))) &&
  (decide (PySem.W.takesIn K (.ref (He.ma K (He.ga K "Game") "names")) = some true) &&
  (propB K && (getB K && (PySem.W.keepIn K (.ref (getter K)) && (tup2B K && (lst1B K && decide (He.ga K "meetings_meetings" = He.ga K "meetings")))))))))
def getW (K : PySem.W.Frag) : He.FnW := match K.lookup (getter K) with
  | some ⟨_, _, .func fd, _⟩ => some (fd.name, fd.qualname, fd.params, fd.body, fd.scope, fd.globals, fd.closure, fd.builtins)
  | _ => none
def getV : He.FnW := some ("names", "Game.names", defArgs sNames, .stmts (defBody sNames), defScope sNames, mainGlobals, [], builtinsNs)
abbrev AlC : Type := He.AlD × (Bool × He.FnW)
def obsC (K : PySem.W.Frag) : AlC := (He.obsD fa fn K, (moreB K, getW K))
def valC : AlC := (He.valD fn, (true, getV))
def SaysC (K : PySem.W.Frag) : Prop := obsC K = valC
def obsCG (g : Addr → Option Obj) : AlC := obsC (He.frG g (He.asD g 6))
def hk : PySem.W.Hook where
  α := AlC
  obs := fun s => obsCG s.heap.get?
  val := fun _ => valC
  says := fun _ h => ∃ K : PySem.W.Frag, K.In h ∧ SaysC K
  of := fun _ _ e => ⟨_, He.frG_in, e⟩
  keeps := fun _ _ _ ⟨K, hK, c⟩ k => ⟨K, PySem.W.Frag.In.keeps hK k, c⟩
def ob (s : PySem.W.SharedT) : hk.α := obsCG (HandSHeadRun.getT s)
theorem ob_eq (s : PySem.W.SharedT) : ob s = hk.obs s.abs := by
  have e : HandSHeadRun.getT s = s.abs.heap.get? := funext fun a => HandSHeadRun.getT_eq s a
  show obsCG (HandSHeadRun.getT s) = obsCG s.abs.heap.get?
  rw [e]
/-- every other name that the top binds -/
def loose : List Str := (["_wall", "__name__", "CushionedError", "InvalidTable", "InvalidBall", "UnknownName", "InvalidQuestion", "MOST", "MOST_POCKETS", "NAME_CHARS", "MOST_NAME_CHARS", "MOST_BALLS", "MOST_CLASSES"] : List Str) ++
  (["require", "Table", "is_name", "is_ball", "check_ball", "check_balls", "inverse", "chinese", "solved", "united", "point_classes", "meeting_classes", "crossed", "is_class", "are_apart", "Times", "part_classes", "at_point", "meetings", "meetings_meetings"] : List Str) ++
  (["fall_of", "first_fall", "earlier", "Game", "_law_row", "_law_numbers", "_law_names", "_law_table", "_law_ball", "_law_walk", "_law_fall", "_law_make", "_law_balls", "_law_meets", "WHOLE"] : List Str)
end Cu
end
section
set_option Elab.async false
set_option linter.all false
set_option maxRecDepth 100000
set_option maxHeartbeats 0
namespace Cu
open PySem PySem.Spec PyProof.Rows L2
theorem run (w : World) : HandSHeadRun.RunEqI RW (PySem.W.view RW.prog [0, 57]) hk ob 4200 loose w := by
  unfold HandSHeadRun.RunEqI
  kernel_rfl
end Cu
end
section
set_option Elab.async false
set_option linter.all false
set_option maxRecDepth 100000
set_option maxHeartbeats 4000000
/-! ### what the walk leans on: facts of the top, a def as it is called -/
namespace Cu
open PySem PySem.Spec PyProof.Rows L2
abbrev aTab (K : PySem.W.Frag) : Addr := He.ga K "Table"
abbrev aTim (K : PySem.W.Frag) : Addr := He.ga K "Times"
abbrev aGam (K : PySem.W.Frag) : Addr := He.ga K "Game"
/-- facts of the module's names -/
structure Tx (K : PySem.W.Frag) (mg : Str → Option Value) : Prop where
  nolen : mg "len" = none
  noabs : mg "abs" = none
  noint : mg "int" = none
  norange : mg "range" = none
  nomax : mg "max" = none
  nomin : mg "min" = none
  noall : mg "all" = none
  noany : mg "any" = none
  notuple : mg "tuple" = none
  nolist : mg "list" = none
  noenum : mg "enumerate" = none
  nosorted : mg "sorted" = none
  noisi : mg "isinstance" = none
  gcd : mg "gcd" = some (.builtin "math.gcd")
  most : ∃ t, mg "MOST" = some (.int (10 ^ 30) t)
  mostP : ∃ t, mg "MOST_POCKETS" = some (.int 12 t)
  mostN : ∃ t, mg "MOST_NAME_CHARS" = some (.int 12 t)
  mostB : ∃ t, mg "MOST_BALLS" = some (.int 12 t)
  mostC : ∃ t, mg "MOST_CLASSES" = some (.int 64 t)
  chars : ∃ t, mg "NAME_CHARS" = some (.str "abcdefghijklmnopqrstuvwxyz0123456789" t)
  whole : mg "WHOLE" = some (.ref (He.ga K "WHOLE"))
  wholeL : ∀ H, SqL K H (He.ga K "WHOLE") [.ref (wholeT K)]
  wholeP : ∀ H, SqT K H (wholeT K) [.int 0, .int 1]
  cTab : Cls K (aTab K)
  cTim : Cls K (aTim K)
  cGam : Cls K (aGam K)
  tabW : NoAttr K (aTab K) "width"
  tabH : NoAttr K (aTab K) "height"
  tabP : NoAttr K (aTab K) "pockets"
  timS : NoAttr K (aTim K) "start"
  timE : NoAttr K (aTim K) "end"
  timC : NoAttr K (aTim K) "classes"
  gamT : NoAttr K (aGam K) "table"
  gamB : NoAttr K (aGam K) "balls"
  gamF : NoAttr K (aGam K) "falls"
/-- a def of the module as its callers meet it -/
structure Df (P : Program) (w : World) (K : PySem.W.Frag) (mg : Str → Option Value) (base : Heap) (k : Nat) (x : Str) (ps : List Str) (sp : Sp) : Prop where
  ex : ∃ f fd, FnOk P w K mg base CX0 k f fd ps sp ∧ Binds K fd ps [] ∧ PySem.W.keepIn K (.ref f) = true ∧ mg x = some (.ref f)
/-- a method -/
structure Dm (P : Program) (w : World) (K : PySem.W.Frag) (mg : Str → Option Value) (base : Heap) (k : Nat) (C : Addr) (m : Str) (ps : List Str) (sp : Sp) : Prop where
  ex : ∃ f fd, FnOk P w K mg base CX0 k f fd ps sp ∧ Binds K fd ps [] ∧ Meth K C m f
/-- a class by its __init__ -/
structure Dk (P : Program) (w : World) (K : PySem.W.Frag) (mg : Str → Option Value) (base : Heap) (k : Nat) (C : Addr) (x : Str) (ps : List Str) (sp : Sp) : Prop where
  ex : ∃ f fd, FnOk P w K mg base CX0 k f fd ps sp ∧ Binds K fd ps [] ∧ Mk K C f ∧ mg x = some (.ref C)
section
variable {X : Cx} {k j : Nat} {C : Addr} {x m : Str} {ps : List Str} {sp : Sp} {p pos apos : Pos} {e o : Expr} {es : List Expr} {ta : TE} {t : TA}
/-- f(e, ..) -/
theorem pe_df (D : Df X.prog X.w X.K X.mg X.base k x ps sp) (hr : Room j X.A) (ha : PA X (e :: es) t) (hkj : k ≤ j := by decide) (hg : Gl X x := by rfl) (hdb : (x == ("__debug__" : Str)) = false := by decide)
    (he : starEach (e :: es) X.env = (false, eval e X.env) :: starEach es X.env := by rfl) (hpl : (backTo pos (starEach es X.env)).any (·.1) = false := by rfl) :
    PE X (.Call (.Name x p) (e :: es) [] pos) (tCall sp [] E0 t) := by
  obtain ⟨f, fd, F, hb, hk, hm⟩ := D.ex
  exact pe_call F (hr.mono hkj) hg hm hk hb .nil pass0 ha hdb he hpl
/-- o.m(e, ..) -/
theorem pe_dm {pl : Sem Bool} (he : PE X o ta) (c : Cls X.K C) (D : Dm X.prog X.w X.K X.mg X.base k C m ps sp) (hr : Room j X.A) (ha : PA X (e :: es) t) (hkj : k ≤ j := by decide)
    (hst : starEach (e :: es) X.env = (false, eval e X.env) :: starEach es X.env := by rfl) (hpl : (backTo pos (starEach es X.env)).any (·.1) = false := by rfl)
    (ht : eval (.Call (.Attribute o m apos) (e :: es) [] pos) X.env = (do
      let ov ← eval o X.env
      standAt apos.atName
      let (f, first) ← holding [ov] (getMethod ov m pl)
      callWith pos f first (backTo pos (starEach (e :: es) X.env)) (backToKw pos (keywordEach [] X.env))) := by rfl) :
    PE X (.Call (.Attribute o m apos) (e :: es) [] pos) (tMeth C m sp [] E0 ta t) := by
  obtain ⟨f, fd, F, hb, hm⟩ := D.ex
  exact pe_meth (pl := pl) he c hm F (hr.mono hkj) hb .nil pass0 ha hst hpl ht
/-- C(e, ..) -/
theorem pe_dk (D : Dk X.prog X.w X.K X.mg X.base k C x ps sp) (hr : Room j X.A) (ha : PA X (e :: es) t) (hkj : k + 1 ≤ j := by decide) (hg : Gl X x := by rfl) (hdb : (x == ("__debug__" : Str)) = false := by decide)
    (he : starEach (e :: es) X.env = (false, eval e X.env) :: starEach es X.env := by rfl) (hpl : (backTo pos (starEach es X.env)).any (·.1) = false := by rfl) :
    PE X (.Call (.Name x p) (e :: es) [] pos) (tMake C sp [] E0 t) := by
  obtain ⟨f, fd, F, hb, M, hm⟩ := D.ex
  exact pe_make M F (hr.mono hkj) hg hm hb .nil pass0 ha hdb he hpl
end
section
variable {P : Program} {w : World} {K : PySem.W.Frag} {mg : Str → Option Value} {base : Heap} {k : Nat} {x m qual : Str} {C f : Addr} {fd : FuncData} {ps : List Str} {sp : Sp} {st : Stmt} {dvs : List V}
/-- a def of the text behind the top -/
abbrev FnP (K : PySem.W.Frag) (x qual : Str) (st : Stmt) (dvs : List V) (f : Addr) (fd : FuncData) : Prop := FunD K x qual (defArgs st) (defBody st) (defScope st) dvs [] f fd
/-- THE RULE for a def: its body's derivation, and the reading -/
theorem ok_of {N : List Str} (F : FnP K x qual st dvs f fd) (S : FnScope N ps (defScope st)) (len : ∀ vs H Q E, sp vs H Q E → vs.length = ps.length)
    (hbody : ∀ (cdv : Value) (A : Around) (outer : List Env) (s : Shared) (H : Hp) (vs : List V) (Q : VK) (E : XK), Room k (A.deeper (envOfC qual (defScope st) s.heap.objs.size f cdv)) → sp vs H Q E →
      ∃ t, PSs (cxOf CX0 P w K mg base N qual (defScope st) f cdv A outer s H E).nox (defBody st) t ∧ t { nx := fun _ H' => Q .non H', rt := Q } (start N vs) H) : FnOk P w K mg base CX0 (k + 1) f fd ps sp :=
  F.ok S len fun cdv A outer s H vs Q E hr h => by
    obtain ⟨t, h1, h2⟩ := hbody cdv A outer s H vs Q E hr h
    exact ⟨t, h1.nox, h2⟩
end
end Cu
end
section
set_option Elab.async false
set_option linter.all false
set_option maxRecDepth 100000
set_option maxHeartbeats 4000000
/-! ### what an expression is worth where it leaves the heap as it is -/
namespace Cu
open PySem PySem.Spec PyProof.Rows L2
def Pv (te : TE) (σ : L2.St) (H : Hp) (v : V) : Prop := ∀ Q : VK, Q v H → te σ H Q
def Pt (tt : TT) (σ : L2.St) (H : Hp) (b : Bool) : Prop := ∀ Q : Bool → Hp → Prop, Q b H → tt σ H Q
def Pa (ta : TA) (σ : L2.St) (H : Hp) (vs : List V) : Prop := ∀ Q : List V → Hp → Prop, Q vs H → ta σ H Q
def Po (to : TO) (σ : L2.St) (H : Hp) (o : Option Int) : Prop := ∀ Q : Option Int → Hp → Prop, Q o H → to σ H Q
def Rp (r : R2) (x y : V) (H : Hp) (z : V) : Prop := ∀ Q : VK, Q z H → r x y H Q
def Up (r : V → Hp → VK → Prop) (x : V) (H : Hp) (z : V) : Prop := ∀ Q : VK, Q z H → r x H Q
def Cp (r : List V → Hp → VK → Prop) (vs : List V) (H : Hp) (z : V) : Prop := ∀ Q : VK, Q z H → r vs H Q
def Mp (r : V → List V → Hp → VK → Prop) (x : V) (vs : List V) (H : Hp) (z : V) : Prop := ∀ Q : VK, Q z H → r x vs H Q
/-- the attribute x of an instance -/
def fl (fs : List (Str × V)) (x : Str) : Option V := fs.lookup x
theorem fl_put {fs : List (Str × V)} {f g : Str} {v : V} : fl (putF f v fs) g = if g = f then some v else fl fs g := lookup_putF f g v fs
section
variable {K : PySem.W.Frag} {σ : L2.St} {H : Hp} {ta tb tc te : TE} {t u : TT} {x y z v : V} {r r' : R2} {a b k l : Bool} {i j : Int}
theorem v_var {i : Nat} (h : σ[i]? = some (some v)) : Pv (tVar i) σ H v := fun Q q => ⟨v, h, q⟩
theorem v_c : Pv (tC v) σ H v := fun Q q => q
theorem v_op (ha : Pv ta σ H x) (hb : Pv tb σ H y) (hr : Rp r x y H z) : Pv (tOp r ta tb) σ H z := fun Q q => ha _ (hb _ (hr Q q))
theorem v_un {r : V → Hp → VK → Prop} (ha : Pv ta σ H x) (hr : Up r x H z) : Pv (tUn r ta) σ H z := fun Q q => ha _ (hr Q q)
theorem v_chain (ha : Pv ta σ H x) (hb : Pv tb σ H y) (hr : Rp r x y H (.bl k)) (hc : k = true → Pv tc σ H z) (hr2 : k = true → Rp r' y z H (.bl l)) : Pv (tChain r r' ta tb tc) σ H (.bl (k && l)) := fun Q q =>
  ha _ (hb _ (hr _ ⟨k, rfl, by
    cases k with
    | true => exact iteT (hc rfl _ (hr2 rfl _ q))
    | false => exact iteF q⟩))
theorem v_and (h1 : Pv ta σ H (.bl a)) (h2 : a = true → Pv tb σ H (.bl b)) : Pv (tAndV ta tb) σ H (.bl (a && b)) := fun Q q => h1 _ ⟨a, rfl, by
  cases a with
  | true => exact iteT (h2 rfl _ q)
  | false => exact iteF q⟩
theorem v_or (h1 : Pv ta σ H (.bl a)) (h2 : a = false → Pv tb σ H (.bl b)) : Pv (tOrV ta tb) σ H (.bl (a || b)) := fun Q q => h1 _ ⟨a, rfl, by
  cases a with
  | true => exact iteT q
  | false => exact iteF (h2 rfl _ q)⟩
theorem v_not (h1 : Pv ta σ H (.bl a)) : Pv (tNotV ta) σ H (.bl (!a)) := fun Q q => h1 _ ⟨a, rfl, q⟩
theorem v_if (h : Pt t σ H b) (h1 : b = true → Pv ta σ H v) (h2 : b = false → Pv tb σ H v) : Pv (tIf t ta tb) σ H v := fun Q q => h _ (by
  cases b with
  | true => exact iteT (h1 rfl _ q)
  | false => exact iteF (h2 rfl _ q))
theorem v_isN (h : Pv ta σ H x) : Pv (tIsN ta) σ H (.bl (decide (x = .non))) := fun Q q => h _ q
theorem v_notN (h : Pv ta σ H x) : Pv (tNotN ta) σ H (.bl (!decide (x = .non))) := fun Q q => h _ q
theorem v_fld {p C dx : Addr} {fs : List (Str × V)} {f : Str} (h : Pv ta σ H (.ref p)) (hp : H p = some (.ins C dx fs)) (c : Cls K C) (n : NoAttr K C f) (l : fl fs f = some v) : Pv (tFld K ta f) σ H v := fun Q q => h _ ⟨p, C, dx, fs, v, rfl, hp, c, n, l, q⟩
theorem v_cb {r : List V → Hp → VK → Prop} {ta : TA} {vs : List V} (h : Pa ta σ H vs) (hr : Cp r vs H z) : Pv (tCB r ta) σ H z := fun Q q => h _ (hr Q q)
/-- a call of a def that leaves the heap as it is -/
theorem v_call {sp : Sp} {ta : TA} {vs : List V} (h : Pa ta σ H vs) (hs : ∀ Q : VK, Q z H → sp vs H Q E0) : Pv (tCall sp [] E0 ta) σ H z := fun Q q => h _ (by rw [List.append_nil]; exact hs Q q)
theorem v_meth {C : Addr} {m : Str} {sp : Sp} {ta : TA} {to : TE} {vs : List V} {p dx : Addr} {fs : List (Str × V)} (ho : Pv to σ H (.ref p)) (hp : H p = some (.ins C dx fs)) (l : fl fs m = none) (h : Pa ta σ H vs) (hs : ∀ Q : VK, Q z H → sp (.ref p :: vs) H Q E0) : Pv (tMeth C m sp [] E0 to ta) σ H z := fun Q q =>
  ho _ ⟨p, dx, fs, rfl, hp, l, h _ (by rw [List.append_nil]; exact hs Q q)⟩
theorem v_bm {T : String} {r : V → List V → Hp → VK → Prop} {to : TE} {ta : TA} {vs : List V} (ho : Pv to σ H x) (ty : tyV K T x H) (h : Pa ta σ H vs) (hr : Mp r x vs H z) : Pv (tBM K T r to ta) σ H z := fun Q q => ho _ ⟨ty, h _ (hr Q q)⟩
theorem v_sl {r : V → Option Int → Option Int → Hp → VK → Prop} {tl th : TO} {lo hi : Option Int} (h : Pv te σ H x) (h1 : Po tl σ H lo) (h2 : Po th σ H hi) (hr : ∀ Q : VK, Q z H → r x lo hi H Q) : Pv (tSl r te tl th) σ H z := fun Q q => h _ (h1 _ (h2 _ (hr Q q)))
theorem o_none : Po tNoPart σ H none := fun Q q => q
theorem o_some (h : Pv te σ H (.int i)) : Po (tPart te) σ H (some i) := fun Q q => h _ ⟨i, rfl, q⟩
theorem a_nil : Pa tNil σ H [] := fun Q q => q
theorem a_cons {tr : TA} {vs : List V} (h : Pv ta σ H x) (hr : Pa tr σ H vs) : Pa (tCons ta tr) σ H (x :: vs) := fun Q q => h _ (hr _ q)
theorem b_test (h : Pv te σ H (.bl b)) : Pt (tTest te) σ H b := fun Q q => h _ ⟨b, rfl, q⟩
theorem b_B (h : Pv te σ H (.bl b)) : Pt (tB te) σ H b := fun Q q => h _ ⟨b, rfl, q⟩
theorem b_and (h1 : Pt t σ H a) (h2 : a = true → Pt u σ H b) : Pt (tAnd t u) σ H (a && b) := fun Q q => h1 _ (by
  cases a with
  | true => exact iteT (h2 rfl _ q)
  | false => exact iteF q)
theorem b_or (h1 : Pt t σ H a) (h2 : a = false → Pt u σ H b) : Pt (tOr t u) σ H (a || b) := fun Q q => h1 _ (by
  cases a with
  | true => exact iteT q
  | false => exact iteF (h2 rfl _ q))
theorem b_not (h1 : Pt t σ H a) : Pt (tNot t) σ H (!a) := fun Q q => h1 _ q
theorem b_truth (h : Pv ta σ H x) (ht : TruV K x H k) : Pt (fun σ H Q => ta σ H fun x H' => ∃ k, TruV K x H' k ∧ Q k H') σ H k := fun Q q => h _ ⟨k, ht, q⟩
theorem b_is {a b : Bool} (h : Pt t σ H a) (e : a = b) : Pt t σ H b := e ▸ h
theorem v_is {w : V} (h : Pv te σ H v) (e : v = w) : Pv te σ H w := e ▸ h
/-! operators by values -/
theorem r_I0 {g : Int → Int → V} : Rp (rI0 g) (.int i) (.int j) H (g i j) := fun Q q => ⟨i, j, rfl, rfl, q⟩
theorem r_I {C : Int → Int → Prop} {g : Int → Int → V} (hc : C i j) : Rp (rI C g) (.int i) (.int j) H (g i j) := fun Q q => ⟨i, j, rfl, rfl, hc, q⟩
theorem r_U {g : Int → V} : Up (rU g) (.int i) H (g i) := fun Q q => ⟨i, rfl, q⟩
theorem r_eq (h : scal x y = true) : Rp rEq x y H (.bl (decide (x = y))) := fun Q q => ⟨h, q⟩
theorem r_ne (h : scal x y = true) : Rp rNe x y H (.bl (!decide (x = y))) := fun Q q => ⟨h, q⟩
theorem r_ixL {p : Addr} {xs : List V} (h : SqL K H p xs) (ha : atI xs i = some v) : Rp (rIxL K) (.ref p) (.int i) H v := fun Q q => ⟨p, xs, i, v, rfl, rfl, h, ha, q⟩
theorem r_ixT {p : Addr} {xs : List V} (h : SqT K H p xs) (ha : atI xs i = some v) : Rp (rIxT K) (.ref p) (.int i) H v := fun Q q => ⟨p, xs, i, v, rfl, rfl, h, ha, q⟩
theorem r_ixS {w : Str} {c : Nat} (h : w.length ≤ sizeLine) (ha : atI w.cps.toList i = some c) : Rp rIxS (.str w) (.int i) H (.str ⟨#[c]⟩) := fun Q q => ⟨w, i, c, rfl, rfl, h, ha, q⟩
theorem r_inT {neg : Bool} {p : Addr} {xs : List V} (h : SqT K H p xs) (hx : flatV x = true) (ha : xs.all flatV = true) : Rp (rIn K neg) x (.ref p) H (.bl (if neg then !inV x xs else inV x xs)) := fun Q q => ⟨p, xs, rfl, Or.inr h, hx, ha, q⟩
theorem r_inL {neg : Bool} {p : Addr} {xs : List V} (h : SqL K H p xs) (hx : flatV x = true) (ha : xs.all flatV = true) : Rp (rIn K neg) x (.ref p) H (.bl (if neg then !inV x xs else inV x xs)) := fun Q q => ⟨p, xs, rfl, Or.inl h, hx, ha, q⟩
/-! ### statements -/
variable {D : Ends} {tu tw tz : TS} {g : TG}
theorem s_set {i : Nat} (h : Pv te σ H v) (k : D.nx (σ.set i (some v)) H) : tAsg te (gName i) D σ H := h _ k
theorem q_set {i : Nat} (h : Pv te σ H v) (k : tz D (σ.set i (some v)) H) : tSeq (tAsg te (gName i)) tz D σ H := h _ k
theorem s_ret (h : Pv te σ H v) (k : D.rt v H) : tRet te D σ H := h _ k
theorem s_if (h : Pt t σ H b) (h1 : b = true → tu D σ H) (h2 : b = false → tw D σ H) : tIfS t tu tw D σ H := h _ (by
  cases b with
  | true => exact iteT (h1 rfl)
  | false => exact iteF (h2 rfl))
theorem q_if (h : Pt t σ H b) (h1 : b = true → tu { D with nx := tz D } σ H) (h2 : b = false → tw { D with nx := tz D } σ H) : tSeq (tIfS t tu tw) tz D σ H := s_if (D := { D with nx := tz D }) h h1 h2
/-- if c: a way that is never gone (a raise) -/
theorem q_no (h : Pt t σ H false) (k : tz D σ H) : tSeq (tIfS t tu tNext) tz D σ H := q_if h (fun e => by cases e) fun _ => k
theorem s_no (h : Pt t σ H false) (k : D.nx σ H) : tIfS t tu tNext D σ H := s_if h (fun e => by cases e) fun _ => k
theorem q_par {i j : Nat} {ta : TA} {v w : V} (h : Pa ta σ H [v, w]) (k : tz D ((σ.set i (some v)).set j (some w)) H) : tSeq (tPar i j ta) tz D σ H := h _ ⟨v, w, rfl, k⟩
theorem s_par {i j : Nat} {ta : TA} {v w : V} (h : Pa ta σ H [v, w]) (k : D.nx ((σ.set i (some v)).set j (some w)) H) : tPar i j ta D σ H := h _ ⟨v, w, rfl, k⟩
/-- x = f(..) -/
theorem q_call {i : Nat} {sp : Sp} {ta : TA} {vs : List V} (h : Pa ta σ H vs) (k : sp vs H (fun v H1 => tz D (σ.set i (some v)) H1) E0) : tSeq (tAsg (tCall sp [] E0 ta) (gName i)) tz D σ H := h _ (by rw [List.append_nil]; exact k)
theorem s_callR {sp : Sp} {ta : TA} {vs : List V} (h : Pa ta σ H vs) (k : sp vs H D.rt E0) : tRet (tCall sp [] E0 ta) D σ H := h _ (by rw [List.append_nil]; exact k)
/-- f(..), what it gives thrown away -/
theorem q_drop {sp : Sp} {ta : TA} {vs : List V} (h : Pa ta σ H vs) (k : sp vs H (fun _ H1 => tz D σ H1) E0) : tSeq (tDrop (tCall sp [] E0 ta)) tz D σ H := h _ (by rw [List.append_nil]; exact k)
theorem s_drop {sp : Sp} {ta : TA} {vs : List V} (h : Pa ta σ H vs) (k : sp vs H (fun _ H1 => D.nx σ H1) E0) : tDrop (tCall sp [] E0 ta) D σ H := h _ (by rw [List.append_nil]; exact k)
/-- l.append(x) -/
theorem s_app {l : Addr} {xs : List V} (ho : Pv ta σ H (.ref l)) (hl : H l = some (.lst xs)) (h : Pv te σ H v) (hz : xs.length < sizeLine) (k : D.nx σ (upd H l (.lst (xs ++ [v])))) : tDrop (tBM K "list" rAppend ta (tCons te tNil)) D σ H :=
  ho _ ⟨Or.inl ⟨rfl, xs, SqL.of hl⟩, h _ ⟨l, xs, v, rfl, rfl, hl, hz, k⟩⟩
theorem q_app {l : Addr} {xs : List V} (ho : Pv ta σ H (.ref l)) (hl : H l = some (.lst xs)) (h : Pv te σ H v) (hz : xs.length < sizeLine) (k : tz D σ (upd H l (.lst (xs ++ [v])))) : tSeq (tDrop (tBM K "list" rAppend ta (tCons te tNil))) tz D σ H :=
  s_app (D := { D with nx := tz D }) ho hl h hz k
/-- a, b = x at a tuple -/
theorem q_unp {n : Nat} {t : TGs} {p : Addr} {xs : List V} (h : Pv te σ H (.ref p)) (hp : SqT K H p xs) (hn : xs.length = n) (k : t xs σ H (tz D)) : tSeq (tAsg te (gTup K n t)) tz D σ H := h _ ⟨p, xs, rfl, hp, hn, k⟩
end
/-! ### heaps -/
theorem Same.new {H : Hp} {p : Addr} {o : HO} (h : H p = none) : Same H (upd H p o) := fun a u e => by
  rw [upd_ne (ne_of_none e h)]
  exact e
/-- an object that H does not know may change -/
theorem Same.mut {H H' : Hp} {p : Addr} {o : HO} (e : Same H H') (h : H p = none) : Same H (upd H' p o) := fun a u ha => by
  rw [upd_ne (ne_of_none ha h)]
  exact e a u ha
theorem Same.tup {K : PySem.W.Frag} {H H' : Hp} {a : Addr} {xs : List V} (e : Same H H') (h : SqT K H a xs) : SqT K H' a xs := by
  rcases h with (h | ⟨o, h⟩) | h
  · exact .inl (.inl (e _ _ h))
  · exact .inl (.inr ⟨o, e _ _ h⟩)
  · exact .inr h
theorem size_of {n : Nat} (h : n ≤ 100000) : n ≤ sizeLine := Nat.le_trans h (by decide)
theorem size_lt {n : Nat} (h : n ≤ 100000) : n < sizeLine := Nat.lt_of_le_of_lt h (by decide)
end Cu
end
section
set_option Elab.async false
set_option linter.all false
set_option maxRecDepth 100000
set_option maxHeartbeats 4000000
/-! ### rules of my own: enumerate of a tuple; a tuple out of a list, known to the object; tuple.index; in over a tuple of tuples -/
namespace CuR
open PySem
open Sem (wp)
set_option maxHeartbeats 4000000 in
theorem enum_new1 {v : Value} {o : Obj} {H : Heap → Prop} (B : Begins v o H) :
    Meets (Builtin.«enumerate.__new__» ⟨[.type "enumerate", v], []⟩) (fun _ R s => H s.heap ∧
      R (.ok (.ret (.ref (s.heap.push o).objs.size))) { s with heap := (s.heap.push o).push { cls := .type "enumerate", data := .fields #[.none, .bool false, .ref s.heap.objs.size, rawInt 0, .none, .none] } }) :=
  .of_wp fun prog w A R s h => by
    obtain ⟨hp, g, d, tk, os⟩ := s
    obtain ⟨h1, h⟩ := h
    have q0 := sub_enumerate
    have qi : ∀ {A' : Around} {E : Value → Shared → Prop} {Q : Value → Shared → Prop}, Q (.ref hp.objs.size) ⟨hp.push o, g, d, tk, os⟩ → wpAny (model prog w) A' (pyIter v) Q E ⟨hp, g, d, tk, os⟩ :=
      fun q => B.iter prog w _ _ ⟨hp, g, d, tk, os⟩ _ h1 q
    wp_walk using qi
    refine wpAny_stack_any fun st => wpAny_pure ?_
    split
    · rename_i c _ _ _ _ _
      cases (c == Value.type "enumerate") <;> (wp_walk using qi; exact ⟨_, rfl, h⟩)
    · wp_walk using qi
      exact ⟨_, rfl, h⟩
section
variable {prog : Program} {w : World} {A : Around} {E : Value → Shared → Prop} {s : Shared}
theorem enum_tuple {t : Addr} {items : Array Value} {Q : Value → Shared → Prop} (ht : s.heap.IsTuple t items)
    (h : ∀ h', IsEnum h' (s.heap.objs.size + 1) s.heap.objs.size 0 .none → h'.IsTupleIter s.heap.objs.size t 0 →
      (∀ b o, s.heap.get? b = some o → h'.get? b = some o) → Q (.ref (s.heap.objs.size + 1)) { s with heap := h' }) :
    wpAny (model prog w) A (call (.type "enumerate") [.ref t]) Q E s := by
  refine callType_new F.called_enumerate (by decide) (F.typeCall_enumerate_1 _) (F.newCall_enumerate_1 _) (fun obj => F.args_object_init_2 obj _) F.entry_enumerate_new
    (enum_new1 (begins_tuple t items)) ⟨ht, ?_⟩
  have hz : (s.heap.push { cls := .type "tuple_iterator", data := .fields #[.ref t, .int 0 0] }).objs.size = s.heap.objs.size + 1 := Heap.size_push ..
  show _ ∧ _
  rw [hz]
  have he : IsEnum ((s.heap.push { cls := .type "tuple_iterator", data := .fields #[.ref t, .int 0 0] }).push { cls := .type "enumerate", data := .fields #[.none, .bool false, .ref s.heap.objs.size, rawInt 0, .none, .none] }) (s.heap.objs.size + 1) s.heap.objs.size 0 .none := by
    have q := Heap.get?_push_size (s.heap.push { cls := .type "tuple_iterator", data := .fields #[.ref t, .int 0 0] }) (o := { cls := .type "enumerate", data := .fields #[.none, .bool false, .ref s.heap.objs.size, rawInt 0, .none, .none] }) rfl
    rw [hz] at q
    exact q
  exact ⟨⟨_, he, rfl⟩, h _ he ⟨_, Heap.get?_push_of_some _ (Heap.get?_push_size _ rfl), rfl, rfl⟩ fun b o x => Heap.get?_push_of_some _ (Heap.get?_push_of_some _ x)⟩
end
end CuR
namespace Cu
open PySem PySem.Spec PyProof.Rows L2
/-! enumerate(tuple) -/
/-- the tuple at a, each item in a new pair with its number -/
def IteT (K : PySem.W.Frag) (a : Addr) : It :=
  ⟨fun i H => ∃ (xs : List V) (x : V), SqT K H a xs ∧ xs[i]? = some x, fun i H v H' => ∃ T x, v = .ref T ∧ H T = none ∧ H' = upd H T (.tup [.int (i : Nat), x]) ∧ ∀ xs, SqT K H a xs → xs[i]? = some x, fun i H => ∃ xs : List V, SqT K H a xs ∧ xs.length = i⟩
theorem turn_enumT {P : Program} {w : World} {K : PySem.W.Frag} {elts : List Expr} {kk : Nat} {tpos : Pos} (a e it : Addr) (hei : e ≠ it) (hea : e ≠ a) (hia : it ≠ a) :
    Turn P w K (.Tuple elts kk tpos) (IteT K a) [e, it] e (fun i h => (∃ old, IsEnum h e it ((i : Nat) : Int) old) ∧ h.IsTupleIter it a i) where
  mem := by simp
  obj := fun i h st b hb => by
    obtain ⟨⟨old, he⟩, ⟨o, ho, hc, hd⟩⟩ := st
    rcases (show b = e ∨ b = it by simpa using hb) with z | z
    · rw [z]; exact ⟨_, he, fun v q => nomatch q⟩
    · rw [z]; exact ⟨o, ho, fun v q => by rw [hd] at q; cases q⟩
  keep := fun i h h' st k => let ⟨⟨old, he⟩, hi⟩ := st; ⟨⟨old, k e (by simp) _ he⟩, hi.at fun o q => k it (by simp) o q⟩
  item := by
    intro X hP hw hK hc i pins s σ H E I hf st hg
    subst hP hw hK
    obtain ⟨⟨old, he⟩, hit⟩ := st
    obtain ⟨xs, x, hq, hx⟩ := hg
    obtain ⟨its, rv, p, hz⟩ := I.tuple hq
    have p' : s.heap.IsTuple a its.toArray := p
    have hel : e < s.heap.objs.size := Heap.lt_size he
    have hil : it < s.heap.objs.size := by obtain ⟨_, q, _⟩ := hit; exact Heap.lt_size q
    have hlt : i < its.toArray.size := by
      have q := (List.getElem?_eq_some_iff.mp hx).1
      have q2 := rv.length
      simp only [List.size_toArray]
      omega
    refine wpAny_pyNext_enum_itemC (Draws.tuple (show X.A.in1.handled = none from I.ok.hd hc) it a (Ne.symm hia) its.toArray) he ⟨hit, p'⟩ hlt hei (by simp [hei, hea]) fun x' h' tk hP ho st' hT hsz hk => ?_
    obtain ⟨u, hu, ru⟩ := rv.get hx
    have eu : x' = u := by
      have q1 : its.toArray[i]? = some x' := hP
      have q2 : its.toArray[i]? = some u := by simpa using hu
      rw [q2] at q1
      exact (Option.some.inj q1).symm
    subst eu
    refine ⟨_, rfl, wpAny_letOwnedTupleGo_enum (s := { s with heap := h', toks := tk + 1 }) ho fun h'' he' sb => ?_⟩
    have hT2 : h''.get? s.heap.objs.size = some { cls := .type "tuple", data := .seq #[.int i tk, x'] } := (sb.2 _ (Nat.ne_of_gt hel)).trans hT
    have new : ObjOk X.prog X.w (upd H s.heap.objs.size (.tup [.int (i : Nat), x])) h'' s.heap.objs.size (.tup [.int (i : Nat), x]) :=
      ⟨by show 2 ≤ sizeLine; decide, [.int i tk, x'], .cons ⟨_, rfl⟩ (.cons ru .nil), ⟨_, hT2, rfl, _, rfl⟩⟩
    have I1 : Inv X pins σ (upd H s.heap.objs.size (.tup [.int (i : Nat), x])) { s with heap := h'', toks := tk + 1 } :=
      I.turnedNew (ch := [e, it]) (fun b ob hb q => (sb.2 b (fun z => hb (by simp [z]))).trans (hk b ob (fun z => hb (by simp [z])) (fun z => hb (by simp [z])) q)) hf (Nat.le_refl _) new
    refine ⟨.ref s.heap.objs.size, _, I1, rfl, ⟨_, x, rfl, I.hok.fresh (Nat.le_refl _), rfl, fun ys hy => by rw [I.tuple_inj hy hq]; exact hx⟩, ⟨⟨x', ?_⟩, st'.1.at fun o q => (sb.2 it (Ne.symm hei)).trans q⟩, fun b hb => ?_⟩
    · have e1 : ((i + 1 : Nat) : Int) = (i : Int) + 1 := by omega
      rw [e1]; exact he'
    · have hb' : b < s.heap.objs.size := by
        rcases (show b = e ∨ b = it by simpa using hb) with z | z
        · rw [z]; exact hel
        · rw [z]; exact hil
      rw [upd_ne (Nat.ne_of_lt hb')]
      exact (hf b hb).1
  done := by
    intro X hP hw hK hc i pins s σ H E I hf st hg
    subst hP hw hK
    obtain ⟨⟨old, he⟩, hit⟩ := st
    obtain ⟨xs, hq, hx⟩ := hg
    obtain ⟨its, rv, p, hz⟩ := I.tuple hq
    obtain ⟨f0, f1, f2, f3, f4, f5⟩ := hf it (by simp)
    have p' : s.heap.IsTuple a its.toArray := p
    have hl : i = its.toArray.size := by
      have q := rv.length
      simp only [List.size_toArray]
      omega
    subst hl
    exact wpAny_pyNext_enum_endD (Draws.tuple (show X.A.in1.handled = none from I.ok.hd hc) it a (Ne.symm hia) its.toArray) he ⟨hit, p'⟩ fun h' eb => ⟨rfl, I.turned (t' := s.toks) (fun b o hb q => eb b o hb q) f0 f1 f3 f4 f5⟩
  self := fun A i s Q E st h => let ⟨⟨_, he⟩, _⟩ := st; wpAny_pyIter_enum he h
theorem walk_enumT {K : PySem.W.Frag} {a : Addr} {xs : List V} : Walk (IteT K a) xs.length (fun H => SqT K H a xs) (YPair (fun i => some (.int (i : Nat))) (fun i => xs[i]?)) := by
  refine ⟨fun i _ hi q => ⟨xs, xs[i], q, by simp [hi]⟩, fun _ q => ⟨xs, q, rfl⟩, fun i H v H' _ q y => ?_⟩
  obtain ⟨T, x, h1, h2, h3, h4⟩ := y
  exact ⟨T, .int (i : Nat), x, h1, h2, h3, rfl, h4 xs q⟩
def iEnumT (K : PySem.W.Frag) (ta : TA) : TI := fun σ H R => ta σ H fun vs H1 => ∃ a xs, vs = [.ref a] ∧ SqT K H1 a xs ∧ R (IteT K a) H1
theorem pi_enumT {X : Cx} {e : Expr} {ta : TA} {p pos tpos : Pos} {elts : List Expr} {kk : Nat} (hg : Gl X "enumerate") (hm : X.mg "enumerate" = none) (ha : PA X [e] ta) (hs : starEach [e] X.env = [(false, eval e X.env)] := by rfl) :
    PI X (.Tuple elts kk tpos) (.Call (.Name "enumerate" p) [e] [] pos) (iEnumT X.K ta) := by
  refine ⟨fun pins s σ H R I h => ?_⟩
  refine Call_ (ld_blt I hg hm boot_enumerate (PyProof.Rows.callWith_type1 (thn (ha.run pos pins s σ H _ I h) fun us s1 ⟨vs, H1, I1, r1, q1⟩ => ?_) hs rfl))
  obtain ⟨a, xs, ex, hq, q⟩ := q1
  subst ex
  cases r1 with
  | cons r rr =>
    cases rr
    cases r
    obtain ⟨its, rv, p', hz⟩ := I1.tuple hq
    have hal : a < s1.heap.objs.size := p'.lt
    refine CuR.enum_tuple (show s1.heap.IsTuple a its.toArray from p') fun h' he hit hk => wpAny_pyIter_enum he ?_
    have I2 : Inv X pins σ H1 { s1 with heap := h' } := I1.kept (t' := s1.toks) hk
    refine ⟨s1.heap.objs.size + 1, [s1.heap.objs.size + 1, s1.heap.objs.size], _, _, H1, rfl, I2, turn_enumT a (s1.heap.objs.size + 1) s1.heap.objs.size (Nat.succ_ne_self _) (Nat.ne_of_gt (Nat.lt_succ_of_lt hal)) (Nat.ne_of_gt hal), ⟨⟨.none, he⟩, hit⟩, fun b hb => ?_, q⟩
    have hle : s1.heap.objs.size ≤ b := by
      rcases (show b = s1.heap.objs.size + 1 ∨ b = s1.heap.objs.size by simpa using hb) with z | z
      · rw [z]; exact Nat.le_add_right _ _
      · rw [z]; exact Nat.le_refl _
    exact I1.fpOk hle (I1.hok.fresh hle)
/-! tuple(list), the new object known; t.index(x) of such a one -/
def rTupO (K : PySem.W.Frag) : List V → Hp → VK → Prop := fun vs H Q => ∃ p ys, vs = [.ref p] ∧ SqL K H p ys ∧ ∀ (l : Addr) (o : Obj), o.cls = .type "tuple" → o.dict = none → H l = none → Q (.ref l) (upd H l (.frz o (.tup ys)))
section
variable {X : Cx}
theorem call_tupO : CallR X (.type "tuple") (rTupO X.K) := by
  intro pins s σ H xs us Q I r h
  obtain ⟨p, ys, rfl, hq, q⟩ := h
  cases r with
  | cons rx rr =>
    cases rr
    cases rx
    obtain ⟨its, r', pl, hz⟩ := I.list hq
    have hlen := r'.length
    refine call_tuple_list pl.isList (fun h' kp => ?_) (by simp only [List.size_toArray]; omega)
    have I1 : Inv X pins σ H { s with heap := h' } := I.kept (t' := s.toks) kp
    have hget : (h'.push { cls := .type "tuple", data := .seq its.toArray }).get? h'.objs.size = some { cls := .type "tuple", data := .seq its.toArray } := Heap.get?_push_size _ rfl
    have I2 : Inv X pins σ (upd H h'.objs.size (.frz { cls := .type "tuple", data := .seq its.toArray } (.tup ys))) { s with heap := h'.push { cls := .type "tuple", data := .seq its.toArray } } :=
      I1.laid (t' := s.toks) (fun b o e => Heap.get?_push_of_some _ e) (Nat.le_refl _) (show ObjOk X.prog X.w _ _ _ (.frz _ (.tup ys)) from ⟨hget, hz, its, r', IsTup.new _ _⟩)
    exact ⟨.ref h'.objs.size, _, I2, rfl, q _ _ rfl rfl (I1.hok.fresh (Nat.le_refl _))⟩
/-- o.m(e, ..), o a tuple whose object is known -/
def tTM (r : V → List V → Hp → VK → Prop) (to : TE) (t : TA) : TE := fun σ H Q => to σ H fun x H1 => (∃ p o ys, x = .ref p ∧ H1 p = some (.frz o (.tup ys)) ∧ o.cls = .type "tuple" ∧ o.dict = none) ∧ t σ H1 fun xs H2 => r x xs H2 Q
theorem pe_tm {o e : Expr} {es : List Expr} {to : TE} {t : TA} {name : Str} {apos cpos : Pos} {id : String} {r : V → List V → Hp → VK → Prop} (pa : PlainAttrs "tuple") (slot : Slot "tuple" name id) (hty : typeOf (.builtin id) = pure (.type "method_descriptor")) (hm : MtR X id r) (ho : PE X o to) (ha : PA X (e :: es) t)
    (hbase : attributeBase o name X.env (eval o X.env) = eval o X.env := by rfl)
    (hfew : ((backTo cpos (starEach (e :: es) X.env)).all (fun x => !x.1) && (backToKw cpos (keywordEach [] X.env)).all (fun x => x.1.isSome)
      && decide ((e :: es).length + ([] : List Keyword).length + (if ([] : List Keyword).isEmpty then 0 else 1) < 30)) = true := by rfl)
    (hline : (apos.endLine == cpos.line) = true := by rfl) (hs : starEach (e :: es) X.env = (false, eval e X.env) :: starEach es X.env := by rfl) (hplain : (backTo cpos (starEach es X.env)).any (·.1) = false := by rfl) :
    PE X (.Call (.Attribute o name apos) (e :: es) [] cpos) (tTM r to t) := by
  refine ⟨fun pins s σ H Q I h => ?_⟩
  refine wpAny_Call_method_late hbase hfew hline rfl (thn (ho.run pins s σ H _ I h) fun v s1 ⟨x, H1, I1, r1, ty, q1⟩ => ?_)
  obtain ⟨p, ob, ys, rfl, hp, hc, hd⟩ := ty
  obtain rfl : v = Value.ref p := r1
  have hob : s1.heap.get? p = some ob := (I1.hok p _ hp).1
  refine ⟨"tuple", id, pa, slot, hty, ⟨ob, hob, hc⟩, fun a e => ?_, ?_⟩
  · cases e
    exact ⟨ob, hob, hd⟩
  · have hA := ha.run cpos pins s1 σ H1 _ I1 q1
    rw [hs] at hA ⊢
    refine Calls.callWith_builtin (by show (false || (backTo cpos (starEach es X.env)).any (·.1)) = false; rw [hplain] <;> rfl) (Calls.evalArgs_plain ?_)
    exact thn hA fun us s2 ⟨vs, H2, I2, r2, q2⟩ => hm pins s2 σ H2 (.ref p) vs _ us Q I2 rfl r2 q2
/-! x in t, x not in t, t a tuple of data of any depth -/
def rInT (K : PySem.W.Frag) : R2 := fun x y H Q => ∃ d ds, Dp K H x d ∧ Dp K H y (.tuple ds) ∧ SeqAt.shaped d = true ∧ SeqAt.shaped (.tuple ds) = true ∧ Q (.bl (ds.any fun z => PyData.eqv z d)) H
def rNotInT (K : PySem.W.Frag) : R2 := fun x y H Q => ∃ d ds, Dp K H x d ∧ Dp K H y (.tuple ds) ∧ SeqAt.shaped d = true ∧ SeqAt.shaped (.tuple ds) = true ∧ Q (.bl (!ds.any fun z => PyData.eqv z d)) H
theorem op_inT (hu : X.A.units + 65 < cLine) : OpR X (compareOp .In) (rInT X.K) := by
  intro pins s σ H x y v u Q I rx ry h
  obtain ⟨d, ds, hd, he, sd, se, q⟩ := h
  obtain ⟨as, r1⟩ := Dp.reads I d x v hd rx
  obtain ⟨bs, r2⟩ := Dp.reads I (.tuple ds) y u he ry
  exact SeqAt.in_tuple_reads r2 r1 (SeqAt.canLay_of_shaped se) (SeqAt.canLay_of_shaped sd) (room_in_shaped sd hu) ⟨.bl _, H, I, rfl, q⟩
theorem op_notInT (hu : X.A.units + 65 < cLine) : OpR X (compareOp .NotIn) (rNotInT X.K) := by
  intro pins s σ H x y v u Q I rx ry h
  obtain ⟨d, ds, hd, he, sd, se, q⟩ := h
  obtain ⟨as, r1⟩ := Dp.reads I d x v hd rx
  obtain ⟨bs, r2⟩ := Dp.reads I (.tuple ds) y u he ry
  exact SeqAt.notIn_tuple_reads r2 r1 (SeqAt.canLay_of_shaped se) (SeqAt.canLay_of_shaped sd) (room_in_shaped sd hu) ⟨.bl _, H, I, rfl, q⟩
def rTupOf (K : PySem.W.Frag) : List V → Hp → VK → Prop := fun xs H Q => ∃ p ys, xs = [.ref p] ∧ ((SqL K H p ys ∧ ∀ l, H l = none → Q (.ref l) (upd H l (.tup ys))) ∨ (SqT K H p ys ∧ Q (.ref p) H))
def rLenSq (K : PySem.W.Frag) : List V → Hp → VK → Prop := fun xs H Q => ∃ p ys, xs = [.ref p] ∧ (SqL K H p ys ∨ SqT K H p ys) ∧ Q (.int ys.length) H
/-- a property -/
structure Dn (P : Program) (w : World) (K : PySem.W.Frag) (mg : Str → Option Value) (base : Heap) (k : Nat) (C : Addr) (f : Str) (sp : Sp) : Prop where
  ex : ∃ p g fd, FnOk P w K mg base CX0 k g fd ["self"] sp ∧ Binds K fd ["self"] [] ∧ PropOf K C f p g
theorem pe_dn {k j : Nat} {C : Addr} {f : Str} {sp : Sp} {e : Expr} {ta : TE} {pos : Pos} (he : PE X e ta) (c : Cls X.K C) (D : Dn X.prog X.w X.K X.mg X.base k C f sp) (hr : Room j X.A) (hkj : k + 1 ≤ j := by decide)
    (hab : attributeBase e f X.env (eval e X.env) = eval e X.env := by rfl) : PE X (.Attribute e f pos) (tProp C sp [] E0 ta) := by
  obtain ⟨p, g, fd, F, hb, hp⟩ := D.ex
  exact pe_prop he c hp F (hr.mono hkj) hb .nil pass0 hab
theorem hu65 {k : Nat} {A : Around} (r : Room k A) : A.units + 65 < cLine := by
  have := r.un
  omega
end
end Cu
end
section
set_option Elab.async false
set_option linter.all false
set_option maxRecDepth 100000
set_option maxHeartbeats 4000000
/-! ### the plain law, part 1: classes of remainders -/
namespace CuM
theorem emod_iff {t r m : Int} (h0 : 0 ≤ r) (h1 : r < m) : t % m = r ↔ m ∣ t - r := by
  constructor
  · intro h
    refine Int.dvd_of_emod_eq_zero ?_
    rw [← h]
    have e : t % m % m = t % m := Int.emod_emod_of_dvd t (Int.dvd_refl m)
    exact Int.emod_eq_emod_iff_emod_sub_eq_zero.mp e.symm
  · intro h
    have e : t % m = r % m := Int.emod_eq_emod_iff_emod_sub_eq_zero.mpr (Int.emod_eq_zero_of_dvd h)
    rw [e]
    exact Int.emod_eq_of_lt h0 h1
/-- u is what n is to be multiplied by to leave 1 -/
def IsInv (n m u : Int) : Prop := 0 ≤ u ∧ u < m ∧ m ∣ n * u - 1
/-- between two turns of the loop -/
structure InvAt (n m l r a b : Int) : Prop where
  lp : 0 < l
  rp : 0 ≤ r
  co : Nat.gcd l.natAbs r.natAbs = 1
  dl : m ∣ a * n - l
  dr : m ∣ b * n - r
  sg : (0 ≤ a ∧ b ≤ 0 ∧ a * r - b * l = m) ∨ (a ≤ 0 ∧ 0 ≤ b ∧ b * l - a * r = m)
theorem InvAt.init {n m : Int} (hn : 0 < n) (hm : 0 < m) (hc : Nat.gcd n.natAbs m.natAbs = 1) : InvAt n m n m 1 0 where
  lp := hn
  rp := Int.le_of_lt hm
  co := hc
  dl := ⟨0, by omega⟩
  dr := ⟨-1, by omega⟩
  sg := Or.inl ⟨by omega, by omega, by omega⟩
theorem InvAt.turn {n m l r a b : Int} (h : InvAt n m l r a b) (hr : 0 < r) : InvAt n m r (l - l / r * r) b (a - l / r * b) where
  lp := hr
  rp := by
    have h1 := Int.emod_nonneg l (show r ≠ 0 by omega)
    have h2 := Int.emod_add_mul_ediv l r
    have e : l / r * r = r * (l / r) := Int.mul_comm _ _
    rw [e]
    omega
  co := by
    have h2 := Int.emod_add_mul_ediv l r
    have e : l - l / r * r = l % r := by
      have e : l / r * r = r * (l / r) := Int.mul_comm _ _
      rw [e]
      omega
    rw [e]
    have hl := h.lp
    have hc := h.co
    have e2 : (l % r).natAbs = l.natAbs % r.natAbs := by
      have : ((l.natAbs : Nat) : Int) = l := by omega
      have q : ((r.natAbs : Nat) : Int) = r := by omega
      have z : (((l.natAbs % r.natAbs : Nat)) : Int) = l % r := by
        rw [Int.natCast_emod, this, q]
      omega
    rw [e2, Nat.gcd_comm, ← Nat.gcd_rec, Nat.gcd_comm]
    exact hc
  dl := h.dr
  dr := by
    obtain ⟨x, hx⟩ := h.dl
    obtain ⟨y, hy⟩ := h.dr
    refine ⟨x - l / r * y, ?_⟩
    generalize l / r = q
    grind
  sg := by
    have hq : 0 ≤ l / r := Int.ediv_nonneg (Int.le_of_lt h.lp) (Int.le_of_lt hr)
    rcases h.sg with ⟨h1, h2, h3⟩ | ⟨h1, h2, h3⟩
    · refine Or.inr ⟨h2, ?_, ?_⟩
      · have : l / r * b ≤ 0 := Int.mul_nonpos_of_nonneg_of_nonpos hq h2
        omega
      · generalize l / r = q at *
        grind
    · refine Or.inl ⟨h2, ?_, ?_⟩
      · have : 0 ≤ l / r * b := Int.mul_nonneg hq h2
        omega
      · generalize l / r = q at *
        grind
theorem InvAt.less {n m l r a b : Int} (h : InvAt n m l r a b) (hr : 0 < r) : (l - l / r * r).toNat < r.toNat := by
  have h1 := Int.emod_lt_of_pos l hr
  have h2 := Int.emod_add_mul_ediv l r
  have h3 := Int.emod_nonneg l (show r ≠ 0 by omega)
  have e : l / r * r = r * (l / r) := Int.mul_comm _ _
  rw [e]
  omega
/-- the factors stay small -/
theorem InvAt.small {n m l r a b : Int} (h : InvAt n m l r a b) : b.natAbs ≤ m.natAbs ∧ (0 < r → a.natAbs ≤ m.natAbs) := by
  have hl := h.lp
  have hr := h.rp
  rcases h.sg with ⟨h1, h2, h3⟩ | ⟨h1, h2, h3⟩
  · have p1 : 0 ≤ a * r := Int.mul_nonneg h1 hr
    have p2 : -b ≤ -b * l := by
      have := Int.mul_le_mul_of_nonneg_left (a := 1) (b := l) (c := -b) (by omega) (by omega)
      omega
    have p3 : -b * l = -(b * l) := by grind
    refine ⟨by omega, fun hr0 => ?_⟩
    have p4 : a ≤ a * r := by
      have := Int.mul_le_mul_of_nonneg_left (a := 1) (b := r) (c := a) (by omega) (by omega)
      omega
    have p5 : 0 ≤ -b * l := Int.mul_nonneg (by omega) (by omega)
    omega
  · have p1 : 0 ≤ -a * r := Int.mul_nonneg (by omega) hr
    have p2 : b ≤ b * l := by
      have := Int.mul_le_mul_of_nonneg_left (a := 1) (b := l) (c := b) (by omega) (by omega)
      omega
    have p3 : -a * r = -(a * r) := by grind
    refine ⟨by omega, fun hr0 => ?_⟩
    have p4 : -a ≤ -a * r := by
      have := Int.mul_le_mul_of_nonneg_left (a := 1) (b := r) (c := -a) (by omega) (by omega)
      omega
    have p5 : 0 ≤ b * l := Int.mul_nonneg (by omega) (by omega)
    omega
theorem InvAt.done {n m l r a b : Int} (h : InvAt n m l r a b) (hm : 0 < m) (hr : ¬ 0 < r) : IsInv n m (a % m) := by
  have hr0 : r = 0 := by have := h.rp; omega
  have hl := h.lp
  have hc := h.co
  rw [hr0] at hc
  have l1 : l = 1 := by
    have : l.natAbs = 1 := by simpa using hc
    omega
  refine ⟨Int.emod_nonneg a (by omega), Int.emod_lt_of_pos a hm, ?_⟩
  obtain ⟨x, hx⟩ := h.dl
  refine ⟨x - n * (a / m), ?_⟩
  have e := Int.emod_add_mul_ediv a m
  rw [l1] at hx
  have ea : a % m = a - m * (a / m) := by omega
  rw [ea]
  generalize a / m = k
  grind
/-- there is one -/
theorem inv_ex : ∀ (k : Nat) (n m l r a b : Int), r.toNat = k → 0 < m → InvAt n m l r a b → ∃ u, IsInv n m u := by
  intro k
  induction k using Nat.strongRecOn with
  | ind k ih =>
    intro n m l r a b hk hm h
    by_cases hr : 0 < r
    · exact ih _ (by have := h.less hr; omega) n m _ _ _ _ rfl hm (h.turn hr)
    · exact ⟨_, h.done hm hr⟩

/-! two classes at once -/
def Gd (m1 m2 : Int) : Int := ((Nat.gcd m1.natAbs m2.natAbs : Nat) : Int)
theorem gd_pos {m1 m2 : Int} (h1 : 0 < m1) : 0 < Gd m1 m2 := by
  have : 0 < Nat.gcd m1.natAbs m2.natAbs := Nat.gcd_pos_of_pos_left _ (by omega)
  unfold Gd
  omega
theorem gd_l (m1 m2 : Int) : Gd m1 m2 ∣ m1 := by
  have h : ((Nat.gcd m1.natAbs m2.natAbs : Nat) : Int) ∣ (m1.natAbs : Int) := Int.natCast_dvd_natCast.mpr (Nat.gcd_dvd_left _ _)
  exact Int.dvd_natAbs.mp h
theorem gd_r (m1 m2 : Int) : Gd m1 m2 ∣ m2 := by
  have h : ((Nat.gcd m1.natAbs m2.natAbs : Nat) : Int) ∣ (m2.natAbs : Int) := Int.natCast_dvd_natCast.mpr (Nat.gcd_dvd_right _ _)
  exact Int.dvd_natAbs.mp h
theorem gd_le {m1 m2 : Int} (h1 : 0 < m1) : Gd m1 m2 ≤ m1 := Int.le_of_dvd h1 (gd_l m1 m2)
theorem gd_co {m1 m2 : Int} (h1 : 0 < m1) (h2 : 0 < m2) : Nat.gcd (m1 / Gd m1 m2).natAbs (m2 / Gd m1 m2).natAbs = 1 := by
  have hg : 0 < Nat.gcd m1.natAbs m2.natAbs := Nat.gcd_pos_of_pos_left _ (by omega)
  have e1 : (m1 / Gd m1 m2).natAbs = m1.natAbs / Nat.gcd m1.natAbs m2.natAbs := by
    have : m1 / Gd m1 m2 = ((m1.natAbs / Nat.gcd m1.natAbs m2.natAbs : Nat) : Int) := by
      unfold Gd
      rw [Int.natCast_ediv, show ((m1.natAbs : Nat) : Int) = m1 by omega]
    rw [this]
    rfl
  have e2 : (m2 / Gd m1 m2).natAbs = m2.natAbs / Nat.gcd m1.natAbs m2.natAbs := by
    have : m2 / Gd m1 m2 = ((m2.natAbs / Nat.gcd m1.natAbs m2.natAbs : Nat) : Int) := by
      unfold Gd
      rw [Int.natCast_ediv, show ((m2.natAbs : Nat) : Int) = m2 by omega]
    rw [this]
    rfl
  rw [e1, e2]
  exact Nat.coprime_div_gcd_div_gcd hg
theorem inv_gd {m1 m2 : Int} (h1 : 0 < m1) (h2 : 0 < m2) : ∃ u, IsInv (m1 / Gd m1 m2) (m2 / Gd m1 m2) u := by
  have hg := gd_pos (m1 := m1) (m2 := m2) h1
  have p1 : 0 < m1 / Gd m1 m2 := Int.ediv_pos_of_pos_of_dvd h1 (Int.le_of_lt hg) (gd_l _ _)
  have p2 : 0 < m2 / Gd m1 m2 := Int.ediv_pos_of_pos_of_dvd h2 (Int.le_of_lt hg) (gd_r _ _)
  exact inv_ex _ _ _ _ _ _ _ rfl p2 (InvAt.init p1 p2 (gd_co h1 h2))
theorem ring1 (g a d u b q : Int) : g * a * (d * u - b * q) = g * d * (a * u) - g * a * b * q := by grind
theorem ring2 (r1 g d b l v a q w : Int) : r1 + g * d + g * b * l - (r1 + (g * d * (1 + b * v) - g * a * b * q) - a * (g * b) * w) = g * b * (l - (d * v - a * q - a * w)) := by grind
theorem ring3 (g a b u v y z : Int) (h : a * u = 1 + b * v) (k : a * z = b * y) : g * a * z = a * (g * b) * (y * u - v * z) := by
  have e1 : z = (a * u - b * v) * z := by
    have : a * u - b * v = 1 := by omega
    rw [this]
    omega
  have e2 : (a * u - b * v) * z = b * (y * u - v * z) := by grind
  have e3 : g * a * z = g * a * (b * (y * u - v * z)) := by
    rw [← e2, ← e1]
  rw [e3]
  grind
section
variable {r1 m1 r2 m2 : Int}
theorem chin_none (h1 : 0 ≤ r1) (h2 : r1 < m1) (h3 : 0 ≤ r2) (h4 : r2 < m2) (h : (r2 - r1) % Gd m1 m2 ≠ 0) (t : Int) : ¬ (t % m1 = r1 ∧ t % m2 = r2) := by
  rintro ⟨a, b⟩
  rw [emod_iff h1 h2] at a
  rw [emod_iff h3 h4] at b
  refine h (Int.emod_eq_zero_of_dvd ?_)
  have d1 := Int.dvd_trans (gd_l m1 m2) a
  have d2 := Int.dvd_trans (gd_r m1 m2) b
  have d := Int.dvd_sub d1 d2
  have e : t - r1 - (t - r2) = r2 - r1 := by omega
  rw [e] at d
  exact d
/-- what chinese reckons -/
def chR (r1 m1 r2 m2 u : Int) : Int := (r1 + m1 * ((r2 - r1) / Gd m1 m2 * u % (m2 / Gd m1 m2))) % (m1 / Gd m1 m2 * m2)
def chM (m1 m2 : Int) : Int := m1 / Gd m1 m2 * m2
theorem chM_pos (h1 : 0 < m1) (h2 : 0 < m2) : 0 < chM m1 m2 := by
  have hg := gd_pos (m1 := m1) (m2 := m2) h1
  exact Int.mul_pos (Int.ediv_pos_of_pos_of_dvd h1 (Int.le_of_lt hg) (gd_l _ _)) h2
theorem chM_le (h1 : 0 < m1) (h2 : 0 < m2) : chM m1 m2 ≤ m1 * m2 := by
  have hg := gd_pos (m1 := m1) (m2 := m2) h1
  have h : m1 / Gd m1 m2 ≤ m1 := Int.ediv_le_self _ (by omega)
  exact Int.mul_le_mul_of_nonneg_right h (by omega)
theorem chin_some {u : Int} (h1 : 0 ≤ r1) (h2 : r1 < m1) (h3 : 0 ≤ r2) (h4 : r2 < m2) (h : (r2 - r1) % Gd m1 m2 = 0) (hu : IsInv (m1 / Gd m1 m2) (m2 / Gd m1 m2) u) :
    (0 ≤ chR r1 m1 r2 m2 u ∧ chR r1 m1 r2 m2 u < chM m1 m2) ∧ ∀ t, t % chM m1 m2 = chR r1 m1 r2 m2 u ↔ (t % m1 = r1 ∧ t % m2 = r2) := by
  have p1 : 0 < m1 := by omega
  have p2 : 0 < m2 := by omega
  have hM := chM_pos p1 p2
  have b0 : 0 ≤ chR r1 m1 r2 m2 u := Int.emod_nonneg _ (by show chM m1 m2 ≠ 0; omega)
  have b1 : chR r1 m1 r2 m2 u < chM m1 m2 := Int.emod_lt_of_pos _ hM
  refine ⟨⟨b0, b1⟩, fun t => ?_⟩
  rw [emod_iff b0 b1, emod_iff h1 h2, emod_iff h3 h4]
  have hg := gd_pos (m1 := m1) (m2 := m2) p1
  obtain ⟨a, ha⟩ := gd_l m1 m2
  obtain ⟨b, hb⟩ := gd_r m1 m2
  obtain ⟨d, hd⟩ := Int.dvd_of_emod_eq_zero h
  obtain ⟨_, _, v, hv⟩ := hu
  unfold chM chR at *
  generalize hG : Gd m1 m2 = g at *
  have ea : m1 / g = a := by rw [ha]; exact Int.mul_ediv_cancel_left a (by omega)
  have eb : m2 / g = b := by rw [hb]; exact Int.mul_ediv_cancel_left b (by omega)
  have ed : (r2 - r1) / g = d := by rw [hd]; exact Int.mul_ediv_cancel_left d (by omega)
  rw [ea, eb] at hv
  rw [ea, eb, ed]
  -- the remainder, written out
  have es := Int.emod_add_mul_ediv (d * u) b
  have eR := Int.emod_add_mul_ediv (r1 + m1 * (d * u % b)) (a * m2)
  generalize d * u % b = s at *
  generalize d * u / b = q at *
  generalize (r1 + m1 * s) / (a * m2) = w at *
  generalize (r1 + m1 * s) % (a * m2) = R at *
  have x1 : R = r1 + m1 * s - a * m2 * w := by omega
  have x2 : s = d * u - b * q := by omega
  constructor
  · rintro ⟨k, hk⟩
    constructor
    · refine ⟨s - b * w + b * k, ?_⟩
      grind
    · refine ⟨d * v - a * q - a * w + a * k, ?_⟩
      grind
  · rintro ⟨⟨k, hk⟩, ⟨l, hl⟩⟩
    -- t - R is a multiple of m1 and of m2
    clear ea eb ed hM b0 b1 h h1 h2 h3 h4 hG
    have y1 : t - R = g * a * (k - s + b * w) := by
      rw [x1]
      rw [ha] at hk ⊢
      rw [hb]
      clear hd hl ha hb x1 es eR hv
      grind
    have y2 : t - R = g * b * (l - (d * v - a * q - a * w)) := by
      have z1 : t = r1 + g * d + g * b * l := by
        rw [hb] at hl
        omega
      have z2 : a * u = 1 + b * v := by omega
      rw [z1, x1, ha, hb, x2, ring1 g a d u b q, z2]
      exact ring2 r1 g d b l v a q w
    generalize hz : k - s + b * w = z at *
    generalize hy : l - (d * v - a * q - a * w) = y at *
    have y3 : a * z = b * y := by
      have : g * (a * z) = g * (b * y) := by grind
      exact Int.eq_of_mul_eq_mul_left (by omega) this
    refine ⟨y * u - v * z, ?_⟩
    have z2 : a * u = 1 + b * v := by omega
    rw [y1, hb]
    exact ring3 g a b u v y z z2 y3
/-- two classes have a number in common where their remainders agree modulo the divisor -/
theorem apart (h1 : 0 ≤ r1) (h2 : r1 < m1) (h3 : 0 ≤ r2) (h4 : r2 < m2) (h : ∀ t, ¬ (t % m1 = r1 ∧ t % m2 = r2)) : r1 % Gd m1 m2 ≠ r2 % Gd m1 m2 := by
  intro e
  obtain ⟨u, hu⟩ := inv_gd (m1 := m1) (m2 := m2) (by omega) (by omega)
  have e2 : (r2 - r1) % Gd m1 m2 = 0 := Int.emod_eq_emod_iff_emod_sub_eq_zero.mp e.symm
  obtain ⟨⟨b0, b1⟩, k⟩ := chin_some h1 h2 h3 h4 e2 hu
  exact h _ ((k (chR r1 m1 r2 m2 u)).mp (Int.emod_eq_of_lt b0 b1))
end
end CuM
end
section
set_option Elab.async false
set_option linter.all false
set_option maxRecDepth 100000
set_option maxHeartbeats 4000000
/-! ### the plain law, part 2: lists of classes -/
namespace CuM
def Sat (cs : List (Int × Int)) (t : Int) : Prop := ∃ c, c ∈ cs ∧ t % c.2 = c.1
def Disj (cs : List (Int × Int)) : Prop := cs.Pairwise fun a b => ∀ t, ¬ (t % a.2 = a.1 ∧ t % b.2 = b.1)
/-- each a class, its modulus at most B -/
def AllOk (B : Int) (cs : List (Int × Int)) : Prop := ∀ c, c ∈ cs → 0 ≤ c.1 ∧ c.1 < c.2 ∧ c.2 ≤ B
theorem Disj.perm {a b : List (Int × Int)} (h : Disj a) (p : a.Perm b) : Disj b := List.Perm.pairwise p h fun k t z => k t ⟨z.2, z.1⟩
theorem AllOk.perm {B : Int} {a b : List (Int × Int)} (h : AllOk B a) (p : a.Perm b) : AllOk B b := fun c hc => h c (p.mem_iff.mpr hc)
theorem sat_perm {a b : List (Int × Int)} (p : a.Perm b) (t : Int) : Sat a t ↔ Sat b t := ⟨fun ⟨c, h, e⟩ => ⟨c, p.mem_iff.mp h, e⟩, fun ⟨c, h, e⟩ => ⟨c, p.mem_iff.mpr h, e⟩⟩
theorem sat_nil (t : Int) : ¬ Sat [] t := fun ⟨_, h, _⟩ => by cases h
theorem sat_append (a b : List (Int × Int)) (t : Int) : Sat (a ++ b) t ↔ Sat a t ∨ Sat b t := by
  constructor
  · rintro ⟨c, hc, e⟩
    rcases List.mem_append.mp hc with h | h
    · exact Or.inl ⟨c, h, e⟩
    · exact Or.inr ⟨c, h, e⟩
  · rintro (⟨c, hc, e⟩ | ⟨c, hc, e⟩)
    · exact ⟨c, List.mem_append_left _ hc, e⟩
    · exact ⟨c, List.mem_append_right _ hc, e⟩
theorem sat_one (c : Int × Int) (t : Int) : Sat [c] t ↔ t % c.2 = c.1 := by
  constructor
  · rintro ⟨d, hd, e⟩
    rw [List.mem_singleton] at hd
    subst hd
    exact e
  · intro e
    exact ⟨c, List.mem_singleton.mpr rfl, e⟩
theorem sat_whole (t : Int) : Sat [(0, 1)] t := (sat_one _ _).mpr (by show t % 1 = 0; omega)
theorem disj_one (c : Int × Int) : Disj [c] := List.pairwise_singleton _ _

/-! solved -/
def sol (f r m : Int) : List (Int × Int) :=
  if f = 0 then (if r % m = 0 then [(0, 1)] else [])
  else if f = 1 then [(r % m, m)]
  else if f = -1 then [(-r % m, m)]
  else if f = 2 then (if r % 2 = 1 then [] else [(r / 2 % (m / 2), m / 2)])
  else (if -r % 2 = 1 then [] else [(-r / 2 % (m / 2), m / 2)])
theorem half {m x : Int} (hm : 0 < m) (he : m % 2 = 0) (t : Int) (hx : x % 2 = 0) : t % (m / 2) = x / 2 % (m / 2) ↔ (2 * t - x) % m = 0 := by
  have h2 : 0 < m / 2 := by omega
  rw [Int.emod_eq_emod_iff_emod_sub_eq_zero]
  constructor
  · intro h
    obtain ⟨k, hk⟩ := Int.dvd_of_emod_eq_zero h
    refine Int.emod_eq_zero_of_dvd ⟨k, ?_⟩
    have e : m = 2 * (m / 2) := by omega
    have e2 : x = 2 * (x / 2) := by omega
    generalize m / 2 = a at *
    generalize x / 2 = b at *
    subst e e2
    grind
  · intro h
    obtain ⟨k, hk⟩ := Int.dvd_of_emod_eq_zero h
    refine Int.emod_eq_zero_of_dvd ⟨k, ?_⟩
    have e : m = 2 * (m / 2) := by omega
    have e2 : x = 2 * (x / 2) := by omega
    generalize m / 2 = a at *
    generalize x / 2 = b at *
    subst e e2
    have : 2 * (t - b) = 2 * (a * k) := by grind
    omega
theorem sat_sol {f r m : Int} (hm : 0 < m) (he : m % 2 = 0) (h0 : -2 ≤ f) (h1 : f ≤ 2) (t : Int) : Sat (sol f r m) t ↔ (f * t - r) % m = 0 := by
  unfold sol
  by_cases a0 : f = 0
  · rw [if_pos a0, a0]
    by_cases h : r % m = 0
    · rw [if_pos h]
      refine ⟨fun _ => ?_, fun _ => sat_whole t⟩
      have e : 0 * t - r = -r := by omega
      rw [e]
      exact Int.emod_eq_zero_of_dvd (Int.dvd_neg.mpr (Int.dvd_of_emod_eq_zero h))
    · rw [if_neg h]
      refine ⟨fun h => absurd h (sat_nil t), fun q => absurd ?_ h⟩
      have e : 0 * t - r = -r := by omega
      rw [e] at q
      exact Int.emod_eq_zero_of_dvd (Int.dvd_neg.mp (Int.dvd_of_emod_eq_zero q))
  · rw [if_neg a0]
    by_cases a1 : f = 1
    · rw [if_pos a1, a1, sat_one]
      show t % m = r % m ↔ _
      rw [Int.emod_eq_emod_iff_emod_sub_eq_zero]
      have e : 1 * t - r = t - r := by omega
      rw [e]
    · rw [if_neg a1]
      by_cases a2 : f = -1
      · rw [if_pos a2, a2, sat_one]
        show t % m = -r % m ↔ _
        rw [Int.emod_eq_emod_iff_emod_sub_eq_zero]
        have e : -1 * t - r = -(t - -r) := by omega
        rw [e]
        constructor
        · intro q
          exact Int.emod_eq_zero_of_dvd (Int.dvd_neg.mpr (Int.dvd_of_emod_eq_zero q))
        · intro q
          exact Int.emod_eq_zero_of_dvd (Int.dvd_neg.mp (Int.dvd_of_emod_eq_zero q))
      · rw [if_neg a2]
        by_cases a3 : f = 2
        · rw [if_pos a3, a3]
          by_cases h : r % 2 = 1
          · rw [if_pos h]
            refine ⟨fun h => absurd h (sat_nil t), fun q => ?_⟩
            obtain ⟨k, hk⟩ := Int.dvd_of_emod_eq_zero q
            obtain ⟨l, hl⟩ := Int.dvd_of_emod_eq_zero he
            have e : 2 * t - r = 2 * (l * k) := by rw [hk, hl]; grind
            omega
          · rw [if_neg h, sat_one]
            exact half hm he t (by omega)
        · rw [if_neg a3]
          have a4 : f = -2 := by omega
          rw [a4]
          by_cases h : -r % 2 = 1
          · rw [if_pos h]
            refine ⟨fun h => absurd h (sat_nil t), fun q => ?_⟩
            obtain ⟨k, hk⟩ := Int.dvd_of_emod_eq_zero q
            obtain ⟨l, hl⟩ := Int.dvd_of_emod_eq_zero he
            have e : -2 * t - r = 2 * (l * k) := by rw [hk, hl]; grind
            omega
          · rw [if_neg h, sat_one]
            show t % (m / 2) = -r / 2 % (m / 2) ↔ _
            rw [half hm he t (by omega)]
            have e : -2 * t - r = -(2 * t - -r) := by omega
            rw [e]
            constructor
            · intro q
              exact Int.emod_eq_zero_of_dvd (Int.dvd_neg.mpr (Int.dvd_of_emod_eq_zero q))
            · intro q
              exact Int.emod_eq_zero_of_dvd (Int.dvd_neg.mp (Int.dvd_of_emod_eq_zero q))
theorem sol_len (f r m : Int) : (sol f r m).length ≤ 1 := by
  unfold sol
  repeat' split
  all_goals simp
/-- the modulus of a solution -/
def md (f m : Int) : Int := if f.natAbs = 2 then m / 2 else m
theorem sol_mod {f r m : Int} (hm : 0 < m) (he : m % 2 = 0) (h0 : -2 ≤ f) (h1 : f ≤ 2) {c : Int × Int} (hc : c ∈ sol f r m) : (f = 0 ∧ c = (0, 1)) ∨ (f ≠ 0 ∧ c.2 = md f m ∧ 0 ≤ c.1 ∧ c.1 < c.2) := by
  unfold sol at hc
  by_cases a0 : f = 0
  · rw [if_pos a0] at hc
    split at hc
    · rw [List.mem_singleton] at hc
      exact Or.inl ⟨a0, hc⟩
    · cases hc
  · rw [if_neg a0] at hc
    refine Or.inr ⟨a0, ?_⟩
    have pos : ∀ x k : Int, 0 < k → 0 ≤ x % k ∧ x % k < k := fun x k hk => ⟨Int.emod_nonneg x (by omega), Int.emod_lt_of_pos x hk⟩
    have h2 : 0 < m / 2 := by omega
    by_cases a1 : f = 1
    · rw [if_pos a1, List.mem_singleton] at hc
      subst hc a1
      exact ⟨rfl, pos _ _ hm⟩
    · rw [if_neg a1] at hc
      by_cases a2 : f = -1
      · rw [if_pos a2, List.mem_singleton] at hc
        subst hc a2
        exact ⟨rfl, pos _ _ hm⟩
      · rw [if_neg a2] at hc
        by_cases a3 : f = 2
        · rw [if_pos a3] at hc
          split at hc
          · cases hc
          · rw [List.mem_singleton] at hc
            subst hc a3
            exact ⟨rfl, pos _ _ h2⟩
        · rw [if_neg a3] at hc
          have a4 : f = -2 := by omega
          split at hc
          · cases hc
          · rw [List.mem_singleton] at hc
            subst hc a4
            exact ⟨rfl, pos _ _ h2⟩

/-! united -/
def Uni (one other cs : List (Int × Int)) : Prop := (((0, 1) ∈ one ∨ (0, 1) ∈ other) ∧ cs = [(0, 1)]) ∨
  (¬ ((0, 1) ∈ one ∨ (0, 1) ∈ other) ∧ cs.Nodup ∧ (∀ c, c ∈ cs ↔ c ∈ one ∨ c ∈ other) ∧ cs.length ≤ one.length + other.length)
theorem Uni.sat {one other cs : List (Int × Int)} (h : Uni one other cs) (t : Int) : Sat cs t ↔ Sat one t ∨ Sat other t := by
  rcases h with ⟨h, e⟩ | ⟨h, _, k, _⟩
  · subst e
    refine ⟨fun _ => ?_, fun _ => sat_whole t⟩
    rcases h with h | h
    · exact Or.inl ⟨_, h, by show t % 1 = 0; omega⟩
    · exact Or.inr ⟨_, h, by show t % 1 = 0; omega⟩
  · constructor
    · rintro ⟨c, hc, e⟩
      rcases (k c).mp hc with q | q
      · exact Or.inl ⟨c, q, e⟩
      · exact Or.inr ⟨c, q, e⟩
    · rintro (⟨c, hc, e⟩ | ⟨c, hc, e⟩)
      · exact ⟨c, (k c).mpr (Or.inl hc), e⟩
      · exact ⟨c, (k c).mpr (Or.inr hc), e⟩
/-- what the classes of a part are -/
structure Cl (B : Int) (cs : List (Int × Int)) (P : Int → Prop) : Prop where
  sat : ∀ t, Sat cs t ↔ P t
  dj : Disj cs
  ok : AllOk B cs
  len : cs.length ≤ 2
theorem uni_sol {f1 r1 f2 r2 m : Int} {cs : List (Int × Int)} (hm : 0 < m) (he : m % 2 = 0) (a0 : -2 ≤ f1) (a1 : f1 ≤ 2) (b0 : -2 ≤ f2) (b1 : f2 ≤ 2) (hf : f1.natAbs = f2.natAbs ∨ f1 = 0 ∨ f2 = 0)
    (h : Uni (sol f1 r1 m) (sol f2 r2 m) cs) : Cl m cs fun t => (f1 * t - r1) % m = 0 ∨ (f2 * t - r2) % m = 0 := by
  refine ⟨fun t => ?_, ?_, ?_, ?_⟩
  · rw [h.sat, sat_sol hm he a0 a1, sat_sol hm he b0 b1]
  · rcases h with ⟨_, e⟩ | ⟨hw, nd, k, _⟩
    · subst e
      exact disj_one _
    · -- all of one modulus
      have one : ∃ M, ∀ c, c ∈ cs → c.2 = M := by
        have n1 : ∀ c, c ∈ sol f1 r1 m → f1 ≠ 0 ∧ c.2 = md f1 m := fun c hc => by
          rcases sol_mod hm he a0 a1 hc with ⟨_, e⟩ | ⟨e, e2, _⟩
          · exact absurd (Or.inl (e ▸ hc)) hw
          · exact ⟨e, e2⟩
        have n2 : ∀ c, c ∈ sol f2 r2 m → f2 ≠ 0 ∧ c.2 = md f2 m := fun c hc => by
          rcases sol_mod hm he b0 b1 hc with ⟨_, e⟩ | ⟨e, e2, _⟩
          · exact absurd (Or.inr (e ▸ hc)) hw
          · exact ⟨e, e2⟩
        rcases hf with q | q | q
        · refine ⟨md f1 m, fun c hc => ?_⟩
          rcases (k c).mp hc with z | z
          · exact (n1 c z).2
          · have e := (n2 c z).2
            unfold md at *
            rw [q]
            exact e
        · refine ⟨md f2 m, fun c hc => ?_⟩
          rcases (k c).mp hc with z | z
          · exact absurd q (n1 c z).1
          · exact (n2 c z).2
        · refine ⟨md f1 m, fun c hc => ?_⟩
          rcases (k c).mp hc with z | z
          · exact (n1 c z).2
          · exact absurd q (n2 c z).1
      obtain ⟨M, hM⟩ := one
      have nd' : cs.Pairwise (· ≠ ·) := nd
      refine List.Pairwise.imp_of_mem (fun {a b} ha hb hne t z => hne ?_) nd'
      have e1 := hM a ha
      have e2 := hM b hb
      rw [e1, e2] at z
      exact Prod.ext (z.1.symm.trans z.2) (e1.trans e2.symm)
  · intro c hc
    have fin : ∀ f r, -2 ≤ f → f ≤ 2 → c ∈ sol f r m → 0 ≤ c.1 ∧ c.1 < c.2 ∧ c.2 ≤ m := fun f r z0 z1 q => by
      rcases sol_mod hm he z0 z1 q with ⟨_, e⟩ | ⟨_, e2, e3, e4⟩
      · rw [e]
        exact ⟨by decide, by decide, by show (1 : Int) ≤ m; omega⟩
      · refine ⟨e3, e4, ?_⟩
        rw [e2]
        unfold md
        split <;> omega
    rcases h with ⟨_, e⟩ | ⟨_, _, k, _⟩
    · subst e
      rw [List.mem_singleton] at hc
      rw [hc]
      exact ⟨by decide, by decide, by show (1 : Int) ≤ m; omega⟩
    · rcases (k c).mp hc with z | z
      · exact fin _ _ a0 a1 z
      · exact fin _ _ b0 b1 z
  · rcases h with ⟨_, e⟩ | ⟨_, _, _, k⟩
    · subst e
      show 1 ≤ 2
      omega
    · have := sol_len f1 r1 m
      have := sol_len f2 r2 m
      omega

/-! a Times -/
def within (a : Int) (e : Option Int) (t : Int) : Bool := decide (a ≤ t) && (match e with
  | none => true
  | some z => decide (t ≤ z))
def IsNext (cs : List (Int × Int)) (a t : Int) : Prop := a ≤ t ∧ Sat cs t ∧ ∀ u, a ≤ u → Sat cs u → t ≤ u
def nx (a : Int) (c : Int × Int) : Int := a + (c.1 - a) % c.2
theorem nx_ge {a : Int} {c : Int × Int} (h0 : 0 ≤ c.1) (h1 : c.1 < c.2) : a ≤ nx a c := by
  have := Int.emod_nonneg (c.1 - a) (show c.2 ≠ 0 by omega)
  unfold nx
  omega
theorem nx_in {a : Int} {c : Int × Int} (h0 : 0 ≤ c.1) (h1 : c.1 < c.2) : nx a c % c.2 = c.1 := by
  rw [emod_iff h0 h1]
  have e := Int.emod_add_mul_ediv (c.1 - a) c.2
  refine ⟨-((c.1 - a) / c.2), ?_⟩
  unfold nx
  have : c.2 * -((c.1 - a) / c.2) = -(c.2 * ((c.1 - a) / c.2)) := by grind
  omega
theorem nx_le {a : Int} {c : Int × Int} (h0 : 0 ≤ c.1) (h1 : c.1 < c.2) {u : Int} (hu : a ≤ u) (h : u % c.2 = c.1) : nx a c ≤ u := by
  have e := Int.emod_add_mul_ediv (u - a) c.2
  have e2 : (u - a) % c.2 = (c.1 - a) % c.2 := by
    rw [Int.emod_eq_emod_iff_emod_sub_eq_zero]
    have q := (emod_iff h0 h1).mp h
    refine Int.emod_eq_zero_of_dvd ?_
    have z : u - a - (c.1 - a) = u - c.1 := by omega
    rw [z]
    exact q
  have e3 : 0 ≤ (u - a) / c.2 := Int.ediv_nonneg (by omega) (by omega)
  have e4 : 0 ≤ c.2 * ((u - a) / c.2) := Int.mul_nonneg (by omega) e3
  unfold nx
  omega
theorem next_of {cs : List (Int × Int)} {a m : Int} (hk : ∀ c, c ∈ cs → 0 ≤ c.1 ∧ c.1 < c.2) (hm : m ∈ cs.map (nx a)) (hl : ∀ y, y ∈ cs.map (nx a) → m ≤ y) : IsNext cs a m := by
  obtain ⟨c, hc, e⟩ := List.mem_map.mp hm
  obtain ⟨h0, h1⟩ := hk c hc
  subst e
  refine ⟨nx_ge h0 h1, ⟨c, hc, nx_in h0 h1⟩, ?_⟩
  rintro u hu ⟨d, hd, e⟩
  obtain ⟨g0, g1⟩ := hk d hd
  exact Int.le_trans (hl _ (List.mem_map.mpr ⟨d, hd, rfl⟩)) (nx_le g0 g1 hu e)
theorem IsNext.uniq {cs : List (Int × Int)} {a t u : Int} (h : IsNext cs a t) (k : IsNext cs a u) : t = u := by
  have h1 := h.2.2 u k.1 k.2.1
  have h2 := k.2.2 t h.1 h.2.1
  omega
end CuM
end
section
set_option Elab.async false
set_option linter.all false
set_option maxRecDepth 100000
set_option maxHeartbeats 4000000
/-! ### the plain law, part 3: balls -/
namespace CuM
/-- two unfolded places fold to one -/
def On (w U V : Int) : Prop := (U - V) % (2 * w) = 0 ∨ (U + V) % (2 * w) = 0
def un (a d m t : Int) : Int := a - d * m + d * t
theorem on_dvd {w U V : Int} : On w U V ↔ (2 * w ∣ U - V) ∨ (2 * w ∣ U + V) := by
  unfold On
  constructor
  · rintro (h | h)
    · exact Or.inl (Int.dvd_of_emod_eq_zero h)
    · exact Or.inr (Int.dvd_of_emod_eq_zero h)
  · rintro (h | h)
    · exact Or.inl (Int.emod_eq_zero_of_dvd h)
    · exact Or.inr (Int.emod_eq_zero_of_dvd h)
/-! the walk of one part -/
def tn (w : Int) (s : Int × Int) : Int × Int := if s.1 + s.2 < 0 ∨ s.1 + s.2 > w then (s.1 + -s.2, -s.2) else (s.1 + s.2, s.2)
def wk (w : Int) : Nat → Int × Int → Int × Int
  | 0, s => s
  | n + 1, s => tn w (wk w n s)
def Step (d : Int) : Prop := d = -1 ∨ d = 0 ∨ d = 1
theorem wk_at {w x d : Int} (hw : 1 ≤ w) (h0 : 0 ≤ x) (h1 : x ≤ w) (hd : Step d) : ∀ k : Nat, 0 ≤ (wk w k (x, d)).1 ∧ (wk w k (x, d)).1 ≤ w ∧
    (((wk w k (x, d)).2 = d ∧ 2 * w ∣ (wk w k (x, d)).1 - (x + d * k)) ∨ ((wk w k (x, d)).2 = -d ∧ 2 * w ∣ (wk w k (x, d)).1 + (x + d * k))) := by
  intro k
  induction k with
  | zero =>
    refine ⟨h0, h1, Or.inl ⟨rfl, 0, ?_⟩⟩
    show x - (x + d * ((0 : Nat) : Int)) = 2 * w * 0
    simp
  | succ k ih =>
    have ek : wk w (k + 1) (x, d) = tn w (wk w k (x, d)) := rfl
    rw [ek]
    generalize wk w k (x, d) = s at *
    obtain ⟨p, e⟩ := s
    simp only at ih ⊢
    obtain ⟨i0, i1, ih⟩ := ih
    have eU : x + d * ((k + 1 : Nat) : Int) = x + d * k + d := by
      rw [Int.natCast_add]
      grind
    rw [eU]
    generalize x + d * (k : Int) = U at *
    unfold tn
    simp only
    unfold Step at hd
    by_cases hf : p + e < 0 ∨ p + e > w
    · rw [if_pos hf]
      simp only
      rcases ih with ⟨e1, c, hc⟩ | ⟨e1, c, hc⟩
      · refine ⟨by omega, by omega, Or.inr ⟨by omega, ?_⟩⟩
        have z : p = 0 ∨ p = w := by omega
        rcases z with z | z
        · exact ⟨-c, by rw [show 2 * w * -c = -(2 * w * c) by grind]; omega⟩
        · exact ⟨1 - c, by rw [show 2 * w * (1 - c) = 2 * w - 2 * w * c by grind]; omega⟩
      · refine ⟨by omega, by omega, Or.inl ⟨by omega, ?_⟩⟩
        have z : p = 0 ∨ p = w := by omega
        rcases z with z | z
        · exact ⟨-c, by rw [show 2 * w * -c = -(2 * w * c) by grind]; omega⟩
        · exact ⟨1 - c, by rw [show 2 * w * (1 - c) = 2 * w - 2 * w * c by grind]; omega⟩
    · rw [if_neg hf]
      simp only
      rcases ih with ⟨e1, c, hc⟩ | ⟨e1, c, hc⟩
      · exact ⟨by omega, by omega, Or.inl ⟨by omega, c, by omega⟩⟩
      · exact ⟨by omega, by omega, Or.inr ⟨by omega, c, by omega⟩⟩
theorem small_dvd {w z : Int} (hw : 1 ≤ w) (h0 : -w ≤ z) (h1 : z ≤ w) (h : 2 * w ∣ z) : z = 0 := by
  obtain ⟨c, hc⟩ := h
  have : c = 0 := by
    by_cases c0 : c = 0
    · exact c0
    · exfalso
      by_cases c1 : 1 ≤ c
      · have := Int.mul_le_mul_of_nonneg_left (a := 1) (b := c) (c := 2 * w) c1 (by omega)
        omega
      · have := Int.mul_le_mul_of_nonneg_left (a := c) (b := -1) (c := 2 * w) (by omega) (by omega)
        omega
  rw [this] at hc
  omega
theorem big_dvd {w z : Int} (hw : 1 ≤ w) (h0 : 0 ≤ z) (h1 : z ≤ 2 * w) (h : 2 * w ∣ z) : z = 0 ∨ z = 2 * w := by
  obtain ⟨c, hc⟩ := h
  have : c = 0 ∨ c = 1 := by
    by_cases c1 : c ≤ -1
    · have := Int.mul_le_mul_of_nonneg_left (a := c) (b := -1) (c := 2 * w) c1 (by omega)
      omega
    · by_cases c2 : 2 ≤ c
      · have := Int.mul_le_mul_of_nonneg_left (a := 2) (b := c) (c := 2 * w) c2 (by omega)
        omega
      · omega
  rcases this with e | e
  · rw [e] at hc
    omega
  · rw [e] at hc
    omega
theorem fold_eq {w p q U : Int} (hw : 1 ≤ w) (p0 : 0 ≤ p) (p1 : p ≤ w) (q0 : 0 ≤ q) (q1 : q ≤ w) (h : 2 * w ∣ p - U ∨ 2 * w ∣ p + U) : p = q ↔ On w U q := by
  rw [on_dvd]
  constructor
  · intro e
    subst e
    rcases h with h | h
    · have := Int.dvd_neg.mpr h
      exact Or.inl (by rw [show U - p = -(p - U) by omega]; exact this)
    · exact Or.inr (by rw [show U + p = p + U by omega]; exact h)
  · have minus : 2 * w ∣ p - q → p = q := fun z => by
      have := small_dvd hw (by omega) (by omega) z
      omega
    have plus : 2 * w ∣ p + q → p = q := fun z => by
      rcases big_dvd hw (by omega) (by omega) z with e | e <;> omega
    rintro (k | k) <;> rcases h with h | h
    · exact minus (by rw [show p - q = p - U + (U - q) by omega]; exact Int.dvd_add h k)
    · exact plus (by rw [show p + q = p + U - (U - q) by omega]; exact Int.dvd_sub h k)
    · exact plus (by rw [show p + q = p - U + (U + q) by omega]; exact Int.dvd_add h k)
    · exact minus (by rw [show p - q = p + U - (U + q) by omega]; exact Int.dvd_sub h k)
theorem on_swap {w U V : Int} : On w U V ↔ On w V U := by
  rw [on_dvd, on_dvd]
  have e1 : V - U = -(U - V) := by omega
  have e2 : V + U = U + V := by omega
  rw [e1, e2, Int.dvd_neg]
theorem on_trans {w U q V : Int} (h : 2 * w ∣ q - V ∨ 2 * w ∣ q + V) : On w U q ↔ On w U V := by
  rw [on_dvd, on_dvd]
  constructor
  · rintro (k | k) <;> rcases h with h | h
    · exact Or.inl (by rw [show U - V = U - q + (q - V) by omega]; exact Int.dvd_add k h)
    · exact Or.inr (by rw [show U + V = U - q + (q + V) by omega]; exact Int.dvd_add k h)
    · exact Or.inr (by rw [show U + V = U + q - (q - V) by omega]; exact Int.dvd_sub k h)
    · exact Or.inl (by rw [show U - V = U + q - (q + V) by omega]; exact Int.dvd_sub k h)
  · rintro (k | k) <;> rcases h with h | h
    · exact Or.inl (by rw [show U - q = U - V - (q - V) by omega]; exact Int.dvd_sub k h)
    · exact Or.inr (by rw [show U + q = U - V + (q + V) by omega]; exact Int.dvd_add k h)
    · exact Or.inr (by rw [show U + q = U + V + (q - V) by omega]; exact Int.dvd_add k h)
    · exact Or.inl (by rw [show U - q = U + V - (q + V) by omega]; exact Int.dvd_sub k h)
theorem un_walk (a d m : Int) (k : Nat) : un a d m (m + k) = a + d * k := by
  unfold un
  grind
/-- where the walk is, by the unfolded place -/
theorem wk_pos {w x d q m : Int} (hw : 1 ≤ w) (h0 : 0 ≤ x) (h1 : x ≤ w) (hd : Step d) (q0 : 0 ≤ q) (q1 : q ≤ w) (k : Nat) : (wk w k (x, d)).1 = q ↔ On w (un x d m (m + k)) q := by
  obtain ⟨a, b, c⟩ := wk_at hw h0 h1 hd k
  rw [un_walk]
  exact fold_eq hw a b q0 q1 (by rcases c with ⟨_, c⟩ | ⟨_, c⟩; exact Or.inl c; exact Or.inr c)
theorem wk_two {w x d m x2 d2 m2 : Int} (hw : 1 ≤ w) (h0 : 0 ≤ x) (h1 : x ≤ w) (hd : Step d) (g0 : 0 ≤ x2) (g1 : x2 ≤ w) (gd : Step d2) (k l : Nat) :
    (wk w k (x, d)).1 = (wk w l (x2, d2)).1 ↔ On w (un x d m (m + k)) (un x2 d2 m2 (m2 + l)) := by
  obtain ⟨a, b, c⟩ := wk_at hw g0 g1 gd l
  rw [wk_pos (m := m) hw h0 h1 hd a b k, un_walk x2]
  exact on_trans (by rcases c with ⟨_, c⟩ | ⟨_, c⟩; exact Or.inl c; exact Or.inr c)
/-! enlarged -/
theorem mul_dvd_iff {F a b : Int} (hF : 0 < F) : a * F ∣ b * F ↔ a ∣ b := by
  constructor
  · rintro ⟨c, hc⟩
    exact ⟨c, Int.eq_of_mul_eq_mul_right (a := F) (by omega) (by rw [hc]; grind)⟩
  · rintro ⟨c, hc⟩
    exact ⟨c, by rw [hc]; grind⟩
theorem on_scale {F w U V : Int} (hF : 0 < F) : On (w * F) (U * F) (V * F) ↔ On w U V := by
  rw [on_dvd, on_dvd]
  have e0 : 2 * (w * F) = 2 * w * F := by grind
  have e1 : U * F - V * F = (U - V) * F := by grind
  have e2 : U * F + V * F = (U + V) * F := by grind
  rw [e0, e1, e2, mul_dvd_iff hF, mul_dvd_iff hF]
theorem un_scale (F a d m t : Int) : un (a * F) d (m * F) (t * F) = un a d m t * F := by
  unfold un
  grind
theorem un_still (F a m t u : Int) : un (a * F) 0 (m * F) t = un a 0 m u * F := by
  unfold un
  grind
/-- a part that moves is at an enlarged place at an enlarged minute alone -/
theorem on_mult {F w a d m t V : Int} (hd : Step d) (hd0 : d ≠ 0) (h : On (w * F) (un (a * F) d (m * F) t) (V * F)) : ∃ u, t = u * F := by
  rw [on_dvd] at h
  have fin : ∀ z : Int, F ∣ d * t - z * F → ∃ u, t = u * F := fun z ⟨c, hc⟩ => by
    unfold Step at hd
    rcases hd with e | e | e
    · refine ⟨-(c + z), ?_⟩
      subst e
      grind
    · exact absurd e hd0
    · refine ⟨c + z, ?_⟩
      subst e
      grind
  rcases h with ⟨c, hc⟩ | ⟨c, hc⟩
  · refine fin (V - a + d * m) ⟨2 * w * c, ?_⟩
    unfold un at hc
    grind
  · refine fin (-V - a + d * m) ⟨2 * w * c, ?_⟩
    unfold un at hc
    grind
theorem on_period {w a d m t j V : Int} : On w (un a d m (t + 2 * w * j)) V ↔ On w (un a d m t) V := by
  rw [on_dvd, on_dvd]
  have e1 : un a d m (t + 2 * w * j) - V = un a d m t - V + 2 * w * (d * j) := by
    unfold un
    grind
  have e2 : un a d m (t + 2 * w * j) + V = un a d m t + V + 2 * w * (d * j) := by
    unfold un
    grind
  have k : ∀ z : Int, 2 * w ∣ z + 2 * w * (d * j) ↔ 2 * w ∣ z := fun z => by
    constructor
    · rintro ⟨c, hc⟩
      exact ⟨c - d * j, by rw [Int.mul_sub]; omega⟩
    · rintro ⟨c, hc⟩
      exact ⟨c + d * j, by rw [Int.mul_add]; omega⟩
  rw [e1, e2, k, k]
/-! balls -/
structure Ball where
  x : Int
  y : Int
  dx : Int
  dy : Int
  m : Int
structure Ball.Ok (w h : Int) (b : Ball) : Prop where
  x0 : 0 ≤ b.x
  x1 : b.x ≤ w
  y0 : 0 ≤ b.y
  y1 : b.y ≤ h
  sx : Step b.dx
  sy : Step b.dy
  mv : ¬ (b.dx = 0 ∧ b.dy = 0)
  m0 : 0 ≤ b.m
def Ball.sc (F : Int) (b : Ball) : Ball := ⟨b.x * F, b.y * F, b.dx, b.dy, b.m * F⟩
def hit (w h : Int) (b : Ball) (p : Int × Int) (t : Int) : Prop := On w (un b.x b.dx b.m t) p.1 ∧ On h (un b.y b.dy b.m t) p.2
def hits (w h : Int) (b : Ball) (pk : List (Int × Int)) (t : Int) : Prop := ∃ p, p ∈ pk ∧ hit w h b p t
def meet (w h : Int) (b c : Ball) (t : Int) : Prop := On w (un b.x b.dx b.m t) (un c.x c.dx c.m t) ∧ On h (un b.y b.dy b.m t) (un c.y c.dy c.m t)
/-- o is the minute at which the ball falls -/
def IsFall (w h : Int) (pk : List (Int × Int)) (b : Ball) : Option Int → Prop
  | none => ∀ t, b.m ≤ t → ¬ hits w h b pk t
  | some t => b.m ≤ t ∧ hits w h b pk t ∧ ∀ u, b.m ≤ u → hits w h b pk u → t ≤ u
theorem IsFall.uniq {w h : Int} {pk : List (Int × Int)} {b : Ball} {o q : Option Int} (a : IsFall w h pk b o) (c : IsFall w h pk b q) : o = q := by
  cases o with
  | none => cases q with
    | none => rfl
    | some t => exact absurd c.2.1 (a t c.1)
  | some t => cases q with
    | none => exact absurd a.2.1 (c t a.1)
    | some u =>
      have h1 := a.2.2 u c.1 c.2.1
      have h2 := c.2.2 t a.1 a.2.1
      exact congrArg some (by omega)
def scP (F : Int) (pk : List (Int × Int)) : List (Int × Int) := pk.map fun p => (p.1 * F, p.2 * F)
section
variable {F w h : Int} {b c : Ball} {pk : List (Int × Int)}
theorem hit_scale (hF : 0 < F) (p : Int × Int) (u : Int) : hit (w * F) (h * F) (b.sc F) (p.1 * F, p.2 * F) (u * F) ↔ hit w h b p u := by
  unfold hit Ball.sc
  simp only
  rw [un_scale, un_scale, on_scale hF, on_scale hF]
theorem hits_scale (hF : 0 < F) (u : Int) : hits (w * F) (h * F) (b.sc F) (scP F pk) (u * F) ↔ hits w h b pk u := by
  constructor
  · rintro ⟨p, hp, k⟩
    obtain ⟨q, hq, e⟩ := List.mem_map.mp hp
    subst e
    exact ⟨q, hq, (hit_scale hF q u).mp k⟩
  · rintro ⟨p, hp, k⟩
    exact ⟨_, List.mem_map.mpr ⟨p, hp, rfl⟩, (hit_scale hF p u).mpr k⟩
theorem hits_mult (ok : b.Ok w h) {t : Int} (k : hits (w * F) (h * F) (b.sc F) (scP F pk) t) : ∃ u, t = u * F := by
  obtain ⟨p, hp, k1, k2⟩ := k
  obtain ⟨q, hq, e⟩ := List.mem_map.mp hp
  subst e
  by_cases hx : b.dx = 0
  · have hy : b.dy ≠ 0 := fun e => ok.mv ⟨hx, e⟩
    exact on_mult ok.sy hy k2
  · exact on_mult ok.sx hx k1
theorem fall_scale (hF : 0 < F) (ok : b.Ok w h) {o : Option Int} (k : IsFall w h pk b o) : IsFall (w * F) (h * F) (scP F pk) (b.sc F) (o.map (· * F)) := by
  have le : ∀ u v : Int, u * F ≤ v * F ↔ u ≤ v := fun u v => Int.mul_le_mul_right hF
  cases o with
  | none =>
    intro t ht q
    obtain ⟨u, e⟩ := hits_mult ok q
    subst e
    exact k u ((le _ _).mp ht) ((hits_scale hF u).mp q)
  | some t =>
    refine ⟨(le _ _).mpr k.1, (hits_scale hF t).mpr k.2.1, fun u hu q => ?_⟩
    obtain ⟨v, e⟩ := hits_mult ok q
    subst e
    exact (le _ _).mpr (k.2.2 v ((le _ _).mp hu) ((hits_scale hF v).mp q))
theorem meet_scale (hF : 0 < F) (u : Int) : meet (w * F) (h * F) (b.sc F) (c.sc F) (u * F) ↔ meet w h b c u := by
  unfold meet Ball.sc
  simp only
  rw [un_scale, un_scale, un_scale, un_scale, on_scale hF, on_scale hF]
/-! periods -/
theorem hit_period (p : Int × Int) (t j : Int) : hit w h b p (t + 4 * w * h * j) ↔ hit w h b p t := by
  unfold hit
  rw [show t + 4 * w * h * j = t + 2 * w * (2 * h * j) by grind, on_period, show t + 2 * w * (2 * h * j) = t + 2 * h * (2 * w * j) by grind, on_period]
theorem hits_period (t j : Int) : hits w h b pk (t + 4 * w * h * j) ↔ hits w h b pk t := by
  constructor
  · rintro ⟨p, hp, k⟩
    exact ⟨p, hp, (hit_period p t j).mp k⟩
  · rintro ⟨p, hp, k⟩
    exact ⟨p, hp, (hit_period p t j).mpr k⟩
theorem on_period2 {w a d m a2 d2 m2 t j : Int} : On w (un a d m (t + 2 * w * j)) (un a2 d2 m2 (t + 2 * w * j)) ↔ On w (un a d m t) (un a2 d2 m2 t) := by
  rw [on_period, on_swap, on_period, on_swap]
theorem meet_period (t j : Int) : meet w h b c (t + 4 * w * h * j) ↔ meet w h b c t := by
  unfold meet
  have e1 : t + 4 * w * h * j = t + 2 * w * (2 * h * j) := by grind
  have e2 : t + 4 * w * h * j = t + 2 * h * (2 * w * j) := by grind
  constructor
  · rintro ⟨k1, k2⟩
    rw [e1, on_period2] at k1
    rw [e2, on_period2] at k2
    exact ⟨k1, k2⟩
  · rintro ⟨k1, k2⟩
    refine ⟨?_, ?_⟩
    · rw [e1, on_period2]
      exact k1
    · rw [e2, on_period2]
      exact k2
end
/-! the law's own looks, by walking -/
/-- the k-th place of the walk -/
def place (w h : Int) (b : Ball) (k : Nat) : Int × Int := ((wk w k (b.x, b.dx)).1, (wk h k (b.y, b.dy)).1)
theorem place_hit {w h : Int} {b : Ball} (hw : 1 ≤ w) (hh : 1 ≤ h) (ok : b.Ok w h) {p : Int × Int} (p0 : 0 ≤ p.1 ∧ p.1 ≤ w) (p1 : 0 ≤ p.2 ∧ p.2 ≤ h) (k : Nat) : place w h b k = p ↔ hit w h b p (b.m + k) := by
  unfold hit
  rw [← wk_pos hw ok.x0 ok.x1 ok.sx p0.1 p0.2 k, ← wk_pos hh ok.y0 ok.y1 ok.sy p1.1 p1.2 k]
  constructor
  · intro e
    rw [← e]
    exact ⟨rfl, rfl⟩
  · rintro ⟨e1, e2⟩
    exact Prod.ext e1 e2
theorem place_meet {w h : Int} {b c : Ball} (hw : 1 ≤ w) (hh : 1 ≤ h) (ok : b.Ok w h) (ok2 : c.Ok w h) {k l : Nat} {t : Int} (hk : t = b.m + k) (hl : t = c.m + l) : place w h b k = place w h c l ↔ meet w h b c t := by
  unfold meet place
  rw [Prod.mk.injEq, wk_two (m := b.m) (m2 := c.m) hw ok.x0 ok.x1 ok.sx ok2.x0 ok2.x1 ok2.sx, wk_two (m := b.m) (m2 := c.m) hh ok.y0 ok.y1 ok.sy ok2.y0 ok2.y1 ok2.sy, ← hk, ← hl]
def PkOk (w h : Int) (pk : List (Int × Int)) : Prop := ∀ p, p ∈ pk → (0 ≤ p.1 ∧ p.1 ≤ w) ∧ 0 ≤ p.2 ∧ p.2 ≤ h
/-- the fall that the law finds by walking -/
def WFall (w h : Int) (pk : List (Int × Int)) (b : Ball) : Option Int → Prop
  | none => ∀ k : Nat, (k : Int) ≤ 4 * w * h → place w h b k ∉ pk
  | some t => ∃ k : Nat, t = b.m + k ∧ place w h b k ∈ pk ∧ ∀ j : Nat, j < k → place w h b j ∉ pk
theorem place_hits {w h : Int} {b : Ball} {pk : List (Int × Int)} (hw : 1 ≤ w) (hh : 1 ≤ h) (ok : b.Ok w h) (hp : PkOk w h pk) (k : Nat) : place w h b k ∈ pk ↔ hits w h b pk (b.m + k) := by
  constructor
  · intro q
    exact ⟨_, q, (place_hit hw hh ok (hp _ q).1 (hp _ q).2 k).mp rfl⟩
  · rintro ⟨p, q, e⟩
    rw [(place_hit hw hh ok (hp _ q).1 (hp _ q).2 k).mpr e]
    exact q
theorem wfall {w h : Int} {b : Ball} {pk : List (Int × Int)} (hw : 1 ≤ w) (hh : 1 ≤ h) (ok : b.Ok w h) (hp : PkOk w h pk) {o : Option Int} (k : WFall w h pk b o) : IsFall w h pk b o := by
  cases o with
  | none =>
    intro t ht q
    have hper : 0 < 4 * w * h := Int.mul_pos (by omega) (by omega)
    have e := Int.emod_add_mul_ediv (t - b.m) (4 * w * h)
    have r0 := Int.emod_nonneg (t - b.m) (show 4 * w * h ≠ 0 by omega)
    have r1 := Int.emod_lt_of_pos (t - b.m) hper
    generalize (t - b.m) % (4 * w * h) = r at *
    generalize (t - b.m) / (4 * w * h) = j at *
    obtain ⟨n, hn⟩ : ∃ n : Nat, r = n := ⟨r.toNat, by omega⟩
    refine k n (by omega) ((place_hits hw hh ok hp n).mpr ?_)
    have et : t = b.m + n + 4 * w * h * j := by omega
    rw [et] at q
    exact (hits_period _ _).mp q
  | some t =>
    obtain ⟨n, e, a, c⟩ := k
    subst e
    refine ⟨by omega, (place_hits hw hh ok hp n).mp a, fun u hu q => ?_⟩
    obtain ⟨l, hl⟩ : ∃ l : Nat, u = b.m + l := ⟨(u - b.m).toNat, by omega⟩
    subst hl
    by_cases z : l < n
    · exact absurd ((place_hits hw hh ok hp l).mpr q) (c l z)
    · omega
/-- the lesser one of two falls, none for never -/
def lesser : Option Int → Option Int → Option Int
  | none, q => q
  | some a, none => some a
  | some a, some c => some (if c < a then c else a)
/-- the minutes at which the law sees two balls meet -/
structure WMeets (w h : Int) (b c : Ball) (last : Int) (ms : List Int) : Prop where
  mem : ∀ t, t ∈ ms ↔ (b.m ≤ t ∧ c.m ≤ t ∧ t ≤ last ∧ meet w h b c t)
  up : ms.Pairwise (· < ·)
/-- most, or the earlier falls -/
def lastOf (most : Int) (o q : Option Int) : Int := match lesser o q with
  | none => most
  | some t => if t < most then t else most
section
variable {F w h : Int} {b c : Ball} {ms : List Int} {o q : Option Int} {cs : List (Int × Int)} {st : Int} {e : Option Int}
/-- what Game.meetings tells -/
structure Told (w h : Int) (b c : Ball) (o q : Option Int) (st : Int) (e : Option Int) (cs : List (Int × Int)) : Prop where
  es : st = if c.m > b.m then c.m else b.m
  sat : ∀ t, (within st e t = true ∧ Sat cs t) ↔ (b.m ≤ t ∧ c.m ≤ t ∧ (∀ z, lesser o q = some z → t ≤ z) ∧ meet w h b c t)
theorem le_sc (hF : 0 < F) (u v : Int) : u * F ≤ v * F ↔ u ≤ v := Int.mul_le_mul_right hF
theorem lesser_sc (hF : 0 < F) : lesser (o.map (· * F)) (q.map (· * F)) = (lesser o q).map (· * F) := by
  cases o with
  | none => rfl
  | some x => cases q with
    | none => rfl
    | some y =>
      show some (if y * F < x * F then y * F else x * F) = some ((if y < x then y else x) * F)
      by_cases z : y < x
      · rw [if_pos z, if_pos ((Int.mul_lt_mul_right hF).mpr z)]
      · rw [if_neg z, if_neg (fun k => z ((Int.mul_lt_mul_right hF).mp k))]
/-- the large game at an enlarged minute -/
theorem told_at (hF : 0 < F) (T : Told (w * F) (h * F) (b.sc F) (c.sc F) (o.map (· * F)) (q.map (· * F)) st e cs) (u : Int) :
    (within st e (u * F) = true ∧ Sat cs (u * F)) ↔ (b.m ≤ u ∧ c.m ≤ u ∧ (∀ z, lesser o q = some z → u ≤ z) ∧ meet w h b c u) := by
  rw [T.sat, meet_scale hF, lesser_sc hF]
  show (b.m * F ≤ u * F ∧ c.m * F ≤ u * F ∧ _ ∧ _) ↔ _
  rw [le_sc hF, le_sc hF]
  refine and_congr_right fun _ => and_congr_right fun _ => and_congr_left fun _ => ?_
  constructor
  · intro k z hz
    exact (le_sc hF _ _).mp (k (z * F) (by rw [hz]; rfl))
  · intro k z hz
    obtain ⟨y, hy, ey⟩ := Option.map_eq_some_iff.mp hz
    rw [← ey]
    exact (le_sc hF _ _).mpr (k y hy)
theorem last_le {most t : Int} (h : t ≤ lastOf most o q) : t ≤ most ∧ ∀ z, lesser o q = some z → t ≤ z := by
  unfold lastOf at h
  cases k : lesser o q with
  | none =>
    rw [k] at h
    exact ⟨h, fun z hz => by cases hz⟩
  | some y =>
    rw [k] at h
    simp only at h
    split at h
    · exact ⟨by omega, fun z hz => by cases hz; omega⟩
    · exact ⟨by omega, fun z hz => by cases hz; omega⟩
theorem le_last {most t : Int} (h1 : t ≤ most) (h2 : ∀ z, lesser o q = some z → t ≤ z) : t ≤ lastOf most o q := by
  unfold lastOf
  cases k : lesser o q with
  | none => exact h1
  | some y =>
    simp only
    have := h2 y k
    split <;> omega
/-- each minute that the law saw, enlarged, is one of the large game's -/
theorem law_holds {most : Int} (hF : 0 < F) (T : Told (w * F) (h * F) (b.sc F) (c.sc F) (o.map (· * F)) (q.map (· * F)) st e cs) (W : WMeets w h b c (lastOf most o q) ms) {t : Int} (ht : t ∈ ms) :
    within st e (t * F) = true ∧ Sat cs (t * F) := by
  obtain ⟨a1, a2, a3, a4⟩ := (W.mem t).mp ht
  exact (told_at hF T t).mpr ⟨a1, a2, (last_le a3).2, a4⟩
/-- where the law saw none, there is none at the first forty enlarged ones -/
theorem law_none {most : Int} (hF : 0 < F) (hw : 1 ≤ w) (hh : 1 ≤ h) (hm : most = 8 * w * h + 6) (b4 : b.m ≤ 4) (c4 : c.m ≤ 4) (T : Told (w * F) (h * F) (b.sc F) (c.sc F) (o.map (· * F)) (q.map (· * F)) st e cs)
    (W : WMeets w h b c (lastOf most o q) []) (u : Int) : ¬ (within st e (u * F) = true ∧ Sat cs (u * F)) := by
  intro k
  obtain ⟨a1, a2, a3, a4⟩ := (told_at hF T u).mp k
  have hper : 0 < 4 * w * h := Int.mul_pos (by omega) (by omega)
  -- the first minute of both
  generalize hs : (if c.m > b.m then c.m else b.m) = s
  have s1 : b.m ≤ s ∧ c.m ≤ s ∧ s ≤ u ∧ s ≤ 4 := by
    split at hs <;> omega
  have e0 := Int.emod_add_mul_ediv (u - s) (4 * w * h)
  have r0 := Int.emod_nonneg (u - s) (show 4 * w * h ≠ 0 by omega)
  have r1 := Int.emod_lt_of_pos (u - s) hper
  have j0 : 0 ≤ (u - s) / (4 * w * h) := Int.ediv_nonneg (by omega) (by omega)
  have j1 : 0 ≤ 4 * w * h * ((u - s) / (4 * w * h)) := Int.mul_nonneg (by omega) j0
  generalize (u - s) % (4 * w * h) = r at *
  generalize (u - s) / (4 * w * h) = j at *
  have eu : u = s + r + 4 * w * h * j := by omega
  rw [eu] at a4
  have m1 := (meet_period (s + r) j).mp a4
  have e8 : 8 * w * h = 2 * (4 * w * h) := by grind
  have in_ : s + r ∈ ([] : List Int) := (W.mem _).mpr ⟨by omega, by omega, le_last (by omega) (fun z hz => by have := a3 z hz; omega), m1⟩
  cases in_
/-- the first meeting of the large game, where the law saw one -/
theorem law_first {most t0 : Int} {r : List Int} (hF : 0 < F) (T : Told (w * F) (h * F) (b.sc F) (c.sc F) (o.map (· * F)) (q.map (· * F)) st e cs) (W : WMeets w h b c (lastOf most o q) (t0 :: r)) :
    ∃ f, IsNext cs st f ∧ within st e f = true ∧ f ≤ t0 * F ∧ (F = 1 → f = t0) := by
  have h0 := law_holds hF T W (List.mem_cons_self (a := t0) (l := r))
  have w0 : st ≤ t0 * F := by
    have := h0.1
    unfold within at this
    simp only [Bool.and_eq_true, decide_eq_true_eq] at this
    exact this.1
  -- the least one
  have least : ∀ n : Nat, ∀ z : Int, st ≤ z → Sat cs z → (z - st).toNat = n → ∃ f, IsNext cs st f ∧ f ≤ z := by
    intro n
    induction n using Nat.strongRecOn with
    | ind n ih =>
      intro z hz sz en
      by_cases k : ∃ y, st ≤ y ∧ Sat cs y ∧ y < z
      · obtain ⟨y, y1, y2, y3⟩ := k
        obtain ⟨f, f1, f2⟩ := ih _ (by omega) y y1 y2 rfl
        exact ⟨f, f1, by omega⟩
      · exact ⟨z, ⟨hz, sz, fun u hu su => by
          by_cases q : u < z
          · exact absurd ⟨u, hu, su, q⟩ k
          · omega⟩, by omega⟩
  obtain ⟨f, hf, le⟩ := least _ (t0 * F) w0 h0.2 rfl
  have wf : within st e f = true := by
    have k := h0.1
    have k1 := hf.1
    unfold within at k ⊢
    simp only [Bool.and_eq_true, decide_eq_true_eq] at k ⊢
    refine ⟨k1, ?_⟩
    cases e with
    | none => rfl
    | some z =>
      have k2 := k.2
      simp only [decide_eq_true_eq] at k2 ⊢
      omega
  refine ⟨f, hf, wf, le, fun e1 => ?_⟩
  subst e1
  have ef : f = f * 1 := by omega
  rw [ef] at wf
  have sf := hf.2.1
  rw [ef] at sf
  obtain ⟨a1, a2, a3, a4⟩ := (told_at hF T f).mp ⟨wf, sf⟩
  have last := ((W.mem t0).mp (List.mem_cons_self (a := t0) (l := r))).2.2.1
  have fin : f ∈ t0 :: r := (W.mem f).mpr ⟨a1, a2, by omega, a4⟩
  rcases List.mem_cons.mp fin with z | z
  · exact z
  · have := (List.pairwise_cons.mp W.up).1 f z
    omega
end
end CuM
end
section
set_option Elab.async false
set_option linter.all false
set_option maxRecDepth 100000
set_option maxHeartbeats 4000000
/-! ### what stands in the heap; loops and comprehensions in short -/
namespace Cu
open PySem PySem.Spec PyProof.Rows L2 CuM
/-! Paired -/
theorem prd_get {α β : Type} {F : α → β → Prop} : ∀ {l : List α} {m : List β} {i : Nat} {a : α}, Paired F l m → l[i]? = some a → ∃ b, m[i]? = some b ∧ F a b
  | _, _, _, _, .nil, e => by simp at e
  | _, _, 0, _, .cons r _, e => by
    simp at e
    subst e
    exact ⟨_, rfl, r⟩
  | _, _, i + 1, a, .cons _ t, e => by
    obtain ⟨b, h1, h2⟩ := prd_get (i := i) (a := a) t (by simpa using e)
    exact ⟨b, by simpa using h1, h2⟩
theorem prd_getR {α β : Type} {F : α → β → Prop} : ∀ {l : List α} {m : List β} {i : Nat} {b : β}, Paired F l m → m[i]? = some b → ∃ a, l[i]? = some a ∧ F a b
  | _, _, _, _, .nil, e => by simp at e
  | _, _, 0, _, .cons r _, e => by
    simp at e
    subst e
    exact ⟨_, rfl, r⟩
  | _, _, i + 1, a, .cons _ t, e => by
    obtain ⟨b, h1, h2⟩ := prd_getR (i := i) (b := a) t (by simpa using e)
    exact ⟨b, by simpa using h1, h2⟩
theorem prd_app {α β : Type} {F : α → β → Prop} : ∀ {l l2 : List α} {m m2 : List β}, Paired F l m → Paired F l2 m2 → Paired F (l ++ l2) (m ++ m2)
  | _, _, _, _, .nil, s => s
  | _, _, _, _, .cons r t, s => .cons r (prd_app t s)
theorem prd_perm {α β : Type} {F : α → β → Prop} {ys xs : List α} (p : ys.Perm xs) : ∀ {cs : List β}, Paired F xs cs → ∃ ds : List β, ds.Perm cs ∧ Paired F ys ds := by
  induction p with
  | nil => exact fun h => ⟨_, List.Perm.refl _, h⟩
  | cons x _ ih =>
    intro cs h
    cases h with
    | cons r t =>
      obtain ⟨ds, d1, d2⟩ := ih t
      exact ⟨_, List.Perm.cons _ d1, .cons r d2⟩
  | swap x y l =>
    intro cs h
    cases h with
    | cons r t =>
      cases t with
      | cons r2 t2 => exact ⟨_, List.Perm.swap _ _ _, .cons r2 (.cons r t2)⟩
  | trans _ _ ih1 ih2 =>
    intro cs h
    obtain ⟨ds, d1, d2⟩ := ih2 h
    obtain ⟨es, e1, e2⟩ := ih1 d2
    exact ⟨es, e1.trans d1, e2⟩
theorem prd_mem {α β : Type} {F : α → β → Prop} {l : List α} {m : List β} (h : Paired F l m) {a : α} (ha : a ∈ l) : ∃ b, b ∈ m ∧ F a b := by
  obtain ⟨i, hi⟩ := List.getElem?_of_mem ha
  obtain ⟨b, h1, h2⟩ := prd_get h hi
  exact ⟨b, List.mem_of_getElem? h1, h2⟩
theorem prd_map {α β γ : Type} {F : α → β → Prop} {G : α → γ → Prop} {f : β → γ} (k : ∀ a b, F a b → G a (f b)) : ∀ {l : List α} {m : List β}, Paired F l m → Paired G l (m.map f)
  | _, _, .nil => .nil
  | _, _, .cons r t => .cons (k _ _ r) (prd_map k t)
/-! pairs of ints -/
/-- tuples keep: what R says of tuples alone -/
def TupKeep (K : PySem.W.Frag) (H H' : Hp) : Prop := ∀ a xs, SqT K H a xs → SqT K H' a xs
theorem Same.keep {K : PySem.W.Frag} {H H' : Hp} (e : Same H H') : TupKeep K H H' := fun _ _ h => Same.tup e h
theorem TupKeep.trans {K : PySem.W.Frag} {H H1 H2 : Hp} (a : TupKeep K H H1) (b : TupKeep K H1 H2) : TupKeep K H H2 := fun x xs h => b x xs (a x xs h)
theorem keep_mut {K : PySem.W.Frag} {H : Hp} {l : Addr} {xs : List V} {o : HO} (h : H l = some (.lst xs)) : TupKeep K H (upd H l o) := fun a ys k => by
  rcases k with (k | ⟨ob, k⟩) | k
  · exact .inl (.inl (by rw [upd_ne (ne_of k h (by intro z; cases z))]; exact k))
  · exact .inl (.inr ⟨ob, by rw [upd_ne (ne_of k h (by intro z; cases z))]; exact k⟩)
  · exact .inr k
theorem keep_mutT {K : PySem.W.Frag} {H : Hp} {l : Addr} {xs : List (List Key × V)} {o : HO} (h : H l = some (.dT xs)) : TupKeep K H (upd H l o) := fun a ys k => by
  rcases k with (k | ⟨ob, k⟩) | k
  · exact .inl (.inl (by rw [upd_ne (ne_of k h (by intro z; cases z))]; exact k))
  · exact .inl (.inr ⟨ob, by rw [upd_ne (ne_of k h (by intro z; cases z))]; exact k⟩)
  · exact .inr k
def Pr (K : PySem.W.Frag) (H : Hp) (v : V) (c : Int × Int) : Prop := ∃ a, v = .ref a ∧ SqT K H a [.int c.1, .int c.2]
abbrev PrAll (K : PySem.W.Frag) (H : Hp) : List V → List (Int × Int) → Prop := Paired (Pr K H)
def PrL (K : PySem.W.Frag) (H : Hp) (p : Addr) (cs : List (Int × Int)) : Prop := ∃ xs, H p = some (.lst xs) ∧ PrAll K H xs cs
def PrT (K : PySem.W.Frag) (H : Hp) (p : Addr) (cs : List (Int × Int)) : Prop := ∃ xs, SqT K H p xs ∧ PrAll K H xs cs
/-- a new pair -/
def PrN (H : Hp) (v : V) (c : Int × Int) : Prop := ∃ a, v = .ref a ∧ H a = some (.tup [.int c.1, .int c.2])
theorem PrN.pr {K : PySem.W.Frag} {H : Hp} {v : V} {c : Int × Int} (h : PrN H v c) : Pr K H v c := let ⟨a, e, h⟩ := h; ⟨a, e, SqT.of h⟩
theorem Pr.up {K : PySem.W.Frag} {H H' : Hp} {v : V} {c : Int × Int} (e : TupKeep K H H') (h : Pr K H v c) : Pr K H' v c := let ⟨a, q, h⟩ := h; ⟨a, q, e _ _ h⟩
theorem prAll_up {K : PySem.W.Frag} {H H' : Hp} {xs : List V} {cs : List (Int × Int)} (e : TupKeep K H H') (h : PrAll K H xs cs) : PrAll K H' xs cs := Paired.mapP h fun _ _ q => q.up e
theorem PrL.up {K : PySem.W.Frag} {H H' : Hp} {p : Addr} {cs : List (Int × Int)} (e : Same H H') (h : PrL K H p cs) : PrL K H' p cs := let ⟨xs, h1, h2⟩ := h; ⟨xs, e _ _ h1, prAll_up (Same.keep e) h2⟩
theorem PrT.up {K : PySem.W.Frag} {H H' : Hp} {p : Addr} {cs : List (Int × Int)} (e : TupKeep K H H') (h : PrT K H p cs) : PrT K H' p cs := let ⟨xs, h1, h2⟩ := h; ⟨xs, e _ _ h1, prAll_up e h2⟩
theorem PrN.up {H H' : Hp} {v : V} {c : Int × Int} (e : Same H H') (h : PrN H v c) : PrN H' v c := let ⟨a, q, h⟩ := h; ⟨a, q, e _ _ h⟩
theorem PrL.len {K : PySem.W.Frag} {H : Hp} {p : Addr} {cs : List (Int × Int)} {xs : List V} (h : H p = some (.lst xs)) (k : PrL K H p cs) : xs.length = cs.length := by
  obtain ⟨ys, h1, h2⟩ := k
  rw [h] at h1
  cases h1
  exact Paired.length h2
/-! as data -/
def pD (c : Int × Int) : PyData := .tuple [.int c.1, .int c.2]
theorem pD_lay (z : Int × Int) : (pD z).canLay0 = true := by simp [pD, PyData.canLay0, PyData.canLayAll0]
theorem pD_depth (z : Int × Int) : (pD z).depth = 1 := by simp [pD, PyData.depth, PyData.depthAll]
theorem pDs_lay : ∀ zs : List (Int × Int), PyData.canLayAll0 (zs.map pD) = true
  | [] => by simp [PyData.canLayAll0]
  | z :: zs => by simp [PyData.canLayAll0, pD_lay z, pDs_lay zs]
theorem pDs_depth : ∀ zs : List (Int × Int), PyData.depthAll (zs.map pD) ≤ 1
  | [] => by simp [PyData.depthAll]
  | z :: zs => by
    have h1 := pDs_depth zs
    have h2 := pD_depth z
    simp only [List.map_cons, PyData.depthAll]
    omega
theorem pD_shaped (z : Int × Int) : SeqAt.shaped (pD z) = true := by
  have h := pD_depth z
  show ((pD z).canLay0 && decide ((pD z).depth ≤ 64)) = true
  rw [Bool.and_eq_true]
  exact ⟨pD_lay z, decide_eq_true (by omega)⟩
theorem pDs_shapedL (zs : List (Int × Int)) : SeqAt.shaped (.list (zs.map pD)) = true := by
  have h1 := pDs_depth zs
  have h2 : PyData.depth (.list (zs.map pD)) ≤ 64 := by
    simp only [PyData.depth]
    omega
  show (PyData.canLay0 (.list (zs.map pD)) && decide (PyData.depth (.list (zs.map pD)) ≤ 64)) = true
  rw [Bool.and_eq_true]
  exact ⟨by simp only [PyData.canLay0]; exact pDs_lay zs, decide_eq_true h2⟩
theorem pDs_shapedT (zs : List (Int × Int)) : SeqAt.shaped (.tuple (zs.map pD)) = true := by
  have h1 := pDs_depth zs
  have h2 : PyData.depth (.tuple (zs.map pD)) ≤ 64 := by
    simp only [PyData.depth]
    omega
  show (PyData.canLay0 (.tuple (zs.map pD)) && decide (PyData.depth (.tuple (zs.map pD)) ≤ 64)) = true
  rw [Bool.and_eq_true]
  exact ⟨by simp only [PyData.canLay0]; exact pDs_lay zs, decide_eq_true h2⟩
theorem pD_eqv (z w : Int × Int) : PyData.eqv (pD z) (pD w) = decide (z = w) := by
  obtain ⟨a, b⟩ := z
  obtain ⟨c, d⟩ := w
  have e : PyData.eqv (pD (a, b)) (pD (c, d)) = ((a == c) && ((b == d) && true)) := by simp only [pD, PyData.eqv, PyData.eqvAll]
  rw [e, Bool.and_true]
  by_cases h1 : a = c
  · by_cases h2 : b = d
    · rw [h1, h2]
      simp
    · rw [beq_eq_false_iff_ne.mpr h2, Bool.and_false, decide_eq_false (fun q => h2 (Prod.mk.inj q).2)]
  · rw [beq_eq_false_iff_ne.mpr h1, Bool.false_and, decide_eq_false (fun q => h1 (Prod.mk.inj q).1)]
theorem pD_any (cs : List (Int × Int)) (c : Int × Int) : ((cs.map pD).any fun z => PyData.eqv z (pD c)) = decide (c ∈ cs) := by
  rw [Bool.eq_iff_iff]
  simp only [List.any_map, List.any_eq_true, Function.comp, pD_eqv, decide_eq_true_eq]
  constructor
  · rintro ⟨x, hx, e⟩
    exact e ▸ hx
  · exact fun h => ⟨c, h, rfl⟩
theorem Pr.dp {K : PySem.W.Frag} {H : Hp} {v : V} {c : Int × Int} (h : Pr K H v c) : Dp K H v (pD c) := by
  obtain ⟨a, e, h⟩ := h
  subst e
  exact .tup h (.cons (.int _) (.cons (.int _) .nil))
theorem prAll_dp {K : PySem.W.Frag} {H : Hp} : ∀ {xs : List V} {cs : List (Int × Int)}, PrAll K H xs cs → DpAll K H xs (cs.map pD)
  | _, _, .nil => .nil
  | _, _, .cons r t => .cons r.dp (prAll_dp t)
theorem r_inPrL {K : PySem.W.Frag} {H : Hp} {v : V} {c : Int × Int} {a : Addr} {xs : List V} {cs : List (Int × Int)} (hv : Pr K H v c) (ha : SqL K H a xs) (hx : PrAll K H xs cs) : Rp (rInD K) v (.ref a) H (.bl (decide (c ∈ cs))) := fun Q q =>
  ⟨pD c, cs.map pD, hv.dp, .lst ha (prAll_dp hx), pD_shaped c, pDs_shapedL cs, by rw [pD_any]; exact q⟩
theorem r_notInPrL {K : PySem.W.Frag} {H : Hp} {v : V} {c : Int × Int} {a : Addr} {xs : List V} {cs : List (Int × Int)} (hv : Pr K H v c) (ha : SqL K H a xs) (hx : PrAll K H xs cs) : Rp (rNotInD K) v (.ref a) H (.bl (!decide (c ∈ cs))) := fun Q q =>
  ⟨pD c, cs.map pD, hv.dp, .lst ha (prAll_dp hx), pD_shaped c, pDs_shapedL cs, by rw [pD_any]; exact q⟩
theorem r_inPrT {K : PySem.W.Frag} {H : Hp} {v : V} {c : Int × Int} {a : Addr} {xs : List V} {cs : List (Int × Int)} (hv : Pr K H v c) (ha : SqT K H a xs) (hx : PrAll K H xs cs) : Rp (rInT K) v (.ref a) H (.bl (decide (c ∈ cs))) := fun Q q =>
  ⟨pD c, cs.map pD, hv.dp, .tup ha (prAll_dp hx), pD_shaped c, pDs_shapedT cs, by rw [pD_any]; exact q⟩
theorem r_notInPrT {K : PySem.W.Frag} {H : Hp} {v : V} {c : Int × Int} {a : Addr} {xs : List V} {cs : List (Int × Int)} (hv : Pr K H v c) (ha : SqT K H a xs) (hx : PrAll K H xs cs) : Rp (rNotInT K) v (.ref a) H (.bl (!decide (c ∈ cs))) := fun Q q =>
  ⟨pD c, cs.map pD, hv.dp, .tup ha (prAll_dp hx), pD_shaped c, pDs_shapedT cs, by rw [pD_any]; exact q⟩
/-! loops -/
section
variable {K : PySem.W.Frag} {σ : L2.St} {H : Hp} {ta tb tc te tl : TE} {t : TT} {D : Ends} {tu tz : TS} {g : TG}
theorem q_while (W : Nat → L2.St → Hp → Prop) (m0 : Nat) (h0 : W m0 σ H)
    (hs : ∀ m σ' H', W m σ' H' → ∃ b, Pt t σ' H' b ∧ (b = true → tu { D with nx := fun σ2 H2 => ∃ m', m' < m ∧ W m' σ2 H2, ct := fun σ2 H2 => ∃ m', m' < m ∧ W m' σ2 H2, bk := tz D } σ' H') ∧ (b = false → tz D σ' H')) : tSeq (tWhile t tu) tz D σ H := by
  refine ⟨W, ⟨m0, h0⟩, fun m σ' H' w => ?_⟩
  obtain ⟨b, h, h1, h2⟩ := hs m σ' H' w
  refine h _ ?_
  cases b with
  | true => exact iteT ⟨_, fun _ _ q => q, h1 rfl⟩
  | false => exact iteF (h2 rfl)
theorem q_forL {a : Addr} {xs : List V} (h : Pv tl σ H (.ref a)) (hx : SqL K H a xs) (W : Nat → L2.St → Hp → Prop) (h0 : W 0 σ H) (hl : ∀ i σ' H', i ≤ xs.length → W i σ' H' → SqL K H' a xs)
    (hs : ∀ i x σ' H', xs[i]? = some x → W i σ' H' → g x σ' H' fun σ2 H2 => tu { D with nx := W (i + 1), ct := W (i + 1), bk := tz D } σ2 H2) (hd : ∀ σ' H', W xs.length σ' H' → tz D σ' H') : tSeq (tFor (iList K tl) g tu) tz D σ H :=
  h _ ⟨a, rfl, ⟨xs, hx⟩, for_list (D := { D with nx := tz D }) W h0 hl hs hd⟩
theorem s_forL {a : Addr} {xs : List V} (h : Pv tl σ H (.ref a)) (hx : SqL K H a xs) (W : Nat → L2.St → Hp → Prop) (h0 : W 0 σ H) (hl : ∀ i σ' H', i ≤ xs.length → W i σ' H' → SqL K H' a xs)
    (hs : ∀ i x σ' H', xs[i]? = some x → W i σ' H' → g x σ' H' fun σ2 H2 => tu { D with nx := W (i + 1), ct := W (i + 1), bk := D.nx } σ2 H2) (hd : ∀ σ' H', W xs.length σ' H' → D.nx σ' H') : tFor (iList K tl) g tu D σ H :=
  h _ ⟨a, rfl, ⟨xs, hx⟩, for_list W h0 hl hs hd⟩
theorem q_forT {a : Addr} {xs : List V} (h : Pv tl σ H (.ref a)) (hx : SqT K H a xs) (W : Nat → L2.St → Hp → Prop) (h0 : W 0 σ H) (hl : ∀ i σ' H', i ≤ xs.length → W i σ' H' → SqT K H' a xs)
    (hs : ∀ i x σ' H', xs[i]? = some x → W i σ' H' → g x σ' H' fun σ2 H2 => tu { D with nx := W (i + 1), ct := W (i + 1), bk := tz D } σ2 H2) (hd : ∀ σ' H', W xs.length σ' H' → tz D σ' H') : tSeq (tFor (iTup K tl) g tu) tz D σ H :=
  h _ ⟨a, rfl, ⟨xs, hx⟩, for_tup (D := { D with nx := tz D }) W h0 hl hs hd⟩
theorem q_forR1 {ta : TA} {n : Int} (h : Pa ta σ H [.int n]) (hn : n ≤ 100000) (hn0 : -100000 ≤ n) (W : Nat → L2.St → Hp → Prop) (h0 : W 0 σ H)
    (hs : ∀ (i : Nat) σ' H', (i : Int) < n → W i σ' H' → g (.int (i : Int)) σ' H' fun σ2 H2 => tu { D with nx := W (i + 1), ct := W (i + 1), bk := tz D } σ2 H2) (hd : ∀ σ' H', W n.toNat σ' H' → tz D σ' H') : tSeq (tFor (iRng1 ta) g tu) tz D σ H :=
  h _ ⟨n, rfl, by omega, by omega, for_range (D := { D with nx := tz D }) W h0 (fun i σ' H' hi w => by
    have e : (0 : Int) + (i : Int) = (i : Int) := Int.zero_add _
    rw [e]
    exact hs i σ' H' (by omega) w) hd⟩
theorem q_forR2 {ta : TA} {lo n : Int} (h : Pa ta σ H [.int lo, .int n]) (hn : n ≤ 100000) (hn0 : -100000 ≤ n) (hl : lo ≤ 100000) (hl0 : -100000 ≤ lo) (W : Nat → L2.St → Hp → Prop) (h0 : W 0 σ H)
    (hs : ∀ (i : Nat) σ' H', lo + (i : Int) < n → W i σ' H' → g (.int (lo + (i : Int))) σ' H' fun σ2 H2 => tu { D with nx := W (i + 1), ct := W (i + 1), bk := tz D } σ2 H2) (hd : ∀ σ' H', W (n - lo).toNat σ' H' → tz D σ' H') : tSeq (tFor (iRng2 ta) g tu) tz D σ H :=
  h _ ⟨lo, n, rfl, ⟨by omega, by omega, by omega, by omega⟩, for_range (D := { D with nx := tz D }) W h0 (fun i σ' H' hi w => hs i σ' H' (by omega) w) hd⟩
/-- for i, x in enumerate(list) -/
theorem q_forE {a : Addr} {xs : List V} {ta : TA} (h : Pa ta σ H [.ref a]) (hx : SqL K H a xs) (W : Nat → L2.St → Hp → Prop) (h0 : W 0 σ H) (hl : ∀ i σ' H', i ≤ xs.length → W i σ' H' → SqL K H' a xs)
    (hs : ∀ i x σ' H' T, xs[i]? = some x → W i σ' H' → H' T = none → g (.ref T) σ' (upd H' T (.tup [.int (i : Nat), x])) fun σ2 H2 => tu { D with nx := W (i + 1), ct := W (i + 1), bk := tz D } σ2 H2) (hd : ∀ σ' H', W xs.length σ' H' → tz D σ' H') :
    tSeq (tFor (iEnum K ta) g tu) tz D σ H :=
  h _ ⟨a, xs, rfl, hx, for_it (D := { D with nx := tz D }) walk_enum W h0 hl (fun i x σ' H' H2 hi w y => by
    obtain ⟨T, n, z, rfl, hT, rfl, en, ex⟩ := y
    cases en
    exact hs i z σ' H' T ex w hT) hd⟩
theorem s_forE {a : Addr} {xs : List V} {ta : TA} (h : Pa ta σ H [.ref a]) (hx : SqL K H a xs) (W : Nat → L2.St → Hp → Prop) (h0 : W 0 σ H) (hl : ∀ i σ' H', i ≤ xs.length → W i σ' H' → SqL K H' a xs)
    (hs : ∀ i x σ' H' T, xs[i]? = some x → W i σ' H' → H' T = none → g (.ref T) σ' (upd H' T (.tup [.int (i : Nat), x])) fun σ2 H2 => tu { D with nx := W (i + 1), ct := W (i + 1), bk := D.nx } σ2 H2) (hd : ∀ σ' H', W xs.length σ' H' → D.nx σ' H') :
    tFor (iEnum K ta) g tu D σ H :=
  h _ ⟨a, xs, rfl, hx, for_it walk_enum W h0 hl (fun i x σ' H' H2 hi w y => by
    obtain ⟨T, n, z, rfl, hT, rfl, en, ex⟩ := y
    cases en
    exact hs i z σ' H' T ex w hT) hd⟩
/-- for i, x in enumerate(tuple) -/
theorem s_forET {a : Addr} {xs : List V} {ta : TA} (h : Pa ta σ H [.ref a]) (hx : SqT K H a xs) (W : Nat → L2.St → Hp → Prop) (h0 : W 0 σ H) (hl : ∀ i σ' H', i ≤ xs.length → W i σ' H' → SqT K H' a xs)
    (hs : ∀ i x σ' H' T, xs[i]? = some x → W i σ' H' → H' T = none → g (.ref T) σ' (upd H' T (.tup [.int (i : Nat), x])) fun σ2 H2 => tu { D with nx := W (i + 1), ct := W (i + 1), bk := D.nx } σ2 H2) (hd : ∀ σ' H', W xs.length σ' H' → D.nx σ' H') :
    tFor (iEnumT K ta) g tu D σ H :=
  h _ ⟨a, xs, rfl, hx, for_it walk_enumT W h0 hl (fun i x σ' H' H2 hi w y => by
    obtain ⟨T, n, z, rfl, hT, rfl, en, ex⟩ := y
    cases en
    exact hs i z σ' H' T ex w hT) hd⟩
/-! comprehensions: the list so far is acc; R says of it what tuples bear -/
/-- over any walk: the new list's address is told ahead, all that stood stands -/
theorem c_lc {J : It} {n : Nat} {Gh : Hp → Prop} {Y : Nat → Hp → V → Hp → Prop} {vs : List Nat} {H1 : Hp} {Dl : Addr} {Q : Hp → Prop} (w : Walk J n Gh Y) (hz : n ≤ 100000) (hD : H1 Dl = none) (R : Nat → List V → Hp → Prop)
    (hR : ∀ i acc A B, TupKeep K A B → R i acc A → R i acc B) (hG : ∀ H', Same H1 H' → Gh H') (h0 : R 0 [] H1)
    (hs : ∀ i x acc H' H2 (Qk : VK), i < n → Same H1 H' → H' Dl = some (.lst acc) → acc.length = i → R i acc H' → Y i H' x H2 →
      (∀ y H4, Same H1 H4 → H4 Dl = some (.lst acc) → R (i + 1) (acc ++ [y]) H4 → Qk y H4) → g x (wipe σ vs) H2 fun σ2 H3 => wipe σ2 vs = wipe σ vs ∧ te σ2 H3 Qk)
    (hd : ∀ acc H', Same H1 H' → H' Dl = some (.lst acc) → acc.length = n → R n acc H' → Q H') :
    ∃ W : Nat → Nat → Hp → Prop, (∃ m, W 0 m (upd H1 Dl (.lst []))) ∧ ∀ i m H, W i m H →
      (J.stop i H ∧ Q H) ∨ (J.go i H ∧ ∃ Nx : Hp → Prop, (∀ H', Nx H' → ∃ m', m' < m ∧ W (i + 1) m' H') ∧ ∀ x H', J.yld i H x H' → g x (wipe σ vs) H' fun σ2 H2 => wipe σ2 vs = wipe σ vs ∧ tYes σ2 H2 fun b H3 =>
        if b = true then te σ2 H3 fun y H4 => ∃ acc, H4 Dl = some (.lst acc) ∧ acc.length < sizeLine ∧ Nx (upd H4 Dl (.lst (acc ++ [y]))) else Nx H3) := by
  refine lc_it w (fun i H' => Same H1 H' ∧ ∃ acc, H' Dl = some (.lst acc) ∧ acc.length = i ∧ R i acc H') ⟨Same.new hD, [], upd_same, rfl, hR _ _ _ _ (Same.keep (Same.new hD)) h0⟩ (fun i H' _ p => hG H' p.1) ?_ ?_
  · rintro i x H' H2 hi ⟨s, acc, ha, hl, r⟩ y
    have k := hs i x acc H' H2 (fun v H4 => ∃ acc, H4 Dl = some (.lst acc) ∧ acc.length < sizeLine ∧ (Same H1 (upd H4 Dl (.lst (acc ++ [v]))) ∧ ∃ acc', (upd H4 Dl (.lst (acc ++ [v]))) Dl = some (.lst acc') ∧ acc'.length = i + 1 ∧ R (i + 1) acc' (upd H4 Dl (.lst (acc ++ [v]))))) hi s ha hl r y fun v H4 s4 a4 r4 =>
      ⟨acc, a4, size_lt (by omega), Same.mut s4 hD, acc ++ [v], upd_same, by rw [List.length_append, hl]; rfl, hR _ _ _ _ (keep_mut a4) r4⟩
    exact k
  · rintro H' ⟨s, acc, ha, hl, r⟩
    exact hd acc H' s ha hl r
/-- over a list -/
theorem lc_L {a : Addr} {xs : List V} {vs : List Nat} {H1 : Hp} {Q : VK} (hx : SqL K H1 a xs) (hz : xs.length ≤ 100000) (R : Nat → List V → Hp → Prop)
    (hR : ∀ i acc A B, TupKeep K A B → R i acc A → R i acc B) (h0 : R 0 [] H1)
    (hs : ∀ i x acc H' Dl (Qk : VK), xs[i]? = some x → H1 Dl = none → Same H1 H' → H' Dl = some (.lst acc) → acc.length = i → R i acc H' →
      (∀ y H4, Same H1 H4 → H4 Dl = some (.lst acc) → R (i + 1) (acc ++ [y]) H4 → Qk y H4) → g x (wipe σ vs) H' fun σ2 H3 => wipe σ2 vs = wipe σ vs ∧ te σ2 H3 Qk)
    (hd : ∀ Dl acc H', H1 Dl = none → Same H1 H' → H' Dl = some (.lst acc) → acc.length = xs.length → R xs.length acc H' → Q (.ref Dl) H') (Dl : Addr) (hD : H1 Dl = none) :
    ∃ W : Nat → Nat → Hp → Prop, (∃ m, W 0 m (upd H1 Dl (.lst []))) ∧ ∀ i m H, W i m H →
      ((Itl K a).stop i H ∧ Q (.ref Dl) H) ∨ ((Itl K a).go i H ∧ ∃ Nx : Hp → Prop, (∀ H', Nx H' → ∃ m', m' < m ∧ W (i + 1) m' H') ∧ ∀ x H', (Itl K a).yld i H x H' → g x (wipe σ vs) H' fun σ2 H2 => wipe σ2 vs = wipe σ vs ∧ tYes σ2 H2 fun b H3 =>
        if b = true then te σ2 H3 fun y H4 => ∃ acc, H4 Dl = some (.lst acc) ∧ acc.length < sizeLine ∧ Nx (upd H4 Dl (.lst (acc ++ [y]))) else Nx H3) :=
  c_lc walk_list hz hD R hR (fun H' s => s.seq hx) h0 (fun i x acc H' H2 Qk hi s ha hl r y k => by
    obtain ⟨rfl, ex⟩ := y
    exact hs i x acc H2 Dl Qk ex hD s ha hl r k) fun acc H' s ha hl r => hd Dl acc H' hD s ha hl r
/-- over a tuple -/
theorem lc_T {a : Addr} {xs : List V} {vs : List Nat} {H1 : Hp} {Q : VK} (hx : SqT K H1 a xs) (hz : xs.length ≤ 100000) (R : Nat → List V → Hp → Prop)
    (hR : ∀ i acc A B, TupKeep K A B → R i acc A → R i acc B) (h0 : R 0 [] H1)
    (hs : ∀ i x acc H' Dl (Qk : VK), xs[i]? = some x → H1 Dl = none → Same H1 H' → H' Dl = some (.lst acc) → acc.length = i → R i acc H' →
      (∀ y H4, Same H1 H4 → H4 Dl = some (.lst acc) → R (i + 1) (acc ++ [y]) H4 → Qk y H4) → g x (wipe σ vs) H' fun σ2 H3 => wipe σ2 vs = wipe σ vs ∧ te σ2 H3 Qk)
    (hd : ∀ Dl acc H', H1 Dl = none → Same H1 H' → H' Dl = some (.lst acc) → acc.length = xs.length → R xs.length acc H' → Q (.ref Dl) H') (Dl : Addr) (hD : H1 Dl = none) :
    ∃ W : Nat → Nat → Hp → Prop, (∃ m, W 0 m (upd H1 Dl (.lst []))) ∧ ∀ i m H, W i m H →
      ((Itt K a).stop i H ∧ Q (.ref Dl) H) ∨ ((Itt K a).go i H ∧ ∃ Nx : Hp → Prop, (∀ H', Nx H' → ∃ m', m' < m ∧ W (i + 1) m' H') ∧ ∀ x H', (Itt K a).yld i H x H' → g x (wipe σ vs) H' fun σ2 H2 => wipe σ2 vs = wipe σ vs ∧ tYes σ2 H2 fun b H3 =>
        if b = true then te σ2 H3 fun y H4 => ∃ acc, H4 Dl = some (.lst acc) ∧ acc.length < sizeLine ∧ Nx (upd H4 Dl (.lst (acc ++ [y]))) else Nx H3) :=
  c_lc walk_tup hz hD R hR (fun H' s => Same.tup s hx) h0 (fun i x acc H' H2 Qk hi s ha hl r y k => by
    obtain ⟨rfl, ex⟩ := y
    exact hs i x acc H2 Dl Qk ex hD s ha hl r k) fun acc H' s ha hl r => hd Dl acc H' hD s ha hl r
/-- over range(n) -/
theorem lc_R {n : Nat} {vs : List Nat} {H1 : Hp} {Q : VK} (hz : n ≤ 100000) (R : Nat → List V → Hp → Prop)
    (hR : ∀ i acc A B, TupKeep K A B → R i acc A → R i acc B) (h0 : R 0 [] H1)
    (hs : ∀ (i : Nat) acc H' Dl (Qk : VK), i < n → H1 Dl = none → Same H1 H' → H' Dl = some (.lst acc) → acc.length = i → R i acc H' →
      (∀ y H4, Same H1 H4 → H4 Dl = some (.lst acc) → R (i + 1) (acc ++ [y]) H4 → Qk y H4) → g (.int (i : Int)) (wipe σ vs) H' fun σ2 H3 => wipe σ2 vs = wipe σ vs ∧ te σ2 H3 Qk)
    (hd : ∀ Dl acc H', H1 Dl = none → Same H1 H' → H' Dl = some (.lst acc) → acc.length = n → R n acc H' → Q (.ref Dl) H') (Dl : Addr) (hD : H1 Dl = none) :
    ∃ W : Nat → Nat → Hp → Prop, (∃ m, W 0 m (upd H1 Dl (.lst []))) ∧ ∀ i m H, W i m H →
      ((Itr 0 n).stop i H ∧ Q (.ref Dl) H) ∨ ((Itr 0 n).go i H ∧ ∃ Nx : Hp → Prop, (∀ H', Nx H' → ∃ m', m' < m ∧ W (i + 1) m' H') ∧ ∀ x H', (Itr 0 n).yld i H x H' → g x (wipe σ vs) H' fun σ2 H2 => wipe σ2 vs = wipe σ vs ∧ tYes σ2 H2 fun b H3 =>
        if b = true then te σ2 H3 fun y H4 => ∃ acc, H4 Dl = some (.lst acc) ∧ acc.length < sizeLine ∧ Nx (upd H4 Dl (.lst (acc ++ [y]))) else Nx H3) :=
  c_lc (K := K) (σ := σ) (te := te) (g := g) (vs := vs) (walk_range (lo := 0)) hz hD R hR (fun H' s => trivial) h0 (fun i x acc H' H2 Qk hi s ha hl r y k => by
    obtain ⟨rfl, ex⟩ := y
    subst ex
    show g (.int (0 + (i : Int))) (wipe σ vs) H2 fun σ2 H3 => wipe σ2 vs = wipe σ vs ∧ te σ2 H3 Qk
    rw [Int.zero_add]
    exact hs i acc H2 Dl Qk hi hD s ha hl r k) fun acc H' s ha hl r => hd Dl acc H' hD s ha hl r
/-- over a text -/
theorem lc_S {z : Str} {vs : List Nat} {H1 : Hp} {Q : VK} (hz : z.cps.size ≤ 100000) (R : Nat → List V → Hp → Prop)
    (hR : ∀ i acc A B, TupKeep K A B → R i acc A → R i acc B) (h0 : R 0 [] H1)
    (hs : ∀ (i c : Nat) acc H' Dl (Qk : VK), z.cps[i]? = some c → H1 Dl = none → Same H1 H' → H' Dl = some (.lst acc) → acc.length = i → R i acc H' →
      (∀ y H4, Same H1 H4 → H4 Dl = some (.lst acc) → R (i + 1) (acc ++ [y]) H4 → Qk y H4) → g (.str ⟨#[c]⟩) (wipe σ vs) H' fun σ2 H3 => wipe σ2 vs = wipe σ vs ∧ te σ2 H3 Qk)
    (hd : ∀ Dl acc H', H1 Dl = none → Same H1 H' → H' Dl = some (.lst acc) → acc.length = z.cps.size → R z.cps.size acc H' → Q (.ref Dl) H') (Dl : Addr) (hD : H1 Dl = none) :
    ∃ W : Nat → Nat → Hp → Prop, (∃ m, W 0 m (upd H1 Dl (.lst []))) ∧ ∀ i m H, W i m H →
      ((Its z).stop i H ∧ Q (.ref Dl) H) ∨ ((Its z).go i H ∧ ∃ Nx : Hp → Prop, (∀ H', Nx H' → ∃ m', m' < m ∧ W (i + 1) m' H') ∧ ∀ x H', (Its z).yld i H x H' → g x (wipe σ vs) H' fun σ2 H2 => wipe σ2 vs = wipe σ vs ∧ tYes σ2 H2 fun b H3 =>
        if b = true then te σ2 H3 fun y H4 => ∃ acc, H4 Dl = some (.lst acc) ∧ acc.length < sizeLine ∧ Nx (upd H4 Dl (.lst (acc ++ [y]))) else Nx H3) :=
  c_lc (K := K) walk_str hz hD R hR (fun H' s => trivial) h0 (fun i x acc H' H2 Qk hi s ha hl r y k => by
    obtain ⟨rfl, c, hc, ex⟩ := y
    subst ex
    exact hs i c acc H2 Dl Qk hc hD s ha hl r k) fun acc H' s ha hl r => hd Dl acc H' hD s ha hl r
end
section
variable {K : PySem.W.Frag} {σ : L2.St} {H : Hp} {ta : TA} {te : TE} {D : Ends} {tz : TS} {vs : List V} {Q : VK} {v : V}
theorem c_pv (h : Pv te σ H v) (k : Q v H) : te σ H Q := h _ k
theorem c_tup (h : Pa ta σ H vs) (hz : vs.length ≤ 100000) (k : ∀ p, H p = none → Q (.ref p) (upd H p (.tup vs))) : tTup ta σ H Q := h _ ⟨size_of hz, k⟩
theorem s_retTup (h : Pa ta σ H vs) (hz : vs.length ≤ 100000) (k : ∀ p, H p = none → D.rt (.ref p) (upd H p (.tup vs))) : tRet (tTup ta) D σ H := h _ ⟨size_of hz, k⟩
theorem s_retLst (h : Pa ta σ H vs) (hz : vs.length ≤ 100000) (k : ∀ p, H p = none → D.rt (.ref p) (upd H p (.lst vs))) : tRet (tLst ta) D σ H := h _ ⟨size_of hz, k⟩
theorem q_setTup {i : Nat} (h : Pa ta σ H vs) (hz : vs.length ≤ 100000) (k : ∀ p, H p = none → tz D (σ.set i (some (.ref p))) (upd H p (.tup vs))) : tSeq (tAsg (tTup ta) (gName i)) tz D σ H := h _ ⟨size_of hz, k⟩
theorem q_setLst {i : Nat} (h : Pa ta σ H vs) (hz : vs.length ≤ 100000) (k : ∀ p, H p = none → tz D (σ.set i (some (.ref p))) (upd H p (.lst vs))) : tSeq (tAsg (tLst ta) (gName i)) tz D σ H := h _ ⟨size_of hz, k⟩
theorem s_retC (k : te σ H D.rt) : tRet te D σ H := k
theorem q_setC {i : Nat} (k : te σ H fun v H1 => tz D (σ.set i (some v)) H1) : tSeq (tAsg te (gName i)) tz D σ H := k
theorem s_setC {i : Nat} (k : te σ H fun v H1 => D.nx (σ.set i (some v)) H1) : tAsg te (gName i) D σ H := k
theorem c_if {t : TT} {ta tb : TE} {b : Bool} (h : Pt t σ H b) (h1 : b = true → ta σ H Q) (h2 : b = false → tb σ H Q) : tIf t ta tb σ H Q := h _ (by
  cases b with
  | true => exact iteT (h1 rfl)
  | false => exact iteF (h2 rfl))
theorem q_when {t : TT} {tu : TS} {b : Bool} (h : Pt t σ H b) (h1 : b = true → tu { D with nx := tz D } σ H) (h2 : b = false → tz D σ H) : tSeq (tIfS t tu tNext) tz D σ H := q_if h h1 h2
theorem s_when {t : TT} {tu : TS} {b : Bool} (h : Pt t σ H b) (h1 : b = true → tu D σ H) (h2 : b = false → D.nx σ H) : tIfS t tu tNext D σ H := s_if h h1 h2
theorem q_ifTo {t : TT} {tu tw : TS} {b : Bool} (h : Pt t σ H b) (S : L2.St → Prop) (k : ∀ σ', S σ' → tz D σ' H) (h1 : b = true → (∀ σ', S σ' → tz D σ' H) → tu { D with nx := tz D } σ H) (h2 : b = false → (∀ σ', S σ' → tz D σ' H) → tw { D with nx := tz D } σ H) : tSeq (tIfS t tu tw) tz D σ H :=
  q_if h (fun e => h1 e k) (fun e => h2 e k)
theorem s_retLst1 {i j : Int} (h : Pa ta σ H [.int i, .int j]) (k : ∀ p l, H p = none → upd H p (.tup [.int i, .int j]) l = none → D.rt (.ref l) (upd (upd H p (.tup [.int i, .int j])) l (.lst [.ref p]))) : tRet (tLst (tCons (tTup ta) tNil)) D σ H :=
  h _ ⟨by show 2 ≤ sizeLine; decide, fun p hp => ⟨by show 1 ≤ sizeLine; decide, fun l hl => k p l hp hl⟩⟩
theorem c_op {r : R2} {ta tb : TE} {x : V} (ha : Pv ta σ H x) (k : tb σ H fun y H2 => r x y H2 Q) : tOp r ta tb σ H Q := ha _ k
theorem c_callC {sp : Sp} (k : ta σ H fun vs H1 => sp (vs ++ []) H1 Q E0) : tCall sp [] E0 ta σ H Q := k
theorem c_consC {tr : TA} {te : TE} {Q : List V → Hp → Prop} (k : te σ H fun x H1 => tr σ H1 fun xs H2 => Q (x :: xs) H2) : tCons te tr σ H Q := k
theorem c_call {sp : Sp} (h : Pa ta σ H vs) (k : sp vs H Q E0) : tCall sp [] E0 ta σ H Q := h _ (by rw [List.append_nil]; exact k)
end
section
variable {K : PySem.W.Frag} {σ : L2.St} {H : Hp} {ta tb tl : TE} {te : TE} {t u : TT} {D : Ends} {tz tu tw : TS} {g : TG} {Q : VK} {Qb : Bool → Hp → Prop} {vs : List Nat} {a : Addr} {xs : List V}
theorem c_tB (k : te σ H fun x H1 => ∃ c, x = .bl c ∧ Qb c H1) : tB te σ H Qb := k
theorem c_tTest (k : te σ H fun x H1 => ∃ c, x = .bl c ∧ Qb c H1) : tTest te σ H Qb := k
theorem c_tNot (k : t σ H fun c H1 => Qb (!c) H1) : tNot t σ H Qb := k
theorem c_tOr (k : t σ H fun c H1 => if c = true then Qb true H1 else u σ H1 Qb) : tOr t u σ H Qb := k
theorem c_tAnd (k : t σ H fun c H1 => if c = true then u σ H1 Qb else Qb false H1) : tAnd t u σ H Qb := k
theorem c_andV (k : ta σ H fun x H1 => ∃ c, x = .bl c ∧ if c = true then tb σ H1 Q else Q (.bl false) H1) : tAndV ta tb σ H Q := k
theorem c_cbC {r : List V → Hp → VK → Prop} {tA : TA} (k : tA σ H fun vs H1 => r vs H1 Q) : tCB r tA σ H Q := k
theorem c_fldU {r : R2} (k : ta σ H fun x H1 => tb σ H1 fun y H2 => r x y H2 Q) : tOp r ta tb σ H Q := k
theorem q_ifU (k : t σ H fun b H1 => if b = true then tu { D with nx := tz D } σ H1 else tw { D with nx := tz D } σ H1) : tSeq (tIfS t tu tw) tz D σ H := k
theorem s_ifU (k : t σ H fun b H1 => if b = true then tu D σ H1 else tw D σ H1) : tIfS t tu tw D σ H := k
theorem c_tupU {tA : TA} (k : tA σ H fun xs H1 => xs.length ≤ sizeLine ∧ ∀ p, H1 p = none → Q (.ref p) (upd H1 p (.tup xs))) : tTup tA σ H Q := k
/-- a test that holds a comprehension of truths over a tuple, a list -/
theorem c_lcT (h : Pv tl σ H (.ref a)) (hx : SqT K H a xs) (hz : xs.length ≤ 100000) (R : Nat → List V → Hp → Prop) (hR : ∀ i acc A B, TupKeep K A B → R i acc A → R i acc B) (h0 : R 0 [] H)
    (hs : ∀ i x acc H' Dl (Qk : VK), xs[i]? = some x → H Dl = none → Same H H' → H' Dl = some (.lst acc) → acc.length = i → R i acc H' →
      (∀ y H4, Same H H4 → H4 Dl = some (.lst acc) → R (i + 1) (acc ++ [y]) H4 → Qk y H4) → g x (wipe σ vs) H' fun σ2 H3 => wipe σ2 vs = wipe σ vs ∧ te σ2 H3 Qk)
    (hd : ∀ Dl acc H', H Dl = none → Same H H' → H' Dl = some (.lst acc) → acc.length = xs.length → R xs.length acc H' → Q (.ref Dl) H') : tLc (iTup K tl) g tYes te vs σ H Q :=
  h _ ⟨a, rfl, ⟨xs, hx⟩, fun Dl hD => lc_T hx hz R hR h0 hs hd Dl hD⟩
theorem c_lcL (h : Pv tl σ H (.ref a)) (hx : SqL K H a xs) (hz : xs.length ≤ 100000) (R : Nat → List V → Hp → Prop) (hR : ∀ i acc A B, TupKeep K A B → R i acc A → R i acc B) (h0 : R 0 [] H)
    (hs : ∀ i x acc H' Dl (Qk : VK), xs[i]? = some x → H Dl = none → Same H H' → H' Dl = some (.lst acc) → acc.length = i → R i acc H' →
      (∀ y H4, Same H H4 → H4 Dl = some (.lst acc) → R (i + 1) (acc ++ [y]) H4 → Qk y H4) → g x (wipe σ vs) H' fun σ2 H3 => wipe σ2 vs = wipe σ vs ∧ te σ2 H3 Qk)
    (hd : ∀ Dl acc H', H Dl = none → Same H H' → H' Dl = some (.lst acc) → acc.length = xs.length → R xs.length acc H' → Q (.ref Dl) H') : tLc (iList K tl) g tYes te vs σ H Q :=
  h _ ⟨a, rfl, ⟨xs, hx⟩, fun Dl hD => lc_L hx hz R hR h0 hs hd Dl hD⟩
theorem c_lcR {tA : TA} {n : Int} (h : Pa tA σ H [.int n]) (hz : n ≤ 100000) (hz0 : 0 ≤ n) (R : Nat → List V → Hp → Prop) (hR : ∀ i acc A B, TupKeep K A B → R i acc A → R i acc B) (h0 : R 0 [] H)
    (hs : ∀ (i : Nat) acc H' Dl (Qk : VK), (i : Int) < n → H Dl = none → Same H H' → H' Dl = some (.lst acc) → acc.length = i → R i acc H' →
      (∀ y H4, Same H H4 → H4 Dl = some (.lst acc) → R (i + 1) (acc ++ [y]) H4 → Qk y H4) → g (.int (i : Int)) (wipe σ vs) H' fun σ2 H3 => wipe σ2 vs = wipe σ vs ∧ te σ2 H3 Qk)
    (hd : ∀ Dl acc H', H Dl = none → Same H H' → H' Dl = some (.lst acc) → acc.length = n.toNat → R n.toNat acc H' → Q (.ref Dl) H') : tLc (iRng1 tA) g tYes te vs σ H Q :=
  h _ ⟨n, rfl, by omega, by omega, fun Dl hD => lc_R (K := K) (by omega) R hR h0 (fun i acc H' Dl Qk hi => hs i acc H' Dl Qk (by omega)) hd Dl hD⟩
theorem c_lcS {z : Str} (h : Pv tl σ H (.str z)) (hz : z.cps.size ≤ 100000) (R : Nat → List V → Hp → Prop) (hR : ∀ i acc A B, TupKeep K A B → R i acc A → R i acc B) (h0 : R 0 [] H)
    (hs : ∀ (i c : Nat) acc H' Dl (Qk : VK), z.cps[i]? = some c → H Dl = none → Same H H' → H' Dl = some (.lst acc) → acc.length = i → R i acc H' →
      (∀ y H4, Same H H4 → H4 Dl = some (.lst acc) → R (i + 1) (acc ++ [y]) H4 → Qk y H4) → g (.str ⟨#[c]⟩) (wipe σ vs) H' fun σ2 H3 => wipe σ2 vs = wipe σ vs ∧ te σ2 H3 Qk)
    (hd : ∀ Dl acc H', H Dl = none → Same H H' → H' Dl = some (.lst acc) → acc.length = z.cps.size → R z.cps.size acc H' → Q (.ref Dl) H') : tLc (iStr tl) g tYes te vs σ H Q :=
  h _ ⟨z, rfl, fun Dl hD => lc_S (K := K) hz R hR h0 hs hd Dl hD⟩
theorem c_callP {sp : Sp} {tA : TA} {us : List V} (h : Pa tA σ H us) (k : sp us H Q E0) : tCall sp [] E0 tA σ H Q := h _ (by rw [List.append_nil]; exact k)
end
theorem keep_mutI {K : PySem.W.Frag} {H : Hp} {p C dx : Addr} {fs : List (Str × V)} {o : HO} (h : H p = some (.ins C dx fs)) : TupKeep K H (upd H p o) := fun a ys k => by
  rcases k with (k | ⟨ob, k⟩) | k
  · exact .inl (.inl (by rw [upd_ne (ne_of k h (by intro z; cases z))]; exact k))
  · exact .inl (.inr ⟨ob, by rw [upd_ne (ne_of k h (by intro z; cases z))]; exact k⟩)
  · exact .inr k
theorem putF_len (f : Str) (v : V) : ∀ fs : List (Str × V), (putF f v fs).length ≤ fs.length + 1
  | [] => by show 1 ≤ 1; omega
  | (g, x) :: r => by
    unfold putF
    split
    · show r.length + 1 ≤ r.length + 1 + 1
      omega
    · have := putF_len f v r
      show (putF f v r).length + 1 ≤ r.length + 1 + 1
      omega
theorem cut_from (xs : List V) (i : Nat) : cutV xs (some ((i : Int) + 1)) none = xs.drop (i + 1) := by
  have e : ((i : Int) + 1) = ((i + 1 : Nat) : Int) := by omega
  rw [e]
  unfold cutV
  rw [HT.sIx_nat, HT.sIx_none]
  by_cases h : i + 1 ≤ xs.length
  · rw [Nat.min_eq_left h]
    exact List.take_of_length_le (by rw [List.length_drop]; omega)
  · rw [Nat.min_eq_right (by omega), List.drop_eq_nil_of_le (Nat.le_refl _), List.drop_eq_nil_of_le (by omega), List.take_nil]
theorem cut_to (xs : List V) (i : Nat) : cutV xs none (some (i : Int)) = xs.take i := by
  unfold cutV
  rw [HT.sIx_none, HT.sIx_nat, List.drop_zero, Nat.sub_zero]
  by_cases h : i ≤ xs.length
  · rw [Nat.min_eq_left h]
  · rw [Nat.min_eq_right (by omega), List.take_of_length_le (Nat.le_refl _), List.take_of_length_le (by omega)]
section
variable {K : PySem.W.Frag} {σ : L2.St} {H : Hp} {ta tl : TE} {te tv : TE} {D : Ends} {tz tu : TS} {g : TG} {Q : VK} {vs : List Nat} {a : Addr} {xs : List V}
/-- o.f = e -/
theorem q_fld {f : Str} {v : V} {p C dx : Addr} {fs : List (Str × V)} (hv : Pv tv σ H v) (ho : Pv ta σ H (.ref p)) (hp : H p = some (.ins C dx fs)) (c : Cls K C) (n : NoAttr K C f) (hl : fs.length < 1000) (k : tz D σ (upd H p (.ins C dx (putF f v fs)))) : tSeq (sFld K ta tv f) tz D σ H :=
  hv _ (ho _ ⟨p, C, dx, fs, rfl, hp, c, n, hl, k⟩)
theorem s_fld {f : Str} {v : V} {p C dx : Addr} {fs : List (Str × V)} (hv : Pv tv σ H v) (ho : Pv ta σ H (.ref p)) (hp : H p = some (.ins C dx fs)) (c : Cls K C) (n : NoAttr K C f) (hl : fs.length < 1000) (k : D.nx σ (upd H p (.ins C dx (putF f v fs)))) : sFld K ta tv f D σ H :=
  hv _ (ho _ ⟨p, C, dx, fs, rfl, hp, c, n, hl, k⟩)
/-- a comprehension over a list that is made on the way -/
theorem c_lcN (hL : ∀ Q1 : VK, (∀ a H1, Same H H1 → SqL K H1 a xs → Q1 (.ref a) H1) → tl σ H Q1) (hz : xs.length ≤ 100000) (R : Nat → List V → Hp → Prop) (hR : ∀ i acc A B, TupKeep K A B → R i acc A → R i acc B) (h0 : ∀ H1, Same H H1 → R 0 [] H1)
    (hs : ∀ i x acc H' Dl (Qk : VK), xs[i]? = some x → H Dl = none → Same H H' → H' Dl = some (.lst acc) → acc.length = i → R i acc H' →
      (∀ y H4, Same H' H4 → R (i + 1) (acc ++ [y]) H4 → Qk y H4) → g x (wipe σ vs) H' fun σ2 H3 => wipe σ2 vs = wipe σ vs ∧ te σ2 H3 Qk)
    (hd : ∀ Dl acc H', H Dl = none → Same H H' → H' Dl = some (.lst acc) → acc.length = xs.length → R xs.length acc H' → Q (.ref Dl) H') : tLc (iList K tl) g tYes te vs σ H Q :=
  hL _ fun a H1 s hx => ⟨a, rfl, ⟨xs, hx⟩, fun Dl hD => lc_L hx hz R hR (h0 H1 s) (fun i x acc H' Dl Qk hi hD s1 ha hl r k => hs i x acc H' Dl Qk hi (s.free hD) (s.trans s1) ha hl r fun y H4 s4 r4 => k y H4 (s1.trans s4) (s4 _ _ ha) r4)
    (fun Dl acc H' hD s1 ha hl r => hd Dl acc H' (s.free hD) (s.trans s1) ha hl r) Dl hD⟩
end
/-- a pair of the other order -/
def PrNs (H : Hp) (v : V) (c : Int × Int) : Prop := ∃ a, v = .ref a ∧ H a = some (.tup [.int c.2, .int c.1])
theorem prNs_up {H H' : Hp} {xs : List V} {cs : List (Int × Int)} (e : Same H H') (h : Paired (PrNs H) xs cs) : Paired (PrNs H') xs cs := Paired.mapP h fun _ _ ⟨a, q, z⟩ => ⟨a, q, e _ _ z⟩
theorem prNs_mut {H : Hp} {xs : List V} {cs : List (Int × Int)} {l : Addr} {ys : List V} {o : HO} (hl : H l = some (.lst ys)) (h : Paired (PrNs H) xs cs) : Paired (PrNs (upd H l o)) xs cs := Paired.mapP h fun _ _ ⟨a, q, z⟩ =>
  ⟨a, q, by rw [upd_ne (ne_of z hl (by intro y; cases y))]; exact z⟩
section
variable {K : PySem.W.Frag} {σ : L2.St} {ta : TA} {te : TE} {D : Ends} {tz : TS}
/-- l.append((a, b)) -/
theorem s_appTup {H : Hp} {l : Addr} {xs vs : List V} {tl : TE} (ho : Pv tl σ H (.ref l)) (h : Pa ta σ H vs) (hv : vs.length ≤ 100000) (hl : H l = some (.lst xs)) (hz : xs.length ≤ 100000)
    (k : ∀ t, H t = none → D.nx σ (upd (upd H t (.tup vs)) l (.lst (xs ++ [.ref t])))) : tDrop (tBM K "list" rAppend tl (tCons (tTup ta) tNil)) D σ H :=
  ho _ ⟨Or.inl ⟨rfl, _, SqL.of hl⟩, h _ ⟨size_of hv, fun t ht => ⟨l, xs, .ref t, rfl, rfl, Same.new ht _ _ hl, size_lt hz, k t ht⟩⟩⟩
theorem q_appTup {H : Hp} {l : Addr} {xs vs : List V} {tl : TE} (ho : Pv tl σ H (.ref l)) (h : Pa ta σ H vs) (hv : vs.length ≤ 100000) (hl : H l = some (.lst xs)) (hz : xs.length ≤ 100000)
    (k : ∀ t, H t = none → tz D σ (upd (upd H t (.tup vs)) l (.lst (xs ++ [.ref t])))) : tSeq (tDrop (tBM K "list" rAppend tl (tCons (tTup ta) tNil))) tz D σ H :=
  s_appTup (D := { D with nx := tz D }) ho h hv hl hz k
/-- [(r, m) for m, r in a list of the pairs (m, r)] -/
theorem lc_sw {i j : Nat} {q : Addr} {zs : List V} {ds : List (Int × Int)} {vs : List Nat} {H1 : Hp} {Q : VK} (hq : SqL K H1 q zs) (kd : Paired (PrNs H1) zs ds) (hz : zs.length ≤ 100000)
    (hj : ∀ x y : V, (((wipe σ vs).set i (some x)).set j (some y))[j]? = some (some y)) (hi : ∀ x y : V, (((wipe σ vs).set i (some x)).set j (some y))[i]? = some (some x)) (hw : ∀ x y : V, wipe (((wipe σ vs).set i (some x)).set j (some y)) vs = wipe σ vs)
    (hd : ∀ Dl H', H1 Dl = none → Same H1 H' → PrL K H' Dl ds → Q (.ref Dl) H') (Dl : Addr) (hD : H1 Dl = none) :
    ∃ W : Nat → Nat → Hp → Prop, (∃ m, W 0 m (upd H1 Dl (.lst []))) ∧ ∀ n m H, W n m H →
      ((Itl K q).stop n H ∧ Q (.ref Dl) H) ∨ ((Itl K q).go n H ∧ ∃ Nx : Hp → Prop, (∀ H', Nx H' → ∃ m', m' < m ∧ W (n + 1) m' H') ∧ ∀ x H', (Itl K q).yld n H x H' → (gTup K 2 (gCons (gName i) (gCons (gName j) gNil))) x (wipe σ vs) H' fun σ2 H2 => wipe σ2 vs = wipe σ vs ∧ tYes σ2 H2 fun b H3 =>
        if b = true then (tTup (tCons (tVar j) (tCons (tVar i) tNil))) σ2 H3 fun y H4 => ∃ acc, H4 Dl = some (.lst acc) ∧ acc.length < sizeLine ∧ Nx (upd H4 Dl (.lst (acc ++ [y]))) else Nx H3) := by
  refine lc_L (K := K) hq hz (fun i acc A => PrAll K A acc (ds.take i)) (fun i acc A B tk r => prAll_up tk r) .nil ?_ ?_ Dl hD
  · intro n x acc H2 Dl Qk hn hD s4 hacc hl2 r kq
    obtain ⟨c, hc1, e, rfl, he⟩ := prd_get kd hn
    have he2 : SqT K H2 e [.int c.2, .int c.1] := SqT.of (s4 _ _ he)
    refine ⟨e, _, rfl, he2, rfl, _, _, rfl, _, _, rfl, rfl, hw _ _, ?_⟩
    refine c_tup (a_cons (v_var (hj _ _)) (a_cons (v_var (hi _ _)) a_nil)) (by show 2 ≤ 100000; decide) fun t ht => kq _ _ (s4.trans (Same.new ht)) (Same.new ht _ _ hacc) ?_
    have tk : ds.take (n + 1) = ds.take n ++ [c] := by
      rw [List.take_succ, hc1]
      rfl
    show PrAll K _ _ (ds.take (n + 1))
    rw [tk]
    exact Paired.snoc (prAll_up (Same.keep (Same.new ht)) r) ⟨t, rfl, SqT.of upd_same⟩
  · intro Dl acc H2 hD s4 hacc hl2 r
    have r' : PrAll K H2 acc (ds.take zs.length) := r
    rw [Paired.length kd, List.take_length] at r'
    exact hd Dl H2 hD s4 ⟨acc, hacc, r'⟩
/-- for over a list or a tuple -/
def iSeq (K : PySem.W.Frag) (tl : TE) : TI := fun σ H R => tl σ H fun x H1 => ∃ a, x = .ref a ∧ (((∃ xs, SqL K H1 a xs) ∧ R (Itl K a) H1) ∨ ((∃ xs, SqT K H1 a xs) ∧ R (Itt K a) H1))
theorem pi_seq {X : Cx} {l tg : Expr} {tl : TE} (hl : PE X l tl) : PI X tg l (iSeq X.K tl) := by
  constructor
  intro pins s σ H R I h
  refine thn (hl.run pins s σ H _ I h) ?_
  rintro v s1 ⟨x, H1, I1, r1, a, rfl, q⟩
  obtain rfl : v = Value.ref a := r1
  have fresh : ∀ b ∈ [s1.heap.objs.size], FpOk X pins H1 b := fun b hb => by
    rw [List.mem_singleton] at hb
    rw [hb]
    exact I1.fpOk (Nat.le_refl _) (I1.hok.fresh (Nat.le_refl _))
  rcases q with ⟨⟨xs, hq⟩, q⟩ | ⟨⟨xs, hq⟩, q⟩
  · obtain ⟨its, rv, pl, hz⟩ := I1.list hq
    exact wpAny_pyIter_list pl.isList ⟨_, _, _, _, H1, rfl, I1.kept (t' := s1.toks) fun b o e => Heap.get?_push_of_some _ e, turn_list a s1.heap.objs.size, ⟨_, Heap.get?_push_size _ rfl, rfl, rfl⟩, fresh, q⟩
  · obtain ⟨its, rv, pl, hz⟩ := I1.tuple hq
    exact wpAny_pyIter_tuple (show s1.heap.IsTuple a its.toArray from pl) ⟨_, _, _, _, H1, rfl, I1.kept (t' := s1.toks) fun b o e => Heap.get?_push_of_some _ e, turn_tuple a s1.heap.objs.size, ⟨_, Heap.get?_push_size _ rfl, rfl, rfl⟩, fresh, q⟩
end
section
variable {K : PySem.W.Frag} {σ : L2.St} {H H0 : Hp} {tl : TE} {D : Ends} {tz tu : TS} {g : TG} {a : Addr} {xs : List V}
theorem q_forS (h : Pv tl σ H (.ref a)) (hx : SqL K H0 a xs ∨ SqT K H0 a xs) (W : Nat → L2.St → Hp → Prop) (h0 : W 0 σ H) (hw : ∀ i σ' H', W i σ' H' → Same H0 H')
    (hs : ∀ i x σ' H', xs[i]? = some x → W i σ' H' → g x σ' H' fun σ2 H2 => tu { D with nx := W (i + 1), ct := W (i + 1), bk := tz D } σ2 H2) (hd : ∀ σ' H', W xs.length σ' H' → tz D σ' H') : tSeq (tFor (iSeq K tl) g tu) tz D σ H :=
  h _ ⟨a, rfl, by
    have s0 := hw 0 σ H h0
    rcases hx with hx | hx
    · exact .inl ⟨⟨xs, s0.seq hx⟩, for_list (D := { D with nx := tz D }) W h0 (fun i σ' H' _ w => (hw i σ' H' w).seq hx) hs hd⟩
    · exact .inr ⟨⟨xs, Same.tup s0 hx⟩, for_tup (D := { D with nx := tz D }) W h0 (fun i σ' H' _ w => Same.tup (hw i σ' H' w) hx) hs hd⟩⟩
end
section
variable {K : PySem.W.Frag} {σ : L2.St} {H : Hp} {ta : TA} {tv to : TE} {D : Ends} {tz : TS} {Q : VK}
theorem c_lcSw {i j : Nat} {l : Addr} {acc : List V} {fs : List (Int × Int)} {vs : List Nat} (h : Pa ta σ H [.ref l]) (hl : H l = some (.lst acc)) (prs : Paired (PrNs H) acc fs) (hz : acc.length ≤ 100000)
    (hj : ∀ x y : V, (((wipe σ vs).set i (some x)).set j (some y))[j]? = some (some y)) (hi : ∀ x y : V, (((wipe σ vs).set i (some x)).set j (some y))[i]? = some (some x)) (hw : ∀ x y : V, wipe (((wipe σ vs).set i (some x)).set j (some y)) vs = wipe σ vs)
    (hd : ∀ Dl H' ds, H Dl = none → ds.Perm fs → Same H H' → PrL K H' Dl ds → Q (.ref Dl) H') :
    tLc (iList K (tCB (rSortedP K) ta)) (gTup K 2 (gCons (gName i) (gCons (gName j) gNil))) tYes (tTup (tCons (tVar j) (tCons (tVar i) tNil))) vs σ H Q := by
  refine h _ ⟨l, acc, rfl, SqL.of hl, fun x hx => ?_, fun zs q perm hq => ?_⟩
  · obtain ⟨c, _, e, r1, r2⟩ := prd_mem prs hx
    exact ⟨e, c.2, c.1, r1, r2⟩
  · obtain ⟨ds, dp, kd⟩ := prd_perm perm prs
    have s3 : Same H (upd H q (.lst zs)) := Same.new hq
    exact ⟨q, rfl, ⟨_, SqL.of upd_same⟩, lc_sw (K := K) (SqL.of upd_same) (prNs_up s3 kd) (by rw [perm.length_eq]; exact hz) hj hi hw fun Dl H2 hD s4 hP => hd Dl H2 ds (s3.free hD) dp (s3.trans s4) hP⟩
theorem q_fldC {f : Str} (k : tv σ H fun y H1 => to σ H1 fun x H2 => ∃ a C dx fs, x = .ref a ∧ H2 a = some (.ins C dx fs) ∧ Cls K C ∧ NoAttr K C f ∧ fs.length < 1000 ∧ tz D σ (upd H2 a (.ins C dx (putF f y fs)))) : tSeq (sFld K to tv f) tz D σ H := k
theorem s_fldC {f : Str} (k : tv σ H fun y H1 => to σ H1 fun x H2 => ∃ a C dx fs, x = .ref a ∧ H2 a = some (.ins C dx fs) ∧ Cls K C ∧ NoAttr K C f ∧ fs.length < 1000 ∧ D.nx σ (upd H2 a (.ins C dx (putF f y fs)))) : sFld K to tv f D σ H := k
end
/-! readings grow with what is wanted -/
theorem gName_mono {i : Nat} {x : V} {σ : L2.St} {H : Hp} {P P' : L2.St → Hp → Prop} (k : ∀ a b, P a b → P' a b) (h : gName i x σ H P) : gName i x σ H P' := k _ _ h
end Cu
end
section
set_option Elab.async false
set_option linter.all false
set_option maxRecDepth 100000
set_option maxHeartbeats 4000000
namespace Cu
open PySem PySem.Spec PyProof.Rows L2 CuM
local macro_rules | `(tactic| walk_at "hp") => `(tactic| first
  | assumption
  | exact SqT.of (by assumption)
  | exact SqL.of (by assumption)
  | (apply SqT.of; walk_at "hq")
  | (apply SqL.of; walk_at "hq")
  | walk_at "hq")
local macro_rules | `(tactic| walk_at "hq") => `(tactic| first
  | assumption
  | exact upd_same
  | (refine Same.new (by assumption) _ _ ?_; walk_at "hq")
  | (refine Same.tup (Same.new (by assumption)) ?_; walk_at "hp")
  | (refine L2.Same.seq (Same.new (by assumption)) ?_; walk_at "hp"))
local macro_rules | `(tactic| walk_at "pv") => `(tactic| first
  | with_reducible exact v_c
  | ((with_reducible apply v_var); rfl)
  | (with_reducible apply v_op) <;> walk_at "pv"
  | (with_reducible apply v_un) <;> walk_at "pv"
  | (with_reducible apply v_fld) <;> walk_at "pv"
  | (with_reducible apply v_chain) <;> walk_at "pv"
  | (with_reducible apply v_and) <;> walk_at "pv"
  | (with_reducible apply v_or) <;> walk_at "pv"
  | (with_reducible apply v_not) <;> walk_at "pv"
  | (with_reducible apply v_isN) <;> walk_at "pv"
  | (with_reducible apply v_notN) <;> walk_at "pv"
  | (with_reducible apply v_cb) <;> walk_at "pv"
  | with_reducible exact a_nil
  | (with_reducible apply a_cons) <;> walk_at "pv"
  | (with_reducible apply b_test) <;> walk_at "pv"
  | (with_reducible apply b_B) <;> walk_at "pv"
  | (with_reducible apply b_and) <;> walk_at "pv"
  | (with_reducible apply b_or) <;> walk_at "pv"
  | (with_reducible apply b_not) <;> walk_at "pv"
  | with_reducible exact r_I0
  | with_reducible exact r_U
  | ((with_reducible apply r_I); walk_at "side")
  | ((with_reducible apply r_ixT); walk_at "hp"; first | rfl | assumption)
  | ((with_reducible apply r_ixL); walk_at "hp"; first | rfl | assumption)
  | ((with_reducible apply r_eq); rfl)
  | ((with_reducible apply r_ne); rfl)
  | ((with_reducible apply r_inT); walk_at "hp"; rfl; first | rfl | assumption)
  | ((with_reducible apply r_inL); walk_at "hp"; rfl; first | rfl | assumption)
  | with_reducible exact o_none
  | (with_reducible apply o_some) <;> walk_at "pv"
  | (intro _; walk_at "pv")
  | assumption
  | rfl
  | walk_at "side")
local macro_rules | `(tactic| walk_at "side") => `(tactic| first
  | assumption
  | (show (0 : Int) < _; first | decide | omega)
  | (show (0 : Int) < _ ∧ _ < (1073741824 : Int); exact ⟨by decide, by decide⟩)
  | walk_at "hp"
  | rfl)

/-! ### classes of remainders: inverse, chinese, solved -/
theorem nat_lt {x : Int} {B : Nat} {n : Nat} (h : x.natAbs ≤ B) (hB : B < 2 ^ n) : x.natAbs < 2 ^ n := Nat.lt_of_le_of_lt h hB
def spInv : Sp := fun vs H Q _ => ∃ n m : Int, vs = [.int n, .int m] ∧ 0 < n ∧ 0 < m ∧ Nat.gcd n.natAbs m.natAbs = 1 ∧ n < 2 ^ 200 ∧ m < 2 ^ 200 ∧ ∀ u H', Same H H' → IsInv n m u → Q (.int u) H'
section
variable {P : Program} {w : World} {K : PySem.W.Frag} {mg : Str → Option Value} {base : Heap} {f : Addr} {fd : FuncData}
theorem sc_inverse : FnScope ["number", "modulus", "left", "right", "factor", "following", "quotient"] ["number", "modulus"] (defScope sInv) := ⟨rfl, rfl, rfl, by decide +kernel, rfl, by decide +kernel, by decide +kernel⟩
theorem ok_inverse (F : FnP K "inverse" "inverse" sInv [] f fd) (T : Tx K mg) : FnOk P w K mg base CX0 1 f fd ["number", "modulus"] spInv := by
  refine ok_of F sc_inverse (fun vs H Q E h => ?_) (fun cdv A outer s H vs Q E hr h => ?_)
  · obtain ⟨_, _, rfl, _⟩ := h
    rfl
  · obtain ⟨n, m, rfl, hn, hm, hc, bn, bm, k⟩ := h
    refine ⟨_, (pss_cons (ps_par (i := 2) (j := 3) rfl sc_inverse.nd rfl rfl (by decide) rfl rfl (pa_cons (pv 0) (pa_cons (pv 1) pa_nil)) rfl)
  (pss_cons (ps_asg (pe_tup (pa_cons pe_int (pa_cons pe_int pa_nil))) (pg_tup rfl (pgs_cons (pg_name (i := 4) sc_inverse.nd rfl (Or.inl rfl)) (pgs_cons (pg_name (i := 5) sc_inverse.nd rfl (Or.inl rfl)) pgs_nil))))
  (pss_cons (ps_while PassesOwn.never (pt_cmpR op_gt (pv 3) pe_int (nomark _))
  (pss_cons (ps_set (i := 6) sc_inverse.nd rfl (Or.inl rfl) (pe_op op_fdivW (pv 2) (pv 3)))
  (pss_cons (ps_par (i := 2) (j := 3) rfl sc_inverse.nd rfl rfl (by decide) rfl rfl (pa_cons (pv 3) (pa_cons (pe_op op_sub (pv 2) (pe_op op_mulW (pv 6) (pv 3))) pa_nil)) rfl)
  (pss_one (ps_par (i := 4) (j := 5) rfl sc_inverse.nd rfl rfl (by decide) rfl rfl (pa_cons (pv 5) (pa_cons (pe_op op_sub (pv 4) (pe_op op_mulW (pv 6) (pv 5))) pa_nil)) rfl)))))
  (pss_one (ps_ret (pe_op op_mod (pv 4) (pv 1))))))), ?_⟩
    apply q_par
    · walk_at "pv"
    -- factor, following = (1, 0)
    refine ⟨by show 2 ≤ sizeLine; decide, fun p hp => ⟨p, _, rfl, SqT.of upd_same, rfl, _, _, rfl, _, _, rfl, rfl, ?_⟩⟩
    refine q_while (fun j σ' H' => ∃ (l r a b : Int) (q : Option V), σ' = [some (.int n), some (.int m), some (.int l), some (.int r), some (.int a), some (.int b), q] ∧ Same H H' ∧ InvAt n m l r a b ∧ l < 2 ^ 200 ∧ r < 2 ^ 200 ∧ j = r.toNat) m.toNat
      ⟨n, m, 1, 0, none, rfl, Same.new hp, InvAt.init hn hm hc, bn, bm, rfl⟩ ?_
    rintro j σ' H' ⟨l, r, a, b, q, rfl, s1, I, bl, br, rfl⟩
    refine ⟨decide (0 < r), ?_, fun hb => ?_, fun hb => ?_⟩
    · walk_at "pv"
    · have hr0 : 0 < r := of_decide_eq_true hb
      have hl := I.lp
      have sm := I.small
      have q0 : 0 ≤ l / r := Int.ediv_nonneg (Int.le_of_lt hl) (Int.le_of_lt hr0)
      have q1 : l / r ≤ l := Int.ediv_le_self _ (Int.le_of_lt hl)
      have two : (2 : Int) ^ 200 = ((2 ^ 200 : Nat) : Int) := by norm_cast
      apply q_set
      · apply v_op
        · walk_at "pv"
        · walk_at "pv"
        · exact r_I (wide_div (b := 200) hr0 (by omega) (by decide) (by decide))
      apply q_par
      · refine a_cons (v_var rfl) (a_cons (v_op (v_var rfl) (v_op (v_var rfl) (v_var rfl) (r_I (wide_mul (a := 200) (b := 200) ?_ ?_ (by decide) (by decide) (by decide)))) r_I0) a_nil)
        · omega
        · omega
      apply s_par
      · refine a_cons (v_var rfl) (a_cons (v_op (v_var rfl) (v_op (v_var rfl) (v_var rfl) (r_I (wide_mul (a := 200) (b := 200) ?_ ?_ (by decide) (by decide) (by decide)))) r_I0) a_nil)
        · omega
        · omega
      have I2 := I.turn hr0
      have le := I.less hr0
      exact ⟨_, le, r, l - l / r * r, b, a - l / r * b, _, rfl, s1, I2, br, by have := I2.rp; have := le; omega, rfl⟩
    · have hr0 : ¬ 0 < r := of_decide_eq_false hb
      refine s_ret (v_op (v_var rfl) (v_var rfl) (r_I hm)) (k _ _ s1 (I.done hm hr0))

theorem c_gcd {H : Hp} {a b : Int} : Cp rGcd [.int a, .int b] H (.int (Gd a b)) := fun Q q => ⟨a, b, rfl, q⟩
def spChin (K : PySem.W.Frag) : Sp := fun vs H Q _ => ∃ (a b : Addr) (r1 m1 r2 m2 : Int), vs = [.ref a, .ref b] ∧ SqT K H a [.int r1, .int m1] ∧ SqT K H b [.int r2, .int m2] ∧ 0 ≤ r1 ∧ r1 < m1 ∧ m1 ≤ 2 ^ 100 ∧ 0 ≤ r2 ∧ r2 < m2 ∧ m2 ≤ 2 ^ 100 ∧
  ((∀ t : Int, ¬ (t % m1 = r1 ∧ t % m2 = r2)) → ∀ H', Same H H' → Q .non H') ∧
  ∀ (r m : Int) (p : Addr) H', Same H H' → H' p = some (.tup [.int r, .int m]) → 0 ≤ r → r < m → m ≤ m1 * m2 → (∀ t : Int, t % m = r ↔ (t % m1 = r1 ∧ t % m2 = r2)) → Q (.ref p) H'
theorem sc_chinese : FnScope ["one", "other", "first", "size", "second", "width", "divisor", "step", "modulus"] ["one", "other"] (defScope sChin) := ⟨rfl, rfl, rfl, by decide +kernel, rfl, by decide +kernel, by decide +kernel⟩
theorem ok_chinese (F : FnP K "chinese" "chinese" sChin [] f fd) (T : Tx K mg) (G_inverse : Df P w K mg base 1 "inverse" ["number", "modulus"] spInv) : FnOk P w K mg base CX0 2 f fd ["one", "other"] (spChin K) := by
  refine ok_of F sc_chinese (fun vs H Q E h => ?_) (fun cdv A outer s H vs Q E hr h => ?_)
  · obtain ⟨_, _, _, _, _, _, rfl, _⟩ := h
    rfl
  · obtain ⟨a, b, r1, m1, r2, m2, rfl, ha, hb, h1, h2, h3, h4, h5, h6, k1, k2⟩ := h
    refine ⟨_, (pss_cons (ps_asg (pv 0) (pg_tup rfl (pgs_cons (pg_name (i := 2) sc_chinese.nd rfl (Or.inl rfl)) (pgs_cons (pg_name (i := 3) sc_chinese.nd rfl (Or.inl rfl)) pgs_nil))))
  (pss_cons (ps_asg (pv 1) (pg_tup rfl (pgs_cons (pg_name (i := 4) sc_chinese.nd rfl (Or.inl rfl)) (pgs_cons (pg_name (i := 5) sc_chinese.nd rfl (Or.inl rfl)) pgs_nil))))
  (pss_cons (ps_set (i := 6) sc_chinese.nd rfl (Or.inl rfl) (pe_callBfun cr_gcd (by rfl) T.gcd (pa_cons (pv 3) (pa_cons (pv 5) pa_nil))))
  (pss_cons (ps_if (pt_cmpR op_ne (pe_op op_mod (pe_op op_sub (pv 4) (pv 2)) (pv 6)) pe_int (nomark _))
  (pss_one (ps_ret pe_non))
  pss_nil)
  (pss_cons (ps_set (i := 7) sc_chinese.nd rfl (Or.inl rfl) (pe_op op_mulW (pe_op op_fdivW (pe_op op_sub (pv 4) (pv 2)) (pv 6)) (pe_df G_inverse hr (pa_cons (pe_op op_fdivW (pv 3) (pv 6)) (pa_cons (pe_op op_fdivW (pv 5) (pv 6)) pa_nil)))))
  (pss_cons (ps_set (i := 8) sc_chinese.nd rfl (Or.inl rfl) (pe_op op_mulW (pe_op op_fdivW (pv 3) (pv 6)) (pv 5)))
  (pss_one (ps_ret (pe_tup (pa_cons (pe_op op_mod (pe_op op_add (pv 2) (pe_op op_mulW (pv 3) (pe_op op_mod (pv 7) (pe_op op_fdivW (pv 5) (pv 6))))) (pv 8)) (pa_cons (pv 8) pa_nil))))))))))), ?_⟩
    have p1 : 0 < m1 := by omega
    have p2 : 0 < m2 := by omega
    have hg := gd_pos (m1 := m1) (m2 := m2) p1
    have gl := gd_le (m1 := m1) (m2 := m2) p1
    have hgp1 : 0 < m1 / Gd m1 m2 := Int.ediv_pos_of_pos_of_dvd p1 (Int.le_of_lt hg) (gd_l _ _)
    have hgp2 : 0 < m2 / Gd m1 m2 := Int.ediv_pos_of_pos_of_dvd p2 (Int.le_of_lt hg) (gd_r _ _)
    have hle1 : m1 / Gd m1 m2 ≤ m1 := Int.ediv_le_self _ (by omega)
    have hle2 : m2 / Gd m1 m2 ≤ m2 := Int.ediv_le_self _ (by omega)
    have dg : ∀ i, CDivW i (Gd m1 m2) := fun i => wide_div (i := i) (b := 200) hg (by omega) (by decide) (by decide)
    refine q_unp (v_var rfl) ha rfl ⟨_, _, rfl, _, _, rfl, rfl, ?_⟩
    refine q_unp (v_var rfl) hb rfl ⟨_, _, rfl, _, _, rfl, rfl, ?_⟩
    refine q_set (v_cb (a_cons (v_var rfl) (a_cons (v_var rfl) a_nil)) c_gcd) ?_
    refine q_when (b_test (v_op (v_op (v_op (v_var rfl) (v_var rfl) r_I0) (v_var rfl) (r_I hg)) v_c (r_ne rfl))) (fun hb => ?_) (fun hb => ?_)
    · refine s_ret v_c (k1 (chin_none h1 h2 h4 h5 ?_) _ (Same.refl _))
      intro e
      have e2 : V.int ((r2 - r1) % Gd m1 m2) = V.int 0 := by rw [e]
      rw [decide_eq_true e2] at hb
      cases hb
    · have e0 : (r2 - r1) % Gd m1 m2 = 0 := by
        by_cases e : V.int ((r2 - r1) % Gd m1 m2) = V.int 0
        · exact V.int.inj e
        · rw [decide_eq_false e] at hb
          cases hb
      refine c_op (v_op (v_op (v_var rfl) (v_var rfl) r_I0) (v_var rfl) (r_I (C := CDivW) (dg _))) ?_
      refine c_call (a_cons (v_op (v_var rfl) (v_var rfl) (r_I (C := CDivW) (dg _))) (a_cons (v_op (v_var rfl) (v_var rfl) (r_I (C := CDivW) (dg _))) a_nil)) ?_
      refine ⟨_, _, rfl, hgp1, hgp2, gd_co p1 p2, by omega, by omega, fun u H1 s1 hu => ?_⟩
      have hu0 := hu.1
      have hu1 := hu.2.1
      have bd : ((r2 - r1) / Gd m1 m2).natAbs < 2 ^ 200 := by
        have q := Int.natAbs_ediv_le_natAbs (r2 - r1) (Gd m1 m2)
        omega
      refine ⟨_, _, rfl, rfl, wide_mul (a := 200) (b := 200) bd (by omega) (by decide) (by decide) (by decide), ?_⟩
      refine q_set (v_op (v_op (v_var rfl) (v_var rfl) (r_I (C := CDivW) (dg _))) (v_var rfl) (r_I (C := CMulW) (wide_mul (a := 200) (b := 200) (by omega) (by omega) (by decide) (by decide) (by decide)))) ?_
      have hM := chM_pos p1 p2
      have hs0 := Int.emod_nonneg ((r2 - r1) / Gd m1 m2 * u) (show m2 / Gd m1 m2 ≠ 0 by omega)
      have hs1 := Int.emod_lt_of_pos ((r2 - r1) / Gd m1 m2 * u) hgp2
      have fin := chin_some h1 h2 h4 h5 e0 hu
      -- the answer
      refine s_retTup (vs := [.int (chR r1 m1 r2 m2 u), .int (chM m1 m2)]) (a_cons (v_op (v_op (v_var rfl) (v_op (v_var rfl) (v_op (v_var rfl) (v_op (v_var rfl) (v_var rfl) (r_I (C := CDivW) (dg _))) (r_I hgp2)) (r_I (C := CMulW) (wide_mul (a := 200) (b := 200) (by omega) (by omega) (by decide) (by decide) (by decide)))) r_I0) (v_var rfl) (r_I (C := fun _ j => 0 < j) hM)) (a_cons (v_var rfl) a_nil)) (by show 2 ≤ 100000; decide) fun p hp => ?_
      exact k2 _ _ p _ (s1.trans (Same.new hp)) upd_same fin.1.1 fin.1.2 (chM_le p1 p2) fin.2

def spSolved (K : PySem.W.Frag) : Sp := fun vs H Q _ => ∃ g r m : Int, vs = [.int g, .int r, .int m] ∧ -2 ≤ g ∧ g ≤ 2 ∧ 0 < m ∧ m % 2 = 0 ∧ ∀ p H', Same H H' → PrL K H' p (sol g r m) → Q (.ref p) H'
theorem dec_eqI {i j : Int} : decide (V.int i = V.int j) = decide (i = j) := by
  rw [Bool.eq_iff_iff]
  simp
theorem pr_one {H : Hp} {p l : Addr} {i j : Int} (hp : H p = none) (hl : upd H p (.tup [.int i, .int j]) l = none) : Same H (upd (upd H p (.tup [.int i, .int j])) l (.lst [.ref p])) ∧ PrL K (upd (upd H p (.tup [.int i, .int j])) l (.lst [.ref p])) l [(i, j)] :=
  ⟨(Same.new hp).trans (Same.new hl), _, upd_same, .cons ⟨p, rfl, SqT.of (Same.new hl _ _ upd_same)⟩ .nil⟩
theorem sc_solved : FnScope ["factor", "right", "modulus"] ["factor", "right", "modulus"] (defScope sSolved) := ⟨rfl, rfl, rfl, by decide +kernel, rfl, by decide +kernel, by decide +kernel⟩
theorem ok_solved (F : FnP K "solved" "solved" sSolved [] f fd) (T : Tx K mg) : FnOk P w K mg base CX0 1 f fd ["factor", "right", "modulus"] (spSolved K) := by
  refine ok_of F sc_solved (fun vs H Q E h => ?_) (fun cdv A outer s H vs Q E hr h => ?_)
  · obtain ⟨_, _, _, rfl, _⟩ := h
    rfl
  · obtain ⟨g, r, m, rfl, g0, g1, hm, he, k⟩ := h
    refine ⟨_, (pss_cons (ps_if (pt_cmpR op_lt (pv 0) pe_int (nomark _))
  (pss_cons (ps_set (i := 0) sc_solved.nd rfl (Or.inl rfl) (pe_un un_neg (pv 0)))
  (pss_one (ps_set (i := 1) sc_solved.nd rfl (Or.inl rfl) (pe_un un_neg (pv 1)))))
  pss_nil)
  (pss_cons (ps_if (pt_cmpR op_eq (pv 0) pe_int (nomark _))
  (pss_one (ps_ret (pe_ifExp (pt_cmpR op_eq (pe_op op_mod (pv 1) (pv 2)) pe_int (nomark _)) (pe_callTy call_list_of (by rfl) T.nolist (by decide +kernel) (pa_cons (pe_glob (v := .ref (He.ga K "WHOLE")) rfl T.whole rfl) pa_nil)) (pe_lst pa_nil))))
  pss_nil)
  (pss_cons (ps_if (pt_cmpR op_eq (pv 0) pe_int (nomark _))
  (pss_one (ps_ret (pe_lst (pa_cons (pe_tup (pa_cons (pe_op op_mod (pv 1) (pv 2)) (pa_cons (pv 2) pa_nil))) pa_nil))))
  pss_nil)
  (pss_cons (ps_if (pt_cmpR op_eq (pe_op op_mod (pv 2) pe_int) pe_int (nomark _))
  (pss_one (ps_ret (pe_lst (pa_cons (pe_tup (pa_cons (pe_op op_mod (pe_op op_mul (pv 1) (pe_op op_fdiv (pe_op op_add (pv 2) pe_int) pe_int)) (pv 2)) (pa_cons (pv 2) pa_nil))) pa_nil))))
  pss_nil)
  (pss_cons (ps_if (pt_cmpR op_eq (pe_op op_mod (pv 1) pe_int) pe_int (nomark _))
  (pss_one (ps_ret (pe_lst pa_nil)))
  pss_nil)
  (pss_one (ps_ret (pe_lst (pa_cons (pe_tup (pa_cons (pe_op op_mod (pe_op op_fdiv (pv 1) pe_int) (pe_op op_fdiv (pv 2) pe_int)) (pa_cons (pe_op op_fdiv (pv 2) pe_int) pa_nil))) pa_nil))))))))), ?_⟩
    refine q_ifTo (b := decide (g < 0)) ?_ (fun σ' => ∃ g' r' : Int, σ' = [some (.int g'), some (.int r'), some (.int m)] ∧ 0 ≤ g' ∧ g' ≤ 2 ∧ sol g' r' m = sol g r m) ?_ ?_ ?_
    · walk_at "pv"
    · rintro σ' ⟨g', r', rfl, z0, z1, es⟩
      rw [← es] at k
      clear es
      refine q_when (b := decide (g' = 0)) ?_ (fun hb => ?_) (fun hb => ?_)
      · rw [← dec_eqI]
        walk_at "pv"
      · have e := of_decide_eq_true hb
        subst e
        refine s_retC (c_if (b := decide (r' % m = 0)) ?_ (fun hc => ?_) (fun hc => ?_))
        · rw [← dec_eqI]
          walk_at "pv"
        · have e := of_decide_eq_true hc
          refine ⟨_, _, rfl, .inl (T.wholeL H), fun l hl => k l _ (Same.new hl) ?_⟩
          have es : sol 0 r' m = [(0, 1)] := by
            unfold sol
            rw [if_pos rfl, if_pos e]
          rw [es]
          exact ⟨_, upd_same, .cons ⟨_, rfl, T.wholeP _⟩ .nil⟩
        · have e := of_decide_eq_false hc
          refine ⟨by show 0 ≤ sizeLine; decide, fun l hl => k l _ (Same.new hl) ?_⟩
          have es : sol 0 r' m = [] := by
            unfold sol
            rw [if_pos rfl, if_neg e]
          rw [es]
          exact ⟨_, upd_same, .nil⟩
      have n0 := of_decide_eq_false hb
      refine q_when (b := decide (g' = 1)) ?_ (fun hb => ?_) (fun hb => ?_)
      · rw [← dec_eqI]
        walk_at "pv"
      · have e := of_decide_eq_true hb
        subst e
        refine s_retLst1 (i := r' % m) (j := m) (a_cons (v_op (v_var rfl) (v_var rfl) (r_I hm)) (a_cons (v_var rfl) a_nil)) fun p l hp hl => ?_
        obtain ⟨q1, q2⟩ := pr_one (K := K) hp hl
        refine k l _ q1 ?_
        have es : sol 1 r' m = [(r' % m, m)] := rfl
        rw [es]
        exact q2
      have n1 := of_decide_eq_false hb
      have eg : g' = 2 := by omega
      subst eg
      refine q_when (b := decide (m % 2 = 1)) ?_ (fun hb => ?_) (fun hb => ?_)
      · rw [← dec_eqI]
        walk_at "pv"
      · have e := of_decide_eq_true hb
        omega
      refine q_when (b := decide (r' % 2 = 1)) ?_ (fun hb => ?_) (fun hb => ?_)
      · rw [← dec_eqI]
        walk_at "pv"
      · have e := of_decide_eq_true hb
        refine ⟨by show 0 ≤ sizeLine; decide, fun l hl => k l _ (Same.new hl) ?_⟩
        have es : sol 2 r' m = [] := by
          unfold sol
          rw [if_neg (by decide), if_neg (by decide), if_neg (by decide), if_pos rfl, if_pos e]
        rw [es]
        exact ⟨_, upd_same, .nil⟩
      have e := of_decide_eq_false hb
      have h2 : 0 < m / 2 := by omega
      refine s_retLst1 (i := r' / 2 % (m / 2)) (j := m / 2) (a_cons (v_op (v_op (v_var rfl) v_c (r_I (C := CDiv) ⟨by decide, by decide⟩)) (v_op (v_var rfl) v_c (r_I (C := CDiv) ⟨by decide, by decide⟩)) (r_I h2)) (a_cons (v_op (v_var rfl) v_c (r_I (C := CDiv) ⟨by decide, by decide⟩)) a_nil)) fun p l hp hl => ?_
      obtain ⟨q1, q2⟩ := pr_one (K := K) hp hl
      refine k l _ q1 ?_
      have es : sol 2 r' m = [(r' / 2 % (m / 2), m / 2)] := by
        unfold sol
        rw [if_neg (by decide), if_neg (by decide), if_neg (by decide), if_pos rfl, if_neg e]
      rw [es]
      exact q2
    · intro hb kk
      have hg := of_decide_eq_true hb
      refine q_set (v_un (v_var rfl) r_U) (s_set (v_un (v_var rfl) r_U) (kk _ ⟨-g, -r, rfl, by omega, by omega, ?_⟩))
      have z : g = -1 ∨ g = -2 := by omega
      rcases z with z | z
      · subst z
        rfl
      · subst z
        rfl
    · intro hb kk
      have hg := of_decide_eq_false hb
      exact kk _ ⟨g, r, rfl, by omega, g1, rfl⟩
end
end Cu
end
section
set_option Elab.async false
set_option linter.all false
set_option maxRecDepth 100000
set_option maxHeartbeats 4000000
namespace Cu
open PySem PySem.Spec PyProof.Rows L2 CuM
local macro_rules | `(tactic| walk_at "hp") => `(tactic| first
  | assumption
  | exact SqT.of (by assumption)
  | exact SqL.of (by assumption)
  | (apply SqT.of; walk_at "hq")
  | (apply SqL.of; walk_at "hq")
  | walk_at "hq")
local macro_rules | `(tactic| walk_at "hq") => `(tactic| first
  | assumption
  | exact upd_same
  | (refine Same.new (by assumption) _ _ ?_; walk_at "hq")
  | (refine Same.tup (Same.new (by assumption)) ?_; walk_at "hp")
  | (refine L2.Same.seq (Same.new (by assumption)) ?_; walk_at "hp"))
local macro_rules | `(tactic| walk_at "pv") => `(tactic| first
  | with_reducible exact v_c
  | ((with_reducible apply v_var); rfl)
  | (with_reducible apply v_op) <;> walk_at "pv"
  | (with_reducible apply v_un) <;> walk_at "pv"
  | (with_reducible apply v_fld) <;> walk_at "pv"
  | (with_reducible apply v_chain) <;> walk_at "pv"
  | (with_reducible apply v_and) <;> walk_at "pv"
  | (with_reducible apply v_or) <;> walk_at "pv"
  | (with_reducible apply v_not) <;> walk_at "pv"
  | (with_reducible apply v_isN) <;> walk_at "pv"
  | (with_reducible apply v_notN) <;> walk_at "pv"
  | (with_reducible apply v_cb) <;> walk_at "pv"
  | with_reducible exact a_nil
  | (with_reducible apply a_cons) <;> walk_at "pv"
  | (with_reducible apply b_test) <;> walk_at "pv"
  | (with_reducible apply b_B) <;> walk_at "pv"
  | (with_reducible apply b_and) <;> walk_at "pv"
  | (with_reducible apply b_or) <;> walk_at "pv"
  | (with_reducible apply b_not) <;> walk_at "pv"
  | with_reducible exact r_I0
  | with_reducible exact r_U
  | ((with_reducible apply r_I); walk_at "side")
  | ((with_reducible apply r_ixT); walk_at "hp"; first | rfl | assumption)
  | ((with_reducible apply r_ixL); walk_at "hp"; first | rfl | assumption)
  | ((with_reducible apply r_eq); rfl)
  | ((with_reducible apply r_ne); rfl)
  | ((with_reducible apply r_inT); walk_at "hp"; rfl; first | rfl | assumption)
  | ((with_reducible apply r_inL); walk_at "hp"; rfl; first | rfl | assumption)
  | with_reducible exact o_none
  | (with_reducible apply o_some) <;> walk_at "pv"
  | (intro _; walk_at "pv")
  | assumption
  | rfl
  | walk_at "side")
local macro_rules | `(tactic| walk_at "side") => `(tactic| first
  | assumption
  | (show (0 : Int) < _; first | decide | omega)
  | (show (0 : Int) < _ ∧ _ < (1073741824 : Int); exact ⟨by decide, by decide⟩)
  | walk_at "hp"
  | rfl)

/-! ### united, point_classes, meeting_classes -/
/-- the key of a class in the dict -/
def kP (c : Int × Int) : List Key := [Sum.inl c.2, Sum.inl c.1]
theorem kP_inj {a b : Int × Int} (h : kP a = kP b) : a = b := by
  unfold kP at h
  injection h with h1 h2
  injection h2 with h3 _
  exact Prod.ext (Sum.inl.inj h3) (Sum.inl.inj h1)
theorem put_keys {kvs : List (List Key × V)} {ps : List (Int × Int)} {c : Int × Int} {v : V} (h : kvs.map (·.1) = ps.map kP) :
    ∃ qs : List (Int × Int), (putK kvs (kP c) v).map (·.1) = qs.map kP ∧ ((c ∈ ps ∧ qs = ps) ∨ (c ∉ ps ∧ qs = ps ++ [c])) := by
  by_cases hc : c ∈ ps
  · refine ⟨ps, ?_, Or.inl ⟨hc, rfl⟩⟩
    have hk : (valV kvs (kP c)).isSome = true := by
      rw [← valV_any, List.any_eq_true]
      have : kP c ∈ kvs.map (·.1) := by
        rw [h]
        exact List.mem_map.mpr ⟨c, hc, rfl⟩
      obtain ⟨kv, h1, h2⟩ := List.mem_map.mp this
      exact ⟨kv, h1, decide_eq_true h2⟩
    rw [← h]
    unfold putK
    rw [valV_any, if_pos hk, List.map_map]
    refine List.map_congr_left fun kv _ => ?_
    simp only [Function.comp]
    split <;> rfl
  · refine ⟨ps ++ [c], ?_, Or.inr ⟨hc, rfl⟩⟩
    have hk : valV kvs (kP c) = none := by
      cases e : valV kvs (kP c) with
      | none => rfl
      | some z =>
        exfalso
        have q : (valV kvs (kP c)).isSome = true := by rw [e]; rfl
        rw [← valV_any, List.any_eq_true] at q
        obtain ⟨kv, h1, h2⟩ := q
        have : kv.1 ∈ ps.map kP := by
          rw [← h]
          exact List.mem_map.mpr ⟨kv, h1, rfl⟩
        obtain ⟨d, d1, d2⟩ := List.mem_map.mp this
        have e2 := kP_inj (d2.trans (of_decide_eq_true h2))
        exact hc (e2 ▸ d1)
    rw [putK_new v hk, List.map_append, List.map_append, h]
    rfl
theorem keys_prN {H : Hp} : ∀ {kvs : List (List Key × V)} {bs : List Addr} {ps : List (Int × Int)}, IsKeys H kvs bs → kvs.map (·.1) = ps.map kP → Paired (fun (v : V) (c : Int × Int) => ∃ a, v = .ref a ∧ H a = some (.tup [.int c.2, .int c.1])) (bs.map V.ref) ps
  | [], _, ps, .nil, h => by
    cases ps with
    | nil => exact .nil
    | cons p ps => cases h
  | kv :: kvs, _, ps, .cons (b := b) r t, h => by
    cases ps with
    | nil => cases h
    | cons p ps =>
      rw [List.map_cons, List.map_cons] at h
      injection h with h1 h2
      refine .cons ⟨b, rfl, ?_⟩ (keys_prN t h2)
      rw [h1] at r
      exact r
def spUnited (K : PySem.W.Frag) : Sp := fun vs H Q _ => ∃ (a b : Addr) (one other : List (Int × Int)), vs = [.ref a, .ref b] ∧ PrL K H a one ∧ PrL K H b other ∧ one.length ≤ 64 ∧ other.length ≤ 64 ∧
  ∀ (p : Addr) (H' : Hp) (cs : List (Int × Int)), Same H H' → H p = none → PrL K H' p cs → Uni one other cs → Q (.ref p) H'
section
variable {P : Program} {w : World} {K : PySem.W.Frag} {mg : Str → Option Value} {base : Heap} {f : Addr} {fd : FuncData}
theorem sc_united : FnScope ["one", "other", "found", "remainder", "modulus"] ["one", "other"] (defScope sUnited) := ⟨rfl, rfl, rfl, by decide +kernel, rfl, by decide +kernel, by decide +kernel⟩
theorem ok_united (F : FnP K "united" "united" sUnited [] f fd) (T : Tx K mg) : FnOk P w K mg base CX0 1 f fd ["one", "other"] (spUnited K) := by
  refine ok_of F sc_united (fun vs H Q E h => ?_) (fun cdv A outer s H vs Q E hr h => ?_)
  · obtain ⟨_, _, _, _, rfl, _⟩ := h
    rfl
  · obtain ⟨a, b, one, other, rfl, ⟨xs, ha, hxs⟩, ⟨ys, hb, hys⟩, l1, l2, k⟩ := h
    have z1 := Paired.length hxs
    have z2 := Paired.length hys
    refine ⟨_, (pss_cons (ps_if (PW.pt (pw_or (pt_cmpR (op_inD (hu65 hr)) (pe_ix ix_list (pe_glob (v := .ref (He.ga K "WHOLE")) rfl T.whole rfl) pe_int (fun _ _ => rfl)) (pv 0) rfl) (pw_or1 (pt_cmpR (op_inD (hu65 hr)) (pe_ix ix_list (pe_glob (v := .ref (He.ga K "WHOLE")) rfl T.whole rfl) pe_int (fun _ _ => rfl)) (pv 1) rfl))))
  (pss_one (ps_ret (pe_callTy call_list_of (by rfl) T.nolist (by decide +kernel) (pa_cons (pe_glob (v := .ref (He.ga K "WHOLE")) rfl T.whole rfl) pa_nil))))
  pss_nil)
  (pss_cons (ps_set (i := 2) sc_united.nd rfl (Or.inl rfl) pe_dnewT)
  (pss_cons (ps_for PassesOwn.never rfl (pi_list (pe_op op_cat (pv 0) (pv 1))) (pg_tup rfl (pgs_cons (pg_name (i := 3) sc_united.nd rfl (Or.inl rfl)) (pgs_cons (pg_name (i := 4) sc_united.nd rfl (Or.inl rfl)) pgs_nil)))
  (pss_one (ps_dput (hu_of hr) (pv 2) (pe_tup (pa_cons (pv 4) (pa_cons (pv 3) pa_nil))) pe_bl rfl)))
  (pss_one (ps_ret (pe_lc (own := [("modulus", 4), ("remainder", 3)]) rfl sc_united.nd (pi_list (pe_callB cr_sortedP (by rfl) T.nosorted (by decide +kernel) (pa_cons (pe_callTy (call_list_dT rfl) (by rfl) T.nolist (by decide +kernel) (pa_cons (pv 2) pa_nil)) pa_nil))) (blkOk_by (own := [("modulus", 4), ("remainder", 3)]) (N := ["one", "other", "found", "remainder", "modulus"]) (sc := defScope sUnited) (by decide +kernel)) (fun _ _ _ _ _ => (show PG _ _ (gTup K 2 _) from pg_tup rfl (pgs_cons (pg_name (i := 4) sc_united.nd rfl (Or.inl rfl)) (pgs_cons (pg_name (i := 3) sc_united.nd rfl (Or.inl rfl)) pgs_nil)))) (fun _ _ _ _ _ => pts_nil) (fun _ _ _ _ _ => (pe_tup (pa_cons (pv 3) (pa_cons (pv 4) pa_nil)))))))))), ?_⟩
    have wp : Pr K H (.ref (wholeT K)) (0, 1) := ⟨_, rfl, T.wholeP H⟩
    refine q_when (b_or (b_test (v_op (v_op v_c v_c (r_ixL (T.wholeL H) rfl)) (v_var rfl) (r_inPrL wp (SqL.of ha) hxs))) fun _ => b_test (v_op (v_op v_c v_c (r_ixL (T.wholeL H) rfl)) (v_var rfl) (r_inPrL wp (SqL.of hb) hys))) (fun hc => ?_) (fun hc => ?_)
    · refine ⟨_, _, rfl, .inl (T.wholeL H), fun l hl => k l _ [(0, 1)] (Same.new hl) hl ⟨_, upd_same, .cons ⟨_, rfl, T.wholeP _⟩ .nil⟩ (Or.inl ⟨?_, rfl⟩)⟩
      simpa using hc
    · have hno : ¬ ((0, 1) ∈ one ∨ (0, 1) ∈ other) := by simpa using hc
      -- found = {}
      intro d hd
      have nad : a ≠ d := ne_of_none ha hd
      have nbd : b ≠ d := ne_of_none hb hd
      -- one + other
      refine ⟨_, rfl, _, rfl, a, b, xs, ys, rfl, rfl, by rw [upd_ne nad]; exact ha, by rw [upd_ne nbd]; exact hb, size_of (by omega), fun p hp => ?_⟩
      have npd : p ≠ d := fun e => by
        rw [e, upd_same] at hp
        cases hp
      have hp0 : H p = none := by
        rw [upd_ne npd] at hp
        exact hp
      have all : PrAll K H (xs ++ ys) (one ++ other) := prd_app hxs hys
      have s0 : Same H (upd (upd H d (.dT [])) p (.lst (xs ++ ys))) := (Same.new hd).trans (Same.new hp)
      refine ⟨p, rfl, ⟨_, SqL.of upd_same⟩, for_list (D := { nx := _, rt := Q }) (K := K) (a := p) (xs := xs ++ ys) (fun i σ' H' => ∃ (v3 v4 : Option V) (kvs : List (List Key × V)) (ps : List (Int × Int)), σ' = [some (.ref a), some (.ref b), some (.ref d), v3, v4] ∧ Same H H' ∧
        H' p = some (.lst (xs ++ ys)) ∧ H' d = some (.dT kvs) ∧ kvs.map (·.1) = ps.map kP ∧ ps.Nodup ∧ (∀ c, c ∈ ps ↔ c ∈ (one ++ other).take i) ∧ ps.length ≤ i)
        ⟨none, none, [], [], rfl, s0, upd_same, by rw [upd_ne npd.symm, upd_same], rfl, List.nodup_nil, fun c => by simp, Nat.zero_le _⟩ (fun i σ' H' _ ⟨_, _, _, _, _, _, q, _⟩ => SqL.of q) ?_ ?_⟩
      · rintro i x σ' H' hi ⟨v3, v4, kvs, ps, rfl, s1, hp1, hd1, ek, nd, mem, len⟩
        obtain ⟨c, hc1, ⟨e, rfl, he⟩⟩ := prd_get all hi
        have he1 : SqT K H' e [.int c.1, .int c.2] := Same.tup s1 he
        refine ⟨e, _, rfl, he1, rfl, _, _, rfl, _, _, rfl, rfl, ?_⟩
        -- found[modulus, remainder] = True
        refine ⟨_, rfl, _, rfl, _, rfl, by show 2 ≤ sizeLine; decide, fun t ht => ?_⟩
        have ntd : t ≠ d := fun z => by
          rw [z, hd1] at ht
          cases ht
        have ntp : t ≠ p := fun z => by
          rw [z, hp1] at ht
          cases ht
        have hil : i < (xs ++ ys).length := (List.getElem?_eq_some_iff.mp hi).1
        have hil2 : i < (one ++ other).length := (List.getElem?_eq_some_iff.mp hc1).1
        have lk : kvs.length = ps.length := by
          have := congrArg List.length ek
          simpa using this
        refine ⟨d, _, rfl, DPut.t (k := kP c) (by rw [upd_ne ntd.symm]; exact hd1) upd_same (size_lt (by rw [List.length_append] at hil2; omega)), ?_⟩
        obtain ⟨qs, q1, q2⟩ := put_keys (c := c) (v := V.bl true) ek
        have tk : (one ++ other).take (i + 1) = (one ++ other).take i ++ [c] := by
          rw [List.take_succ, hc1]
          rfl
        refine ⟨_, _, _, qs, rfl, Same.mut (s1.trans (Same.new ht)) hd, by rw [upd_ne npd, upd_ne ntp.symm]; exact hp1, upd_same, q1, ?_⟩
        rw [tk]
        rcases q2 with ⟨q2, rfl⟩ | ⟨q2, rfl⟩
        · refine ⟨nd, fun z => ?_, by omega⟩
          rw [mem z, List.mem_append, List.mem_singleton]
          constructor
          · exact Or.inl
          · rintro (y | y)
            · exact y
            · exact y ▸ (mem c).mp q2
        · refine ⟨?_, fun z => ?_, by rw [List.length_append]; show ps.length + 1 ≤ i + 1; omega⟩
          · rw [List.nodup_append]
            refine ⟨nd, List.pairwise_singleton _ _, fun x hx y hy => ?_⟩
            rw [List.mem_singleton] at hy
            intro e
            exact q2 (hy ▸ e ▸ hx)
          · rw [List.mem_append, List.mem_append, mem z]
      · rintro σ' H' ⟨v3, v4, kvs, ps, rfl, s1, hp1, hd1, ek, nd, mem, len⟩
        -- the comprehension over sorted(list(found))
        refine ⟨_, rfl, d, kvs, rfl, .inl hd1, fun l bs hl hk => ?_⟩
        have kp := keys_prN hk ek
        have s2 : Same H' (upd H' l (.lst (bs.map V.ref))) := Same.new hl
        refine ⟨l, bs.map V.ref, rfl, SqL.of upd_same, fun x hx => ?_, fun zs q perm hq => ?_⟩
        · obtain ⟨c, _, e, r1, r2⟩ := prd_mem kp hx
          exact ⟨e, c.2, c.1, r1, s2 _ _ r2⟩
        · obtain ⟨ds, dp, kd⟩ := prd_perm perm kp
          have s3 : Same (upd H' l (.lst (bs.map V.ref))) (upd (upd H' l (.lst (bs.map V.ref))) q (.lst zs)) := Same.new hq
          have zl := Paired.length kd
          have dl := dp.length_eq
          refine ⟨q, rfl, ⟨_, SqL.of upd_same⟩, lc_L (K := K) (SqL.of upd_same) (by rw [List.length_append] at len; omega) (fun i acc A => PrAll K A acc (ds.take i)) (fun i acc A B tk r => prAll_up tk r) .nil ?_ ?_⟩
          · intro i x acc H2 Dl Qk hi hD s4 hacc hl2 r kq
            obtain ⟨c, hc1, e, rfl, he⟩ := prd_get kd hi
            have he2 : SqT K H2 e [.int c.2, .int c.1] := SqT.of (s4 _ _ (s3 _ _ (s2 _ _ he)))
            refine ⟨e, _, rfl, he2, rfl, _, _, rfl, _, _, rfl, rfl, rfl, ?_⟩
            refine ⟨_, rfl, _, rfl, by show 2 ≤ sizeLine; decide, fun t ht => kq _ _ (s4.trans (Same.new ht)) (Same.new ht _ _ hacc) ?_⟩
            have tk : ds.take (i + 1) = ds.take i ++ [c] := by
              rw [List.take_succ, hc1]
              rfl
            show PrAll K _ _ (ds.take (i + 1))
            rw [tk]
            exact Paired.snoc (prAll_up (Same.keep (Same.new ht)) r) ⟨t, rfl, SqT.of upd_same⟩
          · intro Dl acc H2 hD s4 hacc hl2 r
            have r' : PrAll K H2 acc (ds.take zs.length) := r
            rw [zl, List.take_length] at r'
            refine k Dl H2 ds (s1.trans (s2.trans (s3.trans s4))) ((s1.trans (s2.trans s3)).free hD) ⟨acc, hacc, r'⟩ (Or.inr ⟨hno, dp.nodup_iff.mpr nd, fun c => ?_, ?_⟩)
            · rw [dp.mem_iff, mem c]
              have : (one ++ other).take (xs ++ ys).length = one ++ other := by
                rw [Paired.length all, List.take_length]
              rw [this, List.mem_append]
            · rw [List.length_append] at len
              omega
end
end Cu
end
section
set_option Elab.async false
set_option linter.all false
set_option maxRecDepth 100000
set_option maxHeartbeats 4000000
namespace CuM
theorem Cl.congr {B : Int} {cs : List (Int × Int)} {P P' : Int → Prop} (h : Cl B cs P) (k : ∀ t, P t ↔ P' t) : Cl B cs P' := ⟨fun t => (h.sat t).trans (k t), h.dj, h.ok, h.len⟩
end CuM
namespace Cu
open PySem PySem.Spec PyProof.Rows L2 CuM
local macro_rules | `(tactic| walk_at "hp") => `(tactic| first
  | assumption
  | exact SqT.of (by assumption)
  | exact SqL.of (by assumption)
  | (apply SqT.of; walk_at "hq")
  | (apply SqL.of; walk_at "hq")
  | walk_at "hq")
local macro_rules | `(tactic| walk_at "hq") => `(tactic| first
  | assumption
  | exact upd_same
  | (refine Same.new (by assumption) _ _ ?_; walk_at "hq")
  | (refine Same.tup (Same.new (by assumption)) ?_; walk_at "hp")
  | (refine L2.Same.seq (Same.new (by assumption)) ?_; walk_at "hp"))
local macro_rules | `(tactic| walk_at "pv") => `(tactic| first
  | with_reducible exact v_c
  | ((with_reducible apply v_var); rfl)
  | (with_reducible apply v_op) <;> walk_at "pv"
  | (with_reducible apply v_un) <;> walk_at "pv"
  | (with_reducible apply v_fld) <;> walk_at "pv"
  | (with_reducible apply v_chain) <;> walk_at "pv"
  | (with_reducible apply v_and) <;> walk_at "pv"
  | (with_reducible apply v_or) <;> walk_at "pv"
  | (with_reducible apply v_not) <;> walk_at "pv"
  | (with_reducible apply v_isN) <;> walk_at "pv"
  | (with_reducible apply v_notN) <;> walk_at "pv"
  | (with_reducible apply v_cb) <;> walk_at "pv"
  | with_reducible exact a_nil
  | (with_reducible apply a_cons) <;> walk_at "pv"
  | (with_reducible apply b_test) <;> walk_at "pv"
  | (with_reducible apply b_B) <;> walk_at "pv"
  | (with_reducible apply b_and) <;> walk_at "pv"
  | (with_reducible apply b_or) <;> walk_at "pv"
  | (with_reducible apply b_not) <;> walk_at "pv"
  | with_reducible exact r_I0
  | with_reducible exact r_U
  | ((with_reducible apply r_I); walk_at "side")
  | ((with_reducible apply r_ixT); walk_at "hp"; first | rfl | assumption)
  | ((with_reducible apply r_ixL); walk_at "hp"; first | rfl | assumption)
  | ((with_reducible apply r_eq); rfl)
  | ((with_reducible apply r_ne); rfl)
  | ((with_reducible apply r_inT); walk_at "hp"; rfl; first | rfl | assumption)
  | ((with_reducible apply r_inL); walk_at "hp"; rfl; first | rfl | assumption)
  | with_reducible exact o_none
  | (with_reducible apply o_some) <;> walk_at "pv"
  | (intro _; walk_at "pv")
  | assumption
  | rfl
  | walk_at "side")
local macro_rules | `(tactic| walk_at "side") => `(tactic| first
  | assumption
  | (show (0 : Int) < _; first | decide | omega)
  | (show (0 : Int) < _ ∧ _ < (1073741824 : Int); exact ⟨by decide, by decide⟩)
  | walk_at "hp"
  | rfl)

def spPtCls (K : PySem.W.Frag) : Sp := fun vs H Q _ => ∃ size at_ step goal : Int, vs = [.int size, .int at_, .int step, .int goal] ∧ 1 ≤ size ∧ Step step ∧
  ∀ (p : Addr) (H' : Hp) (cs : List (Int × Int)), Same H H' → H p = none → PrL K H' p cs → Cl (2 * size) cs (fun t => On size (at_ + step * t) goal) → Q (.ref p) H'
def spMeCls (K : PySem.W.Frag) : Sp := fun vs H Q _ => ∃ size at_ step other move : Int, vs = [.int size, .int at_, .int step, .int other, .int move] ∧ 1 ≤ size ∧ Step step ∧ Step move ∧
  ∀ (p : Addr) (H' : Hp) (cs : List (Int × Int)), Same H H' → H p = none → PrL K H' p cs → Cl (2 * size) cs (fun t => On size (at_ + step * t) (other + move * t)) → Q (.ref p) H'
section
variable {P : Program} {w : World} {K : PySem.W.Frag} {mg : Str → Option Value} {base : Heap} {f : Addr} {fd : FuncData}
theorem two_r {H : Hp} {i : Int} : Rp (rI CMul fun i j => .int (i * j)) (.int 2) (.int i) H (.int (2 * i)) := r_I (C := CMul) (.inl ⟨by decide, by decide⟩)
theorem sc_point_classes : FnScope ["size", "at", "step", "goal"] ["size", "at", "step", "goal"] (defScope sPtCls) := ⟨rfl, rfl, rfl, by decide +kernel, rfl, by decide +kernel, by decide +kernel⟩
theorem ok_ptCls (F : FnP K "point_classes" "point_classes" sPtCls [] f fd) (T : Tx K mg) (G_solved : Df P w K mg base 1 "solved" ["factor", "right", "modulus"] (spSolved K)) (G_united : Df P w K mg base 1 "united" ["one", "other"] (spUnited K)) : FnOk P w K mg base CX0 2 f fd ["size", "at", "step", "goal"] (spPtCls K) := by
  refine ok_of F sc_point_classes (fun vs H Q E h => ?_) (fun cdv A outer s H vs Q E hr h => ?_)
  · obtain ⟨_, _, _, _, rfl, _⟩ := h
    rfl
  · obtain ⟨size, at_, step, goal, rfl, hs, hst, k⟩ := h
    refine ⟨_, (pss_one (ps_ret (pe_df G_united hr (pa_cons (pe_df G_solved hr (pa_cons (pv 2) (pa_cons (pe_op op_sub (pv 3) (pv 1)) (pa_cons (pe_op op_mul pe_int (pv 0)) pa_nil)))) (pa_cons (pe_df G_solved hr (pa_cons (pv 2) (pa_cons (pe_op op_sub (pe_un un_neg (pv 3)) (pv 1)) (pa_cons (pe_op op_mul pe_int (pv 0)) pa_nil)))) pa_nil))))), ?_⟩
    unfold CuM.Step at hst
    refine s_retC (c_callC (c_consC (c_call (a_cons (v_var rfl) (a_cons (v_op (v_var rfl) (v_var rfl) r_I0) (a_cons (v_op v_c (v_var rfl) two_r) a_nil))) ?_)))
    refine ⟨step, goal - at_, 2 * size, rfl, by omega, by omega, by omega, by omega, fun p1 H1 s1 h1 => ?_⟩
    refine c_consC (c_call (a_cons (v_var rfl) (a_cons (v_op (v_un (v_var rfl) r_U) (v_var rfl) r_I0) (a_cons (v_op v_c (v_var rfl) two_r) a_nil))) ?_)
    refine ⟨step, -goal - at_, 2 * size, rfl, by omega, by omega, by omega, by omega, fun p2 H2 s2 h2 => ?_⟩
    have l1 := sol_len step (goal - at_) (2 * size)
    have l2 := sol_len step (-goal - at_) (2 * size)
    refine ⟨p1, p2, _, _, rfl, h1.up s2, h2, by omega, by omega, fun p H3 cs s3 f3 h3 hu => ?_⟩
    refine k p H3 cs (s1.trans (s2.trans s3)) ((s1.trans s2).free f3) h3 ((uni_sol (by omega) (by omega) (by omega) (by omega) (by omega) (by omega) (Or.inl rfl) hu).congr fun t => ?_)
    unfold On
    rw [show at_ + step * t - goal = step * t - (goal - at_) by omega, show at_ + step * t + goal = step * t - (-goal - at_) by omega]
theorem sc_meeting_classes : FnScope ["size", "at", "step", "other", "move"] ["size", "at", "step", "other", "move"] (defScope sMeCls) := ⟨rfl, rfl, rfl, by decide +kernel, rfl, by decide +kernel, by decide +kernel⟩
theorem ok_meCls (F : FnP K "meeting_classes" "meeting_classes" sMeCls [] f fd) (T : Tx K mg) (G_solved : Df P w K mg base 1 "solved" ["factor", "right", "modulus"] (spSolved K)) (G_united : Df P w K mg base 1 "united" ["one", "other"] (spUnited K)) : FnOk P w K mg base CX0 2 f fd ["size", "at", "step", "other", "move"] (spMeCls K) := by
  refine ok_of F sc_meeting_classes (fun vs H Q E h => ?_) (fun cdv A outer s H vs Q E hr h => ?_)
  · obtain ⟨_, _, _, _, _, rfl, _⟩ := h
    rfl
  · obtain ⟨size, at_, step, other, move, rfl, hs, hst, hmv, k⟩ := h
    refine ⟨_, (pss_one (ps_ret (pe_df G_united hr (pa_cons (pe_df G_solved hr (pa_cons (pe_op op_sub (pv 2) (pv 4)) (pa_cons (pe_op op_sub (pv 3) (pv 1)) (pa_cons (pe_op op_mul pe_int (pv 0)) pa_nil)))) (pa_cons (pe_df G_solved hr (pa_cons (pe_op op_add (pv 2) (pv 4)) (pa_cons (pe_op op_sub (pe_un un_neg (pv 3)) (pv 1)) (pa_cons (pe_op op_mul pe_int (pv 0)) pa_nil)))) pa_nil))))), ?_⟩
    unfold CuM.Step at hst hmv
    refine s_retC (c_callC (c_consC (c_call (a_cons (v_op (v_var rfl) (v_var rfl) r_I0) (a_cons (v_op (v_var rfl) (v_var rfl) r_I0) (a_cons (v_op v_c (v_var rfl) two_r) a_nil))) ?_)))
    refine ⟨step - move, other - at_, 2 * size, rfl, by omega, by omega, by omega, by omega, fun p1 H1 s1 h1 => ?_⟩
    refine c_consC (c_call (a_cons (v_op (v_var rfl) (v_var rfl) r_I0) (a_cons (v_op (v_un (v_var rfl) r_U) (v_var rfl) r_I0) (a_cons (v_op v_c (v_var rfl) two_r) a_nil))) ?_)
    refine ⟨step + move, -other - at_, 2 * size, rfl, by omega, by omega, by omega, by omega, fun p2 H2 s2 h2 => ?_⟩
    have l1 := sol_len (step - move) (other - at_) (2 * size)
    have l2 := sol_len (step + move) (-other - at_) (2 * size)
    refine ⟨p1, p2, _, _, rfl, h1.up s2, h2, by omega, by omega, fun p H3 cs s3 f3 h3 hu => ?_⟩
    refine k p H3 cs (s1.trans (s2.trans s3)) ((s1.trans s2).free f3) h3 ((uni_sol (by omega) (by omega) (by omega) (by omega) (by omega) (by omega) (by omega) hu).congr fun t => ?_)
    unfold On
    have e1 : (step - move) * t = step * t - move * t := Int.sub_mul _ _ _
    have e2 : (step + move) * t = step * t + move * t := Int.add_mul _ _ _
    rw [e1, e2, show at_ + step * t - (other + move * t) = step * t - move * t - (other - at_) by omega, show at_ + step * t + (other + move * t) = step * t + move * t - (-other - at_) by omega]
end
end Cu
end
section
set_option Elab.async false
set_option linter.all false
set_option maxRecDepth 100000
set_option maxHeartbeats 4000000
namespace Cu
open PySem PySem.Spec PyProof.Rows L2 CuM
local macro_rules | `(tactic| walk_at "hp") => `(tactic| first
  | assumption
  | exact SqT.of (by assumption)
  | exact SqL.of (by assumption)
  | (apply SqT.of; walk_at "hq")
  | (apply SqL.of; walk_at "hq")
  | walk_at "hq")
local macro_rules | `(tactic| walk_at "hq") => `(tactic| first
  | assumption
  | exact upd_same
  | (refine Same.new (by assumption) _ _ ?_; walk_at "hq")
  | (refine Same.tup (Same.new (by assumption)) ?_; walk_at "hp")
  | (refine L2.Same.seq (Same.new (by assumption)) ?_; walk_at "hp"))
local macro_rules | `(tactic| walk_at "pv") => `(tactic| first
  | with_reducible exact v_c
  | ((with_reducible apply v_var); rfl)
  | (with_reducible apply v_op) <;> walk_at "pv"
  | (with_reducible apply v_un) <;> walk_at "pv"
  | (with_reducible apply v_fld) <;> walk_at "pv"
  | (with_reducible apply v_chain) <;> walk_at "pv"
  | (with_reducible apply v_and) <;> walk_at "pv"
  | (with_reducible apply v_or) <;> walk_at "pv"
  | (with_reducible apply v_not) <;> walk_at "pv"
  | (with_reducible apply v_isN) <;> walk_at "pv"
  | (with_reducible apply v_notN) <;> walk_at "pv"
  | (with_reducible apply v_cb) <;> walk_at "pv"
  | with_reducible exact a_nil
  | (with_reducible apply a_cons) <;> walk_at "pv"
  | (with_reducible apply b_test) <;> walk_at "pv"
  | (with_reducible apply b_B) <;> walk_at "pv"
  | (with_reducible apply b_and) <;> walk_at "pv"
  | (with_reducible apply b_or) <;> walk_at "pv"
  | (with_reducible apply b_not) <;> walk_at "pv"
  | with_reducible exact r_I0
  | with_reducible exact r_U
  | ((with_reducible apply r_I); walk_at "side")
  | ((with_reducible apply r_ixT); walk_at "hp"; first | rfl | assumption)
  | ((with_reducible apply r_ixL); walk_at "hp"; first | rfl | assumption)
  | ((with_reducible apply r_eq); rfl)
  | ((with_reducible apply r_ne); rfl)
  | ((with_reducible apply r_inT); walk_at "hp"; rfl; first | rfl | assumption)
  | ((with_reducible apply r_inL); walk_at "hp"; rfl; first | rfl | assumption)
  | with_reducible exact o_none
  | (with_reducible apply o_some) <;> walk_at "pv"
  | (intro _; walk_at "pv")
  | assumption
  | rfl
  | walk_at "side")
local macro_rules | `(tactic| walk_at "side") => `(tactic| first
  | assumption
  | (show (0 : Int) < _; first | decide | omega)
  | (show (0 : Int) < _ ∧ _ < (1073741824 : Int); exact ⟨by decide, by decide⟩)
  | walk_at "hp"
  | rfl)

/-! ### crossed -/
def AllLe (cs : List (Int × Int)) : Prop := ∀ c, c ∈ cs → 0 ≤ c.1 ∧ c.1 < c.2
def spCrossed (K : PySem.W.Frag) : Sp := fun vs H Q _ => ∃ (a b : Addr) (one other : List (Int × Int)), vs = [.ref a, .ref b] ∧ PrL K H a one ∧ PrL K H b other ∧ one.length ≤ 8 ∧ other.length ≤ 8 ∧ AllOk (2 ^ 100) one ∧ AllOk (2 ^ 100) other ∧ Disj one ∧ Disj other ∧
  ∀ (p : Addr) (H' : Hp) (cs : List (Int × Int)), Same H H' → PrL K H' p cs → (∀ t, Sat cs t ↔ (Sat one t ∧ Sat other t)) → Disj cs → AllLe cs → cs.length ≤ one.length * other.length → Q (.ref p) H'
/-- what is found so far -/
structure CrAt (H H' : Hp) (l : Addr) (acc : List V) (fs : List (Int × Int)) (S : Int → Prop) (n : Nat) : Prop where
  same : Same H H'
  at_ : H' l = some (.lst acc)
  prs : Paired (PrNs H') acc fs
  sat : ∀ t, Sat fs t ↔ S t
  dj : Disj fs
  ok : AllLe fs
  len : fs.length ≤ n
theorem CrAt.congr {H H' : Hp} {l : Addr} {acc : List V} {fs : List (Int × Int)} {S S' : Int → Prop} {n m : Nat} (h : CrAt H H' l acc fs S n) (k : ∀ t, S t ↔ S' t) (hm : n ≤ m) : CrAt H H' l acc fs S' m :=
  ⟨h.same, h.at_, h.prs, fun t => (h.sat t).trans (k t), h.dj, h.ok, Nat.le_trans h.len hm⟩
theorem CrAt.on {H H' H2 : Hp} {l : Addr} {acc : List V} {fs : List (Int × Int)} {S : Int → Prop} {n : Nat} (h : CrAt H H' l acc fs S n) (e : Same H' H2) : CrAt H H2 l acc fs S n :=
  ⟨h.same.trans e, e _ _ h.at_, prNs_up e h.prs, h.sat, h.dj, h.ok, h.len⟩
/-- one more -/
theorem CrAt.add {H H' : Hp} {l t : Addr} {acc : List V} {fs : List (Int × Int)} {S : Int → Prop} {n : Nat} {c : Int × Int} (hl : H l = none) (h : CrAt H H' l acc fs S n) (ht : H' t = none) (c0 : 0 ≤ c.1 ∧ c.1 < c.2)
    (hn : ∀ u, u % c.2 = c.1 → ¬ S u) : CrAt H (upd (upd H' t (.tup [.int c.2, .int c.1])) l (.lst (acc ++ [.ref t]))) l (acc ++ [.ref t]) (fs ++ [c]) (fun u => S u ∨ u % c.2 = c.1) (n + 1) := by
  have e1 := Same.new (o := .tup [.int c.2, .int c.1]) ht
  have hl1 := e1 _ _ h.at_
  have ntl : t ≠ l := fun z => by
    rw [z, h.at_] at ht
    cases ht
  refine ⟨Same.mut (h.same.trans e1) hl, upd_same, ?_, fun u => ?_, ?_, fun d hd => ?_, by rw [List.length_append]; have := h.len; show fs.length + 1 ≤ n + 1; omega⟩
  · exact Paired.snoc (prNs_mut hl1 (prNs_up e1 h.prs)) ⟨t, rfl, by rw [upd_ne ntl, upd_same]⟩
  · rw [sat_append, h.sat, sat_one]
  · unfold Disj
    rw [List.pairwise_append]
    refine ⟨h.dj, List.pairwise_singleton _ _, fun a ha b hb u hu => ?_⟩
    rw [List.mem_singleton] at hb
    subst hb
    exact hn u hu.2 ((h.sat u).mp ⟨a, ha, hu.1⟩)
  · rcases List.mem_append.mp hd with q | q
    · exact h.ok d q
    · rw [List.mem_singleton] at q
      exact q ▸ c0
theorem take_snoc {α : Type} {l : List α} {i : Nat} {c : α} (h : l[i]? = some c) : l.take (i + 1) = l.take i ++ [c] := by
  rw [List.take_succ, h]
  rfl
/-- a class and those ahead of it in a list of disjoint ones -/
theorem disj_take {cs : List (Int × Int)} {i : Nat} {c : Int × Int} (h : Disj cs) (hc : cs[i]? = some c) (t : Int) (ht : t % c.2 = c.1) : ¬ Sat (cs.take i) t := by
  have e : cs.take (i + 1) = cs.take i ++ [c] := take_snoc hc
  have hd : Disj (cs.take (i + 1)) := List.Pairwise.sublist (List.take_sublist _ _) h
  rw [e] at hd
  unfold Disj at hd
  rw [List.pairwise_append] at hd
  rintro ⟨d, hm, hd2⟩
  exact hd.2.2 d hm c (List.mem_singleton.mpr rfl) t ⟨hd2, ht⟩
section
variable {P : Program} {w : World} {K : PySem.W.Frag} {mg : Str → Option Value} {base : Heap} {f : Addr} {fd : FuncData}
theorem sc_crossed : FnScope ["one", "other", "found", "first", "second", "common", "modulus", "remainder"] ["one", "other"] (defScope sCrossed) := ⟨rfl, rfl, rfl, by decide +kernel, rfl, by decide +kernel, by decide +kernel⟩
theorem ok_crossed (F : FnP K "crossed" "crossed" sCrossed [] f fd) (T : Tx K mg) (G_chinese : Df P w K mg base 2 "chinese" ["one", "other"] (spChin K)) : FnOk P w K mg base CX0 3 f fd ["one", "other"] (spCrossed K) := by
  refine ok_of F sc_crossed (fun vs H Q E h => ?_) (fun cdv A outer s H vs Q E hr h => ?_)
  · obtain ⟨_, _, _, _, rfl, _⟩ := h
    rfl
  · obtain ⟨a, b, one, other, rfl, ⟨xs, ha, hxs⟩, ⟨ys, hb, hys⟩, l1, l2, o1, o2, d1, d2, k⟩ := h
    refine ⟨_, (pss_cons (ps_set (i := 2) sc_crossed.nd rfl (Or.inl rfl) (pe_lst pa_nil))
  (pss_cons (ps_for PassesOwn.never rfl (pi_list (pv 0)) (pg_name (i := 3) sc_crossed.nd rfl (Or.inl rfl))
  (pss_one (ps_for PassesOwn.never rfl (pi_list (pv 1)) (pg_name (i := 4) sc_crossed.nd rfl (Or.inl rfl))
  (pss_cons (ps_set (i := 5) sc_crossed.nd rfl (Or.inl rfl) (pe_df G_chinese hr (pa_cons (pv 3) (pa_cons (pv 4) pa_nil))))
  (pss_one (ps_if (pt_cmp (pc_notN (pv 5)))
  (pss_one (ps_expr (pe_bm PySem.F.plainAttrs_list PySem.F.slot_list_append PySem.F.type_list_append mt_append (pv 2) (pa_cons (pe_tup (pa_cons (pe_ix ix_tup (pv 5) pe_int (fun _ _ => rfl)) (pa_cons (pe_ix ix_tup (pv 5) pe_int (fun _ _ => rfl)) pa_nil))) pa_nil))))
  pss_nil))))))
  (pss_one (ps_ret (pe_lc (own := [("modulus", 6), ("remainder", 7)]) rfl sc_crossed.nd (pi_list (pe_callB cr_sortedP (by rfl) T.nosorted (by decide +kernel) (pa_cons (pv 2) pa_nil))) (blkOk_by (own := [("modulus", 6), ("remainder", 7)]) (N := ["one", "other", "found", "first", "second", "common", "modulus", "remainder"]) (sc := defScope sCrossed) (by decide +kernel)) (fun _ _ _ _ _ => (show PG _ _ (gTup K 2 _) from pg_tup rfl (pgs_cons (pg_name (i := 6) sc_crossed.nd rfl (Or.inl rfl)) (pgs_cons (pg_name (i := 7) sc_crossed.nd rfl (Or.inl rfl)) pgs_nil)))) (fun _ _ _ _ _ => pts_nil) (fun _ _ _ _ _ => (pe_tup (pa_cons (pv 7) (pa_cons (pv 6) pa_nil))))))))), ?_⟩
    have z1 := Paired.length hxs
    have z2 := Paired.length hys
    have big : ∀ i j : Nat, i ≤ one.length → j ≤ other.length → i * other.length + j ≤ 100 := fun i j hi hj => by
      have := Nat.mul_le_mul hi l2
      have := Nat.mul_le_mul_left i l2
      omega
    refine ⟨by show 0 ≤ sizeLine; decide, fun l hl => ?_⟩
    have s0 : Same H (upd H l (.lst [])) := Same.new hl
    refine q_forL (v_var rfl) (SqL.of (s0 _ _ ha)) (fun i σ' H' => ∃ (v3 v4 v5 : Option V) (acc : List V) (fs : List (Int × Int)), σ' = [some (.ref a), some (.ref b), some (.ref l), v3, v4, v5, none, none] ∧
      CrAt H H' l acc fs (fun t => Sat (one.take i) t ∧ Sat other t) (i * other.length)) ⟨none, none, none, [], [], rfl, s0, upd_same, .nil, fun t => ?_, List.Pairwise.nil, fun c hc => (by cases hc), Nat.zero_le _⟩ (fun i σ' H' _ ⟨_, _, _, _, _, _, C⟩ => SqL.of (C.same _ _ ha)) ?_ ?_
    · simp only [List.take_zero]
      exact ⟨fun q => absurd q (sat_nil t), fun q => absurd q.1 (sat_nil t)⟩
    · rintro i x σ' H' hi ⟨v3, v4, v5, acc, fs, rfl, C⟩
      obtain ⟨c, hc, e, rfl, he⟩ := prd_get hxs hi
      have ok1 := o1 c (List.mem_of_getElem? hc)
      have hi1 : i < one.length := (List.getElem?_eq_some_iff.mp hc).1
      refine s_forL (v_var rfl) (SqL.of (C.same _ _ hb)) (fun j σ2 H2 => ∃ (v4 v5 : Option V) (acc : List V) (fs : List (Int × Int)), σ2 = [some (.ref a), some (.ref b), some (.ref l), some (.ref e), v4, v5, none, none] ∧
        CrAt H H2 l acc fs (fun t => (Sat (one.take i) t ∧ Sat other t) ∨ (t % c.2 = c.1 ∧ Sat (other.take j) t)) (i * other.length + j)) ⟨v4, v5, acc, fs, rfl, C.congr (fun t => ?_) (Nat.le_refl _)⟩ (fun j σ2 H2 _ ⟨_, _, _, _, _, C⟩ => SqL.of (C.same _ _ hb)) ?_ ?_
      · simp only [List.take_zero]
        exact ⟨Or.inl, fun q => q.elim id fun z => absurd z.2 (sat_nil t)⟩
      · rintro j y σ2 H2 hj ⟨v4, v5, acc, fs, rfl, C⟩
        obtain ⟨d, hd, g, rfl, hg⟩ := prd_get hys hj
        have ok2 := o2 d (List.mem_of_getElem? hd)
        have hj1 : j < other.length := (List.getElem?_eq_some_iff.mp hd).1
        have tk := take_snoc hd
        have hb2 := big i j (Nat.le_of_lt hi1) (Nat.le_of_lt hj1)
        have st : ∀ t : Int, (((Sat (one.take i) t ∧ Sat other t) ∨ (t % c.2 = c.1 ∧ Sat (other.take j) t)) ∨ (t % c.2 = c.1 ∧ t % d.2 = d.1)) ↔ ((Sat (one.take i) t ∧ Sat other t) ∨ (t % c.2 = c.1 ∧ Sat (other.take (j + 1)) t)) := fun t => by
          rw [tk, sat_append, sat_one, or_assoc, ← and_or_left]
        -- common = chinese(first, second)
        refine q_call (a_cons (v_var rfl) (a_cons (v_var rfl) a_nil)) ?_
        refine ⟨e, g, c.1, c.2, d.1, d.2, rfl, Same.tup C.same he, Same.tup C.same hg, ok1.1, ok1.2.1, ok1.2.2, ok2.1, ok2.2.1, ok2.2.2, fun hno H3 s3 => ?_, fun r m p H3 s3 hp h0 h1 h2 h3 => ?_⟩
        · refine s_when (b_B (v_notN (v_var rfl))) (fun q => ?_) (fun _ => ?_)
          · cases q
          · refine ⟨_, _, acc, fs, rfl, (C.on s3).congr (fun t => ?_) (Nat.le_succ _)⟩
            rw [← st t]
            exact ⟨Or.inl, fun q => q.elim id fun z => absurd z (hno t)⟩
        · refine s_when (b_B (v_notN (v_var rfl))) (fun _ => ?_) (fun q => ?_)
          · have C3 := C.on s3
            have al : acc.length ≤ 100000 := by
              have q1 := Paired.length C3.prs
              have q2 := C3.len
              omega
            refine s_appTup (vs := [.int m, .int r]) (v_var rfl) (a_cons (v_op (v_var rfl) v_c (r_ixT (SqT.of hp) rfl)) (a_cons (v_op (v_var rfl) v_c (r_ixT (SqT.of hp) rfl)) a_nil)) (by show 2 ≤ 100000; decide) C3.at_ al fun t ht => ?_
            refine ⟨_, _, _, _, rfl, (C3.add (c := (r, m)) hl ht ⟨h0, h1⟩ (fun u hu => ?_)).congr (fun u => ?_) (by omega)⟩
            · obtain ⟨u1, u2⟩ := (h3 u).mp hu
              rintro (q | q)
              · exact disj_take d1 hc u u1 q.1
              · exact disj_take d2 hd u u2 q.2
            · rw [← st u, ← h3 u]
          · cases q
      · rintro σ2 H2 ⟨v4, v5, acc, fs, rfl, C⟩
        refine ⟨_, _, _, acc, fs, rfl, C.congr (fun t => ?_) (by rw [z2, Nat.add_mul]; omega)⟩
        rw [z2, List.take_length, take_snoc hc, sat_append, sat_one, or_and_right]
    · rintro σ' H' ⟨v3, v4, v5, acc, fs, rfl, C⟩
      have al : acc.length ≤ 100000 := by
        have q1 := Paired.length C.prs
        have q2 := C.len
        have q3 := big one.length 0 (Nat.le_refl _) (Nat.zero_le _)
        rw [z1] at q2
        omega
      -- [.. for modulus, remainder in sorted(found)]
      refine ⟨_, rfl, l, acc, rfl, SqL.of C.at_, fun x hx => ?_, fun zs q perm hq => ?_⟩
      · obtain ⟨c, _, e, r1, r2⟩ := prd_mem C.prs hx
        exact ⟨e, c.2, c.1, r1, r2⟩
      · obtain ⟨ds, dp, kd⟩ := prd_perm perm C.prs
        have s3 : Same H' (upd H' q (.lst zs)) := Same.new hq
        refine ⟨q, rfl, ⟨_, SqL.of upd_same⟩, lc_sw (K := K) (SqL.of upd_same) (prNs_up s3 kd) (by rw [perm.length_eq]; exact al) (fun _ _ => rfl) (fun _ _ => rfl) (fun _ _ => rfl) fun Dl H2 hD s4 hP => ?_⟩
        refine k Dl H2 ds (C.same.trans (s3.trans s4)) hP (fun t => ?_) (C.dj.perm dp.symm) (fun c hc => C.ok c (dp.mem_iff.mp hc)) ?_
        · rw [sat_perm dp, C.sat, z1, List.take_length]
        · rw [dp.length_eq, ← z1]
          exact C.len
end
end Cu
end
section
set_option Elab.async false
set_option linter.all false
set_option maxRecDepth 100000
set_option maxHeartbeats 4000000
namespace Cu
open PySem PySem.Spec PyProof.Rows L2 CuM
local macro_rules | `(tactic| walk_at "hp") => `(tactic| first
  | assumption
  | exact SqT.of (by assumption)
  | exact SqL.of (by assumption)
  | (apply SqT.of; walk_at "hq")
  | (apply SqL.of; walk_at "hq")
  | walk_at "hq")
local macro_rules | `(tactic| walk_at "hq") => `(tactic| first
  | assumption
  | exact upd_same
  | (refine Same.new (by assumption) _ _ ?_; walk_at "hq")
  | (refine Same.tup (Same.new (by assumption)) ?_; walk_at "hp")
  | (refine L2.Same.seq (Same.new (by assumption)) ?_; walk_at "hp"))
local macro_rules | `(tactic| walk_at "pv") => `(tactic| first
  | with_reducible exact v_c
  | ((with_reducible apply v_var); rfl)
  | (with_reducible apply v_op) <;> walk_at "pv"
  | (with_reducible apply v_un) <;> walk_at "pv"
  | (with_reducible apply v_fld) <;> walk_at "pv"
  | (with_reducible apply v_chain) <;> walk_at "pv"
  | (with_reducible apply v_and) <;> walk_at "pv"
  | (with_reducible apply v_or) <;> walk_at "pv"
  | (with_reducible apply v_not) <;> walk_at "pv"
  | (with_reducible apply v_isN) <;> walk_at "pv"
  | (with_reducible apply v_notN) <;> walk_at "pv"
  | (with_reducible apply v_cb) <;> walk_at "pv"
  | with_reducible exact a_nil
  | (with_reducible apply a_cons) <;> walk_at "pv"
  | (with_reducible apply b_test) <;> walk_at "pv"
  | (with_reducible apply b_B) <;> walk_at "pv"
  | (with_reducible apply b_and) <;> walk_at "pv"
  | (with_reducible apply b_or) <;> walk_at "pv"
  | (with_reducible apply b_not) <;> walk_at "pv"
  | with_reducible exact r_I0
  | with_reducible exact r_U
  | ((with_reducible apply r_I); walk_at "side")
  | ((with_reducible apply r_ixT); walk_at "hp"; first | rfl | assumption)
  | ((with_reducible apply r_ixL); walk_at "hp"; first | rfl | assumption)
  | ((with_reducible apply r_eq); rfl)
  | ((with_reducible apply r_ne); rfl)
  | ((with_reducible apply r_inT); walk_at "hp"; rfl; first | rfl | assumption)
  | ((with_reducible apply r_inL); walk_at "hp"; rfl; first | rfl | assumption)
  | with_reducible exact o_none
  | (with_reducible apply o_some) <;> walk_at "pv"
  | (intro _; walk_at "pv")
  | assumption
  | rfl
  | walk_at "side")
local macro_rules | `(tactic| walk_at "side") => `(tactic| first
  | assumption
  | (show (0 : Int) < _; first | decide | omega)
  | (show (0 : Int) < _ ∧ _ < (1073741824 : Int); exact ⟨by decide, by decide⟩)
  | walk_at "hp"
  | rfl)

/-! ### is_class, are_apart -/
theorem tyT {K : PySem.W.Frag} {H : Hp} {a : Addr} {xs : List V} (h : SqT K H a xs) : TyX K H (.ref a) (.type "tuple") := by
  rcases h with (h | ⟨o, h⟩) | ⟨o, its, n, h, c, _⟩
  · exact .base (.tup h)
  · exact .fTuple h
  · exact .kTuple h c
theorem kit_tup (K : PySem.W.Frag) : PySem.W.kitAny K (.type "tuple") [.type "tuple", .type "list"] = some true := by
  have h : PySem.W.kitOne K (.type "tuple") (.type "tuple") = some true := kit_ty (by decide +kernel)
  unfold PySem.W.kitAny
  rw [h]
theorem kit_int (K : PySem.W.Frag) : PySem.W.kitOne K (.type "int") (.type "int") = some true := kit_ty (by decide +kernel)
theorem all_true : ∀ n : Nat, (List.replicate n true).all id = true
  | 0 => rfl
  | n + 1 => by
    rw [List.replicate_succ, List.all_cons, all_true n]
    rfl
def spIsCls (K : PySem.W.Frag) : Sp := fun vs H Q _ => ∃ (a : Addr) (r m : Int), vs = [.ref a] ∧ SqT K H a [.int r, .int m] ∧ 0 ≤ r ∧ r < m ∧ ∀ H', Same H H' → Q (.bl true) H'
def spApart (K : PySem.W.Frag) : Sp := fun vs H Q _ => ∃ (a b : Addr) (r1 m1 r2 m2 : Int), vs = [.ref a, .ref b] ∧ SqT K H a [.int r1, .int m1] ∧ SqT K H b [.int r2, .int m2] ∧ 0 ≤ r1 ∧ r1 < m1 ∧ 0 ≤ r2 ∧ r2 < m2 ∧ (∀ t : Int, ¬ (t % m1 = r1 ∧ t % m2 = r2)) ∧ Q (.bl true) H
section
variable {P : Program} {w : World} {K : PySem.W.Frag} {mg : Str → Option Value} {base : Heap} {f : Addr} {fd : FuncData}
theorem sc_is_class : FnScope ["one", "part"] ["one"] (defScope sIsCls) := ⟨rfl, rfl, rfl, by decide +kernel, rfl, by decide +kernel, by decide +kernel⟩
theorem ok_isCls (F : FnP K "is_class" "is_class" sIsCls [] f fd) (T : Tx K mg) : FnOk P w K mg base CX0 1 f fd ["one"] (spIsCls K) := by
  refine ok_of F sc_is_class (fun vs H Q E h => ?_) (fun cdv A outer s H vs Q E hr h => ?_)
  · obtain ⟨_, _, _, rfl, _⟩ := h
    rfl
  · obtain ⟨a, r, m, rfl, ha, h0, h1, k⟩ := h
    refine ⟨_, (pss_cons (ps_if (PW.pt (pw_or (pt_not (pt_val (pe_callB call_isiT (by rfl) T.noisi (by decide +kernel) (pa_cons (pv 0) (pa_cons (pe_tup (pa_cons (pe_bltn (v := .ty "tuple") (by rfl) T.notuple boot_tuple rfl) (pa_cons (pe_bltn (v := .ty "list") (by rfl) T.nolist boot_list rfl) pa_nil))) pa_nil))))) (pw_or (pt_cmpR op_ne (pe_callB call_len_seq (by rfl) T.nolen PySem.boot_len (pa_cons (pv 0) pa_nil)) pe_int (nomark _)) (pw_or1 (pt_not (pt_val (pe_callB (cr_all rfl) (by rfl) T.noall (by decide +kernel) (pa_cons (pe_lc (own := [("part", 1)]) rfl sc_is_class.nd (pi_tup (pv 0)) (blkOk_by (own := [("part", 1)]) (N := ["one", "part"]) (sc := defScope sIsCls) (by decide +kernel)) (fun _ _ _ _ _ => (pg_name (i := 1) sc_is_class.nd rfl (Or.inl rfl))) (fun _ _ _ _ _ => pts_nil) (fun _ _ _ _ _ => (pe_callB (show CallR _ (.builtin "isinstance") (rIsi K) from call_isi) (by rfl) T.noisi (by decide +kernel) (pa_cons (pv 1) (pa_cons (pe_bltn (v := .ty "int") (by rfl) T.noint boot_int rfl) pa_nil))))) pa_nil))))))))
  (pss_one (ps_ret pe_bl))
  pss_nil)
  (pss_one (ps_ret (pe_chain op_le op_lt pe_int (pe_ix ix_tup (pv 0) pe_int (fun _ _ => rfl)) (pe_ix ix_tup (pv 0) pe_int (fun _ _ => rfl)))))), ?_⟩
    -- isinstance(one, (tuple, list))
    refine q_ifU (c_tOr ⟨_, rfl, by show 2 ≤ sizeLine; decide, fun p hp => ?_⟩)
    have s1 : Same H (upd H p (.tup [.ty "tuple", .ty "list"])) := Same.new hp
    have ha1 := Same.tup s1 ha
    refine ⟨_, p, _, _, _, true, rfl, upd_same, .cons (.ty _) (.cons (.ty _) .nil), tyT ha1, kit_tup K, true, rfl, iteF ?_⟩
    -- len(one) != 2
    refine c_tOr ⟨_, rfl, _, _, rfl, .inr ha1, rfl, _, rfl, iteF ?_⟩
    -- all([isinstance(part, int) for part in one])
    refine c_tNot (c_tB (c_cbC (c_consC (c_lcT (K := K) (v_var rfl) ha1 (by show 2 ≤ 100000; decide) (fun i acc A => acc = List.replicate i (V.bl true)) (fun i acc A B _ q => q) rfl ?_ ?_))))
    · intro i x acc H2 Dl Qk hi hD s4 hacc hl2 q kq
      have hx : ∃ z : Int, x = V.int z := by
        match i, hi with
        | 0, hi => exact ⟨r, (Option.some.inj hi).symm⟩
        | 1, hi => exact ⟨m, (Option.some.inj hi).symm⟩
        | n + 2, hi => cases hi
      obtain ⟨z, rfl⟩ := hx
      refine ⟨rfl, _, rfl, _, _, _, _, true, rfl, .ty _, .base (.int z), kit_int K, kq _ _ s4 hacc ?_⟩
      rw [q, List.replicate_succ']
    · intro Dl acc H2 hD s4 hacc hl2 q
      have ha2 := Same.tup s4 ha1
      refine ⟨Dl, List.replicate 2 true, rfl, SqL.of (by rw [hacc, q]; rfl), true, by rw [all_true], iteF ?_⟩
      refine s_ret (v_chain v_c (v_op (v_var rfl) v_c (r_ixT ha2 rfl)) r_I0 (fun _ => v_op (v_var rfl) v_c (r_ixT ha2 rfl)) (fun _ => r_I0)) ?_
      rw [decide_eq_true h0, decide_eq_true h1]
      exact k _ (s1.trans s4)
theorem sc_are_apart : FnScope ["one", "other", "divisor"] ["one", "other"] (defScope sApart) := ⟨rfl, rfl, rfl, by decide +kernel, rfl, by decide +kernel, by decide +kernel⟩
theorem ok_apart (F : FnP K "are_apart" "are_apart" sApart [] f fd) (T : Tx K mg) : FnOk P w K mg base CX0 1 f fd ["one", "other"] (spApart K) := by
  refine ok_of F sc_are_apart (fun vs H Q E h => ?_) (fun cdv A outer s H vs Q E hr h => ?_)
  · obtain ⟨_, _, _, _, _, _, rfl, _⟩ := h
    rfl
  · obtain ⟨a, b, r1, m1, r2, m2, rfl, ha, hb, h1, h2, h3, h4, hno, k⟩ := h
    refine ⟨_, (pss_cons (ps_set (i := 2) sc_are_apart.nd rfl (Or.inl rfl) (pe_callBfun cr_gcd (by rfl) T.gcd (pa_cons (pe_ix ix_tup (pv 0) pe_int (fun _ _ => rfl)) (pa_cons (pe_ix ix_tup (pv 1) pe_int (fun _ _ => rfl)) pa_nil))))
  (pss_one (ps_ret (pe_cmpR op_ne (pe_op op_mod (pe_ix ix_tup (pv 0) pe_int (fun _ _ => rfl)) (pv 2)) (pe_op op_mod (pe_ix ix_tup (pv 1) pe_int (fun _ _ => rfl)) (pv 2)) (nomark _))))), ?_⟩
    have hg := gd_pos (m1 := m1) (m2 := m2) (by omega)
    refine q_set (v_cb (a_cons (v_op (v_var rfl) v_c (r_ixT ha rfl)) (a_cons (v_op (v_var rfl) v_c (r_ixT hb rfl)) a_nil)) c_gcd) ?_
    refine s_ret (v_op (v_op (v_op (v_var rfl) v_c (r_ixT ha rfl)) (v_var rfl) (r_I hg)) (v_op (v_op (v_var rfl) v_c (r_ixT hb rfl)) (v_var rfl) (r_I hg)) (r_ne rfl)) ?_
    have e := apart h1 h2 h3 h4 hno
    rw [dec_eqI, decide_eq_false e]
    exact k
end
end Cu
end
section
set_option Elab.async false
set_option linter.all false
set_option maxRecDepth 100000
set_option maxHeartbeats 4000000
namespace Cu
open PySem PySem.Spec PyProof.Rows L2 CuM
local macro_rules | `(tactic| walk_at "hp") => `(tactic| first
  | assumption
  | exact SqT.of (by assumption)
  | exact SqL.of (by assumption)
  | (apply SqT.of; walk_at "hq")
  | (apply SqL.of; walk_at "hq")
  | walk_at "hq")
local macro_rules | `(tactic| walk_at "hq") => `(tactic| first
  | assumption
  | exact upd_same
  | (refine Same.new (by assumption) _ _ ?_; walk_at "hq")
  | (refine Same.tup (Same.new (by assumption)) ?_; walk_at "hp")
  | (refine L2.Same.seq (Same.new (by assumption)) ?_; walk_at "hp"))
local macro_rules | `(tactic| walk_at "pv") => `(tactic| first
  | with_reducible exact v_c
  | ((with_reducible apply v_var); rfl)
  | (with_reducible apply v_op) <;> walk_at "pv"
  | (with_reducible apply v_un) <;> walk_at "pv"
  | (with_reducible apply v_fld) <;> walk_at "pv"
  | (with_reducible apply v_chain) <;> walk_at "pv"
  | (with_reducible apply v_and) <;> walk_at "pv"
  | (with_reducible apply v_or) <;> walk_at "pv"
  | (with_reducible apply v_not) <;> walk_at "pv"
  | (with_reducible apply v_isN) <;> walk_at "pv"
  | (with_reducible apply v_notN) <;> walk_at "pv"
  | (with_reducible apply v_cb) <;> walk_at "pv"
  | with_reducible exact a_nil
  | (with_reducible apply a_cons) <;> walk_at "pv"
  | (with_reducible apply b_test) <;> walk_at "pv"
  | (with_reducible apply b_B) <;> walk_at "pv"
  | (with_reducible apply b_and) <;> walk_at "pv"
  | (with_reducible apply b_or) <;> walk_at "pv"
  | (with_reducible apply b_not) <;> walk_at "pv"
  | with_reducible exact r_I0
  | with_reducible exact r_U
  | ((with_reducible apply r_I); walk_at "side")
  | ((with_reducible apply r_ixT); walk_at "hp"; first | rfl | assumption)
  | ((with_reducible apply r_ixL); walk_at "hp"; first | rfl | assumption)
  | ((with_reducible apply r_eq); rfl)
  | ((with_reducible apply r_ne); rfl)
  | ((with_reducible apply r_inT); walk_at "hp"; rfl; first | rfl | assumption)
  | ((with_reducible apply r_inL); walk_at "hp"; rfl; first | rfl | assumption)
  | with_reducible exact o_none
  | (with_reducible apply o_some) <;> walk_at "pv"
  | (intro _; walk_at "pv")
  | assumption
  | rfl
  | walk_at "side")
local macro_rules | `(tactic| walk_at "side") => `(tactic| first
  | assumption
  | (show (0 : Int) < _; first | decide | omega)
  | (show (0 : Int) < _ ∧ _ < (1073741824 : Int); exact ⟨by decide, by decide⟩)
  | walk_at "hp"
  | rfl)

/-! ### Times -/
def ov : Option Int → V
  | none => .non
  | some t => .int t
structure TimAt (K : PySem.W.Frag) (H : Hp) (p : Addr) (st : Int) (e : Option Int) (cs : List (Int × Int)) : Prop where
  ob : ∃ dx fs a, H p = some (.ins (aTim K) dx fs) ∧ fl fs "start" = some (.int st) ∧ fl fs "end" = some (ov e) ∧ fl fs "classes" = some (.ref a) ∧ PrL K H a cs ∧ fl fs "is_within" = none ∧ fl fs "holds" = none ∧ fl fs "next_from" = none
  ok : AllLe cs
  len : cs.length ≤ 64
  dj : Disj cs
theorem TimAt.up {K : PySem.W.Frag} {H H' : Hp} {p : Addr} {st : Int} {e : Option Int} {cs : List (Int × Int)} (s : Same H H') (h : TimAt K H p st e cs) : TimAt K H' p st e cs := by
  obtain ⟨⟨dx, fs, a, h1, h2, h3, h4, h5, h6⟩, ok, ln, dj⟩ := h
  exact ⟨⟨dx, fs, a, s _ _ h1, h2, h3, h4, h5.up s, h6⟩, ok, ln, dj⟩
/-- all but p stand -/
def But (p : Addr) (H H' : Hp) : Prop := ∀ b o, H b = some o → b ≠ p → H' b = some o
def spTimI (K : PySem.W.Frag) : Sp := fun vs H Q _ => ∃ (x dx : Addr) (st : Int) (e : Option Int) (a : Addr) (cs : List (Int × Int)), vs = [.ref x, .int st, ov e, .ref a] ∧ H x = some (.ins (aTim K) dx []) ∧ (PrL K H a cs ∨ PrT K H a cs) ∧ 0 ≤ st ∧ (∀ t, e = some t → 0 ≤ t) ∧ cs.length ≤ 64 ∧ AllLe cs ∧ Disj cs ∧
  ∀ (H' : Hp) (cs' : List (Int × Int)), cs'.Perm cs → TimAt K H' x st e cs' → But x H H' → Q .non H'
theorem c_len {K : PySem.W.Frag} {H : Hp} {p : Addr} {ys : List V} (h : SqL K H p ys ∨ SqT K H p ys) : Cp (fun xs H Q => ∃ p ys, xs = [.ref p] ∧ (SqL K H p ys ∨ SqT K H p ys) ∧ Q (.int ys.length) H) [.ref p] H (.int ys.length) := fun Q q => ⟨p, ys, rfl, h, q⟩
section
variable {P : Program} {w : World} {K : PySem.W.Frag} {mg : Str → Option Value} {base : Heap} {f : Addr} {fd : FuncData}
theorem sc_TimesI : FnScope ["self", "start", "end", "classes", "rows", "one", "at", "modulus", "remainder", "other"] ["self", "start", "end", "classes"] (defScope sTimI) := ⟨rfl, rfl, rfl, by decide +kernel, rfl, by decide +kernel, by decide +kernel⟩
theorem ok_timI (F : FnP K "__init__" "Times.__init__" sTimI [] f fd) (T : Tx K mg) (G_is_class : Df P w K mg base 1 "is_class" ["one"] (spIsCls K)) (G_are_apart : Df P w K mg base 1 "are_apart" ["one", "other"] (spApart K)) : FnOk P w K mg base CX0 2 f fd ["self", "start", "end", "classes"] (spTimI K) := by
  refine ok_of F sc_TimesI (fun vs H Q E h => ?_) (fun cdv A outer s H vs Q E hr h => ?_)
  · obtain ⟨_, _, _, _, _, _, rfl, _⟩ := h
    rfl
  · obtain ⟨x, dx, st, e, a, cs, rfl, hx, hcs, h0, he, hlen, ok, dj, k⟩ := h
    refine ⟨_, (pss_cons (ps_if (PW.pt (pw_or (pt_cmpR op_lt (pv 1) pe_int (nomark _)) (pw_or (PW.pt (pw_and (pt_cmp (pc_notN (pv 2))) (pw_and1 (pt_cmpR op_lt (pv 2) pe_int (nomark _))))) (pw_or1 (pt_cmpR op_gt (pe_callB call_len_seq (by rfl) T.nolen PySem.boot_len (pa_cons (pv 3) pa_nil)) (pe_glob (v := .int 64) rfl T.mostC.choose_spec ⟨_, rfl⟩) (nomark _))))))
  (pss_one ps_never)
  pss_nil)
  (pss_cons (ps_set (i := 4) sc_TimesI.nd rfl (Or.inl rfl) (pe_lst pa_nil))
  (pss_cons (ps_for PassesOwn.never rfl (pi_seq (pv 3)) (pg_name (i := 5) sc_TimesI.nd rfl (Or.inr rfl))
  (pss_cons (ps_if (pt_not (pt_val (pe_df G_is_class hr (pa_cons (pv 5) pa_nil))))
  (pss_one ps_never)
  pss_nil)
  (pss_one (ps_expr (pe_bm PySem.F.plainAttrs_list PySem.F.slot_list_append PySem.F.type_list_append mt_append (pv 4) (pa_cons (pe_tup (pa_cons (pe_ix ix_tup (pv 5) pe_int (fun _ _ => rfl)) (pa_cons (pe_ix ix_tup (pv 5) pe_int (fun _ _ => rfl)) pa_nil))) pa_nil))))))
  (pss_cons (ps_fld (pv 0) (pv 1) rfl)
  (pss_cons (ps_fld (pv 0) (pv 2) rfl)
  (pss_cons (ps_fld (pv 0) (pe_lc (own := [("modulus", 7), ("remainder", 8)]) rfl sc_TimesI.nd (pi_list (pe_callB cr_sortedP (by rfl) T.nosorted (by decide +kernel) (pa_cons (pv 4) pa_nil))) (blkOk_by (own := [("modulus", 7), ("remainder", 8)]) (N := ["self", "start", "end", "classes", "rows", "one", "at", "modulus", "remainder", "other"]) (sc := defScope sTimI) (by decide +kernel)) (fun _ _ _ _ _ => (show PG _ _ (gTup K 2 _) from pg_tup rfl (pgs_cons (pg_name (i := 7) sc_TimesI.nd rfl (Or.inl rfl)) (pgs_cons (pg_name (i := 8) sc_TimesI.nd rfl (Or.inl rfl)) pgs_nil)))) (fun _ _ _ _ _ => pts_nil) (fun _ _ _ _ _ => (pe_tup (pa_cons (pv 8) (pa_cons (pv 7) pa_nil))))) rfl)
  (pss_one (ps_for PassesOwn.never rfl (pi_enum (by rfl) T.noenum (pa_cons (pe_fld (pv 0) rfl) pa_nil)) (pg_tup rfl (pgs_cons (pg_name (i := 6) sc_TimesI.nd rfl (Or.inl rfl)) (pgs_cons (pg_name (i := 5) sc_TimesI.nd rfl (Or.inr rfl)) pgs_nil)))
  (pss_one (ps_if (pt_not (pt_val (pe_callB (cr_all rfl) (by rfl) T.noall (by decide +kernel) (pa_cons (pe_lc (own := [("other", 9)]) rfl sc_TimesI.nd (pi_list (pe_slice sl_list (pe_fld (pv 0) rfl) (po_some (pe_op op_add (pv 6) pe_int)) po_none)) (blkOk_by (own := [("other", 9)]) (N := ["self", "start", "end", "classes", "rows", "one", "at", "modulus", "remainder", "other"]) (sc := defScope sTimI) (by decide +kernel)) (fun _ _ _ _ _ => (pg_name (i := 9) sc_TimesI.nd rfl (Or.inl rfl))) (fun _ _ _ _ _ => pts_nil) (fun _ _ _ _ _ => (pe_df G_are_apart hr (pa_cons (pv 5) (pa_cons (pv 9) pa_nil))))) pa_nil))))
  (pss_one ps_never)
  pss_nil)))))))))), ?_⟩
    have hcs2 : ∃ xs, (SqL K H a xs ∨ SqT K H a xs) ∧ PrAll K H xs cs := by
      rcases hcs with ⟨xs, h1, h2⟩ | ⟨xs, h1, h2⟩
      · exact ⟨xs, .inl (SqL.of h1), h2⟩
      · exact ⟨xs, .inr h1, h2⟩
    obtain ⟨xs, ha, hxs⟩ := hcs2
    have zx := Paired.length hxs
    -- if start < 0 or end is not None and end < 0 or len(classes) > MOST_CLASSES: raise
    refine q_no (b_is (b_or (b := false) (b_test (v_op (v_var rfl) v_c r_I0)) fun _ => b_is (b_or (a := false) (b := false) ?_ fun _ => b_is (b_test (v_op (v_cb (a_cons (v_var rfl) a_nil) (c_len ha)) v_c r_I0)) ?_) rfl) ?_) ?_
    · cases e with
      | none => exact b_is (b_and (b := true) (b_B (v_notN (v_var rfl))) (fun z => by cases z)) rfl
      | some t => exact b_is (b_and (b_B (v_notN (v_var rfl))) (fun z => b_test (v_op (v_var rfl) v_c r_I0))) (by
          have := he t rfl
          simp
          omega)
    · exact decide_eq_false (by omega)
    · rw [decide_eq_false (by omega)]
      rfl
    -- rows = []
    refine q_setLst a_nil (by show 0 ≤ 100000; decide) fun l hl => ?_
    have nlx : l ≠ x := fun z => by
      rw [z, hx] at hl
      cases hl
    have s0 : Same H (upd H l (.lst [])) := Same.new hl
    -- for one in classes
    refine q_forS (v_var rfl) ha (fun i σ' H' => ∃ (v5 : Option V) (acc : List V), σ' = [some (.ref x), some (.int st), some (ov e), some (.ref a), some (.ref l), v5, none, none, none, none] ∧
      Same H H' ∧ H' l = some (.lst acc) ∧ Paired (PrNs H') acc (cs.take i)) ⟨none, [], rfl, s0, upd_same, .nil⟩ (fun i σ' H' ⟨_, _, _, s1, _, _⟩ => s1) ?_ ?_
    · rintro i y σ' H' hi ⟨v5, acc, rfl, s1, hacc, prs⟩
      obtain ⟨c, hc, g, rfl, hg⟩ := prd_get hxs hi
      have okc := ok c (List.mem_of_getElem? hc)
      have hg1 := Same.tup s1 hg
      refine q_ifU (c_tNot (c_tB (c_callP (a_cons (v_var rfl) a_nil) ⟨g, c.1, c.2, rfl, hg1, okc.1, okc.2, fun H2 s2 => ⟨true, rfl, iteF ?_⟩⟩)))
      have hg2 := Same.tup s2 hg1
      have hil : i < cs.length := (List.getElem?_eq_some_iff.mp hc).1
      have al : acc.length ≤ 100000 := by
        have q1 := Paired.length prs
        rw [List.length_take] at q1
        omega
      refine s_appTup (vs := [.int c.2, .int c.1]) (v_var rfl) (a_cons (v_op (v_var rfl) v_c (r_ixT hg2 rfl)) (a_cons (v_op (v_var rfl) v_c (r_ixT hg2 rfl)) a_nil)) (by show 2 ≤ 100000; decide) (s2 _ _ hacc) al fun t ht => ?_
      have e1 := Same.new (o := .tup [.int c.2, .int c.1]) ht
      have ntl : t ≠ l := fun z => by
        rw [z, s2 _ _ hacc] at ht
        cases ht
      refine ⟨_, _, rfl, Same.mut (s1.trans (s2.trans e1)) hl, upd_same, ?_⟩
      rw [take_snoc hc]
      exact Paired.snoc (prNs_mut (e1 _ _ (s2 _ _ hacc)) (prNs_up e1 (prNs_up s2 prs))) ⟨t, rfl, by rw [upd_ne ntl, upd_same]⟩
    · rintro σ' H' ⟨v5, acc, rfl, s1, hacc, prs⟩
      rw [zx, List.take_length] at prs
      -- self.start = start; self.end = end
      have hx1 := s1 _ _ hx
      refine q_fld (v_var rfl) (v_var rfl) hx1 T.cTim T.timS (by show 0 < 1000; decide) ?_
      refine q_fld (v_var rfl) (v_var rfl) upd_same T.cTim T.timE (by show 1 < 1000; decide) ?_
      rw [upd_upd]
      have hl2 : ∀ o, (upd H' x o) l = some (.lst acc) := fun o => by
        rw [upd_ne nlx]
        exact hacc
      have prs2 : ∀ o, Paired (PrNs (upd H' x o)) acc cs := fun o => Paired.mapP prs fun _ _ ⟨b, q, z⟩ => ⟨b, q, by rw [upd_ne (ne_of z hx1 (by intro y; cases y))]; exact z⟩
      have al : acc.length ≤ 100000 := by
        have q1 := Paired.length prs
        omega
      -- self.classes = [..]
      refine q_fldC (c_lcSw (K := K) (a_cons (v_var rfl) a_nil) (hl2 _) (prs2 _) al (fun _ _ => rfl) (fun _ _ => rfl) (fun _ _ => rfl) fun Dl H2 ds hD dp s4 hP => ?_)
      have hx2 := s4 _ _ upd_same
      refine ⟨_, rfl, x, _, _, _, rfl, hx2, T.cTim, T.timC, by show 2 < 1000; decide, ?_⟩
      obtain ⟨ys, hD2, prl⟩ := hP
      have nDx : Dl ≠ x := fun z => by
        rw [z, hx2] at hD2
        cases hD2
      generalize hfs : putF ("classes" : Str) (V.ref Dl) (putF ("end" : Str) (ov e) (putF ("start" : Str) (V.int st) [])) = fs
      have f1 : fl fs "start" = some (.int st) := by
        rw [← hfs, fl_put, if_neg (by decide +kernel), fl_put, if_neg (by decide +kernel), fl_put, if_pos rfl]
      have f2 : fl fs "end" = some (ov e) := by
        rw [← hfs, fl_put, if_neg (by decide +kernel), fl_put, if_pos rfl]
      have f3 : fl fs "classes" = some (.ref Dl) := by
        rw [← hfs, fl_put, if_pos rfl]
      have f4 : ∀ m : Str, ¬ m = "classes" → ¬ m = "end" → ¬ m = "start" → fl fs m = none := fun m a1 a2 a3 => by
        rw [← hfs, fl_put, if_neg a1, fl_put, if_neg a2, fl_put, if_neg a3]
        rfl
      have hD3 : upd H2 x (.ins (aTim K) dx fs) Dl = some (.lst ys) := by
        rw [upd_ne nDx]
        exact hD2
      have prl3 : PrAll K (upd H2 x (.ins (aTim K) dx fs)) ys ds := prAll_up (keep_mutI hx2) prl
      have zy := Paired.length prl3
      have zd := dp.length_eq
      have okd : AllLe ds := fun c hc => ok c (dp.mem_iff.mp hc)
      have djd : Disj ds := dj.perm dp.symm
      have done : ∀ H3, Same (upd H2 x (.ins (aTim K) dx fs)) H3 → Q .non H3 := fun H3 s5 => by
        refine k H3 ds dp ⟨⟨dx, fs, Dl, s5 _ _ upd_same, f1, f2, f3, ⟨ys, s5 _ _ hD3, prAll_up (Same.keep s5) prl3⟩, f4 _ (by decide +kernel) (by decide +kernel) (by decide +kernel), f4 _ (by decide +kernel) (by decide +kernel) (by decide +kernel), f4 _ (by decide +kernel) (by decide +kernel) (by decide +kernel)⟩, okd, by omega, djd⟩ fun b o hb nb => ?_
        refine s5 _ _ ?_
        rw [upd_ne nb]
        refine s4 _ _ ?_
        rw [upd_ne nb]
        exact s1 _ _ hb
      -- for at, one in enumerate(self.classes)
      have hcl : ∀ σ' H3, σ'[0]? = some (some (.ref x)) → Same (upd H2 x (.ins (aTim K) dx fs)) H3 → Pv (tFld K (tVar 0) "classes") σ' H3 (.ref Dl) := fun σ' H3 h0 s5 => v_fld (v_var h0) (s5 _ _ upd_same) T.cTim T.timC f3
      refine s_forE (K := K) (xs := ys) (a_cons (hcl _ _ rfl (Same.refl _)) a_nil) (SqL.of hD3) (fun i σ' H3 => ∃ (v5 v6 : Option V), σ' = [some (.ref x), some (.int st), some (ov e), some (.ref a), some (.ref l), v5, v6, none, none, none] ∧ Same (upd H2 x (.ins (aTim K) dx fs)) H3)
        ⟨v5, none, rfl, Same.refl _⟩ (fun i σ' H3 _ ⟨_, _, _, s5⟩ => SqL.of (s5 _ _ hD3)) ?_ ?_
      · rintro i y σ' H3 t hi ⟨w5, w6, rfl, s5⟩ ht
        obtain ⟨c, hc, g, rfl, hg⟩ := prd_get prl3 hi
        have e5 := Same.new (o := .tup [.int (i : Nat), .ref g]) ht
        have s6 := s5.trans e5
        have okc := okd c (List.mem_of_getElem? hc)
        refine ⟨t, _, rfl, SqT.of upd_same, rfl, _, _, rfl, _, _, rfl, rfl, ?_⟩
        have hil : i < ds.length := (List.getElem?_eq_some_iff.mp hc).1
        -- if not all([are_apart(one, other) for other in self.classes[at + 1:]])
        refine s_ifU (c_tNot (c_tB (c_cbC (c_consC (c_lcN (K := K) (xs := ys.drop (i + 1)) (fun Q1 q1 => ?_) (by rw [List.length_drop]; omega) (fun n acc A => acc = List.replicate n (V.bl true)) (fun n acc A B _ q => q) (fun _ _ => rfl) ?_ ?_)))))
        · refine hcl _ _ rfl s6 _ ?_
          refine ⟨_, rfl, _, _, rfl, rfl, _, rfl, Dl, ys, rfl, SqL.of (s6 _ _ hD3), fun p hp => ?_⟩
          rw [cut_from]
          exact q1 p _ (Same.new hp) (SqL.of upd_same)
        · intro n y acc H4 D4 Qk hn hD4 s7 hacc4 hl4 r4 kq
          rw [List.getElem?_drop] at hn
          obtain ⟨d, hd, g2, rfl, hg2⟩ := prd_get prl3 hn
          have okd2 := okd d (List.mem_of_getElem? hd)
          refine ⟨rfl, c_callP (a_cons (v_var rfl) (a_cons (v_var rfl) a_nil)) ⟨g, g2, c.1, c.2, d.1, d.2, rfl, Same.tup (s6.trans s7) hg, Same.tup (s6.trans s7) hg2, okc.1, okc.2, okd2.1, okd2.2, ?_, kq _ _ (Same.refl _) ?_⟩⟩
          · obtain ⟨b1, b2⟩ := List.getElem?_eq_some_iff.mp hc
            obtain ⟨b3, b4⟩ := List.getElem?_eq_some_iff.mp hd
            have := List.pairwise_iff_getElem.mp djd i (i + 1 + n) b1 b3 (by omega)
            rw [b2, b4] at this
            exact this
          · rw [r4, List.replicate_succ']
        · intro D4 acc H4 hD4 s7 hacc4 hl4 r4
          refine ⟨D4, List.replicate (ys.drop (i + 1)).length true, rfl, SqL.of (by rw [hacc4, r4, List.map_replicate]), true, by rw [all_true], iteF ?_⟩
          exact ⟨_, _, rfl, s6.trans s7⟩
      · rintro σ' H3 ⟨w5, w6, rfl, s5⟩
        exact done H3 s5
end
end Cu
end
section
set_option Elab.async false
set_option linter.all false
set_option maxRecDepth 100000
set_option maxHeartbeats 4000000
namespace Cu
open PySem PySem.Spec PyProof.Rows L2 CuM
local macro_rules | `(tactic| walk_at "hp") => `(tactic| first
  | assumption
  | exact SqT.of (by assumption)
  | exact SqL.of (by assumption)
  | (apply SqT.of; walk_at "hq")
  | (apply SqL.of; walk_at "hq")
  | walk_at "hq")
local macro_rules | `(tactic| walk_at "hq") => `(tactic| first
  | assumption
  | exact upd_same
  | (refine Same.new (by assumption) _ _ ?_; walk_at "hq")
  | (refine Same.tup (Same.new (by assumption)) ?_; walk_at "hp")
  | (refine L2.Same.seq (Same.new (by assumption)) ?_; walk_at "hp"))
local macro_rules | `(tactic| walk_at "pv") => `(tactic| first
  | with_reducible exact v_c
  | ((with_reducible apply v_var); rfl)
  | (with_reducible apply v_op) <;> walk_at "pv"
  | (with_reducible apply v_un) <;> walk_at "pv"
  | (with_reducible apply v_fld) <;> walk_at "pv"
  | (with_reducible apply v_chain) <;> walk_at "pv"
  | (with_reducible apply v_and) <;> walk_at "pv"
  | (with_reducible apply v_or) <;> walk_at "pv"
  | (with_reducible apply v_not) <;> walk_at "pv"
  | (with_reducible apply v_isN) <;> walk_at "pv"
  | (with_reducible apply v_notN) <;> walk_at "pv"
  | (with_reducible apply v_cb) <;> walk_at "pv"
  | with_reducible exact a_nil
  | (with_reducible apply a_cons) <;> walk_at "pv"
  | (with_reducible apply b_test) <;> walk_at "pv"
  | (with_reducible apply b_B) <;> walk_at "pv"
  | (with_reducible apply b_and) <;> walk_at "pv"
  | (with_reducible apply b_or) <;> walk_at "pv"
  | (with_reducible apply b_not) <;> walk_at "pv"
  | with_reducible exact r_I0
  | with_reducible exact r_U
  | ((with_reducible apply r_I); walk_at "side")
  | ((with_reducible apply r_ixT); walk_at "hp"; first | rfl | assumption)
  | ((with_reducible apply r_ixL); walk_at "hp"; first | rfl | assumption)
  | ((with_reducible apply r_eq); rfl)
  | ((with_reducible apply r_ne); rfl)
  | ((with_reducible apply r_inT); walk_at "hp"; rfl; first | rfl | assumption)
  | ((with_reducible apply r_inL); walk_at "hp"; rfl; first | rfl | assumption)
  | with_reducible exact o_none
  | (with_reducible apply o_some) <;> walk_at "pv"
  | (intro _; walk_at "pv")
  | assumption
  | rfl
  | walk_at "side")
local macro_rules | `(tactic| walk_at "side") => `(tactic| first
  | assumption
  | (show (0 : Int) < _; first | decide | omega)
  | (show (0 : Int) < _ ∧ _ < (1073741824 : Int); exact ⟨by decide, by decide⟩)
  | walk_at "hp"
  | rfl)

/-! ### Times: is_within, holds, next_from -/
def spWithin (K : PySem.W.Frag) : Sp := fun vs H Q _ => ∃ (p : Addr) (t st : Int) (e : Option Int) (cs : List (Int × Int)), vs = [.ref p, .int t] ∧ TimAt K H p st e cs ∧ Q (.bl (within st e t)) H
def spHolds (K : PySem.W.Frag) : Sp := fun vs H Q _ => ∃ (p : Addr) (t st : Int) (e : Option Int) (cs : List (Int × Int)), vs = [.ref p, .int t] ∧ TimAt K H p st e cs ∧ ∀ (b : Bool) H', Same H H' → (b = true ↔ (within st e t = true ∧ Sat cs t)) → Q (.bl b) H'
def spNext (K : PySem.W.Frag) : Sp := fun vs H Q _ => ∃ (p : Addr) (t st : Int) (e : Option Int) (cs : List (Int × Int)), vs = [.ref p, .int t] ∧ TimAt K H p st e cs ∧
  (∀ H' u, Same H H' → IsNext cs (if st > t then st else t) u → within st e u = true → Q (.int u) H') ∧
  ∀ H', Same H H' → (∀ u, (if st > t then st else t) ≤ u → Sat cs u → ¬ within st e u = true) → Q .non H'
theorem s_nextU {D : Ends} {σ : L2.St} {H : Hp} (k : D.nx σ H) : tNext D σ H := k
section
variable {P : Program} {w : World} {K : PySem.W.Frag} {mg : Str → Option Value} {base : Heap} {f : Addr} {fd : FuncData}
theorem sc_Times_is_within : FnScope ["self", "minute"] ["self", "minute"] (defScope sWithin) := ⟨rfl, rfl, rfl, by decide +kernel, rfl, by decide +kernel, by decide +kernel⟩
theorem ok_within (F : FnP K "is_within" "Times.is_within" sWithin [] f fd) (T : Tx K mg) : FnOk P w K mg base CX0 1 f fd ["self", "minute"] (spWithin K) := by
  refine ok_of F sc_Times_is_within (fun vs H Q E h => ?_) (fun cdv A outer s H vs Q E hr h => ?_)
  · obtain ⟨_, _, _, _, _, rfl, _⟩ := h
    rfl
  · obtain ⟨p, t, st, e, cs, rfl, ⟨⟨dx, fs, a, hp, f1, f2, f3, _⟩, _, _⟩, k⟩ := h
    refine ⟨_, (pss_one (ps_ret (pe_and (pe_cmpR op_ge (pv 1) (pe_fld (pv 0) rfl) (nomark _)) (pe_one (pe_or (pe_cmp (pc_isN (pe_fld (pv 0) rfl))) (pe_one (pe_cmpR op_le (pv 1) (pe_fld (pv 0) rfl) (nomark _)))))))), ?_⟩
    have v1 : Pv (tFld K (tVar 0) "start") (start ["self", "minute"] [.ref p, .int t]) H (.int st) := v_fld (v_var rfl) hp T.cTim T.timS f1
    have v2 : Pv (tFld K (tVar 0) "end") (start ["self", "minute"] [.ref p, .int t]) H (ov e) := v_fld (v_var rfl) hp T.cTim T.timE f2
    cases e with
    | none =>
      refine s_ret (v_and (v_op (v_var rfl) v1 r_I0) fun _ => v_or (b := true) (v_isN v2) fun z => by cases z) ?_
      exact k
    | some z =>
      refine s_ret (v_and (v_op (v_var rfl) v1 r_I0) fun _ => v_or (v_isN v2) fun _ => v_op (v_var rfl) v2 r_I0) ?_
      exact k
theorem sc_Times_holds : FnScope ["self", "minute", "remainder", "modulus"] ["self", "minute"] (defScope sHolds) := ⟨rfl, rfl, rfl, by decide +kernel, rfl, by decide +kernel, by decide +kernel⟩
theorem ok_holds (F : FnP K "holds" "Times.holds" sHolds [] f fd) (T : Tx K mg) (G_Times_is_within : Dm P w K mg base 1 (aTim K) "is_within" ["self", "minute"] (spWithin K)) : FnOk P w K mg base CX0 2 f fd ["self", "minute"] (spHolds K) := by
  refine ok_of F sc_Times_holds (fun vs H Q E h => ?_) (fun cdv A outer s H vs Q E hr h => ?_)
  · obtain ⟨_, _, _, _, _, rfl, _⟩ := h
    rfl
  · obtain ⟨p, t, st, e, cs, rfl, TA, k⟩ := h
    obtain ⟨⟨dx, fs, a, hp, f1, f2, f3, ⟨xs, hl, prl⟩, m1, m2, m3⟩, ok, ln⟩ := id TA
    refine ⟨_, (pss_cons (ps_if (pt_not (pt_val (pe_dm (pv 0) T.cTim G_Times_is_within hr (pa_cons (pv 1) pa_nil))))
  (pss_one (ps_ret pe_bl))
  pss_nil)
  (pss_one (ps_ret (pe_callB (cr_any rfl) (by rfl) T.noany (by decide +kernel) (pa_cons (pe_lc (own := [("remainder", 2), ("modulus", 3)]) rfl sc_Times_holds.nd (pi_list (pe_fld (pv 0) rfl)) (blkOk_by (own := [("remainder", 2), ("modulus", 3)]) (N := ["self", "minute", "remainder", "modulus"]) (sc := defScope sHolds) (by decide +kernel)) (fun _ _ _ _ _ => (show PG _ _ (gTup K 2 _) from pg_tup rfl (pgs_cons (pg_name (i := 2) sc_Times_holds.nd rfl (Or.inl rfl)) (pgs_cons (pg_name (i := 3) sc_Times_holds.nd rfl (Or.inl rfl)) pgs_nil)))) (fun _ _ _ _ _ => pts_nil) (fun _ _ _ _ _ => (pe_cmpR op_eq (pe_op op_mod (pv 1) (pv 3)) (pv 2) (nomark _)))) pa_nil))))), ?_⟩
    have zl := Paired.length prl
    refine q_when (b_not (b_B (v_meth (v_var rfl) hp m1 (a_cons (v_var rfl) a_nil) fun Q q => ⟨p, t, st, e, cs, rfl, TA, q⟩))) (fun hb => ?_) (fun hb => ?_)
    · refine s_ret v_c (k false H (Same.refl _) ?_)
      have : within st e t = false := by simpa using hb
      simp [this]
    · have hw : within st e t = true := by simpa using hb
      refine s_retC (c_cbC (c_consC (c_lcL (K := K) (v_fld (v_var rfl) hp T.cTim T.timC f3) (SqL.of hl) (by omega) (fun i acc A => acc = ((cs.take i).map fun c => V.bl (decide (t % c.2 = c.1)))) (fun i acc A B _ q => q) rfl ?_ ?_)))
      · intro i x acc H2 Dl Qk hi hD s4 hacc hl2 q kq
        obtain ⟨c, hc, g, rfl, hg⟩ := prd_get prl hi
        have okc := ok c (List.mem_of_getElem? hc)
        refine ⟨g, _, rfl, Same.tup s4 hg, rfl, _, _, rfl, _, _, rfl, rfl, rfl, ?_⟩
        refine c_pv (v_op (v_op (v_var rfl) (v_var rfl) (r_I (by show 0 < c.2; omega))) (v_var rfl) (r_eq rfl)) (kq _ _ s4 hacc ?_)
        rw [q, take_snoc hc, List.map_append, dec_eqI]
        rfl
      · intro Dl acc H2 hD s4 hacc hl2 q
        rw [zl, List.take_length] at q
        refine ⟨Dl, cs.map fun c => decide (t % c.2 = c.1), rfl, SqL.of (by rw [hacc, q, List.map_map]; rfl), k _ _ s4 ?_⟩
        rw [List.any_map, List.any_eq_true]
        constructor
        · rintro ⟨c, hc, z⟩
          exact ⟨hw, c, hc, of_decide_eq_true z⟩
        · rintro ⟨_, c, hc, z⟩
          exact ⟨c, hc, decide_eq_true z⟩
theorem sc_Times_next_from : FnScope ["self", "minute", "first", "found", "remainder", "modulus"] ["self", "minute"] (defScope sNext) := ⟨rfl, rfl, rfl, by decide +kernel, rfl, by decide +kernel, by decide +kernel⟩
theorem ok_next (F : FnP K "next_from" "Times.next_from" sNext [] f fd) (T : Tx K mg) (G_Times_is_within : Dm P w K mg base 1 (aTim K) "is_within" ["self", "minute"] (spWithin K)) : FnOk P w K mg base CX0 2 f fd ["self", "minute"] (spNext K) := by
  refine ok_of F sc_Times_next_from (fun vs H Q E h => ?_) (fun cdv A outer s H vs Q E hr h => ?_)
  · obtain ⟨_, _, _, _, _, rfl, _⟩ := h
    rfl
  · obtain ⟨p, t, st, e, cs, rfl, TA, k1, k2⟩ := h
    obtain ⟨⟨dx, fs, a, hp, f1, f2, f3, ⟨xs, hl, prl⟩, m1, m2, m3⟩, ok, ln⟩ := id TA
    refine ⟨_, (pss_cons (ps_set (i := 2) sc_Times_next_from.nd rfl (Or.inr rfl) (pe_callB (call_max2 rfl) (by rfl) T.nomax (by decide +kernel) (pa_cons (pv 1) (pa_cons (pe_fld (pv 0) rfl) pa_nil))))
  (pss_cons (ps_setLc (i := 3) (own := [("remainder", 4), ("modulus", 5)]) rfl sc_Times_next_from.nd rfl rfl (sw_true rfl rfl rfl (by decide +kernel)) (pi_list (pe_fld (pv 0) rfl)) (blkOk_by (own := [("remainder", 4), ("modulus", 5)]) (N := ["self", "minute", "first", "found", "remainder", "modulus"]) (sc := defScope sNext) (by decide +kernel)) (fun _ _ _ _ _ => (show PG _ _ (gTup K 2 _) from pg_tup rfl (pgs_cons (pg_name (i := 4) sc_Times_next_from.nd rfl (Or.inl rfl)) (pgs_cons (pg_name (i := 5) sc_Times_next_from.nd rfl (Or.inl rfl)) pgs_nil)))) (fun _ _ _ _ _ => pts_nil) (fun _ _ _ _ _ => (pe_op op_add (pv 2) (pe_op op_mod (pe_op op_sub (pv 4) (pv 2)) (pv 5)))))
  (pss_cons (ps_if (PW.pt (pw_or (pt_not (pt_truth (pv 3) (by intro _; rfl))) (pw_or1 (pt_not (pt_val (pe_dm (pv 0) T.cTim G_Times_is_within hr (pa_cons (pe_callB (cr_min rfl) (by rfl) T.nomin (by decide +kernel) (pa_cons (pv 3) pa_nil)) pa_nil)))))))
  (pss_one (ps_ret pe_non))
  pss_nil)
  (pss_one (ps_ret (pe_callB (cr_min rfl) (by rfl) T.nomin (by decide +kernel) (pa_cons (pv 3) pa_nil))))))), ?_⟩
    have zl := Paired.length prl
    generalize hA : (if st > t then st else t) = b at k1 k2
    refine q_set (v := .int b) (v_cb (a_cons (v_var rfl) (a_cons (v_fld (v_var rfl) hp T.cTim T.timS f1) a_nil)) fun Q q => ⟨t, st, rfl, by rw [hA]; exact q⟩) ?_
    refine q_setC (c_lcL (K := K) (v_fld (v_var rfl) hp T.cTim T.timC f3) (SqL.of hl) (by omega) (fun i acc A => acc = ((cs.take i).map (nx b)).map V.int) (fun i acc A B _ q => q) rfl ?_ ?_)
    · intro i x acc H2 Dl Qk hi hD s4 hacc hl2 q kq
      obtain ⟨c, hc, g, rfl, hg⟩ := prd_get prl hi
      have okc := ok c (List.mem_of_getElem? hc)
      refine ⟨g, _, rfl, Same.tup s4 hg, rfl, _, _, rfl, _, _, rfl, rfl, rfl, ?_⟩
      refine c_pv (v_op (v_var rfl) (v_op (v_op (v_var rfl) (v_var rfl) r_I0) (v_var rfl) (r_I (by show 0 < c.2; omega))) r_I0) (kq _ _ s4 hacc ?_)
      rw [q, take_snoc hc, List.map_append, List.map_append]
      rfl
    · intro Dl acc H2 hD s4 hacc hl2 q
      rw [zl, List.take_length] at q
      subst q
      have hlist : SqL K H2 Dl ((cs.map (nx b)).map V.int) := SqL.of hacc
      have TA2 := TA.up s4
      cases hcs : cs with
      | nil =>
        refine q_ifU (c_tOr ?_)
        refine c_tNot ?_
        refine ⟨_, rfl, false, .inl ⟨_, hlist, by rw [hcs]; rfl⟩, iteT (iteT ?_)⟩
        refine s_ret v_c (k2 _ s4 fun u _ su => ?_)
        rw [hcs] at su
        exact absurd su (sat_nil u)
      | cons c0 cr =>
        have hpos : 0 < (cs.map (nx b)).length := by
          rw [hcs]
          simp
        -- not found or not self.is_within(min(found))
        refine q_ifU (c_tOr ?_)
        refine c_tNot ?_
        refine ⟨_, rfl, true, .inl ⟨_, hlist, by rw [hcs]; rfl⟩, iteF ?_⟩
        refine c_tNot (c_tB ?_)
        refine ⟨_, rfl, p, dx, fs, rfl, s4 _ _ hp, m1, ?_⟩
        refine c_consC (c_cbC ?_)
        refine ⟨_, rfl, Dl, cs.map (nx b), rfl, hlist, hpos, fun m hm hmin => ?_⟩
        have hn := next_of ok hm hmin
        refine ⟨p, m, st, e, cs, rfl, TA2, _, rfl, ?_⟩
        cases hw : within st e m with
        | true =>
          refine iteF ?_
          refine s_nextU ?_
          dsimp only
          refine s_retC (c_cbC ?_)
          refine ⟨_, rfl, Dl, cs.map (nx b), rfl, hlist, hpos, fun m2 hm2 hmin2 => ?_⟩
          have hn2 := next_of ok hm2 hmin2
          have := hn.uniq hn2
          subst this
          exact k1 _ _ s4 hn hw
        | false =>
          refine iteT ?_
          refine s_ret v_c (k2 _ s4 fun u hu su wu => ?_)
          have hle := hn.2.2 u hu su
          have : within st e m = true := by
            unfold within at wu ⊢
            simp only [Bool.and_eq_true, decide_eq_true_eq] at wu ⊢
            have hb : st ≤ b := by
              rw [← hA]
              split <;> omega
            refine ⟨by have := hn.1; omega, ?_⟩
            cases e with
            | none => rfl
            | some z =>
              have := wu.2
              simp only [decide_eq_true_eq] at this ⊢
              omega
          rw [this] at hw
          cases hw
end
end Cu
end
section
set_option Elab.async false
set_option linter.all false
set_option maxRecDepth 100000
set_option maxHeartbeats 4000000
namespace Cu
open PySem PySem.Spec PyProof.Rows L2 CuM
local macro_rules | `(tactic| walk_at "hp") => `(tactic| first
  | assumption
  | exact SqT.of (by assumption)
  | exact SqL.of (by assumption)
  | (apply SqT.of; walk_at "hq")
  | (apply SqL.of; walk_at "hq")
  | walk_at "hq")
local macro_rules | `(tactic| walk_at "hq") => `(tactic| first
  | assumption
  | exact upd_same
  | (refine Same.new (by assumption) _ _ ?_; walk_at "hq")
  | (refine Same.tup (Same.new (by assumption)) ?_; walk_at "hp")
  | (refine L2.Same.seq (Same.new (by assumption)) ?_; walk_at "hp"))
local macro_rules | `(tactic| walk_at "pv") => `(tactic| first
  | with_reducible exact v_c
  | ((with_reducible apply v_var); rfl)
  | (with_reducible apply v_op) <;> walk_at "pv"
  | (with_reducible apply v_un) <;> walk_at "pv"
  | (with_reducible apply v_fld) <;> walk_at "pv"
  | (with_reducible apply v_chain) <;> walk_at "pv"
  | (with_reducible apply v_and) <;> walk_at "pv"
  | (with_reducible apply v_or) <;> walk_at "pv"
  | (with_reducible apply v_not) <;> walk_at "pv"
  | (with_reducible apply v_isN) <;> walk_at "pv"
  | (with_reducible apply v_notN) <;> walk_at "pv"
  | (with_reducible apply v_cb) <;> walk_at "pv"
  | with_reducible exact a_nil
  | (with_reducible apply a_cons) <;> walk_at "pv"
  | (with_reducible apply b_test) <;> walk_at "pv"
  | (with_reducible apply b_B) <;> walk_at "pv"
  | (with_reducible apply b_and) <;> walk_at "pv"
  | (with_reducible apply b_or) <;> walk_at "pv"
  | (with_reducible apply b_not) <;> walk_at "pv"
  | with_reducible exact r_I0
  | with_reducible exact r_U
  | ((with_reducible apply r_I); walk_at "side")
  | ((with_reducible apply r_ixT); walk_at "hp"; first | rfl | assumption)
  | ((with_reducible apply r_ixL); walk_at "hp"; first | rfl | assumption)
  | ((with_reducible apply r_eq); rfl)
  | ((with_reducible apply r_ne); rfl)
  | ((with_reducible apply r_inT); walk_at "hp"; rfl; first | rfl | assumption)
  | ((with_reducible apply r_inL); walk_at "hp"; rfl; first | rfl | assumption)
  | with_reducible exact o_none
  | (with_reducible apply o_some) <;> walk_at "pv"
  | (intro _; walk_at "pv")
  | assumption
  | rfl
  | walk_at "side")
local macro_rules | `(tactic| walk_at "side") => `(tactic| first
  | assumption
  | (show (0 : Int) < _; first | decide | omega)
  | (show (0 : Int) < _ ∧ _ < (1073741824 : Int); exact ⟨by decide, by decide⟩)
  | walk_at "hp"
  | rfl)

/-! ### tables -/
structure TabAt (K : PySem.W.Frag) (H : Hp) (p : Addr) (w h : Int) (pa : Addr) : Prop where
  ob : ∃ dx fs, H p = some (.ins (aTab K) dx fs) ∧ fl fs "width" = some (.int w) ∧ fl fs "height" = some (.int h) ∧ fl fs "pockets" = some (.ref pa) ∧ fl fs "is_point" = none ∧ fl fs "check_point" = none
theorem TabAt.up {K : PySem.W.Frag} {H H' : Hp} {p pa : Addr} {w h : Int} (s : Same H H') (t : TabAt K H p w h pa) : TabAt K H' p w h pa := by
  obtain ⟨dx, fs, h1, h2⟩ := t.ob
  exact ⟨dx, fs, s _ _ h1, h2⟩
def InTab (w h : Int) (c : Int × Int) : Prop := 0 ≤ c.1 ∧ c.1 ≤ w ∧ 0 ≤ c.2 ∧ c.2 ≤ h
def spReq (K : PySem.W.Frag) : Sp := fun vs H Q _ => vs = [.bl true] ∧ Q .non H
def spIsPt (K : PySem.W.Frag) : Sp := fun vs H Q _ => ∃ (p q : Addr) (dx : Addr) (fs : List (Str × V)) (w h x y : Int), vs = [.ref p, .ref q] ∧ H p = some (.ins (aTab K) dx fs) ∧ fl fs "width" = some (.int w) ∧ fl fs "height" = some (.int h) ∧ SqT K H q [.int x, .int y] ∧ ∀ b : Bool, (b = true ↔ InTab w h (x, y)) → Q (.bl b) H
def spChPt (K : PySem.W.Frag) : Sp := fun vs H Q _ => ∃ (p q pa : Addr) (w h x y : Int), vs = [.ref p, .ref q] ∧ TabAt K H p w h pa ∧ SqT K H q [.int x, .int y] ∧ InTab w h (x, y) ∧ Q .non H
def spTabI (K : PySem.W.Frag) : Sp := fun vs H Q _ => ∃ (x dx l : Addr) (w h : Int) (pk : List (Int × Int)), vs = [.ref x, .int w, .int h, .ref l] ∧ H x = some (.ins (aTab K) dx []) ∧ PrL K H l pk ∧ 1 ≤ w ∧ w ≤ 10 ^ 30 ∧ 1 ≤ h ∧ h ≤ 10 ^ 30 ∧ pk.length ≤ 12 ∧ pk.Nodup ∧ (∀ c ∈ pk, InTab w h c) ∧
  ∀ (H' : Hp) (pa : Addr), TabAt K H' x w h pa → PrT K H' pa pk → But x H H' → Q .non H'
theorem q_dropC {te : TE} {D : Ends} {tz : TS} {σ : L2.St} {H : Hp} (k : te σ H fun _ H1 => tz D σ H1) : tSeq (tDrop te) tz D σ H := k
theorem s_dropC {te : TE} {D : Ends} {σ : L2.St} {H : Hp} (k : te σ H fun _ H1 => D.nx σ H1) : tDrop te D σ H := k
theorem take_nodup {α : Type} {l : List α} {i : Nat} {c : α} (h : l.Nodup) (e : l[i]? = some c) : c ∉ l.take i := by
  intro m
  obtain ⟨j, hj⟩ := List.getElem?_of_mem m
  have hj2 : j < i := by
    have := (List.getElem?_eq_some_iff.mp hj).1
    rw [List.length_take] at this
    omega
  rw [List.getElem?_take_of_lt hj2] at hj
  obtain ⟨b1, b2⟩ := List.getElem?_eq_some_iff.mp e
  obtain ⟨b3, b4⟩ := List.getElem?_eq_some_iff.mp hj
  exact (List.pairwise_iff_getElem.mp h j i b3 b1 hj2) (by rw [b2, b4])
theorem prd_take {α β : Type} {F : α → β → Prop} : ∀ {l : List α} {m : List β} (i : Nat), Paired F l m → Paired F (l.take i) (m.take i)
  | _, _, 0, _ => by
    rw [List.take_zero, List.take_zero]
    exact .nil
  | _, _, i + 1, .nil => .nil
  | _, _, i + 1, .cons r t => .cons r (prd_take i t)
section
variable {P : Program} {w : World} {K : PySem.W.Frag} {mg : Str → Option Value} {base : Heap} {f : Addr} {fd : FuncData}
theorem sc_require : FnScope ["holds"] ["holds"] (defScope sReq) := ⟨rfl, rfl, rfl, by decide +kernel, rfl, by decide +kernel, by decide +kernel⟩
theorem ok_require (F : FnP K "require" "require" sReq [] f fd) (T : Tx K mg) : FnOk P w K mg base CX0 1 f fd ["holds"] (spReq K) := by
  refine ok_of F sc_require (fun vs H Q E h => ?_) (fun cdv A outer s H vs Q E hr h => ?_)
  · obtain ⟨rfl, _⟩ := h
    rfl
  · obtain ⟨rfl, k⟩ := h
    refine ⟨_, (pss_one (ps_if (pt_not (pt_val (pv 0)))
  (pss_one ps_never)
  pss_nil)), ?_⟩
    exact s_no (b_not (a := true) (b_B (v_var rfl))) k
theorem sc_Table_is_point : FnScope ["self", "point"] ["self", "point"] (defScope sIsPt) := ⟨rfl, rfl, rfl, by decide +kernel, rfl, by decide +kernel, by decide +kernel⟩
theorem ok_isPt (F : FnP K "is_point" "Table.is_point" sIsPt [] f fd) (T : Tx K mg) : FnOk P w K mg base CX0 1 f fd ["self", "point"] (spIsPt K) := by
  refine ok_of F sc_Table_is_point (fun vs H Q E h => ?_) (fun cdv A outer s H vs Q E hr h => ?_)
  · obtain ⟨_, _, _, _, _, _, _, _, rfl, _⟩ := h
    rfl
  · obtain ⟨p, q, dx, fs, w, h, x, y, rfl, h1, lw, lh, hq, k⟩ := h
    refine ⟨_, (pss_one (ps_ret (pe_and (pe_chain op_le op_le pe_int (pe_ix ix_tup (pv 1) pe_int (fun _ _ => rfl)) (pe_fld (pv 0) rfl)) (pe_one (pe_chain op_le op_le pe_int (pe_ix ix_tup (pv 1) pe_int (fun _ _ => rfl)) (pe_fld (pv 0) rfl)))))), ?_⟩
    have cT := T.cTab
    have nw := T.tabW
    have nh := T.tabH
    apply s_ret
    · walk_at "pv"
    · refine k _ ?_
      simp only [Bool.and_eq_true, decide_eq_true_eq, and_assoc]
      exact Iff.rfl
theorem sc_Table_check_point : FnScope ["self", "point"] ["self", "point"] (defScope sChPt) := ⟨rfl, rfl, rfl, by decide +kernel, rfl, by decide +kernel, by decide +kernel⟩
theorem ok_chPt (F : FnP K "check_point" "Table.check_point" sChPt [] f fd) (T : Tx K mg) (G_Table_is_point : Dm P w K mg base 1 (aTab K) "is_point" ["self", "point"] (spIsPt K)) : FnOk P w K mg base CX0 2 f fd ["self", "point"] (spChPt K) := by
  refine ok_of F sc_Table_check_point (fun vs H Q E h => ?_) (fun cdv A outer s H vs Q E hr h => ?_)
  · obtain ⟨_, _, _, _, _, _, _, rfl, _⟩ := h
    rfl
  · obtain ⟨p, q, pa, w, h, x, y, rfl, ⟨dx, fs, h1, lw, lh, lp, m1, m2⟩, hq, hin, k⟩ := h
    refine ⟨_, (pss_one (ps_if (pt_not (pt_val (pe_dm (pv 0) T.cTab G_Table_is_point hr (pa_cons (pv 1) pa_nil))))
  (pss_one ps_never)
  pss_nil)), ?_⟩
    refine s_no (b_not (a := true) (b_B (v_meth (v_var rfl) h1 m1 (a_cons (v_var rfl) a_nil) fun Q1 q1 => ⟨p, q, dx, fs, w, h, x, y, rfl, h1, lw, lh, hq, fun b hb => ?_⟩))) k
    rw [hb.mpr hin]
    exact q1
theorem sc_TableI : FnScope ["self", "width", "height", "pockets", "point", "number"] ["self", "width", "height", "pockets"] (defScope sTabI) := ⟨rfl, rfl, rfl, by decide +kernel, rfl, by decide +kernel, by decide +kernel⟩
theorem ok_tabI {dvs : List V} (F : FnP K "__init__" "Table.__init__" sTabI dvs f fd) (T : Tx K mg) (G_require : Df P w K mg base 1 "require" ["holds"] (spReq K)) (G_Table_is_point : Dm P w K mg base 1 (aTab K) "is_point" ["self", "point"] (spIsPt K)) : FnOk P w K mg base CX0 2 f fd ["self", "width", "height", "pockets"] (spTabI K) := by
  refine ok_of F sc_TableI (fun vs H Q E h => ?_) (fun cdv A outer s H vs Q E hr h => ?_)
  · obtain ⟨_, _, _, _, _, _, rfl, _⟩ := h
    rfl
  · obtain ⟨x, dx, l, w, h, pk, rfl, hx, ⟨xs, hl, prs⟩, w1, w2, h1, h2, hlen, nd, hin, k⟩ := h
    refine ⟨_, (pss_cons (ps_expr (pe_df G_require hr (pa_cons (pe_and (pe_chain op_le op_le pe_int (pv 1) (pe_glob (v := .int (10 ^ 30)) rfl T.most.choose_spec ⟨_, rfl⟩)) (pe_one (pe_chain op_le op_le pe_int (pv 2) (pe_glob (v := .int (10 ^ 30)) rfl T.most.choose_spec ⟨_, rfl⟩)))) pa_nil)))
  (pss_cons (ps_fld (pv 0) (pv 1) rfl)
  (pss_cons (ps_fld (pv 0) (pv 2) rfl)
  (pss_cons (ps_expr (pe_df G_require hr (pa_cons (pe_and (pe_cmpR op_le (pe_callB call_len_seq (by rfl) T.nolen PySem.boot_len (pa_cons (pv 3) pa_nil)) (pe_glob (v := .int 12) rfl T.mostP.choose_spec ⟨_, rfl⟩) (nomark _)) (pe_one (pe_callB (cr_all rfl) (by rfl) T.noall (by decide +kernel) (pa_cons (pe_lc (own := [("point", 4)]) rfl sc_TableI.nd (pi_list (pv 3)) (blkOk_by (own := [("point", 4)]) (N := ["self", "width", "height", "pockets", "point", "number"]) (sc := defScope sTabI) (by decide +kernel)) (fun _ _ _ _ _ => (pg_name (i := 4) sc_TableI.nd rfl (Or.inl rfl))) (fun _ _ _ _ _ => pts_nil) (fun _ _ _ _ _ => (pe_cmpR op_eq (pe_callB (show CallR _ (.builtin "len") (rLenSq K) from call_len_seq) (by rfl) T.nolen PySem.boot_len (pa_cons (pv 4) pa_nil)) pe_int (nomark _)))) pa_nil)))) pa_nil)))
  (pss_cons (ps_fld (pv 0) (pe_callTy call_tuple_of (by rfl) T.notuple (by decide +kernel) (pa_cons (pe_lc (own := [("point", 4)]) rfl sc_TableI.nd (pi_list (pv 3)) (blkOk_by (own := [("point", 4)]) (N := ["self", "width", "height", "pockets", "point", "number"]) (sc := defScope sTabI) (by decide +kernel)) (fun _ _ _ _ _ => (pg_name (i := 4) sc_TableI.nd rfl (Or.inl rfl))) (fun _ _ _ _ _ => pts_nil) (fun _ _ _ _ _ => (pe_callTy (show CallR _ (.type "tuple") (rTupOf K) from call_tuple_of) (by rfl) T.notuple (by decide +kernel) (pa_cons (pv 4) pa_nil)))) pa_nil)) rfl)
  (pss_one (ps_for PassesOwn.never rfl (pi_enumT (by rfl) T.noenum (pa_cons (pe_fld (pv 0) rfl) pa_nil)) (pg_tup rfl (pgs_cons (pg_name (i := 5) sc_TableI.nd rfl (Or.inl rfl)) (pgs_cons (pg_name (i := 4) sc_TableI.nd rfl (Or.inl rfl)) pgs_nil)))
  (pss_one (ps_expr (pe_df G_require hr (pa_cons (pe_and (pe_dm (pv 0) T.cTab G_Table_is_point hr (pa_cons (pv 4) pa_nil)) (pe_one (pe_cmpR (op_notInT (hu65 hr)) (pv 4) (pe_slice sl_tupA (pe_fld (pv 0) rfl) po_none (po_some (pv 5))) rfl))) pa_nil))))))))))), ?_⟩
    have zl := Paired.length prs
    have nlx : l ≠ x := fun z => by
      rw [z, hx] at hl
      cases hl
    -- require(1 <= width <= MOST and 1 <= height <= MOST)
    refine q_drop (a_cons (v_is (w := .bl true) (v_and (v_chain v_c (v_var rfl) r_I0 (fun _ => v_c) (fun _ => r_I0)) fun _ => v_chain v_c (v_var rfl) r_I0 (fun _ => v_c) (fun _ => r_I0)) (by
      rw [decide_eq_true w1, decide_eq_true w2, decide_eq_true h1, decide_eq_true h2]
      rfl)) a_nil) ⟨rfl, ?_⟩
    refine q_fld (v_var rfl) (v_var rfl) hx T.cTab T.tabW (by show 0 < 1000; decide) ?_
    refine q_fld (v_var rfl) (v_var rfl) upd_same T.cTab T.tabH (by show 1 < 1000; decide) ?_
    rw [upd_upd]
    generalize hfs0 : putF ("height" : Str) (V.int h) (putF ("width" : Str) (V.int w) []) = fs0
    have zf0 : fs0.length ≤ 2 := by
      rw [← hfs0]
      exact Nat.le_refl _
    generalize hH0 : upd H x (.ins (aTab K) dx fs0) = H0
    have hx0 : H0 x = some (.ins (aTab K) dx fs0) := by
      rw [← hH0]
      exact upd_same
    have b0 : But x H H0 := fun b o hb nb => by
      rw [← hH0, upd_ne nb]
      exact hb
    have hl0 : H0 l = some (.lst xs) := b0 _ _ hl nlx
    have prs0 : PrAll K H0 xs pk := by
      rw [← hH0]
      exact prAll_up (keep_mutI hx) prs
    -- require(len(pockets) <= MOST_POCKETS and all([len(point) == 2 for point in pockets]))
    refine q_dropC (c_callC (c_consC (c_andV (c_pv (v_op (v_cb (a_cons (v_var rfl) a_nil) (c_len (.inl (SqL.of hl0)))) v_c r_I0) ⟨_, rfl, ?_⟩))))
    rw [decide_eq_true (by omega)]
    refine iteT (c_cbC (c_consC (c_lcL (K := K) (v_var rfl) (SqL.of hl0) (by omega) (fun i acc A => acc = List.replicate i (V.bl true)) (fun i acc A B _ q => q) rfl ?_ ?_)))
    · intro i y acc H2 Dl Qk hi hD s4 hacc hl2 q kq
      obtain ⟨c, hc, g, rfl, hg⟩ := prd_get prs0 hi
      refine ⟨rfl, ?_⟩
      refine c_pv (v_op (v_cb (a_cons (v_var rfl) a_nil) (c_len (.inr (Same.tup s4 hg)))) v_c (r_eq rfl)) (kq _ _ s4 hacc ?_)
      rw [q, List.replicate_succ']
      rfl
    intro Dl acc H1 hD s1 hacc hl2 q
    refine ⟨Dl, List.replicate xs.length true, rfl, SqL.of (by rw [hacc, q, List.map_replicate]), ?_⟩
    rw [all_true]
    refine ⟨rfl, ?_⟩
    -- self.pockets = tuple([tuple(point) for point in pockets])
    have hl1 := s1 _ _ hl0
    have prs1 := prAll_up (Same.keep s1) prs0
    refine q_fldC (c_cbC (c_consC (c_lcL (K := K) (v_var rfl) (SqL.of hl1) (by omega) (fun i acc A => acc = xs.take i) (fun i acc A B _ q => q) rfl ?_ ?_)))
    · intro i y acc H2 Dl Qk hi hD s4 hacc hl2 q kq
      obtain ⟨c, hc, g, rfl, hg⟩ := prd_get prs1 hi
      refine ⟨rfl, ?_⟩
      refine c_cbC (c_consC ?_)
      refine ⟨_, rfl, g, _, rfl, .inr ⟨Same.tup s4 hg, kq _ _ s4 hacc ?_⟩⟩
      rw [q, List.take_succ, hi]
      rfl
    intro D2 acc2 H2 hD2 s2 hacc2 hl22 q2
    rw [List.take_length] at q2
    subst q2
    refine ⟨D2, acc2, rfl, .inl ⟨SqL.of hacc2, fun pa hpa => ?_⟩⟩
    have s3 : Same H2 (upd H2 pa (.tup acc2)) := Same.new hpa
    have s03 := s1.trans (s2.trans s3)
    have hx3 := s03 _ _ hx0
    refine ⟨_, rfl, x, _, _, _, rfl, hx3, T.cTab, T.tabP, by show fs0.length < 1000; omega, ?_⟩
    have npx : pa ≠ x := fun z => by
      have := (s1.trans s2) _ _ hx0
      rw [← z, hpa] at this
      cases this
    generalize hfs : putF ("pockets" : Str) (V.ref pa) fs0 = fs
    have f1 : fl fs "width" = some (.int w) := by
      rw [← hfs, fl_put, if_neg (by decide +kernel), ← hfs0, fl_put, if_neg (by decide +kernel), fl_put, if_pos rfl]
    have f2 : fl fs "height" = some (.int h) := by
      rw [← hfs, fl_put, if_neg (by decide +kernel), ← hfs0, fl_put, if_pos rfl]
    have f3 : fl fs "pockets" = some (.ref pa) := by
      rw [← hfs, fl_put, if_pos rfl]
    have f4 : ∀ m : Str, ¬ m = "pockets" → ¬ m = "height" → ¬ m = "width" → fl fs m = none := fun m a1 a2 a3 => by
      rw [← hfs, fl_put, if_neg a1, ← hfs0, fl_put, if_neg a2, fl_put, if_neg a3]
      rfl
    generalize hH4 : upd (upd H2 pa (.tup acc2)) x (.ins (aTab K) dx fs) = H4
    have hx4 : H4 x = some (.ins (aTab K) dx fs) := by
      rw [← hH4]
      exact upd_same
    have hpa4 : H4 pa = some (.tup acc2) := by
      rw [← hH4, upd_ne npx]
      exact upd_same
    have pr4 : PrAll K H4 acc2 pk := by
      rw [← hH4]
      exact prAll_up (keep_mutI hx3) (prAll_up (Same.keep (s2.trans s3)) prs1)
    have b4 : But x H H4 := fun b o hb nb => by
      rw [← hH4, upd_ne nb]
      exact s03 _ _ (b0 _ _ hb nb)
    have tp : ∀ H5, Same H4 H5 → SqT K H5 pa acc2 := fun H5 s5 => SqT.of (s5 _ _ hpa4)
    have hpk : ∀ σ' H5, σ'[0]? = some (some (.ref x)) → Same H4 H5 → Pv (tFld K (tVar 0) "pockets") σ' H5 (.ref pa) := fun σ' H5 h0 s5 => v_fld (v_var h0) (s5 _ _ hx4) T.cTab T.tabP f3
    refine s_forET (K := K) (xs := acc2) (a_cons (hpk _ _ rfl (Same.refl _)) a_nil) (tp _ (Same.refl _)) (fun i σ' H5 => ∃ (v4 v5 : Option V), σ' = [some (.ref x), some (.int w), some (.int h), some (.ref l), v4, v5] ∧ Same H4 H5) ⟨none, none, rfl, Same.refl _⟩
      (fun i σ' H5 _ ⟨_, _, _, s5⟩ => tp _ s5) ?_ ?_
    · rintro i y σ' H5 t hi ⟨v4, v5, rfl, s5⟩ ht
      obtain ⟨c, hc, g, rfl, hg⟩ := prd_get pr4 hi
      have e5 := Same.new (o := .tup [.int (i : Nat), .ref g]) ht
      have s6 := s5.trans e5
      refine ⟨t, _, rfl, SqT.of upd_same, rfl, _, _, rfl, _, _, rfl, rfl, ?_⟩
      have hcin := hin c (List.mem_of_getElem? hc)
      refine s_dropC (c_callC (c_consC (c_andV ?_)))
      refine ⟨_, rfl, x, dx, fs, rfl, s6 _ _ hx4, f4 _ (by decide +kernel) (by decide +kernel) (by decide +kernel), ?_⟩
      refine ⟨.ref g, rfl, x, g, dx, fs, w, h, c.1, c.2, rfl, s6 _ _ hx4, f1, f2, Same.tup s6 hg, fun b hb => ⟨b, rfl, ?_⟩⟩
      rw [hb.mpr hcin]
      refine iteT (c_op (v_var rfl) ?_)
      refine hpk _ _ rfl s6 _ ?_
      have hil : i < acc2.length := (List.getElem?_eq_some_iff.mp hi).1
      refine ⟨_, rfl, _, rfl, pa, acc2, rfl, tp _ s6, fun hw => ?_, fun hw p hp => ?_⟩
      · have := hw.2
        rw [HT.sIx_nat] at this
        omega
      · have e7 := Same.new (o := .tup (cutV acc2 none (some (i : Int)))) hp
        refine r_notInPrT (K := K) (c := c) (cs := pk.take i) ⟨g, rfl, Same.tup (s6.trans e7) hg⟩ (SqT.of upd_same) ?_ _ ?_
        · have pq := prAll_up (Same.keep (s6.trans e7)) (prd_take i pr4)
          rw [← cut_to] at pq
          exact pq
        · rw [decide_eq_false (take_nodup nd hc)]
          exact ⟨rfl, _, _, rfl, s6.trans e7⟩
    · rintro σ' H5 ⟨v4, v5, rfl, s5⟩
      exact k _ pa ⟨dx, fs, s5 _ _ hx4, f1, f2, f3, f4 _ (by decide +kernel) (by decide +kernel) (by decide +kernel), f4 _ (by decide +kernel) (by decide +kernel) (by decide +kernel)⟩ ⟨acc2, tp _ s5, prAll_up (Same.keep s5) pr4⟩ fun b o hb nb => s5 _ _ (b4 _ _ hb nb)
end
end Cu
end
section
set_option Elab.async false
set_option linter.all false
set_option maxRecDepth 100000
set_option maxHeartbeats 4000000
namespace Cu
open PySem PySem.Spec PyProof.Rows L2 CuM
local macro_rules | `(tactic| walk_at "hp") => `(tactic| first
  | assumption
  | exact SqT.of (by assumption)
  | exact SqL.of (by assumption)
  | (apply SqT.of; walk_at "hq")
  | (apply SqL.of; walk_at "hq")
  | walk_at "hq")
local macro_rules | `(tactic| walk_at "hq") => `(tactic| first
  | assumption
  | exact upd_same
  | (refine Same.new (by assumption) _ _ ?_; walk_at "hq")
  | (refine Same.tup (Same.new (by assumption)) ?_; walk_at "hp")
  | (refine L2.Same.seq (Same.new (by assumption)) ?_; walk_at "hp"))
local macro_rules | `(tactic| walk_at "pv") => `(tactic| first
  | with_reducible exact v_c
  | ((with_reducible apply v_var); rfl)
  | (with_reducible apply v_op) <;> walk_at "pv"
  | (with_reducible apply v_un) <;> walk_at "pv"
  | (with_reducible apply v_fld) <;> walk_at "pv"
  | (with_reducible apply v_chain) <;> walk_at "pv"
  | (with_reducible apply v_and) <;> walk_at "pv"
  | (with_reducible apply v_or) <;> walk_at "pv"
  | (with_reducible apply v_not) <;> walk_at "pv"
  | (with_reducible apply v_isN) <;> walk_at "pv"
  | (with_reducible apply v_notN) <;> walk_at "pv"
  | (with_reducible apply v_cb) <;> walk_at "pv"
  | with_reducible exact a_nil
  | (with_reducible apply a_cons) <;> walk_at "pv"
  | (with_reducible apply b_test) <;> walk_at "pv"
  | (with_reducible apply b_B) <;> walk_at "pv"
  | (with_reducible apply b_and) <;> walk_at "pv"
  | (with_reducible apply b_or) <;> walk_at "pv"
  | (with_reducible apply b_not) <;> walk_at "pv"
  | with_reducible exact r_I0
  | with_reducible exact r_U
  | ((with_reducible apply r_I); walk_at "side")
  | ((with_reducible apply r_ixT); walk_at "hp"; first | rfl | assumption)
  | ((with_reducible apply r_ixL); walk_at "hp"; first | rfl | assumption)
  | ((with_reducible apply r_eq); rfl)
  | ((with_reducible apply r_ne); rfl)
  | ((with_reducible apply r_inT); walk_at "hp"; rfl; first | rfl | assumption)
  | ((with_reducible apply r_inL); walk_at "hp"; rfl; first | rfl | assumption)
  | with_reducible exact o_none
  | (with_reducible apply o_some) <;> walk_at "pv"
  | (intro _; walk_at "pv")
  | assumption
  | rfl
  | walk_at "side")
local macro_rules | `(tactic| walk_at "side") => `(tactic| first
  | assumption
  | (show (0 : Int) < _; first | decide | omega)
  | (show (0 : Int) < _ ∧ _ < (1073741824 : Int); exact ⟨by decide, by decide⟩)
  | walk_at "hp"
  | rfl)

/-! ### balls -/
def alph : Str := "abcdefghijklmnopqrstuvwxyz0123456789"
/-- a valid name -/
structure Nm (s : Str) : Prop where
  lo : 1 ≤ s.cps.size
  hi : s.cps.size ≤ 12
  al : ∀ i c : Nat, s.cps[i]? = some c → c ∈ alph.cps.toList
  fst : ∀ c : Nat, s.cps[0]? = some c → c ∉ ("0123456789" : Str).cps.toList
def blV (nm : Str) (b : Ball) : List V := [.str nm, .int b.x, .int b.y, .int b.dx, .int b.dy, .int b.m]
/-- a ball that holds on a table -/
structure BOk (w h : Int) (nm : Str) (b : Ball) : Prop where
  nm : Nm nm
  ok : b.Ok w h
  m1 : b.m ≤ 10 ^ 30
def spIsName (K : PySem.W.Frag) : Sp := fun vs H Q _ => ∃ s : Str, vs = [.str s] ∧ Nm s ∧ ∀ H', Same H H' → Q (.bl true) H'
def spIsBall (K : PySem.W.Frag) : Sp := fun vs H Q _ => ∃ (p q pa : Addr) (w h : Int) (nm : Str) (b : Ball), vs = [.ref p, .ref q] ∧ TabAt K H p w h pa ∧ SqT K H q (blV nm b) ∧ BOk w h nm b ∧ ∀ H', Same H H' → Q (.bl true) H'
def spChBall (K : PySem.W.Frag) : Sp := fun vs H Q _ => ∃ (p q pa : Addr) (w h : Int) (nm : Str) (b : Ball), vs = [.ref p, .ref q] ∧ TabAt K H p w h pa ∧ SqT K H q (blV nm b) ∧ BOk w h nm b ∧ ∀ H', Same H H' → Q .non H'
/-- a row of balls -/
def BlAt (K : PySem.W.Frag) (H : Hp) (v : V) (nb : Str × Ball) : Prop := ∃ a, v = .ref a ∧ SqT K H a (blV nb.1 nb.2)
abbrev BlAll (K : PySem.W.Frag) (H : Hp) : List V → List (Str × Ball) → Prop := Paired (BlAt K H)
theorem blAll_up {K : PySem.W.Frag} {H H' : Hp} {xs : List V} {bs : List (Str × Ball)} (e : TupKeep K H H') (h : BlAll K H xs bs) : BlAll K H' xs bs := Paired.mapP h fun _ _ ⟨a, q, z⟩ => ⟨a, q, e _ _ z⟩
def spChBalls (K : PySem.W.Frag) : Sp := fun vs H Q _ => ∃ (p l pa : Addr) (w h : Int) (xs : List V) (bs : List (Str × Ball)), vs = [.ref p, .ref l] ∧ TabAt K H p w h pa ∧ SqL K H l xs ∧ BlAll K H xs bs ∧ (∀ nb ∈ bs, BOk w h nb.1 nb.2) ∧ bs.length ≤ 12 ∧ (bs.map Prod.fst).Nodup ∧ ∀ H', Same H H' → Q .non H'
theorem r_inT1 {K : PySem.W.Frag} {H : Hp} {x : V} {p : Addr} {xs : List V} (h : SqT K H p xs) (hx : flatV x = true) (ha : xs.all flatV = true) (e : inV x xs = true) : Rp (rIn K false) x (.ref p) H (.bl true) := fun Q q =>
  ⟨p, xs, rfl, Or.inr h, hx, ha, by rw [if_neg (by decide), e]; exact q⟩
theorem r_inL0 {K : PySem.W.Frag} {H : Hp} {x : V} {p : Addr} {xs : List V} (h : SqL K H p xs) (hx : flatV x = true) (ha : xs.all flatV = true) (e : inV x xs = false) : Rp (rIn K false) x (.ref p) H (.bl false) := fun Q q =>
  ⟨p, xs, rfl, Or.inl h, hx, ha, by rw [if_neg (by decide), e]; exact q⟩
section
variable {P : Program} {w : World} {K : PySem.W.Frag} {mg : Str → Option Value} {base : Heap} {f : Addr} {fd : FuncData}
theorem sc_is_name : FnScope ["text", "char"] ["text"] (defScope sIsName) := ⟨rfl, rfl, rfl, by decide +kernel, rfl, by decide +kernel, by decide +kernel⟩
theorem ok_isName (F : FnP K "is_name" "is_name" sIsName [] f fd) (T : Tx K mg) : FnOk P w K mg base CX0 1 f fd ["text"] (spIsName K) := by
  refine ok_of F sc_is_name (fun vs H Q E h => ?_) (fun cdv A outer s H vs Q E hr h => ?_)
  · obtain ⟨_, rfl, _⟩ := h
    rfl
  · obtain ⟨s, rfl, nm, k⟩ := h
    refine ⟨_, (pss_cons (ps_if (PW.pt (pw_or (pt_not (pt_chain op_le op_le pe_int (pe_callB call_len_str (by rfl) T.nolen PySem.boot_len (pa_cons (pv 0) pa_nil)) (pe_glob (v := .int 12) rfl T.mostN.choose_spec ⟨_, rfl⟩))) (pw_or1 (pt_cmpR op_in_sign (pe_ix ix_str (pv 0) pe_int (fun _ _ => rfl)) pe_str rfl))))
  (pss_one (ps_ret pe_bl))
  pss_nil)
  (pss_one (ps_ret (pe_callB (cr_all rfl) (by rfl) T.noall (by decide +kernel) (pa_cons (pe_lc (own := [("char", 1)]) rfl sc_is_name.nd (pi_str (pv 0)) (blkOk_by (own := [("char", 1)]) (N := ["text", "char"]) (sc := defScope sIsName) (by decide +kernel)) (fun _ _ _ _ _ => (pg_name (i := 1) sc_is_name.nd rfl (Or.inl rfl))) (fun _ _ _ _ _ => pts_nil) (fun _ _ _ _ _ => (pe_cmpR op_in_sign (pv 1) (pe_glob (v := .str "abcdefghijklmnopqrstuvwxyz0123456789") rfl T.chars.choose_spec ⟨_, rfl⟩) rfl))) pa_nil))))), ?_⟩
    have n1 := nm.lo
    have n2 := nm.hi
    have zs : s.length ≤ sizeLine := size_of (by show s.cps.size ≤ 100000; omega)
    obtain ⟨c0, hc0⟩ : ∃ c, s.cps[0]? = some c := ⟨s.cps[0], Array.getElem?_eq_getElem (by omega)⟩
    refine q_no (b_or (a := false) (b := false) (b_not (a := true) ?_) fun _ => ?_) ?_
    · refine b_is (b_test (v_chain v_c (v_cb (a_cons (v_var rfl) a_nil) (fun Q q => ⟨s, rfl, zs, q⟩)) r_I0 (fun _ => v_c) (fun _ => r_I0))) ?_
      rw [decide_eq_true (show (1 : Int) ≤ (s.length : Int) by show (1 : Int) ≤ (s.cps.size : Int); omega), decide_eq_true (show (s.length : Int) ≤ 12 by show (s.cps.size : Int) ≤ 12; omega)]
      rfl
    · refine b_is (b_test (v_op (v_op (v_var rfl) v_c (r_ixS zs (c := c0) ?_)) v_c (fun Q q => ⟨c0, "0123456789", rfl, rfl, q⟩))) (decide_eq_false (nm.fst c0 hc0))
      exact atI_nat (j := 0) (by rw [Array.getElem?_toList]; exact hc0)
    refine s_retC (c_cbC (c_consC (c_lcS (K := K) (v_var rfl) (by omega) (fun i acc A => acc = List.replicate i (V.bl true)) (fun i acc A B _ q => q) rfl ?_ ?_)))
    · intro i c acc H2 Dl Qk hi hD s4 hacc hl2 q kq
      refine ⟨rfl, ?_⟩
      refine c_pv (v_op (v_var rfl) v_c (fun Q q => ⟨c, alph, rfl, rfl, q⟩)) (kq _ _ s4 hacc ?_)
      rw [q, List.replicate_succ', decide_eq_true (nm.al i c hi)]
    · intro Dl acc H2 hD s4 hacc hl2 q
      refine ⟨Dl, List.replicate s.cps.size true, rfl, SqL.of (by rw [hacc, q, List.map_replicate]), ?_⟩
      rw [all_true]
      exact k _ s4
theorem sc_is_ball : FnScope ["table", "ball", "_", "x", "y", "dx", "dy", "minute"] ["table", "ball"] (defScope sIsBall) := ⟨rfl, rfl, rfl, by decide +kernel, rfl, by decide +kernel, by decide +kernel⟩
theorem ok_isBall (F : FnP K "is_ball" "is_ball" sIsBall [] f fd) (T : Tx K mg) (G_is_name : Df P w K mg base 1 "is_name" ["text"] (spIsName K)) (G_Table_is_point : Dm P w K mg base 1 (aTab K) "is_point" ["self", "point"] (spIsPt K)) : FnOk P w K mg base CX0 2 f fd ["table", "ball"] (spIsBall K) := by
  refine ok_of F sc_is_ball (fun vs H Q E h => ?_) (fun cdv A outer s H vs Q E hr h => ?_)
  · obtain ⟨_, _, _, _, _, _, _, rfl, _⟩ := h
    rfl
  · obtain ⟨p, q, pa, w, h, nm, b, rfl, ⟨dx, fs, h1, lw, lh, lp, m1, m2⟩, hq, bk, k⟩ := h
    refine ⟨_, (pss_cons (ps_if (PW.pt (pw_or (pt_cmpR op_ne (pe_callB call_len_seq (by rfl) T.nolen PySem.boot_len (pa_cons (pv 1) pa_nil)) pe_int (nomark _)) (pw_or1 (pt_not (pt_val (pe_df G_is_name hr (pa_cons (pe_ix ix_tup (pv 1) pe_int (fun _ _ => rfl)) pa_nil)))))))
  (pss_one (ps_ret pe_bl))
  pss_nil)
  (pss_cons (ps_asg (pv 1) (pg_tup rfl (pgs_cons (pg_name (i := 2) sc_is_ball.nd rfl (Or.inl rfl)) (pgs_cons (pg_name (i := 3) sc_is_ball.nd rfl (Or.inl rfl)) (pgs_cons (pg_name (i := 4) sc_is_ball.nd rfl (Or.inl rfl)) (pgs_cons (pg_name (i := 5) sc_is_ball.nd rfl (Or.inl rfl)) (pgs_cons (pg_name (i := 6) sc_is_ball.nd rfl (Or.inl rfl)) (pgs_cons (pg_name (i := 7) sc_is_ball.nd rfl (Or.inl rfl)) pgs_nil))))))))
  (pss_cons (ps_if (PW.pt (pw_or (pt_not (pt_val (pe_dm (pv 0) T.cTab G_Table_is_point hr (pa_cons (pe_tup (pa_cons (pv 3) (pa_cons (pv 4) pa_nil))) pa_nil)))) (pw_or1 (pt_not (pt_chain op_le op_le pe_int (pv 7) (pe_glob (v := .int (10 ^ 30)) rfl T.most.choose_spec ⟨_, rfl⟩))))))
  (pss_one (ps_ret pe_bl))
  pss_nil)
  (pss_one (ps_ret (pe_and (pe_cmpR op_in_seq (pv 5) (pe_tup (pa_cons (pe_un un_neg pe_int) (pa_cons pe_int (pa_cons pe_int pa_nil)))) rfl) (pe_and (pe_cmpR op_in_seq (pv 6) (pe_tup (pa_cons (pe_un un_neg pe_int) (pa_cons pe_int (pa_cons pe_int pa_nil)))) rfl) (pe_one (pe_cmpR (op_neD hr.units) (pe_tup (pa_cons (pv 5) (pa_cons (pv 6) pa_nil))) (pe_tup (pa_cons pe_int (pa_cons pe_int pa_nil))) (nomark _)))))))))), ?_⟩
    -- len(ball) != 6 or not is_name(ball[0])
    refine q_ifU (c_tOr ?_)
    refine b_test (v_op (v_cb (a_cons (v_var rfl) a_nil) (c_len (.inr hq))) v_c (r_ne rfl)) _ (iteF ?_)
    refine c_tNot (c_tB (c_callP (a_cons (v_op (v_var rfl) v_c (r_ixT hq rfl)) a_nil) ⟨nm, rfl, bk.nm, fun H1 s1 => ⟨true, rfl, iteF ?_⟩⟩))
    have hq1 := Same.tup s1 hq
    -- _, x, y, dx, dy, minute = ball
    refine q_unp (v_var rfl) hq1 rfl ?_
    refine ⟨_, _, rfl, _, _, rfl, _, _, rfl, _, _, rfl, _, _, rfl, _, _, rfl, rfl, ?_⟩
    -- not table.is_point((x, y)) or not 0 <= minute <= MOST
    refine q_ifU (c_tOr (c_tNot (c_tB ?_)))
    refine ⟨_, rfl, p, dx, fs, rfl, s1 _ _ h1, m1, ?_⟩
    refine c_consC (c_tup (a_cons (v_var rfl) (a_cons (v_var rfl) a_nil)) (by show 2 ≤ 100000; decide) fun t ht => ?_)
    have e2 := Same.new (o := .tup [.int b.x, .int b.y]) ht
    have s2 := s1.trans e2
    refine ⟨p, t, dx, fs, w, h, b.x, b.y, rfl, s2 _ _ h1, lw, lh, SqT.of upd_same, fun b1 hb1 => ⟨b1, rfl, ?_⟩⟩
    rw [hb1.mpr ⟨bk.ok.x0, bk.ok.x1, bk.ok.y0, bk.ok.y1⟩]
    refine iteF ?_
    refine b_not (a := true) (b_is (b_test (v_chain v_c (v_var rfl) r_I0 (fun _ => v_c) (fun _ => r_I0))) ?_) _ (iteF ?_)
    · rw [decide_eq_true bk.ok.m0, decide_eq_true bk.m1]
      rfl
    -- return dx in (-1, 0, 1) and dy in (-1, 0, 1) and (dx, dy) != (0, 0)
    have inS : ∀ d : Int, Step d → inV (.int d) [.int (-1), .int 0, .int 1] = true := fun d hd => by
      rcases hd with rfl | rfl | rfl <;> rfl
    refine s_nextU ?_
    dsimp only
    refine s_retC (c_andV ?_)
    refine c_op (v_var rfl) (c_tup (a_cons (v_un v_c r_U) (a_cons v_c (a_cons v_c a_nil))) (by show 3 ≤ 100000; decide) fun t3 ht3 => ?_)
    refine r_inT1 (K := K) (SqT.of upd_same) rfl rfl (inS _ bk.ok.sx) _ ⟨_, rfl, ?_⟩
    refine iteT (c_andV ?_)
    refine c_op (v_var rfl) (c_tup (a_cons (v_un v_c r_U) (a_cons v_c (a_cons v_c a_nil))) (by show 3 ≤ 100000; decide) fun t4 ht4 => ?_)
    refine r_inT1 (K := K) (SqT.of upd_same) rfl rfl (inS _ bk.ok.sy) _ ⟨_, rfl, ?_⟩
    refine iteT (c_fldU ?_)
    refine c_tup (a_cons (v_var rfl) (a_cons (v_var rfl) a_nil)) (by show 2 ≤ 100000; decide) fun t5 ht5 => ?_
    refine c_tup (a_cons v_c (a_cons v_c a_nil)) (by show 2 ≤ 100000; decide) fun t6 ht6 => ?_
    have e6 := Same.new (o := .tup [.int 0, .int 0]) ht6
    refine ⟨pD (b.dx, b.dy), pD (0, 0), Pr.dp ⟨t5, rfl, SqT.of (e6 _ _ upd_same)⟩, Pr.dp ⟨t6, rfl, SqT.of upd_same⟩, pD_shaped _, pD_shaped _, ?_⟩
    rw [pD_eqv, decide_eq_false (fun z => bk.ok.mv ⟨(Prod.mk.inj z).1, (Prod.mk.inj z).2⟩)]
    exact k _ (s2.trans ((Same.new ht3).trans ((Same.new ht4).trans ((Same.new ht5).trans e6))))
theorem sc_check_ball : FnScope ["table", "ball"] ["table", "ball"] (defScope sChBall) := ⟨rfl, rfl, rfl, by decide +kernel, rfl, by decide +kernel, by decide +kernel⟩
theorem ok_chBall (F : FnP K "check_ball" "check_ball" sChBall [] f fd) (T : Tx K mg) (G_is_ball : Df P w K mg base 2 "is_ball" ["table", "ball"] (spIsBall K)) : FnOk P w K mg base CX0 3 f fd ["table", "ball"] (spChBall K) := by
  refine ok_of F sc_check_ball (fun vs H Q E h => ?_) (fun cdv A outer s H vs Q E hr h => ?_)
  · obtain ⟨_, _, _, _, _, _, _, rfl, _⟩ := h
    rfl
  · obtain ⟨p, q, pa, w, h, nm, b, rfl, tab, hq, bk, k⟩ := h
    refine ⟨_, (pss_one (ps_if (pt_not (pt_val (pe_df G_is_ball hr (pa_cons (pv 0) (pa_cons (pv 1) pa_nil)))))
  (pss_one ps_never)
  pss_nil)), ?_⟩
    refine s_ifU (c_tNot (c_tB (c_callP (a_cons (v_var rfl) (a_cons (v_var rfl) a_nil)) ⟨p, q, pa, w, h, nm, b, rfl, tab, hq, bk, fun H1 s1 => ⟨true, rfl, iteF ?_⟩⟩)))
    exact k _ s1
theorem sc_check_balls : FnScope ["table", "balls", "number", "ball", "other"] ["table", "balls"] (defScope sChBalls) := ⟨rfl, rfl, rfl, by decide +kernel, rfl, by decide +kernel, by decide +kernel⟩
theorem ok_chBalls (F : FnP K "check_balls" "check_balls" sChBalls [] f fd) (T : Tx K mg) (G_check_ball : Df P w K mg base 3 "check_ball" ["table", "ball"] (spChBall K)) : FnOk P w K mg base CX0 4 f fd ["table", "balls"] (spChBalls K) := by
  refine ok_of F sc_check_balls (fun vs H Q E h => ?_) (fun cdv A outer s H vs Q E hr h => ?_)
  · obtain ⟨_, _, _, _, _, _, _, rfl, _⟩ := h
    rfl
  · obtain ⟨p, l, pa, w, h, xs, bs, rfl, tab, hl, prs, bk, hlen, nd, k⟩ := h
    refine ⟨_, (pss_cons (ps_for PassesOwn.never rfl (pi_enum (by rfl) T.noenum (pa_cons (pv 1) pa_nil)) (pg_tup rfl (pgs_cons (pg_name (i := 2) sc_check_balls.nd rfl (Or.inl rfl)) (pgs_cons (pg_name (i := 3) sc_check_balls.nd rfl (Or.inl rfl)) pgs_nil)))
  (pss_cons (ps_expr (pe_df G_check_ball hr (pa_cons (pv 0) (pa_cons (pv 3) pa_nil))))
  (pss_one (ps_if (pt_cmpR op_in_seq (pe_ix ix_tup (pv 3) pe_int (fun _ _ => rfl)) (pe_lc (own := [("other", 4)]) rfl sc_check_balls.nd (pi_list (pe_slice sl_list (pv 1) po_none (po_some (pv 2)))) (blkOk_by (own := [("other", 4)]) (N := ["table", "balls", "number", "ball", "other"]) (sc := defScope sChBalls) (by decide +kernel)) (fun _ _ _ _ _ => (pg_name (i := 4) sc_check_balls.nd rfl (Or.inl rfl))) (fun _ _ _ _ _ => pts_nil) (fun _ _ _ _ _ => (pe_ix (show IxR _ (rIxT K) from ix_tup) (pv 4) pe_int (fun _ _ => rfl)))) rfl)
  (pss_one ps_never)
  pss_nil))))
  (pss_one (ps_if (pt_cmpR op_gt (pe_callB call_len_seq (by rfl) T.nolen PySem.boot_len (pa_cons (pv 1) pa_nil)) (pe_glob (v := .int 12) rfl T.mostB.choose_spec ⟨_, rfl⟩) (nomark _))
  (pss_one ps_never)
  pss_nil))), ?_⟩
    have zl := Paired.length prs
    refine q_forE (K := K) (xs := xs) (a_cons (v_var rfl) a_nil) hl (fun i σ' H5 => ∃ (v2 v3 : Option V), σ' = [some (.ref p), some (.ref l), v2, v3, none] ∧ Same H H5) ⟨none, none, rfl, Same.refl _⟩
      (fun i σ' H5 _ ⟨_, _, _, s5⟩ => s5.seq hl) ?_ ?_
    · rintro i y σ' H5 t hi ⟨v2, v3, rfl, s5⟩ ht
      obtain ⟨nb, hc, g, rfl, hg⟩ := prd_get prs hi
      have e5 := Same.new (o := .tup [.int (i : Nat), .ref g]) ht
      have s6 := s5.trans e5
      refine ⟨t, _, rfl, SqT.of upd_same, rfl, _, _, rfl, _, _, rfl, rfl, ?_⟩
      have bk1 := bk nb (List.mem_of_getElem? hc)
      refine q_dropC (c_callP (a_cons (v_var rfl) (a_cons (v_var rfl) a_nil)) ⟨p, g, pa, w, h, nb.1, nb.2, rfl, tab.up s6, Same.tup s6 hg, bk1, fun H7 s7 => ?_⟩)
      have s8 := s6.trans s7
      refine s_ifU ?_
      refine c_op (v_op (v_var rfl) v_c (r_ixT (Same.tup s8 hg) rfl)) ?_
      refine c_lcN (K := K) (xs := xs.take i) (fun Q1 q1 => ?_) (by rw [List.length_take]; omega) (fun n acc A => acc = ((bs.take i).take n).map fun z => V.str z.1) (fun n acc A B _ q => q) (fun _ _ => rfl) ?_ ?_
      · refine v_var rfl _ ?_
        refine ⟨_, rfl, _, rfl, l, xs, rfl, s8.seq hl, fun q hq => ?_⟩
        rw [cut_to]
        exact q1 q _ (Same.new hq) (SqL.of upd_same)
      · intro n z acc H9 D9 Qk hn hD9 s9 hacc9 hl9 r9 kq
        obtain ⟨d, hd, g2, rfl, hg2⟩ := prd_get (prd_take i prs) hn
        refine ⟨rfl, c_pv (v_op (v_var rfl) v_c (r_ixT (Same.tup (s8.trans s9) hg2) rfl)) (kq _ _ (Same.refl _) ?_)⟩
        rw [r9, take_snoc hd, List.map_append]
        rfl
      · intro D9 acc H9 hD9 s9 hacc9 hl9 r9
        have zt := Paired.length (prd_take i prs)
        rw [zt, List.take_length] at r9
        have fl9 : (acc.all flatV) = true := by
          rw [r9, List.all_map, List.all_eq_true]
          intro z _
          rfl
        have : inV (.str nb.1) acc = false := by
          rw [r9]
          unfold inV
          rw [List.any_map, List.any_eq_false]
          intro z hz e
          have e2 : z.1 = nb.1 := eq_of_beq (show (z.1 == nb.1) = true from e)
          have hn := take_nodup (c := nb.1) (i := i) nd (by rw [List.getElem?_map, hc]; rfl)
          refine hn ?_
          rw [← List.map_take, ← e2]
          exact List.mem_map_of_mem hz
        refine r_inL0 (K := K) (SqL.of hacc9) rfl fl9 this _ ⟨_, rfl, ?_⟩
        exact iteF ⟨_, _, rfl, s8.trans s9⟩
    · rintro σ' H5 ⟨v2, v3, rfl, s5⟩
      refine s_no (b_is (b_test (v_op (v_cb (a_cons (v_var rfl) a_nil) (c_len (.inl (s5.seq hl)))) v_c r_I0)) (decide_eq_false (by omega))) ?_
      exact k _ s5
end
end Cu
end
section
set_option Elab.async false
set_option linter.all false
set_option maxRecDepth 100000
set_option maxHeartbeats 4000000
namespace Cu
open PySem PySem.Spec PyProof.Rows L2 CuM
local macro_rules | `(tactic| walk_at "hp") => `(tactic| first
  | assumption
  | exact SqT.of (by assumption)
  | exact SqL.of (by assumption)
  | (apply SqT.of; walk_at "hq")
  | (apply SqL.of; walk_at "hq")
  | walk_at "hq")
local macro_rules | `(tactic| walk_at "hq") => `(tactic| first
  | assumption
  | exact upd_same
  | (refine Same.new (by assumption) _ _ ?_; walk_at "hq")
  | (refine Same.tup (Same.new (by assumption)) ?_; walk_at "hp")
  | (refine L2.Same.seq (Same.new (by assumption)) ?_; walk_at "hp"))
local macro_rules | `(tactic| walk_at "pv") => `(tactic| first
  | with_reducible exact v_c
  | ((with_reducible apply v_var); rfl)
  | (with_reducible apply v_op) <;> walk_at "pv"
  | (with_reducible apply v_un) <;> walk_at "pv"
  | (with_reducible apply v_fld) <;> walk_at "pv"
  | (with_reducible apply v_chain) <;> walk_at "pv"
  | (with_reducible apply v_and) <;> walk_at "pv"
  | (with_reducible apply v_or) <;> walk_at "pv"
  | (with_reducible apply v_not) <;> walk_at "pv"
  | (with_reducible apply v_isN) <;> walk_at "pv"
  | (with_reducible apply v_notN) <;> walk_at "pv"
  | (with_reducible apply v_cb) <;> walk_at "pv"
  | with_reducible exact a_nil
  | (with_reducible apply a_cons) <;> walk_at "pv"
  | (with_reducible apply b_test) <;> walk_at "pv"
  | (with_reducible apply b_B) <;> walk_at "pv"
  | (with_reducible apply b_and) <;> walk_at "pv"
  | (with_reducible apply b_or) <;> walk_at "pv"
  | (with_reducible apply b_not) <;> walk_at "pv"
  | with_reducible exact r_I0
  | with_reducible exact r_U
  | ((with_reducible apply r_I); walk_at "side")
  | ((with_reducible apply r_ixT); walk_at "hp"; first | rfl | assumption)
  | ((with_reducible apply r_ixL); walk_at "hp"; first | rfl | assumption)
  | ((with_reducible apply r_eq); rfl)
  | ((with_reducible apply r_ne); rfl)
  | ((with_reducible apply r_inT); walk_at "hp"; rfl; first | rfl | assumption)
  | ((with_reducible apply r_inL); walk_at "hp"; rfl; first | rfl | assumption)
  | with_reducible exact o_none
  | (with_reducible apply o_some) <;> walk_at "pv"
  | (intro _; walk_at "pv")
  | assumption
  | rfl
  | walk_at "side")
local macro_rules | `(tactic| walk_at "side") => `(tactic| first
  | assumption
  | (show (0 : Int) < _; first | decide | omega)
  | (show (0 : Int) < _ ∧ _ < (1073741824 : Int); exact ⟨by decide, by decide⟩)
  | walk_at "hp"
  | rfl)

/-! ### meetings: part_classes, at_point, meetings -/
/-- classes in a list that is not l -/
def ClAt (K : PySem.W.Frag) (H : Hp) (l : Addr) (v : V) (z : Int × (Int → Prop)) : Prop := ∃ a cs, v = .ref a ∧ a ≠ l ∧ PrL K H a cs ∧ Cl (2 * z.1) cs z.2
theorem ClAt.up {K : PySem.W.Frag} {H H' : Hp} {l : Addr} {v : V} {z : Int × (Int → Prop)} (s : Same H H') (h : ClAt K H l v z) : ClAt K H' l v z := let ⟨a, cs, e, n, p, c⟩ := h; ⟨a, cs, e, n, p.up s, c⟩
theorem ClAt.mut {K : PySem.W.Frag} {H : Hp} {l : Addr} {v : V} {z : Int × (Int → Prop)} {ys : List V} {o : HO} (hl : H l = some (.lst ys)) (h : ClAt K H l v z) : ClAt K (upd H l o) l v z := by
  obtain ⟨a, cs, e, n, ⟨xs, h1, h2⟩, c⟩ := h
  exact ⟨a, cs, e, n, ⟨xs, by rw [upd_ne n]; exact h1, prAll_up (keep_mut hl) h2⟩, c⟩
theorem clAll_up {K : PySem.W.Frag} {H H' : Hp} {l : Addr} {xs : List V} {zs : List (Int × (Int → Prop))} (s : Same H H') (h : Paired (ClAt K H l) xs zs) : Paired (ClAt K H' l) xs zs := Paired.mapP h fun _ _ q => q.up s
theorem clAll_mut {K : PySem.W.Frag} {H : Hp} {l : Addr} {xs : List V} {zs : List (Int × (Int → Prop))} {ys : List V} {o : HO} (hl : H l = some (.lst ys)) (h : Paired (ClAt K H l) xs zs) : Paired (ClAt K (upd H l o) l) xs zs := Paired.mapP h fun _ _ q => q.mut hl
theorem q_forTU {K : PySem.W.Frag} {σ : L2.St} {H : Hp} {tl : TE} {D : Ends} {tz tu : TS} {g : TG} (k : tl σ H fun x H1 => ∃ a, x = .ref a ∧ (∃ xs, SqT K H1 a xs) ∧ ∃ W : Nat → Nat → L2.St → Hp → Prop, (∃ m, W 0 m σ H1) ∧ ∀ i m σ H, W i m σ H →
      ((Itt K a).stop i H ∧ tz D σ H) ∨ ((Itt K a).go i H ∧ ∃ N : L2.St → Hp → Prop, (∀ σ' H', N σ' H' → ∃ m', m' < m ∧ W (i + 1) m' σ' H') ∧ ∀ x H', (Itt K a).yld i H x H' → g x σ H' fun σ2 H2 => tu { D with nx := N, ct := N, bk := tz D } σ2 H2)) : tSeq (tFor (iTup K tl) g tu) tz D σ H := k
theorem loopT {K : PySem.W.Frag} {a : Addr} {xs : List V} {g : TG} {tu tz : TS} {D : Ends} {σ : L2.St} {H : Hp} (hx : SqT K H a xs) (W : Nat → L2.St → Hp → Prop) (h0 : W 0 σ H) (hl : ∀ i σ' H', i ≤ xs.length → W i σ' H' → SqT K H' a xs)
    (hs : ∀ i x σ' H', xs[i]? = some x → W i σ' H' → g x σ' H' fun σ2 H2 => tu { D with nx := W (i + 1), ct := W (i + 1), bk := tz D } σ2 H2) (hd : ∀ σ' H', W xs.length σ' H' → tz D σ' H') : ∃ b, V.ref a = .ref b ∧ (∃ xs, SqT K H b xs) ∧ ∃ W : Nat → Nat → L2.St → Hp → Prop, (∃ m, W 0 m σ H) ∧ ∀ i m σ H, W i m σ H →
      ((Itt K b).stop i H ∧ tz D σ H) ∨ ((Itt K b).go i H ∧ ∃ N : L2.St → Hp → Prop, (∀ σ' H', N σ' H' → ∃ m', m' < m ∧ W (i + 1) m' σ' H') ∧ ∀ x H', (Itt K b).yld i H x H' → g x σ H' fun σ2 H2 => tu { D with nx := N, ct := N, bk := tz D } σ2 H2) :=
  ⟨a, rfl, ⟨xs, hx⟩, for_tup (D := { D with nx := tz D }) W h0 hl hs hd⟩
theorem c_makeC {C : Addr} {sp : Sp} {ta : TA} {σ : L2.St} {H : Hp} {Q : VK} (k : ta σ H fun vs H1 => ∀ x dx, H1 x = none → H1 dx = none → dx ≠ x → sp (.ref x :: (vs ++ [])) (upd (upd H1 dx (.own x)) x (.ins C dx [])) (fun v H2 => v = .non ∧ Q (.ref x) H2) E0) : tMake C sp [] E0 ta σ H Q := k
theorem Same.made {C x dx : Addr} {H H' : Hp} (hx : H x = none) (hd : H dx = none) (b : But x (upd (upd H dx (.own x)) x (.ins C dx [])) H') : Same H H' := fun a o e => by
  have n1 : a ≠ x := ne_of_none e hx
  have n2 : a ≠ dx := ne_of_none e hd
  exact b a o (by rw [upd_ne n1, upd_ne n2]; exact e) n1
/-- Times(start, end, classes) -/
theorem timMake {K : PySem.W.Frag} {H : Hp} {Q : VK} {st : Int} {e : Option Int} {a : Addr} {cs : List (Int × Int)} (h : PrL K H a cs ∨ PrT K H a cs) (h0 : 0 ≤ st) (he : ∀ t, e = some t → 0 ≤ t) (hl : cs.length ≤ 64) (ok : AllLe cs) (dj : Disj cs)
    (k : ∀ x H2 cs', Same H H2 → cs'.Perm cs → TimAt K H2 x st e cs' → Q (.ref x) H2) :
    ∀ x dx, H x = none → H dx = none → dx ≠ x → spTimI K (.ref x :: ([.int st, ov e, .ref a] ++ [])) (upd (upd H dx (.own x)) x (.ins (aTim K) dx [])) (fun v H2 => v = .non ∧ Q (.ref x) H2) E0 := fun x dx hx hd nd => by
  have s0 : Same H (upd (upd H dx (.own x)) x (.ins (aTim K) dx [])) := (Same.new hd).trans (Same.new (by rw [upd_ne nd.symm]; exact hx))
  exact ⟨x, dx, st, e, a, cs, rfl, upd_same, h.elim (fun p => .inl (p.up s0)) (fun p => .inr (p.up (Same.keep s0))), h0, he, hl, ok, dj, fun H' cs' p t b => ⟨rfl, k x H' cs' (Same.made hx hd b) p t⟩⟩
def spPartCls (K : PySem.W.Frag) : Sp := fun vs H Q _ => ∃ (p q1 q2 pa : Addr) (w h : Int) (n1 n2 : Str) (b c : Ball), vs = [.ref p, .ref q1, .ref q2] ∧ TabAt K H p w h pa ∧ 1 ≤ w ∧ 1 ≤ h ∧ SqT K H q1 (blV n1 b) ∧ SqT K H q2 (blV n2 c) ∧ b.Ok w h ∧ c.Ok w h ∧
  ∀ (t a1 a2 : Addr) (H' : Hp) (c1 c2 : List (Int × Int)), Same H H' → SqT K H' t [.ref a1, .ref a2] → PrL K H' a1 c1 → PrL K H' a2 c2 → Cl (2 * w) c1 (fun t => On w (un b.x b.dx b.m t) (un c.x c.dx c.m t)) → Cl (2 * h) c2 (fun t => On h (un b.y b.dy b.m t) (un c.y c.dy c.m t)) → Q (.ref t) H'
theorem mul_step {H : Hp} {d m : Int} (hd : Step d) : Rp (rI CMul fun i j => .int (i * j)) (.int d) (.int m) H (.int (d * m)) := r_I (C := CMul) (.inl (by
  unfold CuM.Step at hd
  omega))
section
variable {P : Program} {w : World} {K : PySem.W.Frag} {mg : Str → Option Value} {base : Heap} {f : Addr} {fd : FuncData}
theorem sc_part_classes : FnScope ["table", "one", "other", "found", "place", "size", "first", "second"] ["table", "one", "other"] (defScope sPartCls) := ⟨rfl, rfl, rfl, by decide +kernel, rfl, by decide +kernel, by decide +kernel⟩
theorem ok_partCls (F : FnP K "part_classes" "part_classes" sPartCls [] f fd) (T : Tx K mg) (G_meeting_classes : Df P w K mg base 2 "meeting_classes" ["size", "at", "step", "other", "move"] (spMeCls K)) : FnOk P w K mg base CX0 3 f fd ["table", "one", "other"] (spPartCls K) := by
  refine ok_of F sc_part_classes (fun vs H Q E h => ?_) (fun cdv A outer s H vs Q E hr h => ?_)
  · obtain ⟨_, _, _, _, _, _, _, _, _, _, rfl, _⟩ := h
    rfl
  · obtain ⟨p, q1, q2, pa, w, h, n1, n2, b, c, rfl, ⟨dx, fs, hp, lw, lh, lp, m1, m2⟩, w1, h1, hb, hc, okb, okc, k⟩ := h
    refine ⟨_, (pss_cons (ps_set (i := 3) sc_part_classes.nd rfl (Or.inl rfl) (pe_lst pa_nil))
  (pss_cons (ps_for PassesOwn.never rfl (pi_tup (pe_tup (pa_cons (pe_tup (pa_cons pe_int (pa_cons (pe_fld (pv 0) rfl) pa_nil))) (pa_cons (pe_tup (pa_cons pe_int (pa_cons (pe_fld (pv 0) rfl) pa_nil))) pa_nil)))) (pg_tup rfl (pgs_cons (pg_name (i := 4) sc_part_classes.nd rfl (Or.inl rfl)) (pgs_cons (pg_name (i := 5) sc_part_classes.nd rfl (Or.inl rfl)) pgs_nil)))
  (pss_cons (ps_set (i := 6) sc_part_classes.nd rfl (Or.inl rfl) (pe_op op_sub (pe_ix ix_tup (pv 1) (pv 4) (fun _ _ => rfl)) (pe_op op_mul (pe_ix ix_tup (pv 1) (pe_op op_add (pv 4) pe_int) (fun _ _ => rfl)) (pe_ix ix_tup (pv 1) pe_int (fun _ _ => rfl)))))
  (pss_cons (ps_set (i := 7) sc_part_classes.nd rfl (Or.inl rfl) (pe_op op_sub (pe_ix ix_tup (pv 2) (pv 4) (fun _ _ => rfl)) (pe_op op_mul (pe_ix ix_tup (pv 2) (pe_op op_add (pv 4) pe_int) (fun _ _ => rfl)) (pe_ix ix_tup (pv 2) pe_int (fun _ _ => rfl)))))
  (pss_one (ps_expr (pe_bm PySem.F.plainAttrs_list PySem.F.slot_list_append PySem.F.type_list_append mt_append (pv 3) (pa_cons (pe_df G_meeting_classes hr (pa_cons (pv 5) (pa_cons (pv 6) (pa_cons (pe_ix ix_tup (pv 1) (pe_op op_add (pv 4) pe_int) (fun _ _ => rfl)) (pa_cons (pv 7) (pa_cons (pe_ix ix_tup (pv 2) (pe_op op_add (pv 4) pe_int) (fun _ _ => rfl)) pa_nil)))))) pa_nil)))))))
  (pss_one (ps_ret (pe_tup (pa_cons (pe_ix ix_list (pv 3) pe_int (fun _ _ => rfl)) (pa_cons (pe_ix ix_list (pv 3) pe_int (fun _ _ => rfl)) pa_nil))))))), ?_⟩
    -- found = []
    refine q_setLst a_nil (by show 0 ≤ 100000; decide) fun l hl => ?_
    have s0 : Same H (upd H l (.lst [])) := Same.new hl
    -- ((1, table.width), (2, table.height))
    refine q_forTU (c_tupU (c_consC ?_))
    refine c_tup (a_cons v_c (a_cons (v_fld (v_var rfl) (s0 _ _ hp) T.cTab T.tabW lw) a_nil)) (by show 2 ≤ 100000; decide) fun t1 ht1 => ?_
    have e1 := Same.new (o := .tup [.int 1, .int w]) ht1
    refine c_consC (c_tup (a_cons v_c (a_cons (v_fld (v_var rfl) (e1 _ _ (s0 _ _ hp)) T.cTab T.tabH lh) a_nil)) (by show 2 ≤ 100000; decide) fun t2 ht2 => ?_)
    have e2 := Same.new (o := .tup [.int 2, .int h]) ht2
    refine ⟨by show 2 ≤ sizeLine; decide, fun tt htt => ?_⟩
    have e3 := Same.new (o := .tup [.ref t1, .ref t2]) htt
    generalize hHT : upd (upd (upd (upd H l (.lst [])) t1 (.tup [.int 1, .int w])) t2 (.tup [.int 2, .int h])) tt (.tup [.ref t1, .ref t2]) = HT at e3 ⊢
    have sT : Same H HT := s0.trans (e1.trans (e2.trans e3))
    have hlT : HT l = some (.lst []) := e3 _ _ (e2 _ _ (e1 _ _ upd_same))
    have k1 : SqT K HT t1 [.int 1, .int w] := SqT.of (e3 _ _ (e2 _ _ upd_same))
    have k2 : SqT K HT t2 [.int 2, .int h] := SqT.of (e3 _ _ upd_same)
    have k3 : SqT K HT tt [.ref t1, .ref t2] := by
      rw [← hHT]
      exact SqT.of upd_same
    generalize hzs : ([(w, fun t => On w (un b.x b.dx b.m t) (un c.x c.dx c.m t)), (h, fun t => On h (un b.y b.dy b.m t) (un c.y c.dy c.m t))] : List (Int × (Int → Prop))) = zs
    have cell : ∀ (i : Nat) (x : V), [V.ref t1, V.ref t2][i]? = some x → ∃ (t : Addr) (pl sz a1 d1 a2 d2 : Int), x = .ref t ∧ SqT K HT t [.int pl, .int sz] ∧ atI (blV n1 b) pl = some (.int a1) ∧ atI (blV n1 b) (pl + 2) = some (.int d1) ∧ atI (blV n2 c) pl = some (.int a2) ∧ atI (blV n2 c) (pl + 2) = some (.int d2) ∧
        1 ≤ sz ∧ CuM.Step d1 ∧ CuM.Step d2 ∧ zs[i]? = some (sz, fun t => On sz (un a1 d1 b.m t) (un a2 d2 c.m t)) := fun i x hi => by
      match i, hi with
      | 0, hi =>
        cases hi
        exact ⟨t1, 1, w, b.x, b.dx, c.x, c.dx, rfl, k1, rfl, rfl, rfl, rfl, w1, okb.sx, okc.sx, by rw [← hzs]; rfl⟩
      | 1, hi =>
        cases hi
        exact ⟨t2, 2, h, b.y, b.dy, c.y, c.dy, rfl, k2, rfl, rfl, rfl, rfl, h1, okb.sy, okc.sy, by rw [← hzs]; rfl⟩
      | n + 2, hi => cases hi
    refine loopT k3 (fun i σ' H' => ∃ (v4 v5 v6 v7 : Option V) (acc : List V), σ' = [some (.ref p), some (.ref q1), some (.ref q2), some (.ref l), v4, v5, v6, v7] ∧ Same H H' ∧ TupKeep K HT H' ∧ H' l = some (.lst acc) ∧ Paired (ClAt K H' l) acc (zs.take i))
      ⟨none, none, none, none, [], rfl, sT, fun _ _ z => z, hlT, .nil⟩ (fun i σ' H' _ ⟨_, _, _, _, _, _, _, tk, _⟩ => tk _ _ k3) ?_ ?_
    · rintro i x σ' H' hi ⟨v4, v5, v6, v7, acc, rfl, s4, tk, hl4, prs⟩
      obtain ⟨t, pl, sz, a1, d1, a2, d2, rfl, ht, x1, x2, x3, x4, g1, g2, g3, gz⟩ := cell i x hi
      refine ⟨t, _, rfl, tk _ _ ht, rfl, _, _, rfl, _, _, rfl, rfl, ?_⟩
      have hb4 := Same.tup s4 hb
      have hc4 := Same.tup s4 hc
      refine q_set (v_op (v_op (v_var rfl) (v_var rfl) (r_ixT hb4 x1)) (v_op (v_op (v_var rfl) (v_op (v_var rfl) v_c r_I0) (r_ixT hb4 x2)) (v_op (v_var rfl) v_c (r_ixT hb4 rfl)) (mul_step g2)) r_I0) ?_
      refine q_set (v_op (v_op (v_var rfl) (v_var rfl) (r_ixT hc4 x3)) (v_op (v_op (v_var rfl) (v_op (v_var rfl) v_c r_I0) (r_ixT hc4 x4)) (v_op (v_var rfl) v_c (r_ixT hc4 rfl)) (mul_step g3)) r_I0) ?_
      -- found.append(meeting_classes(..))
      refine s_dropC ?_
      refine ⟨_, rfl, Or.inl ⟨rfl, _, SqL.of hl4⟩, ?_⟩
      refine c_consC (c_callP (a_cons (v_var rfl) (a_cons (v_var rfl) (a_cons (v_op (v_var rfl) (v_op (v_var rfl) v_c r_I0) (r_ixT hb4 x2)) (a_cons (v_var rfl) (a_cons (v_op (v_var rfl) (v_op (v_var rfl) v_c r_I0) (r_ixT hc4 x4)) a_nil))))) ?_)
      refine ⟨sz, _, d1, _, d2, rfl, g1, g2, g3, fun a5 H5 cs5 s5 f5 p5 cl5 => ?_⟩
      have hl5 := s5 _ _ hl4
      have nal : a5 ≠ l := fun z => by
        rw [z, hl4] at f5
        cases f5
      have al : acc.length ≤ 2 := by
        have q1 := Paired.length prs
        rw [List.length_take, ← hzs] at q1
        have : [(w, fun t => On w (un b.x b.dx b.m t) (un c.x c.dx c.m t)), (h, fun t => On h (un b.y b.dy b.m t) (un c.y c.dy c.m t))].length = 2 := rfl
        omega
      refine ⟨l, acc, .ref a5, rfl, rfl, hl5, size_lt (by omega), ?_⟩
      refine ⟨_, _, _, _, _, rfl, Same.mut (s4.trans s5) hl, (tk.trans (Same.keep s5)).trans (keep_mut hl5), upd_same, ?_⟩
      rw [take_snoc gz]
      exact Paired.snoc (clAll_mut hl5 (clAll_up s5 prs)) (ClAt.mut hl5 ⟨a5, cs5, rfl, nal, p5, cl5⟩)
    · rintro σ' H' ⟨v4, v5, v6, v7, acc, rfl, s4, tk, hl4, prs⟩
      rw [← hzs] at prs
      cases prs with
      | cons r1 prs =>
        cases prs with
        | cons r2 prs =>
          cases prs
          obtain ⟨a1, c1, rfl, _, p1, cl1⟩ := r1
          obtain ⟨a2, c2, rfl, _, p2, cl2⟩ := r2
          refine s_retTup (a_cons (v_op (v_var rfl) v_c (r_ixL (SqL.of hl4) rfl)) (a_cons (v_op (v_var rfl) v_c (r_ixL (SqL.of hl4) rfl)) a_nil)) (by show 2 ≤ 100000; decide) fun t ht => ?_
          have e5 := Same.new (o := .tup [.ref a1, .ref a2]) ht
          exact k t a1 a2 _ c1 c2 (s4.trans e5) (SqT.of upd_same) (p1.up e5) (p2.up e5) cl1 cl2
end
end Cu
end
section
set_option Elab.async false
set_option linter.all false
set_option maxRecDepth 100000
set_option maxHeartbeats 4000000
namespace Cu
open PySem PySem.Spec PyProof.Rows L2 CuM
local macro_rules | `(tactic| walk_at "hp") => `(tactic| first
  | assumption
  | exact SqT.of (by assumption)
  | exact SqL.of (by assumption)
  | (apply SqT.of; walk_at "hq")
  | (apply SqL.of; walk_at "hq")
  | walk_at "hq")
local macro_rules | `(tactic| walk_at "hq") => `(tactic| first
  | assumption
  | exact upd_same
  | (refine Same.new (by assumption) _ _ ?_; walk_at "hq")
  | (refine Same.tup (Same.new (by assumption)) ?_; walk_at "hp")
  | (refine L2.Same.seq (Same.new (by assumption)) ?_; walk_at "hp"))
local macro_rules | `(tactic| walk_at "pv") => `(tactic| first
  | with_reducible exact v_c
  | ((with_reducible apply v_var); rfl)
  | (with_reducible apply v_op) <;> walk_at "pv"
  | (with_reducible apply v_un) <;> walk_at "pv"
  | (with_reducible apply v_fld) <;> walk_at "pv"
  | (with_reducible apply v_chain) <;> walk_at "pv"
  | (with_reducible apply v_and) <;> walk_at "pv"
  | (with_reducible apply v_or) <;> walk_at "pv"
  | (with_reducible apply v_not) <;> walk_at "pv"
  | (with_reducible apply v_isN) <;> walk_at "pv"
  | (with_reducible apply v_notN) <;> walk_at "pv"
  | (with_reducible apply v_cb) <;> walk_at "pv"
  | with_reducible exact a_nil
  | (with_reducible apply a_cons) <;> walk_at "pv"
  | (with_reducible apply b_test) <;> walk_at "pv"
  | (with_reducible apply b_B) <;> walk_at "pv"
  | (with_reducible apply b_and) <;> walk_at "pv"
  | (with_reducible apply b_or) <;> walk_at "pv"
  | (with_reducible apply b_not) <;> walk_at "pv"
  | with_reducible exact r_I0
  | with_reducible exact r_U
  | ((with_reducible apply r_I); walk_at "side")
  | ((with_reducible apply r_ixT); walk_at "hp"; first | rfl | assumption)
  | ((with_reducible apply r_ixL); walk_at "hp"; first | rfl | assumption)
  | ((with_reducible apply r_eq); rfl)
  | ((with_reducible apply r_ne); rfl)
  | ((with_reducible apply r_inT); walk_at "hp"; rfl; first | rfl | assumption)
  | ((with_reducible apply r_inL); walk_at "hp"; rfl; first | rfl | assumption)
  | with_reducible exact o_none
  | (with_reducible apply o_some) <;> walk_at "pv"
  | (intro _; walk_at "pv")
  | assumption
  | rfl
  | walk_at "side")
local macro_rules | `(tactic| walk_at "side") => `(tactic| first
  | assumption
  | (show (0 : Int) < _; first | decide | omega)
  | (show (0 : Int) < _ ∧ _ < (1073741824 : Int); exact ⟨by decide, by decide⟩)
  | walk_at "hp"
  | rfl)

/-! ### at_point, meetings, fall_of, first_fall, earlier -/
/-- the sizes that the law asks for -/
structure Sz (w h : Int) : Prop where
  w0 : 1 ≤ w
  w1 : w ≤ 2 ^ 90
  h0 : 1 ≤ h
  h1 : h ≤ 2 ^ 90
def spAtPt (K : PySem.W.Frag) : Sp := fun vs H Q _ => ∃ (p q g pa : Addr) (w h x y : Int) (nm : Str) (b : Ball), vs = [.ref p, .ref q, .ref g] ∧ TabAt K H p w h pa ∧ Sz w h ∧ SqT K H q (blV nm b) ∧ BOk w h nm b ∧ SqT K H g [.int x, .int y] ∧ InTab w h (x, y) ∧
  ∀ (t : Addr) (H' : Hp) (cs : List (Int × Int)), Same H H' → TimAt K H' t b.m none cs → (∀ u, Sat cs u ↔ hit w h b (x, y) u) → Q (.ref t) H'
def spMeets (K : PySem.W.Frag) : Sp := fun vs H Q _ => ∃ (p q1 q2 pa : Addr) (w h : Int) (n1 n2 : Str) (b c : Ball), vs = [.ref p, .ref q1, .ref q2] ∧ TabAt K H p w h pa ∧ Sz w h ∧ SqT K H q1 (blV n1 b) ∧ SqT K H q2 (blV n2 c) ∧ BOk w h n1 b ∧ BOk w h n2 c ∧
  ∀ (t : Addr) (H' : Hp) (cs : List (Int × Int)), Same H H' → TimAt K H' t (if c.m > b.m then c.m else b.m) none cs → (∀ u, Sat cs u ↔ meet w h b c u) → Q (.ref t) H'
theorem cl_ok {m : Int} {cs : List (Int × Int)} {S : Int → Prop} (h : Cl (2 * m) cs S) (hm : m ≤ 2 ^ 90) : AllOk (2 ^ 100) cs := fun c hc => by
  obtain ⟨a, b, d⟩ := h.ok c hc
  exact ⟨a, b, by omega⟩
section
variable {P : Program} {w : World} {K : PySem.W.Frag} {mg : Str → Option Value} {base : Heap} {f : Addr} {fd : FuncData}
theorem sc_at_point : FnScope ["table", "ball", "point", "rows", "place", "size", "first"] ["table", "ball", "point"] (defScope sAtPt) := ⟨rfl, rfl, rfl, by decide +kernel, rfl, by decide +kernel, by decide +kernel⟩
theorem ok_atPt (F : FnP K "at_point" "at_point" sAtPt [] f fd) (T : Tx K mg) (G_check_ball : Df P w K mg base 3 "check_ball" ["table", "ball"] (spChBall K)) (G_Table_check_point : Dm P w K mg base 2 (aTab K) "check_point" ["self", "point"] (spChPt K))
    (G_point_classes : Df P w K mg base 2 "point_classes" ["size", "at", "step", "goal"] (spPtCls K)) (G_crossed : Df P w K mg base 3 "crossed" ["one", "other"] (spCrossed K)) (G_TimesI : Dk P w K mg base 2 (aTim K) "Times" ["self", "start", "end", "classes"] (spTimI K)) :
    FnOk P w K mg base CX0 4 f fd ["table", "ball", "point"] (spAtPt K) := by
  refine ok_of F sc_at_point (fun vs H Q E h => ?_) (fun cdv A outer s H vs Q E hr h => ?_)
  · obtain ⟨_, _, _, _, _, _, _, _, _, _, rfl, _⟩ := h
    rfl
  · obtain ⟨p, q, g, pa, w, h, x, y, nm, b, rfl, tab, sz, hb, bk, hg, hin, k⟩ := h
    refine ⟨_, (pss_cons (ps_expr (pe_df G_check_ball hr (pa_cons (pv 0) (pa_cons (pv 1) pa_nil))))
  (pss_cons (ps_expr (pe_dm (pv 0) T.cTab G_Table_check_point hr (pa_cons (pv 2) pa_nil)))
  (pss_cons (ps_set (i := 3) sc_at_point.nd rfl (Or.inl rfl) (pe_lst pa_nil))
  (pss_cons (ps_for PassesOwn.never rfl (pi_tup (pe_tup (pa_cons (pe_tup (pa_cons pe_int (pa_cons (pe_fld (pv 0) rfl) pa_nil))) (pa_cons (pe_tup (pa_cons pe_int (pa_cons (pe_fld (pv 0) rfl) pa_nil))) pa_nil)))) (pg_tup rfl (pgs_cons (pg_name (i := 4) sc_at_point.nd rfl (Or.inl rfl)) (pgs_cons (pg_name (i := 5) sc_at_point.nd rfl (Or.inl rfl)) pgs_nil)))
  (pss_cons (ps_set (i := 6) sc_at_point.nd rfl (Or.inl rfl) (pe_op op_sub (pe_ix ix_tup (pv 1) (pv 4) (fun _ _ => rfl)) (pe_op op_mul (pe_ix ix_tup (pv 1) (pe_op op_add (pv 4) pe_int) (fun _ _ => rfl)) (pe_ix ix_tup (pv 1) pe_int (fun _ _ => rfl)))))
  (pss_one (ps_expr (pe_bm PySem.F.plainAttrs_list PySem.F.slot_list_append PySem.F.type_list_append mt_append (pv 3) (pa_cons (pe_df G_point_classes hr (pa_cons (pv 5) (pa_cons (pv 6) (pa_cons (pe_ix ix_tup (pv 1) (pe_op op_add (pv 4) pe_int) (fun _ _ => rfl)) (pa_cons (pe_ix ix_tup (pv 2) (pe_op op_sub (pv 4) pe_int) (fun _ _ => rfl)) pa_nil))))) pa_nil))))))
  (pss_one (ps_ret (pe_dk G_TimesI hr (pa_cons (pe_ix ix_tup (pv 1) pe_int (fun _ _ => rfl)) (pa_cons pe_non (pa_cons (pe_df G_crossed hr (pa_cons (pe_ix ix_list (pv 3) pe_int (fun _ _ => rfl)) (pa_cons (pe_ix ix_list (pv 3) pe_int (fun _ _ => rfl)) pa_nil))) pa_nil)))))))))), ?_⟩
    have okb := bk.ok
    refine q_dropC (c_callP (a_cons (v_var rfl) (a_cons (v_var rfl) a_nil)) ⟨p, q, pa, w, h, nm, b, rfl, tab, hb, bk, fun Hc sc => ?_⟩)
    have tabc := tab.up sc
    obtain ⟨dx, fs, hp, lw, lh, lp, m1, m2⟩ := id tabc
    have hbc := Same.tup sc hb
    have hgc := Same.tup sc hg
    refine q_dropC ⟨_, rfl, p, dx, fs, rfl, hp, m2, .ref g, rfl, p, g, pa, w, h, x, y, rfl, tabc, hgc, hin, ?_⟩
    -- rows = []
    refine q_setLst a_nil (by show 0 ≤ 100000; decide) fun l hl => ?_
    have s0 : Same Hc (upd Hc l (.lst [])) := Same.new hl
    refine q_forTU (c_tupU (c_consC ?_))
    refine c_tup (a_cons v_c (a_cons (v_fld (v_var rfl) (s0 _ _ hp) T.cTab T.tabW lw) a_nil)) (by show 2 ≤ 100000; decide) fun t1 ht1 => ?_
    have e1 := Same.new (o := .tup [.int 1, .int w]) ht1
    refine c_consC (c_tup (a_cons v_c (a_cons (v_fld (v_var rfl) (e1 _ _ (s0 _ _ hp)) T.cTab T.tabH lh) a_nil)) (by show 2 ≤ 100000; decide) fun t2 ht2 => ?_)
    have e2 := Same.new (o := .tup [.int 2, .int h]) ht2
    refine ⟨by show 2 ≤ sizeLine; decide, fun tt htt => ?_⟩
    have e3 := Same.new (o := .tup [.ref t1, .ref t2]) htt
    generalize hHT : upd (upd (upd (upd Hc l (.lst [])) t1 (.tup [.int 1, .int w])) t2 (.tup [.int 2, .int h])) tt (.tup [.ref t1, .ref t2]) = HT at e3 ⊢
    have sT : Same Hc HT := s0.trans (e1.trans (e2.trans e3))
    have hlT : HT l = some (.lst []) := e3 _ _ (e2 _ _ (e1 _ _ upd_same))
    have k1 : SqT K HT t1 [.int 1, .int w] := SqT.of (e3 _ _ (e2 _ _ upd_same))
    have k2 : SqT K HT t2 [.int 2, .int h] := SqT.of (e3 _ _ upd_same)
    have k3 : SqT K HT tt [.ref t1, .ref t2] := by
      rw [← hHT]
      exact SqT.of upd_same
    generalize hzs : ([(w, fun t => On w (un b.x b.dx b.m t) x), (h, fun t => On h (un b.y b.dy b.m t) y)] : List (Int × (Int → Prop))) = zs
    have cell : ∀ (i : Nat) (z : V), [V.ref t1, V.ref t2][i]? = some z → ∃ (t : Addr) (pl sz a1 d1 a2 : Int), z = .ref t ∧ SqT K HT t [.int pl, .int sz] ∧ atI (blV nm b) pl = some (.int a1) ∧ atI (blV nm b) (pl + 2) = some (.int d1) ∧ atI [V.int x, V.int y] (pl - 1) = some (.int a2) ∧
        1 ≤ sz ∧ CuM.Step d1 ∧ zs[i]? = some (sz, fun t => On sz (un a1 d1 b.m t) a2) := fun i z hi => by
      match i, hi with
      | 0, hi =>
        cases hi
        exact ⟨t1, 1, w, b.x, b.dx, x, rfl, k1, rfl, rfl, rfl, sz.w0, okb.sx, by rw [← hzs]; rfl⟩
      | 1, hi =>
        cases hi
        exact ⟨t2, 2, h, b.y, b.dy, y, rfl, k2, rfl, rfl, rfl, sz.h0, okb.sy, by rw [← hzs]; rfl⟩
      | n + 2, hi => cases hi
    refine loopT k3 (fun i σ' H' => ∃ (v4 v5 v6 : Option V) (acc : List V), σ' = [some (.ref p), some (.ref q), some (.ref g), some (.ref l), v4, v5, v6] ∧ Same Hc H' ∧ TupKeep K HT H' ∧ H' l = some (.lst acc) ∧ Paired (ClAt K H' l) acc (zs.take i))
      ⟨none, none, none, [], rfl, sT, fun _ _ z => z, hlT, .nil⟩ (fun i σ' H' _ ⟨_, _, _, _, _, _, tk, _⟩ => tk _ _ k3) ?_ ?_
    · rintro i z σ' H' hi ⟨v4, v5, v6, acc, rfl, s4, tk, hl4, prs⟩
      obtain ⟨t, pl, sz, a1, d1, a2, rfl, ht, x1, x2, x3, g1, g2, gz⟩ := cell i z hi
      refine ⟨t, _, rfl, tk _ _ ht, rfl, _, _, rfl, _, _, rfl, rfl, ?_⟩
      have hb4 := Same.tup s4 hbc
      have hg4 := Same.tup s4 hgc
      refine q_set (v_op (v_op (v_var rfl) (v_var rfl) (r_ixT hb4 x1)) (v_op (v_op (v_var rfl) (v_op (v_var rfl) v_c r_I0) (r_ixT hb4 x2)) (v_op (v_var rfl) v_c (r_ixT hb4 rfl)) (mul_step g2)) r_I0) ?_
      refine s_dropC ?_
      refine ⟨_, rfl, Or.inl ⟨rfl, _, SqL.of hl4⟩, ?_⟩
      refine c_consC (c_callP (a_cons (v_var rfl) (a_cons (v_var rfl) (a_cons (v_op (v_var rfl) (v_op (v_var rfl) v_c r_I0) (r_ixT hb4 x2)) (a_cons (v_op (v_var rfl) (v_op (v_var rfl) v_c r_I0) (r_ixT hg4 x3)) a_nil)))) ?_)
      refine ⟨sz, _, d1, _, rfl, g1, g2, fun a5 H5 cs5 s5 f5 p5 cl5 => ?_⟩
      have hl5 := s5 _ _ hl4
      have nal : a5 ≠ l := fun z => by
        rw [z, hl4] at f5
        cases f5
      have al : acc.length ≤ 2 := by
        have q1 := Paired.length prs
        rw [List.length_take, ← hzs] at q1
        have : [(w, fun t => On w (un b.x b.dx b.m t) x), (h, fun t => On h (un b.y b.dy b.m t) y)].length = 2 := rfl
        omega
      refine ⟨l, acc, .ref a5, rfl, rfl, hl5, size_lt (by omega), ?_⟩
      refine ⟨_, _, _, _, rfl, Same.mut (s4.trans s5) hl, (tk.trans (Same.keep s5)).trans (keep_mut hl5), upd_same, ?_⟩
      rw [take_snoc gz]
      exact Paired.snoc (clAll_mut hl5 (clAll_up s5 prs)) (ClAt.mut hl5 ⟨a5, cs5, rfl, nal, p5, cl5⟩)
    · rintro σ' H' ⟨v4, v5, v6, acc, rfl, s4, tk, hl4, prs⟩
      rw [← hzs] at prs
      cases prs with
      | cons r1 prs =>
        cases prs with
        | cons r2 prs =>
          cases prs
          obtain ⟨a1, c1, rfl, _, p1, cl1⟩ := r1
          obtain ⟨a2, c2, rfl, _, p2, cl2⟩ := r2
          refine s_retC (c_makeC (c_consC ?_))
          refine c_pv (v_op (v_var rfl) v_c (r_ixT (Same.tup s4 hbc) rfl)) ?_
          refine c_consC (c_pv v_c (c_consC ?_))
          refine c_callP (a_cons (v_op (v_var rfl) v_c (r_ixL (SqL.of hl4) rfl)) (a_cons (v_op (v_var rfl) v_c (r_ixL (SqL.of hl4) rfl)) a_nil)) ?_
          have z1 := cl1.len
          have z2 := cl2.len
          refine ⟨a1, a2, c1, c2, rfl, p1, p2, by omega, by omega, cl_ok cl1 sz.w1, cl_ok cl2 sz.h1, cl1.dj, cl2.dj, fun a5 H5 cs5 s5 p5 sat5 dj5 ok5 len5 => ?_⟩
          have len6 : cs5.length ≤ 64 := by
            have := Nat.mul_le_mul z1 z2
            omega
          exact timMake (e := none) (.inl p5) okb.m0 (fun t e => by cases e) len6 ok5 dj5 fun t H6 cs' s6 pm ta => k t H6 cs' (sc.trans (s4.trans (s5.trans s6))) ta fun u => by
            rw [sat_perm pm, sat5, cl1.sat, cl2.sat]
            exact Iff.rfl
theorem sc_meetings : FnScope ["table", "one", "other", "first", "second"] ["table", "one", "other"] (defScope sMeets) := ⟨rfl, rfl, rfl, by decide +kernel, rfl, by decide +kernel, by decide +kernel⟩
theorem ok_meets (F : FnP K "meetings" "meetings" sMeets [] f fd) (T : Tx K mg) (G_check_ball : Df P w K mg base 3 "check_ball" ["table", "ball"] (spChBall K)) (G_part_classes : Df P w K mg base 3 "part_classes" ["table", "one", "other"] (spPartCls K))
    (G_crossed : Df P w K mg base 3 "crossed" ["one", "other"] (spCrossed K)) (G_TimesI : Dk P w K mg base 2 (aTim K) "Times" ["self", "start", "end", "classes"] (spTimI K)) : FnOk P w K mg base CX0 4 f fd ["table", "one", "other"] (spMeets K) := by
  refine ok_of F sc_meetings (fun vs H Q E h => ?_) (fun cdv A outer s H vs Q E hr h => ?_)
  · obtain ⟨_, _, _, _, _, _, _, _, _, _, rfl, _⟩ := h
    rfl
  · obtain ⟨p, q1, q2, pa, w, h, n1, n2, b, c, rfl, tab, sz, hb, hc, bk, ck, k⟩ := h
    refine ⟨_, (pss_cons (ps_expr (pe_df G_check_ball hr (pa_cons (pv 0) (pa_cons (pv 1) pa_nil))))
  (pss_cons (ps_expr (pe_df G_check_ball hr (pa_cons (pv 0) (pa_cons (pv 2) pa_nil))))
  (pss_cons (ps_asg (pe_df G_part_classes hr (pa_cons (pv 0) (pa_cons (pv 1) (pa_cons (pv 2) pa_nil)))) (pg_tup rfl (pgs_cons (pg_name (i := 3) sc_meetings.nd rfl (Or.inl rfl)) (pgs_cons (pg_name (i := 4) sc_meetings.nd rfl (Or.inl rfl)) pgs_nil))))
  (pss_one (ps_ret (pe_dk G_TimesI hr (pa_cons (pe_callB (call_max2 rfl) (by rfl) T.nomax (by decide +kernel) (pa_cons (pe_ix ix_tup (pv 1) pe_int (fun _ _ => rfl)) (pa_cons (pe_ix ix_tup (pv 2) pe_int (fun _ _ => rfl)) pa_nil))) (pa_cons pe_non (pa_cons (pe_df G_crossed hr (pa_cons (pv 3) (pa_cons (pv 4) pa_nil))) pa_nil))))))))), ?_⟩
    refine q_dropC (c_callP (a_cons (v_var rfl) (a_cons (v_var rfl) a_nil)) ⟨p, q1, pa, w, h, n1, b, rfl, tab, hb, bk, fun H1 s1 => ?_⟩)
    refine q_dropC (c_callP (a_cons (v_var rfl) (a_cons (v_var rfl) a_nil)) ⟨p, q2, pa, w, h, n2, c, rfl, tab.up s1, Same.tup s1 hc, ck, fun H2 s2 => ?_⟩)
    have s12 := s1.trans s2
    refine c_callP (a_cons (v_var rfl) (a_cons (v_var rfl) (a_cons (v_var rfl) a_nil))) ⟨p, q1, q2, pa, w, h, n1, n2, b, c, rfl, tab.up s12, sz.w0, sz.h0, Same.tup s12 hb, Same.tup s12 hc, bk.ok, ck.ok, fun t a1 a2 H3 c1 c2 s3 ht p1 p2 cl1 cl2 => ?_⟩
    refine ⟨t, _, rfl, ht, rfl, _, _, rfl, _, _, rfl, rfl, ?_⟩
    have s13 := s12.trans s3
    dsimp only
    refine s_retC (c_makeC (c_consC ?_))
    refine c_pv (v_cb (a_cons (v_op (v_var rfl) v_c (r_ixT (Same.tup s13 hb) rfl)) (a_cons (v_op (v_var rfl) v_c (r_ixT (Same.tup s13 hc) rfl)) a_nil)) (fun Q q => ⟨b.m, c.m, rfl, q⟩)) ?_
    refine c_consC (c_pv v_c (c_consC ?_))
    have z1 := cl1.len
    have z2 := cl2.len
    refine c_callP (a_cons (v_var rfl) (a_cons (v_var rfl) a_nil)) ⟨a1, a2, c1, c2, rfl, p1, p2, by omega, by omega, cl_ok cl1 sz.w1, cl_ok cl2 sz.h1, cl1.dj, cl2.dj, fun a5 H5 cs5 s5 p5 sat5 dj5 ok5 len5 => ?_⟩
    have len6 : cs5.length ≤ 64 := by
      have := Nat.mul_le_mul z1 z2
      omega
    have st0 : 0 ≤ (if c.m > b.m then c.m else b.m) := by
      have := bk.ok.m0
      have := ck.ok.m0
      split <;> omega
    exact timMake (e := none) (.inl p5) st0 (fun t e => by cases e) len6 ok5 dj5 fun t H6 cs' s6 pm ta => k t H6 cs' (s13.trans (s5.trans s6)) ta fun u => by
      rw [sat_perm pm, sat5, cl1.sat, cl2.sat]
      exact Iff.rfl
end
end Cu
end
section
set_option Elab.async false
set_option linter.all false
set_option maxRecDepth 100000
set_option maxHeartbeats 4000000
namespace Cu
open PySem PySem.Spec PyProof.Rows L2 CuM
local macro_rules | `(tactic| walk_at "hp") => `(tactic| first
  | assumption
  | exact SqT.of (by assumption)
  | exact SqL.of (by assumption)
  | (apply SqT.of; walk_at "hq")
  | (apply SqL.of; walk_at "hq")
  | walk_at "hq")
local macro_rules | `(tactic| walk_at "hq") => `(tactic| first
  | assumption
  | exact upd_same
  | (refine Same.new (by assumption) _ _ ?_; walk_at "hq")
  | (refine Same.tup (Same.new (by assumption)) ?_; walk_at "hp")
  | (refine L2.Same.seq (Same.new (by assumption)) ?_; walk_at "hp"))
local macro_rules | `(tactic| walk_at "pv") => `(tactic| first
  | with_reducible exact v_c
  | ((with_reducible apply v_var); rfl)
  | (with_reducible apply v_op) <;> walk_at "pv"
  | (with_reducible apply v_un) <;> walk_at "pv"
  | (with_reducible apply v_fld) <;> walk_at "pv"
  | (with_reducible apply v_chain) <;> walk_at "pv"
  | (with_reducible apply v_and) <;> walk_at "pv"
  | (with_reducible apply v_or) <;> walk_at "pv"
  | (with_reducible apply v_not) <;> walk_at "pv"
  | (with_reducible apply v_isN) <;> walk_at "pv"
  | (with_reducible apply v_notN) <;> walk_at "pv"
  | (with_reducible apply v_cb) <;> walk_at "pv"
  | with_reducible exact a_nil
  | (with_reducible apply a_cons) <;> walk_at "pv"
  | (with_reducible apply b_test) <;> walk_at "pv"
  | (with_reducible apply b_B) <;> walk_at "pv"
  | (with_reducible apply b_and) <;> walk_at "pv"
  | (with_reducible apply b_or) <;> walk_at "pv"
  | (with_reducible apply b_not) <;> walk_at "pv"
  | with_reducible exact r_I0
  | with_reducible exact r_U
  | ((with_reducible apply r_I); walk_at "side")
  | ((with_reducible apply r_ixT); walk_at "hp"; first | rfl | assumption)
  | ((with_reducible apply r_ixL); walk_at "hp"; first | rfl | assumption)
  | ((with_reducible apply r_eq); rfl)
  | ((with_reducible apply r_ne); rfl)
  | ((with_reducible apply r_inT); walk_at "hp"; rfl; first | rfl | assumption)
  | ((with_reducible apply r_inL); walk_at "hp"; rfl; first | rfl | assumption)
  | with_reducible exact o_none
  | (with_reducible apply o_some) <;> walk_at "pv"
  | (intro _; walk_at "pv")
  | assumption
  | rfl
  | walk_at "side")
local macro_rules | `(tactic| walk_at "side") => `(tactic| first
  | assumption
  | (show (0 : Int) < _; first | decide | omega)
  | (show (0 : Int) < _ ∧ _ < (1073741824 : Int); exact ⟨by decide, by decide⟩)
  | walk_at "hp"
  | rfl)

/-! ### fall_of, first_fall, earlier -/
def FAt (K : PySem.W.Frag) (H : Hp) (v : V) : Option Int → Prop
  | none => v = .non
  | some t => ∃ f g, v = .ref f ∧ SqT K H f [.int t, .ref g]
theorem FAt.up {K : PySem.W.Frag} {H H' : Hp} {v : V} {o : Option Int} (s : Same H H') (h : FAt K H v o) : FAt K H' v o := by
  cases o with
  | none => exact h
  | some t =>
    obtain ⟨f, g, e, q⟩ := h
    exact ⟨f, g, e, Same.tup s q⟩
def spFallOf (K : PySem.W.Frag) : Sp := fun vs H Q _ => ∃ (p q pa : Addr) (w h : Int) (pk : List (Int × Int)) (nm : Str) (b : Ball), vs = [.ref p, .ref q] ∧ TabAt K H p w h pa ∧ Sz w h ∧ PrT K H pa pk ∧ (∀ c ∈ pk, InTab w h c) ∧ pk.length ≤ 12 ∧ SqT K H q (blV nm b) ∧ BOk w h nm b ∧
  ∀ (H' : Hp) (v : V) (o : Option Int), Same H H' → FAt K H' v o → IsFall w h pk b o → Q v H'
def spFirstFall (K : PySem.W.Frag) : Sp := fun vs H Q _ => ∃ (p q pa : Addr) (w h : Int) (pk : List (Int × Int)) (nm : Str) (b : Ball), vs = [.ref p, .ref q] ∧ TabAt K H p w h pa ∧ Sz w h ∧ PrT K H pa pk ∧ (∀ c ∈ pk, InTab w h c) ∧ pk.length ≤ 12 ∧ SqT K H q (blV nm b) ∧ BOk w h nm b ∧
  ∀ (H' : Hp) (o : Option Int), Same H H' → IsFall w h pk b o → Q (ov o) H'
def spEarlier (K : PySem.W.Frag) : Sp := fun vs H Q _ => ∃ (o q : Option Int), vs = [ov o, ov q] ∧ Q (ov (lesser o q)) H
theorem hits_snoc {w h : Int} {b : Ball} {pk : List (Int × Int)} {c : Int × Int} (t : Int) : hits w h b (pk ++ [c]) t ↔ hits w h b pk t ∨ hit w h b c t := by
  constructor
  · rintro ⟨p, hp, k⟩
    rcases List.mem_append.mp hp with hp | hp
    · exact .inl ⟨p, hp, k⟩
    · rw [List.mem_singleton] at hp
      exact .inr (hp ▸ k)
  · rintro (⟨p, hp, k⟩ | k)
    · exact ⟨p, List.mem_append.mpr (.inl hp), k⟩
    · exact ⟨c, List.mem_append.mpr (.inr (List.mem_singleton.mpr rfl)), k⟩
/-- a further pocket: the first minute there is n -/
theorem fall_snoc {w h : Int} {b : Ball} {pk : List (Int × Int)} {c : Int × Int} {o n : Option Int} (a : IsFall w h pk b o) (k : IsFall w h [c] b n) : IsFall w h (pk ++ [c]) b (match n with
    | none => o
    | some u => match o with
      | none => some u
      | some t => some (if u < t then u else t)) := by
  have one : ∀ t, hits w h b [c] t ↔ hit w h b c t := fun t => ⟨fun ⟨p, hp, k⟩ => by rw [List.mem_singleton] at hp; exact hp ▸ k, fun k => ⟨c, List.mem_singleton.mpr rfl, k⟩⟩
  cases n with
  | none =>
    cases o with
    | none =>
      intro t ht q
      rcases (hits_snoc t).mp q with q | q
      · exact a t ht q
      · exact k t ht ((one t).mpr q)
    | some z =>
      obtain ⟨a1, a2, a3⟩ := a
      refine ⟨a1, (hits_snoc z).mpr (.inl a2), fun u hu q => ?_⟩
      rcases (hits_snoc u).mp q with q | q
      · exact a3 u hu q
      · exact absurd ((one u).mpr q) (k u hu)
  | some u =>
    obtain ⟨k1, k2, k3⟩ := k
    cases o with
    | none =>
      refine ⟨k1, (hits_snoc u).mpr (.inr ((one u).mp k2)), fun z hz q => ?_⟩
      rcases (hits_snoc z).mp q with q | q
      · exact absurd q (a z hz)
      · exact k3 z hz ((one z).mpr q)
    | some t =>
      obtain ⟨a1, a2, a3⟩ := a
      show IsFall w h (pk ++ [c]) b (some (if u < t then u else t))
      refine ⟨by split <;> omega, ?_, fun z hz q => ?_⟩
      · split
        · exact (hits_snoc u).mpr (.inr ((one u).mp k2))
        · exact (hits_snoc t).mpr (.inl a2)
      · rcases (hits_snoc z).mp q with q | q
        · have := a3 z hz q
          split <;> omega
        · have := k3 z hz ((one z).mpr q)
          split <;> omega
theorem hit_one {w h : Int} {b : Ball} {c : Int × Int} (t : Int) : hits w h b [c] t ↔ hit w h b c t := ⟨fun ⟨p, hp, k⟩ => by rw [List.mem_singleton] at hp; exact hp ▸ k, fun k => ⟨c, List.mem_singleton.mpr rfl, k⟩⟩
section
variable {σ : L2.St} {H : Hp} {ta : TE} {x : V}
theorem b_isN1 (h : Pv ta σ H .non) : Pt (tTest (tIsN ta)) σ H true := fun Q q => h _ ⟨true, rfl, q⟩
theorem b_isN0 (h : Pv ta σ H x) (n : x ≠ .non := by (intro z; cases z)) : Pt (tTest (tIsN ta)) σ H false := fun Q q => h _ ⟨false, by rw [decide_eq_false n], q⟩
theorem b_nN0 (h : Pv ta σ H .non) : Pt (tTest (tNotN ta)) σ H false := fun Q q => h _ ⟨false, rfl, q⟩
theorem b_nN1 (h : Pv ta σ H x) (n : x ≠ .non := by (intro z; cases z)) : Pt (tTest (tNotN ta)) σ H true := fun Q q => h _ ⟨true, by rw [decide_eq_false n]; rfl, q⟩
end
section
variable {P : Program} {w : World} {K : PySem.W.Frag} {mg : Str → Option Value} {base : Heap} {f : Addr} {fd : FuncData}
theorem sc_fall_of : FnScope ["table", "ball", "found", "pocket", "minute"] ["table", "ball"] (defScope sFallOf) := ⟨rfl, rfl, rfl, by decide +kernel, rfl, by decide +kernel, by decide +kernel⟩
theorem ok_fallOf (F : FnP K "fall_of" "fall_of" sFallOf [] f fd) (T : Tx K mg) (G_check_ball : Df P w K mg base 3 "check_ball" ["table", "ball"] (spChBall K)) (G_at_point : Df P w K mg base 4 "at_point" ["table", "ball", "point"] (spAtPt K))
    (G_Times_next_from : Dm P w K mg base 2 (aTim K) "next_from" ["self", "minute"] (spNext K)) : FnOk P w K mg base CX0 5 f fd ["table", "ball"] (spFallOf K) := by
  refine ok_of F sc_fall_of (fun vs H Q E h => ?_) (fun cdv A outer s H vs Q E hr h => ?_)
  · obtain ⟨_, _, _, _, _, _, _, _, rfl, _⟩ := h
    rfl
  · obtain ⟨p, q, pa, w, h, pk, nm, b, rfl, tab, sz, ⟨xs, hxs, prs⟩, hin, hlen, hb, bk, k⟩ := h
    refine ⟨_, (pss_cons (ps_expr (pe_df G_check_ball hr (pa_cons (pv 0) (pa_cons (pv 1) pa_nil))))
  (pss_cons (ps_set (i := 2) sc_fall_of.nd rfl (Or.inl rfl) pe_non)
  (pss_cons (ps_for PassesOwn.never rfl (pi_tup (pe_fld (pv 0) rfl)) (pg_name (i := 3) sc_fall_of.nd rfl (Or.inl rfl))
  (pss_cons (ps_set (i := 4) sc_fall_of.nd rfl (Or.inl rfl) (pe_dm (pe_df G_at_point hr (pa_cons (pv 0) (pa_cons (pv 1) (pa_cons (pv 3) pa_nil)))) T.cTim G_Times_next_from hr (pa_cons (pe_ix ix_tup (pv 1) pe_int (fun _ _ => rfl)) pa_nil)))
  (pss_one (ps_if (PW.pt (pw_and (pt_cmp (pc_notN (pv 4))) (pw_and1 (PW.pt (pw_or (pt_cmp (pc_isN (pv 2))) (pw_or1 (pt_cmpR op_lt (pv 4) (pe_ix ix_tup (pv 2) pe_int (fun _ _ => rfl)) (nomark _))))))))
  (pss_one (ps_set (i := 2) sc_fall_of.nd rfl (Or.inl rfl) (pe_tup (pa_cons (pv 4) (pa_cons (pv 3) pa_nil)))))
  pss_nil))))
  (pss_one (ps_ret (pv 2)))))), ?_⟩
    refine q_dropC (c_callP (a_cons (v_var rfl) (a_cons (v_var rfl) a_nil)) ⟨p, q, pa, w, h, nm, b, rfl, tab, hb, bk, fun H1 s1 => ?_⟩)
    refine q_set v_c ?_
    obtain ⟨dx, fs, hp, lw, lh, lp, m1, m2⟩ := id (tab.up s1)
    have zx := Paired.length prs
    refine q_forT (K := K) (xs := xs) (v_fld (v_var rfl) hp T.cTab T.tabP lp) (Same.tup s1 hxs) (fun i σ' H' => ∃ (v : V) (o : Option Int) (v3 v4 : Option V), σ' = [some (.ref p), some (.ref q), some v, v3, v4] ∧ Same H H' ∧ FAt K H' v o ∧ IsFall w h (pk.take i) b o)
      ⟨.non, none, none, none, rfl, s1, rfl, fun t _ ⟨_, hp, _⟩ => by cases hp⟩ (fun i σ' H' _ ⟨_, _, _, _, _, s4, _⟩ => Same.tup s4 hxs) ?_ ?_
    · rintro i x σ' H' hi ⟨v, o, v3, v4, rfl, s4, fa, fo⟩
      obtain ⟨c, hc, g, rfl, hg⟩ := prd_get prs hi
      have cin := hin c (List.mem_of_getElem? hc)
      have hb4 := Same.tup s4 hb
      refine q_setC ?_
      refine c_callP (a_cons (v_var rfl) (a_cons (v_var rfl) (a_cons (v_var rfl) a_nil))) ⟨p, q, g, pa, w, h, c.1, c.2, nm, b, rfl, tab.up s4, sz, hb4, bk, Same.tup s4 hg, cin, fun t H5 cs s5 ta sat => ?_⟩
      obtain ⟨⟨dx5, fs5, a5, ht5, g1, g2, g3, g4, n1, n2, n3⟩, okc, lnc⟩ := id ta
      have s45 := s4.trans s5
      refine ⟨t, dx5, fs5, rfl, ht5, n3, ?_⟩
      refine a_cons (v_op (v_var rfl) v_c (r_ixT (Same.tup s45 hb) rfl)) a_nil _ ?_
      have e0 : (if b.m > b.m then b.m else b.m) = b.m := by split <;> rfl
      have fin : ∀ (n : Option Int) (H6 : Hp), Same H5 H6 → IsFall w h [c] b n → (match n with
          | none => True
          | some u => True) := fun n H6 _ _ => by cases n <;> trivial
      refine ⟨t, b.m, b.m, none, cs, rfl, ta, fun H6 u s6 hn hw => ?_, fun H6 s6 hno => ?_⟩
      · rw [e0] at hn
        have k1 : IsFall w h [c] b (some u) := ⟨hn.1, (hit_one u).mpr ((sat u).mp hn.2.1), fun z hz q => hn.2.2 z hz ((sat z).mpr ((hit_one z).mp q))⟩
        have s46 := s45.trans s6
        have fa6 := (fa.up s5).up s6
        have fs := fall_snoc fo k1
        rw [← take_snoc hc] at fs
        cases o with
        | none =>
          cases (show v = .non from fa6)
          refine s_when (b := true) (b_and (a := true) (b := true) (b_nN1 (x := .int u) (v_var rfl)) fun _ => b_or (a := true) (b := false) (b_isN1 (v_var rfl)) (fun z => by cases z)) (fun _ => ?_) (fun z => by cases z)
          refine s_setC (c_tup (a_cons (v_var rfl) (a_cons (v_var rfl) a_nil)) (by show 2 ≤ 100000; decide) fun f7 hf7 => ?_)
          exact ⟨_, some u, _, _, rfl, s46.trans (Same.new hf7), ⟨f7, g, rfl, SqT.of upd_same⟩, fs⟩
        | some z =>
          obtain ⟨f6, g6, rfl, hf6⟩ := fa6
          refine s_when (b_and (a := true) (b_nN1 (x := .int u) (v_var rfl)) fun _ => b_or (a := false) (b_isN0 (x := .ref f6) (v_var rfl)) fun _ => b_test (v_op (v_var rfl) (v_op (v_var rfl) v_c (r_ixT hf6 rfl)) r_I0)) (fun hb => ?_) (fun hb => ?_)
          · have hlt : u < z := by simpa using hb
            refine s_setC (c_tup (a_cons (v_var rfl) (a_cons (v_var rfl) a_nil)) (by show 2 ≤ 100000; decide) fun f7 hf7 => ?_)
            refine ⟨_, some u, _, _, rfl, s46.trans (Same.new hf7), ⟨f7, g, rfl, SqT.of upd_same⟩, ?_⟩
            simp only [if_pos hlt] at fs
            exact fs
          · have hlt : ¬ u < z := by simpa using hb
            refine ⟨_, some z, _, _, rfl, s46, ⟨f6, g6, rfl, hf6⟩, ?_⟩
            simp only [if_neg hlt] at fs
            exact fs
      · rw [e0] at hno
        have k1 : IsFall w h [c] b none := fun z hz q => hno z hz ((sat z).mpr ((hit_one z).mp q)) (by
          unfold within
          simp only [Bool.and_eq_true, decide_eq_true_eq]
          exact ⟨hz, trivial⟩)
        have s46 := s45.trans s6
        have fa6 := (fa.up s5).up s6
        have fs := fall_snoc fo k1
        rw [← take_snoc hc] at fs
        refine s_when (b := false) (b_and (a := false) (b := false) (b_nN0 (v_var rfl)) (fun z => by cases z)) (fun z => by cases z) (fun _ => ?_)
        exact ⟨_, o, _, _, rfl, s46, fa6, fs⟩
    · rintro σ' H' ⟨v, o, v3, v4, rfl, s4, fa, fo⟩
      refine s_ret (v_var rfl) (k H' v o s4 fa ?_)
      rw [zx, List.take_length] at fo
      exact fo
theorem sc_first_fall : FnScope ["table", "ball", "found"] ["table", "ball"] (defScope sFirstFall) := ⟨rfl, rfl, rfl, by decide +kernel, rfl, by decide +kernel, by decide +kernel⟩
theorem ok_firstFall (F : FnP K "first_fall" "first_fall" sFirstFall [] f fd) (T : Tx K mg) (G_fall_of : Df P w K mg base 5 "fall_of" ["table", "ball"] (spFallOf K)) : FnOk P w K mg base CX0 6 f fd ["table", "ball"] (spFirstFall K) := by
  refine ok_of F sc_first_fall (fun vs H Q E h => ?_) (fun cdv A outer s H vs Q E hr h => ?_)
  · obtain ⟨_, _, _, _, _, _, _, _, rfl, _⟩ := h
    rfl
  · obtain ⟨p, q, pa, w, h, pk, nm, b, rfl, tab, sz, prt, hin, hlen, hb, bk, k⟩ := h
    refine ⟨_, (pss_cons (ps_set (i := 2) sc_first_fall.nd rfl (Or.inl rfl) (pe_df G_fall_of hr (pa_cons (pv 0) (pa_cons (pv 1) pa_nil))))
  (pss_one (ps_ret (pe_ifExp (pt_cmp (pc_isN (pv 2))) pe_non (pe_ix ix_tup (pv 2) pe_int (fun _ _ => rfl)))))), ?_⟩
    refine q_call (a_cons (v_var rfl) (a_cons (v_var rfl) a_nil)) ⟨p, q, pa, w, h, pk, nm, b, rfl, tab, sz, prt, hin, hlen, hb, bk, fun H1 v o s1 fa fo => ?_⟩
    cases o with
    | none =>
      cases (show v = .non from fa)
      exact s_retC (c_if (b := true) (b_isN1 (v_var rfl)) (fun _ => c_pv v_c (k _ none s1 fo)) (fun z => by cases z))
    | some t =>
      obtain ⟨f6, g6, rfl, hf6⟩ := fa
      exact s_retC (c_if (b := false) (b_isN0 (x := .ref f6) (v_var rfl)) (fun z => by cases z) (fun _ => c_pv (v_op (v_var rfl) v_c (r_ixT hf6 rfl)) (k _ (some t) s1 fo)))
theorem sc_earlier : FnScope ["one", "other"] ["one", "other"] (defScope sEarlier) := ⟨rfl, rfl, rfl, by decide +kernel, rfl, by decide +kernel, by decide +kernel⟩
theorem ok_earlier (F : FnP K "earlier" "earlier" sEarlier [] f fd) (T : Tx K mg) : FnOk P w K mg base CX0 1 f fd ["one", "other"] (spEarlier K) := by
  refine ok_of F sc_earlier (fun vs H Q E h => ?_) (fun cdv A outer s H vs Q E hr h => ?_)
  · obtain ⟨_, _, rfl, _⟩ := h
    rfl
  · obtain ⟨o, q, rfl, k⟩ := h
    refine ⟨_, (pss_cons (ps_if (PW.pt (pw_or (pt_cmp (pc_isN (pv 0))) (pw_or1 (pt_cmp (pc_isN (pv 1))))))
  (pss_one (ps_ret (pe_ifExp (pt_cmp (pc_isN (pv 1))) (pv 0) (pv 1))))
  pss_nil)
  (pss_one (ps_ret (pe_callB (call_min2 rfl) (by rfl) T.nomin (by decide +kernel) (pa_cons (pv 0) (pa_cons (pv 1) pa_nil)))))), ?_⟩
    cases o with
    | none =>
      refine q_when (b := true) (b_or (a := true) (b := false) (b_isN1 (v_var rfl)) (fun z => by cases z)) (fun _ => ?_) (fun z => by cases z)
      cases q with
      | none => exact s_retC (c_if (b := true) (b_isN1 (v_var rfl)) (fun _ => c_pv (v_var rfl) k) (fun z => by cases z))
      | some y => exact s_retC (c_if (b := false) (b_isN0 (x := .int y) (v_var rfl)) (fun z => by cases z) (fun _ => c_pv (v_var rfl) k))
    | some x =>
      cases q with
      | none =>
        refine q_when (b := true) (b_or (a := false) (b := true) (b_isN0 (x := .int x) (v_var rfl)) (fun _ => b_isN1 (v_var rfl))) (fun _ => ?_) (fun z => by cases z)
        exact s_retC (c_if (b := true) (b_isN1 (v_var rfl)) (fun _ => c_pv (v_var rfl) k) (fun z => by cases z))
      | some y =>
        refine q_when (b := false) (b_or (a := false) (b := false) (b_isN0 (x := .int x) (v_var rfl)) (fun _ => b_isN0 (x := .int y) (v_var rfl))) (fun z => by cases z) (fun _ => ?_)
        exact s_ret (v_cb (a_cons (v_var rfl) (a_cons (v_var rfl) a_nil)) (fun Q q => ⟨x, y, rfl, q⟩)) k
end
end Cu
end
section
set_option Elab.async false
set_option linter.all false
set_option maxRecDepth 100000
set_option maxHeartbeats 4000000
namespace Cu
open PySem PySem.Spec PyProof.Rows L2 CuM
local macro_rules | `(tactic| walk_at "hp") => `(tactic| first
  | assumption
  | exact SqT.of (by assumption)
  | exact SqL.of (by assumption)
  | (apply SqT.of; walk_at "hq")
  | (apply SqL.of; walk_at "hq")
  | walk_at "hq")
local macro_rules | `(tactic| walk_at "hq") => `(tactic| first
  | assumption
  | exact upd_same
  | (refine Same.new (by assumption) _ _ ?_; walk_at "hq")
  | (refine Same.tup (Same.new (by assumption)) ?_; walk_at "hp")
  | (refine L2.Same.seq (Same.new (by assumption)) ?_; walk_at "hp"))
local macro_rules | `(tactic| walk_at "pv") => `(tactic| first
  | with_reducible exact v_c
  | ((with_reducible apply v_var); rfl)
  | (with_reducible apply v_op) <;> walk_at "pv"
  | (with_reducible apply v_un) <;> walk_at "pv"
  | (with_reducible apply v_fld) <;> walk_at "pv"
  | (with_reducible apply v_chain) <;> walk_at "pv"
  | (with_reducible apply v_and) <;> walk_at "pv"
  | (with_reducible apply v_or) <;> walk_at "pv"
  | (with_reducible apply v_not) <;> walk_at "pv"
  | (with_reducible apply v_isN) <;> walk_at "pv"
  | (with_reducible apply v_notN) <;> walk_at "pv"
  | (with_reducible apply v_cb) <;> walk_at "pv"
  | with_reducible exact a_nil
  | (with_reducible apply a_cons) <;> walk_at "pv"
  | (with_reducible apply b_test) <;> walk_at "pv"
  | (with_reducible apply b_B) <;> walk_at "pv"
  | (with_reducible apply b_and) <;> walk_at "pv"
  | (with_reducible apply b_or) <;> walk_at "pv"
  | (with_reducible apply b_not) <;> walk_at "pv"
  | with_reducible exact r_I0
  | with_reducible exact r_U
  | ((with_reducible apply r_I); walk_at "side")
  | ((with_reducible apply r_ixT); walk_at "hp"; first | rfl | assumption)
  | ((with_reducible apply r_ixL); walk_at "hp"; first | rfl | assumption)
  | ((with_reducible apply r_eq); rfl)
  | ((with_reducible apply r_ne); rfl)
  | ((with_reducible apply r_inT); walk_at "hp"; rfl; first | rfl | assumption)
  | ((with_reducible apply r_inL); walk_at "hp"; rfl; first | rfl | assumption)
  | with_reducible exact o_none
  | (with_reducible apply o_some) <;> walk_at "pv"
  | (intro _; walk_at "pv")
  | assumption
  | rfl
  | walk_at "side")
local macro_rules | `(tactic| walk_at "side") => `(tactic| first
  | assumption
  | (show (0 : Int) < _; first | decide | omega)
  | (show (0 : Int) < _ ∧ _ < (1073741824 : Int); exact ⟨by decide, by decide⟩)
  | walk_at "hp"
  | rfl)

/-! ### Game -/
structure GamAt (K : PySem.W.Frag) (H : Hp) (g p pa : Addr) (w h : Int) (pk : List (Int × Int)) (bs : List (Str × Ball)) (os : List (Option Int)) : Prop where
  ob : ∃ dx fs ba fa xs, H g = some (.ins (aGam K) dx fs) ∧ fl fs "table" = some (.ref p) ∧ fl fs "balls" = some (.ref ba) ∧ fl fs "falls" = some (.ref fa) ∧ SqT K H ba xs ∧ BlAll K H xs bs ∧ SqT K H fa (os.map ov) ∧
    fl fs "number" = none ∧ fl fs "ball" = none ∧ fl fs "life" = none ∧ fl fs "meetings" = none
  tab : TabAt K H p w h pa
  sz : Sz w h
  bk : ∀ nb ∈ bs, BOk w h nb.1 nb.2
  nd : (bs.map Prod.fst).Nodup
  len : bs.length ≤ 12
  fo : Paired (fun (nb : Str × Ball) o => IsFall w h pk nb.2 o) bs os
theorem GamAt.up {K : PySem.W.Frag} {H H' : Hp} {g p pa : Addr} {w h : Int} {pk : List (Int × Int)} {bs : List (Str × Ball)} {os : List (Option Int)} (s : Same H H') (G : GamAt K H g p pa w h pk bs os) : GamAt K H' g p pa w h pk bs os := by
  obtain ⟨⟨dx, fs, ba, fa, xs, h1, h2, h3, h4, h5, h6, h7, h8⟩, tab, sz, bk, nd, len, fo⟩ := G
  exact ⟨⟨dx, fs, ba, fa, xs, s _ _ h1, h2, h3, h4, Same.tup s h5, blAll_up (Same.keep s) h6, Same.tup s h7, h8⟩, tab.up s, sz, bk, nd, len, fo⟩
def spGamI (K : PySem.W.Frag) : Sp := fun vs H Q _ => ∃ (x dx p l pa : Addr) (w h : Int) (pk : List (Int × Int)) (xs : List V) (bs : List (Str × Ball)), vs = [.ref x, .ref p, .ref l] ∧ H x = some (.ins (aGam K) dx []) ∧ TabAt K H p w h pa ∧ Sz w h ∧ PrT K H pa pk ∧ (∀ c ∈ pk, InTab w h c) ∧ pk.length ≤ 12 ∧
  H l = some (.lst xs) ∧ BlAll K H xs bs ∧ (∀ nb ∈ bs, BOk w h nb.1 nb.2) ∧ bs.length ≤ 12 ∧ (bs.map Prod.fst).Nodup ∧ ∀ (H' : Hp) (os : List (Option Int)), GamAt K H' x p pa w h pk bs os → But x H H' → Q .non H'
def spNames (K : PySem.W.Frag) : Sp := fun vs H Q _ => ∃ (g p pa : Addr) (w h : Int) (pk : List (Int × Int)) (bs : List (Str × Ball)) (os : List (Option Int)), vs = [.ref g] ∧ GamAt K H g p pa w h pk bs os ∧
  ∀ (H' : Hp) (l : Addr) (o : Obj), Same H H' → o.cls = .type "tuple" → o.dict = none → H' l = some (.frz o (.tup ((bs.map Prod.fst).map V.str))) → Q (.ref l) H'
def spNumber (K : PySem.W.Frag) : Sp := fun vs H Q _ => ∃ (g p pa : Addr) (w h : Int) (pk : List (Int × Int)) (bs : List (Str × Ball)) (os : List (Option Int)) (i : Nat) (nm : Str) (b : Ball), vs = [.ref g, .str nm] ∧ GamAt K H g p pa w h pk bs os ∧ bs[i]? = some (nm, b) ∧ ∀ H', Same H H' → Q (.int (i : Nat)) H'
def spBallM (K : PySem.W.Frag) : Sp := fun vs H Q _ => ∃ (g p pa : Addr) (w h : Int) (pk : List (Int × Int)) (bs : List (Str × Ball)) (os : List (Option Int)) (i : Nat) (nm : Str) (b : Ball), vs = [.ref g, .str nm] ∧ GamAt K H g p pa w h pk bs os ∧ bs[i]? = some (nm, b) ∧ ∀ H' q, Same H H' → SqT K H' q (blV nm b) → Q (.ref q) H'
def spLife (K : PySem.W.Frag) : Sp := fun vs H Q _ => ∃ (g p pa : Addr) (w h : Int) (pk : List (Int × Int)) (bs : List (Str × Ball)) (os : List (Option Int)) (i : Nat) (nm : Str) (b : Ball) (o : Option Int), vs = [.ref g, .str nm] ∧ GamAt K H g p pa w h pk bs os ∧ bs[i]? = some (nm, b) ∧ os[i]? = some o ∧ ∀ H' q, Same H H' → SqT K H' q [.int b.m, ov o] → Q (.ref q) H'
def spGMeets (K : PySem.W.Frag) : Sp := fun vs H Q _ => ∃ (g p pa : Addr) (w h : Int) (pk : List (Int × Int)) (bs : List (Str × Ball)) (os : List (Option Int)) (i j : Nat) (n1 n2 : Str) (b c : Ball) (o1 o2 : Option Int), vs = [.ref g, .str n1, .str n2] ∧ GamAt K H g p pa w h pk bs os ∧ bs[i]? = some (n1, b) ∧ bs[j]? = some (n2, c) ∧ n1 ≠ n2 ∧ os[i]? = some o1 ∧ os[j]? = some o2 ∧
  ∀ (H' : Hp) (t : Addr) (st : Int) (e : Option Int) (cs : List (Int × Int)), Same H H' → TimAt K H' t st e cs → Told w h b c o1 o2 st e cs → Q (.ref t) H'
section
variable {P : Program} {w : World} {K : PySem.W.Frag} {mg : Str → Option Value} {base : Heap} {f : Addr} {fd : FuncData}
theorem sc_GameI : FnScope ["self", "table", "balls", "ball"] ["self", "table", "balls"] (defScope sGamI) := ⟨rfl, rfl, rfl, by decide +kernel, rfl, by decide +kernel, by decide +kernel⟩
theorem ok_gamI {dvs : List V} (F : FnP K "__init__" "Game.__init__" sGamI dvs f fd) (T : Tx K mg) (G_check_balls : Df P w K mg base 4 "check_balls" ["table", "balls"] (spChBalls K)) (G_first_fall : Df P w K mg base 6 "first_fall" ["table", "ball"] (spFirstFall K)) : FnOk P w K mg base CX0 7 f fd ["self", "table", "balls"] (spGamI K) := by
  refine ok_of F sc_GameI (fun vs H Q E h => ?_) (fun cdv A outer s H vs Q E hr h => ?_)
  · obtain ⟨_, _, _, _, _, _, _, _, _, _, rfl, _⟩ := h
    rfl
  · obtain ⟨x, dx, p, l, pa, w, h, pk, xs, bs, rfl, hx, tab, sz, prt, hin, hlen, hl, prs, bk, blen, nd, k⟩ := h
    refine ⟨_, (pss_cons (ps_expr (pe_df G_check_balls hr (pa_cons (pv 1) (pa_cons (pv 2) pa_nil))))
  (pss_cons (ps_fld (pv 0) (pv 1) rfl)
  (pss_cons (ps_fld (pv 0) (pe_callTy call_tuple_of (by rfl) T.notuple (by decide +kernel) (pa_cons (pe_lc (own := [("ball", 3)]) rfl sc_GameI.nd (pi_list (pv 2)) (blkOk_by (own := [("ball", 3)]) (N := ["self", "table", "balls", "ball"]) (sc := defScope sGamI) (by decide +kernel)) (fun _ _ _ _ _ => (pg_name (i := 3) sc_GameI.nd rfl (Or.inl rfl))) (fun _ _ _ _ _ => pts_nil) (fun _ _ _ _ _ => (pe_callTy (show CallR _ (.type "tuple") (rTupOf K) from call_tuple_of) (by rfl) T.notuple (by decide +kernel) (pa_cons (pv 3) pa_nil)))) pa_nil)) rfl)
  (pss_one (ps_fld (pv 0) (pe_callTy call_tuple_of (by rfl) T.notuple (by decide +kernel) (pa_cons (pe_lc (own := [("ball", 3)]) rfl sc_GameI.nd (pi_tup (pe_fld (pv 0) rfl)) (blkOk_by (own := [("ball", 3)]) (N := ["self", "table", "balls", "ball"]) (sc := defScope sGamI) (by decide +kernel)) (fun _ _ _ _ _ => (pg_name (i := 3) sc_GameI.nd rfl (Or.inl rfl))) (fun _ _ _ _ _ => pts_nil) (fun _ _ _ _ _ => (pe_df G_first_fall hr (pa_cons (pv 1) (pa_cons (pv 3) pa_nil))))) pa_nil)) rfl))))), ?_⟩
    have zl := Paired.length prs
    refine q_dropC (c_callP (a_cons (v_var rfl) (a_cons (v_var rfl) a_nil)) ⟨p, l, pa, w, h, xs, bs, rfl, tab, SqL.of hl, prs, bk, blen, nd, fun H1 s1 => ?_⟩)
    have hx1 := s1 _ _ hx
    have npx : p ≠ x := fun z => by
      obtain ⟨d2, f2, h2, h3, _⟩ := tab.ob
      rw [z, hx] at h2
      have h4 := Option.some.inj h2
      injection h4 with _ _ e
      rw [← e] at h3
      cases h3
    have nlx : l ≠ x := fun z => by
      rw [z, hx] at hl
      cases hl
    refine q_fld (v_var rfl) (v_var rfl) hx1 T.cGam T.gamT (by show 0 < 1000; decide) ?_
    generalize hfs0 : putF ("table" : Str) (V.ref p) [] = fs0
    generalize hH2 : upd H1 x (.ins (aGam K) dx fs0) = H2
    have hx2 : H2 x = some (.ins (aGam K) dx fs0) := by
      rw [← hH2]
      exact upd_same
    have b2 : But x H1 H2 := fun b o hb nb => by
      rw [← hH2, upd_ne nb]
      exact hb
    have k2 : TupKeep K H1 H2 := by
      rw [← hH2]
      exact keep_mutI hx1
    have hl2 : H2 l = some (.lst xs) := b2 _ _ (s1 _ _ hl) nlx
    have prs2 : BlAll K H2 xs bs := blAll_up ((Same.keep s1).trans k2) prs
    -- self.balls = tuple([tuple(ball) for ball in balls])
    refine q_fldC (c_cbC (c_consC (c_lcL (K := K) (v_var rfl) (SqL.of hl2) (by omega) (fun i acc A => acc = xs.take i) (fun i acc A B _ q => q) rfl ?_ ?_)))
    · intro i y acc H3 Dl Qk hi hD s4 hacc hl2 q kq
      obtain ⟨c, hc, g, rfl, hg⟩ := prd_get prs2 hi
      refine ⟨rfl, ?_⟩
      refine c_cbC (c_consC ?_)
      refine ⟨_, rfl, g, _, rfl, .inr ⟨Same.tup s4 hg, kq _ _ s4 hacc ?_⟩⟩
      rw [q, List.take_succ, hi]
      rfl
    intro D3 acc3 H3 hD3 s3 hacc3 hl3 q3
    rw [List.take_length] at q3
    subst q3
    refine ⟨D3, acc3, rfl, .inl ⟨SqL.of hacc3, fun ba hba => ?_⟩⟩
    have s4 : Same H2 (upd H3 ba (.tup acc3)) := s3.trans (Same.new hba)
    have hx4 := s4 _ _ hx2
    refine ⟨_, rfl, x, _, _, _, rfl, hx4, T.cGam, T.gamB, by rw [← hfs0]; show 1 < 1000; decide, ?_⟩
    have nbx : ba ≠ x := fun z => by
      have := s3 _ _ hx2
      rw [← z, hba] at this
      cases this
    generalize hfs1 : putF ("balls" : Str) (V.ref ba) fs0 = fs1
    generalize hH5 : upd (upd H3 ba (.tup acc3)) x (.ins (aGam K) dx fs1) = H5
    have hx5 : H5 x = some (.ins (aGam K) dx fs1) := by
      rw [← hH5]
      exact upd_same
    have b5 : But x H1 H5 := fun b o hb nb => by
      rw [← hH5, upd_ne nb]
      exact s4 _ _ (b2 _ _ hb nb)
    have k5 : TupKeep K H1 H5 := by
      rw [← hH5]
      exact (k2.trans (Same.keep s4)).trans (keep_mutI hx4)
    have hba5 : SqT K H5 ba acc3 := by
      rw [← hH5]
      exact keep_mutI hx4 _ _ (SqT.of upd_same)
    have prs5 : BlAll K H5 acc3 bs := blAll_up ((Same.keep s1).trans k5) prs
    have tab5 : TabAt K H5 p w h pa := by
      obtain ⟨d2, f2, h2, h3⟩ := tab.ob
      exact ⟨d2, f2, b5 _ _ (s1 _ _ h2) npx, h3⟩
    have prt5 := prt.up ((Same.keep s1).trans k5)
    have f1b : fl fs1 "balls" = some (.ref ba) := by
      rw [← hfs1, fl_put, if_pos rfl]
    -- self.falls = tuple([first_fall(table, ball) for ball in self.balls])
    refine s_fldC (c_cbC (c_consC (c_lcT (K := K) (v_fld (v_var rfl) hx5 T.cGam T.gamB f1b) hba5 (by omega) (fun i (acc : List V) A => ∃ os : List (Option Int), acc = os.map ov ∧ Paired (fun (nb : Str × Ball) o => IsFall w h pk nb.2 o) (bs.take i) os) (fun i acc A B _ q => q) ⟨[], rfl, .nil⟩ ?_ ?_)))
    · rintro i y acc H6 Dl Qk hi hD s6 hacc hl6 ⟨os, q, prf⟩ kq
      obtain ⟨nb, hc, g, rfl, hg⟩ := prd_get prs5 hi
      refine ⟨rfl, ?_⟩
      refine c_callP (a_cons (v_var rfl) (a_cons (v_var rfl) a_nil)) ⟨p, g, pa, w, h, pk, nb.1, nb.2, rfl, tab5.up s6, sz, prt5.up (Same.keep s6), hin, hlen, Same.tup s6 hg, bk nb (List.mem_of_getElem? hc), fun H7 o s7 fo => ?_⟩
      refine kq _ _ (s6.trans s7) (s7 _ _ hacc) ⟨os ++ [o], by rw [q, List.map_append]; rfl, ?_⟩
      rw [take_snoc hc]
      exact Paired.snoc prf fo
    rintro D6 acc6 H6 hD6 s6 hacc6 hl6 ⟨os, q6, prf⟩
    rw [zl, List.take_length] at prf
    subst q6
    refine ⟨D6, _, rfl, .inl ⟨SqL.of hacc6, fun fa hfa => ?_⟩⟩
    have s7 : Same H5 (upd H6 fa (.tup (os.map ov))) := s6.trans (Same.new hfa)
    have hx7 := s7 _ _ hx5
    refine ⟨_, rfl, x, _, _, _, rfl, hx7, T.cGam, T.gamF, by rw [← hfs1, ← hfs0]; show 2 < 1000; decide, ?_⟩
    generalize hfs : putF ("falls" : Str) (V.ref fa) fs1 = fs
    have f1 : fl fs "table" = some (.ref p) := by
      rw [← hfs, fl_put, if_neg (by decide +kernel), ← hfs1, fl_put, if_neg (by decide +kernel), ← hfs0, fl_put, if_pos rfl]
    have f2 : fl fs "balls" = some (.ref ba) := by
      rw [← hfs, fl_put, if_neg (by decide +kernel)]
      exact f1b
    have f3 : fl fs "falls" = some (.ref fa) := by
      rw [← hfs, fl_put, if_pos rfl]
    have f4 : ∀ m : Str, ¬ m = "falls" → ¬ m = "balls" → ¬ m = "table" → fl fs m = none := fun m a1 a2 a3 => by
      rw [← hfs, fl_put, if_neg a1, ← hfs1, fl_put, if_neg a2, ← hfs0, fl_put, if_neg a3]
      rfl
    have k7 : TupKeep K H5 (upd (upd H6 fa (.tup (os.map ov))) x (.ins (aGam K) dx fs)) := (Same.keep s7).trans (keep_mutI hx7)
    have tab7 : TabAt K (upd (upd H6 fa (.tup (os.map ov))) x (.ins (aGam K) dx fs)) p w h pa := by
      obtain ⟨d2, f2, h2, h3⟩ := tab5.ob
      exact ⟨d2, f2, by rw [upd_ne npx]; exact s7 _ _ h2, h3⟩
    refine k _ os ⟨⟨dx, fs, ba, fa, acc3, upd_same, f1, f2, f3, k7 _ _ hba5, blAll_up k7 prs5, keep_mutI hx7 _ _ (SqT.of upd_same), f4 _ (by decide +kernel) (by decide +kernel) (by decide +kernel), f4 _ (by decide +kernel) (by decide +kernel) (by decide +kernel), f4 _ (by decide +kernel) (by decide +kernel) (by decide +kernel), f4 _ (by decide +kernel) (by decide +kernel) (by decide +kernel)⟩, tab7, sz, bk, nd, blen, prf⟩ fun b o hb nb => ?_
    rw [upd_ne nb]
    exact s7 _ _ (b5 _ _ (s1 _ _ hb) nb)
theorem sc_Game_names : FnScope ["self", "ball"] ["self"] (defScope sNames) := ⟨rfl, rfl, rfl, by decide +kernel, rfl, by decide +kernel, by decide +kernel⟩
theorem ok_names (F : FnP K "names" "Game.names" sNames [] f fd) (T : Tx K mg) : FnOk P w K mg base CX0 1 f fd ["self"] (spNames K) := by
  refine ok_of F sc_Game_names (fun vs H Q E h => ?_) (fun cdv A outer s H vs Q E hr h => ?_)
  · obtain ⟨_, _, _, _, _, _, _, _, rfl, _⟩ := h
    rfl
  · obtain ⟨g, p, pa, w, h, pk, bs, os, rfl, G, k⟩ := h
    obtain ⟨⟨dx, fs, ba, fa, xs, hg, f1, f2, f3, hba, prs, hfa, m1, m2, m3, m4⟩, tab, sz, bk, nd, len, fo⟩ := id G
    refine ⟨_, (pss_one (ps_ret (pe_callTy call_tupO (by rfl) T.notuple (by decide +kernel) (pa_cons (pe_lc (own := [("ball", 1)]) rfl sc_Game_names.nd (pi_tup (pe_fld (pv 0) rfl)) (blkOk_by (own := [("ball", 1)]) (N := ["self", "ball"]) (sc := defScope sNames) (by decide +kernel)) (fun _ _ _ _ _ => (pg_name (i := 1) sc_Game_names.nd rfl (Or.inl rfl))) (fun _ _ _ _ _ => pts_nil) (fun _ _ _ _ _ => (pe_ix (show IxR _ (rIxT K) from ix_tup) (pv 1) pe_int (fun _ _ => rfl)))) pa_nil)))), ?_⟩
    have zl := Paired.length prs
    refine s_retC (c_cbC (c_consC (c_lcT (K := K) (v_fld (v_var rfl) hg T.cGam T.gamB f2) hba (by omega) (fun i acc A => acc = ((bs.map Prod.fst).take i).map V.str) (fun i acc A B _ q => q) rfl ?_ ?_)))
    · intro i y acc H6 Dl Qk hi hD s6 hacc hl6 q kq
      obtain ⟨nb, hc, a, rfl, ha⟩ := prd_get prs hi
      refine ⟨rfl, c_pv (v_op (v_var rfl) v_c (r_ixT (Same.tup s6 ha) rfl)) (kq _ _ s6 hacc ?_)⟩
      have hc2 : (bs.map Prod.fst)[i]? = some nb.1 := by
        rw [List.getElem?_map, hc]
        rfl
      rw [q, take_snoc hc2, List.map_append]
      rfl
    intro D6 acc6 H6 hD6 s6 hacc6 hl6 q6
    have : (bs.map Prod.fst).take xs.length = bs.map Prod.fst := by
      rw [zl]
      exact List.take_of_length_le (by rw [List.length_map]; exact Nat.le_refl _)
    rw [this] at q6
    subst q6
    exact ⟨D6, _, rfl, SqL.of hacc6, fun l o oc od hl => k _ l o (s6.trans (Same.new hl)) oc od upd_same⟩
theorem sc_Game_number : FnScope ["self", "name"] ["self", "name"] (defScope sNumber) := ⟨rfl, rfl, rfl, by decide +kernel, rfl, by decide +kernel, by decide +kernel⟩
theorem ok_number (F : FnP K "number" "Game.number" sNumber [] f fd) (T : Tx K mg) (G_Game_names : Dn P w K mg base 1 (aGam K) "names" (spNames K)) : FnOk P w K mg base CX0 3 f fd ["self", "name"] (spNumber K) := by
  refine ok_of F sc_Game_number (fun vs H Q E h => ?_) (fun cdv A outer s H vs Q E hr h => ?_)
  · obtain ⟨_, _, _, _, _, _, _, _, _, _, _, rfl, _⟩ := h
    rfl
  · obtain ⟨g, p, pa, w, h, pk, bs, os, i, nm, b, rfl, G, hi, k⟩ := h
    obtain ⟨dx, fs, ba, fa, xs, hg, f1, f2, f3, hba, prs, hfa, m1, m2, m3, m4⟩ := id G.ob
    refine ⟨_, (pss_cons (ps_if (pt_cmpR op_notIn_seq (pv 1) (pe_dn (pv 0) T.cGam G_Game_names hr) rfl)
  (pss_one ps_never)
  pss_nil)
  (pss_one (ps_ret (pe_tm PySem.F.plainAttrs_tuple PySem.F.slot_tuple_index PySem.F.type_tuple_index mt_tup_index (pe_dn (pv 0) T.cGam G_Game_names hr) (pa_cons (pv 1) pa_nil))))), ?_⟩
    have hin : (bs.map Prod.fst)[i]? = some nm := by
      rw [List.getElem?_map, hi]
      rfl
    refine q_ifU ?_
    refine c_op (v_var rfl) ?_
    refine ⟨_, rfl, g, dx, fs, rfl, hg, g, p, pa, w, h, pk, bs, os, rfl, G, fun H1 l1 o1 s1 oc1 od1 hl1 => ?_⟩
    have flat : ((bs.map Prod.fst).map V.str).all flatV = true := by
      rw [List.all_map, List.all_eq_true]
      intro z _
      rfl
    refine ⟨l1, _, rfl, Or.inr (.inl (.inr ⟨o1, hl1⟩)), rfl, flat, _, rfl, ?_⟩
    have : inV (.str nm) ((bs.map Prod.fst).map V.str) = true := by
      unfold inV
      rw [List.any_map, List.any_eq_true]
      exact ⟨nm, List.mem_of_getElem? hin, beq_self_eq_true nm⟩
    rw [this]
    refine iteF ?_
    refine s_nextU ?_
    dsimp only
    refine s_retC ?_
    refine ⟨_, rfl, g, dx, fs, rfl, s1 _ _ hg, g, p, pa, w, h, pk, bs, os, rfl, G.up s1, fun H2 l2 o2 s2 oc2 od2 hl2 => ?_⟩
    refine ⟨⟨l2, o2, _, rfl, hl2, oc2, od2⟩, ?_⟩
    refine c_consC (c_pv (v_var rfl) ?_)
    refine ⟨l2, bs.map Prod.fst, nm, i, rfl, rfl, .inl (.inr ⟨o2, hl2⟩), hin, fun m hm e => ?_, k _ (s1.trans s2)⟩
    obtain ⟨a1, a2⟩ := List.getElem?_eq_some_iff.mp hin
    obtain ⟨a3, a4⟩ := List.getElem?_eq_some_iff.mp e
    exact List.pairwise_iff_getElem.mp G.nd m i a3 a1 hm (by rw [a2, a4])
theorem sc_Game_ball : FnScope ["self", "name"] ["self", "name"] (defScope sBallM) := ⟨rfl, rfl, rfl, by decide +kernel, rfl, by decide +kernel, by decide +kernel⟩
theorem ok_ballM (F : FnP K "ball" "Game.ball" sBallM [] f fd) (T : Tx K mg) (G_Game_number : Dm P w K mg base 3 (aGam K) "number" ["self", "name"] (spNumber K)) : FnOk P w K mg base CX0 4 f fd ["self", "name"] (spBallM K) := by
  refine ok_of F sc_Game_ball (fun vs H Q E h => ?_) (fun cdv A outer s H vs Q E hr h => ?_)
  · obtain ⟨_, _, _, _, _, _, _, _, _, _, _, rfl, _⟩ := h
    rfl
  · obtain ⟨g, p, pa, w, h, pk, bs, os, i, nm, b, rfl, G, hi, k⟩ := h
    obtain ⟨dx, fs, ba, fa, xs, hg, f1, f2, f3, hba, prs, hfa, m1, m2, m3, m4⟩ := id G.ob
    refine ⟨_, (pss_one (ps_ret (pe_ix ix_tup (pe_fld (pv 0) rfl) (pe_dm (pv 0) T.cGam G_Game_number hr (pa_cons (pv 1) pa_nil)) (fun _ _ => rfl)))), ?_⟩
    refine s_retC (c_op (v_fld (v_var rfl) hg T.cGam T.gamB f2) ?_)
    refine ⟨_, rfl, g, dx, fs, rfl, hg, m1, .str nm, rfl, g, p, pa, w, h, pk, bs, os, i, nm, b, rfl, G, hi, fun H1 s1 => ?_⟩
    obtain ⟨v, hv, a, rfl, ha⟩ := prd_getR prs hi
    exact r_ixT (K := K) (Same.tup s1 hba) (atI_nat hv) _ (k _ a s1 (Same.tup s1 ha))
theorem sc_Game_life : FnScope ["self", "name", "number"] ["self", "name"] (defScope sLife) := ⟨rfl, rfl, rfl, by decide +kernel, rfl, by decide +kernel, by decide +kernel⟩
theorem ok_life (F : FnP K "life" "Game.life" sLife [] f fd) (T : Tx K mg) (G_Game_number : Dm P w K mg base 3 (aGam K) "number" ["self", "name"] (spNumber K)) : FnOk P w K mg base CX0 4 f fd ["self", "name"] (spLife K) := by
  refine ok_of F sc_Game_life (fun vs H Q E h => ?_) (fun cdv A outer s H vs Q E hr h => ?_)
  · obtain ⟨_, _, _, _, _, _, _, _, _, _, _, _, rfl, _⟩ := h
    rfl
  · obtain ⟨g, p, pa, w, h, pk, bs, os, i, nm, b, o, rfl, G, hi, ho, k⟩ := h
    obtain ⟨dx, fs, ba, fa, xs, hg, f1, f2, f3, hba, prs, hfa, m1, m2, m3, m4⟩ := id G.ob
    refine ⟨_, (pss_cons (ps_set (i := 2) sc_Game_life.nd rfl (Or.inl rfl) (pe_dm (pv 0) T.cGam G_Game_number hr (pa_cons (pv 1) pa_nil)))
  (pss_one (ps_ret (pe_tup (pa_cons (pe_ix ix_tup (pe_ix ix_tup (pe_fld (pv 0) rfl) (pv 2) (fun _ _ => rfl)) pe_int (fun _ _ => rfl)) (pa_cons (pe_ix ix_tup (pe_fld (pv 0) rfl) (pv 2) (fun _ _ => rfl)) pa_nil)))))), ?_⟩
    refine q_setC ?_
    refine ⟨_, rfl, g, dx, fs, rfl, hg, m1, .str nm, rfl, g, p, pa, w, h, pk, bs, os, i, nm, b, rfl, G, hi, fun H1 s1 => ?_⟩
    obtain ⟨v, hv, a, rfl, ha⟩ := prd_getR prs hi
    have ho2 : (os.map ov)[i]? = some (ov o) := by
      rw [List.getElem?_map, ho]
      rfl
    refine s_retTup (a_cons (v_op (v_op (v_fld (v_var rfl) (s1 _ _ hg) T.cGam T.gamB f2) (v_var rfl) (r_ixT (Same.tup s1 hba) (atI_nat hv))) v_c (r_ixT (Same.tup s1 ha) rfl)) (a_cons (v_op (v_fld (v_var rfl) (s1 _ _ hg) T.cGam T.gamF f3) (v_var rfl) (r_ixT (Same.tup s1 hfa) (atI_nat ho2))) a_nil)) (by show 2 ≤ 100000; decide) fun t ht => ?_
    exact k _ t (s1.trans (Same.new ht)) (SqT.of upd_same)
end
end Cu
end
section
set_option Elab.async false
set_option linter.all false
set_option maxRecDepth 100000
set_option maxHeartbeats 4000000
namespace Cu
open PySem PySem.Spec PyProof.Rows L2 CuM
local macro_rules | `(tactic| walk_at "hp") => `(tactic| first
  | assumption
  | exact SqT.of (by assumption)
  | exact SqL.of (by assumption)
  | (apply SqT.of; walk_at "hq")
  | (apply SqL.of; walk_at "hq")
  | walk_at "hq")
local macro_rules | `(tactic| walk_at "hq") => `(tactic| first
  | assumption
  | exact upd_same
  | (refine Same.new (by assumption) _ _ ?_; walk_at "hq")
  | (refine Same.tup (Same.new (by assumption)) ?_; walk_at "hp")
  | (refine L2.Same.seq (Same.new (by assumption)) ?_; walk_at "hp"))
local macro_rules | `(tactic| walk_at "pv") => `(tactic| first
  | with_reducible exact v_c
  | ((with_reducible apply v_var); rfl)
  | (with_reducible apply v_op) <;> walk_at "pv"
  | (with_reducible apply v_un) <;> walk_at "pv"
  | (with_reducible apply v_fld) <;> walk_at "pv"
  | (with_reducible apply v_chain) <;> walk_at "pv"
  | (with_reducible apply v_and) <;> walk_at "pv"
  | (with_reducible apply v_or) <;> walk_at "pv"
  | (with_reducible apply v_not) <;> walk_at "pv"
  | (with_reducible apply v_isN) <;> walk_at "pv"
  | (with_reducible apply v_notN) <;> walk_at "pv"
  | (with_reducible apply v_cb) <;> walk_at "pv"
  | with_reducible exact a_nil
  | (with_reducible apply a_cons) <;> walk_at "pv"
  | (with_reducible apply b_test) <;> walk_at "pv"
  | (with_reducible apply b_B) <;> walk_at "pv"
  | (with_reducible apply b_and) <;> walk_at "pv"
  | (with_reducible apply b_or) <;> walk_at "pv"
  | (with_reducible apply b_not) <;> walk_at "pv"
  | with_reducible exact r_I0
  | with_reducible exact r_U
  | ((with_reducible apply r_I); walk_at "side")
  | ((with_reducible apply r_ixT); walk_at "hp"; first | rfl | assumption)
  | ((with_reducible apply r_ixL); walk_at "hp"; first | rfl | assumption)
  | ((with_reducible apply r_eq); rfl)
  | ((with_reducible apply r_ne); rfl)
  | ((with_reducible apply r_inT); walk_at "hp"; rfl; first | rfl | assumption)
  | ((with_reducible apply r_inL); walk_at "hp"; rfl; first | rfl | assumption)
  | with_reducible exact o_none
  | (with_reducible apply o_some) <;> walk_at "pv"
  | (intro _; walk_at "pv")
  | assumption
  | rfl
  | walk_at "side")
local macro_rules | `(tactic| walk_at "side") => `(tactic| first
  | assumption
  | (show (0 : Int) < _; first | decide | omega)
  | (show (0 : Int) < _ ∧ _ < (1073741824 : Int); exact ⟨by decide, by decide⟩)
  | walk_at "hp"
  | rfl)

/-! ### Game.meetings -/
theorem q_parC {i j : Nat} {ta : TA} {D : Ends} {tz : TS} {σ : L2.St} {H : Hp} (k : ta σ H fun vs H1 => ∃ v w, vs = [v, w] ∧ tz D ((σ.set i (some v)).set j (some w)) H1) : tSeq (tPar i j ta) tz D σ H := k
theorem c_ifU {t : TT} {ta tb : TE} {σ : L2.St} {H : Hp} {Q : VK} (k : t σ H fun b H1 => if b = true then ta σ H1 Q else tb σ H1 Q) : tIf t ta tb σ H Q := k
theorem told_full {w h : Int} {b c : Ball} {o q : Option Int} {cs cs' : List (Int × Int)} (sat : ∀ u, Sat cs u ↔ meet w h b c u) (pm : cs'.Perm cs) : Told w h b c o q (if c.m > b.m then c.m else b.m) (lesser o q) cs' := by
  refine ⟨rfl, fun t => ?_⟩
  rw [sat_perm pm, sat]
  generalize lesser o q = e
  unfold within
  simp only [Bool.and_eq_true, decide_eq_true_eq]
  constructor
  · rintro ⟨⟨a1, a2⟩, a3⟩
    refine ⟨by split at a1 <;> omega, by split at a1 <;> omega, fun z hz => ?_, a3⟩
    subst hz
    exact of_decide_eq_true a2
  · rintro ⟨a1, a2, a3, a4⟩
    refine ⟨⟨by split <;> omega, ?_⟩, a4⟩
    cases e with
    | none => rfl
    | some z => exact decide_eq_true (a3 z rfl)
theorem told_none {w h : Int} {b c : Ball} {o q e : Option Int} (no : ∀ t, ¬ (b.m ≤ t ∧ c.m ≤ t ∧ (∀ z, lesser o q = some z → t ≤ z) ∧ meet w h b c t)) : Told w h b c o q (if c.m > b.m then c.m else b.m) e [] :=
  ⟨rfl, fun t => ⟨fun z => absurd z.2 (sat_nil t), fun z => absurd z (no t)⟩⟩
section
variable {P : Program} {w : World} {K : PySem.W.Frag} {mg : Str → Option Value} {base : Heap} {f : Addr} {fd : FuncData}
theorem sc_Game_meetings : FnScope ["self", "one", "other", "first", "second", "found", "end", "classes"] ["self", "one", "other"] (defScope sGMeets) := ⟨rfl, rfl, rfl, by decide +kernel, rfl, by decide +kernel, by decide +kernel⟩
theorem ok_gMeets (F : FnP K "meetings" "Game.meetings" sGMeets [] f fd) (T : Tx K mg) (G_Game_ball : Dm P w K mg base 4 (aGam K) "ball" ["self", "name"] (spBallM K)) (G_Game_life : Dm P w K mg base 4 (aGam K) "life" ["self", "name"] (spLife K))
    (G_meetings_meetings : Df P w K mg base 4 "meetings_meetings" ["table", "one", "other"] (spMeets K)) (G_earlier : Df P w K mg base 1 "earlier" ["one", "other"] (spEarlier K)) (G_TimesI : Dk P w K mg base 2 (aTim K) "Times" ["self", "start", "end", "classes"] (spTimI K)) :
    FnOk P w K mg base CX0 5 f fd ["self", "one", "other"] (spGMeets K) := by
  refine ok_of F sc_Game_meetings (fun vs H Q E h => ?_) (fun cdv A outer s H vs Q E hr h => ?_)
  · obtain ⟨_, _, _, _, _, _, _, _, _, _, _, _, _, _, _, _, rfl, _⟩ := h
    rfl
  · obtain ⟨g, p, pa, w, h, pk, bs, os, i, j, n1, n2, b, c, o1, o2, rfl, G, hi, hj, hne, ho1, ho2, k⟩ := h
    obtain ⟨dx, fs, ba, fa, xs, hg, f1, f2, f3, hba, prs, hfa, m1, m2, m3, m4⟩ := id G.ob
    refine ⟨_, (pss_cons (ps_par (i := 3) (j := 4) rfl sc_Game_meetings.nd rfl rfl (by decide) rfl rfl (pa_cons (pe_dm (pv 0) T.cGam G_Game_ball hr (pa_cons (pv 1) pa_nil)) (pa_cons (pe_dm (pv 0) T.cGam G_Game_ball hr (pa_cons (pv 2) pa_nil)) pa_nil)) rfl)
  (pss_cons (ps_if (pt_cmpR op_eq (pv 1) (pv 2) (nomark _))
  (pss_one ps_never)
  pss_nil)
  (pss_cons (ps_set (i := 5) sc_Game_meetings.nd rfl (Or.inl rfl) (pe_df G_meetings_meetings hr (pa_cons (pe_fld (pv 0) rfl) (pa_cons (pv 3) (pa_cons (pv 4) pa_nil)))))
  (pss_cons (ps_set (i := 6) sc_Game_meetings.nd rfl (Or.inl rfl) (pe_df G_earlier hr (pa_cons (pe_ix ix_tup (pe_dm (pv 0) T.cGam G_Game_life hr (pa_cons (pv 1) pa_nil)) pe_int (fun _ _ => rfl)) (pa_cons (pe_ix ix_tup (pe_dm (pv 0) T.cGam G_Game_life hr (pa_cons (pv 2) pa_nil)) pe_int (fun _ _ => rfl)) pa_nil))))
  (pss_cons (ps_set (i := 7) sc_Game_meetings.nd rfl (Or.inl rfl) (pe_ifExp (PW.pt (pw_or (pt_cmp (pc_isN (pv 6))) (pw_or1 (pt_cmpR op_ge (pv 6) (pe_fld (pv 5) rfl) (nomark _))))) (pe_fld (pv 5) rfl) (pe_tup pa_nil)))
  (pss_one (ps_ret (pe_dk G_TimesI hr (pa_cons (pe_fld (pv 5) rfl) (pa_cons (pe_ifExp (pt_truth (pv 7) (by intro _; rfl)) (pv 6) pe_non) (pa_cons (pv 7) pa_nil))))))))))), ?_⟩
    have bk1 := G.bk _ (List.mem_of_getElem? hi)
    have bk2 := G.bk _ (List.mem_of_getElem? hj)
    -- first, second = self.ball(one), self.ball(other)
    refine q_parC (c_consC ?_)
    refine ⟨_, rfl, g, dx, fs, rfl, hg, m2, .str n1, rfl, g, p, pa, w, h, pk, bs, os, i, n1, b, rfl, G, hi, fun H1 q1 s1 hq1 => ?_⟩
    refine c_consC ?_
    refine ⟨_, rfl, g, dx, fs, rfl, s1 _ _ hg, m2, .str n2, rfl, g, p, pa, w, h, pk, bs, os, j, n2, c, rfl, G.up s1, hj, fun H2 q2 s2 hq2 => ?_⟩
    refine ⟨.ref q1, .ref q2, rfl, ?_⟩
    have s12 := s1.trans s2
    have hq1b := Same.tup s2 hq1
    refine q_no (b_is (b_test (v_op (v_var rfl) (v_var rfl) (r_eq rfl))) (decide_eq_false (fun z => hne (by injection z)))) ?_
    -- found = meetings_meetings(self.table, first, second)
    refine q_setC (c_callP (a_cons (v_fld (v_var rfl) (s12 _ _ hg) T.cGam T.gamT f1) (a_cons (v_var rfl) (a_cons (v_var rfl) a_nil))) ⟨p, q1, q2, pa, w, h, n1, n2, b, c, rfl, G.tab.up s12, G.sz, hq1b, hq2, bk1, bk2, fun t H3 cs s3 ta sat => ?_⟩)
    have s13 := s12.trans s3
    -- end = earlier(self.life(one)[1], self.life(other)[1])
    refine q_setC (c_callC (c_consC (c_fldU ?_)))
    refine ⟨_, rfl, g, dx, fs, rfl, s13 _ _ hg, m3, .str n1, rfl, g, p, pa, w, h, pk, bs, os, i, n1, b, o1, rfl, G.up s13, hi, ho1, fun H4 l1 s4 hl1 => ?_⟩
    have s14 := s13.trans s4
    refine c_pv v_c (r_ixT (K := K) hl1 rfl _ ?_)
    refine c_consC (c_fldU ?_)
    refine ⟨_, rfl, g, dx, fs, rfl, s14 _ _ hg, m3, .str n2, rfl, g, p, pa, w, h, pk, bs, os, j, n2, c, o2, rfl, G.up s14, hj, ho2, fun H5 l2 s5 hl2 => ?_⟩
    have s15 := s14.trans s5
    refine c_pv v_c (r_ixT (K := K) hl2 rfl _ ?_)
    refine ⟨o1, o2, rfl, ?_⟩
    have ta5 := (ta.up s4).up s5
    obtain ⟨⟨dx5, fs5, a5, ht5, g1, g2, g3, ⟨ys, ha5, pr5⟩, _⟩, ok5, ln5⟩ := id ta5
    have b0 := bk1.ok.m0
    have c0 := bk2.ok.m0
    have st0 : 0 ≤ (if c.m > b.m then c.m else b.m) := by split <;> omega
    have dj5 : Disj cs := ta5.dj
    have zy := Paired.length pr5
    -- classes = ..
    refine q_setC (c_ifU (c_tOr ?_))
    have hyl : SqL K H5 a5 ys := SqL.of ha5
    cases he : lesser o1 o2 with
    | none =>
      refine b_isN1 (v_var rfl) _ (iteT (iteT ?_))
      refine c_pv (v_fld (v_var rfl) ht5 T.cTim T.timC g3) ?_
      refine s_retC (c_makeC (c_consC ?_))
      refine c_pv (v_fld (v_var rfl) ht5 T.cTim T.timS g1) ?_
      refine c_consC (c_ifU ?_)
      refine ⟨_, rfl, _, .inl ⟨_, hyl, rfl⟩, ?_⟩
      have fin : ∀ x dx, H5 x = none → H5 dx = none → dx ≠ x → spTimI K (.ref x :: ([.int (if c.m > b.m then c.m else b.m), ov none, .ref a5] ++ [])) (upd (upd H5 dx (.own x)) x (.ins (aTim K) dx [])) (fun v H2 => v = .non ∧ Q (.ref x) H2) E0 := timMake (e := none) (.inl ⟨ys, ha5, pr5⟩) st0 (fun t e => by cases e) ln5 ok5 dj5 fun t6 H6 cs' s6 pm ta6 => by
        have tf := told_full (o := o1) (q := o2) sat pm
        rw [he] at tf
        exact k H6 t6 _ _ cs' (s15.trans s6) ta6 tf
      cases hz : (!ys.isEmpty) with
      | true => exact iteT (c_pv (v_var rfl) (c_consC (c_pv (v_var rfl) fin)))
      | false => exact iteF (c_pv v_c (c_consC (c_pv (v_var rfl) fin)))
    | some z =>
      refine b_isN0 (x := .int z) (v_var rfl) (by intro y; cases y) _ (iteF ?_)
      refine b_test (v_op (v_var rfl) (v_fld (v_var rfl) ht5 T.cTim T.timS g1) r_I0) _ ?_
      by_cases hge : (if c.m > b.m then c.m else b.m) ≤ z
      · rw [decide_eq_true (show z ≥ (if c.m > b.m then c.m else b.m) from hge)]
        refine iteT ?_
        refine c_pv (v_fld (v_var rfl) ht5 T.cTim T.timC g3) ?_
        refine s_retC (c_makeC (c_consC ?_))
        refine c_pv (v_fld (v_var rfl) ht5 T.cTim T.timS g1) ?_
        refine c_consC (c_ifU ?_)
        refine ⟨_, rfl, _, .inl ⟨_, hyl, rfl⟩, ?_⟩
        cases hz : (!ys.isEmpty) with
        | true =>
          refine iteT (c_pv (v_var rfl) (c_consC (c_pv (v_var rfl) ?_)))
          exact timMake (e := some z) (.inl ⟨ys, ha5, pr5⟩) st0 (fun t e => by cases e; omega) ln5 ok5 dj5 fun t6 H6 cs' s6 pm ta6 => by
            have tf := told_full (o := o1) (q := o2) sat pm
            rw [he] at tf
            exact k H6 t6 _ _ cs' (s15.trans s6) ta6 tf
        | false =>
          refine iteF (c_pv v_c (c_consC (c_pv (v_var rfl) ?_)))
          have cs0 : cs = [] := by
            cases ys with
            | nil => cases pr5; rfl
            | cons _ _ => cases hz
          subst cs0
          exact timMake (e := none) (.inl ⟨ys, ha5, pr5⟩) st0 (fun t e => by cases e) ln5 ok5 dj5 fun t6 H6 cs' s6 pm ta6 => by
            have e0 : cs' = [] := List.Perm.eq_nil pm
            subst e0
            exact k H6 t6 _ _ [] (s15.trans s6) ta6 (told_none fun t q => sat_nil t ((sat t).mpr q.2.2.2))
      · rw [decide_eq_false (show ¬ z ≥ (if c.m > b.m then c.m else b.m) from hge)]
        refine iteF ?_
        refine c_tup a_nil (by show 0 ≤ 100000; decide) fun e6 he6 => ?_
        have s6 : Same H5 (upd H5 e6 (.tup [])) := Same.new he6
        refine s_retC (c_makeC (c_consC ?_))
        refine c_pv (v_fld (v_var rfl) (s6 _ _ ht5) T.cTim T.timS g1) ?_
        refine c_consC (c_ifU ?_)
        refine ⟨_, rfl, false, .inr (.inl ⟨_, SqT.of upd_same, rfl⟩), iteF ?_⟩
        refine c_pv v_c (c_consC (c_pv (v_var rfl) ?_))
        exact timMake (e := none) (.inr ⟨[], SqT.of upd_same, .nil⟩) st0 (fun t e => by cases e) (by show 0 ≤ 64; decide) (fun c hc => by cases hc) List.Pairwise.nil fun t6 H6 cs' s7 pm ta6 => by
          have e0 : cs' = [] := List.Perm.eq_nil pm
          subst e0
          refine k H6 t6 _ _ [] (s15.trans (s6.trans s7)) ta6 (told_none fun t q => hge ?_)
          have := q.2.2.1 z he
          have a1 := q.1
          have a2 := q.2.1
          split <;> omega
end
end Cu
end
section
set_option Elab.async false
set_option linter.all false
set_option maxRecDepth 100000
set_option maxHeartbeats 4000000
namespace Cu
open PySem PySem.Spec PyProof.Rows L2 CuM
local macro_rules | `(tactic| walk_at "hp") => `(tactic| first
  | assumption
  | exact SqT.of (by assumption)
  | exact SqL.of (by assumption)
  | (apply SqT.of; walk_at "hq")
  | (apply SqL.of; walk_at "hq")
  | walk_at "hq")
local macro_rules | `(tactic| walk_at "hq") => `(tactic| first
  | assumption
  | exact upd_same
  | (refine Same.new (by assumption) _ _ ?_; walk_at "hq")
  | (refine Same.tup (Same.new (by assumption)) ?_; walk_at "hp")
  | (refine L2.Same.seq (Same.new (by assumption)) ?_; walk_at "hp"))
local macro_rules | `(tactic| walk_at "pv") => `(tactic| first
  | with_reducible exact v_c
  | ((with_reducible apply v_var); rfl)
  | (with_reducible apply v_op) <;> walk_at "pv"
  | (with_reducible apply v_un) <;> walk_at "pv"
  | (with_reducible apply v_fld) <;> walk_at "pv"
  | (with_reducible apply v_chain) <;> walk_at "pv"
  | (with_reducible apply v_and) <;> walk_at "pv"
  | (with_reducible apply v_or) <;> walk_at "pv"
  | (with_reducible apply v_not) <;> walk_at "pv"
  | (with_reducible apply v_isN) <;> walk_at "pv"
  | (with_reducible apply v_notN) <;> walk_at "pv"
  | (with_reducible apply v_cb) <;> walk_at "pv"
  | with_reducible exact a_nil
  | (with_reducible apply a_cons) <;> walk_at "pv"
  | (with_reducible apply b_test) <;> walk_at "pv"
  | (with_reducible apply b_B) <;> walk_at "pv"
  | (with_reducible apply b_and) <;> walk_at "pv"
  | (with_reducible apply b_or) <;> walk_at "pv"
  | (with_reducible apply b_not) <;> walk_at "pv"
  | with_reducible exact r_I0
  | with_reducible exact r_U
  | ((with_reducible apply r_I); walk_at "side")
  | ((with_reducible apply r_ixT); walk_at "hp"; first | rfl | assumption)
  | ((with_reducible apply r_ixL); walk_at "hp"; first | rfl | assumption)
  | ((with_reducible apply r_eq); rfl)
  | ((with_reducible apply r_ne); rfl)
  | ((with_reducible apply r_inT); walk_at "hp"; rfl; first | rfl | assumption)
  | ((with_reducible apply r_inL); walk_at "hp"; rfl; first | rfl | assumption)
  | with_reducible exact o_none
  | (with_reducible apply o_some) <;> walk_at "pv"
  | (intro _; walk_at "pv")
  | assumption
  | rfl
  | walk_at "side")
local macro_rules | `(tactic| walk_at "side") => `(tactic| first
  | assumption
  | (show (0 : Int) < _; first | decide | omega)
  | (show (0 : Int) < _ ∧ _ < (1073741824 : Int); exact ⟨by decide, by decide⟩)
  | walk_at "hp"
  | rfl)

/-! ### the law's numbers -/
def RowOk (ns : List Int) : Prop := ∀ n ∈ ns, 0 ≤ n ∧ n < 1009
theorem RowOk.snoc {ns : List Int} {n : Int} (h : RowOk ns) (h0 : 0 ≤ n) (h1 : n < 1009) : RowOk (ns ++ [n]) := fun m hm => by
  rcases List.mem_append.mp hm with hm | hm
  · exact h m hm
  · rw [List.mem_singleton] at hm
    subst hm
    exact ⟨h0, h1⟩
def spLRow (K : PySem.W.Frag) : Sp := fun vs H Q _ => ∃ (cell : Int) (many : Nat), vs = [.int cell, .int (many : Nat)] ∧ many ≤ 100 ∧ ∀ (p : Addr) (H' : Hp) (ns : List Int), Same H H' → H p = none → H' p = some (.lst (ns.map V.int)) → ns.length = many → RowOk ns → Q (.ref p) H'
def spLNums (K : PySem.W.Frag) : Sp := fun vs H Q _ => ∃ (a : Addr) (cs : List Int), vs = [.ref a, .int 60] ∧ SqL K H a (cs.map V.int) ∧ ∀ (p : Addr) (H' : Hp) (ns : List Int), Same H H' → H' p = some (.lst (ns.map V.int)) → ns.length = 60 → RowOk ns → Q (.ref p) H'
theorem r_mod {H : Hp} {i j : Int} (h : 0 < j) : Rp (rI (fun _ j => 0 < j) fun i j => .int (i % j)) (.int i) (.int j) H (.int (i % j)) := r_I (C := fun _ j => 0 < j) h
theorem r_fdiv {H : Hp} {i j : Int} (h : 0 < j) (h1 : j < 1073741824) : Rp (rI CDiv fun i j => .int (i / j)) (.int i) (.int j) H (.int (i / j)) := r_I (C := CDiv) ⟨h, h1⟩
theorem r_mulL {H : Hp} {i j : Int} (h : -(2 ^ 64) < i ∧ i < 2 ^ 64) : Rp (rI CMul fun i j => .int (i * j)) (.int i) (.int j) H (.int (i * j)) := r_I (C := CMul) (.inl h)
theorem r_mulR {H : Hp} {i j : Int} (h : -(2 ^ 64) < j ∧ j < 2 ^ 64) : Rp (rI CMul fun i j => .int (i * j)) (.int i) (.int j) H (.int (i * j)) := r_I (C := CMul) (.inr h)
theorem c_int {H : Hp} {i : Int} : Cp (fun xs H Q => (∃ i, xs = [.int i] ∧ Q (.int i) H) ∨ ∃ k, xs = [.bl k] ∧ Q (.int (if k then 1 else 0)) H) [.int i] H (.int i) := fun Q q => .inl ⟨i, rfl, q⟩
theorem c_abs {H : Hp} {i : Int} : Cp (fun xs H Q => ∃ i, xs = [.int i] ∧ Q (.int (if i < 0 then -i else i)) H) [.int i] H (.int (if i < 0 then -i else i)) := fun Q q => ⟨i, rfl, q⟩
theorem m1009 (i : Int) : 0 ≤ i % 1009 ∧ i % 1009 < 1009 := ⟨Int.emod_nonneg _ (by decide), Int.emod_lt_of_pos _ (by decide)⟩
theorem s_forLU {K : PySem.W.Frag} {σ : L2.St} {H : Hp} {tl : TE} {D : Ends} {tu : TS} {g : TG} (k : tl σ H fun x H1 => ∃ a, x = .ref a ∧ (∃ xs, SqL K H1 a xs) ∧ ∃ W : Nat → Nat → L2.St → Hp → Prop, (∃ m, W 0 m σ H1) ∧ ∀ i m σ H, W i m σ H →
      ((Itl K a).stop i H ∧ D.nx σ H) ∨ ((Itl K a).go i H ∧ ∃ N : L2.St → Hp → Prop, (∀ σ' H', N σ' H' → ∃ m', m' < m ∧ W (i + 1) m' σ' H') ∧ ∀ x H', (Itl K a).yld i H x H' → g x σ H' fun σ2 H2 => tu { D with nx := N, ct := N, bk := D.nx } σ2 H2)) : tFor (iList K tl) g tu D σ H := k
theorem loopL {K : PySem.W.Frag} {a : Addr} {xs : List V} {g : TG} {tu : TS} {D : Ends} {σ : L2.St} {H : Hp} (hx : SqL K H a xs) (W : Nat → L2.St → Hp → Prop) (h0 : W 0 σ H) (hl : ∀ i σ' H', i ≤ xs.length → W i σ' H' → SqL K H' a xs)
    (hs : ∀ i x σ' H', xs[i]? = some x → W i σ' H' → g x σ' H' fun σ2 H2 => tu { D with nx := W (i + 1), ct := W (i + 1), bk := D.nx } σ2 H2) (hd : ∀ σ' H', W xs.length σ' H' → D.nx σ' H') : ∃ b, V.ref a = .ref b ∧ (∃ xs, SqL K H b xs) ∧ ∃ W : Nat → Nat → L2.St → Hp → Prop, (∃ m, W 0 m σ H) ∧ ∀ i m σ H, W i m σ H →
      ((Itl K b).stop i H ∧ D.nx σ H) ∨ ((Itl K b).go i H ∧ ∃ N : L2.St → Hp → Prop, (∀ σ' H', N σ' H' → ∃ m', m' < m ∧ W (i + 1) m' σ' H') ∧ ∀ x H', (Itl K b).yld i H x H' → g x σ H' fun σ2 H2 => tu { D with nx := N, ct := N, bk := D.nx } σ2 H2) :=
  ⟨a, rfl, ⟨xs, hx⟩, for_list W h0 hl hs hd⟩
theorem c_sl {r : V → Option Int → Option Int → Hp → VK → Prop} {te : TE} {tl th : TO} {σ : L2.St} {H : Hp} {Q : VK} {x : V} {lo hi : Option Int} (h : Pv te σ H x) (h1 : Po tl σ H lo) (h2 : Po th σ H hi) (k : r x lo hi H Q) : tSl r te tl th σ H Q := h _ (h1 _ (h2 _ k))
theorem cut_len (xs : List V) (hi : Int) (h : 0 ≤ hi) : cutV xs none (some hi) = xs.take hi.toNat := by
  have := cut_to xs hi.toNat
  rw [Int.toNat_of_nonneg h] at this
  exact this
section
variable {P : Program} {w : World} {K : PySem.W.Frag} {mg : Str → Option Value} {base : Heap} {f : Addr} {fd : FuncData}
theorem sc_law_row : FnScope ["_law_cell", "_law_many", "_law_row_here", "_law_rest", "_law_mixed", "_law_k"] ["_law_cell", "_law_many"] (defScope sLRow) := ⟨rfl, rfl, rfl, by decide +kernel, rfl, by decide +kernel, by decide +kernel⟩
theorem ok_lRow (F : FnP K "_law_row" "_law_row" sLRow [] f fd) (T : Tx K mg) : FnOk P w K mg base CX0 1 f fd ["_law_cell", "_law_many"] (spLRow K) := by
  refine ok_of F sc_law_row (fun vs H Q E h => ?_) (fun cdv A outer s H vs Q E hr h => ?_)
  · obtain ⟨_, _, rfl, _⟩ := h
    rfl
  · obtain ⟨cell, many, rfl, hm, k⟩ := h
    refine ⟨_, (pss_cons (ps_set (i := 2) sc_law_row.nd rfl (Or.inl rfl) (pe_lst pa_nil))
  (pss_cons (ps_set (i := 3) sc_law_row.nd rfl (Or.inl rfl) (pe_callB call_abs (by rfl) T.noabs (by decide +kernel) (pa_cons (pv 0) pa_nil)))
  (pss_cons (ps_set (i := 4) sc_law_row.nd rfl (Or.inl rfl) (pe_op op_mod (pe_callTy call_int1 (by rfl) T.noint (by decide +kernel) (pa_cons (pe_op op_add (pe_op op_mul (pv 3) pe_int) pe_int) pa_nil)) pe_int))
  (pss_cons (ps_for PassesOwn.never rfl (pi_range1 (by rfl) T.norange (pa_cons (pv 1) pa_nil)) (pg_name (i := 5) sc_law_row.nd rfl (Or.inl rfl))
  (pss_cons (ps_set (i := 4) sc_law_row.nd rfl (Or.inl rfl) (pe_op op_mod (pe_callTy call_int1 (by rfl) T.noint (by decide +kernel) (pa_cons (pe_op op_add (pe_op op_mul (pv 4) pe_int) (pe_op op_mul pe_int (pe_op op_add (pv 5) pe_int))) pa_nil)) pe_int))
  (pss_one (ps_if (pt_cmpR op_ge (pe_callB call_abs (by rfl) T.noabs (by decide +kernel) (pa_cons (pv 0) pa_nil)) (pe_op op_pow pe_int pe_int) (nomark _))
  (pss_cons (ps_expr (pe_bm PySem.F.plainAttrs_list PySem.F.slot_list_append PySem.F.type_list_append mt_append (pv 2) (pa_cons (pe_op op_mod (pe_callTy call_int1 (by rfl) T.noint (by decide +kernel) (pa_cons (pv 3) pa_nil)) pe_int) pa_nil)))
  (pss_one (ps_set (i := 3) sc_law_row.nd rfl (Or.inl rfl) (pe_op op_fdiv (pv 3) pe_int))))
  (pss_one (ps_expr (pe_bm PySem.F.plainAttrs_list PySem.F.slot_list_append PySem.F.type_list_append mt_append (pv 2) (pa_cons (pe_op op_mod (pe_callTy call_int1 (by rfl) T.noint (by decide +kernel) (pa_cons (pe_op op_fdiv (pv 4) pe_int) pa_nil)) pe_int) pa_nil))))))))
  (pss_one (ps_ret (pv 2))))))), ?_⟩
    refine q_setLst a_nil (by show 0 ≤ 100000; decide) fun l hl => ?_
    have s0 : Same H (upd H l (.lst [])) := Same.new hl
    refine q_set (v_cb (a_cons (v_var rfl) a_nil) c_abs) ?_
    refine q_set (v_op (v_cb (a_cons (v_op (v_op (v_var rfl) v_c (r_mulR ⟨by decide, by decide⟩)) v_c r_I0) a_nil) c_int) v_c (r_mod (by decide))) ?_
    refine q_forR1 (n := (many : Int)) (a_cons (v_var rfl) a_nil) (by omega) (by omega) (fun i σ' H' => ∃ (rest mixed : Int) (v5 : Option V) (ns : List Int), σ' = [some (.int cell), some (.int (many : Nat)), some (.ref l), some (.int rest), some (.int mixed), v5] ∧ Same H H' ∧ H' l = some (.lst (ns.map V.int)) ∧ ns.length = i ∧ RowOk ns)
      ⟨_, _, none, [], rfl, s0, upd_same, rfl, fun n hn => by cases hn⟩ ?_ ?_
    · rintro i σ' H' hi ⟨rest, mixed, v5, ns, rfl, s1, hl1, zn, ok⟩
      have an : (ns.map V.int).length < sizeLine := size_lt (by rw [List.length_map]; omega)
      refine q_set (v_op (v_cb (a_cons (v_op (v_op (v_var rfl) v_c (r_mulR ⟨by decide, by decide⟩)) (v_op v_c (v_op (v_var rfl) v_c r_I0) (r_mulL ⟨by decide, by decide⟩)) r_I0) a_nil) c_int) v_c (r_mod (by decide))) ?_
      refine s_if (b_test (v_op (v_cb (a_cons (v_var rfl) a_nil) c_abs) (v_op v_c v_c (r_I (C := CPow) ⟨by decide, by decide, by decide⟩)) r_I0)) (fun _ => ?_) (fun _ => ?_)
      · refine q_app (v_var rfl) hl1 (v_op (v_cb (a_cons (v_var rfl) a_nil) c_int) v_c (r_mod (by decide))) an ?_
        refine s_set (v_op (v_var rfl) v_c (r_fdiv (by decide) (by decide))) ?_
        refine ⟨_, _, _, ns ++ [rest % 1009], rfl, Same.mut s1 hl, by rw [upd_same, List.map_append]; rfl, by rw [List.length_append, zn]; rfl, ok.snoc (m1009 _).1 (m1009 _).2⟩
      · refine s_app (v_var rfl) hl1 (v_op (v_cb (a_cons (v_op (v_var rfl) v_c (r_fdiv (by decide) (by decide))) a_nil) c_int) v_c (r_mod (by decide))) an ?_
        exact ⟨_, _, _, ns ++ [_], rfl, Same.mut s1 hl, by rw [upd_same, List.map_append]; rfl, by rw [List.length_append, zn]; rfl, ok.snoc (m1009 _).1 (m1009 _).2⟩
    · rintro σ' H' ⟨rest, mixed, v5, ns, rfl, s1, hl1, zn, ok⟩
      exact s_ret (v_var rfl) (k l H' ns s1 hl hl1 (by omega) ok)
theorem sc_law_numbers : FnScope ["_law_script", "_law_many", "_law_cells", "_law_each", "_law_numbers_here", "_law_cell", "_law_number"] ["_law_script", "_law_many"] (defScope sLNumbers) := ⟨rfl, rfl, rfl, by decide +kernel, rfl, by decide +kernel, by decide +kernel⟩
theorem ok_lNums (F : FnP K "_law_numbers" "_law_numbers" sLNumbers [] f fd) (T : Tx K mg) (G_law_row : Df P w K mg base 1 "_law_row" ["_law_cell", "_law_many"] (spLRow K)) : FnOk P w K mg base CX0 2 f fd ["_law_script", "_law_many"] (spLNums K) := by
  refine ok_of F sc_law_numbers (fun vs H Q E h => ?_) (fun cdv A outer s H vs Q E hr h => ?_)
  · obtain ⟨_, _, rfl, _⟩ := h
    rfl
  · obtain ⟨a, cs, rfl, ha, k⟩ := h
    refine ⟨_, (pss_cons (ps_set (i := 2) sc_law_numbers.nd rfl (Or.inl rfl) (pe_slice sl_list (pv 0) po_none (po_some pe_int)))
  (pss_cons (ps_set (i := 3) sc_law_numbers.nd rfl (Or.inl rfl) (pe_op op_add pe_int (pe_op op_fdiv (pv 1) (pe_callB (call_max2 rfl) (by rfl) T.nomax (by decide +kernel) (pa_cons pe_int (pa_cons (pe_callB call_len_seq (by rfl) T.nolen PySem.boot_len (pa_cons (pv 2) pa_nil)) pa_nil))))))
  (pss_cons (ps_set (i := 4) sc_law_numbers.nd rfl (Or.inl rfl) (pe_lst pa_nil))
  (pss_cons (ps_for PassesOwn.never rfl (pi_list (pv 2)) (pg_name (i := 5) sc_law_numbers.nd rfl (Or.inl rfl))
  (pss_one (ps_for PassesOwn.never rfl (pi_list (pe_df G_law_row hr (pa_cons (pv 5) (pa_cons (pv 3) pa_nil)))) (pg_name (i := 6) sc_law_numbers.nd rfl (Or.inl rfl))
  (pss_one (ps_expr (pe_bm PySem.F.plainAttrs_list PySem.F.slot_list_append PySem.F.type_list_append mt_append (pv 4) (pa_cons (pv 6) pa_nil)))))))
  (pss_cons (ps_while PassesOwn.never (pt_cmpR op_lt (pe_callB call_len_seq (by rfl) T.nolen PySem.boot_len (pa_cons (pv 4) pa_nil)) (pv 1) (nomark _))
  (pss_one (ps_expr (pe_bm PySem.F.plainAttrs_list PySem.F.slot_list_append PySem.F.type_list_append mt_append (pv 4) (pa_cons pe_int pa_nil)))))
  (pss_one (ps_ret (pe_slice sl_list (pv 4) po_none (po_some (pv 1)))))))))), ?_⟩
    -- cells = script[:63]
    refine q_setC (c_sl (v_var rfl) o_none (o_some v_c) ⟨a, _, rfl, ha, fun c hc => ?_⟩)
    rw [cut_len _ _ (by decide)]
    rw [← List.map_take]
    generalize hds : cs.take (63 : Int).toNat = ds
    have dl : ds.length ≤ 63 := by
      rw [← hds, List.length_take]
      exact Nat.min_le_left _ _
    have s1 : Same H (upd H c (.lst (ds.map V.int))) := Same.new hc
    -- each = 1 + many // max(1, len(cells))
    refine q_set (v_op v_c (v_op (v_var rfl) (v_cb (a_cons v_c (a_cons (v_cb (a_cons (v_var rfl) a_nil) (c_len (.inl (SqL.of upd_same)))) a_nil)) (fun Q q => ⟨_, _, rfl, q⟩)) (r_fdiv ?_ ?_)) r_I0) ?_
    · split <;> omega
    · rw [List.length_map]
      split <;> omega
    rw [List.length_map]
    have he : ∃ each : Nat, (1 + (60 : Int) / (if ((ds.length : Nat) : Int) > 1 then ((ds.length : Nat) : Int) else 1)) = ((each : Nat) : Int) ∧ each ≤ 61 := by
      have h0 : 0 < (if ((ds.length : Nat) : Int) > 1 then ((ds.length : Nat) : Int) else 1) := by split <;> omega
      generalize (if ((ds.length : Nat) : Int) > 1 then ((ds.length : Nat) : Int) else 1) = m at h0
      have h1 : 0 ≤ (60 : Int) / m := Int.ediv_nonneg (by decide) (by omega)
      have h2 : (60 : Int) / m ≤ 60 := Int.ediv_le_self _ (by decide)
      exact ⟨(1 + 60 / m).toNat, by omega, by omega⟩
    obtain ⟨each, he, hel⟩ := he
    rw [he]
    -- numbers = []
    refine q_setLst a_nil (by show 0 ≤ 100000; decide) fun l hl => ?_
    have hl0 : H l = none := s1.free hl
    have s2 : Same H (upd (upd H c (.lst (ds.map V.int))) l (.lst [])) := s1.trans (Same.new hl)
    have ncl : c ≠ l := fun z => by
      rw [← z, upd_same] at hl
      cases hl
    have hcs : (upd (upd H c (.lst (ds.map V.int))) l (.lst [])) c = some (.lst (ds.map V.int)) := by
      rw [upd_ne ncl, upd_same]
    refine q_forL (K := K) (xs := ds.map V.int) (v_var rfl) (SqL.of hcs) (fun i σ' H' => ∃ (v5 v6 : Option V) (ns : List Int), σ' = [some (.ref a), some (.int 60), some (.ref c), some (.int ((each : Nat) : Int)), some (.ref l), v5, v6] ∧ Same H H' ∧ H' c = some (.lst (ds.map V.int)) ∧ H' l = some (.lst (ns.map V.int)) ∧ RowOk ns ∧ ns.length ≤ i * 61)
      ⟨none, none, [], rfl, s2, hcs, upd_same, (fun n hn => by cases hn), Nat.zero_le _⟩ (fun i σ' H' _ ⟨_, _, _, _, _, hc', _⟩ => SqL.of hc') ?_ ?_
    · rintro i x σ' H' hi ⟨v5, v6, ns, rfl, s3, hc3, hl3, ok3, zn3⟩
      have hil : i < 63 := by
        have := (List.getElem?_eq_some_iff.mp hi).1
        rw [List.length_map] at this
        omega
      obtain ⟨n, hn, rfl⟩ : ∃ n, ds[i]? = some n ∧ V.int n = x := by
        rw [List.getElem?_map] at hi
        obtain ⟨n, h1, h2⟩ := Option.map_eq_some_iff.mp hi
        exact ⟨n, h1, h2⟩
      refine s_forLU (c_callP (a_cons (v_var rfl) (a_cons (v_var rfl) a_nil)) ⟨n, each, rfl, by omega, fun r H4 ms s4 fr hr4 zm okm => ?_⟩)
      have nrl : r ≠ l := fun z => by
        rw [z, hl3] at fr
        cases fr
      refine loopL (K := K) (xs := ms.map V.int) (SqL.of hr4) (fun j σ2 H5 => ∃ (v5 v6 : Option V) (ns2 : List Int), σ2 = [some (.ref a), some (.int 60), some (.ref c), some (.int ((each : Nat) : Int)), some (.ref l), v5, v6] ∧ Same H H5 ∧ H5 c = some (.lst (ds.map V.int)) ∧ H5 l = some (.lst (ns2.map V.int)) ∧ H5 r = some (.lst (ms.map V.int)) ∧ RowOk ns2 ∧ ns2.length ≤ i * 61 + j)
        ⟨_, _, ns, rfl, s3.trans s4, s4 _ _ hc3, s4 _ _ hl3, hr4, ok3, zn3⟩ (fun j σ2 H5 _ ⟨_, _, _, _, _, _, _, hr5, _⟩ => SqL.of hr5) ?_ ?_
      · rintro j y σ2 H5 hj ⟨w5, w6, ns2, rfl, s5, hc5, hl5, hr5, ok5, zn5⟩
        obtain ⟨m, hm, rfl⟩ : ∃ n, ms[j]? = some n ∧ V.int n = y := by
          rw [List.getElem?_map] at hj
          obtain ⟨n, h1, h2⟩ := Option.map_eq_some_iff.mp hj
          exact ⟨n, h1, h2⟩
        have hjl : j < ms.length := (List.getElem?_eq_some_iff.mp hm).1
        have om := okm m (List.mem_of_getElem? hm)
        refine s_app (v_var rfl) hl5 (v_var rfl) (size_lt (by rw [List.length_map]; omega)) ?_
        refine ⟨_, _, ns2 ++ [m], rfl, Same.mut s5 hl0, by rw [upd_ne ncl]; exact hc5, by rw [upd_same, List.map_append]; rfl, by rw [upd_ne nrl]; exact hr5, ok5.snoc om.1 om.2, by rw [List.length_append]; show ns2.length + 1 ≤ _; omega⟩
      · rintro σ2 H5 ⟨w5, w6, ns2, rfl, s5, hc5, hl5, hr5, ok5, zn5⟩
        rw [List.length_map] at zn5
        exact ⟨_, _, ns2, rfl, s5, hc5, hl5, ok5, by omega⟩
    · rintro σ' H' ⟨v5, v6, ns, rfl, s3, hc3, hl3, ok3, zn3⟩
      rw [List.length_map] at zn3
      -- while len(numbers) < many: numbers.append(0)
      refine q_while (fun m σ2 H5 => ∃ (ns2 : List Int), σ2 = [some (.ref a), some (.int 60), some (.ref c), some (.int ((each : Nat) : Int)), some (.ref l), v5, v6] ∧ Same H H5 ∧ H5 l = some (.lst (ns2.map V.int)) ∧ RowOk ns2 ∧ m = 60 - ns2.length ∧ ns2.length ≤ 10000) (60 - ns.length) ⟨ns, rfl, s3, hl3, ok3, rfl, by omega⟩ ?_
      rintro m σ2 H5 ⟨ns2, rfl, s5, hl5, ok5, em, z5⟩
      refine ⟨_, b_test (v_op (v_cb (a_cons (v_var rfl) a_nil) (c_len (.inl (SqL.of hl5)))) (v_var rfl) r_I0), fun hb => ?_, fun hb => ?_⟩
      · rw [List.length_map] at hb
        have hlt : ns2.length < 60 := by
          have := of_decide_eq_true hb
          omega
        refine s_app (v_var rfl) hl5 v_c (size_lt (by rw [List.length_map]; omega)) ?_
        refine ⟨60 - (ns2.length + 1), by omega, ns2 ++ [0], rfl, Same.mut s5 hl0, by rw [upd_same, List.map_append]; rfl, ok5.snoc (by decide) (by decide), by rw [List.length_append]; rfl, by rw [List.length_append]; show ns2.length + 1 ≤ _; omega⟩
      · rw [List.length_map] at hb
        have hge : 60 ≤ ns2.length := by
          have := of_decide_eq_false hb
          omega
        refine s_retC (c_sl (v_var rfl) o_none (o_some (v_var rfl)) ⟨l, _, rfl, SqL.of hl5, fun q hq => ?_⟩)
        rw [cut_len _ _ (by decide), ← List.map_take]
        refine k q _ (ns2.take (60 : Int).toNat) (s5.trans (Same.new hq)) upd_same ?_ fun n hn => ok5 n (List.mem_of_mem_take hn)
        rw [List.length_take]
        exact Nat.min_eq_left hge
end
end Cu
end
section
set_option Elab.async false
set_option linter.all false
set_option maxRecDepth 100000
set_option maxHeartbeats 4000000
namespace Cu
open PySem PySem.Spec PyProof.Rows L2 CuM
local macro_rules | `(tactic| walk_at "hp") => `(tactic| first
  | assumption
  | exact SqT.of (by assumption)
  | exact SqL.of (by assumption)
  | (apply SqT.of; walk_at "hq")
  | (apply SqL.of; walk_at "hq")
  | walk_at "hq")
local macro_rules | `(tactic| walk_at "hq") => `(tactic| first
  | assumption
  | exact upd_same
  | (refine Same.new (by assumption) _ _ ?_; walk_at "hq")
  | (refine Same.tup (Same.new (by assumption)) ?_; walk_at "hp")
  | (refine L2.Same.seq (Same.new (by assumption)) ?_; walk_at "hp"))
local macro_rules | `(tactic| walk_at "pv") => `(tactic| first
  | with_reducible exact v_c
  | ((with_reducible apply v_var); rfl)
  | (with_reducible apply v_op) <;> walk_at "pv"
  | (with_reducible apply v_un) <;> walk_at "pv"
  | (with_reducible apply v_fld) <;> walk_at "pv"
  | (with_reducible apply v_chain) <;> walk_at "pv"
  | (with_reducible apply v_and) <;> walk_at "pv"
  | (with_reducible apply v_or) <;> walk_at "pv"
  | (with_reducible apply v_not) <;> walk_at "pv"
  | (with_reducible apply v_isN) <;> walk_at "pv"
  | (with_reducible apply v_notN) <;> walk_at "pv"
  | (with_reducible apply v_cb) <;> walk_at "pv"
  | with_reducible exact a_nil
  | (with_reducible apply a_cons) <;> walk_at "pv"
  | (with_reducible apply b_test) <;> walk_at "pv"
  | (with_reducible apply b_B) <;> walk_at "pv"
  | (with_reducible apply b_and) <;> walk_at "pv"
  | (with_reducible apply b_or) <;> walk_at "pv"
  | (with_reducible apply b_not) <;> walk_at "pv"
  | with_reducible exact r_I0
  | with_reducible exact r_U
  | ((with_reducible apply r_I); walk_at "side")
  | ((with_reducible apply r_ixT); walk_at "hp"; first | rfl | assumption)
  | ((with_reducible apply r_ixL); walk_at "hp"; first | rfl | assumption)
  | ((with_reducible apply r_eq); rfl)
  | ((with_reducible apply r_ne); rfl)
  | ((with_reducible apply r_inT); walk_at "hp"; rfl; first | rfl | assumption)
  | ((with_reducible apply r_inL); walk_at "hp"; rfl; first | rfl | assumption)
  | with_reducible exact o_none
  | (with_reducible apply o_some) <;> walk_at "pv"
  | (intro _; walk_at "pv")
  | assumption
  | rfl
  | walk_at "side")
local macro_rules | `(tactic| walk_at "side") => `(tactic| first
  | assumption
  | (show (0 : Int) < _; first | decide | omega)
  | (show (0 : Int) < _ ∧ _ < (1073741824 : Int); exact ⟨by decide, by decide⟩)
  | walk_at "hp"
  | rfl)

/-! ### the law's names -/
/-- of letters alone -/
def AlS (z : Str) : Prop := ∀ c ∈ z.cps.toList, c ∈ alph.cps.toList
theorem AlS.app {a b : Str} (ha : AlS a) (hb : AlS b) : AlS (a ++ b) := fun c hc => by
  rw [PySem.Str.cps_append, Array.toList_append, List.mem_append] at hc
  rcases hc with hc | hc
  · exact ha c hc
  · exact hb c hc
theorem AlS.cut {a : Str} (ha : AlS a) (lo hi : Option Int) : AlS (cutS a lo hi) := fun c hc => by
  refine ha c ?_
  have : c ∈ (a.cps.toList.drop (HT.sIx a.length 0 lo)).take (HT.sIx a.length a.length hi - HT.sIx a.length 0 lo) := by simpa [cutS] using hc
  exact List.mem_of_mem_drop (List.mem_of_mem_take this)
theorem AlS.one {c : Nat} (h : c ∈ alph.cps.toList) : AlS ⟨#[c]⟩ := fun d hd => by
  have : d = c := by simpa using hd
  exact this ▸ h
theorem join_al : ∀ ys : List Str, (∀ y ∈ ys, AlS y ∧ y.cps.size = 1) → AlS (Str.join "" ys) ∧ (Str.join "" ys).cps.size ≤ ys.length
  | [], _ => ⟨(fun c hc => by cases hc), Nat.zero_le _⟩
  | [x], h => ⟨(h x (List.mem_singleton.mpr rfl)).1, by
    have := (h x (List.mem_singleton.mpr rfl)).2
    show x.cps.size ≤ 1
    omega⟩
  | x :: y :: r, h => by
    obtain ⟨i1, i2⟩ := join_al (y :: r) fun z hz => h z (List.mem_cons_of_mem _ hz)
    obtain ⟨h1, h2⟩ := h x (List.mem_cons_self ..)
    have e : Str.join "" (x :: y :: r) = x ++ "" ++ Str.join "" (y :: r) := rfl
    have ae : AlS ("" : Str) := fun c hc => by
      have z : ("" : Str).cps.toList = [] := by decide +kernel
      rw [z] at hc
      cases hc
    refine ⟨e ▸ (h1.app ae).app i1, ?_⟩
    rw [e, PySem.Str.cps_append, PySem.Str.cps_append, Array.size_append, Array.size_append]
    have z : ("" : Str).cps.size = 0 := by decide +kernel
    rw [z, h2]
    show 1 + 0 + _ ≤ (y :: r).length + 1
    omega
theorem alph_at (i : Int) (h0 : 0 ≤ i) (h1 : i < 36) : ∃ c, atI alph.cps.toList i = some c ∧ c ∈ alph.cps.toList := by
  have z : alph.cps.toList.length = 36 := by decide +kernel
  obtain ⟨m, rfl⟩ : ∃ m : Nat, i = (m : Int) := ⟨i.toNat, by omega⟩
  have hl : m < alph.cps.toList.length := by omega
  exact ⟨alph.cps.toList[m], atI_nat (List.getElem?_eq_getElem hl), List.getElem_mem hl⟩
theorem alph_first (i : Int) (h0 : 0 ≤ i) (h1 : i < 26) : atI alph.cps.toList i = some (97 + i.toNat) := by
  have e : i = ((i.toNat : Nat) : Int) := by omega
  have : ∀ n : Fin 26, alph.cps.toList[(n : Nat)]? = some (97 + (n : Nat)) := by decide +kernel
  have h := this ⟨i.toNat, by omega⟩
  rw [e]
  exact atI_nat h
theorem alph_mem : ∀ n : Fin 26, (97 + (n : Nat)) ∈ alph.cps.toList ∧ (97 + (n : Nat)) ∉ ("0123456789" : Str).cps.toList := by decide +kernel
/-- the names so far: each valid, the j-th begins with its own letter -/
def NmRow (n : Int) (ns : List Str) : Prop := ∀ (j : Nat) (s : Str), ns[j]? = some s → Nm s ∧ s.cps[0]? = some (97 + ((n + 3 * (j : Int)) % 26).toNat)
def spLNames (K : PySem.W.Frag) : Sp := fun vs H Q _ => ∃ n : Int, vs = [.int n, .int 4] ∧ 0 ≤ n ∧ n < 1009 ∧ ∀ (p : Addr) (H' : Hp) (ns : List Str), Same H H' → H' p = some (.lst (ns.map V.str)) → ns.length = 4 → (∀ s ∈ ns, Nm s) → ns.Nodup → Q (.ref p) H'
theorem nmRow_nodup {n : Int} {ns : List Str} (h : NmRow n ns) (h0 : 0 ≤ n) (z : ns.length = 4) : ns.Nodup := by
  refine List.pairwise_iff_getElem.mpr fun i j hi hj hij e => ?_
  have a := (h i _ (List.getElem?_eq_getElem hi)).2
  have b := (h j _ (List.getElem?_eq_getElem hj)).2
  rw [e, b] at a
  have a := Option.some.inj a
  omega
theorem NmRow.snoc {n : Int} {ns : List Str} {s : Str} (h : NmRow n ns) (hs : Nm s) (h0 : s.cps[0]? = some (97 + ((n + 3 * (ns.length : Int)) % 26).toNat)) : NmRow n (ns ++ [s]) := fun j t ht => by
  by_cases hj : j < ns.length
  · rw [List.getElem?_append_left hj] at ht
    exact h j t ht
  · rw [List.getElem?_append_right (by omega)] at ht
    have : j - ns.length = 0 := by
      by_cases z : j - ns.length = 0
      · exact z
      · rw [List.getElem?_eq_none (by show 1 ≤ j - ns.length; omega)] at ht
        cases ht
    rw [this] at ht
    cases ht
    have ej : j = ns.length := by omega
    subst ej
    exact ⟨hs, h0⟩
theorem nm_made {n : Int} {a b : Str} {c d : Nat} (h0 : 0 ≤ n) (hc : c = 97 + (n % 26).toNat) (ha : AlS a) (hb : AlS b) (hd : d ∈ alph.cps.toList) (hz : a.cps.size + b.cps.size ≤ 10) : Nm (((⟨#[c]⟩ ++ a) ++ ⟨#[d]⟩) ++ b) ∧ ((((⟨#[c]⟩ : Str) ++ a) ++ ⟨#[d]⟩) ++ b).cps[0]? = some c := by
  have cm := alph_mem ⟨(n % 26).toNat, by omega⟩
  simp only at cm
  rw [← hc] at cm
  have al : AlS (((⟨#[c]⟩ ++ a) ++ ⟨#[d]⟩) ++ b) := (((AlS.one cm.1).app ha).app (AlS.one hd)).app hb
  have sz : ((((⟨#[c]⟩ : Str) ++ a) ++ ⟨#[d]⟩) ++ b).cps.size = 1 + a.cps.size + 1 + b.cps.size := by
    simp only [PySem.Str.cps_append, Array.size_append]
    rfl
  have f0 : ((((⟨#[c]⟩ : Str) ++ a) ++ ⟨#[d]⟩) ++ b).cps[0]? = some c := by
    simp only [PySem.Str.cps_append]
    rw [Array.getElem?_append_left (by simp; omega), Array.getElem?_append_left (by simp; omega), Array.getElem?_append_left (by simp)]
    rfl
  refine ⟨⟨by omega, by omega, fun i e he => al e ?_, fun e he => ?_⟩, f0⟩
  · rw [← Array.getElem?_toList] at he
    exact List.mem_of_getElem? he
  · rw [f0] at he
    cases he
    exact cm.2
theorem cutS_sum (z : Str) (i : Int) (h0 : 0 ≤ i) (h1 : i ≤ z.length) : (cutS z none (some i)).cps.size + (cutS z (some i) none).cps.size ≤ z.cps.size := by
  have e : i = ((i.toNat : Nat) : Int) := by omega
  rw [e]
  have s1 : (cutS z none (some ((i.toNat : Nat) : Int))).cps.size ≤ i.toNat := by
    show (((z.cps.toList.drop _).take _).toArray).size ≤ _
    rw [List.size_toArray, List.length_take, List.length_drop, HT.sIx_nat]
    omega
  have s2 : (cutS z (some ((i.toNat : Nat) : Int)) none).cps.size ≤ z.cps.size - i.toNat := by
    show (((z.cps.toList.drop _).take _).toArray).size ≤ _
    rw [List.size_toArray, List.length_take, List.length_drop, HT.sIx_nat, Array.length_toList]
    have : z.length = z.cps.size := rfl
    omega
  have : z.length = z.cps.size := rfl
  omega
theorem sum_ones : ∀ ys : List Str, (∀ y ∈ ys, y.cps.size = 1) → (ys.map (·.length)).sum = ys.length
  | [], _ => rfl
  | y :: r, h => by
    have h1 : y.length = 1 := h y (List.mem_cons_self ..)
    rw [List.map_cons, List.sum_cons, sum_ones r fun z hz => h z (List.mem_cons_of_mem _ hz), h1, List.length_cons]
    omega
theorem r_cat {H : Hp} {i j : Str} (h : i.length + j.length ≤ 100000) : Rp (fun x y H Q => ∃ i j, x = .str i ∧ y = .str j ∧ i.length + j.length ≤ sizeLine ∧ Q (.str (i ++ j)) H) (.str i) (.str j) H (.str (i ++ j)) := fun Q q => ⟨i, j, rfl, rfl, size_of h, q⟩
section
variable {P : Program} {w : World} {K : PySem.W.Frag} {mg : Str → Option Value} {base : Heap} {f : Addr} {fd : FuncData}
theorem sc_law_names : FnScope ["_law_number", "_law_many", "_law_letters", "_law_size", "_law_rest", "_law_k", "_law_place", "_law_names_here", "_law_own", "_law_spot", "_law_step"] ["_law_number", "_law_many"] (defScope sLNames) := ⟨rfl, rfl, rfl, by decide +kernel, rfl, by decide +kernel, by decide +kernel⟩
theorem ok_lNames (F : FnP K "_law_names" "_law_names" sLNames [] f fd) (T : Tx K mg) : FnOk P w K mg base CX0 1 f fd ["_law_number", "_law_many"] (spLNames K) := by
  refine ok_of F sc_law_names (fun vs H Q E h => ?_) (fun cdv A outer s H vs Q E hr h => ?_)
  · obtain ⟨_, rfl, _⟩ := h
    rfl
  · obtain ⟨n, rfl, n0, n1, k⟩ := h
    refine ⟨_, (pss_cons (ps_set (i := 2) sc_law_names.nd rfl (Or.inr rfl) pe_str)
  (pss_cons (ps_set (i := 3) sc_law_names.nd rfl (Or.inl rfl) (pe_op op_mod (pe_callTy call_int1 (by rfl) T.noint (by decide +kernel) (pa_cons (pv 0) pa_nil)) pe_int))
  (pss_cons (ps_set (i := 4) sc_law_names.nd rfl (Or.inl rfl) (pe_join pe_str (pe_lc (own := [("_law_k", 5)]) rfl sc_law_names.nd (pi_range1 (by rfl) T.norange (pa_cons (pv 3) pa_nil)) (blkOk_by (own := [("_law_k", 5)]) (N := ["_law_number", "_law_many", "_law_letters", "_law_size", "_law_rest", "_law_k", "_law_place", "_law_names_here", "_law_own", "_law_spot", "_law_step"]) (sc := defScope sLNames) (by decide +kernel)) (fun _ _ _ _ _ => (pg_name (i := 5) sc_law_names.nd rfl (Or.inl rfl))) (fun _ _ _ _ _ => pts_nil) (fun _ _ _ _ _ => (pe_ix ix_str (pv 2) (pe_op op_mod (pe_callTy call_int1 (by rfl) T.noint (by decide +kernel) (pa_cons (pe_op op_add (pv 0) (pe_op op_mul (pe_op op_mul pe_int (pv 5)) (pv 5))) pa_nil)) pe_int) (fun _ _ => rfl))))))
  (pss_cons (ps_set (i := 6) sc_law_names.nd rfl (Or.inl rfl) (pe_op op_mod (pe_op op_fdiv (pv 0) pe_int) (pe_op op_add (pv 3) pe_int)))
  (pss_cons (ps_set (i := 7) sc_law_names.nd rfl (Or.inl rfl) (pe_lst pa_nil))
  (pss_cons (ps_for PassesOwn.never rfl (pi_range1 (by rfl) T.norange (pa_cons (pv 1) pa_nil)) (pg_name (i := 5) sc_law_names.nd rfl (Or.inl rfl))
  (pss_cons (ps_set (i := 8) sc_law_names.nd rfl (Or.inl rfl) (pv 4))
  (pss_cons (ps_if (pt_cmpR op_eq (pe_op op_mod (pe_callTy call_int1 (by rfl) T.noint (by decide +kernel) (pa_cons (pe_op op_add (pe_op op_fdiv (pv 0) pe_int) (pv 5)) pa_nil)) pe_int) pe_int (nomark _))
  (pss_one (ps_set (i := 8) sc_law_names.nd rfl (Or.inl rfl) (pe_slice sl_str (pv 4) (po_some pe_int) po_none)))
  pss_nil)
  (pss_cons (ps_set (i := 9) sc_law_names.nd rfl (Or.inl rfl) (pe_callB (call_min2 rfl) (by rfl) T.nomin (by decide +kernel) (pa_cons (pv 6) (pa_cons (pe_callB call_len_str (by rfl) T.nolen PySem.boot_len (pa_cons (pv 8) pa_nil)) pa_nil))))
  (pss_cons (ps_set (i := 10) sc_law_names.nd rfl (Or.inl rfl) pe_int)
  (pss_cons (ps_if (pt_cmpR op_eq (pe_op op_mod (pe_op op_fdiv (pv 0) pe_int) pe_int) pe_int (nomark _))
  (pss_one (ps_set (i := 10) sc_law_names.nd rfl (Or.inl rfl) pe_int))
  pss_nil)
  (pss_one (ps_expr (pe_bm PySem.F.plainAttrs_list PySem.F.slot_list_append PySem.F.type_list_append mt_append (pv 7) (pa_cons (pe_op op_add_str (pe_op op_add_str (pe_op op_add_str (pe_ix ix_str (pv 2) (pe_op op_mod (pe_callTy call_int1 (by rfl) T.noint (by decide +kernel) (pa_cons (pe_op op_add (pv 0) (pe_op op_mul pe_int (pv 5))) pa_nil)) pe_int) (fun _ _ => rfl)) (pe_slice sl_str (pv 8) po_none (po_some (pv 9)))) (pe_ix ix_str (pv 2) (pe_op op_mod (pe_callTy call_int1 (by rfl) T.noint (by decide +kernel) (pa_cons (pe_op op_add (pv 0) (pe_op op_mul (pv 10) (pv 5))) pa_nil)) pe_int) (fun _ _ => rfl))) (pe_slice sl_str (pv 8) (po_some (pv 9)) po_none)) pa_nil))))))))))
  (pss_one (ps_ret (pv 7))))))))), ?_⟩
    refine q_set (v := .str alph) v_c ?_
    refine q_set (v_op (v_cb (a_cons (v_var rfl) a_nil) c_int) v_c (r_mod (by decide))) ?_
    have z0 : 0 ≤ n % 11 := Int.emod_nonneg _ (by decide)
    have z1 : n % 11 < 11 := Int.emod_lt_of_pos _ (by decide)
    generalize n % 11 = sz at z0 z1
    -- rest = ''.join([..])
    refine q_setC ⟨⟨_, rfl⟩, ?_⟩
    refine c_lcR (K := K) (n := sz) (a_cons (v_var rfl) a_nil) (by omega) z0 (fun i acc A => ∃ ys : List Str, acc = ys.map V.str ∧ ys.length = i ∧ ∀ y ∈ ys, AlS y ∧ y.cps.size = 1) (fun i acc A B _ q => q) ⟨[], rfl, rfl, fun y hy => by cases hy⟩ ?_ ?_
    · rintro i acc H2 Dl Qk hi hD s4 hacc hl2 ⟨ys, rfl, zy, oky⟩ kq
      obtain ⟨c, hc, mc⟩ := alph_at ((n + 7 * (i : Int) * (i : Int)) % 36) (Int.emod_nonneg _ (by decide)) (Int.emod_lt_of_pos _ (by decide))
      refine ⟨rfl, c_pv (v_op (v_var rfl) (v_op (v_cb (a_cons (v_op (v_var rfl) (v_op (v_op v_c (v_var rfl) (r_mulL ⟨by decide, by decide⟩)) (v_var rfl) (r_mulR ⟨by omega, by omega⟩)) r_I0) a_nil) c_int) v_c (r_mod (by decide))) (r_ixS (size_of (by decide +kernel)) hc)) (kq _ _ s4 hacc ⟨ys ++ [⟨#[c]⟩], by rw [List.map_append]; rfl, by rw [List.length_append, zy]; rfl, fun y hy => ?_⟩)⟩
      rcases List.mem_append.mp hy with hy | hy
      · exact oky y hy
      · rw [List.mem_singleton] at hy
        subst hy
        exact ⟨AlS.one mc, rfl⟩
    rintro Dl acc H2 hD s4 hacc hl2 ⟨ys, rfl, zy, oky⟩
    have sm := sum_ones ys fun y hy => (oky y hy).2
    have jl := join_al ys oky
    have je : Txt.join ("" : Str) ys = Str.join "" ys := StrLaws.glued_eq_join _ _
    have el : ("" : Str).length = 0 := by decide +kernel
    refine ⟨"", Dl, ys, rfl, rfl, .inl (SqL.of hacc), by rw [sm, el]; omega, ?_⟩
    rw [je]
    generalize Str.join "" ys = rest at jl
    obtain ⟨alr, szr⟩ := jl
    have rz : rest.length ≤ 10 := by
      show rest.cps.size ≤ 10
      omega
    -- place
    refine q_set (v_op (v_op (v_var rfl) v_c (r_fdiv (by decide) (by decide))) (v_op (v_var rfl) v_c r_I0) (r_mod (by omega))) ?_
    have p0 : 0 ≤ n / 11 % (sz + 1) := Int.emod_nonneg _ (by omega)
    generalize n / 11 % (sz + 1) = place at p0
    refine q_setLst a_nil (by show 0 ≤ 100000; decide) fun l hl => ?_
    have s5 : Same H (upd H2 l (.lst [])) := s4.trans (Same.new hl)
    have hl0 := s4.free hl
    refine q_forR1 (n := 4) (a_cons (v_var rfl) a_nil) (by decide) (by decide) (fun i σ' H' => ∃ (v5 v8 v9 v10 : Option V) (ns : List Str), σ' = [some (.int n), some (.int 4), some (.str alph), some (.int sz), some (.str rest), v5, some (.int place), some (.ref l), v8, v9, v10] ∧ Same H H' ∧ H' l = some (.lst (ns.map V.str)) ∧ ns.length = i ∧ NmRow n ns)
      ⟨_, none, none, none, [], rfl, s5, upd_same, rfl, fun j s hs => by cases hs⟩ ?_ ?_
    · rintro i σ' H' hi ⟨v5, v8, v9, v10, ns, rfl, s6, hl6, zn, okn⟩
      refine q_set (v_var rfl) ?_
      refine q_ifTo (b_test (v_op (v_op (v_cb (a_cons (v_op (v_op (v_var rfl) v_c (r_fdiv (by decide) (by decide))) (v_var rfl) r_I0) a_nil) c_int) v_c (r_mod (by decide))) v_c (r_eq rfl)))
        (fun σ2 => ∃ own : Str, σ2 = [some (.int n), some (.int 4), some (.str alph), some (.int sz), some (.str rest), some (.int (i : Int)), some (.int place), some (.ref l), some (.str own), v9, v10] ∧ AlS own ∧ own.length ≤ 10) ?_
        (fun _ kk => s_set (v_sl (v_var rfl) (o_some v_c) o_none (fun Q q => ⟨rest, rfl, size_of (by omega), q⟩)) (kk _ ⟨_, rfl, alr.cut _ _, Nat.le_trans (cutS_length _ _ _) rz⟩)) (fun _ kk => kk _ ⟨rest, rfl, alr, rz⟩)
      rintro σ2 ⟨own, rfl, alo, oz⟩
      refine q_set (v_cb (a_cons (v_var rfl) (a_cons (v_cb (a_cons (v_var rfl) a_nil) (fun Q q => ⟨own, rfl, size_of (by omega), q⟩)) a_nil)) (fun Q q => ⟨_, _, rfl, q⟩)) ?_
      have sp0 : 0 ≤ (if ((own.length : Nat) : Int) < place then ((own.length : Nat) : Int) else place) ∧ (if ((own.length : Nat) : Int) < place then ((own.length : Nat) : Int) else place) ≤ ((own.length : Nat) : Int) := by
        split <;> omega
      generalize (if ((own.length : Nat) : Int) < place then ((own.length : Nat) : Int) else place) = spot at sp0
      refine q_set v_c ?_
      refine q_ifTo (b_test (v_op (v_op (v_op (v_var rfl) v_c (r_fdiv (by decide) (by decide))) v_c (r_mod (by decide))) v_c (r_eq rfl)))
        (fun σ2 => ∃ step : Int, σ2 = [some (.int n), some (.int 4), some (.str alph), some (.int sz), some (.str rest), some (.int (i : Int)), some (.int place), some (.ref l), some (.str own), some (.int spot), some (.int step)] ∧ 0 ≤ step ∧ step ≤ 31) ?_
        (fun _ kk => s_set v_c (kk _ ⟨31, rfl, by decide, by decide⟩)) (fun _ kk => kk _ ⟨5, rfl, by decide, by decide⟩)
      rintro σ3 ⟨step, rfl, st0, st1⟩
      have hf := alph_first ((n + 3 * (i : Int)) % 26) (Int.emod_nonneg _ (by decide)) (Int.emod_lt_of_pos _ (by decide))
      obtain ⟨d, hd, md⟩ := alph_at ((n + step * (i : Int)) % 36) (Int.emod_nonneg _ (by decide)) (Int.emod_lt_of_pos _ (by decide))
      have za : alph.length ≤ sizeLine := size_of (by decide +kernel)
      have cs := cutS_sum own spot sp0.1 sp0.2
      have mk := nm_made (n := n + 3 * (i : Int)) (a := cutS own none (some spot)) (b := cutS own (some spot) none) (by omega) rfl (alo.cut _ _) (alo.cut _ _) md (by
        have : own.cps.size ≤ 10 := oz
        omega)
      have len1 : ∀ e : Nat, (⟨#[e]⟩ : Str).length = 1 := fun _ => rfl
      have c1 := cutS_length own none (some spot)
      have c2 := cutS_length own (some spot) none
      refine s_app (v_var rfl) hl6 (v_op (v_op (v_op (v_op (v_var rfl) (v_op (v_cb (a_cons (v_op (v_var rfl) (v_op v_c (v_var rfl) (r_mulL ⟨by decide, by decide⟩)) r_I0) a_nil) c_int) v_c (r_mod (by decide))) (r_ixS za hf)) (v_sl (v_var rfl) o_none (o_some (v_var rfl)) (fun Q q => ⟨own, rfl, size_of (by omega), q⟩)) (r_cat ?_))
        (v_op (v_var rfl) (v_op (v_cb (a_cons (v_op (v_var rfl) (v_op (v_var rfl) (v_var rfl) (r_mulL ⟨by omega, by omega⟩)) r_I0) a_nil) c_int) v_c (r_mod (by decide))) (r_ixS za hd)) (r_cat ?_)) (v_sl (v_var rfl) (o_some (v_var rfl)) o_none (fun Q q => ⟨own, rfl, size_of (by omega), q⟩)) (r_cat ?_)) (size_lt (by rw [List.length_map]; omega)) ?_
      · rw [len1]
        omega
      · rw [PySem.Str.length_append, len1, len1]
        omega
      · rw [PySem.Str.length_append, PySem.Str.length_append, len1, len1]
        omega
      · refine ⟨_, _, _, _, ns ++ [_], rfl, Same.mut s6 hl0, by rw [upd_same, List.map_append]; rfl, by rw [List.length_append, zn]; rfl, okn.snoc mk.1 ?_⟩
        rw [zn]
        exact mk.2
    · rintro σ' H' ⟨v5, v8, v9, v10, ns, rfl, s6, hl6, zn, okn⟩
      refine s_ret (v_var rfl) (k l H' ns s6 hl6 zn (fun s hs => ?_) (nmRow_nodup okn n0 zn))
      obtain ⟨j, hj⟩ := List.getElem?_of_mem hs
      exact (okn j s hj).1
end
end Cu
end
section
set_option Elab.async false
set_option linter.all false
set_option maxRecDepth 100000
set_option maxHeartbeats 4000000
namespace Cu
open PySem PySem.Spec PyProof.Rows L2 CuM
local macro_rules | `(tactic| walk_at "hp") => `(tactic| first
  | assumption
  | exact SqT.of (by assumption)
  | exact SqL.of (by assumption)
  | (apply SqT.of; walk_at "hq")
  | (apply SqL.of; walk_at "hq")
  | walk_at "hq")
local macro_rules | `(tactic| walk_at "hq") => `(tactic| first
  | assumption
  | exact upd_same
  | (refine Same.new (by assumption) _ _ ?_; walk_at "hq")
  | (refine Same.tup (Same.new (by assumption)) ?_; walk_at "hp")
  | (refine L2.Same.seq (Same.new (by assumption)) ?_; walk_at "hp"))
local macro_rules | `(tactic| walk_at "pv") => `(tactic| first
  | with_reducible exact v_c
  | ((with_reducible apply v_var); rfl)
  | (with_reducible apply v_op) <;> walk_at "pv"
  | (with_reducible apply v_un) <;> walk_at "pv"
  | (with_reducible apply v_fld) <;> walk_at "pv"
  | (with_reducible apply v_chain) <;> walk_at "pv"
  | (with_reducible apply v_and) <;> walk_at "pv"
  | (with_reducible apply v_or) <;> walk_at "pv"
  | (with_reducible apply v_not) <;> walk_at "pv"
  | (with_reducible apply v_isN) <;> walk_at "pv"
  | (with_reducible apply v_notN) <;> walk_at "pv"
  | (with_reducible apply v_cb) <;> walk_at "pv"
  | with_reducible exact a_nil
  | (with_reducible apply a_cons) <;> walk_at "pv"
  | (with_reducible apply b_test) <;> walk_at "pv"
  | (with_reducible apply b_B) <;> walk_at "pv"
  | (with_reducible apply b_and) <;> walk_at "pv"
  | (with_reducible apply b_or) <;> walk_at "pv"
  | (with_reducible apply b_not) <;> walk_at "pv"
  | with_reducible exact r_I0
  | with_reducible exact r_U
  | ((with_reducible apply r_I); walk_at "side")
  | ((with_reducible apply r_ixT); walk_at "hp"; first | rfl | assumption)
  | ((with_reducible apply r_ixL); walk_at "hp"; first | rfl | assumption)
  | ((with_reducible apply r_eq); rfl)
  | ((with_reducible apply r_ne); rfl)
  | ((with_reducible apply r_inT); walk_at "hp"; rfl; first | rfl | assumption)
  | ((with_reducible apply r_inL); walk_at "hp"; rfl; first | rfl | assumption)
  | with_reducible exact o_none
  | (with_reducible apply o_some) <;> walk_at "pv"
  | (intro _; walk_at "pv")
  | assumption
  | rfl
  | walk_at "side")
local macro_rules | `(tactic| walk_at "side") => `(tactic| first
  | assumption
  | (show (0 : Int) < _; first | decide | omega)
  | (show (0 : Int) < _ ∧ _ < (1073741824 : Int); exact ⟨by decide, by decide⟩)
  | walk_at "hp"
  | rfl)

/-! ### the law's table, ball, walk -/
theorem num_at {ns : List Int} (ok : RowOk ns) {i : Int} (h0 : 0 ≤ i) (h1 : i < ns.length) : ∃ v, atI (ns.map V.int) i = some (.int v) ∧ 0 ≤ v ∧ v < 1009 := by
  obtain ⟨m, rfl⟩ : ∃ m : Nat, i = (m : Int) := ⟨i.toNat, by omega⟩
  have hl : m < ns.length := by omega
  refine ⟨ns[m], atI_nat (by rw [List.getElem?_map, List.getElem?_eq_getElem hl]; rfl), ok _ (List.getElem_mem hl)⟩
/-- a small table -/
structure SmTab (w h : Int) (pk : List (Int × Int)) : Prop where
  w0 : 1 ≤ w
  w1 : w ≤ 6
  h0 : 1 ≤ h
  h1 : h ≤ 6
  len : pk.length ≤ 3
  nd : pk.Nodup
  hin : ∀ c ∈ pk, InTab w h c
/-- the law's table: a tuple -/
def LTab (K : PySem.W.Frag) (H : Hp) (t : Addr) (w h : Int) (pk : List (Int × Int)) : Prop := ∃ ta, SqT K H t [.int w, .int h, .ref ta] ∧ PrT K H ta pk
theorem LTab.up {K : PySem.W.Frag} {H H' : Hp} {t : Addr} {w h : Int} {pk : List (Int × Int)} (s : TupKeep K H H') (l : LTab K H t w h pk) : LTab K H' t w h pk := let ⟨ta, h1, h2⟩ := l; ⟨ta, s _ _ h1, h2.up s⟩
def spLTable (K : PySem.W.Frag) : Sp := fun vs H Q _ => ∃ (a : Addr) (ns : List Int), vs = [.ref a, .int 0] ∧ SqL K H a (ns.map V.int) ∧ ns.length = 60 ∧ RowOk ns ∧ ∀ (t : Addr) (H' : Hp) (w h : Int) (pk : List (Int × Int)), Same H H' → LTab K H' t w h pk → SmTab w h pk → Q (.ref t) H'
def spLBall (K : PySem.W.Frag) : Sp := fun vs H Q _ => ∃ (a : Addr) (ns : List Int) (i : Int) (nm : Str) (w h : Int), vs = [.ref a, .int i, .str nm, .int w, .int h] ∧ SqL K H a (ns.map V.int) ∧ ns.length = 60 ∧ RowOk ns ∧ 0 ≤ i ∧ i ≤ 50 ∧ 1 ≤ w ∧ w ≤ 6 ∧ 1 ≤ h ∧ h ≤ 6 ∧ ∀ (q : Addr) (H' : Hp) (b : Ball), Same H H' → SqT K H' q (blV nm b) → b.Ok w h → b.m ≤ 4 → Q (.ref q) H'
def RowAt (K : PySem.W.Frag) (H : Hp) (w h : Int) (b : Ball) (v : V) (k : Nat) : Prop := ∃ t d1 d2, v = .ref t ∧ SqT K H t [.int (place w h b k).1, .int (place w h b k).2, .int d1, .int d2]
def RowsAt (K : PySem.W.Frag) (H : Hp) (w h : Int) (b : Ball) (xs : List V) : Prop := ∀ (k : Nat) (v : V), xs[k]? = some v → RowAt K H w h b v k
theorem RowsAt.up {K : PySem.W.Frag} {H H' : Hp} {w h : Int} {b : Ball} {xs : List V} (s : TupKeep K H H') (r : RowsAt K H w h b xs) : RowsAt K H' w h b xs := fun k v hv => let ⟨t, d1, d2, e, q⟩ := r k v hv; ⟨t, d1, d2, e, s _ _ q⟩
def spLWalk (K : PySem.W.Frag) : Sp := fun vs H Q _ => ∃ (w h : Int) (q : Addr) (many : Nat) (nm : Str) (b : Ball), vs = [.int w, .int h, .ref q, .int (many : Nat)] ∧ many ≤ 1000 ∧ SqT K H q (blV nm b) ∧ ∀ (p : Addr) (H' : Hp) (xs : List V), Same H H' → H' p = some (.lst xs) → xs.length = many + 1 → RowsAt K H' w h b xs → Q (.ref p) H'
/-- tuples of two made one behind the other -/
def PM (K : PySem.W.Frag) (tA : TA) (σ : L2.St) (cs : List (Int × Int)) : Prop := ∀ (H : Hp) (Q : List V → Hp → Prop), (∀ xs H', Same H H' → PrAll K H' xs cs → Q xs H') → tA σ H Q
theorem pm_nil {K : PySem.W.Frag} {σ : L2.St} : PM K tNil σ [] := fun H Q k => k [] H (Same.refl _) .nil
theorem pm_cons {K : PySem.W.Frag} {σ : L2.St} {ta tr : TA} {c : Int × Int} {cs : List (Int × Int)} (h : ∀ H, Pa ta σ H [.int c.1, .int c.2]) (hr : PM K tr σ cs) : PM K (tCons (tTup ta) tr) σ (c :: cs) := fun H Q k =>
  c_consC (c_tup (h H) (by show 2 ≤ 100000; decide) fun t ht => hr _ _ fun xs H' s prs => k _ _ ((Same.new ht).trans s) (.cons ⟨t, rfl, SqT.of (s _ _ upd_same)⟩ prs))
theorem pm_use {K : PySem.W.Frag} {tA : TA} {σ : L2.St} (cs : List (Int × Int)) {H : Hp} {Q : List V → Hp → Prop} (h : PM K tA σ cs) (k : ∀ xs H', Same H H' → PrAll K H' xs cs → Q xs H') : tA σ H Q := h H Q k
def ways : List (Int × Int) := [(1, 1), (1, -1), (-1, 1), (-1, -1), (1, 0), (-1, 0), (0, 1), (0, -1), (1, 1), (-1, 1)]
section
variable {P : Program} {w : World} {K : PySem.W.Frag} {mg : Str → Option Value} {base : Heap} {f : Addr} {fd : FuncData}
theorem sc_law_table : FnScope ["_law_numbers_here", "_law_at", "_law_width", "_law_height", "_law_pockets", "_law_k", "_law_pocket"] ["_law_numbers_here", "_law_at"] (defScope sLTable) := ⟨rfl, rfl, rfl, by decide +kernel, rfl, by decide +kernel, by decide +kernel⟩
theorem ok_lTable (F : FnP K "_law_table" "_law_table" sLTable [] f fd) (T : Tx K mg) : FnOk P w K mg base CX0 1 f fd ["_law_numbers_here", "_law_at"] (spLTable K) := by
  refine ok_of F sc_law_table (fun vs H Q E h => ?_) (fun cdv A outer s H vs Q E hr h => ?_)
  · obtain ⟨_, _, rfl, _⟩ := h
    rfl
  · obtain ⟨a, ns, rfl, ha, zn, ok, k⟩ := h
    refine ⟨_, (pss_cons (ps_set (i := 2) sc_law_table.nd rfl (Or.inl rfl) (pe_op op_add pe_int (pe_op op_mod (pe_callTy call_int1 (by rfl) T.noint (by decide +kernel) (pa_cons (pe_ix ix_list (pv 0) (pv 1) (fun _ _ => rfl)) pa_nil)) pe_int)))
  (pss_cons (ps_set (i := 3) sc_law_table.nd rfl (Or.inl rfl) (pe_op op_add pe_int (pe_op op_mod (pe_callTy call_int1 (by rfl) T.noint (by decide +kernel) (pa_cons (pe_ix ix_list (pv 0) (pe_op op_add (pv 1) pe_int) (fun _ _ => rfl)) pa_nil)) pe_int)))
  (pss_cons (ps_set (i := 4) sc_law_table.nd rfl (Or.inl rfl) (pe_lst pa_nil))
  (pss_cons (ps_for PassesOwn.never rfl (pi_range1 (by rfl) T.norange (pa_cons (pe_op op_mod (pe_callTy call_int1 (by rfl) T.noint (by decide +kernel) (pa_cons (pe_ix ix_list (pv 0) (pe_op op_add (pv 1) pe_int) (fun _ _ => rfl)) pa_nil)) pe_int) pa_nil)) (pg_name (i := 5) sc_law_table.nd rfl (Or.inl rfl))
  (pss_cons (ps_set (i := 6) sc_law_table.nd rfl (Or.inl rfl) (pe_tup (pa_cons (pe_op op_mod (pe_callTy call_int1 (by rfl) T.noint (by decide +kernel) (pa_cons (pe_ix ix_list (pv 0) (pe_op op_add (pe_op op_add (pv 1) pe_int) (pv 5)) (fun _ _ => rfl)) pa_nil)) (pe_op op_add (pv 2) pe_int)) (pa_cons (pe_op op_mod (pe_op op_fdiv (pe_callTy call_int1 (by rfl) T.noint (by decide +kernel) (pa_cons (pe_ix ix_list (pv 0) (pe_op op_add (pe_op op_add (pv 1) pe_int) (pv 5)) (fun _ _ => rfl)) pa_nil)) pe_int) (pe_op op_add (pv 3) pe_int)) pa_nil))))
  (pss_one (ps_if (pt_cmpR (op_notInD (hu65 hr)) (pv 6) (pv 4) rfl)
  (pss_one (ps_expr (pe_bm PySem.F.plainAttrs_list PySem.F.slot_list_append PySem.F.type_list_append mt_append (pv 4) (pa_cons (pv 6) pa_nil))))
  pss_nil))))
  (pss_one (ps_ret (pe_tup (pa_cons (pv 2) (pa_cons (pv 3) (pa_cons (pe_callTy call_tuple_of (by rfl) T.notuple (by decide +kernel) (pa_cons (pv 4) pa_nil)) pa_nil)))))))))), ?_⟩
    obtain ⟨x0, e0, _, _⟩ := num_at ok (i := 0) (by decide) (by omega)
    obtain ⟨x1, e1, _, _⟩ := num_at ok (i := 0 + 1) (by decide) (by omega)
    obtain ⟨x2, e2, _, _⟩ := num_at ok (i := 0 + 2) (by decide) (by omega)
    refine q_set (v_op v_c (v_op (v_cb (a_cons (v_op (v_var rfl) (v_var rfl) (r_ixL ha e0)) a_nil) c_int) v_c (r_mod (by decide))) r_I0) ?_
    refine q_set (v_op v_c (v_op (v_cb (a_cons (v_op (v_var rfl) (v_op (v_var rfl) v_c r_I0) (r_ixL ha e1)) a_nil) c_int) v_c (r_mod (by decide))) r_I0) ?_
    have w0 : 1 ≤ 1 + x0 % 6 ∧ 1 + x0 % 6 ≤ 6 := by omega
    have h0 : 1 ≤ 1 + x1 % 6 ∧ 1 + x1 % 6 ≤ 6 := by omega
    generalize 1 + x0 % 6 = w at w0
    generalize 1 + x1 % 6 = h at h0
    refine q_setLst a_nil (by show 0 ≤ 100000; decide) fun l hl => ?_
    have s0 : Same H (upd H l (.lst [])) := Same.new hl
    refine q_forR1 (n := x2 % 4) (a_cons (v_op (v_cb (a_cons (v_op (v_var rfl) (v_op (v_var rfl) v_c r_I0) (r_ixL (s0.seq ha) e2)) a_nil) c_int) v_c (r_mod (by decide))) a_nil) (by omega) (by omega)
      (fun i σ' H' => ∃ (v5 v6 : Option V) (acc : List V) (cs : List (Int × Int)), σ' = [some (.ref a), some (.int 0), some (.int w), some (.int h), some (.ref l), v5, v6] ∧ Same H H' ∧ H' l = some (.lst acc) ∧ PrAll K H' acc cs ∧ cs.Nodup ∧ (∀ c ∈ cs, InTab w h c) ∧ cs.length ≤ i)
      ⟨none, none, [], [], rfl, s0, upd_same, .nil, List.nodup_nil, (fun c hc => by cases hc), Nat.zero_le _⟩ ?_ ?_
    · rintro i σ' H' hi ⟨v5, v6, acc, cs, rfl, s1, hl1, prs, nd, hin, len⟩
      have hi4 : i < 4 := by omega
      obtain ⟨x3, e3, _, _⟩ := num_at ok (i := 0 + 3 + (i : Int)) (by omega) (by omega)
      have ha1 := s1.seq ha
      refine q_setTup (vs := [.int (x3 % (w + 1)), .int (x3 / 7 % (h + 1))]) (a_cons (v_op (v_cb (a_cons (v_op (v_var rfl) (v_op (v_op (v_var rfl) v_c r_I0) (v_var rfl) r_I0) (r_ixL ha1 e3)) a_nil) c_int) (v_op (v_var rfl) v_c r_I0) (r_mod (by omega)))
        (a_cons (v_op (v_op (v_cb (a_cons (v_op (v_var rfl) (v_op (v_op (v_var rfl) v_c r_I0) (v_var rfl) r_I0) (r_ixL ha1 e3)) a_nil) c_int) v_c (r_fdiv (by decide) (by decide))) (v_op (v_var rfl) v_c r_I0) (r_mod (by omega))) a_nil)) (by show 2 ≤ 100000; decide) fun t ht => ?_
      have e4 := Same.new (o := .tup [.int (x3 % (w + 1)), .int (x3 / 7 % (h + 1))]) ht
      have p0 : Pr K (upd H' t (.tup [.int (x3 % (w + 1)), .int (x3 / 7 % (h + 1))])) (.ref t) (x3 % (w + 1), x3 / 7 % (h + 1)) := ⟨t, rfl, SqT.of upd_same⟩
      have prs4 := prAll_up (Same.keep e4) prs
      have zl := Paired.length prs
      refine s_when (b_test (v_op (v_var rfl) (v_var rfl) (r_notInPrL p0 (SqL.of (e4 _ _ hl1)) prs4))) (fun hb => ?_) (fun _ => ?_)
      · have hn : (x3 % (w + 1), x3 / 7 % (h + 1)) ∉ cs := by simpa using hb
        refine s_app (v_var rfl) (e4 _ _ hl1) (v_var rfl) (size_lt (by omega)) ?_
        refine ⟨_, _, _, cs ++ [(x3 % (w + 1), x3 / 7 % (h + 1))], rfl, Same.mut (s1.trans e4) hl, upd_same, Paired.snoc (prAll_up (keep_mut (e4 _ _ hl1)) prs4) (p0.up (keep_mut (e4 _ _ hl1))), ?_, fun c hc => ?_, by rw [List.length_append]; show cs.length + 1 ≤ _; omega⟩
        · rw [List.nodup_append]
          refine ⟨nd, List.pairwise_singleton _ _, fun x hx y hy => ?_⟩
          rw [List.mem_singleton] at hy
          intro e
          exact hn (hy ▸ e ▸ hx)
        · rcases List.mem_append.mp hc with hc | hc
          · exact hin c hc
          · rw [List.mem_singleton] at hc
            subst hc
            have a1 := Int.emod_nonneg x3 (show w + 1 ≠ 0 by omega)
            have a2 := Int.emod_lt_of_pos x3 (show 0 < w + 1 by omega)
            have a3 := Int.emod_nonneg (x3 / 7) (show h + 1 ≠ 0 by omega)
            have a4 := Int.emod_lt_of_pos (x3 / 7) (show 0 < h + 1 by omega)
            exact ⟨a1, by show x3 % (w + 1) ≤ w; omega, a3, by show x3 / 7 % (h + 1) ≤ h; omega⟩
      · exact ⟨_, _, acc, cs, rfl, s1.trans e4, e4 _ _ hl1, prs4, nd, hin, by omega⟩
    · rintro σ' H' ⟨v5, v6, acc, cs, rfl, s1, hl1, prs, nd, hin, len⟩
      refine s_retC (c_tupU (c_consC (c_pv (v_var rfl) (c_consC (c_pv (v_var rfl) (c_consC (c_cbC (c_consC ?_))))))))
      refine c_pv (v_var rfl) ⟨l, acc, rfl, .inl ⟨SqL.of hl1, fun q hq => ?_⟩⟩
      have e5 := Same.new (o := .tup acc) hq
      refine ⟨by show 3 ≤ sizeLine; decide, fun t ht => ?_⟩
      have e6 := Same.new (o := .tup [.int w, .int h, .ref q]) ht
      exact k t _ w h cs (s1.trans (e5.trans e6)) ⟨q, SqT.of upd_same, acc, SqT.of (e6 _ _ upd_same), prAll_up (Same.keep (e5.trans e6)) prs⟩ ⟨w0.1, w0.2, h0.1, h0.2, by omega, nd, hin⟩
theorem sc_law_ball : FnScope ["_law_numbers_here", "_law_at", "_law_name", "_law_width", "_law_height", "_law_way", "_law_x", "_law_y"] ["_law_numbers_here", "_law_at", "_law_name", "_law_width", "_law_height"] (defScope sLBall) := ⟨rfl, rfl, rfl, by decide +kernel, rfl, by decide +kernel, by decide +kernel⟩
theorem ok_lBall (F : FnP K "_law_ball" "_law_ball" sLBall [] f fd) (T : Tx K mg) : FnOk P w K mg base CX0 1 f fd ["_law_numbers_here", "_law_at", "_law_name", "_law_width", "_law_height"] (spLBall K) := by
  refine ok_of F sc_law_ball (fun vs H Q E h => ?_) (fun cdv A outer s H vs Q E hr h => ?_)
  · obtain ⟨_, _, _, _, _, _, rfl, _⟩ := h
    rfl
  · obtain ⟨a, ns, i, nm, w, h, rfl, ha, zn, ok, i0, i1, w0, w1, h0, h1, k⟩ := h
    refine ⟨_, (pss_cons (ps_set (i := 5) sc_law_ball.nd rfl (Or.inl rfl) (pe_ix ix_tup (pe_tup (pa_cons (pe_tup (pa_cons pe_int (pa_cons pe_int pa_nil))) (pa_cons (pe_tup (pa_cons pe_int (pa_cons (pe_un un_neg pe_int) pa_nil))) (pa_cons (pe_tup (pa_cons (pe_un un_neg pe_int) (pa_cons pe_int pa_nil))) (pa_cons (pe_tup (pa_cons (pe_un un_neg pe_int) (pa_cons (pe_un un_neg pe_int) pa_nil))) (pa_cons (pe_tup (pa_cons pe_int (pa_cons pe_int pa_nil))) (pa_cons (pe_tup (pa_cons (pe_un un_neg pe_int) (pa_cons pe_int pa_nil))) (pa_cons (pe_tup (pa_cons pe_int (pa_cons pe_int pa_nil))) (pa_cons (pe_tup (pa_cons pe_int (pa_cons (pe_un un_neg pe_int) pa_nil))) (pa_cons (pe_tup (pa_cons pe_int (pa_cons pe_int pa_nil))) (pa_cons (pe_tup (pa_cons (pe_un un_neg pe_int) (pa_cons pe_int pa_nil))) pa_nil))))))))))) (pe_op op_mod (pe_callTy call_int1 (by rfl) T.noint (by decide +kernel) (pa_cons (pe_ix ix_list (pv 0) (pv 1) (fun _ _ => rfl)) pa_nil)) pe_int) (fun _ _ => rfl)))
  (pss_cons (ps_set (i := 6) sc_law_ball.nd rfl (Or.inl rfl) (pe_op op_mod (pe_callTy call_int1 (by rfl) T.noint (by decide +kernel) (pa_cons (pe_ix ix_list (pv 0) (pe_op op_add (pv 1) pe_int) (fun _ _ => rfl)) pa_nil)) (pe_op op_add (pv 3) pe_int)))
  (pss_cons (ps_set (i := 7) sc_law_ball.nd rfl (Or.inl rfl) (pe_op op_mod (pe_callTy call_int1 (by rfl) T.noint (by decide +kernel) (pa_cons (pe_ix ix_list (pv 0) (pe_op op_add (pv 1) pe_int) (fun _ _ => rfl)) pa_nil)) (pe_op op_add (pv 4) pe_int)))
  (pss_one (ps_ret (pe_tup (pa_cons (pv 2) (pa_cons (pv 6) (pa_cons (pv 7) (pa_cons (pe_ix ix_tup (pv 5) pe_int (fun _ _ => rfl)) (pa_cons (pe_ix ix_tup (pv 5) pe_int (fun _ _ => rfl)) (pa_cons (pe_op op_mul (pe_op op_mod (pe_callTy call_int1 (by rfl) T.noint (by decide +kernel) (pa_cons (pe_ix ix_list (pv 0) (pe_op op_add (pv 1) pe_int) (fun _ _ => rfl)) pa_nil)) pe_int) (pe_op op_mod (pe_callTy call_int1 (by rfl) T.noint (by decide +kernel) (pa_cons (pe_ix ix_list (pv 0) (pe_op op_add (pv 1) pe_int) (fun _ _ => rfl)) pa_nil)) pe_int)) pa_nil)))))))))))), ?_⟩
    obtain ⟨x0, e0, _, _⟩ := num_at ok (i := i) (by omega) (by omega)
    obtain ⟨x1, e1, _, _⟩ := num_at ok (i := i + 1) (by omega) (by omega)
    obtain ⟨x2, e2, _, _⟩ := num_at ok (i := i + 2) (by omega) (by omega)
    obtain ⟨x3, e3, _, _⟩ := num_at ok (i := i + 3) (by omega) (by omega)
    obtain ⟨x4, e4, _, _⟩ := num_at ok (i := i + 4) (by omega) (by omega)
    refine q_setC (c_fldU (c_tupU ?_))
    refine pm_use (K := K) ways ?_ fun xs H1 s1 prs => ?_
    · exact pm_cons (fun H => a_cons v_c (a_cons v_c a_nil)) (pm_cons (fun H => a_cons v_c (a_cons (v_un v_c r_U) a_nil)) (pm_cons (fun H => a_cons (v_un v_c r_U) (a_cons v_c a_nil)) (pm_cons (fun H => a_cons (v_un v_c r_U) (a_cons (v_un v_c r_U) a_nil)) (pm_cons (fun H => a_cons v_c (a_cons v_c a_nil)) (pm_cons (fun H => a_cons (v_un v_c r_U) (a_cons v_c a_nil)) (pm_cons (fun H => a_cons v_c (a_cons v_c a_nil)) (pm_cons (fun H => a_cons v_c (a_cons (v_un v_c r_U) a_nil)) (pm_cons (fun H => a_cons v_c (a_cons v_c a_nil)) (pm_cons (fun H => a_cons (v_un v_c r_U) (a_cons v_c a_nil)) pm_nil)))))))))
    have zx := Paired.length prs
    refine ⟨size_of (by rw [zx]; decide), fun tw htw => ?_⟩
    have e5 := Same.new (o := .tup xs) htw
    have s2 := s1.trans e5
    have m10 : 0 ≤ x0 % 10 ∧ x0 % 10 < 10 := by omega
    refine c_pv (v_op (v_cb (a_cons (v_op (v_var rfl) (v_var rfl) (r_ixL (s2.seq ha) e0)) a_nil) c_int) v_c (r_mod (by decide))) ?_
    generalize x0 % 10 = r at m10
    obtain ⟨m, rfl⟩ : ∃ m : Nat, r = (m : Int) := ⟨r.toNat, by omega⟩
    have hm : m < ways.length := by
      show m < 10
      omega
    obtain ⟨v, hv, g, rfl, hg⟩ := prd_getR prs (List.getElem?_eq_getElem hm)
    have hway : ∀ n : Fin 10, CuM.Step (ways[(n : Nat)]'n.2).1 ∧ CuM.Step (ways[(n : Nat)]'n.2).2 ∧ ¬ ((ways[(n : Nat)]'n.2).1 = 0 ∧ (ways[(n : Nat)]'n.2).2 = 0) := by
      unfold CuM.Step
      decide +kernel
    have hwm := hway ⟨m, hm⟩
    simp only at hwm
    generalize ways[m] = c at hg hwm
    refine r_ixT (K := K) (SqT.of upd_same) (atI_nat hv) _ ?_
    have hg2 := Same.tup e5 hg
    refine q_set (v_op (v_cb (a_cons (v_op (v_var rfl) (v_op (v_var rfl) v_c r_I0) (r_ixL (s2.seq ha) e1)) a_nil) c_int) (v_op (v_var rfl) v_c r_I0) (r_mod (by omega))) ?_
    refine q_set (v_op (v_cb (a_cons (v_op (v_var rfl) (v_op (v_var rfl) v_c r_I0) (r_ixL (s2.seq ha) e2)) a_nil) c_int) (v_op (v_var rfl) v_c r_I0) (r_mod (by omega))) ?_
    have a1 := Int.emod_nonneg x1 (show w + 1 ≠ 0 by omega)
    have a2 := Int.emod_lt_of_pos x1 (show 0 < w + 1 by omega)
    have a3 := Int.emod_nonneg x2 (show h + 1 ≠ 0 by omega)
    have a4 := Int.emod_lt_of_pos x2 (show 0 < h + 1 by omega)
    have a5 : x4 % 2 = 0 ∨ x4 % 2 = 1 := by omega
    have a6 : 0 ≤ x3 % 5 ∧ x3 % 5 < 5 := by omega
    have a7 : 0 ≤ x3 % 5 * (x4 % 2) ∧ x3 % 5 * (x4 % 2) ≤ 4 := by
      rcases a5 with a5 | a5 <;> rw [a5] <;> omega
    refine s_retTup (vs := blV nm ⟨x1 % (w + 1), x2 % (h + 1), c.1, c.2, x3 % 5 * (x4 % 2)⟩) (a_cons (v_var rfl) (a_cons (v_var rfl) (a_cons (v_var rfl) (a_cons (v_op (v_var rfl) v_c (r_ixT hg2 rfl)) (a_cons (v_op (v_var rfl) v_c (r_ixT hg2 rfl)) (a_cons (v_op (v_op (v_cb (a_cons (v_op (v_var rfl) (v_op (v_var rfl) v_c r_I0) (r_ixL (s2.seq ha) e3)) a_nil) c_int) v_c (r_mod (by decide))) (v_op (v_cb (a_cons (v_op (v_var rfl) (v_op (v_var rfl) v_c r_I0) (r_ixL (s2.seq ha) e4)) a_nil) c_int) v_c (r_mod (by decide))) (r_mulL ⟨by omega, by omega⟩)) a_nil)))))) (by show 6 ≤ 100000; decide) fun t ht => ?_
    exact k t _ _ (s2.trans (Same.new ht)) (SqT.of upd_same) ⟨a1, by show x1 % (w + 1) ≤ w; omega, a3, by show x2 % (h + 1) ≤ h; omega, hwm.1, hwm.2.1, hwm.2.2, a7.1⟩ a7.2
theorem sc_law_walk : FnScope ["_law_width", "_law_height", "_law_ball_here", "_law_many", "_law_name", "_law_x", "_law_y", "_law_dx", "_law_dy", "_law_minute", "_law_rows", "_law_turn"] ["_law_width", "_law_height", "_law_ball_here", "_law_many"] (defScope sLWalk) := ⟨rfl, rfl, rfl, by decide +kernel, rfl, by decide +kernel, by decide +kernel⟩
theorem ok_lWalk (F : FnP K "_law_walk" "_law_walk" sLWalk [] f fd) (T : Tx K mg) : FnOk P w K mg base CX0 1 f fd ["_law_width", "_law_height", "_law_ball_here", "_law_many"] (spLWalk K) := by
  refine ok_of F sc_law_walk (fun vs H Q E h => ?_) (fun cdv A outer s H vs Q E hr h => ?_)
  · obtain ⟨_, _, _, _, _, _, rfl, _⟩ := h
    rfl
  · obtain ⟨w, h, q, many, nm, b, rfl, hm, hq, k⟩ := h
    refine ⟨_, (pss_cons (ps_asg (pv 2) (pg_tup rfl (pgs_cons (pg_name (i := 4) sc_law_walk.nd rfl (Or.inl rfl)) (pgs_cons (pg_name (i := 5) sc_law_walk.nd rfl (Or.inl rfl)) (pgs_cons (pg_name (i := 6) sc_law_walk.nd rfl (Or.inl rfl)) (pgs_cons (pg_name (i := 7) sc_law_walk.nd rfl (Or.inl rfl)) (pgs_cons (pg_name (i := 8) sc_law_walk.nd rfl (Or.inl rfl)) (pgs_cons (pg_name (i := 9) sc_law_walk.nd rfl (Or.inl rfl)) pgs_nil))))))))
  (pss_cons (ps_set (i := 10) sc_law_walk.nd rfl (Or.inl rfl) (pe_lst pa_nil))
  (pss_cons (ps_for PassesOwn.never rfl (pi_range1 (by rfl) T.norange (pa_cons (pe_op op_add (pv 3) pe_int) pa_nil)) (pg_name (i := 11) sc_law_walk.nd rfl (Or.inl rfl))
  (pss_cons (ps_if (PW.pt (pw_or (pt_cmpR op_lt (pe_op op_add (pv 5) (pv 7)) pe_int (nomark _)) (pw_or1 (pt_cmpR op_gt (pe_op op_add (pv 5) (pv 7)) (pv 0) (nomark _)))))
  (pss_one (ps_set (i := 7) sc_law_walk.nd rfl (Or.inl rfl) (pe_un un_neg (pv 7))))
  pss_nil)
  (pss_cons (ps_if (PW.pt (pw_or (pt_cmpR op_lt (pe_op op_add (pv 6) (pv 8)) pe_int (nomark _)) (pw_or1 (pt_cmpR op_gt (pe_op op_add (pv 6) (pv 8)) (pv 1) (nomark _)))))
  (pss_one (ps_set (i := 8) sc_law_walk.nd rfl (Or.inl rfl) (pe_un un_neg (pv 8))))
  pss_nil)
  (pss_cons (ps_expr (pe_bm PySem.F.plainAttrs_list PySem.F.slot_list_append PySem.F.type_list_append mt_append (pv 10) (pa_cons (pe_tup (pa_cons (pv 5) (pa_cons (pv 6) (pa_cons (pv 7) (pa_cons (pv 8) pa_nil))))) pa_nil)))
  (pss_cons (ps_set (i := 5) sc_law_walk.nd rfl (Or.inl rfl) (pe_op op_add (pv 5) (pv 7)))
  (pss_one (ps_set (i := 6) sc_law_walk.nd rfl (Or.inl rfl) (pe_op op_add (pv 6) (pv 8)))))))))
  (pss_one (ps_ret (pv 10)))))), ?_⟩
    refine q_unp (v_var rfl) hq rfl ?_
    refine ⟨_, _, rfl, _, _, rfl, _, _, rfl, _, _, rfl, _, _, rfl, _, _, rfl, rfl, ?_⟩
    refine q_setLst a_nil (by show 0 ≤ 100000; decide) fun l hl => ?_
    have s0 : Same H (upd H l (.lst [])) := Same.new hl
    refine q_forR1 (n := (many : Int) + 1) (a_cons (v_op (v_var rfl) v_c r_I0) a_nil) (by omega) (by omega)
      (fun i σ' H' => ∃ (v11 : Option V) (xs : List V), σ' = [some (.int w), some (.int h), some (.ref q), some (.int (many : Nat)), some (.str nm), some (.int (wk w i (b.x, b.dx)).1), some (.int (wk h i (b.y, b.dy)).1), some (.int (wk w i (b.x, b.dx)).2), some (.int (wk h i (b.y, b.dy)).2), some (.int b.m), some (.ref l), v11] ∧ Same H H' ∧ H' l = some (.lst xs) ∧ xs.length = i ∧ RowsAt K H' w h b xs)
      ⟨none, [], rfl, s0, upd_same, rfl, fun k v hv => by cases hv⟩ ?_ ?_
    · rintro i σ' H' hi ⟨v11, xs, rfl, s1, hl1, zx, rows⟩
      have pl : place w h b i = ((wk w i (b.x, b.dx)).1, (wk h i (b.y, b.dy)).1) := rfl
      have t1 : wk w (i + 1) (b.x, b.dx) = tn w (wk w i (b.x, b.dx)) := rfl
      have t2 : wk h (i + 1) (b.y, b.dy) = tn h (wk h i (b.y, b.dy)) := rfl
      generalize wk w (i + 1) (b.x, b.dx) = p1 at t1
      generalize wk h (i + 1) (b.y, b.dy) = p2 at t2
      generalize wk w i (b.x, b.dx) = c1 at t1 pl
      generalize wk h i (b.y, b.dy) = c2 at t2 pl
      refine q_ifTo (b_or (b_test (v_op (v_op (v_var rfl) (v_var rfl) r_I0) v_c r_I0)) fun _ => b_test (v_op (v_op (v_var rfl) (v_var rfl) r_I0) (v_var rfl) r_I0))
        (fun σ2 => σ2 = [some (.int w), some (.int h), some (.ref q), some (.int (many : Nat)), some (.str nm), some (.int c1.1), some (.int c2.1), some (.int p1.2), some (.int c2.2), some (.int b.m), some (.ref l), some (.int (i : Int))] ∧ p1.1 = c1.1 + p1.2) ?_ (fun hb kk => ?_) (fun hb kk => ?_)
      · rintro σ2 ⟨rfl, ep1⟩
        refine q_ifTo (b_or (b_test (v_op (v_op (v_var rfl) (v_var rfl) r_I0) v_c r_I0)) fun _ => b_test (v_op (v_op (v_var rfl) (v_var rfl) r_I0) (v_var rfl) r_I0))
          (fun σ2 => σ2 = [some (.int w), some (.int h), some (.ref q), some (.int (many : Nat)), some (.str nm), some (.int c1.1), some (.int c2.1), some (.int p1.2), some (.int p2.2), some (.int b.m), some (.ref l), some (.int (i : Int))] ∧ p2.1 = c2.1 + p2.2) ?_ (fun hb kk => ?_) (fun hb kk => ?_)
        · rintro σ3 ⟨rfl, ep2⟩
          refine q_appTup (vs := [.int c1.1, .int c2.1, .int p1.2, .int p2.2]) (v_var rfl) (a_cons (v_var rfl) (a_cons (v_var rfl) (a_cons (v_var rfl) (a_cons (v_var rfl) a_nil)))) (by show 4 ≤ 100000; decide) hl1 (by omega) fun t ht => ?_
          have e4 := Same.new (o := .tup [.int c1.1, .int c2.1, .int p1.2, .int p2.2]) ht
          refine q_set (v_op (v_var rfl) (v_var rfl) r_I0) ?_
          refine s_set (v_op (v_var rfl) (v_var rfl) r_I0) ?_
          rw [← ep1, ← ep2]
          refine ⟨_, xs ++ [.ref t], rfl, Same.mut (s1.trans e4) hl, upd_same, by rw [List.length_append, zx]; rfl, fun n v hv => ?_⟩
          have kp := keep_mut (K := K) (o := .lst (xs ++ [.ref t])) (e4 _ _ hl1)
          by_cases hn : n < xs.length
          · rw [List.getElem?_append_left hn] at hv
            obtain ⟨t9, d1, d2, e9, q9⟩ := rows n v hv
            exact ⟨t9, d1, d2, e9, kp _ _ (Same.tup e4 q9)⟩
          · rw [List.getElem?_append_right (by omega)] at hv
            have hn0 : n - xs.length = 0 := by
              by_cases z : n - xs.length = 0
              · exact z
              · rw [List.getElem?_eq_none (by show 1 ≤ n - xs.length; omega)] at hv
                cases hv
            rw [hn0] at hv
            cases hv
            have en : n = i := by omega
            subst en
            refine ⟨t, p1.2, p2.2, rfl, kp _ _ ?_⟩
            rw [pl]
            exact SqT.of upd_same
        · have hc : c2.1 + c2.2 < 0 ∨ c2.1 + c2.2 > h := by simpa using hb
          unfold tn at t2
          rw [if_pos hc] at t2
          subst t2
          exact s_set (v_un (v_var rfl) r_U) (kk _ ⟨rfl, rfl⟩)
        · have hc : ¬ (c2.1 + c2.2 < 0 ∨ c2.1 + c2.2 > h) := by
            rw [not_or]
            simpa using hb
          unfold tn at t2
          rw [if_neg hc] at t2
          subst t2
          exact kk _ ⟨rfl, rfl⟩
      · have hc : c1.1 + c1.2 < 0 ∨ c1.1 + c1.2 > w := by simpa using hb
        unfold tn at t1
        rw [if_pos hc] at t1
        subst t1
        exact s_set (v_un (v_var rfl) r_U) (kk _ ⟨rfl, rfl⟩)
      · have hc : ¬ (c1.1 + c1.2 < 0 ∨ c1.1 + c1.2 > w) := by
          rw [not_or]
          simpa using hb
        unfold tn at t1
        rw [if_neg hc] at t1
        subst t1
        exact kk _ ⟨rfl, rfl⟩
    · rintro σ' H' ⟨v11, xs, rfl, s1, hl1, zx, rows⟩
      exact s_ret (v_var rfl) (k l H' xs s1 hl1 (by omega) rows)
end
end Cu
end
section
set_option Elab.async false
set_option linter.all false
set_option maxRecDepth 100000
set_option maxHeartbeats 4000000
namespace Cu
open PySem PySem.Spec PyProof.Rows L2 CuM
local macro_rules | `(tactic| walk_at "hp") => `(tactic| first
  | assumption
  | exact SqT.of (by assumption)
  | exact SqL.of (by assumption)
  | (apply SqT.of; walk_at "hq")
  | (apply SqL.of; walk_at "hq")
  | walk_at "hq")
local macro_rules | `(tactic| walk_at "hq") => `(tactic| first
  | assumption
  | exact upd_same
  | (refine Same.new (by assumption) _ _ ?_; walk_at "hq")
  | (refine Same.tup (Same.new (by assumption)) ?_; walk_at "hp")
  | (refine L2.Same.seq (Same.new (by assumption)) ?_; walk_at "hp"))
local macro_rules | `(tactic| walk_at "pv") => `(tactic| first
  | with_reducible exact v_c
  | ((with_reducible apply v_var); rfl)
  | (with_reducible apply v_op) <;> walk_at "pv"
  | (with_reducible apply v_un) <;> walk_at "pv"
  | (with_reducible apply v_fld) <;> walk_at "pv"
  | (with_reducible apply v_chain) <;> walk_at "pv"
  | (with_reducible apply v_and) <;> walk_at "pv"
  | (with_reducible apply v_or) <;> walk_at "pv"
  | (with_reducible apply v_not) <;> walk_at "pv"
  | (with_reducible apply v_isN) <;> walk_at "pv"
  | (with_reducible apply v_notN) <;> walk_at "pv"
  | (with_reducible apply v_cb) <;> walk_at "pv"
  | with_reducible exact a_nil
  | (with_reducible apply a_cons) <;> walk_at "pv"
  | (with_reducible apply b_test) <;> walk_at "pv"
  | (with_reducible apply b_B) <;> walk_at "pv"
  | (with_reducible apply b_and) <;> walk_at "pv"
  | (with_reducible apply b_or) <;> walk_at "pv"
  | (with_reducible apply b_not) <;> walk_at "pv"
  | with_reducible exact r_I0
  | with_reducible exact r_U
  | ((with_reducible apply r_I); walk_at "side")
  | ((with_reducible apply r_ixT); walk_at "hp"; first | rfl | assumption)
  | ((with_reducible apply r_ixL); walk_at "hp"; first | rfl | assumption)
  | ((with_reducible apply r_eq); rfl)
  | ((with_reducible apply r_ne); rfl)
  | ((with_reducible apply r_inT); walk_at "hp"; rfl; first | rfl | assumption)
  | ((with_reducible apply r_inL); walk_at "hp"; rfl; first | rfl | assumption)
  | with_reducible exact o_none
  | (with_reducible apply o_some) <;> walk_at "pv"
  | (intro _; walk_at "pv")
  | assumption
  | rfl
  | walk_at "side")
local macro_rules | `(tactic| walk_at "side") => `(tactic| first
  | assumption
  | (show (0 : Int) < _; first | decide | omega)
  | (show (0 : Int) < _ ∧ _ < (1073741824 : Int); exact ⟨by decide, by decide⟩)
  | walk_at "hp"
  | rfl)

/-! ### the law's falls, balls, meetings -/
def spLFall (K : PySem.W.Frag) : Sp := fun vs H Q _ => ∃ (t q : Addr) (w h : Int) (pk : List (Int × Int)) (nm : Str) (b : Ball), vs = [.ref t, .ref q] ∧ LTab K H t w h pk ∧ SmTab w h pk ∧ SqT K H q (blV nm b) ∧ 0 ≤ b.m ∧ b.m ≤ 4 ∧ ∀ (H' : Hp) (o : Option Int), Same H H' → WFall w h pk b o → (∀ t, o = some t → 0 ≤ t ∧ t ≤ 1000) → Q (ov o) H'
def spLBalls (K : PySem.W.Frag) : Sp := fun vs H Q _ => ∃ (a t : Addr) (ns : List Int) (many : Nat) (w h : Int) (pk : List (Int × Int)), vs = [.ref a, .int 10, .int (many : Nat), .ref t] ∧ SqL K H a (ns.map V.int) ∧ ns.length = 60 ∧ RowOk ns ∧ many ≤ 3 ∧ LTab K H t w h pk ∧ SmTab w h pk ∧
  ∀ (p : Addr) (H' : Hp) (xs : List V) (bs : List (Str × Ball)), Same H H' → H' p = some (.lst xs) → BlAll K H' xs bs → bs.length = many → (∀ nb ∈ bs, Nm nb.1 ∧ nb.2.Ok w h ∧ nb.2.m ≤ 4) → (bs.map Prod.fst).Nodup → Q (.ref p) H'
def spLMeets (K : PySem.W.Frag) : Sp := fun vs H Q _ => ∃ (t q1 q2 : Addr) (w h : Int) (pk : List (Int × Int)) (n1 n2 : Str) (b c : Ball), vs = [.ref t, .ref q1, .ref q2] ∧ LTab K H t w h pk ∧ SmTab w h pk ∧ SqT K H q1 (blV n1 b) ∧ SqT K H q2 (blV n2 c) ∧ b.Ok w h ∧ c.Ok w h ∧ b.m ≤ 4 ∧ c.m ≤ 4 ∧
  ∀ (p : Addr) (H' : Hp) (ms : List Int) (o1 o2 : Option Int), Same H H' → H' p = some (.lst (ms.map V.int)) → WFall w h pk b o1 → WFall w h pk c o2 → WMeets w h b c (lastOf (8 * w * h + 6) o1 o2) ms → ms.length ≤ 1000 → Q (.ref p) H'
def lw (last : Int) : Option Int → Int
  | none => last
  | some t => if t < last then t else last
theorem lw_lw (most : Int) (o q : Option Int) : lw (lw most o) q = lastOf most o q := by
  unfold lastOf
  cases o with
  | none => cases q <;> rfl
  | some x => cases q with
    | none => rfl
    | some y =>
      show (if y < (if x < most then x else most) then y else (if x < most then x else most)) = (if (if y < x then y else x) < most then (if y < x then y else x) else most)
      repeat' split
      all_goals omega
theorem small_mul {w h : Int} (w0 : 1 ≤ w) (w1 : w ≤ 6) (h0 : 1 ≤ h) (h1 : h ≤ 6) : 1 ≤ w * h ∧ w * h ≤ 36 := by
  have a := Int.mul_le_mul w1 h1 (by omega) (by omega)
  have b := Int.mul_le_mul w0 h0 (by omega) (by omega)
  omega
theorem wfall_ge {w h : Int} {pk : List (Int × Int)} {b : Ball} {t : Int} (k : WFall w h pk b (some t)) (m0 : 0 ≤ b.m) : 0 ≤ t := by
  obtain ⟨n, e, _⟩ := k
  omega
section
variable {P : Program} {w : World} {K : PySem.W.Frag} {mg : Str → Option Value} {base : Heap} {f : Addr} {fd : FuncData}
theorem sc_law_fall : FnScope ["_law_table_here", "_law_ball_here", "_law_rows", "_law_k"] ["_law_table_here", "_law_ball_here"] (defScope sLFall) := ⟨rfl, rfl, rfl, by decide +kernel, rfl, by decide +kernel, by decide +kernel⟩
theorem ok_lFall (F : FnP K "_law_fall" "_law_fall" sLFall [] f fd) (T : Tx K mg) (G_law_walk : Df P w K mg base 1 "_law_walk" ["_law_width", "_law_height", "_law_ball_here", "_law_many"] (spLWalk K)) : FnOk P w K mg base CX0 2 f fd ["_law_table_here", "_law_ball_here"] (spLFall K) := by
  refine ok_of F sc_law_fall (fun vs H Q E h => ?_) (fun cdv A outer s H vs Q E hr h => ?_)
  · obtain ⟨_, _, _, _, _, _, _, rfl, _⟩ := h
    rfl
  · obtain ⟨t, q, w, h, pk, nm, b, rfl, ⟨ta, ht, xs, hta, prs⟩, sm, hq, m0, m4, k⟩ := h
    refine ⟨_, (pss_cons (ps_set (i := 2) sc_law_fall.nd rfl (Or.inl rfl) (pe_df G_law_walk hr (pa_cons (pe_ix ix_tup (pv 0) pe_int (fun _ _ => rfl)) (pa_cons (pe_ix ix_tup (pv 0) pe_int (fun _ _ => rfl)) (pa_cons (pv 1) (pa_cons (pe_op op_mul (pe_op op_mul pe_int (pe_ix ix_tup (pv 0) pe_int (fun _ _ => rfl))) (pe_ix ix_tup (pv 0) pe_int (fun _ _ => rfl))) pa_nil))))))
  (pss_cons (ps_for PassesOwn.never rfl (pi_range1 (by rfl) T.norange (pa_cons (pe_callB call_len_seq (by rfl) T.nolen PySem.boot_len (pa_cons (pv 2) pa_nil)) pa_nil)) (pg_name (i := 3) sc_law_fall.nd rfl (Or.inl rfl))
  (pss_one (ps_if (pt_cmpR (op_inT (hu65 hr)) (pe_tup (pa_cons (pe_ix ix_tup (pe_ix ix_list (pv 2) (pv 3) (fun _ _ => rfl)) pe_int (fun _ _ => rfl)) (pa_cons (pe_ix ix_tup (pe_ix ix_list (pv 2) (pv 3) (fun _ _ => rfl)) pe_int (fun _ _ => rfl)) pa_nil))) (pe_ix ix_tup (pv 0) pe_int (fun _ _ => rfl)) rfl)
  (pss_one (ps_ret (pe_op op_add (pe_ix ix_tup (pv 1) pe_int (fun _ _ => rfl)) (pv 3))))
  pss_nil)))
  (pss_one (ps_ret pe_non)))), ?_⟩
    have mm := small_mul sm.w0 sm.w1 sm.h0 sm.h1
    have e4 : 4 * w * h = 4 * (w * h) := Int.mul_assoc _ _ _
    obtain ⟨many, em⟩ : ∃ many : Nat, 4 * w * h = (many : Int) := ⟨(4 * w * h).toNat, by omega⟩
    have w1 := sm.w1
    have h0 := sm.h0
    have h1 := sm.h1
    refine q_call (a_cons (v_op (v_var rfl) v_c (r_ixT ht rfl)) (a_cons (v_op (v_var rfl) v_c (r_ixT ht rfl)) (a_cons (v_var rfl) (a_cons (v_is (v_op (v_op v_c (v_op (v_var rfl) v_c (r_ixT ht rfl)) (r_mulL ⟨by decide, by decide⟩)) (v_op (v_var rfl) v_c (r_ixT ht rfl)) (r_mulR ⟨by omega, by omega⟩)) (congrArg V.int em)) a_nil)))) ⟨w, h, q, many, nm, b, rfl, by omega, hq, fun p H1 ys s1 hp zy rows => ?_⟩
    have ht1 := Same.tup s1 ht
    have hta1 := Same.tup s1 hta
    have prs1 := prAll_up (Same.keep s1) prs
    have hq1 := Same.tup s1 hq
    refine q_forR1 (n := (many : Int) + 1) (a_cons (v_is (v_cb (a_cons (v_var rfl) a_nil) (c_len (.inl (SqL.of hp)))) (congrArg V.int (by rw [zy]; rfl))) a_nil) (by omega) (by omega)
      (fun i σ' H' => ∃ v3 : Option V, σ' = [some (.ref t), some (.ref q), some (.ref p), v3] ∧ Same H1 H' ∧ ∀ j : Nat, j < i → place w h b j ∉ pk) ⟨none, rfl, Same.refl _, fun j hj => by omega⟩ ?_ ?_
    · rintro i σ' H' hi ⟨v3, rfl, s2, hno⟩
      have hil : i < ys.length := by omega
      obtain ⟨g, d1, d2, eg, hg⟩ := rows i ys[i] (List.getElem?_eq_getElem hil)
      have hy : ys[i]? = some (.ref g) := by rw [List.getElem?_eq_getElem hil, eg]
      have hg2 := Same.tup s2 hg
      have hp2 : SqL K H' p ys := SqL.of (s2 _ _ hp)
      have rowV : ∀ σ2 : L2.St, σ2[2]? = some (some (.ref p)) → σ2[3]? = some (some (.int (i : Int))) → Pv (tOp (rIxL K) (tVar 2) (tVar 3)) σ2 H' (.ref g) := fun σ2 a1 a2 => v_op (v_var a1) (v_var a2) (r_ixL hp2 (atI_nat hy))
      refine s_ifU (c_fldU ?_)
      refine c_tup (vs := [.int (place w h b i).1, .int (place w h b i).2]) (a_cons (v_op (rowV _ rfl rfl) v_c (r_ixT hg2 rfl)) (a_cons (v_op (rowV _ rfl rfl) v_c (r_ixT hg2 rfl)) a_nil)) (by show 2 ≤ 100000; decide) fun u hu => ?_
      have e5 := Same.new (o := .tup [.int (place w h b i).1, .int (place w h b i).2]) hu
      have s3 := s2.trans e5
      refine c_pv (v_op (v_var rfl) v_c (r_ixT (Same.tup s3 ht1) rfl)) ?_
      refine r_inPrT (K := K) (c := place w h b i) ⟨u, rfl, SqT.of upd_same⟩ (Same.tup s3 hta1) (prAll_up (Same.keep s3) prs1) _ ⟨_, rfl, ?_⟩
      by_cases hin : place w h b i ∈ pk
      · rw [decide_eq_true hin]
        refine iteT ?_
        refine s_ret (v_op (v_op (v_var rfl) v_c (r_ixT (Same.tup s3 hq1) rfl)) (v_var rfl) r_I0) ?_
        exact k _ (some (b.m + (i : Int))) (s1.trans s3) ⟨i, rfl, hin, hno⟩ (fun t e => by cases e; omega)
      · rw [decide_eq_false hin]
        refine iteF ⟨_, rfl, s3, fun j hj => ?_⟩
        by_cases hji : j = i
        · exact hji ▸ hin
        · exact hno j (by omega)
    · rintro σ' H' ⟨v3, rfl, s2, hno⟩
      refine s_ret v_c (k H' none (s1.trans s2) (fun j hj => hno j ?_) (fun t e => by cases e))
      omega
theorem sc_law_balls : FnScope ["_law_numbers_here", "_law_at", "_law_many", "_law_table_here", "_law_names_here", "_law_k"] ["_law_numbers_here", "_law_at", "_law_many", "_law_table_here"] (defScope sLBalls) := ⟨rfl, rfl, rfl, by decide +kernel, rfl, by decide +kernel, by decide +kernel⟩
theorem ok_lBalls (F : FnP K "_law_balls" "_law_balls" sLBalls [] f fd) (T : Tx K mg) (G_law_names : Df P w K mg base 1 "_law_names" ["_law_number", "_law_many"] (spLNames K)) (G_law_ball : Df P w K mg base 1 "_law_ball" ["_law_numbers_here", "_law_at", "_law_name", "_law_width", "_law_height"] (spLBall K)) :
    FnOk P w K mg base CX0 2 f fd ["_law_numbers_here", "_law_at", "_law_many", "_law_table_here"] (spLBalls K) := by
  refine ok_of F sc_law_balls (fun vs H Q E h => ?_) (fun cdv A outer s H vs Q E hr h => ?_)
  · obtain ⟨_, _, _, _, _, _, _, rfl, _⟩ := h
    rfl
  · obtain ⟨a, t, ns, many, w, h, pk, rfl, ha, zn, ok, hm, lt, sm, k⟩ := h
    refine ⟨_, (pss_cons (ps_set (i := 4) sc_law_balls.nd rfl (Or.inr rfl) (pe_df G_law_names hr (pa_cons (pe_ix ix_list (pv 0) (pv 1) (fun _ _ => rfl)) (pa_cons pe_int pa_nil))))
  (pss_one (ps_ret (pe_lc (own := [("_law_k", 5)]) rfl sc_law_balls.nd (pi_range1 (by rfl) T.norange (pa_cons (pv 2) pa_nil)) (blkOk_by (own := [("_law_k", 5)]) (N := ["_law_numbers_here", "_law_at", "_law_many", "_law_table_here", "_law_names_here", "_law_k"]) (sc := defScope sLBalls) (by decide +kernel)) (fun _ _ _ _ _ => (pg_name (i := 5) sc_law_balls.nd rfl (Or.inl rfl))) (fun _ _ _ _ _ => pts_nil) (fun _ _ _ _ _ => (pe_df G_law_ball hr (pa_cons (pv 0) (pa_cons (pe_op op_add (pe_op op_add (pv 1) pe_int) (pe_op op_mul pe_int (pv 5))) (pa_cons (pe_ix (show IxR _ (rIxL K) from ix_list) (pv 4) (pv 5) (fun _ _ => rfl)) (pa_cons (pe_ix (show IxR _ (rIxT K) from ix_tup) (pv 3) pe_int (fun _ _ => rfl)) (pa_cons (pe_ix (show IxR _ (rIxT K) from ix_tup) (pv 3) pe_int (fun _ _ => rfl)) pa_nil))))))))))), ?_⟩
    obtain ⟨x0, e0, x00, x01⟩ := num_at ok (i := 10) (by decide) (by omega)
    obtain ⟨ta, ht, _⟩ := id lt
    refine q_call (a_cons (v_op (v_var rfl) (v_var rfl) (r_ixL ha e0)) (a_cons v_c a_nil)) ⟨x0, rfl, x00, x01, fun p H1 nms s1 hp zm oknm ndn => ?_⟩
    refine s_retC (c_lcR (K := K) (n := (many : Int)) (a_cons (v_var rfl) a_nil) (by omega) (by omega) (fun i acc A => ∃ bs : List (Str × Ball), BlAll K A acc bs ∧ bs.length = i ∧ bs.map Prod.fst = nms.take i ∧ ∀ nb ∈ bs, Nm nb.1 ∧ nb.2.Ok w h ∧ nb.2.m ≤ 4)
      (fun i acc A B tk ⟨bs, h1, h2⟩ => ⟨bs, blAll_up tk h1, h2⟩) ⟨[], .nil, rfl, rfl, fun nb hb => by cases hb⟩ ?_ ?_)
    · rintro i acc H2 Dl Qk hi hD s4 hacc hl2 ⟨bs, pb, zb, nb1, okb⟩ kq
      have hil : i < nms.length := by omega
      have hnm : nms[i]? = some nms[i] := List.getElem?_eq_getElem hil
      have hnm2 : (nms.map V.str)[i]? = some (.str nms[i]) := by
        rw [List.getElem?_map, hnm]
        rfl
      have hNm := oknm _ (List.getElem_mem hil)
      generalize nms[i] = nm at hnm hnm2 hNm
      have s14 := s1.trans s4
      have ht4 := Same.tup s14 ht
      refine ⟨rfl, ?_⟩
      refine c_callP (a_cons (v_var rfl) (a_cons (v_op (v_op (v_var rfl) v_c r_I0) (v_op v_c (v_var rfl) (r_mulL ⟨by decide, by decide⟩)) r_I0) (a_cons (v_op (v_var rfl) (v_var rfl) (r_ixL (SqL.of (s4 _ _ hp)) (atI_nat hnm2))) (a_cons (v_op (v_var rfl) v_c (r_ixT ht4 rfl)) (a_cons (v_op (v_var rfl) v_c (r_ixT ht4 rfl)) a_nil))))) ⟨a, ns, 10 + 1 + 5 * (i : Int), nm, w, h, rfl, s14.seq ha, zn, ok, by omega, by omega, sm.w0, sm.w1, sm.h0, sm.h1, fun q H5 b s5 hq okq mq => ?_⟩
      refine kq _ _ (s4.trans s5) (s5 _ _ hacc) ⟨bs ++ [(nm, b)], Paired.snoc (blAll_up (Same.keep s5) pb) ⟨q, rfl, hq⟩, by rw [List.length_append, zb]; rfl, by rw [List.map_append, nb1, take_snoc hnm]; rfl, fun nb hb => ?_⟩
      rcases List.mem_append.mp hb with hb | hb
      · exact okb nb hb
      · rw [List.mem_singleton] at hb
        subst hb
        exact ⟨hNm, okq, mq⟩
    · rintro Dl acc H2 hD s4 hacc hl2 ⟨bs, pb, zb, nb1, okb⟩
      refine k Dl H2 acc bs (s1.trans s4) hacc pb (by omega) okb ?_
      rw [nb1]
      exact List.Pairwise.sublist (List.take_sublist _ _) ndn
theorem sc_law_meets : FnScope ["_law_table_here", "_law_one", "_law_other", "_law_found", "_law_most", "_law_first", "_law_second", "_law_last", "_law_ball_here", "_law_fall_here", "_law_minute", "_law_here", "_law_there"] ["_law_table_here", "_law_one", "_law_other"] (defScope sLMeets) := ⟨rfl, rfl, rfl, by decide +kernel, rfl, by decide +kernel, by decide +kernel⟩
theorem ok_lMeets (F : FnP K "_law_meets" "_law_meets" sLMeets [] f fd) (T : Tx K mg) (G_law_walk : Df P w K mg base 1 "_law_walk" ["_law_width", "_law_height", "_law_ball_here", "_law_many"] (spLWalk K)) (G_law_fall : Df P w K mg base 2 "_law_fall" ["_law_table_here", "_law_ball_here"] (spLFall K)) :
    FnOk P w K mg base CX0 3 f fd ["_law_table_here", "_law_one", "_law_other"] (spLMeets K) := by
  refine ok_of F sc_law_meets (fun vs H Q E h => ?_) (fun cdv A outer s H vs Q E hr h => ?_)
  · obtain ⟨_, _, _, _, _, _, _, _, _, _, rfl, _⟩ := h
    rfl
  · obtain ⟨t, q1, q2, w, h, pk, n1, n2, b, c, rfl, lt, sm, hb, hc, okb, okc, mb, mc, k⟩ := h
    refine ⟨_, (pss_cons (ps_set (i := 3) sc_law_meets.nd rfl (Or.inl rfl) (pe_lst pa_nil))
  (pss_cons (ps_set (i := 4) sc_law_meets.nd rfl (Or.inl rfl) (pe_op op_add (pe_op op_mul (pe_op op_mul pe_int (pe_ix ix_tup (pv 0) pe_int (fun _ _ => rfl))) (pe_ix ix_tup (pv 0) pe_int (fun _ _ => rfl))) pe_int))
  (pss_cons (ps_set (i := 5) sc_law_meets.nd rfl (Or.inl rfl) (pe_df G_law_walk hr (pa_cons (pe_ix ix_tup (pv 0) pe_int (fun _ _ => rfl)) (pa_cons (pe_ix ix_tup (pv 0) pe_int (fun _ _ => rfl)) (pa_cons (pv 1) (pa_cons (pv 4) pa_nil))))))
  (pss_cons (ps_set (i := 6) sc_law_meets.nd rfl (Or.inl rfl) (pe_df G_law_walk hr (pa_cons (pe_ix ix_tup (pv 0) pe_int (fun _ _ => rfl)) (pa_cons (pe_ix ix_tup (pv 0) pe_int (fun _ _ => rfl)) (pa_cons (pv 2) (pa_cons (pv 4) pa_nil))))))
  (pss_cons (ps_set (i := 7) sc_law_meets.nd rfl (Or.inl rfl) (pv 4))
  (pss_cons (ps_for PassesOwn.never rfl (pi_tup (pe_tup (pa_cons (pv 1) (pa_cons (pv 2) pa_nil)))) (pg_name (i := 8) sc_law_meets.nd rfl (Or.inl rfl))
  (pss_cons (ps_set (i := 9) sc_law_meets.nd rfl (Or.inl rfl) (pe_df G_law_fall hr (pa_cons (pv 0) (pa_cons (pv 8) pa_nil))))
  (pss_one (ps_if (PW.pt (pw_and (pt_cmp (pc_notN (pv 9))) (pw_and1 (pt_cmpR op_lt (pv 9) (pv 7) (nomark _)))))
  (pss_one (ps_set (i := 7) sc_law_meets.nd rfl (Or.inl rfl) (pv 9)))
  pss_nil))))
  (pss_cons (ps_for PassesOwn.never rfl (pi_range2 (by rfl) T.norange (pa_cons (pe_callB (call_max2 rfl) (by rfl) T.nomax (by decide +kernel) (pa_cons (pe_ix ix_tup (pv 1) pe_int (fun _ _ => rfl)) (pa_cons (pe_ix ix_tup (pv 2) pe_int (fun _ _ => rfl)) pa_nil))) (pa_cons (pe_op op_add (pv 7) pe_int) pa_nil))) (pg_name (i := 10) sc_law_meets.nd rfl (Or.inl rfl))
  (pss_cons (ps_set (i := 11) sc_law_meets.nd rfl (Or.inl rfl) (pe_ix ix_list (pv 5) (pe_op op_sub (pv 10) (pe_ix ix_tup (pv 1) pe_int (fun _ _ => rfl))) (fun _ _ => rfl)))
  (pss_cons (ps_set (i := 12) sc_law_meets.nd rfl (Or.inl rfl) (pe_ix ix_list (pv 6) (pe_op op_sub (pv 10) (pe_ix ix_tup (pv 2) pe_int (fun _ _ => rfl))) (fun _ _ => rfl)))
  (pss_one (ps_if (pt_cmpR (op_eqD hr.units) (pe_tup (pa_cons (pe_ix ix_tup (pv 11) pe_int (fun _ _ => rfl)) (pa_cons (pe_ix ix_tup (pv 11) pe_int (fun _ _ => rfl)) pa_nil))) (pe_tup (pa_cons (pe_ix ix_tup (pv 12) pe_int (fun _ _ => rfl)) (pa_cons (pe_ix ix_tup (pv 12) pe_int (fun _ _ => rfl)) pa_nil))) (nomark _))
  (pss_one (ps_expr (pe_bm PySem.F.plainAttrs_list PySem.F.slot_list_append PySem.F.type_list_append mt_append (pv 3) (pa_cons (pv 10) pa_nil))))
  pss_nil)))))
  (pss_one (ps_ret (pv 3)))))))))), ?_⟩
    have mm := small_mul sm.w0 sm.w1 sm.h0 sm.h1
    have e8 : 8 * w * h = 8 * (w * h) := Int.mul_assoc _ _ _
    obtain ⟨many, em⟩ : ∃ many : Nat, 8 * w * h + 6 = (many : Int) := ⟨(8 * w * h + 6).toNat, by omega⟩
    have w1 := sm.w1
    have h0 := sm.h0
    have h1 := sm.h1
    obtain ⟨ta, ht, _⟩ := id lt
    refine q_setLst a_nil (by show 0 ≤ 100000; decide) fun l hl => ?_
    have s0 : Same H (upd H l (.lst [])) := Same.new hl
    have ht0 := Same.tup s0 ht
    refine q_set (v_is (v_op (v_op (v_op v_c (v_op (v_var rfl) v_c (r_ixT ht0 rfl)) (r_mulL ⟨by decide, by decide⟩)) (v_op (v_var rfl) v_c (r_ixT ht0 rfl)) (r_mulR ⟨by omega, by omega⟩)) v_c r_I0) (congrArg V.int em)) ?_
    refine q_call (a_cons (v_op (v_var rfl) v_c (r_ixT ht0 rfl)) (a_cons (v_op (v_var rfl) v_c (r_ixT ht0 rfl)) (a_cons (v_var rfl) (a_cons (v_var rfl) a_nil)))) ⟨w, h, q1, many, n1, b, rfl, by omega, Same.tup s0 hb, fun p1 H1 ys1 s1 hp1 zy1 rows1 => ?_⟩
    have s01 := s0.trans s1
    have ht1 := Same.tup s01 ht
    refine q_call (a_cons (v_op (v_var rfl) v_c (r_ixT ht1 rfl)) (a_cons (v_op (v_var rfl) v_c (r_ixT ht1 rfl)) (a_cons (v_var rfl) (a_cons (v_var rfl) a_nil)))) ⟨w, h, q2, many, n2, c, rfl, by omega, Same.tup s01 hc, fun p2 H2 ys2 s2 hp2 zy2 rows2 => ?_⟩
    have s02 := s01.trans s2
    have hl2 : H2 l = some (.lst []) := s2 _ _ (s1 _ _ upd_same)
    have hp12 : H2 p1 = some (.lst ys1) := s2 _ _ hp1
    have rows12 := rows1.up (Same.keep s2)
    refine q_set (v_var rfl) ?_
    -- for ball in (one, other)
    refine q_forTU (c_tup (a_cons (v_var rfl) (a_cons (v_var rfl) a_nil)) (by show 2 ≤ 100000; decide) fun tt htt => ?_)
    have e3 := Same.new (o := .tup [.ref q1, .ref q2]) htt
    generalize hHT : upd H2 tt (.tup [.ref q1, .ref q2]) = HT at e3 ⊢
    have k3 : SqT K HT tt [.ref q1, .ref q2] := by
      rw [← hHT]
      exact SqT.of upd_same
    have sT := s02.trans e3
    have cell : ∀ (i : Nat) (z : V), [V.ref q1, V.ref q2][i]? = some z → ∃ (q : Addr) (nm : Str) (d : Ball), z = .ref q ∧ SqT K H q (blV nm d) ∧ d.Ok w h ∧ d.m ≤ 4 ∧ [b, c][i]? = some d := fun i z hi => by
      match i, hi with
      | 0, hi =>
        cases hi
        exact ⟨q1, n1, b, rfl, hb, okb, mb, rfl⟩
      | 1, hi =>
        cases hi
        exact ⟨q2, n2, c, rfl, hc, okc, mc, rfl⟩
      | n + 2, hi => cases hi
    refine loopT k3 (fun i σ' H' => ∃ (os : List (Option Int)) (v8 v9 : Option V), σ' = [some (.ref t), some (.ref q1), some (.ref q2), some (.ref l), some (.int (many : Nat)), some (.ref p1), some (.ref p2), some (.int (os.foldl lw ((many : Nat) : Int))), v8, v9, none, none, none] ∧ Same HT H' ∧ Paired (fun (d : Ball) o => WFall w h pk d o) ([b, c].take i) os ∧ 0 ≤ os.foldl lw ((many : Nat) : Int) ∧ os.foldl lw ((many : Nat) : Int) ≤ (many : Nat))
      ⟨[], none, none, rfl, Same.refl _, .nil, by show (0 : Int) ≤ ((many : Nat) : Int); omega, Int.le_refl _⟩ (fun i σ' H' _ ⟨_, _, _, _, s4, _⟩ => Same.tup s4 k3) ?_ ?_
    · rintro i z σ' H' hi ⟨os, v8, v9, rfl, s4, prf, l0, l1⟩
      obtain ⟨q, nm, d, rfl, hq, okd, md, hd⟩ := cell i z hi
      have s5 := sT.trans s4
      refine q_call (a_cons (v_var rfl) (a_cons (v_var rfl) a_nil)) ⟨t, q, w, h, pk, nm, d, rfl, lt.up (Same.keep s5), sm, Same.tup s5 hq, okd.m0, md, fun H6 o s6 wf _ => ?_⟩
      have prf2 : Paired (fun (d : Ball) o => WFall w h pk d o) ([b, c].take (i + 1)) (os ++ [o]) := by
        rw [take_snoc hd]
        exact Paired.snoc prf wf
      generalize hcur : os.foldl lw ((many : Nat) : Int) = cur at l0 l1
      have fold2 : (os ++ [o]).foldl lw ((many : Nat) : Int) = lw cur o := by
        rw [List.foldl_append, hcur]
        rfl
      have d0 := okd.m0
      cases o with
      | none =>
        refine s_when (b := false) (b_and (a := false) (b := false) (b_nN0 (v_var rfl)) (fun z => by cases z)) (fun z => by cases z) (fun _ => ?_)
        refine ⟨os ++ [none], _, _, by rw [fold2]; rfl, s4.trans s6, prf2, by rw [fold2]; exact l0, by rw [fold2]; exact l1⟩
      | some y =>
        have y0 := wfall_ge wf d0
        refine s_when (b_and (a := true) (b_nN1 (x := .int y) (v_var rfl)) fun _ => b_test (v_op (v_var rfl) (v_var rfl) r_I0)) (fun hb => ?_) (fun hb => ?_)
        · have hlt : y < cur := by simpa using hb
          have e1 : lw cur (some y) = y := if_pos hlt
          refine s_set (v_var rfl) ⟨os ++ [some y], _, _, by rw [fold2, e1]; rfl, s4.trans s6, prf2, by rw [fold2, e1]; exact y0, by rw [fold2, e1]; omega⟩
        · have hlt : ¬ y < cur := by simpa using hb
          have e1 : lw cur (some y) = cur := if_neg hlt
          exact ⟨os ++ [some y], _, _, by rw [fold2, e1]; rfl, s4.trans s6, prf2, by rw [fold2, e1]; exact l0, by rw [fold2, e1]; exact l1⟩
    · rintro σ' H' ⟨os, v8, v9, rfl, s4, prf, l0, l1⟩
      have fin : ∃ o1 o2, os.foldl lw ((many : Nat) : Int) = lastOf ((many : Nat) : Int) o1 o2 ∧ WFall w h pk b o1 ∧ WFall w h pk c o2 := by
        cases prf with
        | cons r1 p =>
          cases p with
          | cons r2 p =>
            cases p
            exact ⟨_, _, lw_lw _ _ _, r1, r2⟩
      obtain ⟨o1, o2, efold, wf1, wf2⟩ := fin
      rw [efold] at l0 l1 ⊢
      have s5 := e3.trans s4
      have s6 : Same H H' := s02.trans s5
      have hl6 : H' l = some (.lst []) := s5 _ _ hl2
      have hp16 : H' p1 = some (.lst ys1) := s5 _ _ hp12
      have hp26 : H' p2 = some (.lst ys2) := s5 _ _ hp2
      have rows16 := rows12.up (Same.keep s5)
      have rows26 := rows2.up (Same.keep s5)
      have hb6 := Same.tup s6 hb
      have hc6 := Same.tup s6 hc
      have b0 := okb.m0
      have c0 := okc.m0
      generalize hlo : (if c.m > b.m then c.m else b.m) = lo
      have lo1 : b.m ≤ lo ∧ c.m ≤ lo ∧ lo ≤ 4 ∧ (lo = b.m ∨ lo = c.m) := by
        rw [← hlo]
        split <;> omega
      rw [em] at k
      have kk := fun p H' ms s hp W hz => k p H' ms o1 o2 s hp wf1 wf2 W hz
      generalize lastOf ((many : Nat) : Int) o1 o2 = last at l0 l1 kk
      have nl1 : p1 ≠ l := fun z => by
        rw [z, hl6] at hp16
        cases hp16
        cases zy1
      have nl2 : p2 ≠ l := fun z => by
        rw [z, hl6] at hp26
        cases hp26
        cases zy2
      refine q_forR2 (lo := lo) (n := last + 1) (a_cons (v_is (v_cb (a_cons (v_op (v_var rfl) v_c (r_ixT hb6 rfl)) (a_cons (v_op (v_var rfl) v_c (r_ixT hc6 rfl)) a_nil)) (fun Q q => ⟨_, _, rfl, q⟩)) (congrArg V.int hlo)) (a_cons (v_op (v_var rfl) v_c r_I0) a_nil)) (by omega) (by omega) (by omega) (by omega)
        (fun i σ' H7 => ∃ (v10 v11 v12 : Option V) (ms : List Int), σ' = [some (.ref t), some (.ref q1), some (.ref q2), some (.ref l), some (.int (many : Nat)), some (.ref p1), some (.ref p2), some (.int last), v8, v9, v10, v11, v12] ∧ Same H H7 ∧ TupKeep K H' H7 ∧ H7 p1 = some (.lst ys1) ∧ H7 p2 = some (.lst ys2) ∧ H7 l = some (.lst (ms.map V.int)) ∧
          (∀ u, u ∈ ms ↔ lo ≤ u ∧ u < lo + (i : Int) ∧ meet w h b c u) ∧ ms.Pairwise (· < ·) ∧ ms.length ≤ i)
        ⟨none, none, none, [], rfl, s6, fun _ _ z => z, hp16, hp26, hl6, (fun u => ⟨(fun z => by cases z), (fun z => by omega)⟩), List.Pairwise.nil, Nat.zero_le _⟩ ?_ ?_
      · rintro i σ' H7 hi ⟨v10, v11, v12, ms, rfl, s7, tk, ha1, ha2, hl7, mem, up, zm⟩
        obtain ⟨k1, ek1⟩ : ∃ k1 : Nat, lo + (i : Int) = b.m + (k1 : Int) := ⟨(lo + i - b.m).toNat, by omega⟩
        obtain ⟨k2, ek2⟩ : ∃ k2 : Nat, lo + (i : Int) = c.m + (k2 : Int) := ⟨(lo + i - c.m).toNat, by omega⟩
        have i1 : k1 < ys1.length := by omega
        have i2 : k2 < ys2.length := by omega
        obtain ⟨g1, d1, d2, eg1, hg1⟩ := rows16 k1 ys1[k1] (List.getElem?_eq_getElem i1)
        obtain ⟨g2, d3, d4, eg2, hg2⟩ := rows26 k2 ys2[k2] (List.getElem?_eq_getElem i2)
        have y1 : ys1[k1]? = some (.ref g1) := by rw [List.getElem?_eq_getElem i1, eg1]
        have y2 : ys2[k2]? = some (.ref g2) := by rw [List.getElem?_eq_getElem i2, eg2]
        have x1 : atI ys1 (lo + (i : Int) - b.m) = some (.ref g1) := by
          rw [show lo + (i : Int) - b.m = (k1 : Int) by omega]
          exact atI_nat y1
        have x2 : atI ys2 (lo + (i : Int) - c.m) = some (.ref g2) := by
          rw [show lo + (i : Int) - c.m = (k2 : Int) by omega]
          exact atI_nat y2
        have hb7 := tk _ _ hb6
        have hc7 := tk _ _ hc6
        have hg17 := tk _ _ hg1
        have hg27 := tk _ _ hg2
        refine q_set (v_op (v_var rfl) (v_op (v_var rfl) (v_op (v_var rfl) v_c (r_ixT hb7 rfl)) r_I0) (r_ixL (SqL.of ha1) x1)) ?_
        refine q_set (v_op (v_var rfl) (v_op (v_var rfl) (v_op (v_var rfl) v_c (r_ixT hc7 rfl)) r_I0) (r_ixL (SqL.of ha2) x2)) ?_
        refine s_ifU (c_fldU ?_)
        refine c_tup (a_cons (v_op (v_var rfl) v_c (r_ixT hg17 rfl)) (a_cons (v_op (v_var rfl) v_c (r_ixT hg17 rfl)) a_nil)) (by show 2 ≤ 100000; decide) fun t1 ht1 => ?_
        have f1 := Same.new (o := .tup [.int (place w h b k1).1, .int (place w h b k1).2]) ht1
        refine c_tup (a_cons (v_op (v_var rfl) v_c (r_ixT (Same.tup f1 hg27) rfl)) (a_cons (v_op (v_var rfl) v_c (r_ixT (Same.tup f1 hg27) rfl)) a_nil)) (by show 2 ≤ 100000; decide) fun t2 ht2 => ?_
        have f2 := Same.new (o := .tup [.int (place w h c k2).1, .int (place w h c k2).2]) ht2
        have f12 := f1.trans f2
        refine ⟨pD (place w h b k1), pD (place w h c k2), Pr.dp ⟨t1, rfl, SqT.of (f2 _ _ upd_same)⟩, Pr.dp ⟨t2, rfl, SqT.of upd_same⟩, pD_shaped _, pD_shaped _, ?_⟩
        have pm := place_meet (k := k1) (l := k2) sm.w0 sm.h0 okb okc ek1 ek2
        have tk2 := tk.trans (Same.keep f12)
        rw [pD_eqv]
        refine ⟨_, rfl, ?_⟩
        by_cases hm : place w h b k1 = place w h c k2
        · rw [decide_eq_true hm]
          refine iteT ?_
          refine s_app (v_var rfl) (f12 _ _ hl7) (v_var rfl) (size_lt (by rw [List.length_map]; omega)) ?_
          refine ⟨_, _, _, ms ++ [lo + (i : Int)], rfl, Same.mut (s7.trans f12) hl, tk2.trans (keep_mut (f12 _ _ hl7)), by rw [upd_ne nl1]; exact f12 _ _ ha1, by rw [upd_ne nl2]; exact f12 _ _ ha2, by rw [upd_same, List.map_append]; rfl, fun u => ?_, ?_, by rw [List.length_append]; show ms.length + 1 ≤ _; omega⟩
          · rw [List.mem_append, List.mem_singleton, mem]
            constructor
            · rintro (⟨a1, a2, a3⟩ | rfl)
              · exact ⟨a1, by omega, a3⟩
              · exact ⟨by omega, by omega, pm.mp hm⟩
            · rintro ⟨a1, a2, a3⟩
              by_cases hu : u = lo + (i : Int)
              · exact .inr hu
              · exact .inl ⟨a1, by omega, a3⟩
          · rw [List.pairwise_append]
            refine ⟨up, List.pairwise_singleton _ _, fun x hx y hy => ?_⟩
            rw [List.mem_singleton] at hy
            have := ((mem x).mp hx).2.1
            omega
        · rw [decide_eq_false hm]
          refine iteF ⟨_, _, _, ms, rfl, s7.trans f12, tk2, f12 _ _ ha1, f12 _ _ ha2, f12 _ _ hl7, fun u => ?_, up, by omega⟩
          rw [mem]
          constructor
          · rintro ⟨a1, a2, a3⟩
            exact ⟨a1, by omega, a3⟩
          · rintro ⟨a1, a2, a3⟩
            refine ⟨a1, ?_, a3⟩
            by_cases hu : u = lo + (i : Int)
            · subst hu
              exact absurd (pm.mpr a3) hm
            · omega
      · rintro σ' H7 ⟨v10, v11, v12, ms, rfl, s7, tk, ha1, ha2, hl7, mem, up, zm⟩
        refine s_ret (v_var rfl) (kk l H7 ms s7 hl7 ⟨fun u => ?_, up⟩ (by omega))
        rw [mem]
        constructor
        · rintro ⟨a1, a2, a3⟩
          exact ⟨by omega, by omega, by omega, a3⟩
        · rintro ⟨a1, a2, a3, a4⟩
          exact ⟨by omega, by omega, a4⟩
end
end Cu
end
section
set_option Elab.async false
set_option linter.all false
set_option maxRecDepth 100000
set_option maxHeartbeats 4000000
namespace Cu
open PySem PySem.Spec PyProof.Rows L2 CuM
local macro_rules | `(tactic| walk_at "hp") => `(tactic| first
  | assumption
  | exact SqT.of (by assumption)
  | exact SqL.of (by assumption)
  | (apply SqT.of; walk_at "hq")
  | (apply SqL.of; walk_at "hq")
  | walk_at "hq")
local macro_rules | `(tactic| walk_at "hq") => `(tactic| first
  | assumption
  | exact upd_same
  | (refine Same.new (by assumption) _ _ ?_; walk_at "hq")
  | (refine Same.tup (Same.new (by assumption)) ?_; walk_at "hp")
  | (refine L2.Same.seq (Same.new (by assumption)) ?_; walk_at "hp"))
local macro_rules | `(tactic| walk_at "pv") => `(tactic| first
  | with_reducible exact v_c
  | ((with_reducible apply v_var); rfl)
  | (with_reducible apply v_op) <;> walk_at "pv"
  | (with_reducible apply v_un) <;> walk_at "pv"
  | (with_reducible apply v_fld) <;> walk_at "pv"
  | (with_reducible apply v_chain) <;> walk_at "pv"
  | (with_reducible apply v_and) <;> walk_at "pv"
  | (with_reducible apply v_or) <;> walk_at "pv"
  | (with_reducible apply v_not) <;> walk_at "pv"
  | (with_reducible apply v_isN) <;> walk_at "pv"
  | (with_reducible apply v_notN) <;> walk_at "pv"
  | (with_reducible apply v_cb) <;> walk_at "pv"
  | with_reducible exact a_nil
  | (with_reducible apply a_cons) <;> walk_at "pv"
  | (with_reducible apply b_test) <;> walk_at "pv"
  | (with_reducible apply b_B) <;> walk_at "pv"
  | (with_reducible apply b_and) <;> walk_at "pv"
  | (with_reducible apply b_or) <;> walk_at "pv"
  | (with_reducible apply b_not) <;> walk_at "pv"
  | with_reducible exact r_I0
  | with_reducible exact r_U
  | ((with_reducible apply r_I); walk_at "side")
  | ((with_reducible apply r_ixT); walk_at "hp"; first | rfl | assumption)
  | ((with_reducible apply r_ixL); walk_at "hp"; first | rfl | assumption)
  | ((with_reducible apply r_eq); rfl)
  | ((with_reducible apply r_ne); rfl)
  | ((with_reducible apply r_inT); walk_at "hp"; rfl; first | rfl | assumption)
  | ((with_reducible apply r_inL); walk_at "hp"; rfl; first | rfl | assumption)
  | with_reducible exact o_none
  | (with_reducible apply o_some) <;> walk_at "pv"
  | (intro _; walk_at "pv")
  | assumption
  | rfl
  | walk_at "side")
local macro_rules | `(tactic| walk_at "side") => `(tactic| first
  | assumption
  | (show (0 : Int) < _; first | decide | omega)
  | (show (0 : Int) < _ ∧ _ < (1073741824 : Int); exact ⟨by decide, by decide⟩)
  | walk_at "hp"
  | rfl)

/-! ### the law -/
def spLaw (K : PySem.W.Frag) : Sp := fun vs H Q _ => ∃ (a : Addr) (cs : List Int), vs = [.ref a] ∧ SqL K H a (cs.map V.int) ∧ ∀ H', Q (.bl true) H'
theorem q_forLU {K : PySem.W.Frag} {σ : L2.St} {H : Hp} {tl : TE} {D : Ends} {tz tu : TS} {g : TG} (k : tl σ H fun x H1 => ∃ a, x = .ref a ∧ (∃ xs, SqL K H1 a xs) ∧ ∃ W : Nat → Nat → L2.St → Hp → Prop, (∃ m, W 0 m σ H1) ∧ ∀ i m σ H, W i m σ H →
      ((Itl K a).stop i H ∧ tz D σ H) ∨ ((Itl K a).go i H ∧ ∃ N : L2.St → Hp → Prop, (∀ σ' H', N σ' H' → ∃ m', m' < m ∧ W (i + 1) m' σ' H') ∧ ∀ x H', (Itl K a).yld i H x H' → g x σ H' fun σ2 H2 => tu { D with nx := N, ct := N, bk := tz D } σ2 H2)) : tSeq (tFor (iList K tl) g tu) tz D σ H := k
theorem loopLQ {K : PySem.W.Frag} {a : Addr} {xs : List V} {g : TG} {tu tz : TS} {D : Ends} {σ : L2.St} {H : Hp} (hx : SqL K H a xs) (W : Nat → L2.St → Hp → Prop) (h0 : W 0 σ H) (hl : ∀ i σ' H', i ≤ xs.length → W i σ' H' → SqL K H' a xs)
    (hs : ∀ i x σ' H', xs[i]? = some x → W i σ' H' → g x σ' H' fun σ2 H2 => tu { D with nx := W (i + 1), ct := W (i + 1), bk := tz D } σ2 H2) (hd : ∀ σ' H', W xs.length σ' H' → tz D σ' H') : ∃ b, V.ref a = .ref b ∧ (∃ xs, SqL K H b xs) ∧ ∃ W : Nat → Nat → L2.St → Hp → Prop, (∃ m, W 0 m σ H) ∧ ∀ i m σ H, W i m σ H →
      ((Itl K b).stop i H ∧ tz D σ H) ∨ ((Itl K b).go i H ∧ ∃ N : L2.St → Hp → Prop, (∀ σ' H', N σ' H' → ∃ m', m' < m ∧ W (i + 1) m' σ' H') ∧ ∀ x H', (Itl K b).yld i H x H' → g x σ H' fun σ2 H2 => tu { D with nx := N, ct := N, bk := tz D } σ2 H2) :=
  ⟨a, rfl, ⟨xs, hx⟩, for_list (D := { D with nx := tz D }) W h0 hl hs hd⟩
theorem tabMake {K : PySem.W.Frag} {H : Hp} {Q : Addr → Hp → Prop} {l : Addr} {w h : Int} {pk : List (Int × Int)} (hl : PrL K H l pk) (w0 : 1 ≤ w) (w1 : w ≤ 10 ^ 30) (h0 : 1 ≤ h) (h1 : h ≤ 10 ^ 30) (len : pk.length ≤ 12) (nd : pk.Nodup) (hin : ∀ c ∈ pk, InTab w h c)
    (k : ∀ x H2 pa, Same H H2 → TabAt K H2 x w h pa → PrT K H2 pa pk → Q x H2) :
    ∀ x dx, H x = none → H dx = none → dx ≠ x → spTabI K (.ref x :: ([.int w, .int h, .ref l] ++ [])) (upd (upd H dx (.own x)) x (.ins (aTab K) dx [])) (fun v H2 => v = .non ∧ Q x H2) E0 := fun x dx hx hd nd' => by
  have s0 : Same H (upd (upd H dx (.own x)) x (.ins (aTab K) dx [])) := (Same.new hd).trans (Same.new (by rw [upd_ne nd'.symm]; exact hx))
  exact ⟨x, dx, l, w, h, pk, rfl, upd_same, hl.up s0, w0, w1, h0, h1, len, nd, hin, fun H' pa t p b => ⟨rfl, k x H' pa (Same.made hx hd b) t p⟩⟩
theorem gamMake {K : PySem.W.Frag} {H : Hp} {Q : Addr → Hp → Prop} {p pa l : Addr} {w h : Int} {pk : List (Int × Int)} {xs : List V} {bs : List (Str × Ball)} (tab : TabAt K H p w h pa) (sz : Sz w h) (prt : PrT K H pa pk) (hin : ∀ c ∈ pk, InTab w h c) (len : pk.length ≤ 12) (hl : H l = some (.lst xs)) (prs : BlAll K H xs bs) (bk : ∀ nb ∈ bs, BOk w h nb.1 nb.2) (bl : bs.length ≤ 12) (nd : (bs.map Prod.fst).Nodup)
    (k : ∀ x H2 os, Same H H2 → GamAt K H2 x p pa w h pk bs os → Q x H2) :
    ∀ x dx, H x = none → H dx = none → dx ≠ x → spGamI K (.ref x :: ([.ref p, .ref l] ++ [])) (upd (upd H dx (.own x)) x (.ins (aGam K) dx [])) (fun v H2 => v = .non ∧ Q x H2) E0 := fun x dx hx hd nd' => by
  have s0 : Same H (upd (upd H dx (.own x)) x (.ins (aGam K) dx [])) := (Same.new hd).trans (Same.new (by rw [upd_ne nd'.symm]; exact hx))
  exact ⟨x, dx, p, l, pa, w, h, pk, xs, bs, rfl, upd_same, tab.up s0, sz, prt.up (Same.keep s0), hin, len, s0 _ _ hl, blAll_up (Same.keep s0) prs, bk, bl, nd, fun H' os G b => ⟨rfl, k x H' os (Same.made hx hd b) G⟩⟩
theorem mem_cut {xs : List V} {lo hi : Option Int} {x : V} (h : x ∈ cutV xs lo hi) : x ∈ xs := List.mem_of_mem_drop (List.mem_of_mem_take h)
theorem cut_le (xs : List V) (lo hi : Option Int) : (cutV xs lo hi).length ≤ xs.length := by
  unfold cutV
  rw [List.length_take, List.length_drop]
  omega
def scB (F : Int) (bs : List (Str × Ball)) : List (Str × Ball) := bs.map fun nb => (nb.1, nb.2.sc F)
/-- a pair of a minute and a minute or None -/
def dO : Option Int → PyData
  | none => .none
  | some t => .int t
theorem dp_ov {K : PySem.W.Frag} {H : Hp} (o : Option Int) : Dp K H (ov o) (dO o) := by
  cases o with
  | none => exact .non
  | some t => exact .int t
theorem dO_eqv (x : Int) (o : Option Int) : PyData.eqv (.tuple [.int x, dO o]) (.tuple [.int x, dO o]) = true := by
  cases o <;> simp [dO, PyData.eqv, PyData.eqvAll]
theorem dO_shaped (x : Int) (o : Option Int) : SeqAt.shaped (.tuple [.int x, dO o]) = true := by
  cases o <;> simp [dO, SeqAt.shaped, PyData.canLay0, PyData.canLayAll0, PyData.depth, PyData.depthAll]
section
variable {P : Program} {w : World} {K : PySem.W.Frag} {mg : Str → Option Value} {base : Heap} {f : Addr} {fd : FuncData}
theorem sc_law : FnScope ["_law_script", "_law_numbers_here", "_law_table_here", "_law_balls_here", "_law_times", "_law_k", "_law_pockets", "_law_large", "_law_ball_here", "_law_game", "_law_fall_here", "_law_due", "_law_meets_here", "_law_told", "_law_minute", "_law_first", "_law_x", "_law_y"] ["_law_script"] (defScope sLaw) := ⟨rfl, rfl, rfl, by decide +kernel, rfl, by decide +kernel, by decide +kernel⟩
theorem ok_law (F : FnP K "law" "law" sLaw [] f fd) (T : Tx K mg) (G_law_numbers : Df P w K mg base 2 "_law_numbers" ["_law_script", "_law_many"] (spLNums K)) (G_law_table : Df P w K mg base 1 "_law_table" ["_law_numbers_here", "_law_at"] (spLTable K))
    (G_law_balls : Df P w K mg base 2 "_law_balls" ["_law_numbers_here", "_law_at", "_law_many", "_law_table_here"] (spLBalls K)) (G_GameI : Dk P w K mg base 7 (aGam K) "Game" ["self", "table", "balls"] (spGamI K)) (G_TableI : Dk P w K mg base 2 (aTab K) "Table" ["self", "width", "height", "pockets"] (spTabI K))
    (G_law_fall : Df P w K mg base 2 "_law_fall" ["_law_table_here", "_law_ball_here"] (spLFall K)) (G_Game_life : Dm P w K mg base 4 (aGam K) "life" ["self", "name"] (spLife K)) (G_law_meets : Df P w K mg base 3 "_law_meets" ["_law_table_here", "_law_one", "_law_other"] (spLMeets K))
    (G_Game_meetings : Dm P w K mg base 5 (aGam K) "meetings" ["self", "one", "other"] (spGMeets K)) (G_Times_holds : Dm P w K mg base 2 (aTim K) "holds" ["self", "minute"] (spHolds K)) (G_Times_next_from : Dm P w K mg base 2 (aTim K) "next_from" ["self", "minute"] (spNext K)) :
    FnOk P w K mg base CX0 9 f fd ["_law_script"] (spLaw K) := by
  refine ok_of F sc_law (fun vs H Q E h => ?_) (fun cdv A outer s H vs Q E hr h => ?_)
  · obtain ⟨_, _, rfl, _⟩ := h
    rfl
  · obtain ⟨a, cs, rfl, ha, k⟩ := h
    refine ⟨_, (pss_cons (ps_set (i := 1) sc_law.nd rfl (Or.inl rfl) (pe_df G_law_numbers hr (pa_cons (pv 0) (pa_cons pe_int pa_nil))))
  (pss_cons (ps_set (i := 2) sc_law.nd rfl (Or.inl rfl) (pe_df G_law_table hr (pa_cons (pv 1) (pa_cons pe_int pa_nil))))
  (pss_cons (ps_set (i := 3) sc_law.nd rfl (Or.inl rfl) (pe_df G_law_balls hr (pa_cons (pv 1) (pa_cons pe_int (pa_cons (pe_op op_add pe_int (pe_op op_mod (pe_callTy call_int1 (by rfl) T.noint (by decide +kernel) (pa_cons (pe_ix ix_list (pv 1) pe_int (fun _ _ => rfl)) pa_nil)) pe_int)) (pa_cons (pv 2) pa_nil))))))
  (pss_cons (ps_set (i := 4) sc_law.nd rfl (Or.inr rfl) pe_int)
  (pss_cons (ps_for PassesOwn.never rfl (pi_range1 (by rfl) T.norange (pa_cons (pe_op op_add pe_int (pe_op op_mod (pe_callTy call_int1 (by rfl) T.noint (by decide +kernel) (pa_cons (pe_ix ix_list (pv 1) pe_int (fun _ _ => rfl)) pa_nil)) pe_int)) pa_nil)) (pg_name (i := 5) sc_law.nd rfl (Or.inl rfl))
  (pss_one (ps_set (i := 4) sc_law.nd rfl (Or.inr rfl) (pe_op op_mul (pv 4) (pe_op op_add pe_int (pe_op op_mod (pe_callTy call_int1 (by rfl) T.noint (by decide +kernel) (pa_cons (pe_ix ix_list (pv 1) (pe_op op_add pe_int (pv 5)) (fun _ _ => rfl)) pa_nil)) pe_int))))))
  (pss_cons (ps_setLc (i := 6) (own := [("_law_x", 16), ("_law_y", 17)]) rfl sc_law.nd rfl rfl (sw_true rfl rfl rfl (by decide +kernel)) (pi_tup (pe_ix ix_tup (pv 2) pe_int (fun _ _ => rfl))) (blkOk_by (own := [("_law_x", 16), ("_law_y", 17)]) (N := ["_law_script", "_law_numbers_here", "_law_table_here", "_law_balls_here", "_law_times", "_law_k", "_law_pockets", "_law_large", "_law_ball_here", "_law_game", "_law_fall_here", "_law_due", "_law_meets_here", "_law_told", "_law_minute", "_law_first", "_law_x", "_law_y"]) (sc := defScope sLaw) (by decide +kernel)) (fun _ _ _ _ _ => (show PG _ _ (gTup K 2 _) from pg_tup rfl (pgs_cons (pg_name (i := 16) sc_law.nd rfl (Or.inl rfl)) (pgs_cons (pg_name (i := 17) sc_law.nd rfl (Or.inl rfl)) pgs_nil)))) (fun _ _ _ _ _ => pts_nil) (fun _ _ _ _ _ => (pe_tup (pa_cons (pe_op op_mul (pv 16) (pv 4)) (pa_cons (pe_op op_mul (pv 17) (pv 4)) pa_nil)))))
  (pss_cons (ps_setLc (i := 7) (own := [("_law_ball_here", 8)]) rfl sc_law.nd rfl rfl (sw_true rfl rfl rfl (by decide +kernel)) (pi_list (pv 3)) (blkOk_by (own := [("_law_ball_here", 8)]) (N := ["_law_script", "_law_numbers_here", "_law_table_here", "_law_balls_here", "_law_times", "_law_k", "_law_pockets", "_law_large", "_law_ball_here", "_law_game", "_law_fall_here", "_law_due", "_law_meets_here", "_law_told", "_law_minute", "_law_first", "_law_x", "_law_y"]) (sc := defScope sLaw) (by decide +kernel)) (fun _ _ _ _ _ => (pg_name (i := 8) sc_law.nd rfl (Or.inl rfl))) (fun _ _ _ _ _ => pts_nil) (fun _ _ _ _ _ => (pe_tup (pa_cons (pe_ix (show IxR _ (rIxT K) from ix_tup) (pv 8) pe_int (fun _ _ => rfl)) (pa_cons (pe_op op_mul (pe_ix (show IxR _ (rIxT K) from ix_tup) (pv 8) pe_int (fun _ _ => rfl)) (pv 4)) (pa_cons (pe_op op_mul (pe_ix (show IxR _ (rIxT K) from ix_tup) (pv 8) pe_int (fun _ _ => rfl)) (pv 4)) (pa_cons (pe_ix (show IxR _ (rIxT K) from ix_tup) (pv 8) pe_int (fun _ _ => rfl)) (pa_cons (pe_ix (show IxR _ (rIxT K) from ix_tup) (pv 8) pe_int (fun _ _ => rfl)) (pa_cons (pe_op op_mul (pe_ix (show IxR _ (rIxT K) from ix_tup) (pv 8) pe_int (fun _ _ => rfl)) (pv 4)) pa_nil)))))))))
  (pss_cons (ps_set (i := 9) sc_law.nd rfl (Or.inl rfl) (pe_dk G_GameI hr (pa_cons (pe_dk G_TableI hr (pa_cons (pe_op op_mul (pe_ix ix_tup (pv 2) pe_int (fun _ _ => rfl)) (pv 4)) (pa_cons (pe_op op_mul (pe_ix ix_tup (pv 2) pe_int (fun _ _ => rfl)) (pv 4)) (pa_cons (pv 6) pa_nil)))) (pa_cons (pv 7) pa_nil))))
  (pss_cons (ps_for PassesOwn.never rfl (pi_list (pv 3)) (pg_name (i := 8) sc_law.nd rfl (Or.inl rfl))
  (pss_cons (ps_set (i := 10) sc_law.nd rfl (Or.inl rfl) (pe_df G_law_fall hr (pa_cons (pv 2) (pa_cons (pv 8) pa_nil))))
  (pss_cons (ps_set (i := 11) sc_law.nd rfl (Or.inl rfl) pe_non)
  (pss_cons (ps_if (pt_cmp (pc_notN (pv 10)))
  (pss_one (ps_set (i := 11) sc_law.nd rfl (Or.inl rfl) (pe_op op_mul (pv 10) (pv 4))))
  pss_nil)
  (pss_one (ps_if (pt_cmpR (op_neD hr.units) (pe_dm (pv 9) T.cGam G_Game_life hr (pa_cons (pe_ix ix_tup (pv 8) pe_int (fun _ _ => rfl)) pa_nil)) (pe_tup (pa_cons (pe_op op_mul (pe_ix ix_tup (pv 8) pe_int (fun _ _ => rfl)) (pv 4)) (pa_cons (pv 11) pa_nil))) (nomark _))
  (pss_one (ps_ret pe_bl))
  pss_nil))))))
  (pss_cons (ps_set (i := 12) sc_law.nd rfl (Or.inl rfl) (pe_df G_law_meets hr (pa_cons (pv 2) (pa_cons (pe_ix ix_list (pv 3) pe_int (fun _ _ => rfl)) (pa_cons (pe_ix ix_list (pv 3) pe_int (fun _ _ => rfl)) pa_nil)))))
  (pss_cons (ps_set (i := 13) sc_law.nd rfl (Or.inl rfl) (pe_dm (pv 9) T.cGam G_Game_meetings hr (pa_cons (pe_ix ix_tup (pe_ix ix_list (pv 3) pe_int (fun _ _ => rfl)) pe_int (fun _ _ => rfl)) (pa_cons (pe_ix ix_tup (pe_ix ix_list (pv 3) pe_int (fun _ _ => rfl)) pe_int (fun _ _ => rfl)) pa_nil))))
  (pss_cons (ps_for PassesOwn.never rfl (pi_list (pe_op op_cat (pe_slice sl_list (pv 12) po_none (po_some pe_int)) (pe_slice sl_list (pv 12) (po_some (pe_un un_neg pe_int)) po_none))) (pg_name (i := 14) sc_law.nd rfl (Or.inl rfl))
  (pss_one (ps_if (pt_not (pt_val (pe_dm (pv 13) T.cTim G_Times_holds hr (pa_cons (pe_op op_mul (pv 14) (pv 4)) pa_nil))))
  (pss_one (ps_ret pe_bl))
  pss_nil)))
  (pss_cons (ps_set (i := 15) sc_law.nd rfl (Or.inl rfl) (pe_dm (pv 13) T.cTim G_Times_next_from hr (pa_cons pe_int pa_nil)))
  (pss_cons (ps_if (PW.pt (pw_and (pt_cmpR op_gt (pe_callB call_len_seq (by rfl) T.nolen PySem.boot_len (pa_cons (pv 12) pa_nil)) pe_int (nomark _)) (pw_and (pt_cmpR op_eq (pv 4) pe_int (nomark _)) (pw_and1 (pt_cmpR op_ne (pv 15) (pe_ix ix_list (pv 12) pe_int (fun _ _ => rfl)) (nomark _))))))
  (pss_one (ps_ret pe_bl))
  pss_nil)
  (pss_cons (ps_if (pt_cmpR op_gt (pe_callB call_len_seq (by rfl) T.nolen PySem.boot_len (pa_cons (pv 12) pa_nil)) pe_int (nomark _))
  (pss_one (ps_ret (pe_and (pe_cmp (pc_notN (pv 15))) (pe_and (pe_cmpR op_le (pv 15) (pe_op op_mul (pe_ix ix_list (pv 12) pe_int (fun _ _ => rfl)) (pv 4)) (nomark _)) (pe_one (pe_cmpR op_isBl (pe_dm (pv 13) T.cTim G_Times_holds hr (pa_cons (pv 15) pa_nil)) pe_bl (nomark _)))))))
  pss_nil)
  (pss_cons (ps_for PassesOwn.never rfl (pi_range2 (by rfl) T.norange (pa_cons pe_int (pa_cons pe_int pa_nil))) (pg_name (i := 14) sc_law.nd rfl (Or.inl rfl))
  (pss_one (ps_if (pt_val (pe_dm (pv 13) T.cTim G_Times_holds hr (pa_cons (pe_op op_mul (pv 14) (pv 4)) pa_nil)))
  (pss_one (ps_ret pe_bl))
  pss_nil)))
  (pss_one (ps_ret pe_bl)))))))))))))))))), ?_⟩
    refine q_call (a_cons (v_var rfl) (a_cons v_c a_nil)) ⟨a, cs, rfl, ha, fun n H1 ns s1 hn zn okn => ?_⟩
    refine q_call (a_cons (v_var rfl) (a_cons v_c a_nil)) ⟨n, ns, rfl, SqL.of hn, zn, okn, fun t H2 w h pk s2 lt sm => ?_⟩
    have hn2 : SqL K H2 n (ns.map V.int) := SqL.of (s2 _ _ hn)
    obtain ⟨x8, e8, _, _⟩ := num_at okn (i := 8) (by decide) (by omega)
    obtain ⟨x40, e40, _, _⟩ := num_at okn (i := 40) (by decide) (by omega)
    obtain ⟨many, hmany⟩ : ∃ many : Nat, 2 + x8 % 2 = (many : Int) := ⟨(2 + x8 % 2).toNat, by omega⟩
    have many2 : 2 ≤ many ∧ many ≤ 3 := by omega
    refine q_call (a_cons (v_var rfl) (a_cons v_c (a_cons (v_is (v_op v_c (v_op (v_cb (a_cons (v_op (v_var rfl) v_c (r_ixL hn2 e8)) a_nil) c_int) v_c (r_mod (by decide))) r_I0) (congrArg V.int hmany)) (a_cons (v_var rfl) a_nil)))) ⟨n, t, ns, many, w, h, pk, rfl, hn2, zn, okn, many2.2, lt, sm, fun bl H3 xs bs s3 hbl prb zb okb ndb => ?_⟩
    have hn3 := s3.seq hn2
    have lt3 := lt.up (Same.keep s3)
    refine q_set v_c ?_
    -- times
    refine q_forR1 (n := 1 + x40 % 8) (a_cons (v_op v_c (v_op (v_cb (a_cons (v_op (v_var rfl) v_c (r_ixL hn3 e40)) a_nil) c_int) v_c (r_mod (by decide))) r_I0) a_nil) (by omega) (by omega)
      (fun i σ' H' => ∃ (F : Int) (v5 : Option V), σ' = [some (.ref a), some (.ref n), some (.ref t), some (.ref bl), some (.int F), v5, none, none, none, none, none, none, none, none, none, none, none, none] ∧ H' = H3 ∧ 1 ≤ F ∧ F ≤ 1000 ^ i) ⟨1, none, rfl, rfl, by decide, by decide⟩ ?_ ?_
    · rintro i σ' H' hi ⟨F, v5, rfl, rfl, F0, F1⟩
      obtain ⟨y, ey, y0, y1⟩ := num_at okn (i := 41 + (i : Int)) (by omega) (by omega)
      have z0 : 1 ≤ 1 + y % 1000 ∧ 1 + y % 1000 ≤ 1000 := by omega
      refine s_set (v_op (v_var rfl) (v_op v_c (v_op (v_cb (a_cons (v_op (v_var rfl) (v_op v_c (v_var rfl) r_I0) (r_ixL hn3 ey)) a_nil) c_int) v_c (r_mod (by decide))) r_I0) (r_mulR ⟨by omega, by omega⟩)) ?_
      generalize 1 + y % 1000 = z at z0
      refine ⟨F * z, _, rfl, rfl, ?_, ?_⟩
      · have := Int.mul_le_mul F0 z0.1 (by decide) (by omega)
        omega
      · have := Int.mul_le_mul F1 z0.2 (by omega) (Int.le_trans (by decide) (Int.le_trans F0 F1))
        rw [Int.pow_succ]
        exact this
    rintro σ' H' ⟨F, v5, rfl, rfl, F0, F1⟩
    have F2 : F ≤ 10 ^ 24 := by
      have hle : (1 + x40 % 8).toNat ≤ 8 := by omega
      have h8 : ((1000 : Nat) ^ (1 + x40 % 8).toNat) ≤ 1000 ^ 8 := Nat.pow_le_pow_right (by decide) hle
      have : ((1000 : Int) ^ (1 + x40 % 8).toNat) = (((1000 : Nat) ^ (1 + x40 % 8).toNat : Nat) : Int) := by simp
      omega
    have Fp : 0 < F := by omega
    obtain ⟨ta, ht, ps, hta, prp⟩ := id lt3
    have zps := Paired.length prp
    have w0 := sm.w0
    have w1 := sm.w1
    have h0 := sm.h0
    have h1 := sm.h1
    -- pockets
    refine q_setC (c_lcT (K := K) (v_op (v_var rfl) v_c (r_ixT ht rfl)) hta (by have := sm.len; omega) (fun i acc A => PrAll K A acc (scP F (pk.take i))) (fun i acc A B tk r => prAll_up tk r) .nil ?_ ?_)
    · intro i x acc H4 Dl Qk hi hD s4 hacc hl2 r kq
      obtain ⟨c, hc, g, rfl, hg⟩ := prd_get prp hi
      have hcin := sm.hin c (List.mem_of_getElem? hc)
      unfold InTab at hcin
      refine ⟨g, _, rfl, Same.tup s4 hg, rfl, _, _, rfl, _, _, rfl, rfl, rfl, ?_⟩
      refine c_tup (a_cons (v_op (v_var rfl) (v_var rfl) (r_mulL ⟨by omega, by omega⟩)) (a_cons (v_op (v_var rfl) (v_var rfl) (r_mulL ⟨by omega, by omega⟩)) a_nil)) (by show 2 ≤ 100000; decide) fun u hu => kq _ _ (s4.trans (Same.new hu)) (Same.new hu _ _ hacc) ?_
      rw [take_snoc hc]
      unfold scP
      rw [List.map_append]
      exact Paired.snoc (prAll_up (Same.keep (Same.new hu)) r) ⟨u, rfl, SqT.of upd_same⟩
    intro l1 acc1 H4 hD1 s4 hl1 hz1 pr1
    rw [zps, List.take_length] at pr1
    have hbl4 := s4 _ _ hbl
    have prb4 := blAll_up (Same.keep s4) prb
    have zxs := Paired.length prb
    -- large
    refine q_setC (c_lcL (K := K) (v_var rfl) (SqL.of hbl4) (by omega) (fun i acc A => BlAll K A acc (scB F (bs.take i))) (fun i acc A B tk r => blAll_up tk r) .nil ?_ ?_)
    · intro i x acc H5 Dl Qk hi hD s5 hacc hl2 r kq
      obtain ⟨nb, hc, g, rfl, hg⟩ := prd_get prb4 hi
      have hg5 := Same.tup s5 hg
      obtain ⟨_, okx, mx⟩ := okb nb (List.mem_of_getElem? hc)
      have x0 := okx.x0
      have x1 := okx.x1
      have y0 := okx.y0
      have y1 := okx.y1
      have m0 := okx.m0
      refine ⟨rfl, ?_⟩
      refine c_tup (vs := blV nb.1 (nb.2.sc F)) (a_cons (v_op (v_var rfl) v_c (r_ixT hg5 rfl)) (a_cons (v_op (v_op (v_var rfl) v_c (r_ixT hg5 rfl)) (v_var rfl) (r_mulL ⟨by omega, by omega⟩)) (a_cons (v_op (v_op (v_var rfl) v_c (r_ixT hg5 rfl)) (v_var rfl) (r_mulL ⟨by omega, by omega⟩)) (a_cons (v_op (v_var rfl) v_c (r_ixT hg5 rfl)) (a_cons (v_op (v_var rfl) v_c (r_ixT hg5 rfl)) (a_cons (v_op (v_op (v_var rfl) v_c (r_ixT hg5 rfl)) (v_var rfl) (r_mulL ⟨by omega, by omega⟩)) a_nil))))))
        (by show 6 ≤ 100000; decide) fun u hu => kq _ _ (s5.trans (Same.new hu)) (Same.new hu _ _ hacc) ?_
      rw [take_snoc hc]
      unfold scB
      rw [List.map_append]
      exact Paired.snoc (blAll_up (Same.keep (Same.new hu)) r) ⟨u, rfl, SqT.of upd_same⟩
    intro l2 acc2 H5 hD2 s5 hl2 hz2 pr2
    rw [zxs, List.take_length] at pr2
    have s45 := s4.trans s5
    have hl15 := s5 _ _ hl1
    have ht5 := Same.tup s45 ht
    have pr15 := prAll_up (Same.keep s5) pr1
    -- the scaled things
    have le : ∀ u v : Int, u ≤ v → u * F ≤ v * F := fun u v z => (Int.mul_le_mul_right Fp).mpr z
    have inF : ∀ c ∈ scP F pk, InTab (w * F) (h * F) c := fun c hc => by
      obtain ⟨d, hd, rfl⟩ := List.mem_map.mp hc
      obtain ⟨a1, a2, a3, a4⟩ := sm.hin d hd
      have b1 := le _ _ a1
      have b2 := le _ _ a2
      have b3 := le _ _ a3
      have b4 := le _ _ a4
      exact ⟨by show 0 ≤ d.1 * F; omega, b2, by show 0 ≤ d.2 * F; omega, b4⟩
    have wF : F ≤ w * F ∧ w * F ≤ 6 * F := ⟨by have := le _ _ w0; omega, le _ _ w1⟩
    have hF : F ≤ h * F ∧ h * F ≤ 6 * F := ⟨by have := le _ _ h0; omega, le _ _ h1⟩
    have szF : Sz (w * F) (h * F) := ⟨by omega, by omega, by omega, by omega⟩
    have lenF : (scP F pk).length ≤ 12 := by
      have := sm.len
      unfold scP
      rw [List.length_map]
      omega
    have ndF : (scP F pk).Nodup := by
      refine List.Pairwise.map _ (fun c d ne e => ne ?_) sm.nd
      obtain ⟨e1, e2⟩ := Prod.mk.inj e
      exact Prod.ext (Int.eq_of_mul_eq_mul_right (by omega) e1) (Int.eq_of_mul_eq_mul_right (by omega) e2)
    have bkF : ∀ nb ∈ scB F bs, BOk (w * F) (h * F) nb.1 nb.2 := fun nb hb => by
      obtain ⟨d, hd, rfl⟩ := List.mem_map.mp hb
      obtain ⟨a1, a2, a3⟩ := okb d hd
      have b1 := le _ _ a2.x0
      have b2 := le _ _ a2.x1
      have b3 := le _ _ a2.y0
      have b4 := le _ _ a2.y1
      have b5 := le _ _ a2.m0
      have b6 := le _ _ a3
      exact ⟨a1, ⟨by show 0 ≤ d.2.x * F; omega, b2, by show 0 ≤ d.2.y * F; omega, b4, a2.sx, a2.sy, a2.mv, by show 0 ≤ d.2.m * F; omega⟩, by show d.2.m * F ≤ _; omega⟩
    have fstF : (scB F bs).map Prod.fst = bs.map Prod.fst := by
      unfold scB
      rw [List.map_map]
      rfl
    have lenB : (scB F bs).length ≤ 12 := by
      unfold scB
      rw [List.length_map]
      omega
    -- game
    refine q_setC (c_makeC (c_consC (c_makeC (c_consC ?_))))
    refine c_pv (v_op (v_op (v_var rfl) v_c (r_ixT ht5 rfl)) (v_var rfl) (r_mulL ⟨by omega, by omega⟩)) (c_consC ?_)
    refine c_pv (v_op (v_op (v_var rfl) v_c (r_ixT ht5 rfl)) (v_var rfl) (r_mulL ⟨by omega, by omega⟩)) (c_consC ?_)
    refine c_pv (v_var rfl) ?_
    refine tabMake (pk := scP F pk) ⟨acc1, hl15, pr15⟩ (by omega) (by omega) (by omega) (by omega) lenF ndF inF fun px H6 pa s6 tab6 prt6 => ?_
    refine c_consC (c_pv (v_var rfl) ?_)
    refine gamMake (bs := scB F bs) tab6 szF prt6 inF lenF (s6 _ _ hl2) (blAll_up (Same.keep s6) pr2) bkF lenB (by rw [fstF]; exact ndb) fun g H7 os s7 G => ?_
    have s37 := s45.trans (s6.trans s7)
    have hbl7 := s37 _ _ hbl
    have lt7 := lt3.up (Same.keep s37)
    have prb7 := blAll_up (Same.keep s37) prb
    have gb : ∀ (i : Nat) (nm : Str) (b : Ball), bs[i]? = some (nm, b) → (scB F bs)[i]? = some (nm, b.sc F) := fun i nm b e => by
      unfold scB
      rw [List.getElem?_map, e]
      rfl
    have fallOf : ∀ (i : Nat) (nm : Str) (b : Ball) (o : Option Int), bs[i]? = some (nm, b) → WFall w h pk b o → os[i]? = some (o.map (· * F)) := fun i nm b o e wf => by
      obtain ⟨_, okx, _⟩ := okb _ (List.mem_of_getElem? e)
      obtain ⟨o', ho', fo'⟩ := prd_get G.fo (gb i nm b e)
      have f1 := fall_scale (F := F) Fp okx (wfall w0 h0 okx (fun p hp => ⟨⟨(sm.hin p hp).1, (sm.hin p hp).2.1⟩, (sm.hin p hp).2.2.1, (sm.hin p hp).2.2.2⟩) wf)
      rw [ho', fo'.uniq f1]
    -- for ball in balls
    refine q_forL (K := K) (xs := xs) (v_var rfl) (SqL.of hbl7) (fun i σ' H' => ∃ (v8 v10 v11 : Option V), σ' = [some (.ref a), some (.ref n), some (.ref t), some (.ref bl), some (.int F), v5, some (.ref l1), some (.ref l2), v8, some (.ref g), v10, v11, none, none, none, none, none, none] ∧ Same H7 H')
      ⟨none, none, none, rfl, Same.refl _⟩ (fun i σ' H' _ ⟨_, _, _, _, s8⟩ => SqL.of (s8 _ _ hbl7)) ?_ ?_
    · rintro i x σ' H8 hi ⟨v8, v10, v11, rfl, s8⟩
      obtain ⟨nb, hc, q, rfl, hq⟩ := prd_get prb7 hi
      obtain ⟨_, okx, mx⟩ := okb nb (List.mem_of_getElem? hc)
      have m0 := okx.m0
      refine q_call (a_cons (v_var rfl) (a_cons (v_var rfl) a_nil)) ⟨t, q, w, h, pk, nb.1, nb.2, rfl, lt7.up (Same.keep s8), sm, Same.tup s8 hq, m0, mx, fun H9 o s9 wf bd => ?_⟩
      have s79 := s8.trans s9
      refine q_set v_c ?_
      refine q_ifTo (S := fun σ2 => ∃ v10, σ2 = [some (.ref a), some (.ref n), some (.ref t), some (.ref bl), some (.int F), v5, some (.ref l1), some (.ref l2), some (.ref q), some (.ref g), v10, some (ov (o.map (· * F))), none, none, none, none, none, none]) (b := o.isSome) ?_ ?_ (fun ho kk => ?_) (fun ho kk => ?_)
      · cases o with
        | none => exact b_nN0 (v_var rfl)
        | some y => exact b_nN1 (x := .int y) (v_var rfl)
      · rintro σ2 ⟨v10, rfl⟩
        obtain ⟨dxg, fsg, ba, fa, xg, hg, f1, f2, f3, hba, prs, hfa, m1, m2, m3, m4⟩ := (G.up s79).ob
        have hq9 := Same.tup s79 hq
        refine s_ifU (c_fldU ?_)
        refine ⟨_, rfl, g, dxg, fsg, rfl, hg, m3, ?_⟩
        refine a_cons (v_op (v_var rfl) v_c (r_ixT hq9 rfl)) a_nil _ ?_
        refine ⟨g, px, pa, w * F, h * F, scP F pk, scB F bs, os, i, nb.1, nb.2.sc F, o.map (· * F), rfl, G.up s79, gb i nb.1 nb.2 hc, fallOf i nb.1 nb.2 o hc wf, fun H10 lf s10 hlf => ?_⟩
        refine c_tup (vs := [.int (nb.2.m * F), ov (o.map (· * F))]) (a_cons (v_op (v_op (v_var rfl) v_c (r_ixT (Same.tup s10 hq9) rfl)) (v_var rfl) (r_mulL ⟨by omega, by omega⟩)) (a_cons (v_var rfl) a_nil)) (by show 2 ≤ 100000; decide) fun u hu => ?_
        have e11 := Same.new (o := .tup [.int (nb.2.m * F), ov (o.map (· * F))]) hu
        refine ⟨.tuple [.int (nb.2.m * F), dO (o.map (· * F))], .tuple [.int (nb.2.m * F), dO (o.map (· * F))], .tup (Same.tup e11 hlf) (.cons (.int _) (.cons (dp_ov _) .nil)), .tup (SqT.of upd_same) (.cons (.int _) (.cons (dp_ov _) .nil)), dO_shaped _ _, dO_shaped _ _, ?_⟩
        rw [dO_eqv]
        exact ⟨_, rfl, iteF ⟨_, _, _, rfl, s79.trans (s10.trans e11)⟩⟩
      · cases o with
        | none => cases ho
        | some y =>
          have := bd y rfl
          exact s_set (v_op (v_var rfl) (v_var rfl) (r_mulL ⟨by omega, by omega⟩)) (kk _ ⟨_, rfl⟩)
      · cases o with
        | none => exact kk _ ⟨_, rfl⟩
        | some y => cases ho
    rintro σ' H8 ⟨v8, v10, v11, rfl, s8⟩
    -- the two balls
    obtain ⟨⟨n1, b⟩, hb1⟩ : ∃ nb, bs[0]? = some nb := ⟨_, List.getElem?_eq_getElem (by omega)⟩
    obtain ⟨⟨n2, c⟩, hb2⟩ : ∃ nb, bs[1]? = some nb := ⟨_, List.getElem?_eq_getElem (by omega)⟩
    obtain ⟨_, okb1, mb1⟩ := okb _ (List.mem_of_getElem? hb1)
    obtain ⟨_, okb2, mb2⟩ := okb _ (List.mem_of_getElem? hb2)
    simp only at okb1 mb1 okb2 mb2
    have ne12 : n1 ≠ n2 := fun e => by
      have h1 : (bs.map Prod.fst)[0]? = some n1 := by rw [List.getElem?_map, hb1]; rfl
      have h2 : (bs.map Prod.fst)[1]? = some n2 := by rw [List.getElem?_map, hb2]; rfl
      obtain ⟨a1, a2⟩ := List.getElem?_eq_some_iff.mp h1
      obtain ⟨a3, a4⟩ := List.getElem?_eq_some_iff.mp h2
      exact List.pairwise_iff_getElem.mp ndb 0 1 a1 a3 (by decide) (by rw [a2, a4, e])
    have hbl8 := s8 _ _ hbl7
    have prb8 := blAll_up (Same.keep s8) prb7
    obtain ⟨vq1, hx1, q1, rfl, hq1⟩ := prd_getR prb8 hb1
    obtain ⟨vq2, hx2, q2, rfl, hq2⟩ := prd_getR prb8 hb2
    -- meets
    refine q_call (a_cons (v_var rfl) (a_cons (v_op (v_var rfl) v_c (r_ixL (SqL.of hbl8) (atI_nat (j := 0) hx1))) (a_cons (v_op (v_var rfl) v_c (r_ixL (SqL.of hbl8) (atI_nat (j := 1) hx2))) a_nil))) ⟨t, q1, q2, w, h, pk, n1, n2, b, c, rfl, lt7.up (Same.keep s8), sm, hq1, hq2, okb1, okb2, mb1, mb2, fun mm H9 ms o1 o2 s9 hmm wf1 wf2 W zm => ?_⟩
    have s79 := s8.trans s9
    have hbl9 := s9 _ _ hbl8
    have G9 := G.up s79
    obtain ⟨dxg, fsg, ba, fa, xg, hg, f1, f2, f3, hba, prs, hfa, m1, m2, m3, m4⟩ := G9.ob
    -- told
    refine q_setC ⟨_, rfl, g, dxg, fsg, rfl, hg, m4, ?_⟩
    refine a_cons (v_op (v_op (v_var rfl) v_c (r_ixL (SqL.of hbl9) (atI_nat (j := 0) hx1))) v_c (r_ixT (Same.tup s9 hq1) rfl)) (a_cons (v_op (v_op (v_var rfl) v_c (r_ixL (SqL.of hbl9) (atI_nat (j := 1) hx2))) v_c (r_ixT (Same.tup s9 hq2) rfl)) a_nil) _ ?_
    refine ⟨g, px, pa, w * F, h * F, scP F pk, scB F bs, os, 0, 1, n1, n2, b.sc F, c.sc F, o1.map (· * F), o2.map (· * F), rfl, G9, gb 0 n1 b hb1, gb 1 n2 c hb2, ne12, fallOf 0 n1 b o1 hb1 wf1, fallOf 1 n2 c o2 hb2 wf2, fun H10 tt st e cs s10 ta10 TD => ?_⟩
    have hmm10 := s10 _ _ hmm
    have msB : ∀ m ∈ ms, 0 ≤ m ∧ m ≤ 1000 := fun m hm => by
      obtain ⟨a1, a2, a3, _⟩ := (W.mem m).mp hm
      have a4 := (last_le a3).1
      have a5 := okb1.m0
      have a6 := small_mul w0 w1 h0 h1
      have a7 : 8 * w * h = 8 * (w * h) := Int.mul_assoc _ _ _
      omega
    have mulM : ∀ (H : Hp) (m : Int), 0 ≤ m → m ≤ 1000 → Rp (rI CMul fun i j => .int (i * j)) (.int m) (.int F) H (.int (m * F)) := fun H m a1 a2 => r_mulL ⟨by omega, by omega⟩
    -- for minute in meets[:6] + meets[-2:]
    refine q_forLU (c_fldU (c_sl (v_var rfl) o_none (o_some v_c) ⟨mm, _, rfl, SqL.of hmm10, fun r1 hr1 => ?_⟩))
    have e11 := Same.new (o := .lst (cutV (ms.map V.int) none (some 6))) hr1
    refine c_sl (v_var rfl) (o_some (v_un v_c r_U)) o_none ⟨mm, _, rfl, SqL.of (e11 _ _ hmm10), fun r2 hr2 => ?_⟩
    have e12 := Same.new (o := .lst (cutV (ms.map V.int) (some (-2)) none)) hr2
    have c1 := cut_le (ms.map V.int) none (some 6)
    have c2 := cut_le (ms.map V.int) (some (-2)) none
    rw [List.length_map] at c1 c2
    refine ⟨r1, r2, _, _, rfl, rfl, e12 _ _ upd_same, upd_same, size_of (by omega), fun r3 hr3 => ?_⟩
    have e13 := Same.new (o := .lst (cutV (ms.map V.int) none (some 6) ++ cutV (ms.map V.int) (some (-2)) none)) hr3
    generalize hH13 : upd (upd (upd H10 r1 (.lst (cutV (ms.map V.int) none (some 6)))) r2 (.lst (cutV (ms.map V.int) (some (-2)) none))) r3 (.lst (cutV (ms.map V.int) none (some 6) ++ cutV (ms.map V.int) (some (-2)) none)) = H13 at e13 ⊢
    have s13 : Same H10 H13 := e11.trans (e12.trans e13)
    have hr13 : H13 r3 = some (.lst (cutV (ms.map V.int) none (some 6) ++ cutV (ms.map V.int) (some (-2)) none)) := by
      rw [← hH13]
      exact upd_same
    refine loopLQ (K := K) (SqL.of hr13) (fun i σ' H' => ∃ (v14 : Option V), σ' = [some (.ref a), some (.ref n), some (.ref t), some (.ref bl), some (.int F), v5, some (.ref l1), some (.ref l2), v8, some (.ref g), v10, v11, some (.ref mm), some (.ref tt), v14, none, none, none] ∧ Same H13 H')
      ⟨none, rfl, Same.refl _⟩ (fun i σ' H' _ ⟨_, _, s14⟩ => SqL.of (s14 _ _ hr13)) ?_ ?_
    · rintro i x σ' H' hi ⟨v14, rfl, s14⟩
      obtain ⟨m, hm, rfl⟩ : ∃ m, m ∈ ms ∧ V.int m = x := by
        have := List.mem_of_getElem? hi
        rcases List.mem_append.mp this with z | z
        · exact List.mem_map.mp (mem_cut z)
        · exact List.mem_map.mp (mem_cut z)
      have bm := msB m hm
      have ta14 := (ta10.up s13).up s14
      obtain ⟨dt, ft, at_, ht14, g1, g2, g3, g4, t1, t2, t3⟩ := ta14.ob
      refine s_ifU (c_tNot (c_tB ⟨_, rfl, tt, dt, ft, rfl, ht14, t2, ?_⟩))
      refine a_cons (v_op (v_var rfl) (v_var rfl) (mulM _ m bm.1 bm.2)) a_nil _ ?_
      refine ⟨tt, m * F, st, e, cs, rfl, ta14, fun b' H15 s15 hb' => ⟨b', rfl, ?_⟩⟩
      rw [hb'.mpr (law_holds Fp TD W hm)]
      exact iteF ⟨_, rfl, s14.trans s15⟩
    rintro σ' H14 ⟨v14, rfl, s14⟩
    have ta14 := (ta10.up s13).up s14
    have hmm14 := s14 _ _ (s13 _ _ hmm10)
    obtain ⟨dt, ft, at_, ht14, g1, g2, g3, g4, t1, t2, t3⟩ := id ta14.ob
    have st0 : 0 ≤ st := by
      have := TD.es
      have a1 : 0 ≤ (b.sc F).m := Int.mul_nonneg okb1.m0 (by omega)
      have a2 : 0 ≤ (c.sc F).m := Int.mul_nonneg okb2.m0 (by omega)
      rw [this]
      split <;> omega
    have est : (if st > 0 then st else 0) = st := by
      split <;> omega
    -- first = told.next_from(0)
    have lenM : ((ms.map V.int).length : Int) = (ms.length : Int) := by rw [List.length_map]
    refine q_setC ⟨_, rfl, tt, dt, ft, rfl, ht14, t3, a_cons v_c a_nil _ ?_⟩
    cases ms with
    | nil =>
      refine ⟨tt, 0, st, e, cs, rfl, ta14, ?_, ?_⟩
      · intro H15 u s15 hn hw
        have hmm15 := s15 _ _ hmm14
        refine q_when (b := false) (b_and (a := false) (b := false) (b_is (b_test (v_op (v_cb (a_cons (v_var rfl) a_nil) (c_len (.inl (SqL.of hmm15)))) v_c r_I0)) (decide_eq_false (by first | decide | simp))) (fun z => by cases z)) (fun z => by cases z) (fun _ => ?_)
        refine q_when (b := false) (b_is (b_test (v_op (v_cb (a_cons (v_var rfl) a_nil) (c_len (.inl (SqL.of hmm15)))) v_c r_I0)) (decide_eq_false (by first | decide | simp))) (fun z => by cases z) (fun _ => ?_)
        refine q_forR2 (lo := 0) (n := 40) (a_cons v_c (a_cons v_c a_nil)) (by decide) (by decide) (by decide) (by decide) (fun i σ' H' => ∃ (v14 : Option V), σ' = [some (.ref a), some (.ref n), some (.ref t), some (.ref bl), some (.int F), v5, some (.ref l1), some (.ref l2), v8, some (.ref g), v10, v11, some (.ref mm), some (.ref tt), v14, some (.int u), none, none] ∧ Same H14 H')
          ⟨_, rfl, s15⟩ ?_ ?_
        · rintro i σ' H' hi ⟨w14, rfl, s16⟩
          have ta16 := ta14.up s16
          refine s_ifU (c_tB ⟨_, rfl, tt, dt, ft, rfl, s16 _ _ ht14, t2, ?_⟩)
          refine a_cons (v_op (v_var rfl) (v_var rfl) (mulM _ (0 + (i : Int)) (by omega) (by omega))) a_nil _ ?_
          refine ⟨tt, (0 + (i : Int)) * F, st, e, cs, rfl, ta16, fun b' H17 s17 hb' => ⟨b', rfl, ?_⟩⟩
          cases b' with
          | false => exact iteF ⟨_, rfl, s16.trans s17⟩
          | true => exact absurd (hb'.mp rfl) (law_none Fp w0 h0 rfl mb1 mb2 TD W _)
        · rintro σ' H' ⟨w14, rfl, s16⟩
          exact s_ret v_c (k _)
      · intro H15 s15 hno
        have hmm15 := s15 _ _ hmm14
        refine q_when (b := false) (b_and (a := false) (b := false) (b_is (b_test (v_op (v_cb (a_cons (v_var rfl) a_nil) (c_len (.inl (SqL.of hmm15)))) v_c r_I0)) (decide_eq_false (by first | decide | simp))) (fun z => by cases z)) (fun z => by cases z) (fun _ => ?_)
        refine q_when (b := false) (b_is (b_test (v_op (v_cb (a_cons (v_var rfl) a_nil) (c_len (.inl (SqL.of hmm15)))) v_c r_I0)) (decide_eq_false (by first | decide | simp))) (fun z => by cases z) (fun _ => ?_)
        refine q_forR2 (lo := 0) (n := 40) (a_cons v_c (a_cons v_c a_nil)) (by decide) (by decide) (by decide) (by decide) (fun i σ' H' => ∃ (v14 : Option V), σ' = [some (.ref a), some (.ref n), some (.ref t), some (.ref bl), some (.int F), v5, some (.ref l1), some (.ref l2), v8, some (.ref g), v10, v11, some (.ref mm), some (.ref tt), v14, some (.non), none, none] ∧ Same H14 H')
          ⟨_, rfl, s15⟩ ?_ ?_
        · rintro i σ' H' hi ⟨w14, rfl, s16⟩
          have ta16 := ta14.up s16
          refine s_ifU (c_tB ⟨_, rfl, tt, dt, ft, rfl, s16 _ _ ht14, t2, ?_⟩)
          refine a_cons (v_op (v_var rfl) (v_var rfl) (mulM _ (0 + (i : Int)) (by omega) (by omega))) a_nil _ ?_
          refine ⟨tt, (0 + (i : Int)) * F, st, e, cs, rfl, ta16, fun b' H17 s17 hb' => ⟨b', rfl, ?_⟩⟩
          cases b' with
          | false => exact iteF ⟨_, rfl, s16.trans s17⟩
          | true => exact absurd (hb'.mp rfl) (law_none Fp w0 h0 rfl mb1 mb2 TD W _)
        · rintro σ' H' ⟨w14, rfl, s16⟩
          exact s_ret v_c (k _)
    | cons t0 r =>
      obtain ⟨u0, hf, wf, lef, oneF⟩ := law_first Fp TD W
      have b0 := msB t0 (List.mem_cons_self ..)
      refine ⟨tt, 0, st, e, cs, rfl, ta14, ?_, ?_⟩
      · intro H15 u s15 hn hw
        rw [est] at hn
        have eu := hn.uniq hf
        subst eu
        have hmm15 := s15 _ _ hmm14
        have lenP : ((((t0 :: r).map V.int).length : Nat) : Int) > 0 := by
          rw [List.length_map, List.length_cons]
          omega
        have len1 : ∀ σ' : L2.St, σ'[12]? = some (some (.ref mm)) → Pv (tCB (rLenSq K) (tCons (tVar 12) tNil)) σ' H15 (.int (((t0 :: r).map V.int).length : Nat)) := fun σ' a1 => v_cb (a_cons (v_var a1) a_nil) (c_len (.inl (SqL.of hmm15)))
        refine q_when (b := false) (b_and (a := true) (b := false) (b_is (b_test (v_op (len1 _ rfl) v_c r_I0)) (decide_eq_true lenP)) fun _ => ?_) (fun z => by cases z) (fun _ => ?_)
        · by_cases hF1 : F = 1
          · refine b_and (a := true) (b := false) (b_is (b_test (v_op (v_var rfl) v_c (r_eq rfl))) (decide_eq_true (by rw [hF1]))) fun _ => b_is (b_test (v_op (v_var rfl) (v_op (v_var rfl) v_c (r_ixL (v := .int t0) (SqL.of hmm15) (atI_nat (j := 0) rfl))) (r_ne rfl))) ?_
            rw [oneF hF1]
            simp
          · exact b_and (a := false) (b := false) (b_is (b_test (v_op (v_var rfl) v_c (r_eq rfl))) (decide_eq_false (fun z => hF1 (by injection z)))) (fun z => by cases z)
        refine q_when (b := true) (b_is (b_test (v_op (len1 _ rfl) v_c r_I0)) (decide_eq_true lenP)) (fun _ => ?_) (fun z => by cases z)
        refine s_retC (c_andV (c_pv (v_is (w := .bl true) (v_notN (x := .int u) (v_var rfl)) rfl) ⟨true, rfl, iteT (c_andV ?_)⟩))
        refine c_pv (v_is (w := .bl true) (v_op (v_var rfl) (v_op (v_op (v_var rfl) v_c (r_ixL (SqL.of hmm15) (atI_nat (j := 0) rfl))) (v_var rfl) (mulM _ t0 b0.1 b0.2)) r_I0) (by rw [decide_eq_true lef])) ⟨true, rfl, iteT (c_fldU ?_)⟩
        refine ⟨_, rfl, tt, dt, ft, rfl, s15 _ _ ht14, t2, a_cons (v_var rfl) a_nil _ ?_⟩
        refine ⟨tt, u, st, e, cs, rfl, ta14.up s15, fun b' H16 s16 hb' => c_pv v_c ⟨b', true, rfl, rfl, ?_⟩⟩
        rw [hb'.mpr ⟨wf, hf.2.1⟩]
        exact k _
      · intro H15 s15 hno
        exact absurd wf (hno u0 (by rw [est]; exact hf.1) hf.2.1)
end
end Cu
end
section
set_option Elab.async false
set_option linter.all false
set_option maxRecDepth 100000
set_option maxHeartbeats 4000000
namespace Cu
open PySem PySem.Spec PyProof.Rows L2 CuM
local macro_rules | `(tactic| walk_at "hp") => `(tactic| first
  | assumption
  | exact SqT.of (by assumption)
  | exact SqL.of (by assumption)
  | (apply SqT.of; walk_at "hq")
  | (apply SqL.of; walk_at "hq")
  | walk_at "hq")
local macro_rules | `(tactic| walk_at "hq") => `(tactic| first
  | assumption
  | exact upd_same
  | (refine Same.new (by assumption) _ _ ?_; walk_at "hq")
  | (refine Same.tup (Same.new (by assumption)) ?_; walk_at "hp")
  | (refine L2.Same.seq (Same.new (by assumption)) ?_; walk_at "hp"))
local macro_rules | `(tactic| walk_at "pv") => `(tactic| first
  | with_reducible exact v_c
  | ((with_reducible apply v_var); rfl)
  | (with_reducible apply v_op) <;> walk_at "pv"
  | (with_reducible apply v_un) <;> walk_at "pv"
  | (with_reducible apply v_fld) <;> walk_at "pv"
  | (with_reducible apply v_chain) <;> walk_at "pv"
  | (with_reducible apply v_and) <;> walk_at "pv"
  | (with_reducible apply v_or) <;> walk_at "pv"
  | (with_reducible apply v_not) <;> walk_at "pv"
  | (with_reducible apply v_isN) <;> walk_at "pv"
  | (with_reducible apply v_notN) <;> walk_at "pv"
  | (with_reducible apply v_cb) <;> walk_at "pv"
  | with_reducible exact a_nil
  | (with_reducible apply a_cons) <;> walk_at "pv"
  | (with_reducible apply b_test) <;> walk_at "pv"
  | (with_reducible apply b_B) <;> walk_at "pv"
  | (with_reducible apply b_and) <;> walk_at "pv"
  | (with_reducible apply b_or) <;> walk_at "pv"
  | (with_reducible apply b_not) <;> walk_at "pv"
  | with_reducible exact r_I0
  | with_reducible exact r_U
  | ((with_reducible apply r_I); walk_at "side")
  | ((with_reducible apply r_ixT); walk_at "hp"; first | rfl | assumption)
  | ((with_reducible apply r_ixL); walk_at "hp"; first | rfl | assumption)
  | ((with_reducible apply r_eq); rfl)
  | ((with_reducible apply r_ne); rfl)
  | ((with_reducible apply r_inT); walk_at "hp"; rfl; first | rfl | assumption)
  | ((with_reducible apply r_inL); walk_at "hp"; rfl; first | rfl | assumption)
  | with_reducible exact o_none
  | (with_reducible apply o_some) <;> walk_at "pv"
  | (intro _; walk_at "pv")
  | assumption
  | rfl
  | walk_at "side")
local macro_rules | `(tactic| walk_at "side") => `(tactic| first
  | assumption
  | (show (0 : Int) < _; first | decide | omega)
  | (show (0 : Int) < _ ∧ _ < (1073741824 : Int); exact ⟨by decide, by decide⟩)
  | walk_at "hp"
  | rfl)

/-! ### from the head's facts to the law -/
theorem sq2 {K : PySem.W.Frag} {a : Addr} {vs : List V} (h : (match K.lookup a with
  | some ⟨.type c, _, .seq its _, _⟩ => decide (c = "tuple") && (decide (its.size ≤ sizeLine) && He.relAll vs its.toList)
  | _ => false) = true) (H : Hp) : SqT K H a vs := by
  cases q : K.lookup a with
  | none =>
    rw [q] at h
    cases h
  | some o =>
    obtain ⟨oc, od, dt, osl⟩ := o
    rw [q] at h
    cases oc with
    | type c =>
      cases dt with
      | seq its n =>
        obtain ⟨h1, h2⟩ := He.ba (show (decide (c = "tuple") && (decide (its.size ≤ sizeLine) && He.relAll vs its.toList)) = true from h)
        obtain ⟨h3, h4⟩ := He.ba h2
        have e := of_decide_eq_true h1
        subst e
        exact .inr ⟨_, its, n, q, rfl, rfl, of_decide_eq_true h3, He.relAll_ok h4⟩
      | _ => cases h
    | _ => cases h
theorem sl1 {K : PySem.W.Frag} {a : Addr} {vs : List V} (h : (match K.lookup a with
  | some ⟨.type c, none, .seq its _, _⟩ => decide (c = "list") && (decide (its.size ≤ sizeLine) && He.relAll vs its.toList)
  | _ => false) = true) (H : Hp) : SqL K H a vs := by
  cases q : K.lookup a with
  | none =>
    rw [q] at h
    cases h
  | some o =>
    obtain ⟨oc, od, dt, osl⟩ := o
    rw [q] at h
    cases oc with
    | type c =>
      cases od with
      | none =>
        cases dt with
        | seq its n =>
          obtain ⟨h1, h2⟩ := He.ba (show (decide (c = "list") && (decide (its.size ≤ sizeLine) && He.relAll vs its.toList)) = true from h)
          obtain ⟨h3, h4⟩ := He.ba h2
          have e := of_decide_eq_true h1
          subst e
          exact .inr ⟨_, its, n, q, rfl, rfl, rfl, of_decide_eq_true h3, He.relAll_ok h4⟩
        | _ => cases h
      | some d => cases dt <;> cases h
    | _ => cases h
theorem getFn {K : PySem.W.Frag} (e : getW K = getV) (c : getB K = true) (kp : PySem.W.keepIn K (.ref (getter K)) = true) : ∃ fd, FnP K "names" "Game.names" sNames [] (getter K) fd := by
  unfold getW at e
  unfold getB at c
  cases q : K.lookup (getter K) with
  | none =>
    rw [q] at c
    cases c
  | some o =>
    obtain ⟨oc, od, dt, osl⟩ := o
    rw [q] at c e
    cases dt with
    | func fd =>
      obtain ⟨n1, n2, n3, n4, n5, n6, n7, n8, n9, n10, n11, n12, n13, n14, n15⟩ := fd
      have e2 : (some (n1, n2, n3, n4, n5, n6, n7, n15) : He.FnW) = (some (("names" : Str), ("Game.names" : Str), defArgs sNames, PySem.FuncBody.stmts (defBody sNames), defScope sNames, mainGlobals, [], builtinsNs) : He.FnW) := e
      simp only [Option.some.injEq, Prod.mk.injEq] at e2
      obtain ⟨h1, h2, h3, h4, h5, h6, h7, h8⟩ := e2
      subst h1 h2 h3 h4 h5 h6 h7 h8
      obtain ⟨k1, k2⟩ := He.ba (show (PySem.W.codeIn K n13 "Game.names" && He.dflB K n8 []) = true from c)
      exact ⟨_, ⟨oc, od, n8, n9, n10, n11, n12, n13, n14, osl, rfl, q, k1, He.dflB_ok k2, .inl rfl⟩, kp⟩
    | _ => cases c
theorem propRec {K : PySem.W.Frag} (h : propB K = true) : ∃ rest, PySem.W.recIn K (He.ma K (He.ga K "Game") "names") "property" = some (.ref (getter K) :: rest) := by
  unfold propB at h
  unfold getter
  cases q : PySem.W.recIn K (He.ma K (He.ga K "Game") "names") "property" with
  | none =>
    rw [q] at h
    cases h
  | some l =>
    rw [q] at h
    cases l with
    | nil => cases h
    | cons v rest => cases v with
      | ref g => exact ⟨rest, rfl⟩
      | _ => cases h
theorem bindsD {K : PySem.W.Frag} {x qual : Str} {params : Arguments} {body : List Stmt} {scope : Scope} {dvs : List V} {f : Addr} {fd : FuncData} {ps : List Str} (F : FunD K x qual params body scope dvs [] f fd) (n : Nat) (hl : dvs.length = 1)
    (h : ∀ (T : Addr) (kV doc pm : Value) (an : Option Addr) (cdv ct : Value) (us its : List Value), us.length = n → its.length = 1 → ∃ k, bindArgs (PySem.W.fnOf x qual params body scope (.ref T) kV doc pm an cdv ct) ⟨us, []⟩ = seqItems? (.ref T) >>= k ∧ k (some its.toArray) = pure (ps.zip (us ++ its.drop 1))) (hn : n = ps.length := by rfl) : Binds K fd ps [] := by
  obtain ⟨ds, hv, hb⟩ := F.binds1 (ps := ps) n 1 (fun e => by rw [e] at hl; cases hl) (by omega) (fun T kV doc pm an cdv ct us its a b => h T kV doc pm an cdv ct us its a (b.trans hl))
  rw [show dvs.drop 1 = [] from List.drop_eq_nil_of_le (by omega)] at hv
  cases hv
  exact hb
theorem tx {K : PySem.W.Frag} {h : Heap} {mg : Str → Option Value} (X : K.In h) (G : h.Ns mainGlobals mg) (c : He.SaysD fa fn K) (m : moreB K = true) : Tx K mg := by
  obtain ⟨g1, m⟩ := He.ba (show (_ && _) = true from m)
  obtain ⟨g2, m⟩ := He.ba m
  obtain ⟨g3, m⟩ := He.ba m
  obtain ⟨g4, m⟩ := He.ba m
  obtain ⟨g5, m⟩ := He.ba m
  obtain ⟨g6, m⟩ := He.ba m
  obtain ⟨g7, m⟩ := He.ba m
  obtain ⟨g8, m⟩ := He.ba m
  obtain ⟨g9, g10⟩ := He.ba m
  exact ⟨He.free_ok X G (c.fact 35 (f := .free "len") rfl), He.free_ok X G (c.fact 36 (f := .free "abs") rfl), He.free_ok X G (c.fact 37 (f := .free "int") rfl), He.free_ok X G (c.fact 38 (f := .free "range") rfl), He.free_ok X G (c.fact 39 (f := .free "max") rfl), He.free_ok X G (c.fact 40 (f := .free "min") rfl), He.free_ok X G (c.fact 41 (f := .free "all") rfl), He.free_ok X G (c.fact 42 (f := .free "any") rfl), He.free_ok X G (c.fact 43 (f := .free "tuple") rfl), He.free_ok X G (c.fact 44 (f := .free "list") rfl), He.free_ok X G (c.fact 45 (f := .free "enumerate") rfl), He.free_ok X G (c.fact 46 (f := .free "sorted") rfl), He.free_ok X G (c.fact 47 (f := .free "isinstance") rfl), PySem.W.mg_of X G (He.eqO_ok g1), He.int_ok X G (c.fact 72 (f := .int "MOST" (10 ^ 30)) rfl), He.int_ok X G (c.fact 73 (f := .int "MOST_POCKETS" 12) rfl), He.int_ok X G (c.fact 74 (f := .int "MOST_NAME_CHARS" 12) rfl), He.int_ok X G (c.fact 75 (f := .int "MOST_BALLS" 12) rfl), He.int_ok X G (c.fact 76 (f := .int "MOST_CLASSES" 64) rfl), He.str_ok X G (c.fact 77 (f := .str "NAME_CHARS" "abcdefghijklmnopqrstuvwxyz0123456789") rfl), He.glo_ok X G (c.fact 34 (f := .glo "WHOLE") rfl), sl1 g9, sq2 g8, He.cls_ok (c.fact 66 (f := .cls "Table") rfl), He.cls_ok (c.fact 67 (f := .cls "Times") rfl), He.cls_ok (c.fact 68 (f := .cls "Game") rfl), He.noat_ok (c.fact 48 (f := .noat "Table" "width") rfl), He.noat_ok (c.fact 49 (f := .noat "Table" "height") rfl), He.noat_ok (c.fact 50 (f := .noat "Table" "pockets") rfl), He.noat_ok (c.fact 51 (f := .noat "Times" "start") rfl), He.noat_ok (c.fact 52 (f := .noat "Times" "end") rfl), He.noat_ok (c.fact 53 (f := .noat "Times" "classes") rfl), He.noat_ok (c.fact 54 (f := .noat "Game" "table") rfl), He.noat_ok (c.fact 55 (f := .noat "Game" "balls") rfl), He.noat_ok (c.fact 56 (f := .noat "Game" "falls") rfl)⟩
theorem facts {P : Program} {w : World} {K : PySem.W.Frag} {h : Heap} {mg : Str → Option Value} {f : Addr} (X : K.In h) (G : h.Ns mainGlobals mg) (hfa : mg ("law" : Str) = some (.ref f)) (c : He.SaysD fa fn K) (m : moreB K = true) (gw : getW K = getV) :
    ∃ fd : FuncData, (∀ (s : Shared) (v : Value), BindsTo s fd ⟨[v], []⟩ [("_law_script", v)]) ∧ ∀ base : Heap, K.In base → base.Ns mainGlobals mg → FnOk P w K mg base CX0 9 f fd ["_law_script"] (spLaw K) := by
  have T := tx X G c m
  obtain ⟨_, m⟩ := He.ba (show (_ && _) = true from m)
  obtain ⟨g2, m⟩ := He.ba m
  obtain ⟨g3, m⟩ := He.ba m
  obtain ⟨g4, m⟩ := He.ba m
  obtain ⟨g5, m⟩ := He.ba m
  obtain ⟨g6, m⟩ := He.ba m
  obtain ⟨g7, m⟩ := He.ba m
  obtain ⟨g8, m⟩ := He.ba m
  obtain ⟨g9, g10⟩ := He.ba m
  have em := of_decide_eq_true g10
  obtain ⟨d8, F8⟩ := c.def_ 8 (d := dG "inverse" sInv) rfl
  have b8 : Binds K d8 ["number", "modulus"] [] := F8.bindsN fun _ _ _ _ _ _ us hl => match us, hl with | [_, _], _ => rfl
  obtain ⟨d9, F9⟩ := c.def_ 9 (d := dG "chinese" sChin) rfl
  have b9 : Binds K d9 ["one", "other"] [] := F9.bindsN fun _ _ _ _ _ _ us hl => match us, hl with | [_, _], _ => rfl
  obtain ⟨d10, F10⟩ := c.def_ 10 (d := dG "solved" sSolved) rfl
  have b10 : Binds K d10 ["factor", "right", "modulus"] [] := F10.bindsN fun _ _ _ _ _ _ us hl => match us, hl with | [_, _, _], _ => rfl
  obtain ⟨d11, F11⟩ := c.def_ 11 (d := dG "united" sUnited) rfl
  have b11 : Binds K d11 ["one", "other"] [] := F11.bindsN fun _ _ _ _ _ _ us hl => match us, hl with | [_, _], _ => rfl
  obtain ⟨d12, F12⟩ := c.def_ 12 (d := dG "point_classes" sPtCls) rfl
  have b12 : Binds K d12 ["size", "at", "step", "goal"] [] := F12.bindsN fun _ _ _ _ _ _ us hl => match us, hl with | [_, _, _, _], _ => rfl
  obtain ⟨d13, F13⟩ := c.def_ 13 (d := dG "meeting_classes" sMeCls) rfl
  have b13 : Binds K d13 ["size", "at", "step", "other", "move"] [] := F13.bindsN fun _ _ _ _ _ _ us hl => match us, hl with | [_, _, _, _, _], _ => rfl
  obtain ⟨d14, F14⟩ := c.def_ 14 (d := dG "crossed" sCrossed) rfl
  have b14 : Binds K d14 ["one", "other"] [] := F14.bindsN fun _ _ _ _ _ _ us hl => match us, hl with | [_, _], _ => rfl
  obtain ⟨d15, F15⟩ := c.def_ 15 (d := dG "is_class" sIsCls) rfl
  have b15 : Binds K d15 ["one"] [] := F15.bindsN fun _ _ _ _ _ _ us hl => match us, hl with | [_], _ => rfl
  obtain ⟨d16, F16⟩ := c.def_ 16 (d := dG "are_apart" sApart) rfl
  have b16 : Binds K d16 ["one", "other"] [] := F16.bindsN fun _ _ _ _ _ _ us hl => match us, hl with | [_, _], _ => rfl
  obtain ⟨d17, F17⟩ := c.def_ 17 (d := dM "Times" "__init__" "Times.__init__" sTimI) rfl
  have b17 : Binds K d17 ["self", "start", "end", "classes"] [] := F17.bindsN fun _ _ _ _ _ _ us hl => match us, hl with | [_, _, _, _], _ => rfl
  obtain ⟨d18, F18⟩ := c.def_ 18 (d := dM "Times" "is_within" "Times.is_within" sWithin) rfl
  have b18 : Binds K d18 ["self", "minute"] [] := F18.bindsN fun _ _ _ _ _ _ us hl => match us, hl with | [_, _], _ => rfl
  obtain ⟨d19, F19⟩ := c.def_ 19 (d := dM "Times" "holds" "Times.holds" sHolds) rfl
  have b19 : Binds K d19 ["self", "minute"] [] := F19.bindsN fun _ _ _ _ _ _ us hl => match us, hl with | [_, _], _ => rfl
  obtain ⟨d20, F20⟩ := c.def_ 20 (d := dM "Times" "next_from" "Times.next_from" sNext) rfl
  have b20 : Binds K d20 ["self", "minute"] [] := F20.bindsN fun _ _ _ _ _ _ us hl => match us, hl with | [_, _], _ => rfl
  obtain ⟨d0, F0⟩ := c.def_ 0 (d := dG "require" sReq) rfl
  have b0 : Binds K d0 ["holds"] [] := F0.bindsN fun _ _ _ _ _ _ us hl => match us, hl with | [_], _ => rfl
  obtain ⟨d2, F2⟩ := c.def_ 2 (d := dM "Table" "is_point" "Table.is_point" sIsPt) rfl
  have b2 : Binds K d2 ["self", "point"] [] := F2.bindsN fun _ _ _ _ _ _ us hl => match us, hl with | [_, _], _ => rfl
  obtain ⟨d3, F3⟩ := c.def_ 3 (d := dM "Table" "check_point" "Table.check_point" sChPt) rfl
  have b3 : Binds K d3 ["self", "point"] [] := F3.bindsN fun _ _ _ _ _ _ us hl => match us, hl with | [_, _], _ => rfl
  obtain ⟨d1, F1⟩ := c.def_ 1 (d := dM1 "Table" "__init__" "Table.__init__" sTabI) rfl
  have b1 : Binds K d1 ["self", "width", "height", "pockets"] [] := bindsD F1 4 rfl fun _ _ _ _ _ _ _ us its hl hi => match us, its, hl, hi with | [_, _, _, _], [_], _, _ => ⟨_, rfl, rfl⟩
  obtain ⟨d4, F4⟩ := c.def_ 4 (d := dG "is_name" sIsName) rfl
  have b4 : Binds K d4 ["text"] [] := F4.bindsN fun _ _ _ _ _ _ us hl => match us, hl with | [_], _ => rfl
  obtain ⟨d5, F5⟩ := c.def_ 5 (d := dG "is_ball" sIsBall) rfl
  have b5 : Binds K d5 ["table", "ball"] [] := F5.bindsN fun _ _ _ _ _ _ us hl => match us, hl with | [_, _], _ => rfl
  obtain ⟨d6, F6⟩ := c.def_ 6 (d := dG "check_ball" sChBall) rfl
  have b6 : Binds K d6 ["table", "ball"] [] := F6.bindsN fun _ _ _ _ _ _ us hl => match us, hl with | [_, _], _ => rfl
  obtain ⟨d7, F7⟩ := c.def_ 7 (d := dG "check_balls" sChBalls) rfl
  have b7 : Binds K d7 ["table", "balls"] [] := F7.bindsN fun _ _ _ _ _ _ us hl => match us, hl with | [_, _], _ => rfl
  obtain ⟨d21, F21⟩ := c.def_ 21 (d := dG "part_classes" sPartCls) rfl
  have b21 : Binds K d21 ["table", "one", "other"] [] := F21.bindsN fun _ _ _ _ _ _ us hl => match us, hl with | [_, _, _], _ => rfl
  obtain ⟨d22, F22⟩ := c.def_ 22 (d := dG "at_point" sAtPt) rfl
  have b22 : Binds K d22 ["table", "ball", "point"] [] := F22.bindsN fun _ _ _ _ _ _ us hl => match us, hl with | [_, _, _], _ => rfl
  obtain ⟨d23, F23⟩ := c.def_ 23 (d := dG "meetings" sMeets) rfl
  have b23 : Binds K d23 ["table", "one", "other"] [] := F23.bindsN fun _ _ _ _ _ _ us hl => match us, hl with | [_, _, _], _ => rfl
  obtain ⟨d24, F24⟩ := c.def_ 24 (d := dG "fall_of" sFallOf) rfl
  have b24 : Binds K d24 ["table", "ball"] [] := F24.bindsN fun _ _ _ _ _ _ us hl => match us, hl with | [_, _], _ => rfl
  obtain ⟨d25, F25⟩ := c.def_ 25 (d := dG "first_fall" sFirstFall) rfl
  have b25 : Binds K d25 ["table", "ball"] [] := F25.bindsN fun _ _ _ _ _ _ us hl => match us, hl with | [_, _], _ => rfl
  obtain ⟨d26, F26⟩ := c.def_ 26 (d := dG "earlier" sEarlier) rfl
  have b26 : Binds K d26 ["one", "other"] [] := F26.bindsN fun _ _ _ _ _ _ us hl => match us, hl with | [_, _], _ => rfl
  obtain ⟨d27, F27⟩ := c.def_ 27 (d := dM1 "Game" "__init__" "Game.__init__" sGamI) rfl
  have b27 : Binds K d27 ["self", "table", "balls"] [] := bindsD F27 3 rfl fun _ _ _ _ _ _ _ us its hl hi => match us, its, hl, hi with | [_, _, _], [_], _, _ => ⟨_, rfl, rfl⟩
  obtain ⟨d28, F28⟩ := c.def_ 28 (d := dM "Game" "number" "Game.number" sNumber) rfl
  have b28 : Binds K d28 ["self", "name"] [] := F28.bindsN fun _ _ _ _ _ _ us hl => match us, hl with | [_, _], _ => rfl
  obtain ⟨d29, F29⟩ := c.def_ 29 (d := dM "Game" "ball" "Game.ball" sBallM) rfl
  have b29 : Binds K d29 ["self", "name"] [] := F29.bindsN fun _ _ _ _ _ _ us hl => match us, hl with | [_, _], _ => rfl
  obtain ⟨d30, F30⟩ := c.def_ 30 (d := dM "Game" "life" "Game.life" sLife) rfl
  have b30 : Binds K d30 ["self", "name"] [] := F30.bindsN fun _ _ _ _ _ _ us hl => match us, hl with | [_, _], _ => rfl
  obtain ⟨d31, F31⟩ := c.def_ 31 (d := dM "Game" "meetings" "Game.meetings" sGMeets) rfl
  have b31 : Binds K d31 ["self", "one", "other"] [] := F31.bindsN fun _ _ _ _ _ _ us hl => match us, hl with | [_, _, _], _ => rfl
  obtain ⟨d32, F32⟩ := c.def_ 32 (d := dG "_law_row" sLRow) rfl
  have b32 : Binds K d32 ["_law_cell", "_law_many"] [] := F32.bindsN fun _ _ _ _ _ _ us hl => match us, hl with | [_, _], _ => rfl
  obtain ⟨d33, F33⟩ := c.def_ 33 (d := dG "_law_numbers" sLNumbers) rfl
  have b33 : Binds K d33 ["_law_script", "_law_many"] [] := F33.bindsN fun _ _ _ _ _ _ us hl => match us, hl with | [_, _], _ => rfl
  obtain ⟨d34, F34⟩ := c.def_ 34 (d := dG "_law_names" sLNames) rfl
  have b34 : Binds K d34 ["_law_number", "_law_many"] [] := F34.bindsN fun _ _ _ _ _ _ us hl => match us, hl with | [_, _], _ => rfl
  obtain ⟨d35, F35⟩ := c.def_ 35 (d := dG "_law_table" sLTable) rfl
  have b35 : Binds K d35 ["_law_numbers_here", "_law_at"] [] := F35.bindsN fun _ _ _ _ _ _ us hl => match us, hl with | [_, _], _ => rfl
  obtain ⟨d36, F36⟩ := c.def_ 36 (d := dG "_law_ball" sLBall) rfl
  have b36 : Binds K d36 ["_law_numbers_here", "_law_at", "_law_name", "_law_width", "_law_height"] [] := F36.bindsN fun _ _ _ _ _ _ us hl => match us, hl with | [_, _, _, _, _], _ => rfl
  obtain ⟨d37, F37⟩ := c.def_ 37 (d := dG "_law_walk" sLWalk) rfl
  have b37 : Binds K d37 ["_law_width", "_law_height", "_law_ball_here", "_law_many"] [] := F37.bindsN fun _ _ _ _ _ _ us hl => match us, hl with | [_, _, _, _], _ => rfl
  obtain ⟨d38, F38⟩ := c.def_ 38 (d := dG "_law_fall" sLFall) rfl
  have b38 : Binds K d38 ["_law_table_here", "_law_ball_here"] [] := F38.bindsN fun _ _ _ _ _ _ us hl => match us, hl with | [_, _], _ => rfl
  obtain ⟨d39, F39⟩ := c.def_ 39 (d := dG "_law_balls" sLBalls) rfl
  have b39 : Binds K d39 ["_law_numbers_here", "_law_at", "_law_many", "_law_table_here"] [] := F39.bindsN fun _ _ _ _ _ _ us hl => match us, hl with | [_, _, _, _], _ => rfl
  obtain ⟨d40, F40⟩ := c.def_ 40 (d := dG "_law_meets" sLMeets) rfl
  have b40 : Binds K d40 ["_law_table_here", "_law_one", "_law_other"] [] := F40.bindsN fun _ _ _ _ _ _ us hl => match us, hl with | [_, _, _], _ => rfl
  obtain ⟨d41, F41⟩ := c.def_ 41 (d := dG "law" sLaw) rfl
  have b41 : Binds K d41 ["_law_script"] [] := F41.bindsN fun _ _ _ _ _ _ us hl => match us, hl with | [_], _ => rfl
  obtain ⟨dn, Fn⟩ := getFn gw g6 g7
  have bn : Binds K dn ["self"] [] := Fn.bindsN fun _ _ _ _ _ _ us hl => match us, hl with | [_], _ => rfl
  have e := hfa.symm.trans (He.glo_ok X G (c.fact 33 (f := .glo "law") rfl))
  cases e
  refine ⟨d41, fun s v => FunD.bindsA (ps := ["_law_script"]) F41 (fun _ _ _ _ _ _ us hl => match us, hl with | [_], _ => rfl) s [v] rfl, fun base _ _ => ?_⟩
  have G_inverse : Df P w K mg base 1 "inverse" ["number", "modulus"] spInv := ⟨_, d8, ok_inverse F8 T, b8, F8.kp, He.glo_ok X G (c.fact 6 (f := .glo "inverse") rfl)⟩
  have G_chinese : Df P w K mg base 2 "chinese" ["one", "other"] (spChin K) := ⟨_, d9, ok_chinese F9 T G_inverse, b9, F9.kp, He.glo_ok X G (c.fact 7 (f := .glo "chinese") rfl)⟩
  have G_solved : Df P w K mg base 1 "solved" ["factor", "right", "modulus"] (spSolved K) := ⟨_, d10, ok_solved F10 T, b10, F10.kp, He.glo_ok X G (c.fact 8 (f := .glo "solved") rfl)⟩
  have G_united : Df P w K mg base 1 "united" ["one", "other"] (spUnited K) := ⟨_, d11, ok_united F11 T, b11, F11.kp, He.glo_ok X G (c.fact 9 (f := .glo "united") rfl)⟩
  have G_point_classes : Df P w K mg base 2 "point_classes" ["size", "at", "step", "goal"] (spPtCls K) := ⟨_, d12, ok_ptCls F12 T G_solved G_united, b12, F12.kp, He.glo_ok X G (c.fact 10 (f := .glo "point_classes") rfl)⟩
  have G_meeting_classes : Df P w K mg base 2 "meeting_classes" ["size", "at", "step", "other", "move"] (spMeCls K) := ⟨_, d13, ok_meCls F13 T G_solved G_united, b13, F13.kp, He.glo_ok X G (c.fact 11 (f := .glo "meeting_classes") rfl)⟩
  have G_crossed : Df P w K mg base 3 "crossed" ["one", "other"] (spCrossed K) := ⟨_, d14, ok_crossed F14 T G_chinese, b14, F14.kp, He.glo_ok X G (c.fact 12 (f := .glo "crossed") rfl)⟩
  have G_is_class : Df P w K mg base 1 "is_class" ["one"] (spIsCls K) := ⟨_, d15, ok_isCls F15 T, b15, F15.kp, He.glo_ok X G (c.fact 13 (f := .glo "is_class") rfl)⟩
  have G_are_apart : Df P w K mg base 1 "are_apart" ["one", "other"] (spApart K) := ⟨_, d16, ok_apart F16 T, b16, F16.kp, He.glo_ok X G (c.fact 14 (f := .glo "are_apart") rfl)⟩
  have G_TimesI : Dk P w K mg base 2 (aTim K) "Times" ["self", "start", "end", "classes"] (spTimI K) := ⟨_, d17, ok_timI F17 T G_is_class G_are_apart, b17, He.mkr_ok (c.fact 70 (f := .mkr "Times") rfl), He.glo_ok X G (c.fact 15 (f := .glo "Times") rfl)⟩
  have G_Times_is_within : Dm P w K mg base 1 (aTim K) "is_within" ["self", "minute"] (spWithin K) := ⟨_, d18, ok_within F18 T, b18, He.meth_ok (c.fact 59 (f := .meth "Times" "is_within") rfl)⟩
  have G_Times_holds : Dm P w K mg base 2 (aTim K) "holds" ["self", "minute"] (spHolds K) := ⟨_, d19, ok_holds F19 T G_Times_is_within, b19, He.meth_ok (c.fact 60 (f := .meth "Times" "holds") rfl)⟩
  have G_Times_next_from : Dm P w K mg base 2 (aTim K) "next_from" ["self", "minute"] (spNext K) := ⟨_, d20, ok_next F20 T G_Times_is_within, b20, He.meth_ok (c.fact 61 (f := .meth "Times" "next_from") rfl)⟩
  have G_require : Df P w K mg base 1 "require" ["holds"] (spReq K) := ⟨_, d0, ok_require F0 T, b0, F0.kp, He.glo_ok X G (c.fact 0 (f := .glo "require") rfl)⟩
  have G_Table_is_point : Dm P w K mg base 1 (aTab K) "is_point" ["self", "point"] (spIsPt K) := ⟨_, d2, ok_isPt F2 T, b2, He.meth_ok (c.fact 57 (f := .meth "Table" "is_point") rfl)⟩
  have G_Table_check_point : Dm P w K mg base 2 (aTab K) "check_point" ["self", "point"] (spChPt K) := ⟨_, d3, ok_chPt F3 T G_Table_is_point, b3, He.meth_ok (c.fact 58 (f := .meth "Table" "check_point") rfl)⟩
  have G_TableI : Dk P w K mg base 2 (aTab K) "Table" ["self", "width", "height", "pockets"] (spTabI K) := ⟨_, d1, ok_tabI F1 T G_require G_Table_is_point, b1, He.mkr_ok (c.fact 69 (f := .mkr "Table") rfl), He.glo_ok X G (c.fact 1 (f := .glo "Table") rfl)⟩
  have G_is_name : Df P w K mg base 1 "is_name" ["text"] (spIsName K) := ⟨_, d4, ok_isName F4 T, b4, F4.kp, He.glo_ok X G (c.fact 2 (f := .glo "is_name") rfl)⟩
  have G_is_ball : Df P w K mg base 2 "is_ball" ["table", "ball"] (spIsBall K) := ⟨_, d5, ok_isBall F5 T G_is_name G_Table_is_point, b5, F5.kp, He.glo_ok X G (c.fact 3 (f := .glo "is_ball") rfl)⟩
  have G_check_ball : Df P w K mg base 3 "check_ball" ["table", "ball"] (spChBall K) := ⟨_, d6, ok_chBall F6 T G_is_ball, b6, F6.kp, He.glo_ok X G (c.fact 4 (f := .glo "check_ball") rfl)⟩
  have G_check_balls : Df P w K mg base 4 "check_balls" ["table", "balls"] (spChBalls K) := ⟨_, d7, ok_chBalls F7 T G_check_ball, b7, F7.kp, He.glo_ok X G (c.fact 5 (f := .glo "check_balls") rfl)⟩
  have G_part_classes : Df P w K mg base 3 "part_classes" ["table", "one", "other"] (spPartCls K) := ⟨_, d21, ok_partCls F21 T G_meeting_classes, b21, F21.kp, He.glo_ok X G (c.fact 16 (f := .glo "part_classes") rfl)⟩
  have G_at_point : Df P w K mg base 4 "at_point" ["table", "ball", "point"] (spAtPt K) := ⟨_, d22, ok_atPt F22 T G_check_ball G_Table_check_point G_point_classes G_crossed G_TimesI, b22, F22.kp, He.glo_ok X G (c.fact 17 (f := .glo "at_point") rfl)⟩
  have G_meetings : Df P w K mg base 4 "meetings" ["table", "one", "other"] (spMeets K) := ⟨_, d23, ok_meets F23 T G_check_ball G_part_classes G_crossed G_TimesI, b23, F23.kp, He.glo_ok X G (c.fact 18 (f := .glo "meetings") rfl)⟩
  have G_meetings_meetings : Df P w K mg base 4 "meetings_meetings" ["table", "one", "other"] (spMeets K) := ⟨_, d23, ok_meets F23 T G_check_ball G_part_classes G_crossed G_TimesI, b23, F23.kp, ((He.glo_ok X G (c.fact 19 (f := .glo "meetings_meetings") rfl))).trans (congrArg (fun z => some (Value.ref z)) em)⟩
  have G_fall_of : Df P w K mg base 5 "fall_of" ["table", "ball"] (spFallOf K) := ⟨_, d24, ok_fallOf F24 T G_check_ball G_at_point G_Times_next_from, b24, F24.kp, He.glo_ok X G (c.fact 20 (f := .glo "fall_of") rfl)⟩
  have G_first_fall : Df P w K mg base 6 "first_fall" ["table", "ball"] (spFirstFall K) := ⟨_, d25, ok_firstFall F25 T G_fall_of, b25, F25.kp, He.glo_ok X G (c.fact 21 (f := .glo "first_fall") rfl)⟩
  have G_earlier : Df P w K mg base 1 "earlier" ["one", "other"] (spEarlier K) := ⟨_, d26, ok_earlier F26 T, b26, F26.kp, He.glo_ok X G (c.fact 22 (f := .glo "earlier") rfl)⟩
  have G_GameI : Dk P w K mg base 7 (aGam K) "Game" ["self", "table", "balls"] (spGamI K) := ⟨_, d27, ok_gamI F27 T G_check_balls G_first_fall, b27, He.mkr_ok (c.fact 71 (f := .mkr "Game") rfl), He.glo_ok X G (c.fact 23 (f := .glo "Game") rfl)⟩
  have G_Game_names : Dn P w K mg base 1 (aGam K) "names" (spNames K) := ⟨_, getter K, dn, ok_names Fn T, bn, He.eqO_ok g2, He.eqO_ok g3, of_decide_eq_true g4, propRec g5⟩
  have G_Game_number : Dm P w K mg base 3 (aGam K) "number" ["self", "name"] (spNumber K) := ⟨_, d28, ok_number F28 T G_Game_names, b28, He.meth_ok (c.fact 62 (f := .meth "Game" "number") rfl)⟩
  have G_Game_ball : Dm P w K mg base 4 (aGam K) "ball" ["self", "name"] (spBallM K) := ⟨_, d29, ok_ballM F29 T G_Game_number, b29, He.meth_ok (c.fact 63 (f := .meth "Game" "ball") rfl)⟩
  have G_Game_life : Dm P w K mg base 4 (aGam K) "life" ["self", "name"] (spLife K) := ⟨_, d30, ok_life F30 T G_Game_number, b30, He.meth_ok (c.fact 64 (f := .meth "Game" "life") rfl)⟩
  have G_Game_meetings : Dm P w K mg base 5 (aGam K) "meetings" ["self", "one", "other"] (spGMeets K) := ⟨_, d31, ok_gMeets F31 T G_Game_ball G_Game_life G_meetings_meetings G_earlier G_TimesI, b31, He.meth_ok (c.fact 65 (f := .meth "Game" "meetings") rfl)⟩
  have G_law_row : Df P w K mg base 1 "_law_row" ["_law_cell", "_law_many"] (spLRow K) := ⟨_, d32, ok_lRow F32 T, b32, F32.kp, He.glo_ok X G (c.fact 24 (f := .glo "_law_row") rfl)⟩
  have G_law_numbers : Df P w K mg base 2 "_law_numbers" ["_law_script", "_law_many"] (spLNums K) := ⟨_, d33, ok_lNums F33 T G_law_row, b33, F33.kp, He.glo_ok X G (c.fact 25 (f := .glo "_law_numbers") rfl)⟩
  have G_law_names : Df P w K mg base 1 "_law_names" ["_law_number", "_law_many"] (spLNames K) := ⟨_, d34, ok_lNames F34 T, b34, F34.kp, He.glo_ok X G (c.fact 26 (f := .glo "_law_names") rfl)⟩
  have G_law_table : Df P w K mg base 1 "_law_table" ["_law_numbers_here", "_law_at"] (spLTable K) := ⟨_, d35, ok_lTable F35 T, b35, F35.kp, He.glo_ok X G (c.fact 27 (f := .glo "_law_table") rfl)⟩
  have G_law_ball : Df P w K mg base 1 "_law_ball" ["_law_numbers_here", "_law_at", "_law_name", "_law_width", "_law_height"] (spLBall K) := ⟨_, d36, ok_lBall F36 T, b36, F36.kp, He.glo_ok X G (c.fact 28 (f := .glo "_law_ball") rfl)⟩
  have G_law_walk : Df P w K mg base 1 "_law_walk" ["_law_width", "_law_height", "_law_ball_here", "_law_many"] (spLWalk K) := ⟨_, d37, ok_lWalk F37 T, b37, F37.kp, He.glo_ok X G (c.fact 29 (f := .glo "_law_walk") rfl)⟩
  have G_law_fall : Df P w K mg base 2 "_law_fall" ["_law_table_here", "_law_ball_here"] (spLFall K) := ⟨_, d38, ok_lFall F38 T G_law_walk, b38, F38.kp, He.glo_ok X G (c.fact 30 (f := .glo "_law_fall") rfl)⟩
  have G_law_balls : Df P w K mg base 2 "_law_balls" ["_law_numbers_here", "_law_at", "_law_many", "_law_table_here"] (spLBalls K) := ⟨_, d39, ok_lBalls F39 T G_law_names G_law_ball, b39, F39.kp, He.glo_ok X G (c.fact 31 (f := .glo "_law_balls") rfl)⟩
  have G_law_meets : Df P w K mg base 3 "_law_meets" ["_law_table_here", "_law_one", "_law_other"] (spLMeets K) := ⟨_, d40, ok_lMeets F40 T G_law_walk G_law_fall, b40, F40.kp, He.glo_ok X G (c.fact 32 (f := .glo "_law_meets") rfl)⟩
  exact ok_law F41 T G_law_numbers G_law_table G_law_balls G_GameI G_TableI G_law_fall G_Game_life G_law_meets G_Game_meetings G_Times_holds G_Times_next_from
end Cu
end
set_option Elab.async false
set_option linter.all false
set_option maxRecDepth 100000
set_option maxHeartbeats 0
open PySem PySem.W PySem.Calls PyProof.Rows
theorem PySem.Challenge.cw_cushioned_k46_whole_games_of_any_size_holds : PySem.Challenge.rw_cushioned_k46_whole_games_of_any_size.Holds := by
  w_on; o_law
  refine HandSHeadRun.head_imp (r := OpenLaw.row PySem.Challenge.rw_cushioned_k46_whole_games_of_any_size) (q := view (OpenLaw.row PySem.Challenge.rw_cushioned_k46_whole_games_of_any_size).prog [0, 57]) (H := Cu.hk) (ob := Cu.ob) (M := 4200) (loose := Cu.loose) (d := HandSHeadRun.topDef (OpenLaw.row PySem.Challenge.rw_cushioned_k46_whole_games_of_any_size).prog 57) (kwd := []) Cu.ob_eq
    Cu.run (by kernel_rfl) (by kernel_rfl) (by kernel_rfl) (by rfl) (by first | assumption | decide +kernel) (by decide +kernel) ⟨rfl, rfl, rfl, rfl, rfl, by decide +kernel⟩ ?hw ?hc
  case hw => w_witness2
  case hc =>
    refine L2.walk_ofE (l := PySem.Challenge.rw_cushioned_k46_whole_games_of_any_size) (n := 63) (k := 9) (x := "_law_script") (CX := L2.CX0) rfl (by decide) (by kernel_rfl) ⟨rfl, by decide, by decide⟩ ?F (fun _ _ _ _ z => z)
    intro w mg fa h Y G hmg0
    obtain ⟨K, KX, c⟩ := Y
    have hmg : mg ("law" : PySem.Str) = some (.ref fa) := by
      have e : (HandSHeadRun.topDef (OpenLaw.row PySem.Challenge.rw_cushioned_k46_whole_games_of_any_size).prog 57).name = ("law" : PySem.Str) := by kernel_rfl
      rw [← e]
      exact hmg0
    have c1 : He.SaysD Cu.fa Cu.fn K := congrArg (fun z : Cu.AlC => z.1) c
    have c2 : Cu.moreB K = true := congrArg (fun z : Cu.AlC => z.2.1) c
    have c3 : Cu.getW K = Cu.getV := congrArg (fun z : Cu.AlC => z.2.2) c
    obtain ⟨fd, hb, hF⟩ := Cu.facts (P := (PySem.Challenge.rw_cushioned_k46_whole_games_of_any_size).prog) (w := w) KX G hmg c1 c2 c3
    exact ⟨K, fd, Cu.spLaw K, KX, hb, fun H a ns hl _ hS => ⟨a, ns, rfl, hS, fun _ => rfl⟩, hF⟩
