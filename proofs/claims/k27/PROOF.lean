import PyProof.Rows.All
import Wide.All
import OpenK.AllK
import Wide.FinOn
import HandS.ForMost
import HandS.ExcInit
import HandS.Head0
import HandS.Head1
import HandS.Head2
import HandS.Head3
import HandS.HeadHook1
import HandS.HeadHook2
import HandS.HeadHook3
import HandS.HeadHook4
import HandS.HeadWalk
import PySem.Challenge.RW_nearspokes_k27_whole_runs
import HandS.Exc
import HandS.TryOnly
import HandS.ExcOwn
import HandS.WordsExc
import HandS.CallSlots
import HandS.TryMany
import HandS.EndBits
import HandS.Wide
import HandS.Gcd
import HandS.Zip
import HandS.IsInst
import HandS.Defaults
import HandS.Flow
import HandS.FStr
import HandS.TupAny
import HandS.ExcIs
import HandS.ExcField
import HandS.Lambda
import HandS.Nested
import KE.KDflt
import HandS.HotCalls
import HandS.EndTab
import HandS.TupMul
import HandS.More
import HandS.Style
import HandS.New0
import HandS.Dict
set_option Elab.async false
set_option linter.all false
set_option maxRecDepth 100000
set_option maxHeartbeats 4000000
namespace DL
open PySem L2
def sAt (i : Nat) (l : List Stmt) : Stmt := l.getD i (.Pass ⟨0, 0, 0, 0⟩)
def sBody : Stmt → List Stmt
  | .For _ _ b _ _ => b
  | .If _ b _ _ => b
  | .While _ b _ _ => b
  | .ClassDef _ _ _ b _ _ _ _ _ _ _ => b
  | _ => []
end DL
/-! # The head by facts: what the top leaves, asked by Bools -/
namespace DH
open PySem PySem.Spec PyProof.Rows L2
abbrev Frag := PySem.W.Frag
def exAll (l : List (Frag → Bool)) (K : Frag) : Bool := l.all fun f => f K
theorem ex_at {l : List (Frag → Bool)} {K : Frag} (h : exAll l K = true) (i : Nat) {f : Frag → Bool} (e : l[i]? = some f) : f K = true := List.all_eq_true.mp h f (List.mem_of_getElem? e)
def intB (x : Str) (i : Int) (K : Frag) : Bool := match PySem.W.nsIn K mainGlobals x with
  | some (some (.int j _)) => decide (j = i)
  | _ => false
theorem intB_ok {x : Str} {i : Int} {K : Frag} (h : intB x i K = true) : ∃ t, PySem.W.nsIn K mainGlobals x = some (some (.int i t)) := by
  unfold intB at h
  split at h
  · rename_i j t e
    exact ⟨t, by rw [e, of_decide_eq_true h]⟩
  · cases h
def strB (x z : Str) (K : Frag) : Bool := match PySem.W.nsIn K mainGlobals x with
  | some (some (.str y _)) => decide (y = z)
  | _ => false
theorem strB_ok {x z : Str} {K : Frag} (h : strB x z K = true) : ∃ t, PySem.W.nsIn K mainGlobals x = some (some (.str z t)) := by
  unfold strB at h
  split at h
  · rename_i j t e
    exact ⟨t, by rw [e, of_decide_eq_true h]⟩
  · cases h
/-- a dict of texts -/
def entB (K : Frag) : List (Str × He.Dv) → List DictEntry → Bool
  | [], [] => true
  | q :: qs, e :: es => (match e.key with
    | .str y _ => decide (y = q.1)
    | _ => false) && (He.relB (q.2.v K) e.val && entB K qs es)
  | _, _ => false
def dicB (K : Frag) (a : Addr) (kvs : List (Str × He.Dv)) : Bool := match K.lookup a with
  | some ⟨_, _, .dict es _, _⟩ => entB K kvs es.toList
  | _ => false
/-- the class of an own error over ValueError, as it stands in memory -/
def oexB (K : Frag) (C : Addr) : Bool := match K.lookup C with
  | some ⟨.type "type", _, .cls cd, sl⟩ => (match cd.mro, sl.toList with
    | .ref C' :: bm, [_, _, _, _, some (.builtin n), _] => decide (C' = C) && (decide (n = "ValueError.__new__") && (!cd.hasDel && (cd.hasDict && HandSPX.refsVE bm)))
    | _, _ => false)
  | _ => false
theorem oexB_ok {K : Frag} {C : Addr} (q : oexB K C = true) : ∃ nm qn N bs bm sn sub ab col dd k0 k1 k2 k3 k5, K.lookup C = some (excClassObj nm qn C N bs bm true sn sub ab col dd k0 k1 k2 k3 k5 "ValueError.__new__") ∧ HandSPX.refsVE bm = true := by
  unfold oexB at q
  split at q
  · rename_i dd cd sl ho
    split at q
    · rename_i C' bm k0 k1 k2 k3 n k5 hm hs
      obtain ⟨q1, q⟩ := He.ba q
      obtain ⟨q2, q⟩ := He.ba q
      obtain ⟨q3, q⟩ := He.ba q
      obtain ⟨q4, q5⟩ := He.ba q
      have e1 := of_decide_eq_true q1
      have e2 := of_decide_eq_true q2
      subst e1 e2
      obtain ⟨nm, bs, mro, ns, qn, hd, sn, sub, ab, col, del⟩ := cd
      have hsl : sl = #[k0, k1, k2, k3, some (.builtin "ValueError.__new__"), k5] := by
        obtain ⟨l⟩ := sl
        have hs : l = _ := hs
        rw [hs]
      have hm : mro = .ref C' :: bm := hm
      have q3' : del = false := by simpa using q3
      have q4' : hd = true := q4
      subst hsl hm q3' q4'
      exact ⟨nm, qn, ns, bs, bm, sn, sub, ab, col, dd, k0, k1, k2, k3, k5, ho, q5⟩
    · cases q
  · cases q
/-- what is asked of a class that is there -/
theorem cls_some {K : Frag} {C : Addr} (h : (PySem.W.clsIn K C).isSome = true) : ∃ cl, PySem.W.clsIn K C = some cl := Option.isSome_iff_exists.mp h
/-! ### the Hook, over objects that are told by their addresses -/
def obsL (as : List Addr) (fn : List He.DefD) (ts : List He.Tab) (tf : List He.Defn) (ex : Frag → Bool) (g : Addr → Option Obj) : He.AlX := (He.obsT [] fn ts (He.frT g as), ex (He.frT g as) && He.tabsB g tf (He.frT g as))
theorem saysL {as : List Addr} {fn : List He.DefD} {ts : List He.Tab} {tf : List He.Defn} {ex : Frag → Bool} {w : World} {h : Heap} (e : obsL as fn ts tf ex h.get? = He.valX fn ts w) : He.SaysX [] fn ts tf ex w h (He.frT h.get? as) := by
  have e1 : He.obsT [] fn ts (He.frT h.get? as) = He.valT fn ts w := congrArg (fun z : He.AlX => z.1) e
  have e2 : (ex (He.frT h.get? as) && He.tabsB h.get? tf (He.frT h.get? as)) = true := congrArg (fun z : He.AlX => z.2) e
  obtain ⟨e3, e4⟩ := He.ba e2
  have key : ∀ p ∈ tf, PySem.W.codeHdIn (He.frT h.get? as) (He.cT (He.frT h.get? as) p).1 (He.cT (He.frT h.get? as) p).2 = true ∧ ∃ o, h.get? (He.cT (He.frT h.get? as) p).2 = some o ∧ He.emptyTab o = true := fun p hp => by
    obtain ⟨k1, k2⟩ := He.ba (List.all_eq_true.mp e4 p hp)
    refine ⟨k1, ?_⟩
    split at k2
    · rename_i o ho
      exact ⟨o, ho, k2⟩
    · cases k2
  refine ⟨e1, e3, fun p hp => (key p hp).1, fun p hp => ?_, fun p hp => ?_⟩
  · obtain ⟨_, o, ho, he⟩ := key p hp
    exact He.frT_none ho he
  · obtain ⟨_, o, ho, he⟩ := key p hp
    rw [ho, He.emptyTab_eq he]
def hookL (as : List Addr) (fn : List He.DefD) (ts : List He.Tab) (tf : List He.Defn) (ex : Frag → Bool) : PySem.W.Hook where
  α := He.AlX
  obs := fun s => obsL as fn ts tf ex s.heap.get?
  val := fun w => He.valX fn ts w
  says := fun w h => ∃ K : Frag, K.In h ∧ He.SaysX [] fn ts tf ex w h K
  of := fun _ _ e => ⟨_, He.frT_in, saysL e⟩
  keeps := fun _ _ _ ⟨K, hK, c⟩ k => ⟨K, PySem.W.Frag.In.keeps hK k, ⟨c.t, c.more, c.hd, c.out, fun p hp => k _ _ (c.empty p hp)⟩⟩
theorem obsL_eq {as : List Addr} {fn : List He.DefD} {ts : List He.Tab} {tf : List He.Defn} {ex : Frag → Bool} {g : Addr → Option Obj} {s : Shared} (h : ∀ a, g a = s.heap.get? a) : obsL as fn ts tf ex g = (hookL as fn ts tf ex).obs s := by
  have e : g = s.heap.get? := funext h
  rw [e] <;> rfl
end DH

namespace T27
open PySem L2 DL
def top (i : Nat) : Stmt := PySem.Challenge.pw_nearspokes_k27_whole_runs.main.body.getD i (.Pass ⟨0, 0, 0, 0⟩)
abbrev sWall : Stmt := top 1
abbrev sIsInteger : Stmt := top 10
abbrev sIsNumber : Stmt := top 11
abbrev sLowest : Stmt := top 12
abbrev sPlus : Stmt := top 13
abbrev sMinus : Stmt := top 14
abbrev sTimes : Stmt := top 15
abbrev sOver : Stmt := top 16
abbrev sSign : Stmt := top 18
abbrev sRatioText : Stmt := top 19
abbrev sBlocksOf : Stmt := top 22
abbrev sExpressionsOf : Stmt := top 23
abbrev sNamesCalledIn : Stmt := top 24
abbrev sCalledNames : Stmt := top 25
abbrev sTrimmed : Stmt := top 27
abbrev sCombined : Stmt := top 28
abbrev sProductOf : Stmt := top 29
abbrev sContent : Stmt := top 30
abbrev sPrimitive : Stmt := top 31
abbrev sLightened : Stmt := top 32
abbrev sRemainder : Stmt := top 33
abbrev sCommonList : Stmt := top 34
abbrev sFullCommon : Stmt := top 35
abbrev sExactList : Stmt := top 36
abbrev sCheckLetter : Stmt := top 39
abbrev sCheckTerms : Stmt := top 40
abbrev sMadeOf : Stmt := top 41
abbrev sPowerText : Stmt := top 42
abbrev sTermText : Stmt := top 43
abbrev sAdded : Stmt := top 44
abbrev sMultiplied : Stmt := top 45
abbrev sPowers : Stmt := top 46
abbrev sColumns : Stmt := top 49
abbrev sShortened : Stmt := top 50
abbrev sFromColumns : Stmt := top 51
abbrev sColumnContent : Stmt := top 52
abbrev sWithoutContent : Stmt := top 53
abbrev sPseudoRemainder : Stmt := top 54
abbrev sRaised : Stmt := top 55
abbrev sCommon : Stmt := top 56
abbrev sExactOrNone : Stmt := top 57
abbrev sCheckCalls : Stmt := top 66
abbrev sRun : Stmt := top 67
abbrev sEndText : Stmt := top 68
abbrev sLBag : Stmt := top 70
abbrev sLPull : Stmt := top 71
abbrev sLOf : Stmt := top 72
abbrev sLSame : Stmt := top 73
abbrev sLGcd : Stmt := top 74
abbrev sLLow : Stmt := top 75
abbrev sLAdd : Stmt := top 76
abbrev sLSub : Stmt := top 77
abbrev sLMul : Stmt := top 78
abbrev sLDiv : Stmt := top 79
abbrev sLSign : Stmt := top 80
abbrev sLOrder : Stmt := top 81
abbrev sLRatio : Stmt := top 82
abbrev sLPoint : Stmt := top 83
abbrev sLRatioText : Stmt := top 84
abbrev sLNames : Stmt := top 85
abbrev sLLeaf : Stmt := top 86
abbrev sLExpression : Stmt := top 87
abbrev sLStatement : Stmt := top 88
abbrev sLBlock : Stmt := top 89
abbrev sLProgram : Stmt := top 90
abbrev sLValue : Stmt := top 91
abbrev sLBranch : Stmt := top 92
abbrev sLBlockEnd : Stmt := top 93
abbrev sLRun : Stmt := top 94
abbrev sLaw : Stmt := top 95
abbrev sPlainOfNumber : Stmt := sAt 0 (sBody (top 64))
abbrev sPlainJoined : Stmt := sAt 1 (sBody (top 64))
abbrev sPlainIsZero : Stmt := sAt 2 (sBody (top 64))
abbrev sPlainOrder : Stmt := sAt 3 (sBody (top 64))
abbrev sRunnerInit : Stmt := sAt 0 (sBody (top 65))
abbrev sRunnerEvaluate : Stmt := sAt 1 (sBody (top 65))
abbrev sRunnerOutcome : Stmt := sAt 2 (sBody (top 65))
abbrev sRunnerBlock : Stmt := sAt 3 (sBody (top 65))
abbrev sRunnerExecute : Stmt := sAt 4 (sBody (top 65))
abbrev sRunnerWhole : Stmt := sAt 5 (sBody (top 65))
abbrev sHalt_init : Stmt := sAt 0 (sBody (top 63))
def t0 : PySem.W.Frag → Bool := fun K => decide (PySem.W.nsIn K mainGlobals "Plain" = some (some (.ref (He.ga K "Plain"))))
def t1 : PySem.W.Frag → Bool := fun K => decide (PySem.W.nsIn K mainGlobals "Runner" = some (some (.ref (He.ga K "Runner"))))
def t2 : PySem.W.Frag → Bool := fun K => decide (PySem.W.nsIn K mainGlobals "Halt" = some (some (.ref (He.ga K "Halt"))))
def t3 : PySem.W.Frag → Bool := fun K => decide (PySem.W.nsIn K mainGlobals "lowest" = some (some (.ref (He.fAd K ("lowest", none)))))
def t4 : PySem.W.Frag → Bool := fun K => decide (PySem.W.nsIn K mainGlobals "plus" = some (some (.ref (He.fAd K ("plus", none)))))
def t5 : PySem.W.Frag → Bool := fun K => decide (PySem.W.nsIn K mainGlobals "minus" = some (some (.ref (He.fAd K ("minus", none)))))
def t6 : PySem.W.Frag → Bool := fun K => decide (PySem.W.nsIn K mainGlobals "times" = some (some (.ref (He.fAd K ("times", none)))))
def t7 : PySem.W.Frag → Bool := fun K => decide (PySem.W.nsIn K mainGlobals "over" = some (some (.ref (He.fAd K ("over", none)))))
def t8 : PySem.W.Frag → Bool := fun K => decide (PySem.W.nsIn K mainGlobals "sign" = some (some (.ref (He.fAd K ("sign", none)))))
def t9 : PySem.W.Frag → Bool := fun K => decide (PySem.W.nsIn K mainGlobals "ratio_text" = some (some (.ref (He.fAd K ("ratio_text", none)))))
def t10 : PySem.W.Frag → Bool := fun K => decide (PySem.W.nsIn K mainGlobals "blocks_of" = some (some (.ref (He.fAd K ("blocks_of", none)))))
def t11 : PySem.W.Frag → Bool := fun K => decide (PySem.W.nsIn K mainGlobals "expressions_of" = some (some (.ref (He.fAd K ("expressions_of", none)))))
def t12 : PySem.W.Frag → Bool := fun K => decide (PySem.W.nsIn K mainGlobals "names_called_in" = some (some (.ref (He.fAd K ("names_called_in", none)))))
def t13 : PySem.W.Frag → Bool := fun K => decide (PySem.W.nsIn K mainGlobals "called_names" = some (some (.ref (He.fAd K ("called_names", none)))))
def t14 : PySem.W.Frag → Bool := fun K => decide (PySem.W.nsIn K mainGlobals "check_calls" = some (some (.ref (He.fAd K ("check_calls", none)))))
def t15 : PySem.W.Frag → Bool := fun K => decide (PySem.W.nsIn K mainGlobals "run" = some (some (.ref (He.fAd K ("run", none)))))
def t16 : PySem.W.Frag → Bool := fun K => decide (PySem.W.nsIn K mainGlobals "end_text" = some (some (.ref (He.fAd K ("end_text", none)))))
def t17 : PySem.W.Frag → Bool := fun K => decide (PySem.W.nsIn K mainGlobals "_law_bag" = some (some (.ref (He.fAd K ("_law_bag", none)))))
def t18 : PySem.W.Frag → Bool := fun K => decide (PySem.W.nsIn K mainGlobals "_law_pull" = some (some (.ref (He.fAd K ("_law_pull", none)))))
def t19 : PySem.W.Frag → Bool := fun K => decide (PySem.W.nsIn K mainGlobals "_law_of" = some (some (.ref (He.fAd K ("_law_of", none)))))
def t20 : PySem.W.Frag → Bool := fun K => decide (PySem.W.nsIn K mainGlobals "_law_same" = some (some (.ref (He.fAd K ("_law_same", none)))))
def t21 : PySem.W.Frag → Bool := fun K => decide (PySem.W.nsIn K mainGlobals "_law_gcd" = some (some (.ref (He.fAd K ("_law_gcd", none)))))
def t22 : PySem.W.Frag → Bool := fun K => decide (PySem.W.nsIn K mainGlobals "_law_low" = some (some (.ref (He.fAd K ("_law_low", none)))))
def t23 : PySem.W.Frag → Bool := fun K => decide (PySem.W.nsIn K mainGlobals "_law_add" = some (some (.ref (He.fAd K ("_law_add", none)))))
def t24 : PySem.W.Frag → Bool := fun K => decide (PySem.W.nsIn K mainGlobals "_law_sub" = some (some (.ref (He.fAd K ("_law_sub", none)))))
def t25 : PySem.W.Frag → Bool := fun K => decide (PySem.W.nsIn K mainGlobals "_law_mul" = some (some (.ref (He.fAd K ("_law_mul", none)))))
def t26 : PySem.W.Frag → Bool := fun K => decide (PySem.W.nsIn K mainGlobals "_law_div" = some (some (.ref (He.fAd K ("_law_div", none)))))
def t27 : PySem.W.Frag → Bool := fun K => decide (PySem.W.nsIn K mainGlobals "_law_sign" = some (some (.ref (He.fAd K ("_law_sign", none)))))
def t28 : PySem.W.Frag → Bool := fun K => decide (PySem.W.nsIn K mainGlobals "_law_order" = some (some (.ref (He.fAd K ("_law_order", none)))))
def t29 : PySem.W.Frag → Bool := fun K => decide (PySem.W.nsIn K mainGlobals "_law_ratio" = some (some (.ref (He.fAd K ("_law_ratio", none)))))
def t30 : PySem.W.Frag → Bool := fun K => decide (PySem.W.nsIn K mainGlobals "_law_point" = some (some (.ref (He.fAd K ("_law_point", none)))))
def t31 : PySem.W.Frag → Bool := fun K => decide (PySem.W.nsIn K mainGlobals "_law_ratio_text" = some (some (.ref (He.fAd K ("_law_ratio_text", none)))))
def t32 : PySem.W.Frag → Bool := fun K => decide (PySem.W.nsIn K mainGlobals "_law_names" = some (some (.ref (He.fAd K ("_law_names", none)))))
def t33 : PySem.W.Frag → Bool := fun K => decide (PySem.W.nsIn K mainGlobals "_law_leaf" = some (some (.ref (He.fAd K ("_law_leaf", none)))))
def t34 : PySem.W.Frag → Bool := fun K => decide (PySem.W.nsIn K mainGlobals "_law_expression" = some (some (.ref (He.fAd K ("_law_expression", none)))))
def t35 : PySem.W.Frag → Bool := fun K => decide (PySem.W.nsIn K mainGlobals "_law_statement" = some (some (.ref (He.fAd K ("_law_statement", none)))))
def t36 : PySem.W.Frag → Bool := fun K => decide (PySem.W.nsIn K mainGlobals "_law_block" = some (some (.ref (He.fAd K ("_law_block", none)))))
def t37 : PySem.W.Frag → Bool := fun K => decide (PySem.W.nsIn K mainGlobals "_law_program" = some (some (.ref (He.fAd K ("_law_program", none)))))
def t38 : PySem.W.Frag → Bool := fun K => decide (PySem.W.nsIn K mainGlobals "_law_value" = some (some (.ref (He.fAd K ("_law_value", none)))))
def t39 : PySem.W.Frag → Bool := fun K => decide (PySem.W.nsIn K mainGlobals "_law_branch" = some (some (.ref (He.fAd K ("_law_branch", none)))))
def t40 : PySem.W.Frag → Bool := fun K => decide (PySem.W.nsIn K mainGlobals "_law_block_end" = some (some (.ref (He.fAd K ("_law_block_end", none)))))
def t41 : PySem.W.Frag → Bool := fun K => decide (PySem.W.nsIn K mainGlobals "_law_run" = some (some (.ref (He.fAd K ("_law_run", none)))))
def t42 : PySem.W.Frag → Bool := fun K => decide (PySem.W.nsIn K mainGlobals "law" = some (some (.ref (He.fAd K ("law", none)))))
def t43 : PySem.W.Frag → Bool := fun K => decide (PySem.W.findIn K (.ref (He.ga K "Plain")) "of_number" = some (some (.ref (He.fAd K ("Plain", some "of_number")))))
def t44 : PySem.W.Frag → Bool := fun K => decide (PySem.W.isFn K (.ref (He.fAd K ("Plain", some "of_number"))) = true)
def t45 : PySem.W.Frag → Bool := fun K => decide (PySem.W.findIn K (.ref (He.ga K "Plain")) "joined" = some (some (.ref (He.fAd K ("Plain", some "joined")))))
def t46 : PySem.W.Frag → Bool := fun K => decide (PySem.W.isFn K (.ref (He.fAd K ("Plain", some "joined"))) = true)
def t47 : PySem.W.Frag → Bool := fun K => decide (PySem.W.findIn K (.ref (He.ga K "Plain")) "is_zero" = some (some (.ref (He.fAd K ("Plain", some "is_zero")))))
def t48 : PySem.W.Frag → Bool := fun K => decide (PySem.W.isFn K (.ref (He.fAd K ("Plain", some "is_zero"))) = true)
def t49 : PySem.W.Frag → Bool := fun K => decide (PySem.W.findIn K (.ref (He.ga K "Plain")) "order" = some (some (.ref (He.fAd K ("Plain", some "order")))))
def t50 : PySem.W.Frag → Bool := fun K => decide (PySem.W.isFn K (.ref (He.fAd K ("Plain", some "order"))) = true)
def t51 : PySem.W.Frag → Bool := fun K => decide (PySem.W.findIn K (.ref (He.ga K "Runner")) "__init__" = some (some (.ref (He.fAd K ("Runner", some "__init__")))))
def t52 : PySem.W.Frag → Bool := fun K => decide (PySem.W.isFn K (.ref (He.fAd K ("Runner", some "__init__"))) = true)
def t53 : PySem.W.Frag → Bool := fun K => decide (PySem.W.findIn K (.ref (He.ga K "Runner")) "evaluate" = some (some (.ref (He.fAd K ("Runner", some "evaluate")))))
def t54 : PySem.W.Frag → Bool := fun K => decide (PySem.W.isFn K (.ref (He.fAd K ("Runner", some "evaluate"))) = true)
def t55 : PySem.W.Frag → Bool := fun K => decide (PySem.W.findIn K (.ref (He.ga K "Runner")) "outcome" = some (some (.ref (He.fAd K ("Runner", some "outcome")))))
def t56 : PySem.W.Frag → Bool := fun K => decide (PySem.W.isFn K (.ref (He.fAd K ("Runner", some "outcome"))) = true)
def t57 : PySem.W.Frag → Bool := fun K => decide (PySem.W.findIn K (.ref (He.ga K "Runner")) "block" = some (some (.ref (He.fAd K ("Runner", some "block")))))
def t58 : PySem.W.Frag → Bool := fun K => decide (PySem.W.isFn K (.ref (He.fAd K ("Runner", some "block"))) = true)
def t59 : PySem.W.Frag → Bool := fun K => decide (PySem.W.findIn K (.ref (He.ga K "Runner")) "execute" = some (some (.ref (He.fAd K ("Runner", some "execute")))))
def t60 : PySem.W.Frag → Bool := fun K => decide (PySem.W.isFn K (.ref (He.fAd K ("Runner", some "execute"))) = true)
def t61 : PySem.W.Frag → Bool := fun K => decide (PySem.W.findIn K (.ref (He.ga K "Runner")) "whole" = some (some (.ref (He.fAd K ("Runner", some "whole")))))
def t62 : PySem.W.Frag → Bool := fun K => decide (PySem.W.isFn K (.ref (He.fAd K ("Runner", some "whole"))) = true)
def t63 : PySem.W.Frag → Bool := fun K => decide (PySem.W.nsIn K mainGlobals "isinstance" = some none)
def t64 : PySem.W.Frag → Bool := fun K => decide (PySem.W.nsIn K mainGlobals "int" = some none)
def t65 : PySem.W.Frag → Bool := fun K => decide (PySem.W.nsIn K mainGlobals "bool" = some none)
def t66 : PySem.W.Frag → Bool := fun K => decide (PySem.W.nsIn K mainGlobals "str" = some none)
def t67 : PySem.W.Frag → Bool := fun K => decide (PySem.W.nsIn K mainGlobals "list" = some none)
def t68 : PySem.W.Frag → Bool := fun K => decide (PySem.W.nsIn K mainGlobals "tuple" = some none)
def t69 : PySem.W.Frag → Bool := fun K => decide (PySem.W.nsIn K mainGlobals "len" = some none)
def t70 : PySem.W.Frag → Bool := fun K => decide (PySem.W.nsIn K mainGlobals "abs" = some none)
def t71 : PySem.W.Frag → Bool := fun K => decide (PySem.W.nsIn K mainGlobals "all" = some none)
def t72 : PySem.W.Frag → Bool := fun K => decide (PySem.W.nsIn K mainGlobals "range" = some none)
def t73 : PySem.W.Frag → Bool := fun K => decide (PySem.W.nsIn K mainGlobals "zip" = some none)
def t74 : PySem.W.Frag → Bool := fun K => decide (PySem.W.nsIn K mainGlobals "dict" = some none)
def t75 : PySem.W.Frag → Bool := fun K => decide (PySem.W.nsIn K mainGlobals "gcd" = some (some (.builtin "math.gcd")))
def t76 : PySem.W.Frag → Bool := DH.intB "MOST_WEIGHT" (10)
def t77 : PySem.W.Frag → Bool := DH.intB "MOST_STEPS" (60)
def t78 : PySem.W.Frag → Bool := fun K => decide (PySem.W.nsIn K mainGlobals "SIGNS" = some (some (.ref (He.ga K "SIGNS"))))
def t79 : PySem.W.Frag → Bool := fun K => DH.dicB K (He.ga K "SIGNS") [("add", .str "+"), ("sub", .str "-"), ("mul", .str "*"), ("div", .str "/")]
def t80 : PySem.W.Frag → Bool := fun K => decide (PySem.W.nsIn K mainGlobals "over_ratios" = some (some (.ref (He.fAd K ("over", none)))))
def t81 : PySem.W.Frag → Bool := fun K => decide (PySem.W.nsIn K mainGlobals "Quotient" = some (some (.ref (He.ga K "Quotient"))))
def t82 : PySem.W.Frag → Bool := fun K => (PySem.W.clsIn K (He.ga K "Quotient")).isSome
def t83 : PySem.W.Frag → Bool := fun K => decide (PySem.W.typeIn K (.ref (He.ga K "Quotient")) = some (.type "type"))
def t84 : PySem.W.Frag → Bool := fun K => decide (PySem.W.subIn K (.type "tuple") (.ref (He.ga K "Quotient")) = some false)
def t85 : PySem.W.Frag → Bool := fun K => decide (PySem.W.plainGet K (He.ga K "Plain") Str.empty = true)
def t86 : PySem.W.Frag → Bool := fun K => decide (PySem.W.hasDictIn K (He.ga K "Plain") = true)
def t87 : PySem.W.Frag → Bool := fun K => decide (PySem.W.plainOver K (He.ga K "Plain") = true)
def t88 : PySem.W.Frag → Bool := fun K => decide (PySem.W.findIn K (.ref (He.ga K "Plain")) "__setattr__" = some (some (.builtin "object.__setattr__")))
def t89 : PySem.W.Frag → Bool := fun K => decide (PySem.W.makesIn K (He.ga K "Plain") = true)
def t90 : PySem.W.Frag → Bool := fun K => decide (PySem.W.keepIn K (.ref (He.ga K "Plain")) = true)
def t91 : PySem.W.Frag → Bool := fun K => decide (PySem.W.findIn K (.ref (He.ga K "Plain")) "__init__" = some (some (.builtin "object.__init__")))
def t92 : PySem.W.Frag → Bool := fun K => decide (PySem.W.mroIn K (He.ga K "Plain") (.type "object") = some true)
def t93 : PySem.W.Frag → Bool := fun K => decide (PySem.W.plainGet K (He.ga K "Runner") Str.empty = true)
def t94 : PySem.W.Frag → Bool := fun K => decide (PySem.W.hasDictIn K (He.ga K "Runner") = true)
def t95 : PySem.W.Frag → Bool := fun K => decide (PySem.W.plainOver K (He.ga K "Runner") = true)
def t96 : PySem.W.Frag → Bool := fun K => decide (PySem.W.findIn K (.ref (He.ga K "Runner")) "__setattr__" = some (some (.builtin "object.__setattr__")))
def t97 : PySem.W.Frag → Bool := fun K => decide (PySem.W.makesIn K (He.ga K "Runner") = true)
def t98 : PySem.W.Frag → Bool := fun K => decide (PySem.W.keepIn K (.ref (He.ga K "Runner")) = true)
def t99 : PySem.W.Frag → Bool := fun K => decide (PySem.W.findIn K (.ref (He.ga K "Runner")) "arithmetic" = some none)
def t100 : PySem.W.Frag → Bool := fun K => decide (PySem.W.findIn K (.ref (He.ga K "Runner")) "programs" = some none)
def t101 : PySem.W.Frag → Bool := fun K => decide (PySem.W.findIn K (.ref (He.ga K "Runner")) "outcomes" = some none)
def t102 : PySem.W.Frag → Bool := fun K => decide (PySem.W.findIn K (.ref (He.ga K "Runner")) "steps" = some none)
def t103 : PySem.W.Frag → Bool := fun K => DH.oexB K (He.ga K "Halt")
def t104 : PySem.W.Frag → Bool := fun K => decide (PySem.W.findIn K (.ref (He.ga K "Halt")) "__setattr__" = some (some (.builtin "object.__setattr__")))
def t105 : PySem.W.Frag → Bool := fun K => decide (PySem.W.subIn K (.ref (He.ga K "Halt")) (.type "BaseException") = some true)
def t106 : PySem.W.Frag → Bool := fun K => decide (PySem.W.typeIn K (.ref (He.ga K "Halt")) = some (.type "type"))
def t107 : PySem.W.Frag → Bool := fun K => decide (PySem.W.keepIn K (.ref (He.ga K "Halt")) = true)
def t108 : PySem.W.Frag → Bool := fun K => decide (PySem.W.findIn K (.ref (He.ga K "Halt")) "__getattribute__" = some (some (.builtin "BaseException.__getattribute__")))
def t109 : PySem.W.Frag → Bool := fun K => decide (PySem.W.findIn K (.ref (He.ga K "Halt")) "__getattr__" = some none)
def t110 : PySem.W.Frag → Bool := fun K => decide (PySem.W.hasDictIn K (He.ga K "Halt") = true)
def t111 : PySem.W.Frag → Bool := fun K => (PySem.W.clsIn K (He.ga K "Halt")).isSome
def t112 : PySem.W.Frag → Bool := fun K => decide (PySem.W.subIn K (.ref (He.ga K "Halt")) (.ref (He.ga K "Halt")) = some true)
def t113 : PySem.W.Frag → Bool := fun K => decide (PySem.W.findIn K (.ref (He.ga K "Halt")) "__init__" = some (some (.ref (He.fAd K ("Halt", some "__init__")))))
def t114 : PySem.W.Frag → Bool := fun K => decide (PySem.W.typeIn K (.ref (He.fAd K ("Halt", some "__init__"))) = some (.type "function"))
def t115 : PySem.W.Frag → Bool := fun K => decide (PySem.W.findIn K (.ref (He.ga K "Halt")) "end" = some none)
def tsts : List (PySem.W.Frag → Bool) := [t0, t1, t2, t3, t4, t5, t6, t7, t8, t9, t10, t11, t12, t13, t14, t15, t16, t17, t18, t19, t20, t21, t22, t23, t24, t25, t26, t27, t28, t29, t30, t31, t32, t33, t34, t35, t36, t37, t38, t39, t40, t41, t42, t43, t44, t45, t46, t47, t48, t49, t50, t51, t52, t53, t54, t55, t56, t57, t58, t59, t60, t61, t62, t63, t64, t65, t66, t67, t68, t69, t70, t71, t72, t73, t74, t75, t76, t77, t78, t79, t80, t81, t82, t83, t84, t85, t86, t87, t88, t89, t90, t91, t92, t93, t94, t95, t96, t97, t98, t99, t100, t101, t102, t103, t104, t105, t106, t107, t108, t109, t110, t111, t112, t113, t114, t115]
def d0 : He.DefD := ⟨("lowest", none), "lowest", "lowest", defArgs sLowest, defBody sLowest, defScope sLowest, [], []⟩
def d1 : He.DefD := ⟨("plus", none), "plus", "plus", defArgs sPlus, defBody sPlus, defScope sPlus, [], []⟩
def d2 : He.DefD := ⟨("minus", none), "minus", "minus", defArgs sMinus, defBody sMinus, defScope sMinus, [], []⟩
def d3 : He.DefD := ⟨("times", none), "times", "times", defArgs sTimes, defBody sTimes, defScope sTimes, [], []⟩
def d4 : He.DefD := ⟨("over", none), "over", "over", defArgs sOver, defBody sOver, defScope sOver, [], []⟩
def d5 : He.DefD := ⟨("sign", none), "sign", "sign", defArgs sSign, defBody sSign, defScope sSign, [], []⟩
def d6 : He.DefD := ⟨("ratio_text", none), "ratio_text", "ratio_text", defArgs sRatioText, defBody sRatioText, defScope sRatioText, [], []⟩
def d7 : He.DefD := ⟨("blocks_of", none), "blocks_of", "blocks_of", defArgs sBlocksOf, defBody sBlocksOf, defScope sBlocksOf, [], []⟩
def d8 : He.DefD := ⟨("expressions_of", none), "expressions_of", "expressions_of", defArgs sExpressionsOf, defBody sExpressionsOf, defScope sExpressionsOf, [], []⟩
def d9 : He.DefD := ⟨("names_called_in", none), "names_called_in", "names_called_in", defArgs sNamesCalledIn, defBody sNamesCalledIn, defScope sNamesCalledIn, [], []⟩
def d10 : He.DefD := ⟨("called_names", none), "called_names", "called_names", defArgs sCalledNames, defBody sCalledNames, defScope sCalledNames, [], []⟩
def d11 : He.DefD := ⟨("check_calls", none), "check_calls", "check_calls", defArgs sCheckCalls, defBody sCheckCalls, defScope sCheckCalls, [], []⟩
def d12 : He.DefD := ⟨("run", none), "run", "run", defArgs sRun, defBody sRun, defScope sRun, [], [("table", .non)]⟩
def d13 : He.DefD := ⟨("end_text", none), "end_text", "end_text", defArgs sEndText, defBody sEndText, defScope sEndText, [], []⟩
def d14 : He.DefD := ⟨("_law_bag", none), "_law_bag", "_law_bag", defArgs sLBag, defBody sLBag, defScope sLBag, [], []⟩
def d15 : He.DefD := ⟨("_law_pull", none), "_law_pull", "_law_pull", defArgs sLPull, defBody sLPull, defScope sLPull, [], []⟩
def d16 : He.DefD := ⟨("_law_of", none), "_law_of", "_law_of", defArgs sLOf, defBody sLOf, defScope sLOf, [], []⟩
def d17 : He.DefD := ⟨("_law_same", none), "_law_same", "_law_same", defArgs sLSame, defBody sLSame, defScope sLSame, [], []⟩
def d18 : He.DefD := ⟨("_law_gcd", none), "_law_gcd", "_law_gcd", defArgs sLGcd, defBody sLGcd, defScope sLGcd, [], []⟩
def d19 : He.DefD := ⟨("_law_low", none), "_law_low", "_law_low", defArgs sLLow, defBody sLLow, defScope sLLow, [], []⟩
def d20 : He.DefD := ⟨("_law_add", none), "_law_add", "_law_add", defArgs sLAdd, defBody sLAdd, defScope sLAdd, [], []⟩
def d21 : He.DefD := ⟨("_law_sub", none), "_law_sub", "_law_sub", defArgs sLSub, defBody sLSub, defScope sLSub, [], []⟩
def d22 : He.DefD := ⟨("_law_mul", none), "_law_mul", "_law_mul", defArgs sLMul, defBody sLMul, defScope sLMul, [], []⟩
def d23 : He.DefD := ⟨("_law_div", none), "_law_div", "_law_div", defArgs sLDiv, defBody sLDiv, defScope sLDiv, [], []⟩
def d24 : He.DefD := ⟨("_law_sign", none), "_law_sign", "_law_sign", defArgs sLSign, defBody sLSign, defScope sLSign, [], []⟩
def d25 : He.DefD := ⟨("_law_order", none), "_law_order", "_law_order", defArgs sLOrder, defBody sLOrder, defScope sLOrder, [], []⟩
def d26 : He.DefD := ⟨("_law_ratio", none), "_law_ratio", "_law_ratio", defArgs sLRatio, defBody sLRatio, defScope sLRatio, [], []⟩
def d27 : He.DefD := ⟨("_law_point", none), "_law_point", "_law_point", defArgs sLPoint, defBody sLPoint, defScope sLPoint, [], []⟩
def d28 : He.DefD := ⟨("_law_ratio_text", none), "_law_ratio_text", "_law_ratio_text", defArgs sLRatioText, defBody sLRatioText, defScope sLRatioText, [], []⟩
def d29 : He.DefD := ⟨("_law_names", none), "_law_names", "_law_names", defArgs sLNames, defBody sLNames, defScope sLNames, [], []⟩
def d30 : He.DefD := ⟨("_law_leaf", none), "_law_leaf", "_law_leaf", defArgs sLLeaf, defBody sLLeaf, defScope sLLeaf, [], []⟩
def d31 : He.DefD := ⟨("_law_expression", none), "_law_expression", "_law_expression", defArgs sLExpression, defBody sLExpression, defScope sLExpression, [], []⟩
def d32 : He.DefD := ⟨("_law_statement", none), "_law_statement", "_law_statement", defArgs sLStatement, defBody sLStatement, defScope sLStatement, [], []⟩
def d33 : He.DefD := ⟨("_law_block", none), "_law_block", "_law_block", defArgs sLBlock, defBody sLBlock, defScope sLBlock, [], []⟩
def d34 : He.DefD := ⟨("_law_program", none), "_law_program", "_law_program", defArgs sLProgram, defBody sLProgram, defScope sLProgram, [], []⟩
def d35 : He.DefD := ⟨("_law_value", none), "_law_value", "_law_value", defArgs sLValue, defBody sLValue, defScope sLValue, [], []⟩
def d36 : He.DefD := ⟨("_law_branch", none), "_law_branch", "_law_branch", defArgs sLBranch, defBody sLBranch, defScope sLBranch, [], []⟩
def d37 : He.DefD := ⟨("_law_block_end", none), "_law_block_end", "_law_block_end", defArgs sLBlockEnd, defBody sLBlockEnd, defScope sLBlockEnd, [], []⟩
def d38 : He.DefD := ⟨("_law_run", none), "_law_run", "_law_run", defArgs sLRun, defBody sLRun, defScope sLRun, [], []⟩
def d39 : He.DefD := ⟨("law", none), "law", "law", defArgs sLaw, defBody sLaw, defScope sLaw, [], []⟩
def d40 : He.DefD := ⟨("Plain", some "of_number"), "of_number", "Plain.of_number", defArgs sPlainOfNumber, defBody sPlainOfNumber, defScope sPlainOfNumber, [], []⟩
def d41 : He.DefD := ⟨("Plain", some "joined"), "joined", "Plain.joined", defArgs sPlainJoined, defBody sPlainJoined, defScope sPlainJoined, [], []⟩
def d42 : He.DefD := ⟨("Plain", some "is_zero"), "is_zero", "Plain.is_zero", defArgs sPlainIsZero, defBody sPlainIsZero, defScope sPlainIsZero, [], []⟩
def d43 : He.DefD := ⟨("Plain", some "order"), "order", "Plain.order", defArgs sPlainOrder, defBody sPlainOrder, defScope sPlainOrder, [], []⟩
def d44 : He.DefD := ⟨("Runner", some "__init__"), "__init__", "Runner.__init__", defArgs sRunnerInit, defBody sRunnerInit, defScope sRunnerInit, [], []⟩
def d45 : He.DefD := ⟨("Runner", some "evaluate"), "evaluate", "Runner.evaluate", defArgs sRunnerEvaluate, defBody sRunnerEvaluate, defScope sRunnerEvaluate, [], []⟩
def d46 : He.DefD := ⟨("Runner", some "outcome"), "outcome", "Runner.outcome", defArgs sRunnerOutcome, defBody sRunnerOutcome, defScope sRunnerOutcome, [], []⟩
def d47 : He.DefD := ⟨("Runner", some "block"), "block", "Runner.block", defArgs sRunnerBlock, defBody sRunnerBlock, defScope sRunnerBlock, [], []⟩
def d48 : He.DefD := ⟨("Runner", some "execute"), "execute", "Runner.execute", defArgs sRunnerExecute, defBody sRunnerExecute, defScope sRunnerExecute, [], []⟩
def d49 : He.DefD := ⟨("Runner", some "whole"), "whole", "Runner.whole", defArgs sRunnerWhole, defBody sRunnerWhole, defScope sRunnerWhole, [], []⟩
def d50 : He.DefD := ⟨("Halt", some "__init__"), "__init__", "Halt.__init__", defArgs sHalt_init, defBody sHalt_init, defScope sHalt_init, [], []⟩
def fnL : List He.DefD := [d0, d1, d2, d3, d4, d5, d6, d7, d8, d9, d10, d11, d12, d13, d14, d15, d16, d17, d18, d19, d20, d21, d22, d23, d24, d25, d26, d27, d28, d29, d30, d31, d32, d33, d34, d35, d36, d37, d38, d39, d40, d41, d42, d43, d44, d45, d46, d47, d48, d49, d50]
def tabL : List He.Tab := [(fun K => He.ga K "SIGNS", ["add", "sub", "mul", "div"])]
def nm0 : List PySem.Str := ["_wall", "PlaneError", "InvalidTerm", "InvalidLetter", "ZeroDivisor", "Missing", "UnknownName", "is_integer", "is_number", "lowest", "plus", "minus", "times", "over", "over_ratios", "sign", "ratio_text", "SIGNS", "blocks_of", "expressions_of", "names_called_in", "called_names", "trimmed", "combined", "product_of", "content", "primitive", "lightened", "remainder", "common_list"]
def nm1 : List PySem.Str := ["full_common", "exact_list", "LETTERS", "check_letter", "check_terms", "made_of", "power_text", "term_text", "added", "multiplied", "powers", "Poly", "columns", "shortened", "from_columns", "column_content", "without_content", "pseudo_remainder", "raised", "common", "exact_or_none", "Quotient", "MOST_WEIGHT", "MOST_STEPS", "Halt", "Plain", "Runner", "check_calls", "run", "end_text"]
def nm2 : List PySem.Str := ["_law_bag", "_law_pull", "_law_of", "_law_same", "_law_gcd", "_law_low", "_law_add", "_law_sub", "_law_mul", "_law_div", "_law_sign", "_law_order", "_law_ratio", "_law_point", "_law_ratio_text", "_law_names", "_law_leaf", "_law_expression", "_law_statement", "_law_block", "_law_program", "_law_value", "_law_branch", "_law_block_end", "_law_run"]
def nms : List PySem.Str := nm0 ++ nm1 ++ nm2
abbrev RR0 : PySem.W.OpenRow := PySem.W.OpenLaw.row PySem.Challenge.rw_nearspokes_k27_whole_runs
def asL : List Addr := ([3, 172, 179, 186, 193, 200, 207, 214, 215, 222, 229, 236, 243, 700, 721, 762, 818, 829, 837, 844, 851, 858, 865, 870, 877, 884, 891, 898, 905, 912, 919, 926, 933, 940, 947, 952, 959, 966, 973, 980] : List Addr) ++ ([987, 994, 1001, 1008, 1015, 1022, 171, 178, 185, 192, 199, 206, 213, 221, 228, 235, 242, 720, 761, 817, 828, 836, 830, 843, 850, 857, 864, 869, 876, 883, 890, 897, 904, 911, 918, 925, 932, 939, 946, 951] : List Addr) ++ ([958, 965, 972, 979, 986, 993, 1000, 1007, 1014, 1021, 718, 738, 745, 752, 759, 780, 787, 794, 801, 808, 815, 717, 737, 744, 751, 758, 779, 786, 793, 800, 807, 814] : List Addr)
abbrev hk : PySem.W.Hook := DH.hookL asL fnL tabL [] (DH.exAll tsts)
def ob (s : PySem.W.SharedT) : He.AlX := DH.obsL asL fnL tabL [] (DH.exAll tsts) (HandSHeadRun.getT s)
theorem ob_eq (s : PySem.W.SharedT) : ob s = hk.obs s.abs := DH.obsL_eq (HandSHeadRun.getT_eq s)
theorem run0 (w : World) : HandSHeadRun.RunEqI RR0 (PySem.W.view RR0.prog [0, 95]) hk ob 7592 nms (w.withFollow "special-get-raises" false) := by
  unfold HandSHeadRun.RunEqI
  kernel_rfl
theorem run1 (w : World) : HandSHeadRun.RunEqI RR0 (PySem.W.view RR0.prog [0, 95]) hk ob 7592 nms (w.withFollow "special-get-raises" true) := by
  unfold HandSHeadRun.RunEqI
  kernel_rfl
theorem run (w : World) : HandSHeadRun.RunEqI RR0 (PySem.W.view RR0.prog [0, 95]) hk ob 7592 nms w := PySem.W.byRow2 "special-get-raises" (P := fun w => HandSHeadRun.RunEqI RR0 (PySem.W.view RR0.prog [0, 95]) hk ob 7592 nms w) run0 run1 w
end T27

/-! # Data over the hand layer: Python's values as plain trees, mutable things in a ledger -/
namespace DL
open PySem L2

/-- a lambda without parameters, or with one whose default is 0: its words, its parameters, the names that it captures -/
structure LamF where
  params : Arguments
  body : Expr
  scope : Scope
  qual : Str
  ps : List Str
  fr : List Str
/-- a value as a whole: what can be seen of it; fnv: a lambda of the running def, cl its cells; clo: a lambda and what its cells hold; tab: a table of code objects; ptr: a thing of the ledger, a def, a class -/
inductive D where
  | non | bl (b : Bool) | int (i : Int) | str (x : Str)
  | lst (xs : List D) | tup (xs : List D) | ro (xs : List D)
  | dk (ks : List Key) (vs : List D) | dt (ks : List (List Key)) (vs : List D)
  | obj (C : Addr) (ns : List Str) (vs : List D)
  | exc (C : Addr) (ns : List Str) (vs : List D)
  | fnv (F : LamF) (cl : List (Str × Addr))
  | clo (F : LamF) (ds : List D)
  | tab (q : Str)
  | ptr (a : Addr) | ty (n : String)

/-- mutable things, by address -/
abbrev Led := List (Addr × D)
def inL (L : Led) (a : Addr) : Prop := a ∈ L.map (·.1)

def SqL' (L : Led) (K : PySem.W.Frag) (H : Hp) (a : Addr) (xs : List V) : Prop :=
  (¬ inL L a ∧ Rd H a (.lst xs)) ∨
    ∃ (o : Obj) (its : Array Value) (n : Nat), K.lookup a = some o ∧ o.cls = .type "list" ∧ o.dict = none ∧ o.data = .seq its n ∧ its.size ≤ sizeLine ∧ Vals xs its.toList
def SqT' (L : Led) (K : PySem.W.Frag) (H : Hp) (a : Addr) (xs : List V) : Prop :=
  (¬ inL L a ∧ Rd H a (.tup xs)) ∨
    ∃ (o : Obj) (its : Array Value) (n : Nat), K.lookup a = some o ∧ o.cls = .type "tuple" ∧ o.data = .seq its n ∧ its.size ≤ sizeLine ∧ Vals xs its.toList
theorem SqL'.sq {L K H a xs} (h : SqL' L K H a xs) : SqL K H a xs := h.elim (fun z => .inl z.2) .inr
theorem SqT'.sq {L K H a xs} (h : SqT' L K H a xs) : SqT K H a xs := h.elim (fun z => .inl z.2) .inr

/-- an error of the class at C stands at a, its own dict at d -/
def ExcAt (h : Heap) (a C d : Addr) : Prop := ∃ (oe : Obj) (vs : Array Value), h.get? a = some oe ∧ oe.cls = .ref C ∧ oe.dict = some d ∧ oe.data = .fields vs
def XDict (H : Hp) (d : Addr) (fs : List (Str × V)) : Prop := H d = some (.xd fs) ∨ H d = some (exd d fs)
/-- the object at f is the lambda F with the cells cl, the defaults dV, the code object at c -/
def LamO (f : Addr) (F : LamF) (cl : List (Str × Addr)) (dV : Value) (c : Addr) : HO := .ext fun h => ∃ (od : Option Addr) (sl : Array (Option Value)) (doc pm ctv : Value), h.get? f = some (⟨.type "function", od, .func (PySem.W.kdv_fn "<lambda>" F.qual F.params (.expr F.body) F.scope cl dV doc pm (.ref c) ctv), sl⟩ : Obj)
def DvAt (L : Led) (H : Hp) (n : Nat) (dV : Value) : Prop := (n = 0 ∧ dV = .none) ∨ (n ≠ 0 ∧ ∃ t, dV = .ref t ∧ ¬ inL L t ∧ H t = some (.tup (List.replicate n (.int 0))))
structure FnvAt (L : Led) (H : Hp) (f : Addr) (F : LamF) (cl : List (Str × Addr)) : Prop where
  nf : ¬ inL L f
  ex : ∃ (c : Addr) (dV : Value), H f = some (LamO f F cl dV c) ∧ ¬ inL L c ∧ H c = some (LamX.CodeO c F.qual) ∧ DvAt L H F.ps.length dV
/-- a cell that is known to the object -/
abbrev celO (o : Obj) : HO := .frz o (.own 0)
/-- .. and its cells are known: they hold vs -/
structure CloAt (L : Led) (H : Hp) (f : Addr) (F : LamF) (vs : List V) : Prop where
  ex : ∃ cl : List (Str × Addr), FnvAt L H f F cl ∧ vs.length = F.fr.length ∧ (∀ x y c, cl.lookup x = some c → cl.lookup y = some c → x = y) ∧ (∀ y c, cl.lookup y = some c → y ∈ F.fr) ∧
    ∀ (i : Nat) (y : Str), F.fr[i]? = some y → ∃ (cc : Addr) (oc : Obj) (u : Value) (v : V), cl.lookup y = some cc ∧ ¬ inL L cc ∧ H cc = some (celO oc) ∧ oc.data = .cell (some u) ∧ vs[i]? = some v ∧ RelV v u
mutual
inductive Rp (L : Led) (K : PySem.W.Frag) (H : Hp) : V → D → Prop
  | non : Rp L K H .non .non
  | bl (b : Bool) : Rp L K H (.bl b) (.bl b)
  | int (i : Int) : Rp L K H (.int i) (.int i)
  | str (x : Str) : Rp L K H (.str x) (.str x)
  | ty (n : String) : Rp L K H (.ty n) (.ty n)
  | ptr (a : Addr) : Rp L K H (.ref a) (.ptr a)
  | lst {a : Addr} {xs : List V} {ds : List D} : ¬ inL L a → H a = some (.lst xs) → RpAll L K H xs ds → Rp L K H (.ref a) (.lst ds)
  | ro {a : Addr} {xs : List V} {ds : List D} : SqL' L K H a xs → RpAll L K H xs ds → Rp L K H (.ref a) (.ro ds)
  | tup {a : Addr} {xs : List V} {ds : List D} : SqT' L K H a xs → RpAll L K H xs ds → Rp L K H (.ref a) (.tup ds)
  | dk {a : Addr} {ks : List Key} {xs : List V} {ds : List D} : ¬ inL L a → Rd H a (.dK (ks.zip xs)) → ks.length = xs.length → RpAll L K H xs ds → Rp L K H (.ref a) (.dk ks ds)
  | dt {a : Addr} {ks : List (List Key)} {xs : List V} {ds : List D} : ¬ inL L a → H a = some (.dT (ks.zip xs)) → ks.length = xs.length → RpAll L K H xs ds → Rp L K H (.ref a) (.dt ks ds)
  | obj {a C dx : Addr} {ns : List Str} {xs : List V} {ds : List D} : ¬ inL L a → H a = some (.ins C dx (ns.zip xs)) → ns.length = xs.length → RpAll L K H xs ds → Rp L K H (.ref a) (.obj C ns ds)
  | exc {a C d : Addr} {φ : Heap → Prop} {ns : List Str} {xs : List V} {ds : List D} : ¬ inL L a → ¬ inL L d → H a = some (.ext φ) → (∀ h, φ h → ExcAt h a C d) → XDict H d (ns.zip xs) → ns.length = xs.length → RpAll L K H xs ds → Rp L K H (.ref a) (.exc C ns ds)
  | fnv {f : Addr} {F : LamF} {cl : List (Str × Addr)} : FnvAt L H f F cl → Rp L K H (.ref f) (.fnv F cl)
  | clo {f : Addr} {F : LamF} {xs : List V} {ds : List D} : CloAt L H f F xs → RpAll L K H xs ds → Rp L K H (.ref f) (.clo F ds)
inductive RpAll (L : Led) (K : PySem.W.Frag) (H : Hp) : List V → List D → Prop
  | nil : RpAll L K H [] []
  | cons {v : V} {vs : List V} {d : D} {ds : List D} : Rp L K H v d → RpAll L K H vs ds → RpAll L K H (v :: vs) (d :: ds)
end

/-- from (L, H) to (L', H'): what is not of the ledger stands -/
def Go (L L' : Led) (H H' : Hp) : Prop := ∀ a o, ¬ inL L a → H a = some o → ¬ inL L' a ∧ H' a = some o
theorem Go.refl (L : Led) (H : Hp) : Go L L H H := fun _ _ n h => ⟨n, h⟩
theorem Go.trans {L L1 L2 : Led} {H H1 H2 : Hp} (a : Go L L1 H H1) (b : Go L1 L2 H1 H2) : Go L L2 H H2 := fun x o n h => let ⟨n1, h1⟩ := a x o n h; b x o n1 h1
theorem Go.same {L : Led} {H H' : Hp} (s : Same H H') : Go L L H H' := fun a o n h => ⟨n, s a o h⟩
theorem Go.rd {L L' : Led} {H H' : Hp} {a : Addr} {u : HO} (g : Go L L' H H') (n : ¬ inL L a) (h : Rd H a u) : ¬ inL L' a ∧ Rd H' a u := by
  rcases h with h | ⟨o, h⟩
  · exact ⟨(g a _ n h).1, .inl (g a _ n h).2⟩
  · exact ⟨(g a _ n h).1, .inr ⟨o, (g a _ n h).2⟩⟩
theorem Go.sqL {L L' K H H' a xs} (g : Go L L' H H') (h : SqL' L K H a xs) : SqL' L' K H' a xs := h.elim (fun z => .inl (g.rd z.1 z.2)) .inr
theorem Go.sqT {L L' K H H' a xs} (g : Go L L' H H') (h : SqT' L K H a xs) : SqT' L' K H' a xs := h.elim (fun z => .inl (g.rd z.1 z.2)) .inr
theorem Go.xdict {L L' : Led} {H H' : Hp} {d : Addr} {fs : List (Str × V)} (g : Go L L' H H') (n : ¬ inL L d) (h : XDict H d fs) : ¬ inL L' d ∧ XDict H' d fs := by
  rcases h with h | h
  · exact ⟨(g d _ n h).1, .inl (g d _ n h).2⟩
  · exact ⟨(g d _ n h).1, .inr (g d _ n h).2⟩
theorem Go.fnv {L L' : Led} {H H' : Hp} {f : Addr} {F : LamF} {cl : List (Str × Addr)} (g : Go L L' H H') (h : FnvAt L H f F cl) : FnvAt L' H' f F cl := by
  obtain ⟨nf, c, dV, h1, n2, h2, h3⟩ := h
  refine ⟨(g _ _ nf h1).1, c, dV, (g _ _ nf h1).2, (g _ _ n2 h2).1, (g _ _ n2 h2).2, ?_⟩
  rcases h3 with h3 | ⟨z, t, e, n, h3⟩
  · exact .inl h3
  · exact .inr ⟨z, t, e, (g _ _ n h3).1, (g _ _ n h3).2⟩
theorem Go.clo {L L' : Led} {H H' : Hp} {f : Addr} {F : LamF} {vs : List V} (g : Go L L' H H') (h : CloAt L H f F vs) : CloAt L' H' f F vs := by
  obtain ⟨cl, h1, h2, h3, h4, h5⟩ := h
  refine ⟨cl, g.fnv h1, h2, h3, h4, fun i y e => ?_⟩
  obtain ⟨cc, oc, u, v, q1, n, q2, q3⟩ := h5 i y e
  exact ⟨cc, oc, u, v, q1, (g _ _ n q2).1, (g _ _ n q2).2, q3⟩
mutual
theorem Rp.go {L L' : Led} {K : PySem.W.Frag} {H H' : Hp} (g : Go L L' H H') : ∀ {v : V} {d : D}, Rp L K H v d → Rp L' K H' v d
  | _, _, .non => .non
  | _, _, .bl b => .bl b
  | _, _, .int i => .int i
  | _, _, .str x => .str x
  | _, _, .ty n => .ty n
  | _, _, .ptr a => .ptr a
  | _, _, .lst n h r => .lst (g _ _ n h).1 (g _ _ n h).2 (RpAll.go g r)
  | _, _, .ro s r => .ro (g.sqL s) (RpAll.go g r)
  | _, _, .tup s r => .tup (g.sqT s) (RpAll.go g r)
  | _, _, .dk n h e r => .dk (g.rd n h).1 (g.rd n h).2 e (RpAll.go g r)
  | _, _, .dt n h e r => .dt (g _ _ n h).1 (g _ _ n h).2 e (RpAll.go g r)
  | _, _, .obj n h e r => .obj (g _ _ n h).1 (g _ _ n h).2 e (RpAll.go g r)
  | _, _, .exc n m h p x e r => .exc (g _ _ n h).1 (g.xdict m x).1 (g _ _ n h).2 p (g.xdict m x).2 e (RpAll.go g r)
  | _, _, .fnv h => .fnv (g.fnv h)
  | _, _, .clo h r => .clo (g.clo h) (RpAll.go g r)
theorem RpAll.go {L L' : Led} {K : PySem.W.Frag} {H H' : Hp} (g : Go L L' H H') : ∀ {vs : List V} {ds : List D}, RpAll L K H vs ds → RpAll L' K H' vs ds
  | _, _, .nil => .nil
  | _, _, .cons h r => .cons (Rp.go g h) (RpAll.go g r)
end
section
variable {L : Led} {K : PySem.W.Frag} {H : Hp}
theorem RpAll.length : ∀ {vs : List V} {ds : List D}, RpAll L K H vs ds → vs.length = ds.length
  | _, _, .nil => rfl
  | _, _, .cons _ r => by rw [List.length_cons, List.length_cons, RpAll.length r]
theorem RpAll.get : ∀ {vs : List V} {ds : List D} {i : Nat} {d : D}, RpAll L K H vs ds → ds[i]? = some d → ∃ v, vs[i]? = some v ∧ Rp L K H v d
  | _, _, _, _, .nil, e => by simp at e
  | _, _, 0, _, .cons h _, e => by simp at e; subst e; exact ⟨_, rfl, h⟩
  | _, _, i + 1, d, .cons _ r, e => by
    obtain ⟨v, e1, h⟩ := RpAll.get (i := i) (d := d) r (by simpa using e)
    exact ⟨v, by simpa using e1, h⟩
theorem RpAll.getV : ∀ {vs : List V} {ds : List D} {i : Nat} {v : V}, RpAll L K H vs ds → vs[i]? = some v → ∃ d, ds[i]? = some d ∧ Rp L K H v d
  | _, _, _, _, .nil, e => by simp at e
  | _, _, 0, _, .cons h _, e => by simp at e; subst e; exact ⟨_, rfl, h⟩
  | _, _, i + 1, v, .cons _ r, e => by
    obtain ⟨d, e1, h⟩ := RpAll.getV (i := i) (v := v) r (by simpa using e)
    exact ⟨d, by simpa using e1, h⟩
theorem RpAll.append : ∀ {vs ws : List V} {ds es : List D}, RpAll L K H vs ds → RpAll L K H ws es → RpAll L K H (vs ++ ws) (ds ++ es)
  | _, _, _, _, .nil, s => s
  | _, _, _, _, .cons h r, s => .cons h (RpAll.append r s)
theorem RpAll.take : ∀ {vs : List V} {ds : List D} (n : Nat), RpAll L K H vs ds → RpAll L K H (vs.take n) (ds.take n)
  | _, _, 0, _ => .nil
  | _, _, _ + 1, .nil => .nil
  | _, _, n + 1, .cons h r => .cons h (RpAll.take n r)
theorem RpAll.drop : ∀ {vs : List V} {ds : List D} (n : Nat), RpAll L K H vs ds → RpAll L K H (vs.drop n) (ds.drop n)
  | _, _, 0, h => h
  | _, _, _ + 1, .nil => .nil
  | _, _, n + 1, .cons _ r => RpAll.drop n r
theorem RpAll.set {v : V} {d : D} (h : Rp L K H v d) : ∀ {vs : List V} {ds : List D} (i : Nat), RpAll L K H vs ds → RpAll L K H (vs.set i v) (ds.set i d)
  | _, _, _, .nil => .nil
  | _, _, 0, .cons _ r => .cons h r
  | _, _, i + 1, .cons a r => .cons a (RpAll.set h i r)
theorem RpAll.ints : ∀ (ns : List Int), RpAll L K H (ns.map V.int) (ns.map D.int)
  | [] => .nil
  | n :: r => .cons (.int n) (RpAll.ints r)
theorem RpAll.ofInts : ∀ {vs : List V} (ns : List Int), RpAll L K H vs (ns.map D.int) → vs = ns.map V.int
  | _, [], .nil => rfl
  | _, _ :: r, .cons h t => by cases h; rw [RpAll.ofInts r t]; rfl
theorem RpAll.ofBls : ∀ {vs : List V} (ns : List Bool), RpAll L K H vs (ns.map D.bl) → vs = ns.map V.bl
  | _, [], .nil => rfl
  | _, _ :: r, .cons h t => by cases h; rw [RpAll.ofBls r t]; rfl
theorem RpAll.ofStrs : ∀ {vs : List V} (ns : List Str), RpAll L K H vs (ns.map D.str) → vs = ns.map V.str
  | _, [], .nil => rfl
  | _, _ :: r, .cons h t => by cases h; rw [RpAll.ofStrs r t]; rfl
theorem RpAll.strs : ∀ (ns : List Str), RpAll L K H (ns.map V.str) (ns.map D.str)
  | [] => .nil
  | n :: r => .cons (.str n) (RpAll.strs r)
end

/-! ### the ledger -/
/-- what stands at a, of the ledger -/
def Own (L : Led) (K : PySem.W.Frag) (H : Hp) (a : Addr) : D → Prop
  | .lst ds => ∃ vs, H a = some (.lst vs) ∧ RpAll L K H vs ds
  | .dk ks ds => ∃ vs, H a = some (.dK (ks.zip vs)) ∧ ks.length = vs.length ∧ RpAll L K H vs ds
  | .dt ks ds => ∃ vs, H a = some (.dT (ks.zip vs)) ∧ ks.length = vs.length ∧ RpAll L K H vs ds
  | .obj C ns ds => ∃ dx vs, H a = some (.ins C dx (ns.zip vs)) ∧ ns.length = vs.length ∧ RpAll L K H vs ds
  | .tab q => ∃ ps : Array Value, H a = some (.tbl ps) ∧ TriplesOk ps.toList ∧ ∀ (pos : Pos) (cv : Value), codeAmong pos ps.toList = some cv → ∃ c, cv = .ref c ∧ ¬ inL L c ∧ H c = some (LamX.CodeO c q)
  | _ => False
structure JL (K : PySem.W.Frag) (L : Led) (H : Hp) : Prop where
  nd : (L.map (·.1)).Nodup
  own : ∀ a d, (a, d) ∈ L → Own L K H a d
section
variable {L L' : Led} {K : PySem.W.Frag} {H H' : Hp} {a p : Addr} {d : D}
theorem Own.there (h : Own L K H a d) : ∃ o, H a = some o := by
  cases d with
  | lst ds => exact ⟨_, h.choose_spec.1⟩
  | dk ks ds => exact ⟨_, h.choose_spec.1⟩
  | dt ks ds => exact ⟨_, h.choose_spec.1⟩
  | obj C ns ds => obtain ⟨dx, vs, e, _⟩ := h; exact ⟨_, e⟩
  | tab q => obtain ⟨ps, e, _⟩ := h; exact ⟨_, e⟩
  | _ => exact h.elim
theorem Own.move (h : Own L K H a d) (g : Go L L' H H') (e : ∀ o, H a = some o → H' a = some o) : Own L' K H' a d := by
  cases d with
  | lst ds => obtain ⟨vs, h1, h2⟩ := h; exact ⟨vs, e _ h1, h2.go g⟩
  | dk ks ds => obtain ⟨vs, h1, h3, h2⟩ := h; exact ⟨vs, e _ h1, h3, h2.go g⟩
  | dt ks ds => obtain ⟨vs, h1, h3, h2⟩ := h; exact ⟨vs, e _ h1, h3, h2.go g⟩
  | obj C ns ds => obtain ⟨dx, vs, h1, h3, h2⟩ := h; exact ⟨dx, vs, e _ h1, h3, h2.go g⟩
  | tab q =>
    obtain ⟨ps, h1, h2, h3⟩ := h
    refine ⟨ps, e _ h1, h2, fun pos cv hc => ?_⟩
    obtain ⟨c, q1, n, q2⟩ := h3 pos cv hc
    exact ⟨c, q1, (g _ _ n q2).1, (g _ _ n q2).2⟩
  | _ => exact h.elim
theorem JL.same (j : JL K L H) (s : Same H H') : JL K L H' := ⟨j.nd, fun a d m => Own.move (j.own a d m) (Go.same s) fun o e => s a o e⟩
theorem JL.notIn (j : JL K L H) (h : H p = none) : ¬ inL L p := fun m => by
  obtain ⟨q, hq, e⟩ := List.mem_map.mp m
  obtain ⟨o, ho⟩ := Own.there (j.own q.1 q.2 hq)
  rw [e, h] at ho
  cases ho
theorem mem_of_lookup : ∀ {L : Led} {a : Addr} {d : D}, L.lookup a = some d → (a, d) ∈ L
  | [], _, _, h => by simp at h
  | (b, e) :: r, a, d, h => by
    by_cases hb : a = b
    · subst hb
      rw [List.lookup_cons_self] at h
      cases h
      exact List.mem_cons_self
    · have q : (a == b) = false := by simpa using hb
      rw [List.lookup_cons, q] at h
      exact List.mem_cons_of_mem _ (mem_of_lookup h)
theorem JL.look (j : JL K L H) (h : L.lookup a = some d) : Own L K H a d := j.own a d (mem_of_lookup h)
/-- what a datum holds, through the ledger -/
def con (L : Led) : D → D
  | .ptr a => (L.lookup a).getD (.ptr a)
  | d => d
theorem con_lst {v : V} {ds : List D} (j : JL K L H) (r : Rp L K H v d) (e : con L d = .lst ds) : ∃ a vs, v = .ref a ∧ H a = some (.lst vs) ∧ RpAll L K H vs ds := by
  cases d with
  | ptr a =>
    cases r
    have e : (L.lookup a).getD (.ptr a) = _ := e
    cases h : L.lookup a with
    | none => rw [h] at e; cases e
    | some c =>
      rw [h] at e
      have e2 : c = .lst ds := e
      subst e2
      obtain ⟨vs, h1, h2⟩ := j.look h
      exact ⟨a, vs, rfl, h1, h2⟩
  | lst xs =>
    have e2 : xs = ds := by unfold con at e; injection e
    subst e2
    cases r with
    | lst n h r => exact ⟨_, _, rfl, h, r⟩
  | _ => cases e
theorem con_tup {v : V} {ds : List D} (j : JL K L H) (r : Rp L K H v d) (e : con L d = .tup ds) : ∃ a vs, v = .ref a ∧ SqT K H a vs ∧ RpAll L K H vs ds := by
  cases d with
  | ptr a =>
    cases r
    have e : (L.lookup a).getD (.ptr a) = _ := e
    cases h : L.lookup a with
    | none => rw [h] at e; cases e
    | some c =>
      rw [h] at e
      have e2 : c = .tup ds := e
      subst e2
      exact (j.look h).elim
  | tup xs =>
    have e2 : xs = ds := by unfold con at e; injection e
    subst e2
    cases r with
    | tup s r => exact ⟨_, _, rfl, s.sq, r⟩
  | _ => cases e
/-- the items of a list or tuple that may be read -/
def seqs : D → Option (List D)
  | .lst ds => some ds
  | .ro ds => some ds
  | .tup ds => some ds
  | _ => none
theorem con_ro {v : V} {ds : List D} (j : JL K L H) (r : Rp L K H v d) (e : con L d = .ro ds) : ∃ a vs, v = .ref a ∧ SqL K H a vs ∧ RpAll L K H vs ds := by
  cases d with
  | ptr a =>
    cases r
    have e : (L.lookup a).getD (.ptr a) = _ := e
    cases h : L.lookup a with
    | none => rw [h] at e; cases e
    | some c =>
      rw [h] at e
      have e2 : c = .ro ds := e
      subst e2
      exact (j.look h).elim
  | ro xs =>
    have e2 : xs = ds := by unfold con at e; injection e
    subst e2
    cases r with
    | ro s r => exact ⟨_, _, rfl, s.sq, r⟩
  | _ => cases e
theorem con_seq {v : V} {ds : List D} (j : JL K L H) (r : Rp L K H v d) (e : seqs (con L d) = some ds) : ∃ a vs, v = .ref a ∧ (SqL K H a vs ∨ SqT K H a vs) ∧ RpAll L K H vs ds := by
  cases h : con L d with
  | lst xs =>
    rw [h] at e; cases e
    obtain ⟨a, vs, h1, h2, h3⟩ := con_lst j r h
    exact ⟨a, vs, h1, .inl (SqL.of h2), h3⟩
  | ro xs =>
    rw [h] at e; cases e
    obtain ⟨a, vs, h1, h2, h3⟩ := con_ro j r h
    exact ⟨a, vs, h1, .inl h2, h3⟩
  | tup xs =>
    rw [h] at e; cases e
    obtain ⟨a, vs, h1, h2, h3⟩ := con_tup j r h
    exact ⟨a, vs, h1, .inr h2, h3⟩
  | _ => rw [h] at e; cases e
theorem same_new (h : H p = none) (o : HO) : Same H (upd H p o) := fun b u q => by rw [upd_ne (ne_of_none q h)]; exact q
/-- a new thing onto the ledger -/
theorem JL.push (j : JL K L H) (hp : H p = none) {o : HO} (ow : Own ((p, d) :: L) K (upd H p o) p d) : JL K ((p, d) :: L) (upd H p o) ∧ Go L ((p, d) :: L) H (upd H p o) := by
  have np := j.notIn hp
  have g : Go L ((p, d) :: L) H (upd H p o) := fun a u n h => by
    have ne : a ≠ p := ne_of_none h hp
    exact ⟨fun m => by
      rcases List.mem_cons.mp m with e | e
      · exact ne e
      · exact n e, by rw [upd_ne ne]; exact h⟩
  refine ⟨⟨List.nodup_cons.mpr ⟨np, j.nd⟩, fun a e m => ?_⟩, g⟩
  rcases List.mem_cons.mp m with q | q
  · cases q
    exact ow
  · exact Own.move (j.own a e q) g fun u h => by rw [upd_ne (ne_of_none h hp)]; exact h
end

/-! ### slots -/
abbrev DEnv := List (Option D)
inductive Sto (L : Led) (K : PySem.W.Frag) (H : Hp) : St → DEnv → Prop
  | nil : Sto L K H [] []
  | sm {v d σ e} : Rp L K H v d → Sto L K H σ e → Sto L K H (some v :: σ) (some d :: e)
  | no {o σ e} : Sto L K H σ e → Sto L K H (o :: σ) (none :: e)
section
variable {L L' : Led} {K : PySem.W.Frag} {H H' : Hp}
theorem Sto.go (g : Go L L' H H') : ∀ {σ : St} {e : DEnv}, Sto L K H σ e → Sto L' K H' σ e
  | _, _, .nil => .nil
  | _, _, .sm h r => .sm (h.go g) (Sto.go g r)
  | _, _, .no r => .no (Sto.go g r)
theorem Sto.get : ∀ {σ : St} {e : DEnv} {i : Nat} {d : D}, Sto L K H σ e → e[i]? = some (some d) → ∃ v, σ[i]? = some (some v) ∧ Rp L K H v d
  | _, _, _, _, .nil, h => by simp at h
  | _, _, 0, _, .sm h _, q => by simp at q; subst q; exact ⟨_, rfl, h⟩
  | _, _, 0, _, .no _, q => by simp at q
  | _, _, i + 1, d, .sm _ r, q => by
    obtain ⟨v, e1, h⟩ := Sto.get (i := i) (d := d) r (by simpa using q)
    exact ⟨v, by simpa using e1, h⟩
  | _, _, i + 1, d, .no r, q => by
    obtain ⟨v, e1, h⟩ := Sto.get (i := i) (d := d) r (by simpa using q)
    exact ⟨v, by simpa using e1, h⟩
theorem Sto.set {v : V} {d : D} (h : Rp L K H v d) : ∀ {σ : St} {e : DEnv} (i : Nat), Sto L K H σ e → Sto L K H (σ.set i (some v)) (e.set i (some d))
  | _, _, _, .nil => .nil
  | _, _, 0, .sm _ r => .sm h r
  | _, _, 0, .no r => .sm h r
  | _, _, i + 1, .sm q r => .sm q (Sto.set h i r)
  | _, _, i + 1, .no r => .no (Sto.set h i r)
theorem Sto.wipe1 {o : Option V} : ∀ {σ : St} {e : DEnv} (i : Nat), Sto L K H σ e → Sto L K H (σ.set i o) (e.set i none)
  | _, _, _, .nil => .nil
  | _, _, 0, .sm _ r => .no r
  | _, _, 0, .no r => .no r
  | _, _, i + 1, .sm q r => .sm q (Sto.wipe1 i r)
  | _, _, i + 1, .no r => .no (Sto.wipe1 i r)
theorem Sto.start : ∀ {vs : List V} {ds : List D} {n : Nat}, RpAll L K H vs ds → Sto L K H (vs.map some ++ List.replicate n none) (ds.map some ++ List.replicate n none)
  | _, _, 0, .nil => .nil
  | _, _, n + 1, .nil => .no (Sto.start (n := n) .nil)
  | _, _, n, .cons h r => .sm h (Sto.start r)
end
end DL

namespace DL
open PySem L2

/-- an error: its class, what its own dict holds -/
structure Exn where
  cls : Value
  ns : List Str
  vs : List D
def ExR (L : Led) (K : PySem.W.Frag) (H : Hp) (a : Addr) (n : Exn) : Prop :=
  ¬ inL L a ∧ ∃ vs, H a = some (.xd (n.ns.zip vs)) ∧ n.ns.length = vs.length ∧ RpAll L K H vs n.vs
abbrev DK := D → Led → Prop
abbrev DX := Exn → DEnv → Led → Prop
abbrev DE := DEnv → Led → DK → DX → Prop
abbrev DT := DEnv → Led → (Bool → Led → Prop) → DX → Prop
abbrev DA := DEnv → Led → (List D → Led → Prop) → DX → Prop
structure DEnds where
  nx : DEnv → Led → Prop
  rt : DK
  ex : DX
  bk : DEnv → Led → Prop
  ct : DEnv → Led → Prop
abbrev DS := DEnds → DEnv → Led → Prop

def StL (K : PySem.W.Frag) (σ : St) (H : Hp) (env : DEnv) (L : Led) : Prop := Sto L K H σ env ∧ JL K L H
theorem StL.go {K : PySem.W.Frag} {σ : St} {H H' : Hp} {env : DEnv} {L L' : Led} (s : StL K σ H env L) (g : Go L L' H H') (j : JL K L' H') : StL K σ H' env L' := ⟨s.1.go g, j⟩
def KOk (K : PySem.W.Frag) (L : Led) (H : Hp) (k : DK) (Q : VK) : Prop := ∀ d L' v H', k d L' → Go L L' H H' → JL K L' H' → Rp L' K H' v d → Q v H'
def XOk (K : PySem.W.Frag) (Wx : WX) (L : Led) (H : Hp) (x : DX) : Prop := ∀ n env' L' a H' σ', x n env' L' → Go L L' H H' → StL K σ' H' env' L' → ExR L' K H' a n → Wx n.cls (some a) σ' H'
structure EOk (K : PySem.W.Frag) (Wx : WX) (L : Led) (H : Hp) (D' : DEnds) (D : Ends) : Prop where
  nx : ∀ env' L' σ' H', D'.nx env' L' → Go L L' H H' → StL K σ' H' env' L' → D.nx σ' H'
  rt : KOk K L H D'.rt D.rt
  ex : XOk K Wx L H D'.ex
  bk : ∀ env' L' σ' H', D'.bk env' L' → Go L L' H H' → StL K σ' H' env' L' → D.bk σ' H'
  ct : ∀ env' L' σ' H', D'.ct env' L' → Go L L' H H' → StL K σ' H' env' L' → D.ct σ' H'
section
variable {K : PySem.W.Frag} {Wx : WX} {L L1 : Led} {H H1 : Hp} {k : DK} {Q : VK} {x : DX} {D' : DEnds} {D : Ends}
theorem KOk.go (h : KOk K L H k Q) (g : Go L L1 H H1) : KOk K L1 H1 k Q := fun d L' v H' q g' j r => h d L' v H' q (g.trans g') j r
theorem XOk.go (h : XOk K Wx L H x) (g : Go L L1 H H1) : XOk K Wx L1 H1 x := fun n e L' a H' σ' q g' s r => h n e L' a H' σ' q (g.trans g') s r
theorem EOk.go (h : EOk K Wx L H D' D) (g : Go L L1 H H1) : EOk K Wx L1 H1 D' D :=
  ⟨fun e L' σ' H' q g' s => h.nx e L' σ' H' q (g.trans g') s, h.rt.go g, h.ex.go g, fun e L' σ' H' q g' s => h.bk e L' σ' H' q (g.trans g') s, fun e L' σ' H' q g' s => h.ct e L' σ' H' q (g.trans g') s⟩
end

def SimE (K : PySem.W.Frag) (Wx : WX) (te : TE) (de : DE) : Prop := ∀ σ H env L k x Q, StL K σ H env L → de env L k x → KOk K L H k Q → XOk K Wx L H x → te σ H Q
def SimT (K : PySem.W.Frag) (Wx : WX) (te : TT) (de : DT) : Prop := ∀ σ H env L k x Q, StL K σ H env L → de env L k x → (∀ b L' H', k b L' → Go L L' H H' → JL K L' H' → Q b H') → XOk K Wx L H x → te σ H Q
def SimA (K : PySem.W.Frag) (Wx : WX) (ta : TA) (da : DA) : Prop := ∀ σ H env L k x Q, StL K σ H env L → da env L k x → (∀ ds L' vs H', k ds L' → Go L L' H H' → JL K L' H' → RpAll L' K H' vs ds → Q vs H') → XOk K Wx L H x → ta σ H Q
def SimS (K : PySem.W.Frag) (Wx : WX) (ts : TS) (ds : DS) : Prop := ∀ σ H env L D' D, StL K σ H env L → ds D' env L → EOk K Wx L H D' D → ts D σ H
structure QE (X : Cx) (Wx : WX) (e : Expr) (de : DE) : Prop where
  ex : ∃ te, PE X e te ∧ SimE X.K Wx te de
structure QT (X : Cx) (Wx : WX) (e : Expr) (dt : DT) : Prop where
  ex : ∃ te, PT X e te ∧ SimT X.K Wx te dt
structure QW (X : Cx) (Wx : WX) (e : Expr) (dt : DT) : Prop where
  ex : ∃ te, PW X e te ∧ SimT X.K Wx te dt
structure QA (X : Cx) (Wx : WX) (es : List Expr) (da : DA) : Prop where
  ex : ∃ ta, PA X es ta ∧ SimA X.K Wx ta da
structure QS (X : Cx) (Wx : WX) (st : Stmt) (ds : DS) : Prop where
  ex : ∃ ts, PS X st ts ∧ SimS X.K Wx ts ds
structure QSs (X : Cx) (Wx : WX) (st : List Stmt) (ds : DS) : Prop where
  ex : ∃ ts, PSs X st ts ∧ SimS X.K Wx ts ds

section
variable {X : Cx} {Wx : WX} {a b c e : Expr} {es : List Expr} {da db dc de : DE} {pos : Pos}

/-! ### names, constants -/
def dVar (i : Nat) : DE := fun env L k _ => match env[i]? with
  | some (some d) => k d L
  | _ => False
theorem qv (i : Nat) {x : Str} {pos : Pos} (hN : X.N[i]? = some x := by rfl) (hv : Vis X.env.scope x := by first | exact Or.inl rfl | exact Or.inr (Or.inl rfl) | exact Or.inr (Or.inr rfl)) (hd : (x == ("__debug__" : Str)) = false := by decide)
    (hcd : (x == ("__classdict__" : Str)) = false := by decide) : QE X Wx (.Name x pos) (dVar i) := by
  refine ⟨tVar i, pv i hN hv hd hcd, fun σ H env L k x Q st h hk _ => ?_⟩
  unfold dVar at h
  split at h
  · rename_i d hd
    obtain ⟨v, e1, r⟩ := st.1.get hd
    exact ⟨v, e1, hk d L v H h (Go.refl L H) st.2 r⟩
  · exact h.elim
def dC (d : D) : DE := fun _ L k _ => k d L
theorem sim_c {K : PySem.W.Frag} {v : V} {d : D} (r : ∀ L H, Rp L K H v d) : SimE K Wx (tC v) (dC d) := fun _ H _ L _ _ _ st h hk _ => hk d L v H h (Go.refl L H) st.2 (r L H)
theorem q_int {i j pos} : QE X Wx (.Constant (.int i) j pos) (dC (.int i)) := ⟨_, pe_int, sim_c fun _ _ => .int i⟩
theorem q_bl {b j pos} : QE X Wx (.Constant (.bool b) j pos) (dC (.bl b)) := ⟨_, pe_bl, sim_c fun _ _ => .bl b⟩
theorem q_non {j pos} : QE X Wx (.Constant .none j pos) (dC .non) := ⟨_, pe_non, sim_c fun _ _ => .non⟩
theorem q_str {x j pos} : QE X Wx (.Constant (.str x) j pos) (dC (.str x)) := ⟨_, pe_str, sim_c fun _ _ => .str x⟩
theorem q_glob {x : Str} {v : V} {d : D} {u : Value} {pos : Pos} (hg : Gl X x) (hm : X.mg x = some u) (r : RelV v u) (rd : ∀ L H, Rp L X.K H v d) (hd : (x == ("__debug__" : Str)) = false := by decide) : QE X Wx (.Name x pos) (dC d) :=
  ⟨_, pe_glob hg hm r hd, sim_c rd⟩
theorem q_bltn {x : Str} {v : V} {d : D} {u : Value} {pos : Pos} (hg : Gl X x) (hm : X.mg x = none) (hv : bootBuiltins x = some u) (r : RelV v u) (rd : ∀ L H, Rp L X.K H v d) (hn : x ≠ "__name__" := by decide) (hd : (x == ("__debug__" : Str)) = false := by decide) : QE X Wx (.Name x pos) (dC d) :=
  ⟨_, pe_bltn hg hm hv r hn hd, sim_c rd⟩

/-! ### operators on values -/
/-- g: two data, the ledger, what is wanted of the answer -/
abbrev G2 := D → D → Led → (D → Prop) → Prop
def ROk (K : PySem.W.Frag) (L : Led) (H : Hp) (k : D → Prop) (Q : VK) : Prop := ∀ d v H', k d → Same H H' → Rp L K H' v d → Q v H'
def Sim2 (K : PySem.W.Frag) (r : R2) (g : G2) : Prop := ∀ H L va vb a b k Q, JL K L H → Rp L K H va a → Rp L K H vb b → g a b L k → ROk K L H k Q → r va vb H Q
def OQ (X : Cx) (f : Value → Value → Sem Value) (g : G2) : Prop := ∃ r, OpR X f r ∧ Sim2 X.K r g
def dOp (g : G2) (da db : DE) : DE := fun env L k x => da env L (fun a L1 => db env L1 (fun b L2 => g a b L2 fun d => k d L2) x) x
theorem sim_op {K : PySem.W.Frag} {ta tb : TE} {r : R2} {g : G2} (sa : SimE K Wx ta da) (sb : SimE K Wx tb db) (sr : Sim2 K r g) : SimE K Wx (tOp r ta tb) (dOp g da db) := by
  intro σ H env L k x Q st h hk hx
  refine sa σ H env L _ x _ st h (fun a L1 va H1 h1 g1 j1 r1 => ?_) hx
  refine sb σ H1 env L1 _ x _ (st.go g1 j1) h1 (fun b L2 vb H2 h2 g2 j2 r2 => ?_) (hx.go g1)
  exact sr H2 L2 va vb a b _ Q j2 (r1.go g2) r2 h2 fun d v H' q s rp => hk d L2 v H' q ((g1.trans g2).trans (Go.same s)) (j2.same s) rp
theorem q_op {op : Operator} {g : G2} (ho : OQ X (binaryOp op) g) (ha : QE X Wx a da) (hb : QE X Wx b db) : QE X Wx (.BinOp a op b pos) (dOp g da db) := by
  obtain ⟨ta, pa, sa⟩ := ha.ex
  obtain ⟨tb, pb, sb⟩ := hb.ex
  obtain ⟨r, hr, sr⟩ := ho
  exact ⟨_, pe_op hr pa pb, sim_op sa sb sr⟩
theorem q_cmp {op : CmpOp} {g : G2} (ho : OQ X (compareOp op) g) (ha : QE X Wx a da) (hb : QE X Wx b db) (hm : behindInMarks op b = false := by rfl) : QE X Wx (.Compare a [op] [b] pos) (dOp g da db) := by
  obtain ⟨ta, pa, sa⟩ := ha.ex
  obtain ⟨tb, pb, sb⟩ := hb.ex
  obtain ⟨r, hr, sr⟩ := ho
  exact ⟨_, pe_cmpR hr pa pb hm, sim_op sa sb sr⟩
/-- two rules for one operator -/
theorem opr_or {f : Value → Value → Sem Value} {r1 r2 : R2} (h1 : OpR X f r1) (h2 : OpR X f r2) : OpR X f (fun x y H Q => r1 x y H Q ∨ r2 x y H Q) := fun pins s σ H x y u v Q I rx ry h =>
  h.elim (fun q => h1 pins s σ H x y u v Q I rx ry q) (fun q => h2 pins s σ H x y u v Q I rx ry q)
theorem OQ.or {f : Value → Value → Sem Value} {g1 g2 g : G2} (h1 : OQ X f g1) (h2 : OQ X f g2) (hg : ∀ a b L k, g a b L k → g1 a b L k ∨ g2 a b L k) : OQ X f g := by
  obtain ⟨r1, o1, s1⟩ := h1
  obtain ⟨r2, o2, s2⟩ := h2
  exact ⟨_, opr_or o1 o2, fun H L va vb a b k Q j ra rb h hk => (hg a b L k h).elim (fun q => .inl (s1 H L va vb a b k Q j ra rb q hk)) (fun q => .inr (s2 H L va vb a b k Q j ra rb q hk))⟩
/-- two ints -/
def gI (C : Int → Int → Prop) (f : Int → Int → D) : G2 := fun a b _ k => match a, b with
  | .int i, .int j => C i j ∧ k (f i j)
  | _, _ => False
def gI0 (f : Int → Int → D) : G2 := fun a b _ k => match a, b with
  | .int i, .int j => k (f i j)
  | _, _ => False
theorem sim2_I {K : PySem.W.Frag} {C : Int → Int → Prop} {f : Int → Int → V} {f' : Int → Int → D} (hf : ∀ i j L H, Rp L K H (f i j) (f' i j)) : Sim2 K (rI C f) (gI C f') := by
  intro H L va vb a b k Q j ra rb h hk
  cases ra <;> cases rb <;> first | exact h.elim | skip
  exact ⟨_, _, rfl, rfl, h.1, hk _ _ H h.2 (Same.refl H) (hf _ _ L H)⟩
theorem sim2_I0 {K : PySem.W.Frag} {f : Int → Int → V} {f' : Int → Int → D} (hf : ∀ i j L H, Rp L K H (f i j) (f' i j)) : Sim2 K (rI0 f) (gI0 f') := by
  intro H L va vb a b k Q j ra rb h hk
  cases ra <;> cases rb <;> first | exact h.elim | skip
  exact ⟨_, _, rfl, rfl, hk _ _ H h (Same.refl H) (hf _ _ L H)⟩
abbrev gAddI : G2 := gI0 fun i j => .int (i + j)
abbrev gSubI : G2 := gI0 fun i j => .int (i - j)
abbrev gMul : G2 := gI CMulW fun i j => .int (i * j)
def CDivA (_ j : Int) : Prop := j ≠ 0 ∧ j.natAbs.log2 < 9000
abbrev gFdiv : G2 := gI CDivA fun i j => .int (i.fdiv j)
abbrev gMod : G2 := gI (fun _ j => j ≠ 0) fun i j => .int (i.fmod j)
abbrev gPow : G2 := gI CPow fun i j => .int (i ^ j.toNat)
theorem oq_addI : OQ X (binaryOp .Add) gAddI := ⟨_, op_add, sim2_I0 fun _ _ _ _ => .int _⟩
theorem oq_sub : OQ X (binaryOp .Sub) gSubI := ⟨_, op_sub, sim2_I0 fun _ _ _ _ => .int _⟩
theorem oq_mul : OQ X (binaryOp .Mult) gMul := ⟨_, op_mulW, sim2_I fun _ _ _ _ => .int _⟩
theorem op_fdivA : OpR X (binaryOp .FloorDiv) (rI CDivA fun i j => .int (i.fdiv j)) := opI fun i j _ _ _ _ _ hc q =>
  PyProof.Rows.floordiv_int hc.1 q (.inl (PyProof.noPylong_of_log2 hc.2))
theorem oq_fdiv : OQ X (binaryOp .FloorDiv) gFdiv := ⟨_, op_fdivA, sim2_I fun _ _ _ _ => .int _⟩
theorem oq_mod : OQ X (binaryOp .Mod) gMod := ⟨_, op_modN, sim2_I fun _ _ _ _ => .int _⟩
theorem oq_pow : OQ X (binaryOp .Pow) gPow := ⟨_, op_pow, sim2_I fun _ _ _ _ => .int _⟩
abbrev gLt : G2 := gI0 fun i j => .bl (decide (i < j))
abbrev gLe : G2 := gI0 fun i j => .bl (decide (i ≤ j))
abbrev gGt : G2 := gI0 fun i j => .bl (decide (j < i))
abbrev gGe : G2 := gI0 fun i j => .bl (decide (j ≤ i))
theorem oq_lt : OQ X (compareOp .Lt) gLt := ⟨_, op_lt, sim2_I0 fun _ _ _ _ => .bl _⟩
theorem oq_le : OQ X (compareOp .LtE) gLe := ⟨_, op_le, sim2_I0 fun _ _ _ _ => .bl _⟩
theorem oq_gt : OQ X (compareOp .Gt) gGt := ⟨_, op_gt, sim2_I0 fun _ _ _ _ => .bl _⟩
theorem oq_ge : OQ X (compareOp .GtE) gGe := ⟨_, op_ge, sim2_I0 fun _ _ _ _ => .bl _⟩
end
end DL

namespace DL
open PySem L2
/-! ### equality -/
mutual
def toPy : D → PyData
  | .non => .none
  | .bl b => .bool b
  | .int i => .int i
  | .str x => .str x
  | .lst xs => .list (toPys xs)
  | .tup xs => .tuple (toPys xs)
  | .ro _ => .dict [] | .dk _ _ => .dict [] | .dt _ _ => .dict [] | .obj _ _ _ => .dict [] | .exc _ _ _ => .dict [] | .fnv _ _ => .dict [] | .clo _ _ => .dict [] | .tab _ => .dict [] | .ptr _ => .dict [] | .ty _ => .dict []
def toPys : List D → List PyData
  | [] => []
  | d :: r => toPy d :: toPys r
end
/-- whether a datum is of None, bools, ints, texts, lists, tuples -/
def shp (d : D) : Bool := SeqAt.shaped (toPy d)
def eqD (a b : D) : Bool := PyData.eqv (toPy a) (toPy b)
mutual
theorem Rp.dp {L : Led} {K : PySem.W.Frag} {H : Hp} : ∀ {v : V} {d : D}, Rp L K H v d → PyData.canLay0 (toPy d) = true → Dp K H v (toPy d)
  | _, _, .non, _ => .non
  | _, _, .bl b, _ => .bl b
  | _, _, .int i, _ => .int i
  | _, _, .str x, _ => .str x
  | _, _, .lst n h r, c => .lst (SqL.of h) (RpAll.dp r (by simpa only [toPy, PyData.canLay0] using c))
  | _, _, .tup s r, c => .tup s.sq (RpAll.dp r (by simpa only [toPy, PyData.canLay0] using c))
  | _, _, .ro _ _, c => by simp [toPy, PyData.canLay0] at c
  | _, _, .ty _, c => by simp [toPy, PyData.canLay0] at c
  | _, _, .ptr _, c => by simp [toPy, PyData.canLay0] at c
  | _, _, .dk _ _ _ _, c => by simp [toPy, PyData.canLay0] at c
  | _, _, .dt _ _ _ _, c => by simp [toPy, PyData.canLay0] at c
  | _, _, .obj _ _ _ _, c => by simp [toPy, PyData.canLay0] at c
  | _, _, .exc _ _ _ _ _ _ _, c => by simp [toPy, PyData.canLay0] at c
  | _, _, .fnv _, c => by simp [toPy, PyData.canLay0] at c
  | _, _, .clo _ _, c => by simp [toPy, PyData.canLay0] at c
theorem RpAll.dp {L : Led} {K : PySem.W.Frag} {H : Hp} : ∀ {vs : List V} {ds : List D}, RpAll L K H vs ds → PyData.canLayAll0 (toPys ds) = true → DpAll K H vs (toPys ds)
  | _, _, .nil, _ => .nil
  | _, _, .cons (d := d) (ds := ds) h r, c => by
    have c' : PyData.canLay0 (toPy d) = true ∧ PyData.canLayAll0 (toPys ds) = true := by simpa only [toPys, PyData.canLayAll0, Bool.and_eq_true] using c
    exact .cons (Rp.dp h c'.1) (RpAll.dp r c'.2)
end
def gEq : G2 := fun a b _ k => shp a = true ∧ shp b = true ∧ k (.bl (eqD a b))
def gNe : G2 := fun a b _ k => shp a = true ∧ shp b = true ∧ k (.bl (!eqD a b))
section
variable {X : Cx} {Wx : WX} {a b c e : Expr} {es : List Expr} {da db dc de : DE} {pos : Pos}
theorem oq_eq (hu : X.A.units + 64 < cLine) : OQ X (compareOp .Eq) gEq := ⟨_, op_eqD hu, fun H L va vb a b k Q j ra rb h hk => by
  obtain ⟨h1, h2, h3⟩ := h
  exact ⟨_, _, ra.dp (SeqAt.canLay_of_shaped h1), rb.dp (SeqAt.canLay_of_shaped h2), h1, h2, hk _ _ H h3 (Same.refl H) (.bl _)⟩⟩
theorem oq_ne (hu : X.A.units + 64 < cLine) : OQ X (compareOp .NotEq) gNe := ⟨_, op_neD hu, fun H L va vb a b k Q j ra rb h hk => by
  obtain ⟨h1, h2, h3⟩ := h
  exact ⟨_, _, ra.dp (SeqAt.canLay_of_shaped h1), rb.dp (SeqAt.canLay_of_shaped h2), h1, h2, hk _ _ H h3 (Same.refl H) (.bl _)⟩⟩
/-- flat things: None, bools, ints, texts -/
def scD : D → D → Bool
  | .non, .non => true
  | .bl _, .bl _ => true
  | .int _, .int _ => true
  | .str _, .str _ => true
  | _, _ => false
def flEq : D → D → Bool
  | .non, .non => true
  | .bl a, .bl b => decide (a = b)
  | .int a, .int b => decide (a = b)
  | .str a, .str b => decide (a = b)
  | _, _ => false
def gEqF : G2 := fun a b _ k => scD a b = true ∧ k (.bl (flEq a b))
def gNeF : G2 := fun a b _ k => scD a b = true ∧ k (.bl (!flEq a b))
theorem flEq_of {L : Led} {K : PySem.W.Frag} {H : Hp} {va vb : V} {a b : D} (ra : Rp L K H va a) (rb : Rp L K H vb b) (h : scD a b = true) : scal va vb = true ∧ decide (va = vb) = flEq a b := by
  cases ra <;> cases rb <;> first | exact absurd h Bool.false_ne_true | skip
  · exact ⟨rfl, by simp [flEq]⟩
  · exact ⟨rfl, by simp [flEq]⟩
  · exact ⟨rfl, by simp [flEq]⟩
  · exact ⟨rfl, by simp [flEq]⟩
theorem oq_eqF : OQ X (compareOp .Eq) gEqF := ⟨_, op_eq, fun H L va vb a b k Q j ra rb h hk => by
  obtain ⟨h1, h2⟩ := flEq_of ra rb h.1
  exact ⟨h1, by rw [h2]; exact hk _ _ H h.2 (Same.refl H) (.bl _)⟩⟩
theorem oq_neF : OQ X (compareOp .NotEq) gNeF := ⟨_, op_ne, fun H L va vb a b k Q j ra rb h hk => by
  obtain ⟨h1, h2⟩ := flEq_of ra rb h.1
  exact ⟨h1, by rw [h2]; exact hk _ _ H h.2 (Same.refl H) (.bl _)⟩⟩
def isNon : D → Bool
  | .non => true
  | _ => false
def gIsN : G2 := fun a b _ k => match b with
  | .non => k (.bl (isNon a))
  | _ => False
def gNotN : G2 := fun a b _ k => match b with
  | .non => k (.bl (!isNon a))
  | _ => False
theorem isNon_of {L : Led} {K : PySem.W.Frag} {H : Hp} {va : V} {a : D} (ra : Rp L K H va a) : decide (va = .non) = isNon a := by
  cases ra <;> first | rfl | (exact decide_eq_false (fun h => nomatch h))
theorem oq_isN : OQ X (compareOp .Is) gIsN := ⟨_, op_isN, fun H L va vb a b k Q j ra rb h hk => by
  cases rb <;> first | exact h.elim | skip
  exact ⟨rfl, by rw [isNon_of ra]; exact hk _ _ H h (Same.refl H) (.bl _)⟩⟩
theorem oq_notN : OQ X (compareOp .IsNot) gNotN := ⟨_, op_notN, fun H L va vb a b k Q j ra rb h hk => by
  cases rb <;> first | exact h.elim | skip
  exact ⟨rfl, by rw [isNon_of ra]; exact hk _ _ H h (Same.refl H) (.bl _)⟩⟩

/-! ### subscripts, slices -/
def atD (ds : List D) (i : Int) : Option D := atI ds i
theorem atI_of {L : Led} {K : PySem.W.Frag} {H : Hp} {vs : List V} {ds : List D} {i : Int} {d : D} (r : RpAll L K H vs ds) (h : atI ds i = some d) : ∃ v, atI vs i = some v ∧ Rp L K H v d := by
  unfold atI at h ⊢
  rw [r.length]
  cases e : ixN ds.length i with
  | none => rw [e] at h; cases h
  | some j =>
    rw [e] at h
    exact r.get h
/-- a list, a tuple at a place -/
def gIx : G2 := fun a b L k => match b with
  | .int i => match seqs (con L a) with
    | some ds => match atI ds i with
      | some d => k d
      | none => False
    | none => False
  | _ => False
def rIxQ (K : PySem.W.Frag) : R2 := fun x y H Q => rIxL K x y H Q ∨ rIxT K x y H Q
theorem ix_or {r1 r2 : R2} (h1 : IxR X r1) (h2 : IxR X r2) : IxR X (fun x y H Q => r1 x y H Q ∨ r2 x y H Q) := fun value slice pins s σ H x y v u Q I rx ry h hs =>
  h.elim (fun q => h1 value slice pins s σ H x y v u Q I rx ry q hs) (fun q => h2 value slice pins s σ H x y v u Q I rx ry q hs)
theorem sim_ix {K : PySem.W.Frag} : Sim2 K (rIxQ K) gIx := by
  intro H L va vb a b k Q j ra rb h hk
  cases rb <;> first | exact h.elim | skip
  unfold gIx at h
  simp only at h
  split at h
  · rename_i ds hd
    split at h
    · rename_i d hi
      obtain ⟨p, vs, rfl, hs, r⟩ := con_seq j ra hd
      obtain ⟨v, hv, rv⟩ := atI_of r hi
      rcases hs with hs | hs
      · exact .inl ⟨p, vs, _, v, rfl, rfl, hs, hv, hk _ _ H h (Same.refl H) rv⟩
      · exact .inr ⟨p, vs, _, v, rfl, rfl, hs, hv, hk _ _ H h (Same.refl H) rv⟩
    · exact h.elim
  · exact h.elim
theorem q_ix (ha : QE X Wx a da) (hb : QE X Wx b db) (hs : PlainIx b := by intro _ _; rfl) : QE X Wx (.Subscript a b pos) (dOp gIx da db) := by
  obtain ⟨ta, pa, sa⟩ := ha.ex
  obtain ⟨tb, pb, sb⟩ := hb.ex
  exact ⟨_, pe_ix (ix_or ix_list ix_tup) pa pb hs, sim_op sa sb sim_ix⟩
/-- a text's sign at a place -/
def gIxS : G2 := fun a b _ k => match a, b with
  | .str z, .int i => z.length ≤ sizeLine ∧ match atI z.cps.toList i with
    | some c => k (.str ⟨#[c]⟩)
    | none => False
  | _, _ => False
theorem sim_ixS {K : PySem.W.Frag} : Sim2 K rIxS gIxS := by
  intro H L va vb a b k Q j ra rb h hk
  cases ra <;> cases rb <;> first | exact h.elim | skip
  obtain ⟨hz, h⟩ := h
  split at h
  · rename_i c hc
    exact ⟨_, _, c, rfl, rfl, hz, hc, hk _ _ H h (Same.refl H) (.str _)⟩
  · exact h.elim
theorem q_ixS (ha : QE X Wx a da) (hb : QE X Wx b db) (hs : PlainIx b := by intro _ _; rfl) : QE X Wx (.Subscript a b pos) (dOp gIxS da db) := by
  obtain ⟨ta, pa, sa⟩ := ha.ex
  obtain ⟨tb, pb, sb⟩ := hb.ex
  exact ⟨_, pe_ix ix_str pa pb hs, sim_op sa sb sim_ixS⟩
end
end DL

namespace DL
open PySem L2
section
variable {X : Cx} {Wx : WX} {a b c e : Expr} {es rest : List Expr} {da db dc de : DE} {dt du : DT} {dl : DA} {pos : Pos}
/-! ### one operand -/
abbrev G1 := D → Led → (D → Prop) → Prop
def dUn (g : G1) (da : DE) : DE := fun env L k x => da env L (fun a L1 => g a L1 fun d => k d L1) x
def Sim1 (K : PySem.W.Frag) (r : V → Hp → VK → Prop) (g : G1) : Prop := ∀ H L va a k Q, JL K L H → Rp L K H va a → g a L k → ROk K L H k Q → r va H Q
theorem sim_un {K : PySem.W.Frag} {ta : TE} {r : V → Hp → VK → Prop} {g : G1} (sa : SimE K Wx ta da) (sr : Sim1 K r g) : SimE K Wx (tUn r ta) (dUn g da) := by
  intro σ H env L k x Q st h hk hx
  refine sa σ H env L _ x _ st h (fun a L1 va H1 h1 g1 j1 r1 => ?_) hx
  exact sr H1 L1 va a _ Q j1 r1 h1 fun d v H' q s rp => hk d L1 v H' q (g1.trans (Go.same s)) (j1.same s) rp
def gNeg : G1 := fun a _ k => match a with
  | .int i => k (.int (-i))
  | _ => False
theorem q_neg (ha : QE X Wx a da) : QE X Wx (.UnaryOp .USub a pos) (dUn gNeg da) := by
  obtain ⟨ta, pa, sa⟩ := ha.ex
  refine ⟨_, pe_un un_neg pa, sim_un sa fun H L va a k Q j ra h hk => ?_⟩
  cases ra <;> first | exact h.elim | skip
  exact ⟨_, rfl, hk _ _ H h (Same.refl H) (.int _)⟩
/-! ### and, or, not (bools) -/
def dAndV (da db : DE) : DE := fun env L k x => da env L (fun a L1 => match a with
  | .bl true => db env L1 k x
  | .bl false => k (.bl false) L1
  | _ => False) x
def dOrV (da db : DE) : DE := fun env L k x => da env L (fun a L1 => match a with
  | .bl true => k (.bl true) L1
  | .bl false => db env L1 k x
  | _ => False) x
def dNotV (da : DE) : DE := fun env L k x => da env L (fun a L1 => match a with
  | .bl b => k (.bl (!b)) L1
  | _ => False) x
theorem q_one {op} (h : QE X Wx a da) : QE X Wx (.BoolOp op [a] pos) da := by
  obtain ⟨ta, pa, sa⟩ := h.ex
  exact ⟨_, pe_one pa, sa⟩
theorem q_and (ha : QE X Wx a da) (hb : QE X Wx (.BoolOp .And (b :: rest) pos) db) : QE X Wx (.BoolOp .And (a :: b :: rest) pos) (dAndV da db) := by
  obtain ⟨ta, pa, sa⟩ := ha.ex
  obtain ⟨tb, pb, sb⟩ := hb.ex
  refine ⟨_, pe_and pa pb, fun σ H env L k x Q st h hk hx => ?_⟩
  refine sa σ H env L _ x _ st h (fun a L1 va H1 h1 g1 j1 r1 => ?_) hx
  cases r1 <;> first | exact h1.elim | skip
  rename_i b
  refine ⟨b, rfl, ?_⟩
  cases b with
  | true => exact iteT (sb σ H1 env L1 k x Q (st.go g1 j1) h1 (hk.go g1) (hx.go g1))
  | false => exact iteF (hk _ L1 _ H1 h1 g1 j1 (.bl false))
theorem q_or (ha : QE X Wx a da) (hb : QE X Wx (.BoolOp .Or (b :: rest) pos) db) : QE X Wx (.BoolOp .Or (a :: b :: rest) pos) (dOrV da db) := by
  obtain ⟨ta, pa, sa⟩ := ha.ex
  obtain ⟨tb, pb, sb⟩ := hb.ex
  refine ⟨_, pe_or pa pb, fun σ H env L k x Q st h hk hx => ?_⟩
  refine sa σ H env L _ x _ st h (fun a L1 va H1 h1 g1 j1 r1 => ?_) hx
  cases r1 <;> first | exact h1.elim | skip
  rename_i b
  refine ⟨b, rfl, ?_⟩
  cases b with
  | true => exact iteT (hk _ L1 _ H1 h1 g1 j1 (.bl true))
  | false => exact iteF (sb σ H1 env L1 k x Q (st.go g1 j1) h1 (hk.go g1) (hx.go g1))
theorem q_not (ha : QE X Wx a da) : QE X Wx (.UnaryOp .Not a pos) (dNotV da) := by
  obtain ⟨ta, pa, sa⟩ := ha.ex
  refine ⟨_, pe_not pa, fun σ H env L k x Q st h hk hx => ?_⟩
  refine sa σ H env L _ x _ st h (fun a L1 va H1 h1 g1 j1 r1 => ?_) hx
  cases r1 <;> first | exact h1.elim | skip
  exact ⟨_, rfl, hk _ L1 _ H1 h1 g1 j1 (.bl _)⟩
/-! ### tests -/
def dB (da : DE) : DT := fun env L k x => da env L (fun a L1 => match a with
  | .bl b => k b L1
  | _ => False) x
theorem sim_B {K : PySem.W.Frag} {ta : TE} (sa : SimE K Wx ta da) : SimT K Wx (tB ta) (dB da) := by
  intro σ H env L k x Q st h hk hx
  refine sa σ H env L _ x _ st h (fun a L1 va H1 h1 g1 j1 r1 => ?_) hx
  cases r1 <;> first | exact h1.elim | skip
  exact ⟨_, rfl, hk _ L1 H1 h1 g1 j1⟩
theorem t_val (h : QE X Wx e da) (he : ∀ whole, isTrue e X.env whole = (do let v ← whole; standAt e.pos; holding [v] (truthy v)) := by intro _; rfl) : QT X Wx e (dB da) := by
  obtain ⟨ta, pa, sa⟩ := h.ex
  exact ⟨_, pt_val pa he, sim_B sa⟩
theorem t_cmp {op : CmpOp} {g : G2} (ho : OQ X (compareOp op) g) (ha : QE X Wx a da) (hb : QE X Wx b db) (hm : behindInMarks op b = false := by rfl) : QT X Wx (.Compare a [op] [b] pos) (dB (dOp g da db)) := by
  obtain ⟨ta, pa, sa⟩ := ha.ex
  obtain ⟨tb, pb, sb⟩ := hb.ex
  obtain ⟨r, hr, sr⟩ := ho
  refine ⟨_, pt_cmpR hr pa pb hm, fun σ H env L k x Q st h hk hx => ?_⟩
  exact sim_B (sim_op sa sb sr) σ H env L k x Q st h hk hx
def dTAnd (dt du : DT) : DT := fun env L k x => dt env L (fun b L1 => match b with
  | true => du env L1 k x
  | false => k false L1) x
def dTOr (dt du : DT) : DT := fun env L k x => dt env L (fun b L1 => match b with
  | true => k true L1
  | false => du env L1 k x) x
def dTNot (dt : DT) : DT := fun env L k x => dt env L (fun b L1 => k (!b) L1) x
theorem w_and1 (h : QT X Wx a dt) : QW X Wx (.BoolOp .And [a] pos) dt := by
  obtain ⟨ta, pa, sa⟩ := h.ex
  exact ⟨_, pw_and1 pa, sa⟩
theorem w_or1 (h : QT X Wx a dt) : QW X Wx (.BoolOp .Or [a] pos) dt := by
  obtain ⟨ta, pa, sa⟩ := h.ex
  exact ⟨_, pw_or1 pa, sa⟩
theorem w_and (ha : QT X Wx a dt) (hb : QW X Wx (.BoolOp .And (b :: rest) pos) du) : QW X Wx (.BoolOp .And (a :: b :: rest) pos) (dTAnd dt du) := by
  obtain ⟨ta, pa, sa⟩ := ha.ex
  obtain ⟨tb, pb, sb⟩ := hb.ex
  refine ⟨_, pw_and pa pb, fun σ H env L k x Q st h hk hx => ?_⟩
  refine sa σ H env L _ x _ st h (fun b L1 H1 h1 g1 j1 => ?_) hx
  cases b with
  | true => exact iteT (sb σ H1 env L1 k x Q (st.go g1 j1) h1 (fun b L2 H2 q g j => hk b L2 H2 q (g1.trans g) j) (hx.go g1))
  | false => exact iteF (hk _ L1 H1 h1 g1 j1)
theorem w_or (ha : QT X Wx a dt) (hb : QW X Wx (.BoolOp .Or (b :: rest) pos) du) : QW X Wx (.BoolOp .Or (a :: b :: rest) pos) (dTOr dt du) := by
  obtain ⟨ta, pa, sa⟩ := ha.ex
  obtain ⟨tb, pb, sb⟩ := hb.ex
  refine ⟨_, pw_or pa pb, fun σ H env L k x Q st h hk hx => ?_⟩
  refine sa σ H env L _ x _ st h (fun b L1 H1 h1 g1 j1 => ?_) hx
  cases b with
  | true => exact iteT (hk _ L1 H1 h1 g1 j1)
  | false => exact iteF (sb σ H1 env L1 k x Q (st.go g1 j1) h1 (fun b L2 H2 q g j => hk b L2 H2 q (g1.trans g) j) (hx.go g1))
theorem QW.t (h : QW X Wx e dt) : QT X Wx e dt := by
  obtain ⟨ta, pa, sa⟩ := h.ex
  exact ⟨_, pa.pt, sa⟩
theorem t_not (h : QT X Wx a dt) : QT X Wx (.UnaryOp .Not a pos) (dTNot dt) := by
  obtain ⟨ta, pa, sa⟩ := h.ex
  refine ⟨_, pt_not pa, fun σ H env L k x Q st h hk hx => ?_⟩
  exact sa σ H env L _ x _ st h (fun b L1 H1 h1 g1 j1 => hk _ L1 H1 h1 g1 j1) hx
/-- the truth of a value -/
def truD (L : Led) (d : D) : Option Bool := match con L d with
  | .non => some false
  | .bl b => some b
  | .int i => some (i != 0)
  | .lst ds => some (!ds.isEmpty)
  | .tup ds => some (!ds.isEmpty)
  | .ro ds => some (!ds.isEmpty)
  | _ => none
def dTru (da : DE) : DT := fun env L k x => da env L (fun a L1 => match truD L1 a with
  | some b => k b L1
  | none => False) x
theorem emp_of {L : Led} {K : PySem.W.Frag} {H : Hp} {vs : List V} {ds : List D} (r : RpAll L K H vs ds) : (!ds.isEmpty) = !vs.isEmpty := by cases r <;> rfl
theorem tru_of {L : Led} {K : PySem.W.Frag} {H : Hp} {v : V} {d : D} {b : Bool} (j : JL K L H) (r : Rp L K H v d) (h : truD L d = some b) : TruV K v H b := by
  unfold truD at h
  split at h
  · rename_i e
    cases d <;> first | (cases e; done) | skip
    · cases r; cases h; rfl
    · rename_i a
      have e : (L.lookup a).getD (.ptr a) = _ := e
      cases q : L.lookup a with
      | none => rw [q] at e; cases e
      | some c =>
        rw [q] at e
        have e2 : c = .non := e
        subst e2
        exact (j.look q).elim
  · rename_i b' e
    cases d <;> first | (cases e; done) | skip
    · cases e; cases r; cases h; rfl
    · rename_i a
      have e : (L.lookup a).getD (.ptr a) = _ := e
      cases q : L.lookup a with
      | none => rw [q] at e; cases e
      | some c =>
        rw [q] at e
        have e2 : c = .bl b' := e
        subst e2
        exact (j.look q).elim
  · rename_i i e
    cases d <;> first | (cases e; done) | skip
    · cases e; cases r; cases h; rfl
    · rename_i a
      have e : (L.lookup a).getD (.ptr a) = _ := e
      cases q : L.lookup a with
      | none => rw [q] at e; cases e
      | some c =>
        rw [q] at e
        have e2 : c = .int i := e
        subst e2
        exact (j.look q).elim
  · rename_i ds e
    cases h
    obtain ⟨a, vs, rfl, h1, h2⟩ := con_lst j r e
    exact .inl ⟨vs, SqL.of h1, emp_of h2⟩
  · rename_i ds e
    cases h
    obtain ⟨a, vs, rfl, h1, h2⟩ := con_tup j r e
    exact .inr (.inl ⟨vs, h1, emp_of h2⟩)
  · rename_i ds e
    cases h
    obtain ⟨a, vs, rfl, h1, h2⟩ := con_ro j r e
    exact .inl ⟨vs, h1, emp_of h2⟩
  · cases h
theorem t_tru (h : QE X Wx a da) (he : ∀ whole, isTrue a X.env whole = (do let v ← whole; standAt a.pos; holding [v] (truthy v)) := by intro _; rfl) : QT X Wx a (dTru da) := by
  obtain ⟨ta, pa, sa⟩ := h.ex
  refine ⟨_, pt_truth pa he, fun σ H env L k x Q st h hk hx => ?_⟩
  refine sa σ H env L _ x _ st h (fun a L1 va H1 h1 g1 j1 r1 => ?_) hx
  split at h1
  · rename_i b hb
    exact ⟨b, tru_of j1 r1 hb, hk b L1 H1 h1 g1 j1⟩
  · exact h1.elim
/-- a if t else b -/
def dIf (dt : DT) (da db : DE) : DE := fun env L k x => dt env L (fun b L1 => match b with
  | true => da env L1 k x
  | false => db env L1 k x) x
theorem q_if (hc : QT X Wx c dt) (ha : QE X Wx a da) (hb : QE X Wx b db) : QE X Wx (.IfExp c a b pos) (dIf dt da db) := by
  obtain ⟨tc, pc, sc⟩ := hc.ex
  obtain ⟨ta, pa, sa⟩ := ha.ex
  obtain ⟨tb, pb, sb⟩ := hb.ex
  refine ⟨_, pe_ifExp pc pa pb, fun σ H env L k x Q st h hk hx => ?_⟩
  refine sc σ H env L _ x _ st h (fun b L1 H1 h1 g1 j1 => ?_) hx
  cases b with
  | true => exact iteT (sa σ H1 env L1 k x Q (st.go g1 j1) h1 (hk.go g1) (hx.go g1))
  | false => exact iteF (sb σ H1 env L1 k x Q (st.go g1 j1) h1 (hk.go g1) (hx.go g1))
/-- a < b < c -/
def dChain (g g' : G2) (da db dc : DE) : DE := fun env L k x => da env L (fun a L1 => db env L1 (fun b L2 => g a b L2 fun z => match z with
  | .bl true => dc env L2 (fun c L3 => g' b c L3 fun d => k d L3) x
  | .bl false => k (.bl false) L2
  | _ => False) x) x
theorem sim_chain {K : PySem.W.Frag} {ta tb tc : TE} {r r' : R2} {g g' : G2} (sa : SimE K Wx ta da) (sb : SimE K Wx tb db) (sc : SimE K Wx tc dc) (sr : Sim2 K r g) (sr' : Sim2 K r' g') : SimE K Wx (tChain r r' ta tb tc) (dChain g g' da db dc) := by
  intro σ H env L k x Q st h hk hx
  refine sa σ H env L _ x _ st h (fun a L1 va H1 h1 g1 j1 r1 => ?_) hx
  refine sb σ H1 env L1 _ x _ (st.go g1 j1) h1 (fun b L2 vb H2 h2 g2 j2 r2 => ?_) (hx.go g1)
  refine sr H2 L2 va vb a b _ _ j2 (r1.go g2) r2 h2 fun z v H' q s rp => ?_
  have g3 : Go L L2 H H' := (g1.trans g2).trans (Go.same s)
  cases rp <;> first | exact q.elim | skip
  rename_i bb
  refine ⟨bb, rfl, ?_⟩
  cases bb with
  | true =>
    refine iteT (sc σ H' env L2 _ x _ (st.go g3 (j2.same s)) q (fun c L3 vc H3 h3 g4 j3 r3 => ?_) (hx.go g3))
    exact sr' H3 L3 vb vc b c _ Q j3 ((r2.go (Go.same s)).go g4) r3 h3 fun d v' H4 q4 s4 rp4 => hk d L3 v' H4 q4 ((g3.trans g4).trans (Go.same s4)) (j3.same s4) rp4
  | false => exact iteF (hk _ L2 _ H' q g3 (j2.same s) (.bl false))
theorem q_chain {op op' : CmpOp} {g g' : G2} (ho : OQ X (compareOp op) g) (ho' : OQ X (compareOp op') g') (ha : QE X Wx a da) (hb : QE X Wx b db) (hc : QE X Wx c dc) (hm : lastMarks [op, op'] [b, c] = false := by rfl) :
    QE X Wx (.Compare a [op, op'] [b, c] pos) (dChain g g' da db dc) := by
  obtain ⟨ta, pa, sa⟩ := ha.ex
  obtain ⟨tb, pb, sb⟩ := hb.ex
  obtain ⟨tc, pc, sc⟩ := hc.ex
  obtain ⟨r, hr, sr⟩ := ho
  obtain ⟨r', hr', sr'⟩ := ho'
  exact ⟨_, pe_chain hr hr' pa pb pc hm, sim_chain sa sb sc sr sr'⟩
theorem t_chain {op op' : CmpOp} {g g' : G2} (ho : OQ X (compareOp op) g) (ho' : OQ X (compareOp op') g') (ha : QE X Wx a da) (hb : QE X Wx b db) (hc : QE X Wx c dc) (hm : lastMarks [op, op'] [b, c] = false := by rfl) :
    QT X Wx (.Compare a [op, op'] [b, c] pos) (dB (dChain g g' da db dc)) := by
  obtain ⟨ta, pa, sa⟩ := ha.ex
  obtain ⟨tb, pb, sb⟩ := hb.ex
  obtain ⟨tc, pc, sc⟩ := hc.ex
  obtain ⟨r, hr, sr⟩ := ho
  obtain ⟨r', hr', sr'⟩ := ho'
  refine ⟨_, pt_chain hr hr' pa pb pc hm, fun σ H env L k x Q st h hk hx => ?_⟩
  exact sim_B (sim_chain sa sb sc sr sr') σ H env L k x Q st h hk hx
/-! ### arguments, displays -/
def dNil : DA := fun _ L k _ => k [] L
def dCons (de : DE) (dl : DA) : DA := fun env L k x => de env L (fun d L1 => dl env L1 (fun ds L2 => k (d :: ds) L2) x) x
theorem a_nil : QA X Wx [] dNil := ⟨_, pa_nil, fun σ H env L k x Q st h hk hx => hk [] L [] H h (Go.refl L H) st.2 .nil⟩
theorem a_cons (ha : QE X Wx e de) (hr : QA X Wx es dl) (hs : starEach (e :: es) X.env = (false, eval e X.env) :: starEach es X.env := by rfl) : QA X Wx (e :: es) (dCons de dl) := by
  obtain ⟨te, pe, se⟩ := ha.ex
  obtain ⟨ta, pa, sa⟩ := hr.ex
  refine ⟨_, pa_cons pe pa hs, fun σ H env L k x Q st h hk hx => ?_⟩
  refine se σ H env L _ x _ st h (fun d L1 v H1 h1 g1 j1 r1 => ?_) hx
  refine sa σ H1 env L1 _ x _ (st.go g1 j1) h1 (fun ds L2 vs H2 h2 g2 j2 r2 => ?_) (hx.go g1)
  exact hk _ L2 _ H2 h2 (g1.trans g2) j2 (.cons (r1.go g2) r2)
def dTup (dl : DA) : DE := fun env L k x => dl env L (fun ds L1 => ds.length ≤ sizeLine ∧ k (.tup ds) L1) x
def dLst (dl : DA) : DE := fun env L k x => dl env L (fun ds L1 => ds.length ≤ sizeLine ∧ k (.lst ds) L1) x
/-- a list that will change: onto the ledger -/
def dLstM (dl : DA) : DE := fun env L k x => dl env L (fun ds L1 => ds.length ≤ sizeLine ∧ ∀ p, ¬ inL L1 p → k (.ptr p) ((p, .lst ds) :: L1)) x
theorem q_tup {x1} (h : QA X Wx es dl) : QE X Wx (.Tuple es x1 pos) (dTup dl) := by
  obtain ⟨ta, pa, sa⟩ := h.ex
  refine ⟨_, pe_tup pa, fun σ H env L k x Q st h hk hx => ?_⟩
  refine sa σ H env L _ x _ st h (fun ds L1 vs H1 h1 g1 j1 r1 => ?_) hx
  refine ⟨by rw [r1.length]; exact h1.1, fun p hp => ?_⟩
  have s := same_new hp (.tup vs)
  exact hk _ L1 _ _ h1.2 (g1.trans (Go.same s)) (j1.same s) (.tup (.inl ⟨j1.notIn hp, .inl upd_same⟩) (r1.go (Go.same s)))
theorem q_lst (h : QA X Wx es dl) : QE X Wx (.List es pos) (dLst dl) := by
  obtain ⟨ta, pa, sa⟩ := h.ex
  refine ⟨_, pe_lst pa, fun σ H env L k x Q st h hk hx => ?_⟩
  refine sa σ H env L _ x _ st h (fun ds L1 vs H1 h1 g1 j1 r1 => ?_) hx
  refine ⟨by rw [r1.length]; exact h1.1, fun p hp => ?_⟩
  have s := same_new hp (.lst vs)
  exact hk _ L1 _ _ h1.2 (g1.trans (Go.same s)) (j1.same s) (.lst (j1.notIn hp) upd_same (r1.go (Go.same s)))
theorem q_lstM (h : QA X Wx es dl) : QE X Wx (.List es pos) (dLstM dl) := by
  obtain ⟨ta, pa, sa⟩ := h.ex
  refine ⟨_, pe_lst pa, fun σ H env L k x Q st h hk hx => ?_⟩
  refine sa σ H env L _ x _ st h (fun ds L1 vs H1 h1 g1 j1 r1 => ?_) hx
  refine ⟨by rw [r1.length]; exact h1.1, fun p hp => ?_⟩
  have gg : Go L1 ((p, .lst ds) :: L1) H1 (upd H1 p (.lst vs)) := fun a u n hh => by
    have ne : a ≠ p := ne_of_none hh hp
    exact ⟨fun m => (List.mem_cons.mp m).elim ne n, by rw [upd_ne ne]; exact hh⟩
  obtain ⟨j2, g2⟩ := j1.push (d := .lst ds) hp (o := .lst vs) ⟨vs, upd_same, r1.go gg⟩
  exact hk _ _ _ _ (h1.2 p (j1.notIn hp)) (g1.trans g2) j2 (.ptr p)
end
end DL

namespace DL
open PySem L2
section
variable {X : Cx} {Wx : WX} {a b c e o : Expr} {es rest : List Expr} {da db dc de do' di : DE} {dt du : DT} {dl dk : DA} {pos : Pos}
/-! ### calls: a def by its contract over data -/
abbrev DSp := List D → Led → DK → (Exn → Led → Prop) → Prop
def spD (K : PySem.W.Frag) (f : DSp) : Sp := fun vs H Q E => ∃ ds L k x, JL K L H ∧ RpAll L K H vs ds ∧ f ds L k x ∧ KOk K L H k Q ∧ ∀ n L' a H', x n L' → Go L L' H H' → JL K L' H' → ExR L' K H' a n → E n.cls (some a) H'
def dCall (g : DSp) (dd : List D) (dl : DA) : DE := fun env L k x => dl env L (fun ds L1 => g (ds ++ dd) L1 k fun n L' => x n env L') x
theorem q_call {x : Str} {p : Pos} {k : Nat} {f : Addr} {fd : FuncData} {ps : List Str} {g : DSp} {us : List Value} {dvs : List V} {dd : List D} (F : FnOk X.prog X.w X.K X.mg X.base (L2.CX X.prog X.w) k f fd ps (spD X.K g)) (hr : Room k X.A) (hg : Gl X x) (hm : X.mg x = some (.ref f))
    (hk : PySem.W.keepIn X.K (.ref f) = true) (hb : Binds X.K fd ps us) (hd : Vals dvs us) (hdd : ∀ L H, RpAll L X.K H dvs dd) (tk : Takes X Wx) (ha : QA X Wx (e :: es) dl) (hdb : (x == ("__debug__" : Str)) = false := by decide)
    (he : starEach (e :: es) X.env = (false, eval e X.env) :: starEach es X.env := by rfl) (hpl : (backTo pos (starEach es X.env)).any (·.1) = false := by rfl) : QE X Wx (.Call (.Name x p) (e :: es) [] pos) (dCall g dd dl) := by
  obtain ⟨ta, pa, sa⟩ := ha.ex
  refine ⟨_, pe_callSD F hr hg hm hk hb hd (fun σ => passAt tk σ) pa hdb he hpl, fun σ H env L k x Q st h hk hx => ?_⟩
  refine sa σ H env L _ x _ st h (fun ds L1 vs H1 h1 g1 j1 r1 => ?_) hx
  exact ⟨ds ++ dd, L1, k, fun n L' => x n env L', j1, r1.append (hdd L1 H1), h1, hk.go g1, fun n L' a H' q g' j' r => hx n env L' a H' σ q (g1.trans g') (st.go (g1.trans g') j') r⟩
/-- by keywords, a def that raises nothing -/
def dCallK (g : DSp) (gD : List D → List D → List D) (dl dk : DA) : DE := fun env L k x => dl env L (fun ds L1 => dk env L1 (fun es L2 => g (gD ds es) L2 k fun _ _ => False) x) x
/-- f() -/
def dCall0 (g : DSp) (dd : List D) : DE := fun env L k x => g dd L k fun n L' => x n env L'
theorem q_call0 {x : Str} {p : Pos} {k : Nat} {f : Addr} {fd : FuncData} {ps : List Str} {g : DSp} {us : List Value} {dvs : List V} {dd : List D} (F : FnOk X.prog X.w X.K X.mg X.base (L2.CX X.prog X.w) k f fd ps (spD X.K g)) (hr : Room k X.A) (hg : Gl X x) (hm : X.mg x = some (.ref f))
    (hk : PySem.W.keepIn X.K (.ref f) = true) (hb : Binds X.K fd ps us) (hd : Vals dvs us) (hdd : ∀ L H, RpAll L X.K H dvs dd) (tk : Takes X (fun cls d _ H => Wx cls d [] H)) (hW : ∀ cls d σ σ' H, Wx cls d σ H → Wx cls d σ' H) (hdb : (x == ("__debug__" : Str)) = false := by decide) : QE X Wx (.Call (.Name x p) [] [] pos) (dCall0 g dd) := by
  refine ⟨_, pe_call0 (E := fun cls d H => Wx cls d [] H) F hr hg hm hk hb hd (passes_call tk fun _ _ _ _ h => h) hdb, fun σ H env L k x Q st h hk hx => ?_⟩
  exact ⟨dd, L, k, fun n L' => x n env L', st.2, by simpa using hdd L H, h, hk, fun n L' a H' q g' j' r => hW _ _ σ _ _ (hx n env L' a H' σ q g' (st.go g' j') r)⟩
/-! ### built-in calls -/
abbrev GC := List D → Led → (D → Prop) → Prop
def CQ (X : Cx) (f : Value) (g : GC) : Prop := ∃ r, CallR X f r ∧ ∀ H L vs ds k Q, JL X.K L H → RpAll L X.K H vs ds → g ds L k → ROk X.K L H k Q → r vs H Q
def dCB (g : GC) (dl : DA) : DE := fun env L k x => dl env L (fun ds L1 => g ds L1 fun d => k d L1) x
theorem sim_cb {K : PySem.W.Frag} {ta : TA} {r : List V → Hp → VK → Prop} {g : GC} (sa : SimA K Wx ta dl) (sr : ∀ H L vs ds k Q, JL K L H → RpAll L K H vs ds → g ds L k → ROk K L H k Q → r vs H Q) : SimE K Wx (tCB r ta) (dCB g dl) := by
  intro σ H env L k x Q st h hk hx
  refine sa σ H env L _ x _ st h (fun ds L1 vs H1 h1 g1 j1 r1 => ?_) hx
  exact sr H1 L1 vs ds _ Q j1 r1 h1 fun d v H' q s rp => hk d L1 v H' q (g1.trans (Go.same s)) (j1.same s) rp
theorem q_callB {x : Str} {p : Pos} {id : String} {g : GC} (hc : CQ X (.builtin id) g) (hg : Gl X x) (hm : X.mg x = none) (hv : bootBuiltins x = some (.builtin id)) (ha : QA X Wx (e :: es) dl) (hn : x ≠ "__name__" := by decide) (hdb : (x == ("__debug__" : Str)) = false := by decide)
    (he : starEach (e :: es) X.env = (false, eval e X.env) :: starEach es X.env := by rfl) (hpl : (backTo pos (starEach es X.env)).any (·.1) = false := by rfl) : QE X Wx (.Call (.Name x p) (e :: es) [] pos) (dCB g dl) := by
  obtain ⟨ta, pa, sa⟩ := ha.ex
  obtain ⟨r, hr, sr⟩ := hc
  exact ⟨_, pe_callB hr hg hm hv pa hn hdb he hpl, sim_cb sa sr⟩
theorem q_callTy {x : Str} {p : Pos} {T : String} {g : GC} (hc : CQ X (.type T) g) (hg : Gl X x) (hm : X.mg x = none) (hv : bootBuiltins x = some (.type T)) (ha : QA X Wx (e :: es) dl) (hn : x ≠ "__name__" := by decide) (hdb : (x == ("__debug__" : Str)) = false := by decide)
    (he : starEach (e :: es) X.env = (false, eval e X.env) :: starEach es X.env := by rfl) (hpl : (backTo pos (starEach es X.env)).any (·.1) = false := by rfl) : QE X Wx (.Call (.Name x p) (e :: es) [] pos) (dCB g dl) := by
  obtain ⟨ta, pa, sa⟩ := ha.ex
  obtain ⟨r, hr, sr⟩ := hc
  exact ⟨_, pe_callTy hr hg hm hv pa hn hdb he hpl, sim_cb sa sr⟩
/-- a module's name for a built-in (gcd) -/
theorem q_callF {x : Str} {p : Pos} {id : String} {g : GC} (hc : CQ X (.builtin id) g) (hg : Gl X x) (hm : X.mg x = some (.builtin id)) (ha : QA X Wx (e :: es) dl) (hdb : (x == ("__debug__" : Str)) = false := by decide)
    (he : starEach (e :: es) X.env = (false, eval e X.env) :: starEach es X.env := by rfl) (hpl : (backTo pos (starEach es X.env)).any (·.1) = false := by rfl) : QE X Wx (.Call (.Name x p) (e :: es) [] pos) (dCB g dl) := by
  obtain ⟨ta, pa, sa⟩ := ha.ex
  obtain ⟨r, hr, sr⟩ := hc
  exact ⟨_, pe_callBfun hr hg hm pa hdb he hpl, sim_cb sa sr⟩
end

/-! ### targets -/
abbrev DG := D → DEnv → Led → (DEnv → Prop) → Prop
abbrev DGs := List D → DEnv → Led → (DEnv → Prop) → Prop
section
variable {X : Cx} {Wx : WX} {a b c e o : Expr} {es rest : List Expr} {da db dc de : DE} {dt du : DT} {dl : DA} {pos : Pos}
/-- slots that a target stores -/
def Only' (sl : List Nat) (σ σ' : St) : Prop := ∀ vs : List Nat, (∀ i ∈ sl, i ∈ vs) → wipe σ' vs = wipe σ vs
def SimG (K : PySem.W.Frag) (sl : List Nat) (g : TG) (dg : DG) : Prop := ∀ v d σ H env L k Q, StL K σ H env L → Rp L K H v d → dg d env L k → (∀ σ' env', k env' → StL K σ' H env' L → Only' sl σ σ' → Q σ' H) → g v σ H Q
structure QG (X : Cx) (tg : Expr) (sl : List Nat) (dg : DG) : Prop where
  ex : ∃ g, PG X tg g ∧ SimG X.K sl g dg
structure QGs (X : Cx) (ts : List Expr) (sl : List Nat) (dg : DGs) : Prop where
  ex : ∃ g, PGs X ts g ∧ ∀ vs ds σ H env L k Q, StL X.K σ H env L → RpAll L X.K H vs ds → dg ds env L k → (∀ σ' env', k env' → StL X.K σ' H env' L → Only' sl σ σ' → Q σ' H) → g vs σ H Q
theorem wipe_set {σ : St} {o : Option V} {i : Nat} : ∀ {vs : List Nat}, i ∈ vs → wipe (σ.set i o) vs = wipe σ vs
  | [], h => by cases h
  | v :: vs, h => by
    by_cases e : i ∈ vs
    · unfold wipe
      rw [wipe_set e]
    · have e2 : i = v := by
        rcases List.mem_cons.mp h with q | q
        · exact q
        · exact absurd q e
      subst e2
      unfold wipe
      have key : ∀ (ws : List Nat), i ∉ ws → wipe (σ.set i o) ws = (wipe σ ws).set i o := by
        intro ws
        induction ws with
        | nil => intro _; rfl
        | cons w ws ih =>
          intro hn
          have h1 : i ≠ w := fun z => hn (by rw [z]; exact List.mem_cons_self)
          have h2 : i ∉ ws := fun z => hn (List.mem_cons_of_mem _ z)
          unfold wipe
          rw [ih h2, List.set_comm _ _ h1]
      rw [key vs e, List.set_set]
theorem only_set {σ : St} {o : Option V} {i : Nat} : Only' [i] σ (σ.set i o) := fun vs h => wipe_set (h i (by simp))
def dgName (i : Nat) : DG := fun d env _ k => k (env.set i (some d))
theorem g_name (i : Nat) {x : Str} (hN : X.N.Nodup) (hi : X.N[i]? = some x := by rfl) (hx : Loc X.env.scope x := by first | exact Or.inl rfl | exact Or.inr rfl) (hf : X.fn x = true ∨ X.env.scope.names.lookup x = some .local := by first | exact .inl rfl | exact .inr rfl | assumption) : QG X (.Name x pos) [i] (dgName i) :=
  ⟨_, pg_name hN hi hx hf, fun v d σ H env L k Q st r h hk => hk _ _ h ⟨st.1.set r i, st.2⟩ only_set⟩
def dgNil : DGs := fun ds env _ k => match ds with
  | [] => k env
  | _ => False
def dgCons (dg : DG) (dgs : DGs) : DGs := fun ds env L k => match ds with
  | d :: r => dg d env L fun env' => dgs r env' L k
  | [] => False
theorem gs_nil : QGs X [] [] dgNil := ⟨_, pgs_nil, fun vs ds σ H env L k Q st r h hk => by
  cases r with
  | nil => exact ⟨rfl, hk _ _ h st fun _ _ => rfl⟩
  | cons _ _ => exact h.elim⟩
theorem gs_cons {dg : DG} {dgs : DGs} {sl sl' : List Nat} (h1 : QG X e sl dg) (h2 : QGs X es sl' dgs) (hs : (assignEach (e :: es) X.env).map (·.2) = assign e X.env :: (assignEach es X.env).map (·.2) := by rfl) : QGs X (e :: es) (sl ++ sl') (dgCons dg dgs) := by
  obtain ⟨g, pg, sg⟩ := h1.ex
  obtain ⟨gs, pgs, sgs⟩ := h2.ex
  refine ⟨_, pgs_cons pg pgs hs, fun vs ds σ H env L k Q st r h hk => ?_⟩
  cases r with
  | nil => exact h.elim
  | cons r1 r2 =>
    refine ⟨_, _, rfl, sg _ _ σ H env L _ _ st r1 h fun σ' env' h' st' o1 => ?_⟩
    exact sgs _ _ σ' H env' L _ _ st' r2 h' fun σ2 env2 h2 st2 o2 => hk σ2 env2 h2 st2 fun vs hv => (o2 vs fun i hi => hv i (List.mem_append_right _ hi)).trans (o1 vs fun i hi => hv i (List.mem_append_left _ hi))
def dgTup (n : Nat) (dgs : DGs) : DG := fun d env L k => match d with
  | .tup ds => ds.length = n ∧ dgs ds env L k
  | _ => False
theorem g_tup {kk : Nat} {dgs : DGs} {n : Nat} {sl : List Nat} (hc : X.calm = true) (h : QGs X es sl dgs) (hn : (assignEach es X.env).length = n := by rfl) (hst : (assignEach es X.env).findIdx? (·.1) = none := by rfl) : QG X (.Tuple es kk pos) sl (dgTup n dgs) := by
  obtain ⟨gs, pgs, sgs⟩ := h.ex
  refine ⟨_, pg_tup hc pgs hn hst, fun v d σ H env L k Q st r h hk => ?_⟩
  cases r <;> first | exact h.elim | skip
  rename_i s r
  exact ⟨_, _, rfl, s.sq, by rw [r.length]; exact h.1, sgs _ _ σ H env L k Q st r h.2 hk⟩

/-! ### statements -/
def dNext : DS := fun D env L => D.nx env L
def dSeq (t u : DS) : DS := fun D env L => t { D with nx := u D } env L
theorem ss_nil : QSs X Wx [] dNext := ⟨_, pss_nil, fun σ H env L D' D st h ok => ok.nx env L σ H h (Go.refl L H) st⟩
theorem sim_seq {K : PySem.W.Frag} {t u : TS} {dt du : DS} (s1 : SimS K Wx t dt) (s2 : SimS K Wx u du) : SimS K Wx (tSeq t u) (dSeq dt du) := by
  intro σ H env L D' D st h ok
  refine s1 σ H env L _ _ st h ⟨fun env' L' σ' H' h' g' st' => ?_, ok.rt, ok.ex, ok.bk, ok.ct⟩
  exact s2 σ' H' env' L' D' D st' h' (ok.go g')
theorem ss_cons {st : Stmt} {rest : List Stmt} {dt du : DS} (h1 : QS X Wx st dt) (h2 : QSs X Wx rest du) : QSs X Wx (st :: rest) (dSeq dt du) := by
  obtain ⟨t, pt, st1⟩ := h1.ex
  obtain ⟨u, pu, su⟩ := h2.ex
  exact ⟨_, pss_cons pt pu, sim_seq st1 su⟩
theorem ss_one {st : Stmt} {dt : DS} (h1 : QS X Wx st dt) : QSs X Wx [st] dt := by
  obtain ⟨t, pt, st1⟩ := h1.ex
  exact ⟨_, pss_one pt, st1⟩
/-- a word between a statement and what follows -/
def dCut (t u : DS) : DS := fun D env L => ∃ M : DEnv → Led → Prop, t { D with nx := M } env L ∧ ∀ env' L', M env' L' → u D env' L'
theorem ss_cut {st : Stmt} {rest : List Stmt} {dt du : DS} (h1 : QS X Wx st dt) (h2 : QSs X Wx rest du) : QSs X Wx (st :: rest) (dCut dt du) := by
  obtain ⟨t, pt, st1⟩ := h1.ex
  obtain ⟨u, pu, su⟩ := h2.ex
  refine ⟨_, pss_cons pt pu, fun σ H env L D' D st h ok => ?_⟩
  obtain ⟨M, hm, hu⟩ := h
  refine st1 σ H env L _ _ st hm ⟨fun env' L' σ' H' h' g' st' => ?_, ok.rt, ok.ex, ok.bk, ok.ct⟩
  exact su σ' H' env' L' D' D st' (hu env' L' h') (ok.go g')
def dAsg (de : DE) (dg : DG) : DS := fun D env L => de env L (fun d L1 => dg d env L1 fun env' => D.nx env' L1) D.ex
theorem sim_asg {te : TE} {g : TG} {dg : DG} {sl : List Nat} (se : SimE X.K Wx te de) (sg : SimG X.K sl g dg) : SimS X.K Wx (tAsg te g) (dAsg de dg) := by
  intro σ H env L D' D st h ok
  refine se σ H env L _ _ _ st h (fun d L1 v H1 h1 g1 j1 r1 => ?_) ok.ex
  exact sg v d σ H1 env L1 _ _ (st.go g1 j1) r1 h1 fun σ' env' h' st' _ => ok.nx env' L1 σ' H1 h' g1 st'
theorem s_set (i : Nat) {x : Str} {pos' : Pos} (hN : X.N.Nodup) (he : QE X Wx e de) (hi : X.N[i]? = some x := by rfl) (hx : Loc X.env.scope x := by first | exact Or.inl rfl | exact Or.inr rfl) (hs : swapsWith e (some (.Name x pos')) pos.line X.env = pure false := by rfl) (hf : X.fn x = true ∨ X.env.scope.names.lookup x = some .local := by first | exact .inl rfl | exact .inr rfl | assumption) :
    QS X Wx (.Assign [.Name x pos'] e pos) (dAsg de (dgName i)) := by
  obtain ⟨te, pe, se⟩ := he.ex
  exact ⟨_, ps_set hN hi hx pe hs hf, sim_asg (sl := [i]) se fun v d σ H env L k Q st r h hk => hk _ _ h ⟨st.1.set r i, st.2⟩ only_set⟩
theorem s_asg {tg : Expr} {dg : DG} {sl : List Nat} (he : QE X Wx e de) (hg : QG X tg sl dg) (hs : swapsWithSole [tg] e pos.line X.env = pure false := by rfl) (hw : swappedStores [tg] e X.env = pure none := by rfl) (h1 : (assignEach [tg] X.env).map (·.2) = [assign tg X.env] := by rfl) : QS X Wx (.Assign [tg] e pos) (dAsg de dg) := by
  obtain ⟨te, pe, se⟩ := he.ex
  obtain ⟨g, pg, sg⟩ := hg.ex
  exact ⟨_, ps_asg pe pg hs hw h1, sim_asg se sg⟩
/-- a, b = x, y -/
def dPar (i j : Nat) (dl : DA) : DS := fun D env L => dl env L (fun ds L1 => match ds with
  | [d, e] => D.nx ((env.set i (some d)).set j (some e)) L1
  | _ => False) D.ex
theorem s_par (i j : Nat) {x y : Str} {px py pt : Pos} {kt k2 pt2} (hc : X.calm = true) (hN : X.N.Nodup) (ha : QA X Wx [a, b] dl) (hi : X.N[i]? = some x := by rfl) (hj : X.N[j]? = some y := by rfl) (hij : i ≠ j := by decide)
    (hx : X.env.scope.names.lookup x = some .local := by rfl) (hy : X.env.scope.names.lookup y = some .local := by rfl)
    (hw : swappedStores [.Tuple [.Name x px, .Name y py] kt pt] (.Tuple [a, b] k2 pt2) X.env = pure (some [x, y]) := by rfl)
    (hs : swapsWithSole [.Tuple [.Name x px, .Name y py] kt pt] (.Tuple [a, b] k2 pt2) pos.line X.env = pure false := by rfl) :
    QS X Wx (.Assign [.Tuple [.Name x px, .Name y py] kt pt] (.Tuple [a, b] k2 pt2) pos) (dPar i j dl) := by
  obtain ⟨ta, pa, sa⟩ := ha.ex
  refine ⟨_, ps_par hc hN hi hj hij hx hy pa hw hs, fun σ H env L D' D st h ok => ?_⟩
  refine sa σ H env L _ _ _ st h (fun ds L1 vs H1 h1 g1 j1 r1 => ?_) ok.ex
  split at h1
  · rename_i d e
    cases r1 with
    | cons r1 r2 => cases r2 with
      | cons r2 r3 => cases r3 with
        | nil => exact ⟨_, _, rfl, ok.nx _ L1 _ H1 h1 g1 ⟨((st.1.go g1).set r1 i).set r2 j, j1⟩⟩
  · exact h1.elim
def dDrop (de : DE) : DS := fun D env L => de env L (fun _ L1 => D.nx env L1) D.ex
theorem s_expr (he : QE X Wx e de) (hs : swapsWith e none pos.line X.env = pure false := by rfl) : QS X Wx (.Expr e pos) (dDrop de) := by
  obtain ⟨te, pe, se⟩ := he.ex
  refine ⟨_, ps_expr pe hs, fun σ H env L D' D st h ok => ?_⟩
  exact se σ H env L _ _ _ st h (fun d L1 v H1 h1 g1 j1 r1 => ok.nx env L1 σ H1 h1 g1 (st.go g1 j1)) ok.ex
def dRet (de : DE) : DS := fun D env L => de env L D.rt D.ex
theorem s_ret (he : QE X Wx e de) : QS X Wx (.Return (some e) pos) (dRet de) := by
  obtain ⟨te, pe, se⟩ := he.ex
  exact ⟨_, ps_ret pe, fun σ H env L D' D st h ok => se σ H env L _ _ _ st h ok.rt ok.ex⟩
def dRetN : DS := fun D _ L => D.rt .non L
theorem s_retN : QS X Wx (.Return none pos) dRetN := ⟨_, ps_retN, fun σ H env L D' D st h ok => ok.rt .non L .non H h (Go.refl L H) st.2 .non⟩
def dIfS (dt : DT) (t u : DS) : DS := fun D env L => dt env L (fun b L1 => match b with
  | true => t D env L1
  | false => u D env L1) D.ex
theorem s_if {as bs : List Stmt} {t u : DS} (hc : QT X Wx c dt) (ha : QSs X Wx as t) (hb : QSs X Wx bs u) : QS X Wx (.If c as bs pos) (dIfS dt t u) := by
  obtain ⟨tc, pc, sc⟩ := hc.ex
  obtain ⟨ta, pa, sa⟩ := ha.ex
  obtain ⟨tb, pb, sb⟩ := hb.ex
  refine ⟨_, ps_if pc pa pb, fun σ H env L D' D st h ok => ?_⟩
  refine sc σ H env L _ _ _ st h (fun b L1 H1 h1 g1 j1 => ?_) ok.ex
  cases b with
  | true => exact iteT (sa σ H1 env L1 D' D (st.go g1 j1) h1 (ok.go g1))
  | false => exact iteF (sb σ H1 env L1 D' D (st.go g1 j1) h1 (ok.go g1))
theorem s_pass : QS X Wx (.Pass pos) dNext := ⟨_, ps_pass, fun σ H env L D' D st h ok => ok.nx env L σ H h (Go.refl L H) st⟩
def dBrk : DS := fun D env L => D.bk env L
theorem s_brk : QS X Wx (.Break pos) dBrk := ⟨_, ps_break, fun σ H env L D' D st h ok => ok.bk env L σ H h (Go.refl L H) st⟩
def dCnt : DS := fun D env L => D.ct env L
theorem s_cnt : QS X Wx (.Continue pos) dCnt := ⟨_, ps_continue, fun σ H env L D' D st h ok => ok.ct env L σ H h (Go.refl L H) st⟩
/-! ### for -/
abbrev DI := DEnv → Led → (List D → Led → Prop) → DX → Prop
def ItD (K : PySem.W.Frag) (L : Led) (H : Hp) (J : It) (ds : List D) : Prop := ∀ L' H', Go L L' H H' → JL K L' H' → ∀ i, (∀ d, ds[i]? = some d → J.go i H' ∧ ∀ x H'', J.yld i H' x H'' → Same H' H'' ∧ Rp L' K H'' x d) ∧ (ds.length ≤ i → J.stop i H')
structure QI (X : Cx) (Wx : WX) (tg iter : Expr) (di : DI) : Prop where
  ex : ∃ wi, PI X tg iter wi ∧ ∀ σ H env L k x R, StL X.K σ H env L → di env L k x → (∀ ds L' J H', k ds L' → Go L L' H H' → JL X.K L' H' → ItD X.K L' H' J ds → R J H') → XOk X.K Wx L H x → wi σ H R
@[irreducible] def forD (dg : DG) (db : DS) (En : DEnds) : List D → DEnv → Led → Prop
  | [], env, L => En.nx env L
  | d :: ds, env, L => dg d env L fun env1 => db { En with nx := forD dg db En ds, ct := forD dg db En ds, bk := En.nx } env1 L
theorem forD_nil {dg : DG} {db : DS} {En : DEnds} {env : DEnv} {L : Led} : forD dg db En [] env L = En.nx env L := by with_unfolding_all rfl
theorem forD_cons {dg : DG} {db : DS} {En : DEnds} {d : D} {ds : List D} {env : DEnv} {L : Led} : forD dg db En (d :: ds) env L = dg d env L fun env1 => db { En with nx := forD dg db En ds, ct := forD dg db En ds, bk := En.nx } env1 L := by with_unfolding_all rfl
def dFor (di : DI) (dg : DG) (db : DS) : DS := fun D env L => di env L (fun ds L1 => forD dg db D ds env L1) D.ex
theorem s_for {tg iter : Expr} {body : List Stmt} {di : DI} {dg : DG} {db : DS} {sl : List Nat} (hp : PassesOwn (model X.prog X.w) X.A X.env X.xe) (hc : X.calm = true) (hi : QI X Wx tg iter di) (hg : QG X tg sl dg) (hb : QSs X Wx body db)
    (hs : ∀ x, foldedSetIterable iter X.env x = pure x := by intro _; rfl) : QS X Wx (.For tg iter body [] pos) (dFor di dg db) := by
  obtain ⟨wi, pi, si⟩ := hi.ex
  obtain ⟨g, pg, sg⟩ := hg.ex
  obtain ⟨tb, pb, sb⟩ := hb.ex
  refine ⟨_, ps_for hp hc pi pg pb hs, fun σ H env L D' D st h ok => ?_⟩
  refine si σ H env L _ _ _ st h (fun ds L1 J H1 h1 g1 j1 it => ?_) ok.ex
  refine ⟨fun i m σ' H' => m = ds.length - i ∧ i ≤ ds.length ∧ ∃ env' L', StL X.K σ' H' env' L' ∧ Go L1 L' H1 H' ∧ forD dg db D' (ds.drop i) env' L', ⟨ds.length, by omega, by omega, env, L1, st.go g1 j1, Go.refl L1 H1, h1⟩, ?_⟩
  rintro i m σ2 H2 ⟨rfl, hi, env2, L2, st2, g2, h2⟩
  obtain ⟨i1, i2⟩ := it L2 H2 g2 st2.2 i
  by_cases hlt : i < ds.length
  · have e : ds[i]? = some ds[i] := List.getElem?_eq_getElem hlt
    obtain ⟨go, yl⟩ := i1 _ e
    rw [List.drop_eq_getElem_cons hlt, forD_cons] at h2
    refine .inr ⟨go, fun σ' H' => ∃ env' L', StL X.K σ' H' env' L' ∧ Go L1 L' H1 H' ∧ forD dg db D' (ds.drop (i + 1)) env' L', fun σ' H' n => ⟨ds.length - (i + 1), by omega, rfl, hlt, n⟩, fun x H' y => ?_⟩
    obtain ⟨s, rx⟩ := yl x H' y
    have g3 : Go L2 L2 H2 H' := Go.same s
    refine sg x _ σ2 H' env2 L2 _ _ (st2.go g3 (st2.2.same s)) rx h2 fun σ3 env3 h3 st3 _ => ?_
    have g4 : Go L1 L2 H1 H' := g2.trans g3
    refine sb σ3 H' env3 L2 _ _ st3 h3 ⟨fun env' L' σ' H'' q g' st' => ⟨env', L', st', g4.trans g', q⟩, (ok.go (g1.trans g4)).rt, (ok.go (g1.trans g4)).ex, (ok.go (g1.trans g4)).nx, fun env' L' σ' H'' q g' st' => ⟨env', L', st', g4.trans g', q⟩⟩
  · have e : i = ds.length := by omega
    subst e
    rw [List.drop_length, forD_nil] at h2
    exact .inl ⟨i2 (Nat.le_refl _), ok.nx env2 L2 σ2 H2 h2 (g1.trans g2) st2⟩
/-- for x in range(n), range(a, b) -/
def rngD (lo : Int) : Nat → List D
  | 0 => []
  | n + 1 => .int lo :: rngD (lo + 1) n
theorem rngD_len : ∀ (n : Nat) (lo : Int), (rngD lo n).length = n
  | 0, _ => rfl
  | n + 1, lo => by show (rngD (lo + 1) n).length + 1 = n + 1; rw [rngD_len n]
theorem rngD_get : ∀ (n : Nat) (lo : Int) (i : Nat) (d : D), (rngD lo n)[i]? = some d → i < n ∧ d = .int (lo + i)
  | 0, _, _, _, h => by simp [rngD] at h
  | n + 1, lo, 0, d, h => by
    simp [rngD] at h
    exact ⟨by omega, by rw [← h]; simp⟩
  | n + 1, lo, i + 1, d, h => by
    obtain ⟨h1, h2⟩ := rngD_get n (lo + 1) i d (by simpa [rngD] using h)
    refine ⟨by omega, ?_⟩
    rw [h2]
    congr 1
    omega
theorem it_rng {K : PySem.W.Frag} {L : Led} {H : Hp} {lo : Int} {n : Nat} : ItD K L H (Itr lo n) (rngD lo n) := fun L' H' g j i => by
  refine ⟨fun d hd => ?_, fun h => ?_⟩
  · obtain ⟨h1, h2⟩ := rngD_get n lo i d hd
    subst h2
    exact ⟨h1, fun x H'' y => by
      obtain ⟨e1, e2⟩ := y
      subst e1 e2
      exact ⟨Same.refl _, .int _⟩⟩
  · rw [rngD_len] at h
    exact h
def diRange (dl : DA) : DI := fun env L k x => dl env L (fun ds L1 => match ds with
  | [.int n] => (-(2 ^ 62) ≤ n ∧ n < 2 ^ 62) ∧ k (rngD 0 n.toNat) L1
  | _ => False) x
theorem i_range1 {tg : Expr} {p : Pos} (hg : Gl X "range") (hm : X.mg "range" = none) (ha : QA X Wx [e] dl) (hs : starEach [e] X.env = [(false, eval e X.env)] := by rfl) : QI X Wx tg (.Call (.Name "range" p) [e] [] pos) (diRange dl) := by
  obtain ⟨ta, pa, sa⟩ := ha.ex
  refine ⟨_, pi_range1 hg hm pa hs, fun σ H env L k x R st h hk hx => ?_⟩
  refine sa σ H env L _ _ _ st h (fun ds L1 vs H1 h1 g1 j1 r1 => ?_) hx
  split at h1
  · rename_i n
    obtain ⟨⟨q1, q2⟩, h1⟩ := h1
    cases r1 with
    | cons r1 r2 =>
      cases r2
      cases r1
      exact ⟨n, rfl, q1, q2, hk _ L1 _ H1 h1 g1 j1 it_rng⟩
  · exact h1.elim
def diRange2 (dl : DA) : DI := fun env L k x => dl env L (fun ds L1 => match ds with
  | [.int a, .int b] => (-(2 ^ 62) ≤ a ∧ a < 2 ^ 62 ∧ -(2 ^ 62) ≤ b ∧ b < 2 ^ 62) ∧ k (rngD a (b - a).toNat) L1
  | _ => False) x
theorem i_range2 {tg e2 : Expr} {p : Pos} (hg : Gl X "range") (hm : X.mg "range" = none) (ha : QA X Wx [e, e2] dl) (hs : starEach [e, e2] X.env = [(false, eval e X.env), (false, eval e2 X.env)] := by rfl) (hs2 : starEach [e2] X.env = [(false, eval e2 X.env)] := by rfl) : QI X Wx tg (.Call (.Name "range" p) [e, e2] [] pos) (diRange2 dl) := by
  obtain ⟨ta, pa, sa⟩ := ha.ex
  refine ⟨_, pi_range2 hg hm pa hs hs2, fun σ H env L k x R st h hk hx => ?_⟩
  refine sa σ H env L _ _ _ st h (fun ds L1 vs H1 h1 g1 j1 r1 => ?_) hx
  split at h1
  · rename_i a b
    obtain ⟨q1, h1⟩ := h1
    cases r1 with
    | cons r1 r2 =>
      cases r2 with
      | cons r2 r3 =>
      cases r3
      cases r1
      cases r2
      exact ⟨a, b, rfl, q1, hk _ L1 _ H1 h1 g1 j1 it_rng⟩
  · exact h1.elim
/-- over a list or a tuple that stands -/
def diSeq (da : DE) : DI := fun env L k x => da env L (fun d L1 => match d with
  | .lst ds => k ds L1
  | .tup ds => k ds L1
  | .ro ds => k ds L1
  | _ => False) x
theorem it_list {K : PySem.W.Frag} {L : Led} {H : Hp} {a : Addr} {vs : List V} {ds : List D} (h : SqL' L K H a vs) (r : RpAll L K H vs ds) : ItD K L H (Itl K a) ds := fun L' H' g j i => by
  have h' := (g.sqL h).sq
  have r' := r.go g
  refine ⟨fun d hd => ?_, fun hi => ⟨vs, h', by rw [r.length]; exact hi⟩⟩
  obtain ⟨v, hv, rv⟩ := r'.get hd
  exact ⟨⟨vs, v, h', hv⟩, fun x H'' y => by
    obtain ⟨e1, e2⟩ := y
    subst e1
    have e3 := e2 vs h'
    rw [hv] at e3
    cases e3
    exact ⟨Same.refl _, rv⟩⟩
theorem it_tup {K : PySem.W.Frag} {L : Led} {H : Hp} {a : Addr} {vs : List V} {ds : List D} (h : SqT' L K H a vs) (r : RpAll L K H vs ds) : ItD K L H (Itt K a) ds := fun L' H' g j i => by
  have h' := (g.sqT h).sq
  have r' := r.go g
  refine ⟨fun d hd => ?_, fun hi => ⟨vs, h', by rw [r.length]; exact hi⟩⟩
  obtain ⟨v, hv, rv⟩ := r'.get hd
  exact ⟨⟨vs, v, h', hv⟩, fun x H'' y => by
    obtain ⟨e1, e2⟩ := y
    subst e1
    have e3 := e2 vs h'
    rw [hv] at e3
    cases e3
    exact ⟨Same.refl _, rv⟩⟩
def diL (da : DE) : DI := fun env L k x => da env L (fun d L1 => match d with
  | .lst ds => k ds L1
  | .ro ds => k ds L1
  | _ => False) x
def diT (da : DE) : DI := fun env L k x => da env L (fun d L1 => match d with
  | .tup ds => k ds L1
  | _ => False) x
theorem i_list {tg : Expr} (ha : QE X Wx e da) : QI X Wx tg e (diL da) := by
  obtain ⟨ta, pa, sa⟩ := ha.ex
  refine ⟨_, pi_list pa, fun σ H env L k x R st h hk hx => ?_⟩
  refine sa σ H env L _ _ _ st h (fun d L1 v H1 h1 g1 j1 r1 => ?_) hx
  cases r1 <;> first | exact h1.elim | skip
  · rename_i n s r
    exact ⟨_, rfl, ⟨_, SqL.of s⟩, hk _ L1 _ H1 h1 g1 j1 (it_list (.inl ⟨n, .inl s⟩) r)⟩
  · rename_i s r
    exact ⟨_, rfl, ⟨_, s.sq⟩, hk _ L1 _ H1 h1 g1 j1 (it_list s r)⟩
theorem i_tup {tg : Expr} (ha : QE X Wx e da) : QI X Wx tg e (diT da) := by
  obtain ⟨ta, pa, sa⟩ := ha.ex
  refine ⟨_, pi_tup pa, fun σ H env L k x R st h hk hx => ?_⟩
  refine sa σ H env L _ _ _ st h (fun d L1 v H1 h1 g1 j1 r1 => ?_) hx
  cases r1 <;> first | exact h1.elim | skip
  rename_i s r
  exact ⟨_, rfl, ⟨_, s.sq⟩, hk _ L1 _ H1 h1 g1 j1 (it_tup s r)⟩
/-! ### while -/
@[irreducible] def whD (dt : DT) (db : DS) (En : DEnds) : Nat → DEnv → Led → Prop
  | 0, _, _ => False
  | n + 1, env, L => dt env L (fun b L1 => match b with
    | true => db { En with nx := whD dt db En n, ct := whD dt db En n, bk := En.nx } env L1
    | false => En.nx env L1) En.ex
theorem whD_zero {dt : DT} {db : DS} {En : DEnds} {env : DEnv} {L : Led} : whD dt db En 0 env L = False := by with_unfolding_all rfl
theorem whD_succ {dt : DT} {db : DS} {En : DEnds} {n : Nat} {env : DEnv} {L : Led} : whD dt db En (n + 1) env L = dt env L (fun b L1 => match b with
    | true => db { En with nx := whD dt db En n, ct := whD dt db En n, bk := En.nx } env L1
    | false => En.nx env L1) En.ex := by with_unfolding_all rfl
def dWhile (dt : DT) (db : DS) : DS := fun En env L => ∃ n, whD dt db En n env L
theorem s_while {body : List Stmt} {db : DS} (hp : PassesOwn (model X.prog X.w) X.A X.env X.xe) (hc : QT X Wx c dt) (hb : QSs X Wx body db) : QS X Wx (.While c body [] pos) (dWhile dt db) := by
  obtain ⟨tc, pc, sc⟩ := hc.ex
  obtain ⟨tb, pb, sb⟩ := hb.ex
  refine ⟨_, ps_while hp pc pb, fun σ H env L D' D st h ok => ?_⟩
  obtain ⟨n, h⟩ := h
  refine ⟨fun m σ' H' => ∃ env' L', StL X.K σ' H' env' L' ∧ Go L L' H H' ∧ whD dt db D' m env' L', ⟨n, env, L, st, Go.refl L H, h⟩, ?_⟩
  rintro m σ2 H2 ⟨env2, L2, st2, g2, h2⟩
  cases m with
  | zero => rw [whD_zero] at h2; exact h2.elim
  | succ m =>
    rw [whD_succ] at h2
    refine sc σ2 H2 env2 L2 _ _ _ st2 h2 (fun b L3 H3 h3 g3 j3 => ?_) (ok.ex.go g2)
    have g4 := g2.trans g3
    cases b with
    | true =>
      refine iteT ⟨fun σ' H' => ∃ env' L', StL X.K σ' H' env' L' ∧ Go L L' H H' ∧ whD dt db D' m env' L', fun σ' H' q => ⟨m, Nat.lt_succ_self m, q⟩, ?_⟩
      exact sb σ2 H3 env2 L3 _ _ (st2.go g3 j3) h3 ⟨fun env' L' σ' H' q g' st' => ⟨env', L', st', g4.trans g', q⟩, (ok.go g4).rt, (ok.go g4).ex, (ok.go g4).nx, fun env' L' σ' H' q g' st' => ⟨env', L', st', g4.trans g', q⟩⟩
    | false => exact iteF (ok.nx env2 L3 σ2 H3 h3 g4 (st2.go g3 j3))
end
/-! ### a def by its body -/
section
open PySem.Spec PyProof.Rows
variable {P : Program} {w : World} {K : PySem.W.Frag} {mg : Str → Option Value} {base : Heap}
def endsD (k : DK) (x : Exn → Led → Prop) : DEnds := { nx := fun _ L => k .non L, rt := k, ex := fun n _ L => x n L, bk := fun _ _ => False, ct := fun _ _ => False }
def startD (N : List Str) (ds : List D) : DEnv := ds.map some ++ List.replicate (N.length - ds.length) none
abbrev wxOf (E : XK) : WX := fun cls d _ H => E cls d H
theorem fn_ok {x qual : Str} {st : Stmt} {f : Addr} {fd : FuncData} {N ps : List Str} {k : Nat} {g : DSp} (F : Fun K x qual st f fd) (S : FnScope N ps (defScope st)) (len : ∀ ds L k x, g ds L k x → ds.length = ps.length)
    (body : ∀ (cdv : Value) (A : Around) (outer : List Env) (s : Shared) (H : Hp) (E : XK), Room k (A.deeper (envOfC qual (defScope st) s.heap.objs.size f cdv)) →
      ∃ t, QSs (cxOf (L2.CX P w) P w K mg base N qual (defScope st) f cdv A outer s H E) (wxOf E) (defBody st) t ∧ ∀ ds L k x, g ds L k x → t (endsD k x) (startD N ds) L) : FnOk P w K mg base (L2.CX P w) (k + 1) f fd ps (spD K g) := by
  refine F.okX S (fun vs H Q E h => ?_) (fun cdv A outer s H vs Q E hr h => ?_)
  · obtain ⟨ds, L, k, x, j, r, h, _⟩ := h
    rw [r.length]
    exact len ds L k x h
  · obtain ⟨ds, L, k, x, j, r, h, hk, hx⟩ := h
    obtain ⟨t, q, ht⟩ := body cdv A outer s H E hr
    obtain ⟨ts, pts, sts⟩ := q.ex
    refine ⟨ts, pts, sts _ H (startD N ds) L (endsD k x) _ ⟨?_, j⟩ (ht ds L k x h) ?_⟩
    · unfold L2.start startD
      rw [r.length]
      exact Sto.start r
    · exact ⟨fun env' L' σ' H' q g' st' => hk .non L' .non H' q g' st'.2 .non, hk, fun n env' L' a H' σ' q g' st' r' => hx n L' a H' q g' st'.2 r', fun _ _ _ _ q => q.elim, fun _ _ _ _ q => q.elim⟩
end
end DL

namespace DL
open PySem L2
/-! ### the ledger changed -/
def setL (L : Led) (p : Addr) (d : D) : Led := L.map fun q => if q.1 = p then (p, d) else q
def remL (L : Led) (p : Addr) : Led := L.filter fun q => decide (q.1 ≠ p)
theorem setL_keys (L : Led) (p : Addr) (d : D) : (setL L p d).map (·.1) = L.map (·.1) := by
  unfold setL
  rw [List.map_map]
  refine List.map_congr_left fun q _ => ?_
  show (if q.1 = p then (p, d) else q).1 = q.1
  split
  · rename_i h; exact h.symm
  · rfl
theorem inL_setL {L : Led} {p a : Addr} {d : D} : inL (setL L p d) a ↔ inL L a := by unfold inL; rw [setL_keys]
theorem setL_out {L : Led} {p : Addr} {d : D} (h : ¬ inL L p) : setL L p d = L := by
  unfold setL
  have : ∀ q ∈ L, (if q.1 = p then (p, d) else q) = id q := fun q hq => by
    rw [if_neg fun e => h (List.mem_map.mpr ⟨q, hq, e⟩)]; rfl
  rw [List.map_congr_left this, List.map_id]
theorem setL_top {L : Led} {p : Addr} {c d : D} (h : ¬ inL L p) : setL ((p, c) :: L) p d = (p, d) :: L := by
  show (if p = p then (p, d) else (p, c)) :: setL L p d = _
  rw [if_pos rfl, setL_out h]
theorem setL_ne {L : Led} {p q : Addr} {c d : D} (h : q ≠ p) : setL ((q, c) :: L) p d = (q, c) :: setL L p d := by
  show (if q = p then (p, d) else (q, c)) :: setL L p d = _
  rw [if_neg h]
theorem remL_out {L : Led} {p : Addr} (h : ¬ inL L p) : remL L p = L := by
  unfold remL
  refine List.filter_eq_self.mpr fun q hq => decide_eq_true fun e => h (List.mem_map.mpr ⟨q, hq, e⟩)
theorem remL_top {L : Led} {p : Addr} {c : D} (h : ¬ inL L p) : remL ((p, c) :: L) p = L := by
  unfold remL
  rw [List.filter_cons, if_neg (by simp)]
  exact remL_out h
theorem inL_remL {L : Led} {p a : Addr} : inL (remL L p) a ↔ inL L a ∧ a ≠ p := by
  unfold inL remL
  constructor
  · intro h
    obtain ⟨q, hq, e⟩ := List.mem_map.mp h
    obtain ⟨h1, h2⟩ := List.mem_filter.mp hq
    subst e
    exact ⟨List.mem_map.mpr ⟨q, h1, rfl⟩, of_decide_eq_true h2⟩
  · rintro ⟨h, hn⟩
    obtain ⟨q, hq, e⟩ := List.mem_map.mp h
    subst e
    exact List.mem_map.mpr ⟨q, List.mem_filter.mpr ⟨hq, decide_eq_true hn⟩, rfl⟩
theorem lookup_top {L : Led} {p : Addr} {c : D} : List.lookup p ((p, c) :: L) = some c := List.lookup_cons_self
theorem lookup_ne {L : Led} {p q : Addr} {c : D} (h : p ≠ q) : List.lookup p ((q, c) :: L) = List.lookup p L := by
  have e : (p == q) = false := by simpa using h
  rw [List.lookup_cons, e]
theorem inL_of_lookup {L : Led} {p : Addr} {c : D} (h : L.lookup p = some c) : inL L p := List.mem_map.mpr ⟨_, mem_of_lookup h, rfl⟩
theorem inL_cons {L : Led} {p a : Addr} {c : D} : inL ((p, c) :: L) a ↔ a = p ∨ inL L a := by unfold inL; simp
section
variable {L L' : Led} {K : PySem.W.Frag} {H H' : Hp} {a p : Addr} {d : D} {o : HO}
theorem go_set (h : inL L p) : Go L (setL L p d) H (upd H p o) := fun a u n e => by
  have ne : a ≠ p := fun z => n (z ▸ h)
  exact ⟨fun m => n (inL_setL.mp m), by rw [upd_ne ne]; exact e⟩
theorem JL.put (j : JL K L H) (h : inL L p) (ow : Own (setL L p d) K (upd H p o) p d) : JL K (setL L p d) (upd H p o) := by
  refine ⟨by rw [setL_keys]; exact j.nd, fun a e m => ?_⟩
  obtain ⟨q, hq, eq⟩ := List.mem_map.mp m
  by_cases hp : q.1 = p
  · rw [if_pos hp] at eq
    cases eq
    exact ow
  · rw [if_neg hp] at eq
    subst eq
    exact Own.move (j.own _ _ hq) (go_set h) fun u e => by rw [upd_ne hp]; exact e
theorem go_rem : Go L (remL L p) H H := fun a u n e => ⟨fun m => n (inL_remL.mp m).1, e⟩
theorem JL.rem (j : JL K L H) : JL K (remL L p) H := by
  refine ⟨?_, fun a e m => ?_⟩
  · have : ((remL L p).map (·.1)).Sublist (L.map (·.1)) := (List.filter_sublist).map _
    exact j.nd.sublist this
  · exact Own.move (j.own _ _ (List.mem_filter.mp m).1) go_rem fun u e => e
end
section
variable {X : Cx} {Wx : WX} {a b c e o : Expr} {es rest : List Expr} {da db dc de do' di : DE} {dt du : DT} {dl dk : DA} {pos : Pos}
/-! ### weaker readings -/
theorem QE.w (h : QE X Wx e de) {de' : DE} (hw : ∀ env L k x, de' env L k x → de env L k x) : QE X Wx e de' := by
  obtain ⟨te, pe, se⟩ := h.ex
  exact ⟨te, pe, fun σ H env L k x Q st h hk hx => se σ H env L k x Q st (hw env L k x h) hk hx⟩
/-- the reading by data, as a reading of the layer -/
def teOf (K : PySem.W.Frag) (Wx : WX) (de : DE) : TE := fun σ H Q => ∃ env L k x, StL K σ H env L ∧ de env L k x ∧ KOk K L H k Q ∧ XOk K Wx L H x
theorem QE.pe (h : QE X Wx e de) : PE X e (teOf X.K Wx de) := by
  obtain ⟨te, pe, se⟩ := h.ex
  refine ⟨fun pins s σ H Q I hw => ?_⟩
  obtain ⟨env, L, k, x, st, h, hk, hx⟩ := hw
  exact pe.run pins s σ H Q I (se σ H env L k x Q st h hk hx)
def ttOf (K : PySem.W.Frag) (Wx : WX) (dt : DT) : TT := fun σ H Q => ∃ env L k x, StL K σ H env L ∧ dt env L k x ∧ (∀ b L' H', k b L' → Go L L' H H' → JL K L' H' → Q b H') ∧ XOk K Wx L H x
theorem QT.pt (h : QT X Wx e dt) : PT X e (ttOf X.K Wx dt) := by
  obtain ⟨te, pe, se⟩ := h.ex
  refine ⟨fun pins s σ H Q I hw => ?_⟩
  obtain ⟨env, L, k, x, st, h, hk, hx⟩ := hw
  exact pe.run pins s σ H Q I (se σ H env L k x Q st h hk hx)
def tgOf (K : PySem.W.Frag) (sl : List Nat) (dg : DG) : TG := fun v σ H Q => ∃ d env L k, StL K σ H env L ∧ Rp L K H v d ∧ dg d env L k ∧ ∀ σ' env', k env' → StL K σ' H env' L → Only' sl σ σ' → Q σ' H
theorem QG.pg {tg : Expr} {sl : List Nat} {dg : DG} (h : QG X tg sl dg) : PG X tg (tgOf X.K sl dg) := by
  obtain ⟨g, pg, sg⟩ := h.ex
  refine ⟨fun pins s σ H v u Q I r hw => ?_⟩
  obtain ⟨d, env, L, k, st, rd, h, hk⟩ := hw
  exact pg.run pins s σ H v u Q I r (sg v d σ H env L k Q st rd h hk)
/-! ### o[i] = v of a list of the ledger -/
def dStore (de do' di : DE) : DS := fun D env L => de env L (fun v L1 => do' env L1 (fun o L2 => di env L2 (fun i L3 => match o, i with
  | .ptr p, .int z => match L3.lookup p with
    | some (.lst ds) => match ixN ds.length z with
      | some j => D.nx env (setL L3 p (.lst (ds.set j v)))
      | none => False
    | _ => False
  | _, _ => False) D.ex) D.ex) D.ex
theorem s_store {i : Expr} {ip : Pos} (he : QE X Wx e de) (ho : QE X Wx o do') (hi : QE X Wx i di) (hix : ∀ h0 : PE X o (teOf X.K Wx do'), ∀ h1 : PE X i (teOf X.K Wx di), PG X (.Subscript o i ip) (L2.gSub (teOf X.K Wx do') (teOf X.K Wx di) rSetL) := by exact fun h0 h1 => pg_sub h0 h1 set_list)
    (hs : swapsWithSole [.Subscript o i ip] e pos.line X.env = pure false := by rfl) (hw : swappedStores [.Subscript o i ip] e X.env = pure none := by rfl) (h1 : (assignEach [.Subscript o i ip] X.env).map (·.2) = [assign (.Subscript o i ip) X.env] := by rfl) : QS X Wx (.Assign [.Subscript o i ip] e pos) (dStore de do' di) := by
  obtain ⟨te, pe, se⟩ := he.ex
  refine ⟨_, ps_asg pe (hix ho.pe hi.pe) hs hw h1, fun σ H env L D' D st h ok => ?_⟩
  refine se σ H env L _ _ _ st h (fun v L1 vv H1 h1 g1 j1 r1 => ?_) ok.ex
  refine ⟨env, L1, _, D'.ex, st.go g1 j1, h1, fun o L2 vo H2 h2 g2 j2 r2 => ?_, ok.ex.go g1⟩
  refine ⟨env, L2, _, D'.ex, (st.go g1 j1).go g2 j2, h2, fun i L3 vi H3 h3 g3 j3 r3 => ?_, (ok.ex.go g1).go g2⟩
  have r2 := r2.go g3
  have r1 := (r1.go g2).go g3
  dsimp only at h3 ⊢
  split at h3
  · cases r2 with
    | ptr p =>
    cases r3 with
    | int z =>
    split at h3
    · rename_i ds hl
      split at h3
      · rename_i j hj
        obtain ⟨vs, e1, rv⟩ := j3.look hl
        have hp := inL_of_lookup hl
        refine ⟨_, vs, _, j, rfl, rfl, e1, by rw [rv.length]; exact hj, ?_⟩
        have g4 : Go L3 (setL L3 _ (.lst (ds.set j v))) H3 (upd H3 _ (.lst (vs.set j vv))) := go_set hp
        have j4 : JL X.K (setL L3 _ (.lst (ds.set j v))) (upd H3 _ (.lst (vs.set j vv))) := j3.put hp ⟨_, upd_same, (rv.go g4).set (r1.go g4) j⟩
        exact ok.nx env _ σ _ h3 (((g1.trans g2).trans g3).trans g4) (st.go (((g1.trans g2).trans g3).trans g4) j4)
      · exact h3.elim
    · exact h3.elim
  · exact h3.elim
end
end DL

namespace DL
open PySem L2
section
variable {X : Cx} {Wx : WX} {a b c e o : Expr} {es rest : List Expr} {da db dc de do' di : DE} {dt du : DT} {dl dk : DA} {pos : Pos}
/-! ### len, abs, int, str, list, all, any, gcd, max, min -/
def lenD (L : Led) (d : D) : Option Nat := match seqs (con L d) with
  | some ds => some ds.length
  | none => none
def gLen : GC := fun ds L k => match ds with
  | [.str z] => z.length ≤ sizeLine ∧ k (.int z.length)
  | [d] => match lenD L d with
    | some n => k (.int n)
    | none => False
  | _ => False
theorem cq_len : CQ X (.builtin "len") gLen := ⟨_, call_len, fun H L vs ds k Q j r h hk => by
  unfold gLen at h
  split at h
  · cases r with
    | cons r1 r2 =>
      cases r2
      cases r1
      exact ⟨_, _, rfl, ⟨h.1, rfl⟩, hk _ _ H h.2 (Same.refl H) (.int _)⟩
  · rename_i d _
    cases r with
    | cons r1 r2 =>
      cases r2
      split at h
      · rename_i n hn
        unfold lenD at hn
        split at hn
        · rename_i ds' hd
          cases hn
          obtain ⟨a, vs, rfl, hs, rv⟩ := con_seq j r1 hd
          refine ⟨_, ds'.length, rfl, ?_, hk _ _ H h (Same.refl H) (.int _)⟩
          rcases hs with hs | hs
          · exact .inl ⟨vs, hs, rv.length.symm⟩
          · exact .inr ⟨vs, hs, rv.length.symm⟩
        · cases hn
      · exact h.elim
  · exact h.elim⟩
def gAbs : GC := fun ds _ k => match ds with
  | [.int i] => k (.int (if i < 0 then -i else i))
  | _ => False
theorem cq_abs : CQ X (.builtin "abs") gAbs := ⟨_, call_abs, fun H L vs ds k Q j r h hk => by
  unfold gAbs at h
  split at h
  · cases r with
    | cons r1 r2 =>
      cases r2
      cases r1
      exact ⟨_, rfl, hk _ _ H h (Same.refl H) (.int _)⟩
  · exact h.elim⟩
def gInt : GC := fun ds _ k => match ds with
  | [.int i] => k (.int i)
  | [.bl b] => k (.int (if b then 1 else 0))
  | _ => False
theorem cq_int : CQ X (.type "int") gInt := ⟨_, call_int1, fun H L vs ds k Q j r h hk => by
  unfold gInt at h
  split at h
  · cases r with
    | cons r1 r2 =>
      cases r2
      cases r1
      exact .inl ⟨_, rfl, hk _ _ H h (Same.refl H) (.int _)⟩
  · cases r with
    | cons r1 r2 =>
      cases r2
      cases r1
      exact .inr ⟨_, rfl, hk _ _ H h (Same.refl H) (.int _)⟩
  · exact h.elim⟩
def gStr : GC := fun ds _ k => match ds with
  | [.int i] => i.natAbs.log2 < 1920 ∧ k (.str (toString i))
  | _ => False
theorem cq_str : CQ X (.type "str") gStr := ⟨_, call_str_int, fun H L vs ds k Q j r h hk => by
  unfold gStr at h
  split at h
  · cases r with
    | cons r1 r2 =>
      cases r2
      cases r1
      exact ⟨_, rfl, h.1, hk _ _ H h.2 (Same.refl H) (.str _)⟩
  · exact h.elim⟩
def gList : GC := fun ds L k => match ds with
  | [d] => match seqs (con L d) with
    | some xs => k (.lst xs)
    | none => False
  | _ => False
theorem cq_list : CQ X (.type "list") gList := ⟨_, call_list_of, fun H L vs ds k Q j r h hk => by
  unfold gList at h
  split at h
  · cases r with
    | cons r1 r2 =>
      cases r2
      split at h
      · rename_i xs hd
        obtain ⟨a, vs, rfl, hs, rv⟩ := con_seq j r1 hd
        refine ⟨a, vs, rfl, hs, fun l hl => ?_⟩
        have s := same_new hl (.lst vs)
        exact hk _ _ _ h s (.lst (j.notIn hl) upd_same (rv.go (Go.same s)))
      · exact h.elim
  · exact h.elim⟩
def gGcd : GC := fun ds _ k => match ds with
  | [.int a, .int b] => k (.int ((Nat.gcd a.natAbs b.natAbs : Nat) : Int))
  | _ => False
theorem cq_gcd : CQ X (.builtin "math.gcd") gGcd := ⟨_, cr_gcd, fun H L vs ds k Q j r h hk => by
  unfold gGcd at h
  split at h
  · cases r with
    | cons r1 r2 => cases r2 with
      | cons r2 r3 =>
      cases r3
      cases r1
      cases r2
      exact ⟨_, _, rfl, hk _ _ H h (Same.refl H) (.int _)⟩
  · exact h.elim⟩
def gMax2 : GC := fun ds _ k => match ds with
  | [.int i, .int j] => k (.int (if j > i then j else i))
  | _ => False
theorem cq_max2 (hc : X.calm = true) : CQ X (.builtin "max") gMax2 := ⟨_, call_max2 hc, fun H L vs ds k Q j r h hk => by
  unfold gMax2 at h
  split at h
  · cases r with
    | cons r1 r2 => cases r2 with
      | cons r2 r3 =>
      cases r3
      cases r1
      cases r2
      exact ⟨_, _, rfl, hk _ _ H h (Same.refl H) (.int _)⟩
  · exact h.elim⟩
def blsOf : List D → Option (List Bool)
  | [] => some []
  | .bl b :: r => match blsOf r with
    | some bs => some (b :: bs)
    | none => none
  | _ => none
theorem blsOf_eq : ∀ {ds : List D} {bs : List Bool}, blsOf ds = some bs → ds = bs.map D.bl
  | [], bs, h => by cases h; rfl
  | d :: r, bs, h => by
    cases d <;> first | (cases h; done) | skip
    unfold blsOf at h
    split at h
    · rename_i bs' hb
      cases h
      rw [blsOf_eq hb]; rfl
    · cases h
theorem blsOf_map : ∀ (bs : List Bool), blsOf (bs.map D.bl) = some bs
  | [] => rfl
  | b :: r => by show (match blsOf (r.map D.bl) with | some bs => some (b :: bs) | none => none) = _; rw [blsOf_map r]
def gAll : GC := fun ds L k => match ds with
  | [d] => match con L d with
    | .lst xs => match blsOf xs with
      | some bs => k (.bl (bs.all id))
      | none => False
    | _ => False
  | _ => False
theorem cq_all (hc : X.calm = true) : CQ X (.builtin "all") gAll := ⟨_, cr_all hc, fun H L vs ds k Q j r h hk => by
  unfold gAll at h
  split at h
  · cases r with
    | cons r1 r2 =>
      cases r2
      split at h
      · rename_i xs hd
        split at h
        · rename_i bs hb
          obtain ⟨a, vs, rfl, hs, rv⟩ := con_lst j r1 hd
          rw [blsOf_eq hb] at rv
          have e := rv.ofBls
          subst e
          exact ⟨a, bs, rfl, SqL.of hs, hk _ _ H h (Same.refl H) (.bl _)⟩
        · exact h.elim
      · exact h.elim
  · exact h.elim⟩
/-! ### isinstance -/
inductive Ty where
  | non | bl | int | str | lst | tup | dct
  deriving DecidableEq
def Ty.nm : Ty → String
  | .non => "NoneType" | .bl => "bool" | .int => "int" | .str => "str" | .lst => "list" | .tup => "tuple" | .dct => "dict"
def tyD : D → Option Ty
  | .non => some .non
  | .bl _ => some .bl
  | .int _ => some .int
  | .str _ => some .str
  | .lst _ => some .lst
  | .ro _ => some .lst
  | .tup _ => some .tup
  | .dk _ _ => some .dct
  | .dt _ _ => some .dct
  | _ => none
def isTy : Ty → Ty → Bool
  | .bl, .int => true
  | .bl, .bl => true
  | .int, .int => true
  | .str, .str => true
  | .lst, .lst => true
  | .tup, .tup => true
  | .dct, .dct => true
  | .non, .non => true
  | _, _ => false
theorem kit_isTy (t c : Ty) (h : c ≠ .non) : kitB t.nm c.nm = some (isTy t c) := by
  cases t <;> cases c <;> first | exact absurd rfl h | decide +kernel
theorem ty_of {L : Led} {K : PySem.W.Frag} {H : Hp} {v : V} {d : D} {t : Ty} (r : Rp L K H v d) (h : tyD d = some t) : TyX K H v (.type t.nm) := by
  cases r <;> first | (cases h; done) | skip
  all_goals cases h
  · exact .base .non
  · exact .base (.bl _)
  · exact .base (.int _)
  · exact .base (.str _)
  · rename_i n e r
    exact .base (.lst e)
  · rename_i s r
    rcases s with ⟨_, s | ⟨o, s⟩⟩ | ⟨o, its, n, h1, h2, _⟩
    · exact .base (.lst s)
    · exact .base (.frz s)
    · exact .kList h1 h2
  · rename_i s r
    rcases s with ⟨_, s | ⟨o, s⟩⟩ | ⟨o, its, n, h1, h2, _⟩
    · exact .base (.tup s)
    · exact .fTuple s
    · exact .kTuple h1 h2
  · rename_i n s _ _
    rcases s with s | ⟨o, s⟩
    · exact .base (.dK s)
    · exact .fDict s
  · rename_i n s _ _
    exact .base (.dT s)
end
end DL

namespace DL
open PySem L2
section
variable {X : Cx} {Wx : WX} {a b c e o : Expr} {es rest : List Expr} {da db dc de do' di : DE} {dt du : DT} {dl dk : DA} {pos : Pos}
/-- isinstance(x, T) -/
def gIsi (c : Ty) : G1 := fun a L k => match tyD (con L a) with
  | some t => k (.bl (isTy t c))
  | none => False
def gIsi2 (c c' : Ty) : G1 := fun a L k => match tyD (con L a) with
  | some t => k (.bl (isTy t c || isTy t c'))
  | none => False
theorem tyX_con {L : Led} {K : PySem.W.Frag} {H : Hp} {v : V} {d : D} {t : Ty} (j : JL K L H) (r : Rp L K H v d) (h : tyD (con L d) = some t) : TyX K H v (.type t.nm) := by
  cases d with
  | ptr a =>
    cases r
    have h : tyD ((L.lookup a).getD (.ptr a)) = some t := h
    cases q : L.lookup a with
    | none => rw [q] at h; cases h
    | some c =>
      rw [q] at h
      have h : tyD c = some t := h
      have ow := j.look q
      cases c with
      | lst ds => cases h; obtain ⟨vs, e, _⟩ := ow; exact .base (.lst e)
      | dk ks ds => cases h; obtain ⟨vs, e, _⟩ := ow; exact .base (.dK e)
      | dt ks ds => cases h; obtain ⟨vs, e, _⟩ := ow; exact .base (.dT e)
      | _ => first | exact ow.elim | cases h
  | _ => exact ty_of r h
def gcIsi (c : Ty) : GC := fun ds L k => match ds with
  | [d, .ty n] => n = c.nm ∧ gIsi c d L k
  | _ => False
theorem cq_isi {c : Ty} (hc : c ≠ .non) : CQ X (.builtin "isinstance") (gcIsi c) := ⟨_, call_isi, fun H L vs ds k Q j r h hk => by
  unfold gcIsi at h
  split at h
  · rename_i d n
    obtain ⟨rfl, h⟩ := h
    unfold gIsi at h
    split at h
    · rename_i t ht
      cases r with
      | cons r1 r2 => cases r2 with
        | cons r2 r3 =>
        cases r3
        cases r2
        exact ⟨_, _, _, _, _, rfl, .ty _, tyX_con j r1 ht, kit_ty (kit_isTy t c hc), hk _ _ H h (Same.refl H) (.bl _)⟩
    · exact h.elim
  · exact h.elim⟩
theorem q_isi {p p2 : Pos} {T : Str} (c : Ty) (ha : QE X Wx e da) (hg : Gl X "isinstance") (hm : X.mg "isinstance" = none) (hgT : Gl X T) (hmT : X.mg T = none) (hv : bootBuiltins T = some (.type c.nm)) (hc : c ≠ .non := by decide)
    (hn : T ≠ "__name__" := by decide) (hd : (T == ("__debug__" : Str)) = false := by decide) (hs : starEach (e :: [.Name T p2]) X.env = (false, eval e X.env) :: starEach [.Name T p2] X.env := by rfl) (hv0 : bootBuiltins "isinstance" = some (.builtin "isinstance") := by decide +kernel) :
    QE X Wx (.Call (.Name "isinstance" p) [e, .Name T p2] [] pos) (dUn (gIsi c) da) := by
  refine (q_callB (g := gcIsi c) (cq_isi hc) hg hm hv0 (a_cons ha (a_cons (q_bltn (v := .ty c.nm) (d := .ty c.nm) hgT hmT hv rfl (fun _ _ => .ty _) hn hd) a_nil (by rfl)) hs) (by decide) (by decide) hs (by rfl)).w ?_
  intro env L k x h
  exact (show dCB (gcIsi c) (dCons da (dCons (dC (.ty c.nm)) dNil)) env L k x from by
    unfold dCB dCons dC dNil
    unfold dUn at h
    refine cast ?_ h
    congr 1
    funext a L1
    show _ = (c.nm = c.nm ∧ _)
    simp)
/-- isinstance(x, (T, T')): the tuple is made on the spot -/
theorem q_isi2 {p p2 p3 p4 : Pos} {kk : Nat} {T T' : Str} (c c' : Ty) (ha : QE X Wx e da) (hg : Gl X "isinstance") (hm : X.mg "isinstance" = none) (hgT : Gl X T) (hmT : X.mg T = none) (hv : bootBuiltins T = some (.type c.nm)) (hgT' : Gl X T') (hmT' : X.mg T' = none) (hv' : bootBuiltins T' = some (.type c'.nm)) (hc : c ≠ .non := by decide) (hc' : c' ≠ .non := by decide)
    (hn : T ≠ "__name__" := by decide) (hd : (T == ("__debug__" : Str)) = false := by decide) (hn' : T' ≠ "__name__" := by decide) (hd' : (T' == ("__debug__" : Str)) = false := by decide) (hs : starEach (e :: [.Tuple [.Name T p2, .Name T' p3] kk p4]) X.env = (false, eval e X.env) :: starEach [.Tuple [.Name T p2, .Name T' p3] kk p4] X.env := by rfl) (hv0 : bootBuiltins "isinstance" = some (.builtin "isinstance") := by decide +kernel) :
    QE X Wx (.Call (.Name "isinstance" p) [e, .Tuple [.Name T p2, .Name T' p3] kk p4] [] pos) (dUn (gIsi2 c c') da) := by
  obtain ⟨ta, pa, sa⟩ := ha.ex
  refine ⟨_, pe_callB call_isiT hg hm hv0 (pa_cons pa (pa_cons (pe_tup (pa_cons (pe_bltn (v := .ty c.nm) hgT hmT hv rfl hn hd) (pa_cons (pe_bltn (v := .ty c'.nm) hgT' hmT' hv' rfl hn' hd') pa_nil (by rfl)) (by rfl))) pa_nil (by rfl)) hs) (by decide) (by decide) hs (by rfl), fun σ H env L k x Q st h hk hx => ?_⟩
  refine sa σ H env L _ x _ st h (fun d L1 v H1 h1 g1 j1 r1 => ?_) hx
  refine ⟨show 2 ≤ sizeLine by decide, fun t ht => ?_⟩
  have s := same_new ht (.tup [.ty c.nm, .ty c'.nm])
  unfold gIsi2 at h1
  split at h1
  · rename_i ty hty
    refine ⟨v, t, _, _, [.type c.nm, .type c'.nm], (isTy ty c || isTy ty c'), rfl, upd_same, .cons (.ty _) (.cons (.ty _) .nil), tyX_con (j1.same s) (r1.go (Go.same s)) hty, ?_, hk _ L1 _ _ h1 (g1.trans (Go.same s)) (j1.same s) (.bl _)⟩
    refine kitAny_cons (kit_ty (kit_isTy ty c hc)) (fun h0 => ?_) (fun h0 => by rw [h0, Bool.true_or])
    rw [h0, Bool.false_or]
    exact kitAny_cons (r := isTy ty c') (kit_ty (kit_isTy ty c' hc')) (fun h1 => by rw [h1]; exact kitAny_nil) (fun h1 => h1)
  · exact h1.elim
/-! ### + -/
def gAdd : G2 := fun a b L k => match con L a, con L b with
  | .int i, .int j => k (.int (i + j))
  | .str x, .str y => x.length + y.length ≤ sizeLine ∧ k (.str (x ++ y))
  | .lst xs, .lst ys => xs.length + ys.length ≤ sizeLine ∧ k (.lst (xs ++ ys))
  | .tup xs, .tup ys => xs.length + ys.length ≤ sizeLine ∧ k (.tup (xs ++ ys))
  | _, _ => False
theorem con_flat {L : Led} {K : PySem.W.Frag} {H : Hp} {v : V} {d c : D} (j : JL K L H) (r : Rp L K H v d) (e : con L d = c) (hc : match c with | .int _ => True | .str _ => True | .bl _ => True | .non => True | _ => False) : d = c := by
  cases d with
  | ptr a =>
    have e : (L.lookup a).getD (.ptr a) = c := e
    cases q : L.lookup a with
    | none => rw [q] at e; subst e; exact hc.elim
    | some c' =>
      rw [q] at e
      have e : c' = c := e
      subst e
      have ow := j.look q
      cases c' <;> first | exact ow.elim | exact hc.elim
  | _ => exact e
theorem oq_addL : OQ X (binaryOp .Add) (fun a b L k => match con L a, con L b with
    | .lst xs, .lst ys => xs.length + ys.length ≤ sizeLine ∧ k (.lst (xs ++ ys))
    | _, _ => False) := ⟨_, op_cat, fun H L va vb a b k Q j ra rb h hk => by
  dsimp only at h
  split at h
  · rename_i xs ys ea eb
    obtain ⟨p, vs, rfl, hp, rv⟩ := con_lst j ra ea
    obtain ⟨q, ws, rfl, hq, rw'⟩ := con_lst j rb eb
    refine ⟨p, q, vs, ws, rfl, rfl, hp, hq, by rw [rv.length, rw'.length]; exact h.1, fun l hl => ?_⟩
    have s := same_new hl (.lst (vs ++ ws))
    exact hk _ _ _ h.2 s (.lst (j.notIn hl) upd_same ((rv.append rw').go (Go.same s)))
  · exact h.elim⟩
theorem oq_addT : OQ X (binaryOp .Add) (fun a b L k => match con L a, con L b with
    | .tup xs, .tup ys => xs.length + ys.length ≤ sizeLine ∧ k (.tup (xs ++ ys))
    | _, _ => False) := ⟨_, op_catA, fun H L va vb a b k Q j ra rb h hk => by
  dsimp only at h
  split at h
  · rename_i xs ys ea eb
    obtain ⟨p, vs, ep, hp, rv⟩ := con_tup j ra ea
    obtain ⟨q, ws, eq, hq, rw'⟩ := con_tup j rb eb
    have ea' : a = .tup xs := by
      cases a with
      | ptr z =>
        have e : (L.lookup z).getD (.ptr z) = _ := ea
        cases q : L.lookup z with
        | none => rw [q] at e; cases e
        | some c' => rw [q] at e; have e : c' = .tup xs := e; subst e; exact (j.look q).elim
      | _ => exact ea
    have eb' : b = .tup ys := by
      cases b with
      | ptr z =>
        have e : (L.lookup z).getD (.ptr z) = _ := eb
        cases q : L.lookup z with
        | none => rw [q] at e; cases e
        | some c' => rw [q] at e; have e : c' = .tup ys := e; subst e; exact (j.look q).elim
      | _ => exact eb
    subst ea' eb' ep eq
    refine ⟨p, q, vs, ws, rfl, rfl, hp, hq, by rw [rv.length, rw'.length]; exact h.1, fun e0 => ?_, fun _ e0 => ?_, fun _ _ l hl => ?_⟩
    · subst e0
      cases rv
      exact hk _ _ H h.2 (Same.refl H) rb
    · subst e0
      cases rw'
      have h2 := h.2
      rw [List.append_nil] at h2
      exact hk _ _ H h2 (Same.refl H) ra
    · have s := same_new hl (.tup (vs ++ ws))
      exact hk _ _ _ h.2 s (.tup (.inl ⟨j.notIn hl, .inl upd_same⟩) ((rv.append rw').go (Go.same s)))
  · exact h.elim⟩
theorem oq_addS : OQ X (binaryOp .Add) (fun a b L k => match a, b with
    | .str x, .str y => x.length + y.length ≤ sizeLine ∧ k (.str (x ++ y))
    | _, _ => False) := ⟨_, op_add_str, fun H L va vb a b k Q j ra rb h hk => by
  dsimp only at h
  split at h
  · cases ra
    cases rb
    exact ⟨_, _, rfl, rfl, h.1, hk _ _ H h.2 (Same.refl H) (.str _)⟩
  · exact h.elim⟩
theorem sim_addOr {K : PySem.W.Frag} {r : R2} {g g' : G2} (h : Sim2 K r g) (hg : ∀ H L va vb a b k, JL K L H → Rp L K H va a → Rp L K H vb b → g' a b L k → g a b L k) : Sim2 K r g' := fun H L va vb a b k Q j ra rb q hk => h H L va vb a b k Q j ra rb (hg H L va vb a b k j ra rb q) hk
theorem oq_add : OQ X (binaryOp .Add) gAdd := by
  obtain ⟨r1, o1, s1⟩ := oq_addI (X := X)
  obtain ⟨r2, o2, s2⟩ := oq_addS (X := X)
  obtain ⟨r3, o3, s3⟩ := oq_addL (X := X)
  obtain ⟨r4, o4, s4⟩ := oq_addT (X := X)
  refine ⟨_, opr_or o1 (opr_or o2 (opr_or o3 o4)), fun H L va vb a b k Q j ra rb h hk => ?_⟩
  unfold gAdd at h
  split at h
  · rename_i i i' ea eb
    have e1 := con_flat j ra ea trivial
    have e2 := con_flat j rb eb trivial
    subst e1 e2
    exact .inl (s1 H L va vb _ _ k Q j ra rb h hk)
  · rename_i i i' ea eb
    have e1 := con_flat j ra ea trivial
    have e2 := con_flat j rb eb trivial
    subst e1 e2
    exact .inr (.inl (s2 H L va vb _ _ k Q j ra rb h hk))
  · rename_i xs ys ea eb
    exact .inr (.inr (.inl (s3 H L va vb _ _ k Q j ra rb (by dsimp only; rw [ea, eb]; exact h) hk)))
  · rename_i xs ys ea eb
    exact .inr (.inr (.inr (s4 H L va vb _ _ k Q j ra rb (by dsimp only; rw [ea, eb]; exact h) hk)))
  · exact h.elim
/-- a list times a number -/
def gRep : G2 := fun a b L k => match con L a, b with
  | .lst xs, .int n => -(2 ^ 63) ≤ n ∧ n < 2 ^ 63 ∧ xs.length * n.toNat ≤ sizeLine ∧ k (.lst (List.replicate n.toNat xs).flatten)
  | _, _ => False
theorem rep_all {L : Led} {K : PySem.W.Frag} {H : Hp} {vs : List V} {ds : List D} (r : RpAll L K H vs ds) : ∀ n : Nat, RpAll L K H (List.replicate n vs).flatten (List.replicate n ds).flatten
  | 0 => .nil
  | n + 1 => by
    rw [List.replicate_succ, List.replicate_succ, List.flatten_cons, List.flatten_cons]
    exact r.append (rep_all r n)
theorem oq_rep : OQ X (binaryOp .Mult) gRep := ⟨_, op_rep, fun H L va vb a b k Q j ra rb h hk => by
  unfold gRep at h
  split at h
  · rename_i xs n ea
    obtain ⟨p, vs, rfl, hp, rv⟩ := con_lst j ra ea
    cases rb
    obtain ⟨h1, h2, h3, h4⟩ := h
    refine ⟨p, n, vs, rfl, rfl, hp, h1, h2, by rw [rv.length]; exact h3, fun l hl => ?_⟩
    have s := same_new hl (.lst (List.replicate n.toNat vs).flatten)
    exact hk _ _ _ h4 s (.lst (j.notIn hl) upd_same ((rep_all rv _).go (Go.same s)))
  · exact h.elim⟩
/-! ### slices -/
abbrev DO := DEnv → Led → (Option Int → Led → Prop) → DX → Prop
structure QO (X : Cx) (Wx : WX) (e : Option Expr) (do' : DO) : Prop where
  ex : ∃ to, PO X e to ∧ ∀ σ H env L k x Q, StL X.K σ H env L → do' env L k x → (∀ i L' H', k i L' → Go L L' H H' → JL X.K L' H' → Q i H') → XOk X.K Wx L H x → to σ H Q
def dNo : DO := fun _ L k _ => k none L
def dPart (da : DE) : DO := fun env L k x => da env L (fun d L1 => match d with
  | .int i => k (some i) L1
  | _ => False) x
theorem o_none : QO X Wx none dNo := ⟨_, po_none, fun σ H env L k x Q st h hk hx => hk none L H h (Go.refl L H) st.2⟩
theorem o_some (h : QE X Wx e da) : QO X Wx (some e) (dPart da) := by
  obtain ⟨ta, pa, sa⟩ := h.ex
  refine ⟨_, po_some pa, fun σ H env L k x Q st h hk hx => ?_⟩
  refine sa σ H env L _ x _ st h (fun d L1 v H1 h1 g1 j1 r1 => ?_) hx
  cases r1 <;> first | exact h1.elim | skip
  exact ⟨_, rfl, hk _ L1 H1 h1 g1 j1⟩
def cutD (xs : List D) (lo hi : Option Int) : List D := (xs.drop (HT.sIx xs.length 0 lo)).take (HT.sIx xs.length xs.length hi - HT.sIx xs.length 0 lo)
def gSl (a : D) (lo hi : Option Int) (L : Led) (k : D → Prop) : Prop := match con L a with
  | .lst xs => k (.lst (cutD xs lo hi))
  | .ro xs => k (.lst (cutD xs lo hi))
  | .tup xs => k (.tup (cutD xs lo hi))
  | .str z => z.length ≤ sizeLine ∧ k (.str (cutS z lo hi))
  | _ => False
def dSl (da : DE) (dl dh : DO) : DE := fun env L k x => da env L (fun a L1 => dl env L1 (fun lo L2 => dh env L2 (fun hi L3 => gSl a lo hi L3 fun d => k d L3) x) x) x
theorem cut_all {L : Led} {K : PySem.W.Frag} {H : Hp} {vs : List V} {ds : List D} (r : RpAll L K H vs ds) (lo hi : Option Int) : RpAll L K H (cutV vs lo hi) (cutD ds lo hi) := by
  unfold cutV cutD
  rw [r.length]
  exact (r.drop _).take _
theorem q_slice {lo hi : Option Expr} {p2 : Pos} {dl dh : DO} (he : QE X Wx e da) (hl : QO X Wx lo dl) (hh : QO X Wx hi dh) : QE X Wx (.Subscript e (.Slice lo hi none p2) pos) (dSl da dl dh) := by
  obtain ⟨ta, pa, sa⟩ := he.ex
  obtain ⟨tl, pl, sl⟩ := hl.ex
  obtain ⟨th, ph, sh⟩ := hh.ex
  refine ⟨_, pe_slice (SlR.or sl_list (SlR.or sl_tupA sl_str)) pa pl ph, fun σ H env L k x Q st h hk hx => ?_⟩
  refine sa σ H env L _ x _ st h (fun a L1 va H1 h1 g1 j1 r1 => ?_) hx
  refine sl σ H1 env L1 _ x _ (st.go g1 j1) h1 (fun lo L2 H2 h2 g2 j2 => ?_) (hx.go g1)
  refine sh σ H2 env L2 _ x _ ((st.go g1 j1).go g2 j2) h2 (fun hi L3 H3 h3 g3 j3 => ?_) ((hx.go g1).go g2)
  have gg := (g1.trans g2).trans g3
  have r1 := (r1.go g2).go g3
  unfold gSl at h3
  split at h3
  · rename_i xs ea
    obtain ⟨p, vs, rfl, hp, rv⟩ := con_lst j3 r1 ea
    refine .inl ⟨p, vs, rfl, SqL.of hp, fun l hl => ?_⟩
    have s := same_new hl (.lst (cutV vs lo hi))
    exact hk _ _ _ _ h3 (gg.trans (Go.same s)) (j3.same s) (.lst (j3.notIn hl) upd_same ((cut_all rv lo hi).go (Go.same s)))
  · rename_i xs ea
    obtain ⟨p, vs, rfl, hp, rv⟩ := con_ro j3 r1 ea
    refine .inl ⟨p, vs, rfl, hp, fun l hl => ?_⟩
    have s := same_new hl (.lst (cutV vs lo hi))
    exact hk _ _ _ _ h3 (gg.trans (Go.same s)) (j3.same s) (.lst (j3.notIn hl) upd_same ((cut_all rv lo hi).go (Go.same s)))
  · rename_i xs ea
    have ea' : a = .tup xs := by
      cases a with
      | ptr z =>
        have e : (L3.lookup z).getD (.ptr z) = _ := ea
        cases q : L3.lookup z with
        | none => rw [q] at e; cases e
        | some c' => rw [q] at e; have e : c' = .tup xs := e; subst e; exact (j3.look q).elim
      | _ => exact ea
    obtain ⟨p, vs, ep, hp, rv⟩ := con_tup j3 r1 ea
    subst ea' ep
    refine .inr (.inl ⟨p, vs, rfl, hp, fun hw => ?_, fun _ l hl => ?_⟩)
    · have e : cutD xs lo hi = xs := by
        unfold cutD
        rw [← rv.length, hw.1, hw.2, List.drop_zero, Nat.sub_zero, rv.length]
        exact List.take_length
      rw [e] at h3
      exact hk _ _ _ H3 h3 gg j3 r1
    · have s := same_new hl (.tup (cutV vs lo hi))
      exact hk _ _ _ _ h3 (gg.trans (Go.same s)) (j3.same s) (.tup (.inl ⟨j3.notIn hl, .inl upd_same⟩) ((cut_all rv lo hi).go (Go.same s)))
  · rename_i z ea
    have e1 := con_flat j3 r1 ea trivial
    subst e1
    cases r1
    exact .inr (.inr ⟨_, rfl, h3.1, hk _ _ _ H3 h3.2 gg j3 (.str _)⟩)
  · exact h3.elim
end
end DL

namespace DL
open PySem L2 RZ
section
variable {X : Cx} {Wx : WX} {a b c e o : Expr} {es rest : List Expr} {da db dc de do' : DE} {dt du : DT} {dl dk : DA} {pos : Pos}
/-! ### comprehensions -/
def wipeD (env : DEnv) : List Nat → DEnv
  | [] => env
  | v :: vs => (wipeD env vs).set v none
theorem Sto.wipes {L : Led} {K : PySem.W.Frag} {H : Hp} {σ : St} {env : DEnv} (h : Sto L K H σ env) : ∀ vs : List Nat, Sto L K H (wipe σ vs) (wipeD env vs)
  | [] => h
  | v :: vs => (Sto.wipes h vs).wipe1 v
structure QTs (X : Cx) (Wx : WX) (ifs : List Expr) (dt : DT) : Prop where
  pt : PTs X ifs (ttOf X.K Wx dt)
def dYes : DT := fun _ L k _ => k true L
theorem ts_nil : QTs X Wx [] dYes := ⟨⟨fun pins s σ H Q I hw => by
  obtain ⟨env, L, k, x, st, h, hk, hx⟩ := hw
  exact pts_nil.run pins s σ H Q I (hk true L H h (Go.refl L H) st.2)⟩⟩
theorem ts_one (h : QT X Wx c dt) : QTs X Wx [c] dt := ⟨pts_one h.pt⟩
abbrev Wx0 : WX := fun _ _ _ _ => False
@[irreducible] def lcD (dg : DG) (dt : DT) (de : DE) (env0 : DEnv) (p : Addr) (k : DK) : List D → List D → Led → Prop
  | [], acc, L => k (.lst acc) (remL L p)
  | d :: ds, acc, L => dg d env0 L fun env1 => dt env1 L (fun b L2 => match b with
    | true => de env1 L2 (fun y L3 => L3.lookup p = some (.lst acc) ∧ acc.length < sizeLine ∧ lcD dg dt de env0 p k ds (acc ++ [y]) (setL L3 p (.lst (acc ++ [y])))) (fun _ _ _ => False)
    | false => L2.lookup p = some (.lst acc) ∧ lcD dg dt de env0 p k ds acc L2) (fun _ _ _ => False)
theorem lcD_nil {dg : DG} {dt : DT} {de : DE} {env0 : DEnv} {p : Addr} {k : DK} {acc : List D} {L : Led} : lcD dg dt de env0 p k [] acc L = k (.lst acc) (remL L p) := by with_unfolding_all rfl
theorem lcD_cons {dg : DG} {dt : DT} {de : DE} {env0 : DEnv} {p : Addr} {k : DK} {d : D} {ds acc : List D} {L : Led} : lcD dg dt de env0 p k (d :: ds) acc L = dg d env0 L fun env1 => dt env1 L (fun b L2 => match b with
    | true => de env1 L2 (fun y L3 => L3.lookup p = some (.lst acc) ∧ acc.length < sizeLine ∧ lcD dg dt de env0 p k ds (acc ++ [y]) (setL L3 p (.lst (acc ++ [y])))) (fun _ _ _ => False)
    | false => L2.lookup p = some (.lst acc) ∧ lcD dg dt de env0 p k ds acc L2) (fun _ _ _ => False) := by with_unfolding_all rfl
def dLc (di : DI) (dg : DG) (dt : DT) (de : DE) (vs : List Nat) : DE := fun env L k x => di env L (fun ds L1 => ∀ p, ¬ inL L1 p → lcD dg dt de (wipeD env vs) p k ds [] ((p, .lst []) :: L1)) x
theorem sim_lc {K : PySem.W.Frag} {wi : TI} {di : DI} {dg : DG} {sl vs : List Nat} (hsl : ∀ i ∈ sl, i ∈ vs)
    (si : ∀ σ H env L k x R, StL K σ H env L → di env L k x → (∀ ds L' J H', k ds L' → Go L L' H H' → JL K L' H' → ItD K L' H' J ds → R J H') → XOk K Wx L H x → wi σ H R) :
    SimE K Wx (tLc wi (tgOf K sl dg) (ttOf K Wx0 dt) (teOf K Wx0 de) vs) (dLc di dg dt de vs) := by
  intro σ H env L k x Q st h hk hx
  refine si σ H env L _ x _ st h (fun ds L1 J H1 h1 g1 j1 it => ?_) hx
  intro p hp
  have s0 := same_new hp (.lst [])
  obtain ⟨j2, g2⟩ := j1.push (d := .lst []) hp (o := .lst []) ⟨[], upd_same, .nil⟩
  refine ⟨fun i m H2 => m = ds.length - i ∧ i ≤ ds.length ∧ ∃ acc L2, StL K (wipe σ vs) H2 (wipeD env vs) L2 ∧ Go L1 L2 H1 H2 ∧ L2.lookup p = some (.lst acc) ∧ lcD dg dt de (wipeD env vs) p k (ds.drop i) acc L2, ⟨ds.length, by omega, by omega, [], _, ⟨((st.go g1 j1).go g2 j2).1.wipes vs, j2⟩, g2, lookup_top, h1 p (j1.notIn hp)⟩, ?_⟩
  rintro i m H2 ⟨rfl, hi, acc, L2, st2, g3, hl, h2⟩
  obtain ⟨i1, i2⟩ := it L2 H2 g3 st2.2 i
  by_cases hlt : i < ds.length
  · have e : ds[i]? = some ds[i] := List.getElem?_eq_getElem hlt
    obtain ⟨go, yl⟩ := i1 _ e
    rw [List.drop_eq_getElem_cons hlt, lcD_cons] at h2
    refine .inr ⟨go, fun H' => ∃ acc L2, StL K (wipe σ vs) H' (wipeD env vs) L2 ∧ Go L1 L2 H1 H' ∧ L2.lookup p = some (.lst acc) ∧ lcD dg dt de (wipeD env vs) p k (ds.drop (i + 1)) acc L2, fun H' n => ⟨ds.length - (i + 1), by omega, rfl, hlt, n⟩, fun x H' y => ?_⟩
    obtain ⟨s, rx⟩ := yl x H' y
    have g4 : Go L2 L2 H2 H' := Go.same s
    have st3 := st2.go g4 (st2.2.same s)
    refine ⟨_, _, L2, _, st3, rx, h2, fun σ3 env3 h3 st4 on => ⟨?_, ?_⟩⟩
    · have := on vs hsl
      rw [this]
      clear this
      have w2 : ∀ (ws us : List Nat), (∀ i ∈ us, i ∈ ws) → ∀ σ : St, wipe (wipe σ us) ws = wipe σ ws := by
        intro ws us
        induction us with
        | nil => intro _ σ; rfl
        | cons u us ih =>
          intro hu σ
          show wipe ((wipe σ us).set u none) ws = _
          rw [wipe_set (hu u List.mem_cons_self), ih (fun i hi => hu i (List.mem_cons_of_mem _ hi))]
      exact w2 vs vs (fun _ h => h) σ
    · refine ⟨env3, L2, _, _, st4, h3, fun b L5 H5 h5 g5 j5 => ?_, fun _ _ _ _ _ _ q => q.elim⟩
      have gA : Go L1 L5 H1 H5 := (g3.trans g4).trans g5
      cases b with
      | false => exact iteF ⟨acc, L5, ⟨(st3.1.go g5), j5⟩, gA, h5.1, h5.2⟩
      | true =>
        refine iteT ⟨env3, L5, _, _, st4.go g5 j5, h5, fun y L6 vy H6 h6 g6 j6 r6 => ?_, fun _ _ _ _ _ _ q => q.elim⟩
        obtain ⟨q1, q2, q3⟩ := h6
        obtain ⟨ws, e1, rv⟩ := j6.look q1
        have hp6 := inL_of_lookup q1
        refine ⟨ws, e1, by rw [rv.length]; exact q2, acc ++ [y], _, ?_, ?_, ?_, q3⟩
        · have g7 : Go L6 (setL L6 p (.lst (acc ++ [y]))) H6 (upd H6 p (.lst (ws ++ [vy]))) := go_set hp6
          have j7 : JL K (setL L6 p (.lst (acc ++ [y]))) (upd H6 p (.lst (ws ++ [vy]))) := j6.put hp6 ⟨_, upd_same, (rv.append (.cons r6 .nil)).go g7⟩
          exact ⟨((st3.1.go g5).go g6).go g7, j7⟩
        · exact (gA.trans g6).trans (go_set hp6)
        · have hm := mem_of_lookup q1
          clear q3 h5 h3 h2
          have key : ∀ (M : Led), inL M p → List.lookup p (setL M p (.lst (acc ++ [y]))) = some (.lst (acc ++ [y])) := by
            intro M
            induction M with
            | nil => intro h; simp [inL] at h
            | cons q M ih =>
              intro h
              by_cases hq : q.1 = p
              · obtain ⟨z1, z2⟩ := q
                have hq : z1 = p := hq
                show List.lookup p ((if z1 = p then (p, D.lst (acc ++ [y])) else (z1, z2)) :: setL M p _) = _
                rw [if_pos hq]
                exact lookup_top
              · obtain ⟨z1, z2⟩ := q
                have hq : z1 ≠ p := hq
                rw [setL_ne hq, lookup_ne (Ne.symm hq)]
                exact ih ((inL_cons.mp h).resolve_left (Ne.symm hq))
          exact key L6 hp6
  · have e : i = ds.length := by omega
    subst e
    rw [List.drop_length, lcD_nil] at h2
    obtain ⟨ws, e1, rv⟩ := st2.2.look hl
    refine .inl ⟨i2 (Nat.le_refl _), hk _ _ _ H2 h2 ((g1.trans g3).trans go_rem) st2.2.rem (.lst (fun m => (inL_remL.mp m).2 rfl) e1 (rv.go go_rem))⟩
theorem q_lc {elt tg iter : Expr} {ifs : List Expr} {scope : Scope} {own : List (Str × Nat)} {di : DI} {dg : DG} {sl : List Nat} (hc : X.calm = true) (hN : X.N.Nodup) (hi : QI X Wx tg iter di) (ok : BlkOk X.N X.env.scope scope own)
    (hg : ∀ (s : Shared) (H : Hp) (C : Addr) (cl : List (Str × Addr)) (fp : List Addr), QG (X.blk s H scope (compEnvC scope cl C X.env) fp) tg sl dg) (ht : ∀ (s : Shared) (H : Hp) (C : Addr) (cl : List (Str × Addr)) (fp : List Addr), QTs (X.blk s H scope (compEnvC scope cl C X.env) fp) Wx0 ifs dt)
    (he : ∀ (s : Shared) (H : Hp) (C : Addr) (cl : List (Str × Addr)) (fp : List Addr), QE (X.blk s H scope (compEnvC scope cl C X.env) fp) Wx0 elt de) (hsl : ∀ i ∈ sl, i ∈ own.map (·.2) := by decide) (hs : ∀ x, foldedSetIterable iter X.env x = pure x := by intro _; rfl) :
    QE X Wx (.ListComp elt [⟨tg, iter, ifs, 0⟩] scope pos) (dLc di dg dt de (own.map (·.2))) := by
  obtain ⟨wi, pi, si⟩ := hi.ex
  exact ⟨_, pe_lc hc hN pi ok (fun s H C cl fp => (hg s H C cl fp).pg) (fun s H C cl fp => (ht s H C cl fp).pt) (fun s H C cl fp => (he s H C cl fp).pe) hs, sim_lc hsl si⟩
theorem s_setLc (i : Nat) {y : Str} {py spos : Pos} {elt tg iter : Expr} {ifs : List Expr} {scope : Scope} {own : List (Str × Nat)} {di : DI} {dg : DG} {sl : List Nat} (hc : X.calm = true) (hN : X.N.Nodup) (hi : QI X Wx tg iter di) (ok : BlkOk X.N X.env.scope scope own)
    (hg : ∀ (s : Shared) (H : Hp) (C : Addr) (cl : List (Str × Addr)) (fp : List Addr), QG (X.blk s H scope (compEnvC scope cl C X.env) fp) tg sl dg) (ht : ∀ (s : Shared) (H : Hp) (C : Addr) (cl : List (Str × Addr)) (fp : List Addr), QTs (X.blk s H scope (compEnvC scope cl C X.env) fp) Wx0 ifs dt)
    (he : ∀ (s : Shared) (H : Hp) (C : Addr) (cl : List (Str × Addr)) (fp : List Addr), QE (X.blk s H scope (compEnvC scope cl C X.env) fp) Wx0 elt de)
    (hsw : swapsWith (.ListComp elt [⟨tg, iter, ifs, 0⟩] scope pos) (some (.Name y py)) spos.line X.env = pure true) (hy : X.N[i]? = some y := by rfl) (hyl : X.env.scope.names.lookup y = some .local := by rfl) (hsl : ∀ i ∈ sl, i ∈ own.map (·.2) := by decide) (hs : ∀ x, foldedSetIterable iter X.env x = pure x := by intro _; rfl) :
    QS X Wx (.Assign [.Name y py] (.ListComp elt [⟨tg, iter, ifs, 0⟩] scope pos) spos) (dAsg (dLc di dg dt de (own.map (·.2))) (dgName i)) := by
  obtain ⟨wi, pi, si⟩ := hi.ex
  exact ⟨_, ps_setLc hc hN hy hyl hsw pi ok (fun s H C cl fp => (hg s H C cl fp).pg) (fun s H C cl fp => (ht s H C cl fp).pt) (fun s H C cl fp => (he s H C cl fp).pe) hs, sim_asg (sl := [i]) (sim_lc hsl si) fun v d σ H env L k Q st r h hk => hk _ _ h ⟨st.1.set r i, st.2⟩ only_set⟩
/-! ### zip -/
def zipD : List D → List D → List D
  | a :: as, b :: bs => .tup [a, b] :: zipD as bs
  | _, _ => []
theorem zipD_get : ∀ (as bs : List D) (i : Nat) (d : D), (zipD as bs)[i]? = some d → ∃ x y, as[i]? = some x ∧ bs[i]? = some y ∧ d = .tup [x, y]
  | [], _, _, _, h => by simp [zipD] at h
  | _ :: _, [], _, _, h => by simp [zipD] at h
  | a :: as, b :: bs, 0, d, h => by
    simp [zipD] at h
    exact ⟨a, b, rfl, rfl, h.symm⟩
  | a :: as, b :: bs, i + 1, d, h => by
    obtain ⟨x, y, h1, h2, h3⟩ := zipD_get as bs i d (by simpa [zipD] using h)
    exact ⟨x, y, by simpa using h1, by simpa using h2, h3⟩
theorem zipD_len : ∀ (as bs : List D), (zipD as bs).length = min as.length bs.length
  | [], _ => by simp [zipD]
  | _ :: _, [] => by simp [zipD]
  | a :: as, b :: bs => by simp [zipD, zipD_len as bs]
def diZip (dl : DA) : DI := fun env L k x => dl env L (fun ds L1 => match ds with
  | [.lst as, .lst bs] => k (zipD as bs) L1
  | [.tup as, .tup bs] => k (zipD as bs) L1
  | _ => False) x
theorem it_zip {K : PySem.W.Frag} {L : Led} {H : Hp} {a b : Addr} {vs ws : List V} {as bs : List D} (h : SqL' L K H a vs) (r : RpAll L K H vs as) (h' : SqL' L K H b ws) (r' : RpAll L K H ws bs) : ItD K L H (Itz K a b) (zipD as bs) := fun L' H' g j i => by
  have e1 := (g.sqL h).sq
  have e2 := (g.sqL h').sq
  refine ⟨fun d hd => ?_, fun hi => ⟨vs, ws, e1, e2, by rw [zipD_len] at hi; rw [r.length, r'.length]; omega⟩⟩
  obtain ⟨x, y, q1, q2, rfl⟩ := zipD_get as bs i d hd
  obtain ⟨vx, hx, rx⟩ := (r.go g).get q1
  obtain ⟨vy, hy, ry⟩ := (r'.go g).get q2
  refine ⟨⟨vs, ws, vx, vy, e1, e2, hx, hy⟩, fun z H'' yl => ?_⟩
  obtain ⟨T, x', y', rfl, nT, rfl, f1, f2⟩ := yl
  have k1 := f1 vs e1
  rw [hx] at k1
  cases k1
  have k2 := f2 ws e2
  rw [hy] at k2
  cases k2
  have s := same_new nT (.tup [vx, vy])
  exact ⟨s, .tup (.inl ⟨j.notIn nT, .inl upd_same⟩) (.cons (rx.go (Go.same s)) (.cons (ry.go (Go.same s)) .nil))⟩
theorem it_zipT {K : PySem.W.Frag} {L : Led} {H : Hp} {a b : Addr} {vs ws : List V} {as bs : List D} (h : SqT' L K H a vs) (r : RpAll L K H vs as) (h' : SqT' L K H b ws) (r' : RpAll L K H ws bs) : ItD K L H (ItzT K a b) (zipD as bs) := fun L' H' g j i => by
  have e1 := (g.sqT h).sq
  have e2 := (g.sqT h').sq
  refine ⟨fun d hd => ?_, fun hi => ⟨vs, ws, e1, e2, by rw [zipD_len] at hi; rw [r.length, r'.length]; omega⟩⟩
  obtain ⟨x, y, q1, q2, rfl⟩ := zipD_get as bs i d hd
  obtain ⟨vx, hx, rx⟩ := (r.go g).get q1
  obtain ⟨vy, hy, ry⟩ := (r'.go g).get q2
  refine ⟨⟨vs, ws, vx, vy, e1, e2, hx, hy⟩, fun z H'' yl => ?_⟩
  obtain ⟨T, x', y', rfl, nT, rfl, f1, f2⟩ := yl
  have k1 := f1 vs e1
  rw [hx] at k1
  cases k1
  have k2 := f2 ws e2
  rw [hy] at k2
  cases k2
  have s := same_new nT (.tup [vx, vy])
  exact ⟨s, .tup (.inl ⟨j.notIn nT, .inl upd_same⟩) (.cons (rx.go (Go.same s)) (.cons (ry.go (Go.same s)) .nil))⟩
theorem i_zip {e2 : Expr} {p tpos : Pos} {elts : List Expr} {kk : Nat} (hg : Gl X "zip") (hm : X.mg "zip" = none) (ha : QA X Wx [e, e2] dl)
    (hs : starEach [e, e2] X.env = (false, eval e X.env) :: starEach [e2] X.env := by rfl) (hpl : (backTo pos (starEach [e2] X.env)).any (·.1) = false := by rfl) : QI X Wx (.Tuple elts kk tpos) (.Call (.Name "zip" p) [e, e2] [] pos) (diZip dl) := by
  obtain ⟨ta, pa, sa⟩ := ha.ex
  refine ⟨_, pi_zipA hg hm pa hs hpl, fun σ H env L k x R st h hk hx => ?_⟩
  refine sa σ H env L _ x _ st h (fun ds L1 vs H1 h1 g1 j1 r1 => ?_) hx
  split at h1
  · cases r1 with
    | cons r1 r2 => cases r2 with
      | cons r2 r3 =>
      cases r3
      cases r1 with
      | lst n1 s1 q1 => cases r2 with
        | lst n2 s2 q2 => exact ⟨_, _, _, _, rfl, .inl ⟨SqL.of s1, SqL.of s2, hk _ L1 _ H1 h1 g1 j1 (it_zip (.inl ⟨n1, .inl s1⟩) q1 (.inl ⟨n2, .inl s2⟩) q2)⟩⟩
  · cases r1 with
    | cons r1 r2 => cases r2 with
      | cons r2 r3 =>
      cases r3
      cases r1 with
      | tup s1 q1 => cases r2 with
        | tup s2 q2 => exact ⟨_, _, _, _, rfl, .inr ⟨s1.sq, s2.sq, hk _ L1 _ H1 h1 g1 j1 (it_zipT s1 q1 s2 q2)⟩⟩
  · exact h1.elim
end
end DL

namespace DL
open PySem L2
section
variable {X : Cx} {Wx : WX} {a b c e o : Expr} {es rest : List Expr} {da db dc de do' : DE} {dt du : DT} {dl dk : DA} {pos : Pos}
/-! ### keywords -/
structure QK (X : Cx) (Wx : WX) (kws : List Keyword) (da : DA) : Prop where
  ex : ∃ ta, PK X kws ta ∧ SimA X.K Wx ta da
theorem k_nil : QK X Wx [] dNil := ⟨_, pk_nil, fun σ H env L k x Q st h hk hx => hk [] L [] H h (Go.refl L H) st.2 .nil⟩
theorem k_cons {nm : Option Str} {kpos : Pos} {kws : List Keyword} (ha : QE X Wx e de) (hr : QK X Wx kws dl) : QK X Wx (⟨nm, e, kpos⟩ :: kws) (dCons de dl) := by
  obtain ⟨te, pe, se⟩ := ha.ex
  obtain ⟨ta, pa, sa⟩ := hr.ex
  refine ⟨_, pk_cons pe pa, fun σ H env L k x Q st h hk hx => ?_⟩
  refine se σ H env L _ x _ st h (fun d L1 v H1 h1 g1 j1 r1 => ?_) hx
  refine sa σ H1 env L1 _ x _ (st.go g1 j1) h1 (fun ds L2 vs H2 h2 g2 j2 r2 => ?_) (hx.go g1)
  exact hk _ L2 _ H2 h2 (g1.trans g2) j2 (.cons (r1.go g2) r2)
/-- how positional values and keywords' values come to the parameters: a choice of places, the same for values and data; ds: defaults -/
abbrev Perm3 := {α : Type} → List α → List α → List α → List α
structure PermOk (g : Perm3) : Prop where
  map : ∀ {α β : Type} {R : α → β → Prop} {vs zs ws : List α} {us ys xs : List β}, Paired R vs us → Paired R zs ys → Paired R ws xs → Paired R (g vs zs ws) (g us ys xs)
structure KwB (K : PySem.W.Frag) (fd : FuncData) (ps : List Str) (n : Nat) (ks : List Str) (dus : List Value) (g : Perm3) : Prop where
  to : ∀ (s : Shared) (us ws : List Value), K.In s.heap → us.length = n → ws.length = ks.length → BindsTo s fd ⟨us, ks.zip ws⟩ (ps.zip (g us ws dus))
theorem rp_paired {L : Led} {K : PySem.W.Frag} {H : Hp} : ∀ {vs : List V} {ds : List D}, RpAll L K H vs ds → Paired (Rp L K H) vs ds
  | _, _, .nil => .nil
  | _, _, .cons h r => .cons h (rp_paired r)
theorem paired_rp {L : Led} {K : PySem.W.Frag} {H : Hp} : ∀ {vs : List V} {ds : List D}, Paired (Rp L K H) vs ds → RpAll L K H vs ds
  | _, _, .nil => .nil
  | _, _, .cons h r => .cons h (paired_rp r)
def tCallW (n m : Nat) (sp : Sp) (gV : List V → List V → List V) (E : St → XK) (t tk : TA) : TE := fun σ H Q => t σ H fun vs H1 => tk σ H1 fun zs H2 => vs.length = n ∧ zs.length = m ∧ sp (gV vs zs) H2 Q (E σ)
theorem run_fnW {CX : CXT} {k n : Nat} {f : Addr} {fd : FuncData} {ps ks : List Str} {sp : Sp} {E : XK} {dus : List Value} {dvs : List V} {g : Perm3} {pins : List (Addr × Obj)} {σ : St} {H : Hp} {s : Shared} {Q : VK} {us ws : List Value} {vs zs : List V} (F : FnOk X.prog X.w X.K X.mg X.base CX k f fd ps sp) (hr : Room k X.A) (hb : KwB X.K fd ps n ks dus g) (hp : PermOk @g) (hd : Vals dvs dus) (hx : PassesAt CX X σ E)
    (I : Inv X pins σ H s) (r : Vals vs us) (rz : Vals zs ws) (l1 : vs.length = n) (l2 : zs.length = ks.length) (h : sp (g vs zs dvs) H Q E) : wpAny (model X.prog X.w) X.A (call (.ref f) us (ks.zip ws)) (EP X pins σ Q) X.xe s := by
  have r2 : Vals (g vs zs dvs) (g us ws dus) := hp.map r rz hd
  refine wpAny_call (codeAny_mono (F.run X.A X.stack s H ⟨us, ks.zip ws⟩ (g us ws dus) (g vs zs dvs) Q E hr I.env0 (hb.to s us ws I.kIn (r.length.symm.trans l1) (rz.length.symm.trans l2)) r2 h) fun r s' hq => ?_)
  cases r with
  | error e => exact hx pins H s e s' I hq
  | ok fl =>
    cases fl with
    | ret u => exact I.after hq
    | next => exact False.elim hq
    | brk => exact False.elim hq
    | cont => exact False.elim hq
theorem pe_callW0 {CX : CXT} {k : Nat} {f : Addr} {fd : FuncData} {ps ks : List Str} {sp : Sp} {E : St → XK} {dus : List Value} {dvs : List V} {g : Perm3} {x : Str} {p : Pos} {kws : List Keyword} {tk : TA} (F : FnOk X.prog X.w X.K X.mg X.base CX k f fd ps sp) (hr : Room k X.A) (hg : Gl X x) (hm : X.mg x = some (.ref f)) (hk : PySem.W.keepIn X.K (.ref f) = true)
    (hb : KwB X.K fd ps 0 ks dus g) (hp : PermOk @g) (hd : Vals dvs dus) (hx : ∀ σ, PassesAt CX X σ (E σ)) (hkw : PK X kws tk) (hall : (backToKw pos (keywordEach kws X.env)).all (·.1.isSome) = true := by rfl) (hks : (backToKw pos (keywordEach kws X.env)).filterMap (·.1) = ks := by rfl)
    (hdb : (x == ("__debug__" : Str)) = false := by decide) (hpl : ((backTo pos (starEach [] X.env)).any (·.1) || (backToKw pos (keywordEach kws X.env)).any (·.1.isNone)) = false := by rfl) :
    PE X (.Call (.Name x p) [] kws pos) (tCallW 0 ks.length sp (fun vs zs => g vs zs dvs) E tNil tk) := by
  refine ⟨fun pins s σ H Q I h => ?_⟩
  refine wpAny_Call_Name_kw (ld_glob I hg hm ?_ hdb)
  refine PySem.W.callWith_KW0 (h₀ := X.base) I.ok.mod.kin hk hall (thn (hkw.run pos pins s σ H _ I h) fun ws s2 ⟨zs, H2, I2, rz, l1, l2, q2⟩ => ⟨I2.kIn, ?_⟩) hpl
  rw [hks]
  exact run_fnW F hr hb hp hd (hx σ) I2 .nil rz l1 l2 q2
theorem pe_callW {CX : CXT} {k n : Nat} {f : Addr} {fd : FuncData} {ps ks : List Str} {sp : Sp} {E : St → XK} {dus : List Value} {dvs : List V} {g : Perm3} {x : Str} {p : Pos} {kws : List Keyword} {t tk : TA} (F : FnOk X.prog X.w X.K X.mg X.base CX k f fd ps sp) (hr : Room k X.A) (hg : Gl X x) (hm : X.mg x = some (.ref f)) (hk : PySem.W.keepIn X.K (.ref f) = true)
    (hb : KwB X.K fd ps n ks dus g) (hp : PermOk @g) (hd : Vals dvs dus) (hx : ∀ σ, PassesAt CX X σ (E σ)) (ha : PA X (e :: es) t) (hkw : PK X kws tk) (hall : (backToKw pos (keywordEach kws X.env)).all (·.1.isSome) = true := by rfl) (hks : (backToKw pos (keywordEach kws X.env)).filterMap (·.1) = ks := by rfl)
    (hdb : (x == ("__debug__" : Str)) = false := by decide) (he : starEach (e :: es) X.env = (false, eval e X.env) :: starEach es X.env := by rfl)
    (hpl : ((backTo pos (starEach (e :: es) X.env)).any (·.1) || (backToKw pos (keywordEach kws X.env)).any (·.1.isNone)) = false := by rfl) :
    PE X (.Call (.Name x p) (e :: es) kws pos) (tCallW n ks.length sp (fun vs zs => g vs zs dvs) E t tk) := by
  refine ⟨fun pins s σ H Q I h => ?_⟩
  refine wpAny_Call_Name_kw (ld_glob I hg hm ?_ hdb)
  refine PySem.W.callWith_KW (h₀ := X.base) I.ok.mod.kin hk hall (thn (ha.run pos pins s σ H _ I h) fun us s1 ⟨vs, H1, I1, r, q⟩ => ?_) hpl he
  refine thn (hkw.run pos pins s1 σ H1 _ I1 q) fun ws s2 ⟨zs, H2, I2, rz, l1, l2, q2⟩ => ⟨I2.kIn, ?_⟩
  rw [hks]
  exact run_fnW F hr hb hp hd (hx σ) I2 r rz l1 l2 q2
def dCallW (n m : Nat) (f : DSp) (g : Perm3) (dd : List D) (dl dk : DA) : DE := fun env L k x => dl env L (fun ds L1 => dk env L1 (fun es L2 => ds.length = n ∧ es.length = m ∧ f (g ds es dd) L2 k fun n L' => x n env L') x) x
theorem sim_callW {K : PySem.W.Frag} {n m : Nat} {f : DSp} {g : Perm3} {dvs : List V} {dd : List D} {t tk : TA} (hp : PermOk @g) (hdd : ∀ L H, RpAll L K H dvs dd) (sa : SimA K Wx t dl) (sk : SimA K Wx tk dk) : SimE K Wx (tCallW n m (spD K f) (fun vs zs => g vs zs dvs) (WE Wx) t tk) (dCallW n m f g dd dl dk) := by
  intro σ H env L k x Q st h hk hx
  refine sa σ H env L _ x _ st h (fun ds L1 vs H1 h1 g1 j1 r1 => ?_) hx
  refine sk σ H1 env L1 _ x _ (st.go g1 j1) h1 (fun es L2 zs H2 h2 g2 j2 r2 => ?_) (hx.go g1)
  obtain ⟨l1, l2, h2⟩ := h2
  have gg := g1.trans g2
  refine ⟨by rw [r1.length]; exact l1, by rw [r2.length]; exact l2, g ds es dd, L2, k, fun n L' => x n env L', j2, paired_rp (hp.map (rp_paired (r1.go g2)) (rp_paired r2) (rp_paired (hdd L2 H2))), h2, hk.go gg, fun n L' a H' q g' j' r => hx n env L' a H' σ q (gg.trans g') (st.go (gg.trans g') j') r⟩
theorem q_callW0 {k : Nat} {f : Addr} {fd : FuncData} {ps ks : List Str} {fD : DSp} {dus : List Value} {dvs : List V} {dd : List D} {x : Str} {p : Pos} {kws : List Keyword} (g : Perm3) (F : FnOk X.prog X.w X.K X.mg X.base (L2.CX X.prog X.w) k f fd ps (spD X.K fD)) (hr : Room k X.A) (hg : Gl X x) (hm : X.mg x = some (.ref f)) (hk : PySem.W.keepIn X.K (.ref f) = true)
    (hb : KwB X.K fd ps 0 ks dus g) (hp : PermOk @g) (hd : Vals dvs dus) (hdd : ∀ L H, RpAll L X.K H dvs dd) (tk : Takes X Wx) (hkw : QK X Wx kws dk) (hall : (backToKw pos (keywordEach kws X.env)).all (·.1.isSome) = true := by rfl) (hks : (backToKw pos (keywordEach kws X.env)).filterMap (·.1) = ks := by rfl)
    (hdb : (x == ("__debug__" : Str)) = false := by decide) (hpl : ((backTo pos (starEach [] X.env)).any (·.1) || (backToKw pos (keywordEach kws X.env)).any (·.1.isNone)) = false := by rfl) :
    QE X Wx (.Call (.Name x p) [] kws pos) (dCallW 0 ks.length fD g dd dNil dk) := by
  obtain ⟨ta, pa, sa⟩ := hkw.ex
  exact ⟨_, pe_callW0 F hr hg hm hk hb hp hd (fun σ => passAt tk σ) pa hall hks hdb hpl, sim_callW hp hdd (fun σ H env L k x Q st h hk hx => hk [] L [] H h (Go.refl L H) st.2 .nil) sa⟩
theorem q_callW {k n : Nat} {f : Addr} {fd : FuncData} {ps ks : List Str} {fD : DSp} {dus : List Value} {dvs : List V} {dd : List D} {x : Str} {p : Pos} {kws : List Keyword} (g : Perm3) (F : FnOk X.prog X.w X.K X.mg X.base (L2.CX X.prog X.w) k f fd ps (spD X.K fD)) (hr : Room k X.A) (hg : Gl X x) (hm : X.mg x = some (.ref f)) (hk : PySem.W.keepIn X.K (.ref f) = true)
    (hb : KwB X.K fd ps n ks dus g) (hp : PermOk @g) (hd : Vals dvs dus) (hdd : ∀ L H, RpAll L X.K H dvs dd) (tk : Takes X Wx) (ha : QA X Wx (e :: es) dl) (hkw : QK X Wx kws dk) (hall : (backToKw pos (keywordEach kws X.env)).all (·.1.isSome) = true := by rfl) (hks : (backToKw pos (keywordEach kws X.env)).filterMap (·.1) = ks := by rfl)
    (hdb : (x == ("__debug__" : Str)) = false := by decide) (he : starEach (e :: es) X.env = (false, eval e X.env) :: starEach es X.env := by rfl)
    (hpl : ((backTo pos (starEach (e :: es) X.env)).any (·.1) || (backToKw pos (keywordEach kws X.env)).any (·.1.isNone)) = false := by rfl) :
    QE X Wx (.Call (.Name x p) (e :: es) kws pos) (dCallW n ks.length fD g dd dl dk) := by
  obtain ⟨ta, pa, sa⟩ := ha.ex
  obtain ⟨tk', pk, sk⟩ := hkw.ex
  exact ⟨_, pe_callW F hr hg hm hk hb hp hd (fun σ => passAt tk σ) pa pk hall hks hdb he hpl, sim_callW hp hdd sa sk⟩
end
end DL

namespace DL
open PySem L2
section
variable {X : Cx} {Wx : WX} {a b c e o : Expr} {es rest : List Expr} {da db dc de do' : DE} {dt du : DT} {dl dk : DA} {pos : Pos}
/-! ### == of anything -/
def gEqU : G2 := fun a b _ k => match scD a b with
  | true => k (.bl (flEq a b))
  | false => shp a = true ∧ shp b = true ∧ k (.bl (eqD a b))
def gNeU : G2 := fun a b _ k => match scD a b with
  | true => k (.bl (!flEq a b))
  | false => shp a = true ∧ shp b = true ∧ k (.bl (!eqD a b))
theorem oq_eqU (hu : X.A.units + 64 < cLine) : OQ X (compareOp .Eq) gEqU := OQ.or oq_eqF (oq_eq hu) fun a b L k h => by
  unfold gEqU at h
  split at h
  · rename_i hs; exact .inl ⟨hs, h⟩
  · exact .inr h
theorem oq_neU (hu : X.A.units + 64 < cLine) : OQ X (compareOp .NotEq) gNeU := OQ.or oq_neF (oq_ne hu) fun a b L k h => by
  unfold gNeU at h
  split at h
  · rename_i hs; exact .inl ⟨hs, h⟩
  · exact .inr h
/-! ### * -/
def MulOk (i j : Int) : Prop := (i.natAbs < 2 ^ 63 ∨ j.natAbs < 2 ^ 63) ∨ CMulW i j
theorem MulOk.ok {i j : Int} (h : MulOk i j) : IntMulOk i j := by
  have key : ∀ z : Int, z.natAbs < 2 ^ 63 → Builtin.Int.intBits z ≤ 64 := fun z hz => intBits_le_64 (by omega) (by omega)
  rcases h with (h | h) | h
  · exact .of_left (key i h)
  · exact .of_right (key j h)
  · exact h.ok
theorem op_mulU : OpR X (binaryOp .Mult) (rI MulOk fun i j => .int (i * j)) := opI fun _ _ _ _ _ _ _ hc q => PyProof.Rows.mul_int q (MulOk.ok hc)
abbrev gMulU : G2 := gI MulOk fun i j => .int (i * j)
theorem oq_mulU : OQ X (binaryOp .Mult) gMulU := ⟨_, op_mulU, sim2_I fun _ _ _ _ => .int _⟩
/-! ### a def that may be called: by its name -/
structure Cal (P : Program) (w : World) (K : PySem.W.Frag) (mg : Str → Option Value) (base : Heap) (n : Nat) (x : Str) (ps : List Str) (dd : List D) (g : DSp) : Prop where
  ex : ∃ (f : Addr) (fd : FuncData) (us : List Value) (dvs : List V), FnOk P w K mg base (L2.CX P w) n f fd ps (spD K g) ∧ mg x = some (.ref f) ∧ PySem.W.keepIn K (.ref f) = true ∧ Binds K fd ps us ∧ Vals dvs us ∧ ∀ L H, RpAll L K H dvs dd
theorem q_cal {x : Str} {p : Pos} {n k : Nat} {ps : List Str} {g : DSp} {dd : List D} (F : Cal X.prog X.w X.K X.mg X.base n x ps dd g) (hn : n ≤ k) (hr : Room k X.A) (tk : Takes X Wx) (hg : Gl X x) (ha : QA X Wx (e :: es) dl) (hdb : (x == ("__debug__" : Str)) = false := by decide)
    (he : starEach (e :: es) X.env = (false, eval e X.env) :: starEach es X.env := by rfl) (hpl : (backTo pos (starEach es X.env)).any (·.1) = false := by rfl) : QE X Wx (.Call (.Name x p) (e :: es) [] pos) (dCall g dd dl) := by
  obtain ⟨f, fd, us, dvs, F, hm, hk, hb, hd, hdd⟩ := F.ex
  exact q_call F (hr.mono hn) hg hm hk hb hd hdd tk ha hdb he hpl
/-- .. by keywords -/
structure CalW (P : Program) (w : World) (K : PySem.W.Frag) (mg : Str → Option Value) (base : Heap) (n : Nat) (x : Str) (np : Nat) (ks : List Str) (dd : List D) (gp : Perm3) (g : DSp) : Prop where
  ex : ∃ (f : Addr) (fd : FuncData) (ps : List Str) (us : List Value) (dvs : List V), FnOk P w K mg base (L2.CX P w) n f fd ps (spD K g) ∧ mg x = some (.ref f) ∧ PySem.W.keepIn K (.ref f) = true ∧ KwB K fd ps np ks us gp ∧ PermOk @gp ∧ Vals dvs us ∧ ∀ L H, RpAll L K H dvs dd
theorem q_calW0 {x : Str} {p : Pos} {n k : Nat} {ks : List Str} {gp : Perm3} {g : DSp} {dd : List D} {kws : List Keyword} (F : CalW X.prog X.w X.K X.mg X.base n x 0 ks dd gp g) (hn : n ≤ k) (hr : Room k X.A) (tk : Takes X Wx) (hg : Gl X x) (hkw : QK X Wx kws dk) (hall : (backToKw pos (keywordEach kws X.env)).all (·.1.isSome) = true := by rfl) (hks : (backToKw pos (keywordEach kws X.env)).filterMap (·.1) = ks := by rfl)
    (hdb : (x == ("__debug__" : Str)) = false := by decide) (hpl : ((backTo pos (starEach [] X.env)).any (·.1) || (backToKw pos (keywordEach kws X.env)).any (·.1.isNone)) = false := by rfl) : QE X Wx (.Call (.Name x p) [] kws pos) (dCallW 0 ks.length g gp dd dNil dk) := by
  obtain ⟨f, fd, ps, us, dvs, F, hm, hk, hb, hp, hd, hdd⟩ := F.ex
  exact q_callW0 gp F (hr.mono hn) hg hm hk hb hp hd hdd tk hkw hall hks hdb hpl
theorem q_calW {x : Str} {p : Pos} {n k np : Nat} {ks : List Str} {gp : Perm3} {g : DSp} {dd : List D} {kws : List Keyword} (F : CalW X.prog X.w X.K X.mg X.base n x np ks dd gp g) (hn : n ≤ k) (hr : Room k X.A) (tk : Takes X Wx) (hg : Gl X x) (ha : QA X Wx (e :: es) dl) (hkw : QK X Wx kws dk) (hall : (backToKw pos (keywordEach kws X.env)).all (·.1.isSome) = true := by rfl) (hks : (backToKw pos (keywordEach kws X.env)).filterMap (·.1) = ks := by rfl)
    (hdb : (x == ("__debug__" : Str)) = false := by decide) (he : starEach (e :: es) X.env = (false, eval e X.env) :: starEach es X.env := by rfl) (hpl : ((backTo pos (starEach (e :: es) X.env)).any (·.1) || (backToKw pos (keywordEach kws X.env)).any (·.1.isNone)) = false := by rfl) : QE X Wx (.Call (.Name x p) (e :: es) kws pos) (dCallW np ks.length g gp dd dl dk) := by
  obtain ⟨f, fd, ps, us, dvs, F, hm, hk, hb, hp, hd, hdd⟩ := F.ex
  exact q_callW gp F (hr.mono hn) hg hm hk hb hp hd hdd tk ha hkw hall hks hdb he hpl
/-- pure defs: the answer is f of the arguments -/
def pur (C : List D → Prop) (f : List D → D) : DSp := fun ds L k _ => C ds ∧ k (f ds) L
end
theorem bb_len : bootBuiltins "len" = some (.builtin "len") := by decide +kernel
theorem bb_abs : bootBuiltins "abs" = some (.builtin "abs") := by decide +kernel
theorem bb_max : bootBuiltins "max" = some (.builtin "max") := by decide +kernel
theorem bb_min : bootBuiltins "min" = some (.builtin "min") := by decide +kernel
theorem bb_all : bootBuiltins "all" = some (.builtin "all") := by decide +kernel
theorem bb_any : bootBuiltins "any" = some (.builtin "any") := by decide +kernel
theorem bb_isinstance : bootBuiltins "isinstance" = some (.builtin "isinstance") := by decide +kernel
theorem bb_sorted : bootBuiltins "sorted" = some (.builtin "sorted") := by decide +kernel
theorem bb_sum : bootBuiltins "sum" = some (.builtin "sum") := by decide +kernel
theorem bb_int : bootBuiltins "int" = some (.type "int") := by decide +kernel
theorem bb_str : bootBuiltins "str" = some (.type "str") := by decide +kernel
theorem bb_list : bootBuiltins "list" = some (.type "list") := by decide +kernel
theorem bb_tuple : bootBuiltins "tuple" = some (.type "tuple") := by decide +kernel
theorem bb_dict : bootBuiltins "dict" = some (.type "dict") := by decide +kernel
theorem bb_bool : bootBuiltins "bool" = some (.type "bool") := by decide +kernel
theorem bb_range : bootBuiltins "range" = some (.type "range") := by decide +kernel
theorem bb_zip : bootBuiltins "zip" = some (.type "zip") := by decide +kernel
theorem bb_enumerate : bootBuiltins "enumerate" = some (.type "enumerate") := by decide +kernel
theorem bb_reversed : bootBuiltins "reversed" = some (.type "reversed") := by decide +kernel
end DL

namespace DL
open PySem L2

/-! ### helpers of the law: the mathematics -/
def isInt : D → Bool
  | .int _ => true
  | _ => false
def okT (d : D) : Bool := (tyD d).isSome
structure Bag where
  cells : List Int
  at_ : Int
  rest : Int
  mix : Int
  cnt : Int
def bagC (b : Bag) : D := .lst [.lst (b.cells.map .int), .int b.at_, .int b.rest, .int b.mix, .int b.cnt]
structure BagOk (b : Bag) : Prop where
  a0 : 0 ≤ b.at_
  a1 : b.at_ ≤ b.cells.length
  r0 : 0 ≤ b.rest
  m0 : 0 ≤ b.mix
  m1 : b.mix < 2147483497
def bagS : DSp := fun ds L k _ => ∃ ns : List Int, ds = [.ro (ns.map .int)] ∧ ∀ p b, ¬ inL L p → BagOk b → k (.ptr p) ((p, bagC b) :: L)
def pullS : DSp := fun ds L k _ => ∃ (p : Addr) (b : Bag) (m : Int), ds = [.ptr p, .int m] ∧ L.lookup p = some (bagC b) ∧ BagOk b ∧ 0 < m ∧ m.natAbs.log2 < 9000 ∧ ∀ r b', 0 ≤ r → r < m → BagOk b' → k (.int r) (setL L p (bagC b'))
def ofS : DSp := fun ds L k _ => ∃ (p : Addr) (b : Bag) (xs : List D), ds = [.ptr p, .lst xs] ∧ L.lookup p = some (bagC b) ∧ BagOk b ∧ 0 < xs.length ∧ xs.length < 1000 ∧ ∀ d b', d ∈ xs → BagOk b' → k d (setL L p (bagC b'))
theorem con_ptr {L : Led} {p : Addr} {c : D} (h : L.lookup p = some c) : con L (.ptr p) = c := by
  show (L.lookup p).getD (.ptr p) = c
  rw [h]; rfl
theorem setL_setL (L : Led) (p : Addr) (c d : D) : setL (setL L p c) p d = setL L p d := by
  unfold setL
  rw [List.map_map]
  refine List.map_congr_left fun q _ => ?_
  show (if (if q.1 = p then (p, c) else q).1 = p then (p, d) else (if q.1 = p then (p, c) else q)) = _
  by_cases h : q.1 = p
  · simp [h]
  · simp [h]
theorem lookup_setL : ∀ {L : Led} {p : Addr} {c d : D}, L.lookup p = some c → (setL L p d).lookup p = some d
  | [], _, _, _, h => by simp at h
  | (q, e) :: L, p, c, d, h => by
    by_cases hq : q = p
    · subst hq
      show List.lookup q ((if q = q then (q, d) else (q, e)) :: setL L q d) = _
      rw [if_pos rfl]
      exact lookup_top
    · rw [setL_ne hq, lookup_ne (Ne.symm hq)]
      rw [lookup_ne (Ne.symm hq)] at h
      exact lookup_setL h
/-! data that can be compared item by item -/
mutual
def okP : D → Bool
  | .non => true | .bl _ => true | .int _ => true | .str _ => true
  | .lst xs => decide (xs.length < 100000) && okPs xs
  | .tup xs => decide (xs.length < 100000) && okPs xs
  | .ro _ => false | .dk _ _ => false | .dt _ _ => false | .obj _ _ _ => false | .exc _ _ _ => false | .fnv _ _ => false | .clo _ _ => false | .tab _ => false | .ptr _ => false | .ty _ => false
def okPs : List D → Bool
  | [] => true
  | d :: r => okP d && okPs r
end
mutual
def dep : D → Nat
  | .lst xs => deps xs + 1
  | .tup xs => deps xs + 1
  | .non => 0 | .bl _ => 0 | .int _ => 0 | .str _ => 0 | .ro _ => 0 | .dk _ _ => 0 | .dt _ _ => 0 | .obj _ _ _ => 0 | .exc _ _ _ => 0 | .fnv _ _ => 0 | .clo _ _ => 0 | .tab _ => 0 | .ptr _ => 0 | .ty _ => 0
def deps : List D → Nat
  | [] => 0
  | d :: r => max (dep d) (deps r)
end
mutual
def sameD : D → D → Bool
  | .lst xs, .lst ys => sameL xs ys
  | .tup xs, .tup ys => sameL xs ys
  | .non, .non => true
  | .bl a, .bl b => decide (a = b)
  | .int a, .int b => decide (a = b)
  | .str a, .str b => decide (a = b)
  | _, _ => false
def sameL : List D → List D → Bool
  | [], [] => true
  | x :: xs, y :: ys => sameD x y && sameL xs ys
  | _, _ => false
end
mutual
theorem sameD_refl : ∀ d : D, okP d = true → sameD d d = true
  | .non, _ => by unfold sameD; rfl
  | .bl _, _ => by unfold sameD; simp
  | .int _, _ => by unfold sameD; simp
  | .str _, _ => by unfold sameD; simp
  | .lst xs, h => by unfold sameD; exact sameL_refl xs (by unfold okP at h; rw [Bool.and_eq_true] at h; exact h.2)
  | .tup xs, h => by unfold sameD; exact sameL_refl xs (by unfold okP at h; rw [Bool.and_eq_true] at h; exact h.2)
  | .ro _, h => by simp [okP] at h
  | .dk _ _, h => by simp [okP] at h
  | .dt _ _, h => by simp [okP] at h
  | .obj _ _ _, h => by simp [okP] at h
  | .exc _ _ _, h => by simp [okP] at h
  | .fnv _ _, h => by simp [okP] at h
  | .clo _ _, h => by simp [okP] at h
  | .tab _, h => by simp [okP] at h
  | .ptr _, h => by simp [okP] at h
  | .ty _, h => by simp [okP] at h
theorem sameL_refl : ∀ ds : List D, okPs ds = true → sameL ds ds = true
  | [], _ => by unfold sameL; rfl
  | d :: r, h => by
    unfold okPs at h
    rw [Bool.and_eq_true] at h
    unfold sameL
    rw [sameD_refl d h.1, sameL_refl r h.2]; rfl
end
theorem sameL_len : ∀ {xs ys : List D}, xs.length ≠ ys.length → sameL xs ys = false
  | [], [], h => absurd rfl h
  | [], _ :: _, _ => by simp [sameL]
  | _ :: _, [], _ => by simp [sameL]
  | x :: xs, y :: ys, h => by
    unfold sameL
    rw [sameL_len (xs := xs) (ys := ys) (fun e => h (by simp [e])), Bool.and_false]
def sameS (n : Nat) : DSp := fun ds L k _ => ∃ a b, ds = [a, b] ∧ okP a = true ∧ okP b = true ∧ dep b < n ∧ k (.bl (sameD a b)) L
/-! ### gcd -/
def gcdI (a b : Int) : Int := ((Nat.gcd a.natAbs b.natAbs : Nat) : Int)
def gcdS : DSp := fun ds L k _ => ∃ a b : Int, ds = [.int a, .int b] ∧ a.natAbs < 2 ^ 1990 ∧ b.natAbs < 2 ^ 1990 ∧ k (.int (gcdI a b)) L
theorem gcdI_step {x y : Int} (hx : 0 ≤ x) (hy : 0 < y) : gcdI y (x.fmod y) = gcdI x y := by
  unfold gcdI
  rw [Int.fmod_eq_emod_of_nonneg x (Int.le_of_lt hy)]
  have h1 : (x % y).natAbs = x.natAbs % y.natAbs := by
    obtain ⟨a, rfl⟩ := Int.eq_ofNat_of_zero_le hx
    obtain ⟨b, rfl⟩ := Int.eq_ofNat_of_zero_le (Int.le_of_lt hy)
    rfl
  rw [h1, Nat.gcd_comm x.natAbs y.natAbs, Nat.gcd_rec y.natAbs x.natAbs, Nat.gcd_comm]
theorem gcdI_zero {x : Int} (hx : 0 ≤ x) : gcdI x 0 = x := by
  unfold gcdI
  rw [show (0 : Int).natAbs = 0 from rfl, Nat.gcd_zero_right]
  omega
theorem gcdI_abs (a b : Int) : gcdI (if a < 0 then -a else a) (if b < 0 then -b else b) = gcdI a b := by
  unfold gcdI
  have h : ∀ z : Int, (if z < 0 then -z else z).natAbs = z.natAbs := fun z => by split <;> omega
  rw [h, h]
theorem fmod_bounds {x y : Int} (hx : 0 ≤ x) (hy : 0 < y) : 0 ≤ x.fmod y ∧ x.fmod y < y ∧ x.fmod y ≤ x := by
  rw [Int.fmod_eq_emod_of_nonneg x (Int.le_of_lt hy)]
  have e : x = y * (x / y) + x % y := (Int.mul_ediv_add_emod x y).symm
  have q : 0 ≤ y * (x / y) := Int.mul_nonneg (Int.le_of_lt hy) (Int.ediv_nonneg hx (Int.le_of_lt hy))
  exact ⟨Int.emod_nonneg _ (by omega), Int.emod_lt_of_pos _ hy, by omega⟩

/-- Euclid's steps: the product falls by half -/
theorem half_step {x y : Int} (hy : 0 < y) (h : y ≤ x) : 2 * (y * x.fmod y) ≤ x * y := by
  obtain ⟨h0, h1, _⟩ := fmod_bounds (x := x) (y := y) (by omega) hy
  have e : x = y * (x / y) + x % y := (Int.mul_ediv_add_emod x y).symm
  have e2 : x.fmod y = x % y := Int.fmod_eq_emod_of_nonneg x (Int.le_of_lt hy)
  have q1 : 1 ≤ x / y := by
    have := Int.ediv_le_ediv hy h
    rw [Int.ediv_self (by omega)] at this
    exact this
  have q2 : y * 1 ≤ y * (x / y) := Int.mul_le_mul_of_nonneg_left q1 (Int.le_of_lt hy)
  have q3 : 2 * x.fmod y ≤ x := by rw [e2]; rw [e2] at h1; omega
  have q4 : y * (2 * x.fmod y) ≤ y * x := Int.mul_le_mul_of_nonneg_left q3 (Int.le_of_lt hy)
  rw [Int.mul_comm x y, ← Int.mul_assoc, Int.mul_comm 2 y, Int.mul_assoc]
  exact q4
/-! ### lowest terms -/
def lowI (t u : Int) : Int × Int := let g := if u < 0 then 0 - gcdI t u else gcdI t u; (t.fdiv g, u.fdiv g)
def lowS : DSp := fun ds L k _ => ∃ t u : Int, ds = [.int t, .int u] ∧ u ≠ 0 ∧ t.natAbs < 2 ^ 1990 ∧ u.natAbs < 2 ^ 1990 ∧ k (.tup [.int (lowI t u).1, .int (lowI t u).2]) L
theorem gcdI_nonneg (a b : Int) : 0 ≤ gcdI a b := Int.natCast_nonneg _
theorem gcdI_pos {a b : Int} (h : b ≠ 0) : 0 < gcdI a b := by
  unfold gcdI
  have : 0 < Nat.gcd a.natAbs b.natAbs := Nat.gcd_pos_of_pos_right _ (by omega)
  omega
theorem gcdI_dvd_left (a b : Int) : gcdI a b ∣ a := Int.natAbs_dvd_natAbs.mp (by unfold gcdI; rw [Int.natAbs_natCast]; exact Nat.gcd_dvd_left _ _)
theorem gcdI_dvd_right (a b : Int) : gcdI a b ∣ b := Int.natAbs_dvd_natAbs.mp (by unfold gcdI; rw [Int.natAbs_natCast]; exact Nat.gcd_dvd_right _ _)
theorem gcdI_le {a b : Int} (h : b ≠ 0) : gcdI a b ≤ b.natAbs := by
  unfold gcdI
  have : Nat.gcd a.natAbs b.natAbs ≤ b.natAbs := Nat.gcd_le_right _ (by omega)
  omega
theorem fdiv_exact {a g : Int} (hg : g ≠ 0) (h : g ∣ a) : a.fdiv g * g = a := by
  obtain ⟨c, rfl⟩ := h
  rw [Int.mul_comm g c, Int.mul_fdiv_cancel _ hg]
/-- what lowest terms are: t / u = p / q, q above 0, no common divisor -/
theorem lowI_spec {t u : Int} (hu : u ≠ 0) : 0 < (lowI t u).2 ∧ gcdI (lowI t u).1 (lowI t u).2 = 1 ∧ (lowI t u).1 * u = t * (lowI t u).2 := by
  have hg := gcdI_pos (a := t) hu
  have hs : ∃ s : Int, s ≠ 0 ∧ (s = gcdI t u ∨ s = - gcdI t u) ∧ lowI t u = (t.fdiv s, u.fdiv s) ∧ (0 < u → 0 < s) ∧ (u < 0 → s < 0) := by
    unfold lowI
    by_cases h : u < 0
    · exact ⟨0 - gcdI t u, by omega, by omega, by simp only [if_pos h], by omega, by omega⟩
    · exact ⟨gcdI t u, by omega, by omega, by simp only [if_neg h], by omega, by omega⟩
  obtain ⟨s, s0, s1, e, sp, sn⟩ := hs
  have d1 : s ∣ t := by
    rcases s1 with h | h
    · rw [h]; exact gcdI_dvd_left t u
    · rw [h]; exact Int.neg_dvd.mpr (gcdI_dvd_left t u)
  have d2 : s ∣ u := by
    rcases s1 with h | h
    · rw [h]; exact gcdI_dvd_right t u
    · rw [h]; exact Int.neg_dvd.mpr (gcdI_dvd_right t u)
  have e1 := fdiv_exact s0 d1
  have e2 := fdiv_exact s0 d2
  rw [e]
  dsimp only
  generalize t.fdiv s = p at *
  generalize u.fdiv s = q at *
  have hq : 0 < q := by
    rcases Int.lt_or_lt_of_ne hu with h | h
    · have := sn h
      rcases Int.lt_trichotomy q 0 with z | z | z
      · have := Int.mul_pos_of_neg_of_neg z this; omega
      · rw [z] at e2; omega
      · exact z
    · have := sp h
      rcases Int.lt_trichotomy q 0 with z | z | z
      · have := Int.mul_neg_of_neg_of_pos z this; omega
      · rw [z] at e2; omega
      · exact z
  refine ⟨hq, ?_, ?_⟩
  · have sa : s.natAbs = Nat.gcd t.natAbs u.natAbs := by
      have : (gcdI t u).natAbs = Nat.gcd t.natAbs u.natAbs := by unfold gcdI; rw [Int.natAbs_natCast]
      rcases s1 with h | h
      · rw [h, this]
      · rw [h, Int.natAbs_neg, this]
    have ta : t.natAbs = p.natAbs * s.natAbs := by rw [← e1, Int.natAbs_mul]
    have ua : u.natAbs = q.natAbs * s.natAbs := by rw [← e2, Int.natAbs_mul]
    have hs0 : 0 < s.natAbs := by omega
    have k : Nat.gcd p.natAbs q.natAbs * s.natAbs = 1 * s.natAbs := by
      rw [← Nat.gcd_mul_right, ← ta, ← ua, ← sa, Nat.one_mul]
    unfold gcdI
    rw [Nat.eq_of_mul_eq_mul_right hs0 k]
    rfl
  · have e1' : t = p * s := e1.symm
    have e2' : u = q * s := e2.symm
    rw [e1', e2', Int.mul_assoc, Int.mul_comm s q]
theorem lowI_small {t u : Int} (hu : u ≠ 0) : (lowI t u).1.natAbs ≤ t.natAbs ∧ (lowI t u).2.natAbs ≤ u.natAbs := by
  have key : ∀ a s : Int, s ≠ 0 → s ∣ a → (a.fdiv s).natAbs ≤ a.natAbs := fun a s h0 h => by
    have e := congrArg Int.natAbs (fdiv_exact h0 h)
    rw [Int.natAbs_mul] at e
    have : 1 ≤ s.natAbs := by omega
    calc (a.fdiv s).natAbs = (a.fdiv s).natAbs * 1 := (Nat.mul_one _).symm
      _ ≤ (a.fdiv s).natAbs * s.natAbs := Nat.mul_le_mul_left _ this
      _ = a.natAbs := e
  have hg := gcdI_pos (a := t) hu
  unfold lowI
  by_cases h : u < 0
  · simp only [if_pos h]
    have z : (0 : Int) - gcdI t u = - gcdI t u := by omega
    rw [z]
    exact ⟨key t _ (by omega) (Int.neg_dvd.mpr (gcdI_dvd_left t u)), key u _ (by omega) (Int.neg_dvd.mpr (gcdI_dvd_right t u))⟩
  · simp only [if_neg h]
    exact ⟨key t _ (by omega) (gcdI_dvd_left t u), key u _ (by omega) (gcdI_dvd_right t u)⟩
/-- a ratio: lowest terms -/
structure Low (p q : Int) : Prop where
  pos : 0 < q
  one : gcdI p q = 1
def ratS : DSp := fun ds L k _ => ∃ (b : Addr) (g : Bag) (h u : Int), ds = [.ptr b, .int h, .int u] ∧ L.lookup b = some (bagC g) ∧ BagOk g ∧ 0 ≤ h ∧ h < 2 ^ 1900 ∧ 0 < u ∧ u < 2 ^ 1900 ∧
  ∀ p q g', Low p q → -h ≤ p → p ≤ h → q ≤ u → BagOk g' → k (.tup [.int p, .int q]) (setL L b (bagC g'))
/-! ### loops by a word -/
theorem forD_inv {dg : DG} {db : DS} {En : DEnds} (I : DEnv → Led → Prop) (hn : ∀ env L, I env L → En.nx env L) : ∀ (ds : List D), (∀ (E' : DEnds) (d : D) (env : DEnv) (L : Led), d ∈ ds → E'.rt = En.rt → E'.ex = En.ex → I env L → (∀ env' L', I env' L' → E'.nx env' L') → dg d env L fun env1 => db E' env1 L) →
    ∀ (env : DEnv) (L : Led), I env L → forD dg db En ds env L
  | [], _, env, L, hi => by rw [forD_nil]; exact hn env L hi
  | d :: ds, hb, env, L, hi => by
    rw [forD_cons]
    exact hb _ d env L List.mem_cons_self rfl rfl hi fun env' L' hi' => forD_inv I hn ds (fun E' d env L hd => hb E' d env L (List.mem_cons_of_mem _ hd)) env' L' hi'
theorem setL_one {p : Addr} {c d : D} : setL [(p, c)] p d = [(p, d)] := setL_top (by simp [inL])
theorem lt1990 {n : Nat} (h : n < 10 ^ 70) : n < 2 ^ 1990 := Nat.lt_trans h (by decide +kernel)
theorem log_le {n : Nat} (h : n < 2 ^ 1000) : n.log2 < 9000 := by
  by_cases h0 : n = 0
  · subst h0; decide +kernel
  · have : n.log2 < 1000 := (Nat.log2_lt h0).mpr h
    omega
theorem sz_ok {n : Nat} (h : Nat.ble n 1000 = true) : n ≤ sizeLine := Nat.le_trans (Nat.le_of_ble_eq_true h) (by decide)
end DL

namespace DL
open PySem PySem.Spec PyProof.Rows L2
/-- as walk_of, the loose names' values told -/
theorem walk_ofX {l : PySem.W.OpenLaw} {n k : Nat} {q : Program} {loose : List Str} {XP : (Str → Option Value) → Heap → Prop} {YP : World → Heap → Prop} {d : DefRec} {K : Params → PySem.W.Frag} {CX : World → CXT} {sp : World → Sp} {x : Str}
    (hn : l.most = some n) (hn2 : n ≤ sizeLine) (hdf : d.params.defaults = []) (hr : Room k callerA)
    (hY : ∀ (w : World) (h : Heap), YP w h → (K w.params).In h)
    (F : ∀ (w : World) (mg : Str → Option Value) (fa : Addr) (h : Heap), (K w.params).In h → XP mg h → h.Ns mainGlobals mg → mg d.name = some (.ref fa) →
      ∃ fd : FuncData, (∀ (s : Shared) (u : Value), BindsTo s fd ⟨[u], []⟩ [(x, u)]) ∧
        ∀ base : Heap, (K w.params).In base → base.Ns mainGlobals mg → FnOk l.prog w (K w.params) mg base (CX w) k fa fd [x] (sp w))
    (hsp : ∀ (w : World) (H : Hp) (a : Addr) (ns : List Int), ns.length ≤ n → Only H → SqL (K w.params) H a (ns.map V.int) → sp w [.ref a] H (fun v _ => v = .bl true) fun _ _ _ => False)
    (hCX : ∀ (w : World) (H : Hp) (s : Shared) (e : Value) (s' : Shared), CX w [] H s (fun _ _ _ => False) e s' → False) :
    PySem.W.WalkO q loose XP YP l.row.toRowW d [] (fun f vs => PySem.call f vs) := by
  refine Att.attach_call hn hdf fun w s₀ s₁ mg mb fa o pm cd doc a vs ns G Y ho hd hcd hmg hobj hints hlen hg => ?_
  have KX := hY w _ Y
  obtain ⟨fd, hb, hF⟩ := F w mg fa _ KX G.X G.T.g hmg
  exact law_call KX G.T.g G.T.b G.T.builtins G.T.nolimit hg hobj hints (Nat.le_trans hlen hn2) hr hF hb (fun H hO hS => hsp w H a ns hlen hO hS) fun H e s' => hCX w H s₁ e s'
theorem loose_int {p : Program} {lv : List (Str × PySem.W.WData)} {mg : Str → Option Value} {h : Heap} (X : PySem.W.XL p lv mg h) {x : Str} {n : Int} (hx : (x, PySem.W.WData.int n) ∈ lv) : ∃ t, mg x = some (.int n t) := by
  obtain ⟨v, h1, h2⟩ := X.2.val _ hx
  cases h2 with
  | int i t => exact ⟨t, h1⟩
end DL

namespace DL
open PySem PySem.Spec PyProof.Rows L2
section
variable {X : Cx} {Wx : WX} {a b c e o : Expr} {es rest : List Expr} {da db dc de do' : DE} {dt du : DT} {dl dk : DA} {pos : Pos}
/-! ### a field of an error -/
theorem lookup_rp {L : Led} {K : PySem.W.Frag} {H : Hp} {f : Str} : ∀ {ns : List Str} {xs : List V} {ds : List D} {d : D}, RpAll L K H xs ds → (ns.zip ds).lookup f = some d → ∃ v, (ns.zip xs).lookup f = some v ∧ Rp L K H v d
  | [], _, _, _, _, h => by simp at h
  | _ :: _, _, _, _, .nil, h => by simp at h
  | n :: ns, _, _, d, .cons (v := v) (vs := vs) (d := e) (ds := ds) r t, h => by
    by_cases hf : f = n
    · subst hf
      have h' : List.lookup f ((f, e) :: ns.zip ds) = some d := h
      rw [List.lookup_cons_self] at h'
      cases h'
      exact ⟨v, List.lookup_cons_self, r⟩
    · have q : (f == n) = false := by simpa using hf
      have h' : List.lookup f ((n, e) :: ns.zip ds) = some d := h
      rw [List.lookup_cons, q] at h'
      obtain ⟨w, h1, h2⟩ := lookup_rp t h'
      refine ⟨w, ?_, h2⟩
      show List.lookup f ((n, v) :: ns.zip vs) = some w
      rw [List.lookup_cons, q]
      exact h1
def tAtE (K : PySem.W.Frag) (f : Str) (te : TE) : TE := fun σ H Q => te σ H fun x H1 => ∃ (a C d : Addr) (φ : Heap → Prop) (fs : List (Str × V)) (v : V), x = .ref a ∧ H1 a = some (.ext φ) ∧ (∀ h, φ h → ExcAt h a C d) ∧ XDict H1 d fs ∧ XfC K C ∧ PySem.W.findIn K (.ref C) f = some none ∧ fs.lookup f = some v ∧ Q v H1
theorem pe_atE {te : TE} {f : Str} (he : PE X e te) (hb : attributeBase e f X.env (eval e X.env) = eval e X.env := by rfl) : PE X (.Attribute e f pos) (tAtE X.K f te) := by
  refine ⟨fun pins s σ H Q I h => ?_⟩
  refine attr_of hb (thn (he.run pins s σ H _ I h) fun u s1 hh => ?_)
  obtain ⟨x, H1, I1, rx, a, C, d, φ, fs, v, ex, ea, hφ, xd, T, hno, l, q⟩ := hh
  subst ex
  obtain rfl : u = Value.ref a := rx
  have ob : φ s1.heap := by
    have z : ObjOk X.prog X.w H1 s1.heap a (.ext φ) := I1.hok a _ ea
    exact z.1
  obtain ⟨oe, vs, ha, hc, hdd, hdat⟩ := hφ _ ob
  have ns : ∃ mA, s1.heap.Ns1 d mA ∧ ∀ f, RelO (fs.lookup f) (mA f) := by
    rcases xd with xd | xd
    · exact (show ObjOk X.prog X.w H1 s1.heap d (.xd fs) from I1.hok d _ xd)
    · exact exd_at I1.hok xd
  obtain ⟨mA, hns, hr⟩ := ns
  obtain ⟨od, ho, hl⟩ := lookIn_ns hns
  obtain ⟨u, hu, ru⟩ := RelO.some_of (v := v) (o := mA f) (by rw [← l]; exact hr f)
  have J : PySem.W.InstAt s1.heap a oe C (some od) := ⟨ha, hc, by unfold PySem.W.notCls; rw [hdat] <;> rfl, by rw [hdd]; exact ho⟩
  exact HandSPX.exc_get I1.kIn J T.ga T.gg T.exC (PySem.W.findObj_own T.hdC hno rfl (by rw [hl, hu])) (handed_of ru) ⟨v, H1, I1.tok _, ru, q⟩
/-- what the written part must say of a class whose errors' field f is read -/
def FldOk (K : PySem.W.Frag) (C : Addr) (f : Str) : Prop := XfC K C ∧ PySem.W.findIn K (.ref C) f = some none
def dAtE (K : PySem.W.Frag) (f : Str) (da : DE) : DE := fun env L k x => da env L (fun a L1 => match a with
  | .exc C ns vs => FldOk K C f ∧ match (ns.zip vs).lookup f with
    | some d => k d L1
    | none => False
  | _ => False) x
theorem q_atE {f : Str} (he : QE X Wx e da) (hb : attributeBase e f X.env (eval e X.env) = eval e X.env := by rfl) : QE X Wx (.Attribute e f pos) (dAtE X.K f da) := by
  obtain ⟨ta, pa, sa⟩ := he.ex
  refine ⟨_, pe_atE pa hb, fun σ H env L k x Q st h hk hx => ?_⟩
  refine sa σ H env L _ x _ st h (fun a L1 va H1 h1 g1 j1 r1 => ?_) hx
  cases r1 <;> first | exact h1.elim | skip
  rename_i n m ea hφ xd el rv
  obtain ⟨fo, h1⟩ := h1
  split at h1
  · rename_i d hl
    obtain ⟨v, hv, rd⟩ := lookup_rp rv hl
    exact ⟨_, _, _, _, _, v, rfl, ea, hφ, xd, fo.1, fo.2, hv, hk _ L1 _ H1 h1 g1 j1 rd⟩
  · exact h1.elim
/-! ### raise C(..), C an own class over ValueError whose __init__ stores code and one field, or code alone -/
def spI1 (C : Addr) (code f : Str) : Sp := fun vs H Q _ => ∃ (a : Addr) (v : V), vs = [.ref a, v] ∧ H a = some (exo a C none) ∧ ∀ d, H d = none → d ≠ a → Q .non (upd (upd (upd H d (exd d [("code", .str code)])) a (exo a C (some d))) d (exd d [(f, v), ("code", .str code)]))
def spI0 (C : Addr) (code : Str) : Sp := fun vs H Q _ => ∃ (a : Addr), vs = [.ref a] ∧ H a = some (exo a C none) ∧ ∀ d, H d = none → d ≠ a → Q .non (upd (upd H d (exd d [("code", .str code)])) a (exo a C (some d)))
/-- one field alone: Halt(end) -/
def spIf (C : Addr) (f : Str) : Sp := fun vs H Q _ => ∃ (a : Addr) (v : V), vs = [.ref a, v] ∧ H a = some (exo a C none) ∧ ∀ d, H d = none → d ≠ a → Q .non (upd (upd H d (exd d [(f, v)])) a (exo a C (some d)))
/-- an own error class by name: what is needed to make one -/
structure ExCls (P : Program) (w : World) (K : PySem.W.Frag) (mg : Str → Option Value) (base : Heap) (x : Str) (C : Addr) (ps : List Str) (sp : Sp) : Prop where
  oex : OexC K C
  gC : mg x = some (.ref C)
  make_ : ∃ (fI : Addr) (fd : FuncData), PySem.W.findIn K (.ref C) "__init__" = some (some (.ref fI)) ∧ PySem.W.typeIn K (.ref fI) = some (.type "function") ∧ FnOk P w K mg base (L2.CX P w) 1 fI fd ps sp ∧ Binds K fd ps []
def dRaise1 (C : Addr) (code f : Str) (dl : DA) : DS := fun D env L => dl env L (fun ds L1 => match ds with
  | [v] => D.ex ⟨.ref C, [f, "code"], [v, .str code]⟩ env L1
  | _ => False) D.ex
theorem ex_free {H : Hp} {a d : Addr} {o o2 : HO} (ha : H a = none) (hd : (upd H a o) d = none) (hne : d ≠ a) : H d = none := by rw [upd_ne hne] at hd; exact hd
theorem s_raise1 {x : Str} {C : Addr} {ps : List Str} {code f : Str} {p pos2 : Pos} {k : Nat} (T : ExCls X.prog X.w X.K X.mg X.base x C ps (spI1 C code f)) (hcalm : X.calm = true) (hr : Room k X.A) (h2 : 2 ≤ k) (tk : Takes X Wx) (hg : Gl X x) (ha : QA X Wx [e] dl)
    (hdb : (x == ("__debug__" : Str)) = false := by decide) (he : starEach [e] X.env = (false, eval e X.env) :: starEach [] X.env := by rfl) (hpl : (backTo pos (starEach [] X.env)).any (·.1) = false := by rfl) :
    QS X Wx (.Raise (some (.Call (.Name x p) [e] [] pos)) none pos2) (dRaise1 C code f dl) := by
  obtain ⟨fI, fd, iC, tI, F1, hb⟩ := T.make_
  obtain ⟨ta, pa, sa⟩ := ha.ex
  refine ⟨_, ps_raise (W := Wx) hcalm tk (pmk_oex T.oex iC tI F1 (hr.mono h2) hb .nil (fun _ _ _ _ _ _ _ h => by obtain ⟨_, _, _, _, _, _, _, _, _, _, _, _, z⟩ := h; exact z.elim) hg T.gC pa hdb he hpl), fun σ H env L D' D st h ok => ?_⟩
  refine sa σ H env L _ _ _ st h (fun ds L1 vs H1 h1 g1 j1 r1 => ?_) ok.ex
  split at h1
  · rename_i v
    cases r1 with
    | cons rv r2 =>
      cases r2
      rename_i vv
      refine ⟨by simp, fun q hq => ⟨q, vv, rfl, upd_same, fun d hd hne => ?_⟩⟩
      have hd1 : H1 d = none := by rw [upd_ne hne] at hd; exact hd
      refine ⟨rfl, d, _, ?_, upd_same, hd1, ?_⟩
      · rw [upd_ne (Ne.symm hne), upd_same]
      · have s : Same H1 (upd (del (upd (upd (upd (upd H1 q (exo q C none)) d (exd d [("code", .str code)])) q (exo q C (some d))) d (exd d [(f, vv), ("code", .str code)])) q) d (.xd [(f, vv), ("code", .str code)])) := fun b u hb => by
          have n1 : b ≠ q := ne_of_none hb hq
          have n2 : b ≠ d := ne_of_none hb hd1
          rw [upd_ne n2, del_ne n1, upd_ne n2, upd_ne n1, upd_ne n2, upd_ne n1]
          exact hb
        have g2 := g1.trans (Go.same (L := L1) s)
        have j2 := j1.same s
        exact ok.ex ⟨.ref C, [f, "code"], [v, .str code]⟩ env L1 d _ σ h1 g2 (st.go g2 j2) ⟨j1.notIn hd1, [vv, .str code], upd_same, rfl, .cons (rv.go (Go.same s)) (.cons (.str code) .nil)⟩
  · exact h1.elim
end
end DL

namespace DL
open PySem PySem.Spec PyProof.Rows L2
/-! ### cells that are known for a while -/
abbrev Cel := Addr → Option Obj
def addC (cel : Cel) (H : Hp) : Hp := fun b => match cel b with
  | some o => some (celO o)
  | none => H b
def delC (cel : Cel) (H : Hp) : Hp := fun b => match cel b with
  | some _ => none
  | none => H b
section
variable {cel : Cel} {H H' : Hp} {b : Addr} {o : Obj}
theorem addC_in (h : cel b = some o) : addC cel H b = some (celO o) := by unfold addC; rw [h]
theorem addC_out (h : cel b = none) : addC cel H b = H b := by unfold addC; rw [h]
theorem delC_in (h : cel b = some o) : delC cel H b = none := by unfold delC; rw [h]
theorem delC_out (h : cel b = none) : delC cel H b = H b := by unfold delC; rw [h]
end
/-- what the cells' objects are ahead of a call -/
structure CelOk (cel : Cel) (H : Hp) (h : Heap) (fs : List Addr) : Prop where
  at_ : ∀ b o, cel b = some o → h.get? b = some o
  free : ∀ b o, cel b = some o → H b = none
  nofr : ∀ b o, cel b = some o → b ∉ fs
section
variable {P : Program} {w : World} {K : PySem.W.Frag} {mg : Str → Option Value} {base : Heap} {cel : Cel} {H H' : Hp} {h h' B : Heap} {fs : List Addr} {outer : List Env} {s s' : Shared} {A : Around} {Q : VK} {E : XK}
theorem cel_none (c : CelOk cel H h fs) {b : Addr} {u : HO} (e : H b = some u) : cel b = none := by
  cases q : cel b with
  | none => rfl
  | some o => rw [c.free b o q] at e; cases e
theorem hok_add (c : CelOk cel H h fs) (x : HOk P w H h) : HOk P w (addC cel H) h := fun a u e => by
  cases q : cel a with
  | some o =>
    rw [addC_in q] at e
    cases e
    exact ⟨c.at_ a o q, o, c.at_ a o q⟩
  | none =>
    rw [addC_out q] at e
    exact (x a u e).stay (fun _ _ _ z => z) (fun d z => by rw [addC_out (cel_none c z)]; exact z) fun d xs z => by rw [addC_out (cel_none c z)]; exact z
/-- known ones go out of sight -/
theorem hok_del {H1 : Hp} (hc : ∀ b o, cel b = some o → H1 b = some (celO o)) (x : HOk P w H1 h) : HOk P w (delC cel H1) h := fun a u e => by
  cases q : cel a with
  | some o => rw [delC_in q] at e; cases e
  | none =>
    rw [delC_out q] at e
    have out : ∀ d z, H1 d = some z → (∀ o, z ≠ celO o) → cel d = none := fun d z e n => by
      cases q : cel d with
      | none => rfl
      | some o => rw [hc d o q] at e; exact absurd (Option.some.inj e).symm (n o)
    exact (x a u e).stay (fun _ _ _ z => z) (fun d z => by rw [delC_out (out d _ z fun o e => by cases e)]; exact z) fun d xs z => by rw [delC_out (out d _ z fun o e => by cases e)]; exact z
theorem env0_add (c : CelOk cel H s.heap (frs outer)) (hb : ∀ b o, cel b = some o → base.get? b = none) (e : Env0 P w K mg base A outer s H) : Env0 P w K mg base A outer s (addC cel H) := by
  refine ⟨e.frames, e.mod, fun b o q => ⟨(e.bs b o q).1, ?_⟩, e.bsz, e.funs, fun b hb => ?_, hok_add c e.hok, e.bare⟩
  · have z : cel b = none := by
      cases q2 : cel b with
      | none => rfl
      | some o2 => rw [hb b o2 q2] at q; cases q
    rw [addC_out z]
    exact (e.bs b o q).2
  · have z : cel b = none := by
      cases q2 : cel b with
      | none => rfl
      | some o2 => exact absurd hb (c.nofr b o2 q2)
    rw [addC_out z]
    exact e.frf b hb
theorem env0_del (hc : ∀ b o, cel b = some o → H b = some (celO o)) (e : Env0 P w K mg base A outer s H) : Env0 P w K mg base A outer s (delC cel H) := by
  have nn : ∀ b, H b = none → delC cel H b = none := fun b z => by
    cases q : cel b with
    | none => rw [delC_out q]; exact z
    | some o => exact delC_in q
  exact ⟨e.frames, e.mod, fun b o q => ⟨(e.bs b o q).1, nn b (e.bs b o q).2⟩, e.bsz, e.funs, fun b hb => nn b (e.frf b hb), hok_del hc e.hok, e.bare⟩
/-- behind a call that was made with the cells known -/
theorem un_del (c : CelOk cel H h fs) (hok : HOk P w H' h') (u : Un fs [] (addC cel H) H' h h') : Un fs [] H (delC cel H') h h' := by
  have kn : ∀ b o, cel b = some o → H' b = some (celO o) := fun b o q => u.frzs b o _ (addC_in q)
  refine ⟨fun b o e n hb hx => ?_, fun b o e n hb hx => ?_, fun b o e n hx => ?_, fun b o e hx => u.there b o e hx, fun b xs q => ?_, fun b o v q => ?_, fun b ps q => ?_⟩
  · cases q : cel b with
    | some o' =>
      have e1 : h'.get? b = some o' := (hok b _ (kn b o' q)).1
      have e2 := c.at_ b o' q
      rw [e] at e2
      cases e2
      exact e1
    | none => exact u.keep b o e (by rw [addC_out q]; exact n) hb hx
  · cases q : cel b with
    | some o' => exact absurd hb (c.nofr b o' q)
    | none => exact u.slot b o e (by rw [addC_out q]; exact n) hb hx
  · cases q : cel b with
    | some o' => exact delC_in q
    | none => rw [delC_out q]; exact u.free b o e (by rw [addC_out q]; exact n) hx
  · have z := cel_none c q
    rw [delC_out z]
    exact u.tups b xs (by rw [addC_out z]; exact q)
  · have z := cel_none c q
    rw [delC_out z]
    exact u.frzs b o v (by rw [addC_out z]; exact q)
  · have z := cel_none c q
    rw [delC_out z]
    exact u.tbls b ps (by rw [addC_out z]; exact q)
theorem ub_del (c : CelOk cel H h fs) (hok : HOk P w H' B) (u : UB fs (addC cel H) H' h B h') : UB fs H (delC cel H') h B h' := by
  have kn : ∀ b o, cel b = some o → H' b = some (celO o) := fun b o q => u.frzs b o _ (addC_in q)
  refine ⟨fun b o e n hb => ?_, u.slot, fun b o e n => ?_, u.there, fun b xs q => ?_, fun b o v q => ?_, fun b ps q => ?_⟩
  · cases q : cel b with
    | some o' =>
      have e1 : B.get? b = some o' := (hok b _ (kn b o' q)).1
      have e2 := c.at_ b o' q
      rw [e] at e2
      cases e2
      exact e1
    | none => exact u.keep b o e (by rw [addC_out q]; exact n) hb
  · cases q : cel b with
    | some o' => exact delC_in q
    | none => rw [delC_out q]; exact u.free b o e (by rw [addC_out q]; exact n)
  · have z := cel_none c q
    rw [delC_out z]
    exact u.tups b xs (by rw [addC_out z]; exact q)
  · have z := cel_none c q
    rw [delC_out z]
    exact u.frzs b o v (by rw [addC_out z]; exact q)
  · have z := cel_none c q
    rw [delC_out z]
    exact u.tbls b ps (by rw [addC_out z]; exact q)
theorem cr_del (c : CelOk cel H s.heap (frs outer)) {r : Result} (h : CR (L2.CX P w) outer P w (addC cel H) s (fun v H' => Q v (delC cel H')) (fun cls d H' => E cls d (delC cel H')) r s') : CR (L2.CX P w) outer P w H s Q E r s' := by
  cases r with
  | ok fl =>
    cases fl with
    | ret u =>
      obtain ⟨v, H', os, bare, un, hok, rv, q⟩ := h
      exact ⟨v, delC cel H', os, bare, un_del c hok un, hok_del (fun b o e => un.frzs b o _ (addC_in e)) hok, rv, q⟩
    | next => exact h
    | brk => exact h
    | cont => exact h
  | error e =>
    obtain ⟨a, B, H', cls, d, eq, fly, hok, ub, na, os, bare, q⟩ := h
    refine ⟨a, B, delC cel H', cls, d, eq, fly, hok_del (fun b o e => ub.frzs b o _ (addC_in e)) hok, ub_del c hok ub, ?_, os, bare, q⟩
    cases q : cel a with
    | some o => exact delC_in q
    | none => rw [delC_out q]; exact na
/-- behind a call that was made with known cells out of sight -/
theorem un_add (hc : ∀ b o, cel b = some o → H b = some (celO o)) (u : Un fs [] (delC cel H) H' h h') : Un fs [] H (addC cel H') h h' := by
  have out : ∀ b, H b = none → cel b = none := fun b z => by
    cases q : cel b with
    | none => rfl
    | some o => rw [hc b o q] at z; cases z
  have out2 : ∀ d z, H d = some z → (∀ o, z ≠ celO o) → cel d = none := fun d z e n => by
    cases q : cel d with
    | none => rfl
    | some o => rw [hc d o q] at e; exact absurd (Option.some.inj e).symm (n o)
  refine ⟨fun b o e n hb hx => u.keep b o e (by rw [delC_out (out b n)]; exact n) hb hx, fun b o e n hb hx => u.slot b o e (by rw [delC_out (out b n)]; exact n) hb hx, fun b o e n hx => ?_, u.there, fun b xs q => ?_, fun b o v q => ?_, fun b ps q => ?_⟩
  · rw [addC_out (out b n)]
    exact u.free b o e (by rw [delC_out (out b n)]; exact n) hx
  · have z := out2 b _ q (fun o e => by cases e)
    rw [addC_out z]
    exact u.tups b xs (by rw [delC_out z]; exact q)
  · cases z : cel b with
    | some o' =>
      rw [hc b o' z] at q
      rw [addC_in z]
      exact q
    | none =>
      rw [addC_out z]
      exact u.frzs b o v (by rw [delC_out z]; exact q)
  · have z := out2 b _ q (fun o e => by cases e)
    rw [addC_out z]
    exact u.tbls b ps (by rw [delC_out z]; exact q)
theorem ub_add (hc : ∀ b o, cel b = some o → H b = some (celO o)) (u : UB fs (delC cel H) H' h B h') : UB fs H (addC cel H') h B h' := by
  have out : ∀ b, H b = none → cel b = none := fun b z => by
    cases q : cel b with
    | none => rfl
    | some o => rw [hc b o q] at z; cases z
  have out2 : ∀ d z, H d = some z → (∀ o, z ≠ celO o) → cel d = none := fun d z e n => by
    cases q : cel d with
    | none => rfl
    | some o => rw [hc d o q] at e; exact absurd (Option.some.inj e).symm (n o)
  refine ⟨fun b o e n hb => u.keep b o e (by rw [delC_out (out b n)]; exact n) hb, u.slot, fun b o e n => ?_, u.there, fun b xs q => ?_, fun b o v q => ?_, fun b ps q => ?_⟩
  · rw [addC_out (out b n)]
    exact u.free b o e (by rw [delC_out (out b n)]; exact n)
  · have z := out2 b _ q (fun o e => by cases e)
    rw [addC_out z]
    exact u.tups b xs (by rw [delC_out z]; exact q)
  · cases z : cel b with
    | some o' =>
      rw [hc b o' z] at q
      rw [addC_in z]
      exact q
    | none =>
      rw [addC_out z]
      exact u.frzs b o v (by rw [delC_out z]; exact q)
  · have z := out2 b _ q (fun o e => by cases e)
    rw [addC_out z]
    exact u.tbls b ps (by rw [delC_out z]; exact q)
theorem hok_back (ca : ∀ b o, cel b = some o → h'.get? b = some o) (cn : ∀ b o, cel b = some o → H' b = none) (x : HOk P w H' h') : HOk P w (addC cel H') h' := hok_add (fs := []) ⟨ca, cn, fun _ _ _ z => by cases z⟩ x
theorem cr_add (hc : ∀ b o, cel b = some o → H b = some (celO o)) (hh : HOk P w H s.heap) (hf : ∀ b ∈ frs outer, H b = none) {r : Result} (h : CR (L2.CX P w) outer P w (delC cel H) s (fun v H' => (∀ b o, cel b = some o → H' b = none) → Q v (addC cel H')) (fun cls d H' => (∀ b o, cel b = some o → H' b = none) → E cls d (addC cel H')) r s') : CR (L2.CX P w) outer P w H s Q E r s' := by
  have at_ : ∀ b o, cel b = some o → s.heap.get? b = some o := fun b o q => (hh b _ (hc b o q)).1
  have nf : ∀ b o, cel b = some o → b ∉ frs outer := fun b o q z => by have := hf b z; rw [hc b o q] at this; cases this
  cases r with
  | ok fl =>
    cases fl with
    | ret u =>
      obtain ⟨v, H', os, bare, un, hok, rv, q⟩ := h
      have cn : ∀ b o, cel b = some o → H' b = none := fun b o e => un.free b o (at_ b o e) (delC_in e) (by simp)
      exact ⟨v, addC cel H', os, bare, un_add hc un, hok_back (fun b o e => un.keep b o (at_ b o e) (delC_in e) (nf b o e) (by simp)) cn hok, rv, q cn⟩
    | next => exact h
    | brk => exact h
    | cont => exact h
  | error e =>
    obtain ⟨a, B, H', cls, d, eq, fly, hok, ub, na, os, bare, q⟩ := h
    have cn : ∀ b o, cel b = some o → H' b = none := fun b o e => ub.free b o (at_ b o e) (delC_in e)
    have ca : ∀ b o, cel b = some o → B.get? b = some o := fun b o e => ub.keep b o (at_ b o e) (delC_in e) (nf b o e)
    refine ⟨a, B, addC cel H', cls, d, eq, fly, hok_back ca cn hok, ub_add hc ub, ?_, os, bare, q cn⟩
    cases z : cel a with
    | some o =>
      have e1 := ca a o z
      obtain ⟨_, na2, _⟩ := id fly
      rw [na2] at e1
      cases e1
    | none => rw [addC_out z]; exact na
end
end DL

namespace DL
open PySem PySem.Spec PyProof.Rows L2
mutual
/-- no lambda with known cells within -/
def pln : D → Bool
  | .clo _ _ => false
  | .lst xs => plns xs
  | .tup xs => plns xs
  | .ro xs => plns xs
  | .dk _ xs => plns xs
  | .dt _ xs => plns xs
  | .obj _ _ xs => plns xs
  | .exc _ _ xs => plns xs
  | .non => true | .bl _ => true | .int _ => true | .str _ => true | .fnv _ _ => true | .tab _ => true | .ptr _ => true | .ty _ => true
def plns : List D → Bool
  | [] => true
  | d :: r => pln d && plns r
end
def plnL (L : Led) : Bool := plns (L.map (·.2))
theorem plns_map {α : Type} {f : α → D} (h : ∀ a, pln (f a) = true) : ∀ l : List α, plns (l.map f) = true
  | [] => by unfold plns; rfl
  | a :: r => by
    show plns (f a :: r.map f) = true
    unfold plns
    rw [h a, plns_map h r]; rfl
theorem plns_mem : ∀ {l : List D} {d : D}, plns l = true → d ∈ l → pln d = true
  | [], _, _, h => by cases h
  | a :: r, d, p, h => by
    unfold plns at p
    have p := Bool.and_eq_true_iff.mp p
    rcases List.mem_cons.mp h with e | e
    · rw [e]; exact p.1
    · exact plns_mem p.2 e
theorem plns_append : ∀ {a b : List D}, plns a = true → plns b = true → plns (a ++ b) = true
  | [], _, _, h => h
  | x :: a, b, p, h => by
    unfold plns at p
    have p := Bool.and_eq_true_iff.mp p
    show plns (x :: (a ++ b)) = true
    unfold plns
    rw [p.1, plns_append p.2 h]; rfl
section
variable {L : Led} {K : PySem.W.Frag} {H : Hp} {cel : Cel}
section
variable (hc : ∀ b o, cel b = some o → H b = some (celO o))
theorem del_keep {b : Addr} {u : HO} (hc : ∀ b o, cel b = some o → H b = some (celO o)) (e : H b = some u) (n : ∀ o, u ≠ celO o) : delC cel H b = some u := by
  have z : cel b = none := by
    cases q : cel b with
    | none => rfl
    | some o => rw [hc b o q] at e; exact absurd (Option.some.inj e).symm (n o)
  rw [delC_out z]
  exact e
include hc
theorem rd_del {a : Addr} {u : HO} (h : Rd H a u) (n : ∀ o, u ≠ celO o) (n2 : ∀ x, u ≠ .own x) : Rd (delC cel H) a u := by
  rcases h with h | ⟨o, h⟩
  · exact .inl (del_keep hc h n)
  · refine .inr ⟨o, del_keep hc h fun o' e => ?_⟩
    have e2 : u = .own 0 := by cases e; rfl
    exact n2 0 e2
theorem fnv_del {f : Addr} {F : LamF} {cl : List (Str × Addr)} (h : FnvAt L H f F cl) : FnvAt L (delC cel H) f F cl := by
  obtain ⟨nf, c, dV, h1, n2, h2, h3⟩ := h
  refine ⟨nf, c, dV, del_keep hc h1 fun o e => ?_, n2, del_keep hc h2 fun o e => ?_, ?_⟩
  · unfold LamO at e; cases e
  · unfold LamX.CodeO at e; cases e
  · rcases h3 with h3 | ⟨z, t, e, n, h3⟩
    · exact .inl h3
    · exact .inr ⟨z, t, e, n, del_keep hc h3 fun o e => by cases e⟩
end
mutual
theorem Rp.del (hc : ∀ b o, cel b = some o → H b = some (celO o)) : ∀ {v : V} {d : D}, pln d = true → Rp L K H v d → Rp L K (delC cel H) v d
  | _, _, _, .non => .non
  | _, _, _, .bl b => .bl b
  | _, _, _, .int i => .int i
  | _, _, _, .str x => .str x
  | _, _, _, .ty n => .ty n
  | _, _, _, .ptr a => .ptr a
  | _, _, p, .lst n h r => .lst n (del_keep hc h fun o e => by cases e) (RpAll.del hc (by simpa only [pln] using p) r)
  | _, _, p, .ro s r => .ro (s.elim (fun z => .inl ⟨z.1, rd_del hc z.2 (fun o e => by cases e) (fun o e => by cases e)⟩) .inr) (RpAll.del hc (by simpa only [pln] using p) r)
  | _, _, p, .tup s r => .tup (s.elim (fun z => .inl ⟨z.1, rd_del hc z.2 (fun o e => by cases e) (fun o e => by cases e)⟩) .inr) (RpAll.del hc (by simpa only [pln] using p) r)
  | _, _, p, .dk n h e r => .dk n (rd_del hc h (fun o e => by cases e) (fun o e => by cases e)) e (RpAll.del hc (by simpa only [pln] using p) r)
  | _, _, p, .dt n h e r => .dt n (del_keep hc h fun o e => by cases e) e (RpAll.del hc (by simpa only [pln] using p) r)
  | _, _, p, .obj n h e r => .obj n (del_keep hc h fun o e => by cases e) e (RpAll.del hc (by simpa only [pln] using p) r)
  | _, _, p, .exc n m h q x e r => .exc n m (del_keep hc h fun o e => by cases e) q (x.elim (fun z => .inl (del_keep hc z fun o e => by cases e)) (fun z => .inr (del_keep hc z fun o e => by unfold exd at e; cases e))) e (RpAll.del hc (by simpa only [pln] using p) r)
  | _, _, _, .fnv h => .fnv (fnv_del hc h)
  | _, _, p, .clo _ _ => by simp [pln] at p
theorem RpAll.del (hc : ∀ b o, cel b = some o → H b = some (celO o)) : ∀ {vs : List V} {ds : List D}, plns ds = true → RpAll L K H vs ds → RpAll L K (delC cel H) vs ds
  | _, _, _, .nil => .nil
  | _, _, p, .cons h r => by
    have p := Bool.and_eq_true_iff.mp (show (pln _ && plns _) = true by simpa only [plns] using p)
    exact .cons (Rp.del hc p.1 h) (RpAll.del hc p.2 r)
end
theorem Own.del (hc : ∀ b o, cel b = some o → H b = some (celO o)) {a : Addr} {d : D} (p : pln d = true) (h : Own L K H a d) : Own L K (delC cel H) a d := by
  cases d with
  | lst ds => obtain ⟨vs, h1, h2⟩ := h; exact ⟨vs, del_keep hc h1 (fun o e => by cases e), h2.del hc (by simpa only [pln] using p)⟩
  | dk ks ds => obtain ⟨vs, h1, h3, h2⟩ := h; exact ⟨vs, del_keep hc h1 (fun o e => by cases e), h3, h2.del hc (by simpa only [pln] using p)⟩
  | dt ks ds => obtain ⟨vs, h1, h3, h2⟩ := h; exact ⟨vs, del_keep hc h1 (fun o e => by cases e), h3, h2.del hc (by simpa only [pln] using p)⟩
  | obj C ns ds => obtain ⟨dx, vs, h1, h3, h2⟩ := h; exact ⟨dx, vs, del_keep hc h1 (fun o e => by cases e), h3, h2.del hc (by simpa only [pln] using p)⟩
  | tab q =>
    obtain ⟨ps, h1, h2, h3⟩ := h
    refine ⟨ps, del_keep hc h1 (fun o e => by cases e), h2, fun pos cv hh => ?_⟩
    obtain ⟨c, q1, n, q2⟩ := h3 pos cv hh
    exact ⟨c, q1, n, del_keep hc q2 fun o e => by unfold LamX.CodeO at e; cases e⟩
  | _ => exact h.elim
theorem JL.del (hc : ∀ b o, cel b = some o → H b = some (celO o)) (p : plnL L = true) (j : JL K L H) : JL K L (delC cel H) :=
  ⟨j.nd, fun a d m => Own.del hc (plns_mem p (List.mem_map.mpr ⟨_, m, rfl⟩)) (j.own a d m)⟩
/-- .. and back -/
theorem same_add (cn : ∀ b o, cel b = some o → H b = none) : Same H (addC cel H) := fun b o e => by
  have z : cel b = none := by
    cases q : cel b with
    | none => rfl
    | some o => rw [cn b o q] at e; cases e
  rw [addC_out z]
  exact e
/-- from the state without them to the state with them -/
theorem go_back {L' : Led} {H' : Hp} (hc : ∀ b o, cel b = some o → H b = some (celO o)) (cn : ∀ b o, cel b = some o → H' b = none) (j : JL K L' H') (g : Go L L' (delC cel H) H') : Go L L' H (addC cel H') := fun a o n e => by
  cases q : cel a with
  | some o' =>
    rw [hc a o' q] at e
    cases e
    exact ⟨j.notIn (cn a o' q), addC_in q⟩
  | none =>
    rw [addC_out q]
    exact g a o n (by rw [delC_out q]; exact e)
/-- from the state without them to the end of a call with them, and out of sight again -/
theorem go_out {L' : Led} {H' : Hp} (cn : ∀ b o, cel b = some o → H b = none) (g : Go L L' (addC cel H) H') : Go L L' H (delC cel H') := fun a o n e => by
  have z : cel a = none := by
    cases q : cel a with
    | none => rfl
    | some o => rw [cn a o q] at e; cases e
  rw [delC_out z]
  exact g a o n (by rw [addC_out z]; exact e)
end
/-! ### lambdas called -/
structure CloOk (P : Program) (w : World) (K : PySem.W.Frag) (mg : Str → Option Value) (base : Heap) (n : Nat) (G : LamF → DSp) : Prop where
  run : ∀ (A : Around) (outer : List Env) (s : Shared) (H : Hp) (f : Addr) (F : LamF) (vs : List V) (ds : List D) (L : Led) (k : DK) (x : Exn → Led → Prop) (Q : VK) (E : XK), Room n A → Env0 P w K mg base A outer s H → CloAt L H f F vs → JL K L H → RpAll L K H vs ds → G F ds L k x →
    KOk K L H k Q → (∀ n L' a H', x n L' → Go L L' H H' → JL K L' H' → ExR L' K H' a n → E n.cls (some a) H') → codeAny (model P w) A (.call (.ref f) ⟨[], []⟩) (CR (L2.CX P w) outer P w H s Q E) s
theorem CloOk.mono {P : Program} {w : World} {K : PySem.W.Frag} {mg : Str → Option Value} {base : Heap} {n m : Nat} {G : LamF → DSp} (c : CloOk P w K mg base n G) (h : n ≤ m) : CloOk P w K mg base m G :=
  ⟨fun A outer s H f F vs ds L k x Q E hr => c.run A outer s H f F vs ds L k x Q E (hr.mono h)⟩
theorem CloOk.or {P : Program} {w : World} {K : PySem.W.Frag} {mg : Str → Option Value} {base : Heap} {n : Nat} {G G' : LamF → DSp} (c : CloOk P w K mg base n G) (c' : CloOk P w K mg base n G') : CloOk P w K mg base n (fun F ds L k x => G F ds L k x ∨ G' F ds L k x) :=
  ⟨fun A outer s H f F vs ds L k x Q E hr e0 ca j r g hk hx => g.elim (fun g => c.run A outer s H f F vs ds L k x Q E hr e0 ca j r g hk hx) (fun g => c'.run A outer s H f F vs ds L k x Q E hr e0 ca j r g hk hx)⟩
theorem lamO_at {P : Program} {w : World} {H : Hp} {h : Heap} {f c : Addr} {F : LamF} {cl : List (Str × Addr)} {dV : Value} (hok : HOk P w H h) (e : H f = some (LamO f F cl dV c)) : ∃ (od : Option Addr) (sl : Array (Option Value)) (doc pm ctv : Value), h.get? f = some (⟨.type "function", od, .func (PySem.W.kdv_fn "<lambda>" F.qual F.params (.expr F.body) F.scope cl dV doc pm (.ref c) ctv), sl⟩ : Obj) := by
  obtain ⟨z, _, _⟩ := hok f _ e
  exact z
/-- how its (left out) argument is bound -/
def BindF (F : LamF) : Prop := match F.ps with
  | [] => ∀ (cl : List (Str × Addr)) (doc pm cv ctv : Value), bindArgs (PySem.W.kdv_fn "<lambda>" F.qual F.params (.expr F.body) F.scope cl .none doc pm cv ctv) ⟨[], []⟩ = pure []
  | [x] => ∀ (cl : List (Str × Addr)) (t : Addr) (doc pm cv ctv : Value), ∃ k : Option (Array Value) → Sem (List (Str × Value)), bindArgs (PySem.W.kdv_fn "<lambda>" F.qual F.params (.expr F.body) F.scope cl (.ref t) doc pm cv ctv) ⟨[], []⟩ = seqItems? (.ref t) >>= k ∧ ∀ u, k (some #[u]) = pure [(x, u)]
  | _ => False
theorem binds_lam {P : Program} {w : World} {L : Led} {H : Hp} {s : Shared} {F : LamF} {cl : List (Str × Addr)} {dV doc pm cv ctv : Value} (b : BindF F) (hok : HOk P w H s.heap) (d : DvAt L H F.ps.length dV) :
    ∃ us : List Value, Vals (List.replicate F.ps.length (.int 0)) us ∧ BindsTo s (PySem.W.kdv_fn "<lambda>" F.qual F.params (.expr F.body) F.scope cl dV doc pm cv ctv) ⟨[], []⟩ (F.ps.zip us) := by
  unfold BindF at b
  split at b
  · rename_i e
    rw [e] at d ⊢
    rcases d with ⟨_, e2⟩ | ⟨z, t, e2, _, ht⟩
    · subst e2
      exact ⟨[], .nil, .of_eq (b cl doc pm cv ctv)⟩
    · exact absurd rfl z
  · rename_i x e
    rw [e] at d ⊢
    rcases d with ⟨z, _⟩ | ⟨_, t, e2, _, ht⟩
    · cases z
    · subst e2
      obtain ⟨_, its, rv, o, h1, h2, n, h3⟩ := hok t _ ht
      obtain ⟨k, b1, b2⟩ := b cl t doc pm cv ctv
      cases rv with
      | cons r0 r1 =>
        cases r1
        rename_i u
        exact ⟨[u], .cons r0 .nil, BindsTo.of_defaults rfl h1 h3 b1 (b2 u)⟩
  · exact b.elim
def nfOf (F : LamF) (cl : List (Str × Addr)) (c : Addr) : NdefX.NF := ⟨"<lambda>", F.qual, F.params, [], F.scope, cl, c⟩
/-- the slots at a lambda's entry -/
def lamEnvD (N : List Str) (F : LamF) (ds : List D) : DEnv := List.replicate F.ps.length (some (.int 0)) ++ (ds.map some ++ List.replicate (N.length - F.ps.length - ds.length) none)
theorem sto_rep {L : Led} {K : PySem.W.Frag} {H : Hp} {σ : L2.St} {e : DEnv} (h : Sto L K H σ e) : ∀ m : Nat, Sto L K H (List.replicate m (some (.int 0)) ++ σ) (List.replicate m (some (.int 0)) ++ e)
  | 0 => h
  | m + 1 => by
    rw [List.replicate_succ, List.replicate_succ, List.cons_append, List.cons_append]
    exact .sm (.int 0) (sto_rep h m)
theorem sto_lam {L : Led} {K : PySem.W.Frag} {H : Hp} {N : List Str} {F : LamF} {vs : List V} {ds : List D} (r : RpAll L K H vs ds) : Sto L K H (NdefX.startF N (List.replicate F.ps.length (.int 0)) (vs.map some)) (lamEnvD N F ds) := by
  unfold NdefX.startF lamEnvD
  rw [List.map_replicate, List.length_replicate, List.length_map, r.length]
  have h1 : Sto L K H (vs.map some ++ List.replicate (N.length - F.ps.length - ds.length) none) (ds.map some ++ List.replicate (N.length - F.ps.length - ds.length) none) := Sto.start r
  exact sto_rep h1 _
section
variable {P : Program} {w : World} {K : PySem.W.Frag} {mg : Str → Option Value} {base : Heap}
theorem clo_of {F : LamF} {N : List Str} {k : Nat} {g : DSp} (S : NdefX.NScope N F.ps F.fr F.scope) (hb : BindF F)
    (body : ∀ (cl : List (Str × Addr)) (c f : Addr) (A : Around) (outer : List Env) (s : Shared) (H : Hp) (E : XK), Room k (A.deeper (NdefX.envF (nfOf F cl c) f s.heap.objs.size)) →
      ∃ t, QE (NdefX.ncx (L2.CX P w) P w K mg base N (nfOf F cl c) f A outer s H E) (wxOf E) F.body t ∧ ∀ ds L k x, g ds L k x → t (lamEnvD N F ds) L k fun n _ L' => x n L') :
    CloOk P w K mg base (k + 1) (fun F' ds L k x => F' = F ∧ plnL L = true ∧ plns ds = true ∧ g ds L k x) := by
  refine ⟨fun A outer s H f F' vs ds L kk x Q E hr e0 ca j r hg hk hx => ?_⟩
  obtain ⟨rfl, pL, pd, hg⟩ := hg
  obtain ⟨cl, ⟨nf, c, dV, hf, nc, hco, hdv⟩, hlen, hinj, hin, hcells⟩ := ca
  obtain ⟨od, sl, doc, pm, ctv, ho⟩ := lamO_at e0.hok hf
  have lim : s.heap.NoLimit := e0.mod.nolimit.keeps fun b o e => (e0.bs b o e).1
  -- the cells
  open Classical in
  let cel : Cel := fun b => if (∃ y, cl.lookup y = some b) then (match H b with | some (.frz o (.own 0)) => some o | _ => none) else none
  have hc : ∀ b o, cel b = some o → H b = some (celO o) := fun b o e => by
    have e : (if (∃ y, cl.lookup y = some b) then (match H b with | some (.frz o (.own 0)) => some o | _ => none) else none) = some o := e
    split at e
    · split at e
      · rename_i q; cases e; exact q
      · cases e
    · cases e
  have hcc : ∀ (y : Str) (b : Addr) (o : Obj), cl.lookup y = some b → H b = some (celO o) → cel b = some o := fun y b o e1 e2 => by
    show (if (∃ y, cl.lookup y = some b) then (match H b with | some (.frz o (.own 0)) => some o | _ => none) else none) = some o
    rw [if_pos ⟨y, e1⟩, e2]
    rfl
  have e1 := env0_del hc e0
  have C : NdefX.CellsAt cl F'.fr (vs.map some) s.heap (delC cel H) := by
    refine ⟨by rw [List.length_map]; exact hlen, fun y b e => ?_, hinj, fun i y e => ?_⟩
    · obtain ⟨i, hi⟩ := List.mem_iff_getElem?.mp (hin y b e)
      obtain ⟨cc, oc, u, v, q1, _, q2, q3, _⟩ := hcells i y hi
      rw [e] at q1
      cases q1
      exact ⟨delC_in (hcc y b oc e q2), some u, oc, (e0.hok b _ q2).1, q3⟩
    · obtain ⟨cc, oc, u, v, q1, _, q2, q3, q4, q5⟩ := hcells i y e
      refine ⟨cc, q1, fun v' hv => ?_⟩
      rw [List.getElem?_map, q4] at hv
      cases hv
      exact ⟨u, q5, oc, (e0.hok cc _ q2).1, q3⟩
  obtain ⟨us, hus, hbind⟩ := binds_lam (P := P) (w := w) (cl := cl) (doc := doc) (pm := pm) (cv := .ref c) (ctv := ctv) hb e0.hok hdv
  refine codeAny_mono (R := CR (L2.CX P w) outer P w (delC cel H) s (fun v H' => (∀ b o, cel b = some o → H' b = none) → Q v (addC cel H')) (fun cls d H' => (∀ b o, cel b = some o → H' b = none) → E cls d (addC cel H'))) ?_ fun r' s' q => cr_add hc e0.hok e0.frf q
  refine PySem.W.kla_callFunE hr.depth ho rfl S.co S.gen rfl (NdefX.codeO_at e0.hok hco) (hbind _ _ _ _ ?_)
  refine wpAny_newFunctionEnv S.nocell (fun ⟨n, _⟩ hy => S.par n (List.of_mem_zip hy).1) (fun h₁ hns hsb => ⟨lim.fresh _ hsb, ?_⟩) S.kind
  show codeAny _ _ (.expr F'.body (NdefX.envF (nfOf F' cl c) f s.heap.objs.size)) _ _
  have kp : ∀ b o, s.heap.get? b = some o → h₁.get? b = some o := fun b o e => hsb.extBut b o (Nat.ne_of_lt (Heap.lt_size e)) (Heap.get?_push_of_some _ e)
  obtain ⟨t, qe, ht⟩ := body cl c f A outer s (delC cel H) (fun cls d H' => (∀ b o, cel b = some o → H' b = none) → E cls d (addC cel H')) (hr.deeper _)
  obtain ⟨te, pe, se⟩ := qe.ex
  have I := NdefX.inv_startN (CX := L2.CX P w) (F := nfOf F' cl c) (f := f) (E := fun cls d H' => (∀ b o, cel b = some o → H' b = none) → E cls d (addC cel H')) (tk := s.toks + (F'.ps.zip us).length) S hr.hd e1 (List.length_replicate) hus C hns kp
  refine PySem.W.kla_codeExpr (wpAny_mono (pe.run [] _ _ (delC cel H) (fun v H' => (∀ b o, cel b = some o → H' b = none) → Q v (addC cel H')) I ?_) (fun v s' hq => ?_) fun e s' hq => hq)
  · refine se _ (delC cel H) (lamEnvD N F' ds) L kk (fun n _ L' => x n L') _ ⟨sto_lam (r.del hc pd), j.del hc pL⟩ (ht ds L kk x hg) (fun d L' v H' q g' j' r' cn => ?_) (fun n env' L' a H' σ' q g' st' r' cn => ?_)
    · have s1 := same_add (H := H') cn
      exact hk d L' v (addC cel H') q (go_back hc cn j' g') (j'.same s1) (r'.go (Go.same s1))
    · have s1 := same_add (H := H') cn
      obtain ⟨na, vs', e1, e2, e3⟩ := r'
      exact hx n L' a (addC cel H') q (go_back hc cn st'.2 g') (st'.2.same s1) ⟨na, vs', s1 a _ e1, e2, e3.go (Go.same s1)⟩
  · obtain ⟨v', H', J', rv, q⟩ := hq
    exact ⟨v', H', J'.os, J'.bare, J'.base, J'.hok, rv, q⟩
end
end DL

namespace DL
open PySem PySem.Spec PyProof.Rows L2
section
variable {X : Cx} {Wx : WX} {a b c e o : Expr} {es rest : List Expr} {da db dc de do' : DE} {dt du : DT} {dl dk : DA} {pos : Pos}
/-! ### x(), x a lambda -/
def dCallClo (G : LamF → DSp) (i : Nat) : DE := fun env L k x => match env[i]? with
  | some (some (.clo F ds)) => G F ds L k fun n L' => x n env L'
  | _ => False
def tCallClo (K : PySem.W.Frag) (G : LamF → DSp) (i : Nat) (Wx : WX) : TE := fun σ H Q => ∃ f F vs ds L k x, σ[i]? = some (some (.ref f)) ∧ CloAt L H f F vs ∧ JL K L H ∧ RpAll L K H vs ds ∧ G F ds L k x ∧ KOk K L H k Q ∧ ∀ n L' a H', x n L' → Go L L' H H' → JL K L' H' → ExR L' K H' a n → Wx n.cls (some a) σ H'
theorem pe_callClo {x : Str} {p1 p2 : Pos} {k n i : Nat} {G : LamF → DSp} (C : CloOk X.prog X.w X.K X.mg X.base n G) (hn : n ≤ k) (hr : Room k X.A) (tk : Takes X Wx) (hN : X.N[i]? = some x) (hv : Vis X.env.scope x) (hd : (x == ("__debug__" : Str)) = false := by decide) (hcd : (x == ("__classdict__" : Str)) = false := by decide) :
    PE X (.Call (.Name x p1) [] [] p2) (tCallClo X.K G i Wx) := by
  refine ⟨fun pins s σ H Q I h => ?_⟩
  obtain ⟨f, F, vs, ds, L, kk, xx, hs, ca, j, r, g, hk, hx⟩ := h
  refine wpAny_Call_Name_kw (thn ((pe_var (pos := p1) (i := i) hN hv hd hcd).run pins s σ H (fun v H1 => v = .ref f ∧ H1 = H) I ⟨.ref f, hs, rfl, rfl⟩) fun u s1 ⟨v, H1, I1, r1, q1⟩ => ?_)
  obtain ⟨ev, eH⟩ := q1
  subst ev
  rw [eH] at I1
  obtain rfl : u = Value.ref f := r1
  obtain ⟨cl, ⟨nf, c, dV, hf, _⟩, _⟩ := id ca
  obtain ⟨od, sl, doc, pm, ctv, ho⟩ := lamO_at I1.hok hf
  refine PySem.W.callWith_F0 ⟨_, _, _, _, ho⟩ ?_
  have rc := C.run X.A X.stack s1 H f F vs ds L kk xx Q (WE Wx σ) (hr.mono hn) I1.env0 ca j r g hk hx
  refine wpAny_call (codeAny_mono rc fun r' s' hq => ?_)
  cases r' with
  | error e => exact passAt tk σ pins H s1 e s' I1 hq
  | ok fl =>
    cases fl with
    | ret u => exact I1.after hq
    | next => exact False.elim hq
    | brk => exact False.elim hq
    | cont => exact False.elim hq
theorem q_callClo {x : Str} {p1 p2 : Pos} {k n : Nat} (i : Nat) {G : LamF → DSp} (C : CloOk X.prog X.w X.K X.mg X.base n G) (hn : n ≤ k) (hr : Room k X.A) (tk : Takes X Wx) (hN : X.N[i]? = some x := by rfl) (hv : Vis X.env.scope x := by first | exact Or.inl rfl | exact Or.inr (Or.inl rfl) | exact Or.inr (Or.inr rfl)) (hd : (x == ("__debug__" : Str)) = false := by decide) (hcd : (x == ("__classdict__" : Str)) = false := by decide) :
    QE X Wx (.Call (.Name x p1) [] [] p2) (dCallClo G i) := by
  refine ⟨_, pe_callClo (p1 := p1) (p2 := p2) (i := i) C hn hr tk hN hv hd hcd, fun σ H env L kk xx Q st h hk hx => ?_⟩
  unfold dCallClo at h
  split at h
  · rename_i F ds he
    obtain ⟨v, hs, rv⟩ := st.1.get he
    cases rv with
    | clo ca r => exact ⟨_, F, _, ds, L, kk, fun n L' => xx n env L', hs, ca, st.2, r, h, hk, fun n L' a H' q g' j' r' => hx n env L' a H' σ q g' (st.go g' j') r'⟩
  · exact h.elim
/-! ### lambdas handed to a def -/
/-- how the running frame's names lie to what a lambda captures: js the slots -/
def capB (sc : Scope) (N : List Str) (F : LamF) (js : List Nat) : Bool :=
  (F.scope.names.all fun y => !decide (y.2 = .free) || decide (sc.names.lookup y.1 = some .cell) || decide (sc.names.lookup y.1 = some .free)) && (F.fr.all fun y => decide ((y, NameKind.free) ∈ F.scope.names)) && (F.scope.names.all fun y => !decide (y.2 = .free) || decide (y.1 ∈ F.fr)) && decide (js.map (fun j => N[j]?) = F.fr.map some)
mutual
inductive Close (sc : Scope) (N : List Str) (cells : List (Str × Addr)) (env : DEnv) : D → D → Prop
  | refl (d : D) : Close sc N cells env d d
  | fnv {F : LamF} {js : List Nat} {ds : List D} : capB sc N F js = true → js.map (fun j => env[j]?) = ds.map (fun d => some (some d)) → Close sc N cells env (.fnv F (cloFrom cells F.scope.names [])) (.clo F ds)
  | lst {xs ys : List D} : CloseL sc N cells env xs ys → Close sc N cells env (.lst xs) (.lst ys)
inductive CloseL (sc : Scope) (N : List Str) (cells : List (Str × Addr)) (env : DEnv) : List D → List D → Prop
  | nil : CloseL sc N cells env [] []
  | cons {x y : D} {xs ys : List D} : Close sc N cells env x y → CloseL sc N cells env xs ys → CloseL sc N cells env (x :: xs) (y :: ys)
end
/-- what is known of the cells while a def is called -/
structure CelX (X : Cx) (cel : Cel) (σ : L2.St) (H : Hp) : Prop where
  free : ∀ b o, cel b = some o → H b = none
  has : ∀ (j : Nat) (y : Str) (v : V) (cc : Addr), X.N[j]? = some y → σ[j]? = some (some v) → X.env.cells.lookup y = some cc → (X.env.scope.names.lookup y = some .cell ∨ X.env.scope.names.lookup y = some .free) → ∃ oc u, cel cc = some oc ∧ oc.data = .cell (some u) ∧ RelV v u
theorem capB_of (ok : X.Ok) {F : LamF} {js : List Nat} (h : capB X.env.scope X.N F js = true) : NdefX.Caps X (cloFrom X.env.cells F.scope.names []) F.fr js ∧ ∀ y c, (cloFrom X.env.cells F.scope.names []).lookup y = some c → y ∈ F.fr := by
  unfold capB at h
  simp only [Bool.and_eq_true, List.all_eq_true, Bool.or_eq_true, Bool.not_eq_true', decide_eq_true_eq, decide_eq_false_iff_not] at h
  obtain ⟨⟨⟨h1, h2⟩, h3⟩, h4⟩ := h
  have hfree : ∀ y ∈ F.scope.names, y.2 = .free → X.env.scope.names.lookup y.1 = some .cell ∨ X.env.scope.names.lookup y.1 = some .free := fun y hy e => by
    rcases h1 y hy with (z | z) | z
    · exact absurd e z
    · exact .inl z
    · exact .inr z
  refine ⟨NdefX.Caps.made ok hfree h2 h4, fun y c e => ?_⟩
  rcases cloFrom_mem (PySem.mem_of_lookup e) with hm | ⟨q1, q2⟩
  · cases hm
  · rcases h3 _ q1 with z | z
    · exact absurd rfl z
    · exact z
section
variable {L : Led} {H : Hp} {cel : Cel} {σ : L2.St} {env : DEnv}
theorem slot_get {js : List Nat} : ∀ {ds : List D} {js : List Nat}, Sto L X.K H σ env → js.map (fun j => env[j]?) = ds.map (fun d => some (some d)) → ∃ vs : List V, js.map (fun j => σ[j]?) = vs.map (fun v => some (some v)) ∧ RpAll L X.K H vs ds
  | [], [], st, _ => ⟨[], rfl, .nil⟩
  | [], _ :: _, _, h => by simp at h
  | _ :: _, [], _, h => by simp at h
  | d :: ds, j :: js, st, h => by
    rw [List.map_cons, List.map_cons] at h
    obtain ⟨h1, h2⟩ := List.cons.inj h
    obtain ⟨v, e, r⟩ := st.get h1
    obtain ⟨vs, e2, r2⟩ := slot_get (js := js) st h2
    exact ⟨v :: vs, by rw [List.map_cons, List.map_cons, e, e2], .cons r r2⟩
theorem fnv_add (cx : CelX X cel σ H) {f : Addr} {F : LamF} {cl : List (Str × Addr)} (h : FnvAt L H f F cl) : FnvAt L (addC cel H) f F cl := (Go.same (same_add cx.free)).fnv h
mutual
theorem Close.rp (ok : X.Ok) (cx : CelX X cel σ H) (nl : ∀ b o, cel b = some o → ¬ inL L b) (st : Sto L X.K H σ env) : ∀ {v : V} {d d' : D}, Close X.env.scope X.N X.env.cells env d d' → Rp L X.K H v d → Rp L X.K (addC cel H) v d'
  | _, _, _, .refl d, r => r.go (Go.same (same_add cx.free))
  | _, _, _, .fnv (F := F) (js := js) (ds := ds) hb hj, r => by
    cases r with
    | fnv fa =>
      obtain ⟨cp, hin⟩ := capB_of ok hb
      obtain ⟨vs, e1, rv⟩ := slot_get (js := js) st hj
      refine .clo ⟨_, fnv_add cx fa, ?_, fun x y c e e' => ok.inj x y c (cp.sub x c e) (cp.sub y c e'), hin, fun i y hy => ?_⟩ (rv.go (Go.same (same_add cx.free)))
      · have l1 := congrArg List.length e1
        have l2 := congrArg List.length cp.at_
        rw [List.length_map, List.length_map] at l1 l2
        omega
      · have hjs : (js.map (fun j => X.N[j]?))[i]? = some (some y) := by rw [cp.at_, List.getElem?_map, hy]; rfl
        rw [List.getElem?_map] at hjs
        cases hji : js[i]? with
        | none => rw [hji] at hjs; cases hjs
        | some j =>
          rw [hji] at hjs
          have hNj : X.N[j]? = some y := Option.some.inj hjs
          have hv : (js.map (fun j => σ[j]?))[i]? = some σ[j]? := by rw [List.getElem?_map, hji]; rfl
          rw [e1, List.getElem?_map] at hv
          cases hvi : vs[i]? with
          | none => rw [hvi] at hv; cases hv
          | some v =>
            rw [hvi] at hv
            have hσ : σ[j]? = some (some v) := (Option.some.inj hv).symm
            have hm : y ∈ F.fr := List.mem_of_getElem? hy
            obtain ⟨cc, hcc⟩ := ok.has y (cp.kin y hm)
            obtain ⟨oc, u, h1, h2, h3⟩ := cx.has j y v cc hNj hσ hcc (cp.kin y hm)
            exact ⟨cc, oc, u, v, cp.sup y hm cc hcc, nl cc oc h1, addC_in h1, h2, rfl, h3⟩
  | _, _, _, .lst hl, r => by
    cases r with
    | lst n h r => exact .lst n (same_add cx.free _ _ h) (CloseL.rp ok cx nl st hl r)
theorem CloseL.rp (ok : X.Ok) (cx : CelX X cel σ H) (nl : ∀ b o, cel b = some o → ¬ inL L b) (st : Sto L X.K H σ env) : ∀ {vs : List V} {ds ds' : List D}, CloseL X.env.scope X.N X.env.cells env ds ds' → RpAll L X.K H vs ds → RpAll L X.K (addC cel H) vs ds'
  | _, _, _, .nil, .nil => .nil
  | _, _, _, .cons h t, .cons r q => .cons (Close.rp ok cx nl st h r) (CloseL.rp ok cx nl st t q)
end
end
/-- f(..) with lambdas among the arguments -/
def dCallC (sc : Scope) (N : List Str) (cells : List (Str × Addr)) (g : DSp) (dd : List D) (dl : DA) : DE := fun env L k x => dl env L (fun ds L1 => ∃ ds', CloseL sc N cells env ds ds' ∧ g (ds' ++ dd) L1 (fun d L' => pln d = true ∧ plnL L' = true ∧ k d L') fun n L' => plns n.vs = true ∧ plnL L' = true ∧ x n env L') x
def tCallC (X : Cx) (sp : Sp) (dvs : List V) (Wx : WX) (t : TA) : TE := fun σ H Q => t σ H fun vs H1 => ∀ cel : Cel, X.Ok → CelX X cel σ H1 → sp (vs ++ dvs) (addC cel H1) (fun v H' => Q v (delC cel H')) (fun cls d H' => Wx cls d σ (delC cel H'))
theorem pe_callC {x : Str} {p : Pos} {k : Nat} {f : Addr} {fd : FuncData} {ps : List Str} {sp : Sp} {ds : List Value} {dvs : List V} {t : TA} (F : FnOk X.prog X.w X.K X.mg X.base (L2.CX X.prog X.w) k f fd ps sp) (hr : Room k X.A) (hg : Gl X x) (hm : X.mg x = some (.ref f)) (hk : PySem.W.keepIn X.K (.ref f) = true) (hb : Binds X.K fd ps ds) (hd : Vals dvs ds) (tk : Takes X Wx) (hfn : ∀ y, X.fn y = true)
    (ha : PA X (e :: es) t) (hdb : (x == ("__debug__" : Str)) = false := by decide) (he : starEach (e :: es) X.env = (false, eval e X.env) :: starEach es X.env := by rfl) (hpl : (backTo pos (starEach es X.env)).any (·.1) = false := by rfl) :
    PE X (.Call (.Name x p) (e :: es) [] pos) (tCallC X sp dvs Wx t) := by
  refine ⟨fun pins s σ H Q I h => ?_⟩
  refine wpAny_Call_Name_kw (ld_glob I hg hm ?_ hdb)
  refine PySem.W.callWith_K (h₀ := X.base) I.ok.mod.kin hk (thn (ha.run pos pins s σ H _ I h) fun us s1 ⟨vs, H1, I1, r, q⟩ => ⟨I1.kIn, ?_⟩) he hpl
  open Classical in
  let cel : Cel := fun b => if (∃ y, X.env.cells.lookup y = some b) then s1.heap.get? b else none
  have hin : ∀ b o, cel b = some o → (∃ y, X.env.cells.lookup y = some b) ∧ s1.heap.get? b = some o := fun b o e => by
    have e : (if (∃ y, X.env.cells.lookup y = some b) then s1.heap.get? b else none) = some o := e
    split at e
    · rename_i q; exact ⟨q, e⟩
    · cases e
  have above : ∀ b o, cel b = some o → X.s_0.heap.objs.size ≤ b := fun b o e => by
    obtain ⟨⟨y, hy⟩, _⟩ := hin b o e
    exact I1.ok.cab y b (hfn y) hy
  have C : CelOk cel H1 s1.heap (frs X.stack) := by
    refine ⟨fun b o e => (hin b o e).2, fun b o e => ?_, fun b o e hb => ?_⟩
    · obtain ⟨⟨y, hy⟩, _⟩ := hin b o e
      exact I1.freeC y b hy
    · rcases List.mem_cons.mp (I1.stkSub _ hb) with z | z
      · obtain ⟨⟨y, hy⟩, _⟩ := hin b o e
        exact I1.cne y b hy z
      · obtain ⟨_, o2, ho2, _⟩ := I1.ok.funs.mem z
        exact absurd (Heap.lt_size ho2) (Nat.not_lt.mpr (above b o e))
  have CX0 : CelX X cel σ H1 := by
    refine ⟨C.free, fun j y v cc hN hσ hc hkind => ?_⟩
    obtain ⟨m, hn, hl⟩ := I1.loc
    obtain ⟨u, ru, q⟩ := hl j y v hN hσ (.inr hkind)
    rcases q with ⟨k', _⟩ | ⟨_, c3, e', z⟩
    · have k' : X.env.scope.names.lookup y = some .local := k'
      rcases hkind with k2 | k2 <;> rw [k2] at k' <;> cases k'
    · rw [hc] at e'
      cases e'
      obtain ⟨oc, ho, hd⟩ := z
      refine ⟨oc, u, ?_, hd, ru⟩
      show (if (∃ y, X.env.cells.lookup y = some cc) then s1.heap.get? cc else none) = some oc
      rw [if_pos ⟨y, hc⟩]
      exact ho
  have hq := q cel I1.ok CX0
  have hl : (us ++ ds).length = ps.length := by
    have z := F.len _ _ _ _ hq
    rw [← (r.append hd).length]
    exact z
  have rc := F.run X.A X.stack s1 (addC cel H1) ⟨us, []⟩ (us ++ ds) (vs ++ dvs) _ _ hr (env0_add C (fun b o e => Heap.get?_none_of_le (Nat.le_trans I1.ok.bsz (above b o e))) I1.env0) (hb s1 us I1.kIn hl) (r.append hd) hq
  refine wpAny_call (codeAny_mono rc fun r' s' hq => ?_)
  have hq := cr_del (Q := Q) (E := WE Wx σ) C hq
  cases r' with
  | error e => exact passAt tk σ pins H1 s1 e s' I1 hq
  | ok fl =>
    cases fl with
    | ret u => exact I1.after hq
    | next => exact False.elim hq
    | brk => exact False.elim hq
    | cont => exact False.elim hq
theorem q_calC {x : Str} {p : Pos} {n k : Nat} {ps : List Str} {g : DSp} {dd : List D} (F : Cal X.prog X.w X.K X.mg X.base n x ps dd g) (hn : n ≤ k) (hr : Room k X.A) (tk : Takes X Wx) (hfn : ∀ y, X.fn y = true) (hg : Gl X x) (ha : QA X Wx (e :: es) dl) (hdb : (x == ("__debug__" : Str)) = false := by decide)
    (he : starEach (e :: es) X.env = (false, eval e X.env) :: starEach es X.env := by rfl) (hpl : (backTo pos (starEach es X.env)).any (·.1) = false := by rfl) : QE X Wx (.Call (.Name x p) (e :: es) [] pos) (dCallC X.env.scope X.N X.env.cells g dd dl) := by
  obtain ⟨f, fd, us, dvs, F, hm, hk, hb, hd, hdd⟩ := F.ex
  obtain ⟨ta, pa, sa⟩ := ha.ex
  refine ⟨_, pe_callC F (hr.mono hn) hg hm hk hb hd tk hfn pa hdb he hpl, fun σ H env L kk xx Q st h hk hx => ?_⟩
  refine sa σ H env L _ xx _ st h (fun ds L1 vs H1 h1 g1 j1 r1 cel ok cx => ?_) hx
  obtain ⟨ds', hcl, hg⟩ := h1
  have s1 := same_add (H := H1) cx.free
  have st1 := st.go g1 j1
  have nl : ∀ b o, cel b = some o → ¬ inL L1 b := fun b o e => j1.notIn (cx.free b o e)
  refine ⟨ds' ++ dd, L1, _, _, j1.same s1, (CloseL.rp ok cx nl st1.1 hcl r1).append (hdd L1 _), hg, fun d L' v H' q g' j' r' => ?_, fun n L' a H' q g' j' r' => ?_⟩
  · have hc : ∀ b o, cel b = some o → H' b = some (celO o) := fun b o e => (g' b _ (nl b o e) (addC_in e)).2
    exact hk d L' v (delC cel H') q.2.2 (g1.trans (go_out cx.free g')) (j'.del hc q.2.1) (r'.del hc q.1)
  · have hc : ∀ b o, cel b = some o → H' b = some (celO o) := fun b o e => (g' b _ (nl b o e) (addC_in e)).2
    have gg := g1.trans (go_out cx.free g')
    have jj := j'.del hc q.2.1
    obtain ⟨na, vs', e1, e2, e3⟩ := r'
    exact hx n env L' a (delC cel H') σ q.2.2 gg (st.go gg jj) ⟨na, vs', del_keep hc e1 (fun o e => by cases e), e2, e3.del hc q.1⟩
end
end DL

namespace DL
open PySem PySem.Spec PyProof.Rows L2
section
variable {X : Cx} {pins : List (Addr × Obj)} {σ : L2.St} {H : Hp} {s : Shared}
/-! ### a lambda is made -/
theorem inv_lam {F : LamF} {cl : List (Str × Addr)} {dV : Value} {c : Addr} {o : Obj} {t' : Nat} {doc pm ctv : Value} (I : Inv X pins σ H s) (ho : o = { cls := .type "function", data := .func (PySem.W.kdv_fn "<lambda>" F.qual F.params (.expr F.body) F.scope cl dV doc pm (.ref c) ctv) }) :
    Inv X pins σ (upd H s.heap.objs.size (LamO s.heap.objs.size F cl dV c)) { s with heap := s.heap.push o, toks := t' } := by
  subst ho
  refine I.laid (a := s.heap.objs.size) (fun b u e => Heap.get?_push_of_some _ e) (Nat.le_refl _) ?_
  have e : (s.heap.push ({ cls := .type "function", data := .func (PySem.W.kdv_fn "<lambda>" F.qual F.params (.expr F.body) F.scope cl dV doc pm (.ref c) ctv) } : Obj)).get? s.heap.objs.size = some ({ cls := .type "function", data := .func (PySem.W.kdv_fn "<lambda>" F.qual F.params (.expr F.body) F.scope cl dV doc pm (.ref c) ctv) } : Obj) := Heap.get?_push_size _ rfl
  exact ⟨⟨_, _, doc, pm, ctv, e⟩, ⟨_, e⟩, fun h1 h2 ⟨od, sl, d, p, t, z⟩ st => ⟨od, sl, d, p, t, st _ z⟩⟩
/-- what is told of the heap behind: the table P has grown or not -/
structure LamPost (H H1 : Hp) (P : Addr) (ps : Array Value) (q : Str) (pos : Pos) (f c' : Addr) (F : LamF) (cl : List (Str × Addr)) (dV : Value) : Prop where
  keep : ∀ b o, H b = some o → b ≠ P → H1 b = some o
  tab : ∃ ps' : Array Value, H1 P = some (.tbl ps') ∧ TriplesOk ps'.toList ∧ ∀ (p : Pos) (cv : Value), codeAmong p ps'.toList = some cv → codeAmong p ps.toList = some cv ∨ ∃ c0, cv = .ref c0 ∧ H c0 = none ∧ H1 c0 = some (LamX.CodeO c0 q)
  f0 : H f = none
  f1 : H1 f = some (LamO f F cl dV c')
  c1 : H1 c' = some (LamX.CodeO c' q)
  c0 : H c' = none ∨ codeAmong pos ps.toList = some (.ref c')
theorem lam_tail {F : LamF} {c P : Addr} {ps : Array Value} {pos : Pos} {dV : Value} {E : Value → Shared → Prop} {Q : Value → Shared → Prop} (I : Inv X pins σ H s) (TB : LamX.TabB X.base X.mg c P) (hcode : X.env.code = .ref c)
    (hP : H P = some (.tbl ps)) (ht : TriplesOk ps.toList) (ha : ∀ (p : Pos) (cv : Value), codeAmong p ps.toList = some cv → ∃ c, cv = .ref c ∧ H c = some (LamX.CodeO c F.qual)) (hfree : ∀ y ∈ F.scope.names, y.2 = .free → ∃ c, X.env.cells.lookup y.1 = some c)
    (h : ∀ (f c' : Addr) (H1 : Hp) (s' : Shared), Inv X pins σ H1 s' → LamPost H H1 P ps F.qual pos f c' F (cloFrom X.env.cells F.scope.names []) dV → Q (.ref f) s') :
    wpAny (model X.prog X.w) X.A (makeTail "<lambda>" F.qual F.params (.expr F.body) F.scope X.env dV .none none pos pos.line) Q E s := by
  have bP : s.heap.BuiltinsAt X.mg P := TB.bm.keeps I.bk
  have hP' : s.heap.get? P = some { cls := .none, data := .fields ps } := I.hok P _ hP
  cases hc : codeAmong pos ps.toList with
  | none =>
    refine PySem.W.kdv_makeTail (mg := X.mg) (c := c) (P := P) (ps := ps) (closure_ok hfree) I.ok.glob (I.mod.glob.keeps I.bk) hcode (TB.code.keeps I.bk) hP' ht hc TB.gP bP fun c' ctv doc h' tk hx hge hlt hrec htb => ?_
    obtain ⟨c2, oc, vs, t, e2, hoc, hd, hv⟩ := hrec
    cases e2
    have nC : H c' = none := I.hok.fresh hge
    have I1 := LamX.inv_table (t' := tk) (more := #[rawInt pos.line, rawInt pos.col, .ref c']) (h' := h') I hP (fun b o hb e => hx b o hb e) htb hge ⟨oc, vs, t, hoc, hd, hv⟩
    have hE : ∀ b o, H b = some o → b ≠ P → upd (upd H P (.tbl (ps ++ #[rawInt pos.line, rawInt pos.col, .ref c']))) c' (LamX.CodeO c' F.qual) b = some o := fun b o e n => by
      rw [upd_ne (ne_of_none e nC), upd_ne n]
      exact e
    have eL : (ps ++ #[rawInt pos.line, rawInt pos.col, .ref c']).toList = ps.toList ++ [rawInt pos.line, rawInt pos.col, .ref c'] := by simp
    have nF := I1.hok.fresh (Nat.le_refl _)
    have I2 := inv_lam (F := F) (cl := cloFrom X.env.cells F.scope.names []) (dV := dV) (c := c') (t' := tk) (doc := doc) (pm := (X.mg "__name__").getD .none) (ctv := ctv) I1 rfl
    refine h h'.objs.size c' _ _ I2 ⟨fun b o e n => ?_, ⟨ps ++ #[rawInt pos.line, rawInt pos.col, .ref c'], ?_, ?_, fun p cv hcv => ?_⟩, I.hok.fresh (Nat.le_trans hge (Nat.le_of_lt hlt)), upd_same, ?_, .inl nC⟩
    · have e1 := hE b o e n
      exact (upd_ne (ne_of_none e1 nF)).trans e1
    · have e1 : upd (upd H P (.tbl (ps ++ #[rawInt pos.line, rawInt pos.col, .ref c']))) c' (LamX.CodeO c' F.qual) P = some (.tbl (ps ++ #[rawInt pos.line, rawInt pos.col, .ref c'])) := by rw [upd_ne (ne_of_none hP nC), upd_same]
      exact (upd_ne (ne_of_none e1 nF)).trans e1
    · rw [eL]
      exact PySem.TriplesOk_snoc _ _ _ _ ht
    · rw [eL] at hcv
      rcases NdefX.among_app2 _ ht hcv with z | ⟨z, _, _⟩
      · exact .inl z
      · exact .inr ⟨c', z, nC, (upd_ne (Nat.ne_of_lt hlt)).trans upd_same⟩
    · exact (upd_ne (Nat.ne_of_lt hlt)).trans upd_same
  | some cv =>
    obtain ⟨c', e, hco⟩ := ha pos cv hc
    subst e
    refine PySem.W.kdv_makeTailHit (mg := X.mg) (c := c) (P := P) (ps := ps) (closure_ok hfree) I.ok.glob (I.mod.glob.keeps I.bk) hcode (TB.code.keeps I.bk) hP' ht hc bP fun ctv doc h' tk hx hsz => ?_
    have I1 : Inv X pins σ H { s with heap := h', toks := tk } := I.kept hx
    have nF : H h'.objs.size = none := I1.hok.fresh (Nat.le_refl _)
    have I2 := inv_lam (F := F) (cl := cloFrom X.env.cells F.scope.names []) (dV := dV) (c := c') (t' := tk) (doc := doc) (pm := (X.mg "__name__").getD .none) (ctv := ctv) I1 rfl
    refine h h'.objs.size c' _ _ I2 ⟨fun b o e n => ?_, ⟨ps, ?_, ht, fun p cv hcv => .inl hcv⟩, nF, upd_same, ?_, .inr hc⟩
    · exact (upd_ne (ne_of_none e nF)).trans e
    · exact (upd_ne (ne_of_none hP nF)).trans hP
    · exact (upd_ne (ne_of_none hco nF)).trans hco
end
section
variable {X : Cx} {Wx : WX}
/-- its default: none, or 0 -/
def DfOk (F : LamF) : Prop := F.params.kw_defaults = [] ∧ ((F.ps = [] ∧ F.params.defaults = []) ∨ ∃ x j p, F.ps = [x] ∧ F.params.defaults = [.Constant (.int 0) j p])
def tLamD (P : Addr) (pos : Pos) (F : LamF) (cl : List (Str × Addr)) : TE := fun _ H Q => ∃ ps : Array Value, H P = some (.tbl ps) ∧ TriplesOk ps.toList ∧ (∀ (p : Pos) (cv : Value), codeAmong p ps.toList = some cv → ∃ c, cv = .ref c ∧ H c = some (LamX.CodeO c F.qual)) ∧
  ∀ (f c' : Addr) (dV : Value) (H0 H1 : Hp), (F.ps = [] ∧ dV = .none ∧ H0 = H ∨ ∃ t, dV = .ref t ∧ F.ps.length = 1 ∧ H t = none ∧ H0 = upd H t (.tup [.int 0])) → LamPost H0 H1 P ps F.qual pos f c' F cl dV → Q (.ref f) H1
theorem pe_lamD {F : LamF} {c P : Addr} {pos : Pos} (TB : LamX.TabB X.base X.mg c P) (hcode : X.env.code = .ref c) (hq : X.env.qual ++ "<lambda>" = F.qual) (hfree : ∀ y ∈ F.scope.names, y.2 = .free → X.env.scope.names.lookup y.1 = some .cell ∨ X.env.scope.names.lookup y.1 = some .free) (hd : DfOk F) :
    PE X (.Lambda F.params F.body F.scope pos) (tLamD P pos F (cloFrom X.env.cells F.scope.names [])) := by
  refine ⟨fun pins s σ H Q I h => ?_⟩
  obtain ⟨ps, hP, ht, ha, h⟩ := h
  have hfr : ∀ y ∈ F.scope.names, y.2 = .free → ∃ c, X.env.cells.lookup y.1 = some c := fun y hy e => (hfree y hy e).elim (fun z => I.ok.has _ (.inl z)) fun z => I.ok.has _ (.inr z)
  obtain ⟨hk0, hd | ⟨x, j, p, hx, hd⟩⟩ := hd
  · refine PySem.W.kla_eval (by rw [defaultsOf_eq, hd.2, hk0]; rfl) ?_
    rw [hq, makeFunction_eq]
    simp only [List.zip_nil_right, List.filterMap_nil, List.isEmpty_nil, if_true, pure_bind]
    exact lam_tail I TB hcode hP ht ha hfr fun f c' H1 s' I1 po => ⟨.ref f, H1, I1, rfl, h f c' .none H H1 (.inl ⟨hd.1, rfl, rfl⟩) po⟩
  · refine PySem.W.kdv_lam (by rw [hd]; rfl) hk0 ?_
    rw [hd]
    refine PySem.W.kdv_all1 (thn ((pe_int (X := X) (i := 0) (j := j) (pos := p)).run pins s σ H (fun v H1 => v = .int 0 ∧ H1 = H) I ⟨rfl, rfl⟩) fun u s1 ⟨v, H1, I1, r1, q1⟩ => ?_)
    obtain ⟨ev, eH⟩ := q1
    subst ev
    rw [eH] at I1
    refine PySem.W.kdv_all0 ?_
    rw [hq, makeFunction_eq]
    simp only [List.zip_nil_right, List.filterMap_nil, List.isEmpty_nil, List.isEmpty_cons, if_true, if_false, Bool.false_eq_true, pure_bind]
    refine wpAny_bind (wpAny_newTextTuple ?_)
    have nT : H s1.heap.objs.size = none := I1.hok.fresh (Nat.le_refl _)
    have I2 : Inv X pins σ (upd H s1.heap.objs.size (.tup [.int 0])) { s1 with heap := s1.heap.push { cls := .type "tuple", data := .seq [u].toArray } } :=
      I1.laid (a := s1.heap.objs.size) (t' := s1.toks) (fun b u e => Heap.get?_push_of_some _ e) (Nat.le_refl _) ⟨by decide, [u], .cons r1 .nil, _, Heap.get?_push_size _ rfl, rfl, 0, rfl⟩
    have hP2 : upd H s1.heap.objs.size (.tup [.int 0]) P = some (.tbl ps) := by rw [upd_ne (ne_of_none hP nT)]; exact hP
    exact lam_tail I2 TB hcode hP2 ht (fun p cv hc => by
      obtain ⟨c, e1, e2⟩ := ha p cv hc
      exact ⟨c, e1, by rw [upd_ne (ne_of_none e2 nT)]; exact e2⟩) hfr fun f c' H1 s' I1 po => ⟨.ref f, H1, I1, rfl, h f c' _ _ H1 (.inr ⟨_, rfl, by rw [hx]; rfl, nT, rfl⟩) po⟩
def dLam (P : Addr) (F : LamF) (cl : List (Str × Addr)) : DE := fun _ L k _ => L.lookup P = some (.tab F.qual) ∧ k (.fnv F cl) L
def freeB (sc : Scope) (F : LamF) : Bool := F.scope.names.all fun y => !decide (y.2 = .free) || decide (sc.names.lookup y.1 = some .cell) || decide (sc.names.lookup y.1 = some .free)
theorem q_lam {F : LamF} {c P : Addr} {pos : Pos} (TB : LamX.TabB X.base X.mg c P) (hcode : X.env.code = .ref c) (hd : DfOk F) (hq : X.env.qual ++ "<lambda>" = F.qual := by rfl) (hfree : freeB X.env.scope F = true := by decide +kernel) :
    QE X Wx (.Lambda F.params F.body F.scope pos) (dLam P F (cloFrom X.env.cells F.scope.names [])) := by
  refine ⟨_, pe_lamD (pos := pos) TB hcode hq (fun y hy e => ?_) hd, fun σ H env L k x Q st h hk hx => ?_⟩
  · have z := List.all_eq_true.mp hfree y hy
    simp only [Bool.or_eq_true, Bool.not_eq_true', decide_eq_true_eq, decide_eq_false_iff_not] at z
    rcases z with (z | z) | z
    · exact absurd e z
    · exact .inl z
    · exact .inr z
  · obtain ⟨hl, h⟩ := h
    have pin := inL_of_lookup hl
    obtain ⟨ps, hP, ht, ha⟩ := (show ∃ ps : Array Value, H P = some (.tbl ps) ∧ TriplesOk ps.toList ∧ ∀ (pos : Pos) (cv : Value), codeAmong pos ps.toList = some cv → ∃ c, cv = .ref c ∧ ¬ inL L c ∧ H c = some (LamX.CodeO c F.qual) from st.2.look hl)
    refine ⟨ps, hP, ht, fun p cv hc => ?_, fun f c' dV H0 H1 hdv po => ?_⟩
    · obtain ⟨c, e1, _, e2⟩ := ha p cv hc
      exact ⟨c, e1, e2⟩
    · -- from H to H0
      have s0 : Same H H0 := by
        rcases hdv with ⟨_, _, e⟩ | ⟨t, _, _, nt, e⟩
        · rw [e]; exact Same.refl H
        · rw [e]; exact same_new nt _
      have j0 := st.2.same s0
      have n0 : ∀ b, H0 b = none → H b = none := fun b e => by
        cases q : H b with
        | none => rfl
        | some u => rw [s0 b u q] at e; cases e
      have g01 : Go L L H0 H1 := fun b u n e => ⟨n, po.keep b u e fun z => n (z ▸ pin)⟩
      have g : Go L L H H1 := (Go.same s0).trans g01
      have pP : ∀ u, H0 P = some u → False → H1 P = some u := fun _ _ z => z.elim
      have nc : ¬ inL L c' := by
        rcases po.c0 with z | z
        · exact st.2.notIn (n0 c' z)
        · obtain ⟨c, e1, n, _⟩ := ha pos _ z
          cases e1
          exact n
      have j1 : JL X.K L H1 := by
        refine ⟨st.2.nd, fun a d m => ?_⟩
        by_cases hap : a = P
        · subst hap
          have e1 : d = .tab F.qual := by
            have m2 := mem_of_lookup hl
            have key : ∀ {l : Led}, (l.map (·.1)).Nodup → ∀ {x y : D}, (a, x) ∈ l → (a, y) ∈ l → x = y := by
              intro l
              induction l with
              | nil => intro _ x y h; cases h
              | cons p r ih =>
                intro nd x y h1 h2
                rw [List.map_cons, List.nodup_cons] at nd
                rcases List.mem_cons.mp h1 with e1 | e1 <;> rcases List.mem_cons.mp h2 with e2 | e2
                · rw [← e1] at e2; cases e2; rfl
                · subst e1; exact absurd (List.mem_map.mpr ⟨_, e2, rfl⟩) nd.1
                · subst e2; exact absurd (List.mem_map.mpr ⟨_, e1, rfl⟩) nd.1
                · exact ih nd.2 e1 e2
            exact key st.2.nd m m2
          subst e1
          obtain ⟨ps', q1, q2, q3⟩ := po.tab
          refine ⟨ps', q1, q2, fun p cv hc => ?_⟩
          rcases q3 p cv hc with z | ⟨c0, e1, e2, e3⟩
          · obtain ⟨c, e1, n, e2⟩ := ha p cv z
            exact ⟨c, e1, n, (g c _ n e2).2⟩
          · exact ⟨c0, e1, st.2.notIn (n0 c0 e2), e3⟩
        · exact Own.move (st.2.own a d m) g fun u e => po.keep a u (s0 a u e) hap
      refine hk _ L _ H1 h g j1 (.fnv ⟨st.2.notIn (n0 f po.f0), c', dV, po.f1, nc, po.c1, ?_⟩)
      rcases hdv with ⟨e1, e2, _⟩ | ⟨t, e1, e2, nt, e⟩
      · exact .inl ⟨by rw [e1]; rfl, e2⟩
      · refine .inr ⟨by omega, t, e1, st.2.notIn nt, ?_⟩
        have h0 : H0 t = some (.tup [.int 0]) := by rw [e]; exact upd_same
        rw [e2]
        exact po.keep t _ h0 fun z => by
          obtain ⟨o, ho⟩ := Own.there (st.2.look hl)
          rw [← z, nt] at ho
          cases ho
end
end DL

namespace DL
open PySem PySem.Spec PyProof.Rows L2
/-! ### try: .. except tst as n: .. -/
/-- a clause's test: which classes it takes -/
def Tst (X : Cx) (tst : Expr) (m : Value → Option Bool) : Prop := ∀ (a : Addr) (pn pins : List (Addr × Obj)) (σ : L2.St) (H : Hp) (s : Shared) (cls : Value) (b : Bool) (Q : Bool → Shared → Prop) (E E' : Value → Shared → Prop), Inv (X.suite a pn) pins σ H s →
  PySem.W.Looks (model X.prog X.w) s.heap (typeOf (.ref a)) cls → m cls = some b → (∀ h' tk, (∀ q o, s.heap.get? q = some o → h'.get? q = some o) → Q b { s with heap := h', toks := tk }) →
  wpAny (model X.prog X.w) (X.A.mark (some (.ref a))) (eval tst X.env) (fun c s1 => wpAny (model X.prog X.w) (X.A.mark (some (.ref a))) (excMatches (.ref a) c) Q E s1) E' s
section
variable {X : Cx}
theorem nm_at {x : Str} {c : Value} {p : Pos} {a : Addr} {pn pins : List (Addr × Obj)} {σ : L2.St} {H : Hp} {s : Shared} {Q : Value → Shared → Prop} {E : Value → Shared → Prop} (hc : Names X x c) (S3 : Inv (X.suite a pn) pins σ H s) (q : Q c s) : wpAny (model X.prog X.w) (X.A.mark (some (.ref a))) (eval (.Name x p) X.env) Q E s := by
  obtain ⟨hg, hdbg, hm | ⟨hm, hv, hnn⟩⟩ := hc
  · exact ld_glob (X := X.suite a pn) S3 hg hm q hdbg
  · exact ld_blt (X := X.suite a pn) S3 hg hm hv q hnn hdbg
theorem tst_one {x : Str} {c : Value} {p : Pos} (hc : Names X x c) : Tst X (.Name x p) (fun cls => PySem.W.exmOne X.K cls c) := fun a pn pins σ H s cls b Q E E' I LT hm q => by
  refine nm_at hc I ?_
  exact (PySem.W.exm_one (M := model X.prog X.w) I.kIn LT hm).here (q s.heap s.toks fun _ _ e => e)
theorem tst_3 {x1 x2 x3 : Str} {c1 c2 c3 : Value} {p1 p2 p3 tp : Pos} {kk : Nat} (n1 : Names X x1 c1) (n2 : Names X x2 c2) (n3 : Names X x3 c3) : Tst X (.Tuple [.Name x1 p1, .Name x2 p2, .Name x3 p3] kk tp) (fun cls => PySem.W.exmAny X.K cls [c1, c2, c3]) := fun a pn pins σ H s cls b Q E E' I LT hm q => by
  refine wpAny_Tuple ?_
  show wpAny _ _ (spliced ((false, eval (.Name x1 p1) X.env) :: (false, eval (.Name x2 p2) X.env) :: (false, eval (.Name x3 p3) X.env) :: [])) _ _ s
  refine Calls.spliced_cons (nm_at n1 I ?_)
  refine Calls.spliced_cons (nm_at n2 I ?_)
  refine Calls.spliced_cons (nm_at n3 I ?_)
  refine Calls.spliced_nil ⟨by size_fits, ?_⟩
  have kp : ∀ q o, s.heap.get? q = some o → (s.heap.push { cls := .type "tuple", data := .seq [c1, c2, c3].toArray }).get? q = some o := fun _ _ z => Heap.get?_push_of_some _ z
  exact (PySem.W.exm_tup3 (I.kIn.keeps kp) (LT.keeps kp) (Heap.get?_push_size s.heap rfl) hm).here (q _ s.toks kp)
end
/-- the error as a thing that is known -/
abbrev excX (a : Addr) (oe : Obj) : HO := .ext fun h => h.get? a = some oe
section
variable {X : Cx} {pins : List (Addr × Obj)} {σ : L2.St} {H : Hp} {s : Shared}
theorem inv_suiteD (I : Inv X pins σ H s) {a : Addr} {oe : Obj} {vs : Array Value} (ha : s.heap.get? a = some oe) (hd : oe.data = .fields vs) (na : H a = none) (nL : a ≠ X.env.locals) (n0 : ∀ o, X.s_0.heap.get? a = some o → a ∈ X.ex) (np : ∀ p ∈ X.pn ++ pins, p.1 ≠ a) :
    Inv (X.suite a (X.pn ++ pins)) [] σ (upd H a (excX a oe)) s := by
  have ne : ∀ b u, H b = some u → b ≠ a := fun b u e => ne_of_none e na
  refine ⟨I.ok.suite _ _, I.os, I.bare, ⟨I.base.keep, I.base.slot, fun b o e n hx => ?_, I.base.there, fun b xs e => ?_, fun b o u e => ?_, fun b ps e => ?_⟩, I.loc, I.cell, ?_, fun y c e => ?_, fun p hp => ?_, fun b u e => ?_, I.len⟩
  · have hb : b ≠ a := fun z => hx (by rw [z]; exact n0 o (z ▸ e))
    rw [upd_ne hb]
    exact I.base.free b o e n hx
  · have e1 := I.base.tups b xs e
    rw [upd_ne (ne b _ e1)]
    exact e1
  · have e1 := I.base.frzs b o u e
    rw [upd_ne (ne b _ e1)]
    exact e1
  · obtain ⟨m, e1⟩ := I.base.tbls b ps e
    exact ⟨m, by rw [upd_ne (ne b _ e1)]; exact e1⟩
  · show upd H a (excX a oe) X.env.locals = none
    rw [upd_ne (Ne.symm nL)]
    exact I.free
  · have hc : c ≠ a := fun z => by
      obtain ⟨v, o, ho, hd2⟩ := I.cell y c e
      rw [z, ha] at ho
      cases ho
      rw [hd] at hd2
      cases hd2
    rw [upd_ne hc]
    exact I.freeC y c e
  · have hp' : p ∈ X.pn ++ pins := by rw [List.append_nil] at hp; exact hp
    obtain ⟨e1, e2, e3⟩ := I.pin p hp'
    exact ⟨e1, by rw [upd_ne (np p hp')]; exact e2, e3⟩
  · by_cases hb : b = a
    · subst hb
      rw [upd_same] at e
      cases e
      exact ⟨ha, ⟨oe, ha⟩, fun h1 h2 z st => st _ z⟩
    · rw [upd_ne hb] at e
      exact (I.hok b u e).stay (fun _ _ _ z => z) (fun d z => by rw [upd_ne (ne d _ z)]; exact z) fun d xs z => by rw [upd_ne (ne d _ z)]; exact z
theorem inv_unsuiteD {a : Addr} {pn' : List (Addr × Obj)} (I : Inv (X.suite a (X.pn ++ pins)) pn' σ H s) (ok : X.Ok) : Inv X pins σ H s :=
  ⟨ok, I.os, I.bare, I.base, I.loc, I.cell, I.free, I.freeC, fun p hp => I.pin p (List.mem_append_left _ hp), I.hok, I.len⟩
end
theorem fly_keeps {B h h' : Heap} {l : List Env} {a : Addr} {Z : Obj → Prop} (k : ∀ b o, h.get? b = some o → h'.get? b = some o) (x : HandSPX.FlyingZ B l a Z h) : HandSPX.FlyingZ B l a Z h' := by
  obtain ⟨k1, k2, k3, oe, vs, T, oT, ts, he, hz, hd, h1, hB, hne, hT, hdT, r⟩ := x
  exact ⟨fun b o e => k b o (k1 b o e), k2, k3.of_keeps fun b o e _ => ⟨o, k b o e, rfl⟩, oe, vs, T, oT, ts, k _ _ he, hz, hd, h1, hB, hne, k _ _ hT, hdT, r⟩
def wAsD (m : Value → Option Bool) (i : Nat) (ts : TS) (Wout : WX) (D : Ends) : WX := fun cls d σ H =>
  ∃ b, m cls = some b ∧ (b = true → ∀ a oe vs, H a = none → Zc cls d oe → oe.data = .fields vs → ts { nx := fun σ' H' => D.nx (σ'.set i none) H', rt := D.rt, bk := fun σ' H' => D.bk (σ'.set i none) H', ct := fun σ' H' => D.ct (σ'.set i none) H' } (σ.set i (some (.ref a))) (upd H a (excX a oe))) ∧
    (b = false → Wout cls d σ H)
section
variable {X : Cx} {n : Str} {i : Nat} {tst : Expr} {m : Value → Option Bool} {body suite : List Stmt} {b₀ : Stmt} {pos pos' : Pos} {tb : WX → TS} {ts : TS} {Wout : WX}
theorem ps_try_asD (hs : X.stack = X.env :: X.outer) (hf : X.env.frame = some X.env.locals) (hN : X.N.Nodup) (hi : X.N[i]? = some n) (hln : X.env.kindOf n = some .local) (hc : Tst X tst m) (tk : Takes X Wout)
    (hb : ∀ (W : WX) (pn : List (Addr × Obj)) (xe : Value → Shared → Prop), Takes (X.tr pn xe) W → PassesOwn (model X.prog X.w) X.A X.env xe → PSs (X.tr pn xe) body (tb W))
    (hsu : ∀ (a : Addr) (pn : List (Addr × Obj)), PSs (X.suite a pn) (b₀ :: suite) ts) :
    PS X (.Try body [.ExceptHandler (some tst) (some n) (b₀ :: suite) pos'] [] [] pos) (fun D σ H => tb (wAsD m i ts Wout D) D σ H) := by
  refine ⟨fun pins s σ H D I h => ?_⟩
  have ok := I.ok
  have hfr : X.A.frames = some (X.env :: X.outer) := by rw [ok.frames, hs]
  have hloc : Loc X.env.scope n := .inl hln
  refine wpAny_Try_except ?_
  refine wpAny_mono ((hb (wAsD m i ts Wout D) (X.pn ++ pins) (fun e s₁ => wpAny (model X.prog X.w) X.A (noteFrame e X.env) (fun _ s₂ => wpAny (model X.prog X.w) X.A (setFlight e none) (fun _ s₃ =>
    wpAny (model X.prog X.w) X.A (handleBy e X.env [.ExceptHandler (some tst) (some n) (b₀ :: suite) pos']) (SP X pins D) X.xe s₃) X.xe s₂) X.xe s₁) (fun u s' xx => ?_) PassesOwn.looking).run [] s σ H D (I.toTry _) h) (fun f s1 hsp => ?_) (fun e s1 he => he)
  · -- the catch
    obtain ⟨a, B, sI, pins', σ', H', cls, d, rfl, J', nb, up, sky, na, os, ag, b, hb1, hyes, hno⟩ := xx
    have J : Inv X pins σ' H' sI := J'.ofTry ok
    have sky' : Sky B (X.env :: X.outer) a (Zc cls d) X.env.locals s'.heap := by rw [← hs]; exact sky
    show wpAny (model X.prog X.w) X.A (noteFrame (.ref a) X.env) _ _ _
    refine Sky.land Zc.steady hfr hf sky' fun h3 fl3 up3 => ?_
    have J3 : Inv X pins σ' H' { s' with heap := h3 } := J.landed nb fl3.1 (up.trans up3) os ag
    obtain ⟨oe3, vs3, he3, hz3, hd3⟩ := fl3.there
    have notFr : ∀ {h : Heap} {o : Obj} {vs : Array Value}, h.FunFrames B (X.env :: X.outer) → h.get? a = some o → o.data = .fields vs → a ∉ frs (X.env :: X.outer) := fun {h o vs} ff e dd hm => by
      obtain ⟨_, o', e', hnf⟩ := ff.mem hm
      rw [e] at e'; cases e'
      exact hnf _ dd
    have nfr := notFr fl3.2.2.1 he3 hd3
    have nL : a ≠ X.env.locals := fun z => nfr (List.mem_filterMap.mpr ⟨X.env, List.mem_cons_self, by rw [hf, z]⟩)
    have nF : a ∉ X.fs := fun hm => by
      obtain ⟨e, he, q⟩ := List.mem_filterMap.mp hm
      exact nfr (List.mem_filterMap.mpr ⟨e, List.mem_cons_of_mem _ he, q⟩)
    have nI : ∀ o, sI.heap.get? a ≠ some o := fun o e => by
      have z := nb a o e (by rw [hs]; exact nfr)
      rw [fl3.2.1] at z
      cases z
    have n0 : ∀ o, X.s_0.heap.get? a = some o → a ∈ X.ex := fun o e => by
      by_cases hx : a ∈ X.ex
      · exact hx
      · obtain ⟨o', e'⟩ := J.base.there a o e hx
        exact absurd e' (nI o')
    have np : ∀ p ∈ X.pn ++ pins, p.1 ≠ a := fun p hp z => nI p.2 (z ▸ (J.pin p hp).1)
    have S3 := inv_suiteD J3 he3 hd3 na nL n0 np
    refine wpAny_handleBy_cons (codeAny_handlers_test ?_) (by intro q; cases q)
    have LT : PySem.W.Looks (model X.prog X.w) h3 (typeOf (.ref a)) cls := fun A Q E s k q => wpAny_typeOf_ref (k _ _ he3) (by rw [hz3.1]; exact q)
    refine hc a (X.pn ++ pins) [] σ' _ { s' with heap := h3 } cls b _ _ _ S3 LT hb1 fun h3' tk3 kp3 => ?_
    have fl3' := fly_keeps kp3 fl3
    have up3' := up3.trans (Heap.UpToSlots.of_keeps kp3)
    cases b with
    | true =>
      refine codeAny_handlers_suite_as ?_
      refine HandSPX.lands_againZ fl3' fun h4 fl4 up4 => ?_
      have J4 : Inv X pins σ' H' { s' with heap := h4, toks := tk3 } := J.landed nb fl4.1 ((up.trans up3').trans up4) os ag
      obtain ⟨oe4, vs4, he4, hz4, hd4⟩ := fl4.there
      have S4 := inv_suiteD J4 he4 hd4 na nL n0 np
      refine store_ok (X := X.suite a (X.pn ++ pins)) (v := .ref a) S4 hN hi hloc rfl (fun s5 S5 => ?_) (.inr hln)
      refine wpAny_mono ((hsu a (X.pn ++ pins)).run [] s5 _ _ _ S5 (hyes rfl a oe4 vs4 na hz4 hd4)) (fun f s6 hsp => ?_) (fun _ _ z => False.elim z)
      have end_ : ∀ {σ6 : L2.St} {H6 : Hp} {Q : Shared → Prop}, Inv (X.suite a (X.pn ++ pins)) [] σ6 H6 s6 → (∀ s7, Inv X pins (σ6.set i none) H6 s7 → Q s7) →
          wpAny (model X.prog X.w) X.A (do bindName X.env n .none; unbindBehindTheSuite X.env n pos') (fun _ s7 => Q s7) X.xe s6 := fun {σ6 H6 Q} S6 hq => gone_ok (inv_unsuiteD S6 ok) hN hi hln hq
      cases f with
      | next =>
        obtain ⟨σ6, H6, S6, q6⟩ := hsp
        exact end_ S6 fun s7 J7 => ⟨_, _, J7, q6⟩
      | brk =>
        obtain ⟨σ6, H6, S6, q6⟩ := hsp
        exact end_ S6 fun s7 J7 => ⟨_, _, J7, q6⟩
      | cont =>
        obtain ⟨σ6, H6, S6, q6⟩ := hsp
        exact end_ S6 fun s7 J7 => ⟨_, _, J7, q6⟩
      | ret u =>
        obtain ⟨v6, σ6, H6, S6, r6, q6⟩ := hsp
        exact end_ S6 fun s7 J7 => ⟨_, _, _, J7, r6, q6⟩
    | false =>
      show wpAny _ X.A (handleBy (.ref a) X.env []) _ _ _
      refine wpAny_handleBy_nil ?_
      obtain ⟨k1, k2, k3, oe, vs, T, oT, ts', he, hz, hd, h1, hr⟩ := id fl3'
      unfold PySem.passOn
      refine wpAny_bind (wpAny_field he hd h1 ?_)
      rw [if_neg (show ¬ ((Value.ref T == Value.none) = true) from by simp)]
      have fin : wpAny (model X.prog X.w) X.A (setFlight (.ref a) X.env.frame) (fun _ s4 => wpAny (model X.prog X.w) X.A (throw (.ref a) : Sem Flow) (SP X pins D) X.xe s4) X.xe { s' with heap := h3', toks := tk3 } := by
        rw [hf]
        refine HandSPX.setFlight_upZ fl3' fun h4 hh4 up4 => wpAny_throw (tk _ _ ?_)
        exact ⟨a, B, sI, pins, σ', H', cls, d, rfl, J, nb, (up.trans up3').trans up4, .inr (.inr (by rw [hs]; exact hh4)), na, os, ag, hno rfl⟩
      first
        | exact wpAny_bind (wpAny_pure (wpAny_bind fin))
        | exact wpAny_bind fin
  · cases f with
    | next =>
      obtain ⟨σ', H', J', q⟩ := hsp
      exact wpAny_execs_nil ⟨σ', H', J'.ofTry ok, q⟩
    | brk =>
      obtain ⟨σ', H', J', q⟩ := hsp
      exact ⟨σ', H', J'.ofTry ok, q⟩
    | cont =>
      obtain ⟨σ', H', J', q⟩ := hsp
      exact ⟨σ', H', J'.ofTry ok, q⟩
    | ret u =>
      obtain ⟨v, σ', H', J', r, q⟩ := hsp
      exact ⟨v, σ', H', J'.ofTry ok, r, q⟩
end
end DL

namespace DL
open PySem PySem.Spec PyProof.Rows L2
section
variable {X : Cx} {Wx : WX} {a b c e o : Expr} {es rest : List Expr} {da db dc de do' : DE} {dt du : DT} {dl dk : DA} {pos : Pos}
/-! ### statements as readings of the layer -/
def tsOf (K : PySem.W.Frag) (Wx : WX) (ds : DS) : TS := fun D σ H => ∃ env L D', StL K σ H env L ∧ ds D' env L ∧ EOk K Wx L H D' D
theorem QSs.pss {sts : List Stmt} {ds : DS} (h : QSs X Wx sts ds) : PSs X sts (tsOf X.K Wx ds) := by
  obtain ⟨ts, p, s⟩ := h.ex
  refine ⟨fun pins s' σ H D I hw => ?_⟩
  obtain ⟨env, L, D', st, h, ok⟩ := hw
  exact p.run pins s' σ H D I (s σ H env L D' D st h ok)
abbrev noW : WX := fun _ _ _ _ => False
def dTry (m : Value → Option Bool) (i : Nat) (db ds : DS) : DS := fun D env L => db { D with ex := fun n env' L' => ∃ b, m n.cls = some b ∧ match b with
  | true => ∃ C, n.cls = .ref C ∧ ds { nx := fun e L => D.nx (e.set i none) L, rt := D.rt, ex := fun _ _ _ => False, bk := fun e L => D.bk (e.set i none) L, ct := fun e L => D.ct (e.set i none) L } (env'.set i (some (.exc C n.ns n.vs))) L'
  | false => D.ex n env' L' } env L
theorem s_try (i : Nat) {n : Str} {tst : Expr} {m : Value → Option Bool} {body suite : List Stmt} {b₀ : Stmt} {pos pos' : Pos} {db ds : DS} (hs : X.stack = X.env :: X.outer) (hf : X.env.frame = some X.env.locals) (hN : X.N.Nodup) (hc : Tst X tst m) (tk : Takes X Wx)
    (hb : ∀ (W : WX) (pn : List (Addr × Obj)) (xe : Value → Shared → Prop), Takes (X.tr pn xe) W → PassesOwn (model X.prog X.w) X.A X.env xe → QSs (X.tr pn xe) W body db)
    (hsu : ∀ (a : Addr) (pn : List (Addr × Obj)), QSs (X.suite a pn) noW (b₀ :: suite) ds) (hi : X.N[i]? = some n := by rfl) (hln : X.env.kindOf n = some .local := by rfl) :
    QS X Wx (.Try body [.ExceptHandler (some tst) (some n) (b₀ :: suite) pos'] [] [] pos) (dTry m i db ds) := by
  refine ⟨_, ps_try_asD (tb := fun W => tsOf X.K W db) (ts := tsOf X.K noW ds) hs hf hN hi hln hc tk (fun W pn xe tk' po => (hb W pn xe tk' po).pss) (fun a pn => (hsu a pn).pss), fun σ H env L D' D st h ok => ?_⟩
  refine ⟨env, L, _, st, h, ⟨ok.nx, ok.rt, fun nn env' L' d H' σ' hx g' st' er => ?_, ok.bk, ok.ct⟩⟩
  obtain ⟨b, hm, hx⟩ := hx
  refine ⟨b, hm, fun hb => ?_, fun hb => ?_⟩
  · subst hb
    obtain ⟨C, hC, hx⟩ := hx
    intro a oe vs na hz hd
    obtain ⟨nd, xs, h1, h2, h3⟩ := er
    have s1 := same_new na (excX a oe)
    have g1 : Go L' L' H' (upd H' a (excX a oe)) := Go.same s1
    have j1 := st'.2.same s1
    refine ⟨_, L', _, ⟨((st'.1.go g1).set (.exc (st'.2.notIn na) nd upd_same (fun h z => ⟨oe, vs, z, ?_, hz.2, hd⟩) (.inl (s1 d _ h1)) h2 (h3.go g1)) i), j1⟩, hx, ?_⟩
    · rw [← hC]; exact hz.1
    · have ok' := (ok.go g').go g1
      exact ⟨fun e L2 σ2 H2 q g st2 => ok'.nx _ L2 _ H2 q g ⟨st2.1.wipe1 i, st2.2⟩, ok'.rt, fun _ _ _ _ _ _ z => z.elim, fun e L2 σ2 H2 q g st2 => ok'.bk _ L2 _ H2 q g ⟨st2.1.wipe1 i, st2.2⟩, fun e L2 σ2 H2 q g st2 => ok'.ct _ L2 _ H2 q g ⟨st2.1.wipe1 i, st2.2⟩⟩
  · subst hb
    exact ok.ex nn env' L' d H' σ' hx g' st' er
/-! ### what is never reached -/
def dNever : DS := fun _ _ _ => False
theorem s_never {st : Stmt} : QS X Wx st dNever := ⟨_, ps_never, fun _ _ _ _ _ _ _ h _ => h.elim⟩
/-! ### raise C() -/
theorem pmk_oex0 {CX : CXT} {x : Str} {C fI : Addr} {k : Nat} {fd : FuncData} {ps : List Str} {sp : Sp} {p : Pos} (T : OexC X.K C) (iC : PySem.W.findIn X.K (.ref C) "__init__" = some (some (.ref fI))) (tI : PySem.W.typeIn X.K (.ref fI) = some (.type "function"))
    (F1 : FnOk X.prog X.w X.K X.mg X.base CX k fI fd ps sp) (hr : Room (k + 1) X.A) (hb : Binds X.K fd ps []) (hx : Passes CX X (fun _ _ _ => False)) (hg : Gl X x) (hm : X.mg x = some (.ref C))
    (hdb : (x == ("__debug__" : Str)) = false := by decide) :
    PMk X (.Call (.Name x p) [] [] pos) (tMkO C sp [] tNil) := by
  intro pins s σ H Q I h
  obtain ⟨nm, q, N, bs, bm, sn, sub, ab, col, dd, k0, k1, k2, k3, k5, hC, hbm⟩ := T.cls
  refine wpAny_Call_Name_kw (ld_glob I hg hm ?_ hdb)
  refine PySem.W.callWith_K0 I.kIn T.kC ?_
  show wpAny _ _ (call (.ref C) []) _ _ _
  obtain ⟨_, q1⟩ := h
  obtain ⟨hp, g, dr, tk, os⟩ := s
  have I1 := I
  have hsz : hp.objs.size ≤ hp.objs.size + 1 := Nat.le_succ _
  have hn : H (hp.objs.size + 1) = none := I1.hok.fresh hsz
  have hq := q1 (hp.objs.size + 1) hn
  have kk : ∀ b o, hp.get? b = some o → ((hp.push (PySem.W.kdv_tup [])).push (PySem.HandSPX.excO C hp.objs.size)).get? b = some o := fun b o e => Heap.get?_push_of_some _ (Heap.get?_push_of_some _ e)
  have hget : ((hp.push (PySem.W.kdv_tup [])).push (PySem.HandSPX.excO C hp.objs.size)).get? (hp.objs.size + 1) = some (PySem.HandSPX.excO C hp.objs.size) := by heap_get
  have I2 : Inv X pins σ (upd H (hp.objs.size + 1) (exo (hp.objs.size + 1) C none)) ⟨(hp.push (PySem.W.kdv_tup [])).push (PySem.HandSPX.excO C hp.objs.size), g, dr, tk, os⟩ :=
    I1.laid (t' := tk) (a := hp.objs.size + 1) (o := exo (hp.objs.size + 1) C none) (h' := (hp.push (PySem.W.kdv_tup [])).push (PySem.HandSPX.excO C hp.objs.size)) kk hsz (exo_ok hget)
  have r2 : Vals [V.ref (hp.objs.size + 1)] [Value.ref (hp.objs.size + 1)] := .cons rfl .nil
  have hl : ([Value.ref (hp.objs.size + 1)] ++ []).length = ps.length := by
    have e : [V.ref (hp.objs.size + 1)].length = ps.length := F1.len _ _ _ _ hq
    exact e
  refine wpAny_call (PySem.HandSPX.call_own F.excBase_ValueError (fun Y => PySem.HandSPX.refsVE_contains Y bm hbm) (I1.kIn _ _ hC) (PySem.W.looks_findIn I1.kIn iC) (fun self => PySem.W.bind_fn I1.kIn self tI) (Nat.zero_le _)
    (codeAny_mono (F1.run _ X.stack _ _ ⟨[Value.ref (hp.objs.size + 1)], []⟩ [Value.ref (hp.objs.size + 1)] _ _ (fun _ _ _ => False) (hr.make C [] []) (I2.env0.make C [] []) (hb _ [Value.ref (hp.objs.size + 1)] I2.kIn hl) r2 hq) fun r s' hq' => ?_))
  cases r with
  | error er => exact hx pins σ _ _ er s' I2 hq'
  | ok fl =>
    cases fl with
    | ret u =>
      obtain ⟨v, H2, os2, bare2, un2, hok2, rv, ev, d, fs, ea, ed, hd1, q2⟩ := hq'
      subst ev
      obtain ⟨h2, g2, d2, t2, os'⟩ := s'
      exact ⟨rv, mk_end (raises_own T.exC T.tyC) I1 hsz kk un2 hok2 os2 bare2 ea ed hd1 q2⟩
    | next => exact False.elim hq'
    | brk => exact False.elim hq'
    | cont => exact False.elim hq'
def dRaise0 (C : Addr) (code : Str) : DS := fun D env L => D.ex ⟨.ref C, ["code"], [.str code]⟩ env L
theorem s_raise0 {x : Str} {C : Addr} {ps : List Str} {code : Str} {p pos2 : Pos} {k : Nat} (T : ExCls X.prog X.w X.K X.mg X.base x C ps (spI0 C code)) (hcalm : X.calm = true) (hr : Room k X.A) (h2 : 2 ≤ k) (tk : Takes X Wx) (hg : Gl X x) (hdb : (x == ("__debug__" : Str)) = false := by decide) :
    QS X Wx (.Raise (some (.Call (.Name x p) [] [] pos)) none pos2) (dRaise0 C code) := by
  obtain ⟨fI, fd, iC, tI, F1, hb⟩ := T.make_
  refine ⟨_, ps_raise (W := Wx) hcalm tk (pmk_oex0 T.oex iC tI F1 (hr.mono h2) hb (fun _ _ _ _ _ _ _ h => by obtain ⟨_, _, _, _, _, _, _, _, _, _, _, _, z⟩ := h; exact z.elim) hg T.gC hdb), fun σ H env L D' D st h ok => ?_⟩
  refine ⟨by simp, fun q hq => ⟨q, rfl, upd_same, fun d hd hne => ?_⟩⟩
  have hd1 : H d = none := by rw [upd_ne hne] at hd; exact hd
  refine ⟨rfl, d, [("code", .str code)], upd_same, ?_, hd1, ?_⟩
  · rw [upd_ne hne, upd_same]
  · have s : Same H (upd (del (upd (upd (upd H q (exo q C none)) d (exd d [("code", .str code)])) q (exo q C (some d))) q) d (.xd [("code", .str code)])) := fun b u hb => by
      have n1 : b ≠ q := ne_of_none hb hq
      have n2 : b ≠ d := ne_of_none hb hd1
      rw [upd_ne n2, del_ne n1, upd_ne n1, upd_ne n2, upd_ne n1]
      exact hb
    have g2 : Go L L H _ := Go.same (L := L) s
    have j2 := st.2.same s
    exact ok.ex ⟨.ref C, ["code"], [.str code]⟩ env L d _ σ h g2 (st.go g2 j2) ⟨st.2.notIn hd1, [.str code], upd_same, rfl, .cons (.str code) .nil⟩
/-! ### x in (.., ..) of flat things -/
def flD : D → Option V
  | .non => some .non
  | .bl b => some (.bl b)
  | .int i => some (.int i)
  | .str x => some (.str x)
  | _ => none
def flDs : List D → Option (List V)
  | [] => some []
  | d :: r => match flD d, flDs r with
    | some v, some vs => some (v :: vs)
    | _, _ => none
theorem flD_of {L : Led} {K : PySem.W.Frag} {H : Hp} {v v' : V} {d : D} (r : Rp L K H v d) (h : flD d = some v') : v = v' ∧ flatV v = true := by
  cases r <;> first | (cases h; done) | skip
  all_goals (cases h; exact ⟨rfl, rfl⟩)
theorem flDs_of {L : Led} {K : PySem.W.Frag} {H : Hp} : ∀ {vs vs' : List V} {ds : List D}, RpAll L K H vs ds → flDs ds = some vs' → vs = vs' ∧ vs.all flatV = true
  | _, _, _, .nil, h => by cases h; exact ⟨rfl, rfl⟩
  | _, _, _, .cons (d := d) (ds := ds) r t, h => by
    unfold flDs at h
    split at h
    · rename_i v vs h1 h2
      cases h
      obtain ⟨e1, f1⟩ := flD_of r h1
      obtain ⟨e2, f2⟩ := flDs_of t h2
      subst e1 e2
      exact ⟨rfl, by rw [List.all_cons, f1, f2]; rfl⟩
    · cases h
def gIn (neg : Bool) : G2 := fun a b L k => match flD a, seqs (con L b) with
  | some v, some ds => match flDs ds with
    | some vs => k (.bl (if neg then !inV v vs else inV v vs))
    | none => False
  | _, _ => False
theorem sim_in {K : PySem.W.Frag} {neg : Bool} : Sim2 K (rIn K neg) (gIn neg) := by
  intro H L va vb a b k Q j ra rb h hk
  unfold gIn at h
  split at h
  · rename_i v ds h1 h2
    split at h
    · rename_i vs h3
      obtain ⟨e1, f1⟩ := flD_of ra h1
      subst e1
      obtain ⟨p, ws, rfl, hs, rv⟩ := con_seq j rb h2
      obtain ⟨e2, f2⟩ := flDs_of rv h3
      subst e2
      exact ⟨p, ws, rfl, hs, f1, f2, hk _ _ H h (Same.refl H) (.bl _)⟩
    · exact h.elim
  · exact h.elim
theorem oq_inQ : OQ X (compareOp .In) (gIn false) := ⟨_, op_in_seq, sim_in⟩
theorem oq_notInQ : OQ X (compareOp .NotIn) (gIn true) := ⟨_, op_notIn_seq, sim_in⟩
/-! ### defs that are called in an except suite: they raise nothing and do not loop -/
structure FnQ (P : Program) (w : World) (K : PySem.W.Frag) (mg : Str → Option Value) (base : Heap) (k : Nat) (f : Addr) (fd : FuncData) (ps : List Str) (sp : Sp) : Prop where
  len : ∀ vs H Q E, sp vs H Q E → vs.length = ps.length
  run : ∀ (A : Around) (outer : List Env) (s : Shared) (H : Hp) (args : Args) (us : List Value) (vs : List V) (Q : VK), L2H.RoomH k A → Env0 P w K mg base A outer s H → BindsTo s fd args (ps.zip us) → Vals vs us → sp vs H Q (fun _ _ _ => False) →
    codeAny (model P w) A (.call (.ref f) args) (CR (L2.CX P w) outer P w H s Q fun _ _ _ => False) s
end
def cxQ (P : Program) (w : World) (K : PySem.W.Frag) (mg : Str → Option Value) (base : Heap) (N : List Str) (qual : Str) (scope : Scope) (f : Addr) (cd : Value) (A : Around) (outer : List Env) (s : Shared) (H : Hp) : Cx :=
  { cxOf (L2.CX P w) P w K mg base N qual scope f cd A outer s H (fun _ _ _ => False) with calm := false, xe := fun _ _ => False }
section
variable {P : Program} {w : World} {K : PySem.W.Frag} {mg : Str → Option Value} {base : Heap}
theorem fn_okQ {x qual : Str} {st : Stmt} {f : Addr} {fd : FuncData} {N ps : List Str} {k : Nat} {g : DSp} (F : Fun K x qual st f fd) (S : FnScope N ps (defScope st)) (len : ∀ ds L k x, g ds L k x → ds.length = ps.length)
    (body : ∀ (cdv : Value) (A : Around) (outer : List Env) (s : Shared) (H : Hp), L2H.RoomH k (A.deeper (envOfC qual (defScope st) s.heap.objs.size f cdv)) →
      ∃ t, QSs (cxQ P w K mg base N qual (defScope st) f cdv A outer s H) noW (defBody st) t ∧ ∀ ds L k x, g ds L k x → t (endsD k fun _ _ => False) (startD N ds) L) : FnQ P w K mg base (k + 1) f fd ps (spD K g) := by
  obtain ⟨oc, od, kV, doc, pm, an, cdv, ct, osl, rfl, lk, hcd⟩ := F.ex
  have len' : ∀ vs H Q E, spD K g vs H Q E → vs.length = ps.length := fun vs H Q E h => by
    obtain ⟨ds, L, k, x, j, r, h, _⟩ := h
    rw [r.length]
    exact len ds L k x h
  refine ⟨len', fun A outer s H args us vs Q hr e0 hb r hsp => ?_⟩
  have hl := len' _ _ _ _ hsp
  have KX : K.In s.heap := e0.mod.kin.keeps fun b o e => (e0.bs b o e).1
  have lim : s.heap.NoLimit := e0.mod.nolimit.keeps fun b o e => (e0.bs b o e).1
  have hkind : ∀ y ∈ ps.zip us, (defScope st).names.lookup y.1 = some .local ∨ ((defScope st).names.lookup y.1 = some .cell ∧ ((cellsFrom (s.heap.objs.size + 1) (defScope st).names []).lookup y.1).isSome = true) := fun ⟨n, v⟩ hy => by
    rcases S.par n (List.of_mem_zip hy).1 with q | q
    · exact .inl q
    · exact .inr ⟨q, PySem.W.cellsFrom_some _ _ _ (.inl q)⟩
  refine codeAny_call_function hr.depth (KX _ _ lk) rfl S.co S.gen rfl (PySem.W.codeRec_of KX hcd) (hb _ _ _ _ ?_)
  refine wpAny_newFunctionEnv_cells S.kind hkind fun env he s1 x => ?_
  subst he
  refine ⟨lim.keeps x.toInCall.keep, codeAny_func ?_⟩
  obtain ⟨t, q, ht⟩ := body cdv A outer s H (hr.deeper _)
  obtain ⟨ts, pts, sts⟩ := q.ex
  have e1 : Env0 P w K mg base { A with handled := none } outer s H := ⟨e0.frames, e0.mod, e0.bs, e0.bsz, e0.funs, e0.frf, e0.hok, e0.bare⟩
  have I0 := inv_start (CX := L2.CX P w) (qual := qual) (f := f) (cd := cdv) (E := fun _ _ _ => False) S (A := { A with handled := none }) rfl e1 hl r x
  have I : Inv (cxQ P w K mg base N qual (defScope st) f cdv A outer s H) [] (L2.start N vs) H s1 :=
    ⟨⟨I0.ok.mod, I0.ok.kind, I0.ok.glob, I0.ok.blt, I0.ok.above, I0.ok.inj, I0.ok.has, I0.ok.cab, (fun z => Bool.noConfusion (show false = true from z)), Around.frames_deeper e0.frames, I0.ok.stk, I0.ok.exf, I0.ok.bs, I0.ok.bsz, I0.ok.noex, I0.ok.exfs, I0.ok.funs, I0.ok.frf⟩,
      I0.os, I0.bare, I0.base, I0.loc, I0.cell, I0.free, I0.freeC, I0.pin, I0.hok, I0.len⟩
  obtain ⟨ds, L, kk, xx, j, rr, hg, hk, hx⟩ := hsp
  refine wpAny_mono (pts.run [] s1 (L2.start N vs) H { nx := fun _ H' => Q .non H', rt := Q } I (sts _ H (startD N ds) L (endsD kk fun _ _ => False) _ ⟨?_, j⟩ (ht ds L kk xx hg) ?_)) (fun fl s' hs => ?_) fun e s' hs => hs.elim
  · unfold L2.start startD
    rw [rr.length]
    exact Sto.start rr
  · exact ⟨fun env' L' σ' H' q g' st' => hk .non L' .non H' q g' st'.2 .non, hk, fun n env' L' a H' σ' q g' st' r' => q.elim, fun _ _ _ _ q => q.elim, fun _ _ _ _ q => q.elim⟩
  · have fin : ∀ {σ' : L2.St} {H' : Hp} {v : V} {u : Value}, Inv (cxQ P w K mg base N qual (defScope st) f cdv A outer s H) [] σ' H' s' → RelV v u → Q v H' → CE outer P w H s Q u s' :=
      fun {σ' H' v u} J rv q => ⟨v, H', J.os, J.bare, J.base, J.hok, rv, q⟩
    cases fl with
    | ret u =>
      obtain ⟨v, σ', H', J, rv, q⟩ := hs
      exact fin J rv q
    | next =>
      obtain ⟨σ', H', J, q⟩ := hs
      exact fin (v := V.non) (u := Value.none) J rfl q
    | brk =>
      obtain ⟨_, _, _, q⟩ := hs
      exact False.elim q
    | cont =>
      obtain ⟨_, _, _, q⟩ := hs
      exact False.elim q
end
structure CalQ (P : Program) (w : World) (K : PySem.W.Frag) (mg : Str → Option Value) (base : Heap) (n : Nat) (x : Str) (ps : List Str) (g : DSp) : Prop where
  ex : ∃ (f : Addr) (fd : FuncData), FnQ P w K mg base n f fd ps (spD K g) ∧ mg x = some (.ref f) ∧ PySem.W.keepIn K (.ref f) = true ∧ Binds K fd ps []
section
variable {X : Cx} {Wx : WX} {e : Expr} {es : List Expr} {dl : DA} {pos : Pos}
theorem q_calQ {x : Str} {p : Pos} {n k : Nat} {ps : List Str} {g : DSp} (F : CalQ X.prog X.w X.K X.mg X.base n x ps g) (hn : n ≤ k) (hr : L2H.RoomH k X.A) (hg : Gl X x) (ha : QA X Wx (e :: es) dl) (hdb : (x == ("__debug__" : Str)) = false := by decide)
    (he : starEach (e :: es) X.env = (false, eval e X.env) :: starEach es X.env := by rfl) (hpl : (backTo pos (starEach es X.env)).any (·.1) = false := by rfl) : QE X Wx (.Call (.Name x p) (e :: es) [] pos) (fun env L k x => dl env L (fun ds L1 => g ds L1 k fun _ _ => False) x) := by
  obtain ⟨f, fd, F, hm, hk, hb⟩ := F.ex
  obtain ⟨ta, pa, sa⟩ := ha.ex
  refine ⟨fun σ H Q => ta σ H fun vs H1 => spD X.K g vs H1 Q fun _ _ _ => False, ⟨fun pins s σ H Q I h => ?_⟩, fun σ H env L kk xx Q st h hk hx => ?_⟩
  · refine wpAny_Call_Name_kw (ld_glob I hg hm ?_ hdb)
    refine PySem.W.callWith_K (h₀ := X.base) I.ok.mod.kin hk (thn (pa.run pos pins s σ H _ I h) fun us s1 ⟨vs, H1, I1, r, q⟩ => ⟨I1.kIn, ?_⟩) he hpl
    have hl : us.length = ps.length := by rw [← r.length]; exact F.len _ _ _ _ q
    have rc := F.run X.A X.stack s1 H1 ⟨us, []⟩ (us ++ []) vs Q (hr.mono hn) I1.env0 (hb s1 us I1.kIn (by rw [List.append_nil]; exact hl)) (by rw [List.append_nil]; exact r) q
    refine wpAny_call (codeAny_mono rc fun r' s' hq => ?_)
    cases r' with
    | error e => obtain ⟨_, _, _, _, _, _, _, _, _, _, _, _, z⟩ := hq; exact z.elim
    | ok fl =>
      cases fl with
      | ret u => exact I1.after hq
      | next => exact False.elim hq
      | brk => exact False.elim hq
      | cont => exact False.elim hq
  · refine sa σ H env L _ xx _ st h (fun ds L1 vs H1 h1 g1 j1 r1 => ?_) hx
    exact ⟨ds, L1, kk, _, j1, r1, h1, hk.go g1, fun n L' a H' q _ _ _ => q.elim⟩
end
end DL

namespace DL
open PySem PySem.Spec PyProof.Rows L2
section
variable {P : Program} {w : World} {K : PySem.W.Frag} {mg : Str → Option Value} {base : Heap}
/-- a def that makes lambdas: its code object is known -/
theorem fn_okC {x qual : Str} {st : Stmt} {f : Addr} {oc kV doc pm cdv ct : Value} {od an : Option Addr} {osl : Array (Option Value)} {N ps : List Str} {k : Nat} {g : DSp} (lk : K.lookup f = some ⟨oc, od, .func (PySem.W.fnOf x qual (defArgs st) (defBody st) (defScope st) .none kV doc pm an cdv ct), osl⟩) (hcd : PySem.W.codeIn K cdv qual = true)
    (S : FnScope N ps (defScope st)) (len : ∀ ds L k x, g ds L k x → ds.length = ps.length)
    (body : ∀ (A : Around) (outer : List Env) (s : Shared) (H : Hp) (E : XK), Room k (A.deeper (envOfC qual (defScope st) s.heap.objs.size f cdv)) →
      ∃ t, QSs (cxOf (L2.CX P w) P w K mg base N qual (defScope st) f cdv A outer s H E) (wxOf E) (defBody st) t ∧ ∀ ds L k x, g ds L k x → t (endsD k x) (startD N ds) L) : FnOk P w K mg base (L2.CX P w) (k + 1) f (PySem.W.fnOf x qual (defArgs st) (defBody st) (defScope st) .none kV doc pm an cdv ct) ps (spD K g) := by
  refine fn_of lk hcd S (fun vs H Q E h => ?_) (fun A outer s H vs Q E hr h => ?_)
  · obtain ⟨ds, L, k, x, j, r, h, _⟩ := h
    rw [r.length]
    exact len ds L k x h
  · obtain ⟨ds, L, k, x, j, r, h, hk, hx⟩ := h
    obtain ⟨t, q, ht⟩ := body A outer s H E hr
    obtain ⟨ts, pts, sts⟩ := q.ex
    refine ⟨ts, pts, sts _ H (startD N ds) L (endsD k x) _ ⟨?_, j⟩ (ht ds L k x h) ?_⟩
    · unfold L2.start startD
      rw [r.length]
      exact Sto.start r
    · exact ⟨fun env' L' σ' H' q g' st' => hk .non L' .non H' q g' st'.2 .non, hk, fun n env' L' a H' σ' q g' st' r' => hx n L' a H' q g' st'.2 r', fun _ _ _ _ q => q.elim, fun _ _ _ _ q => q.elim⟩
/-- a def with defaults -/
abbrev FunV (K : PySem.W.Frag) (x qual : Str) (st : Stmt) (dvs : List V) (f : Addr) (fd : FuncData) : Prop := FunD K x qual (defArgs st) (defBody st) (defScope st) dvs [] f fd
theorem fn_okD {x qual : Str} {st : Stmt} {f : Addr} {fd : FuncData} {dvs : List V} {N ps : List Str} {k : Nat} {g : DSp} (F : FunV K x qual st dvs f fd) (S : FnScope N ps (defScope st)) (len : ∀ ds L k x, g ds L k x → ds.length = ps.length)
    (body : ∀ (cdv : Value) (A : Around) (outer : List Env) (s : Shared) (H : Hp) (E : XK), Room k (A.deeper (envOfC qual (defScope st) s.heap.objs.size f cdv)) →
      ∃ t, QSs (cxOf (L2.CX P w) P w K mg base N qual (defScope st) f cdv A outer s H E) (wxOf E) (defBody st) t ∧ ∀ ds L k x, g ds L k x → t (endsD k x) (startD N ds) L) : FnOk P w K mg base (L2.CX P w) (k + 1) f fd ps (spD K g) := by
  refine F.ok S (fun vs H Q E h => ?_) (fun cdv A outer s H vs Q E hr h => ?_)
  · obtain ⟨ds, L, k, x, j, r, h, _⟩ := h
    rw [r.length]
    exact len ds L k x h
  · obtain ⟨ds, L, k, x, j, r, h, hk, hx⟩ := h
    obtain ⟨t, q, ht⟩ := body cdv A outer s H E hr
    obtain ⟨ts, pts, sts⟩ := q.ex
    refine ⟨ts, pts, sts _ H (startD N ds) L (endsD k x) _ ⟨?_, j⟩ (ht ds L k x h) ?_⟩
    · unfold L2.start startD
      rw [r.length]
      exact Sto.start r
    · exact ⟨fun env' L' σ' H' q g' st' => hk .non L' .non H' q g' st'.2 .non, hk, fun n env' L' a H' σ' q g' st' r' => hx n L' a H' q g' st'.2 r', fun _ _ _ _ q => q.elim, fun _ _ _ _ q => q.elim⟩
theorem funv_mk {x qual : Str} {st : Stmt} {dvs : List V} {its : List Value} {f T : Addr} {oc kV doc pm cdv ct : Value} {od an : Option Addr} {osl : Array (Option Value)} {tc : Value} {td : Option Addr} {tn : Nat} {tsl : Array (Option Value)} (hv : Vals dvs its) (hd : dvs ≠ [])
    (lk : K.lookup f = some ⟨oc, od, .func (PySem.W.fnOf x qual (defArgs st) (defBody st) (defScope st) (.ref T) kV doc pm an cdv ct), osl⟩) (lT : K.lookup T = some ⟨tc, td, .seq its.toArray tn, tsl⟩) (hcd : PySem.W.codeIn K cdv qual = true) (kp : PySem.W.keepIn K (.ref f) = true) :
    FunV K x qual st dvs f (PySem.W.fnOf x qual (defArgs st) (defBody st) (defScope st) (.ref T) kV doc pm an cdv ct) :=
  ⟨⟨oc, od, .ref T, kV, doc, pm, an, cdv, ct, osl, rfl, lk, hcd, .inr ⟨hd, T, _, its, tn, rfl, lT, rfl, hv⟩, .inl rfl⟩, kp⟩
/-- every parameter by keywords, some with defaults -/
theorem kwbV {x qual : Str} {st : Stmt} {f : Addr} {fd : FuncData} {dvs : List V} {ps ks : List Str} {n : Nat} {gp : Perm3} (F : FunV K x qual st dvs f fd) (hd : dvs ≠ [])
    (h : ∀ (T : Addr) (kV doc pm : Value) (an : Option Addr) (cdv ct : Value) (us ws its : List Value), us.length = n → ws.length = ks.length → its.length = dvs.length → ∃ k, bindArgs (PySem.W.fnOf x qual (defArgs st) (defBody st) (defScope st) (.ref T) kV doc pm an cdv ct) ⟨us, ks.zip ws⟩ = seqItems? (.ref T) >>= k ∧ k (some its.toArray) = pure (ps.zip (gp us ws []))) : KwB K fd ps n ks [] gp := by
  obtain ⟨oc, od, dV, kV, doc, pm, an, cdv, ct, osl, rfl, lk, hcd, hD, hK⟩ := F.ex
  rcases hD with ⟨e, _⟩ | ⟨_, T, o, its, m, rfl, lT, oT, rT⟩
  · exact absurd e hd
  · refine ⟨fun s us ws X l1 l2 => ?_⟩
    obtain ⟨k, e1, e2⟩ := h T kV doc pm an cdv ct us ws its l1 l2 rT.length.symm
    refine BindsTo.of_looks fun M => ?_
    rw [e1]
    exact looks_items X lT oT (.of_pure e2)
/-! ### the errors' __init__ -/
theorem init1_ok {qual code f : Str} {st : Stmt} {fI C : Addr} {fd : FuncData} {p1 p2 p3 p4 p5 p6 p7 p8 : Pos} {j : Nat} (F : Fun K "__init__" qual st fI fd) (S : FnScope ["self", f] ["self", f] (defScope st))
    (hbd : defBody st = [.Assign [.Attribute (.Name "self" p1) "code" p2] (.Constant (.str code) j p3) p4, .Assign [.Attribute (.Name "self" p5) f p6] (.Name f p7) p8]) (hs : (defScope st).names.lookup ("self" : Str) = some .local) (hf : (defScope st).names.lookup f = some .local)
    (hd : (f == ("__debug__" : Str)) = false) (hcd : (f == ("__classdict__" : Str)) = false) (T : OexC K C) (h1 : PySem.W.findIn K (.ref C) "code" = some none) (h2 : PySem.W.findIn K (.ref C) f = some none) : FnOk P w K mg base (L2.CX P w) 1 fI fd ["self", f] (spI1 C code f) := by
  refine F.okX S (fun vs H Q E h => ?_) (fun cdv A outer s H vs Q E hr h => ?_)
  · obtain ⟨a, v, rfl, _⟩ := h
    rfl
  · obtain ⟨a, v, rfl, ha, q⟩ := h
    rw [hbd]
    refine ⟨_, pss_cons (ps_ost (pv 0 rfl (.inl hs)) pe_str (by rfl)) (pss_one (ps_ost (pv 0 rfl (.inl hs)) (pv 1 rfl (.inl hf) hd hcd) (by rfl))), ?_⟩
    refine ⟨.ref a, rfl, a, C, rfl, T, h1, .inl ⟨ha, fun d hd hne => ?_⟩⟩
    refine ⟨v, rfl, .ref a, rfl, a, C, rfl, T, h2, .inr ⟨d, [("code", .str code)], upd_same, ?_, by show 1 ≤ 900; omega, ?_⟩⟩
    · rw [upd_ne hne, upd_same]
    · exact q d hd hne
theorem init0_ok {qual code : Str} {st : Stmt} {fI C : Addr} {fd : FuncData} {p1 p2 p3 p4 : Pos} {j : Nat} (F : Fun K "__init__" qual st fI fd) (S : FnScope ["self"] ["self"] (defScope st))
    (hbd : defBody st = [.Assign [.Attribute (.Name "self" p1) "code" p2] (.Constant (.str code) j p3) p4]) (hs : (defScope st).names.lookup ("self" : Str) = some .local)
    (T : OexC K C) (h1 : PySem.W.findIn K (.ref C) "code" = some none) : FnOk P w K mg base (L2.CX P w) 1 fI fd ["self"] (spI0 C code) := by
  refine F.okX S (fun vs H Q E h => ?_) (fun cdv A outer s H vs Q E hr h => ?_)
  · obtain ⟨a, rfl, _⟩ := h
    rfl
  · obtain ⟨a, rfl, ha, q⟩ := h
    rw [hbd]
    refine ⟨_, pss_one (ps_ost (pv 0 rfl (.inl hs)) pe_str (by rfl)), ?_⟩
    exact ⟨.ref a, rfl, a, C, rfl, T, h1, .inl ⟨ha, fun d hd hne => q d hd hne⟩⟩
end
/-! ### the end, with tables -/
theorem tab_code {K : PySem.W.Frag} {x : Str} {f c P : Addr} {oc : Value} {od : Option Addr} {fd : FuncData} {osl : Array (Option Value)} (a : PySem.W.nsIn K mainGlobals x = some (some (.ref f))) (lk : K.lookup f = some ⟨oc, od, .func fd, osl⟩) (t : PySem.W.tabIn K x = some (c, P)) : fd.code = .ref c := by
  unfold PySem.W.tabIn at t
  rw [a] at t
  dsimp only at t
  rw [lk] at t
  dsimp only at t
  split at t
  · rename_i c' hc
    split at t
    · split at t
      · cases t; exact hc
      · cases t
    · cases t
  · cases t
theorem walk_ofXT {l : PySem.W.OpenLaw} {n k : Nat} {q : Program} {loose : List Str} {XP : (Str → Option Value) → Heap → Prop} {YP : World → Heap → Prop} {d : DefRec} {K : Params → PySem.W.Frag} {CX : World → CXT} {x : Str}
    (hn : l.most = some n) (hn2 : n ≤ sizeLine) (hdf : d.params.defaults = []) (hr : Room k callerA) (hY : ∀ (w : World) (h : Heap), YP w h → (K w.params).In h)
    (F : ∀ (w : World) (mg : Str → Option Value) (fa : Addr) (h : Heap), (K w.params).In h → XP mg h → h.Ns mainGlobals mg → mg d.name = some (.ref fa) →
      (∀ (y : Str) (dr : DefRec) (c P : Addr), (recsOf q).find? (fun e => e.name == y) = some dr → PySem.W.tabIn (K w.params) y = some (c, P) → PySem.W.CodeHd h c P ∧ h.get? P = some { cls := .none, data := .fields #[] }) → LamX.LawAtS l w (K w.params) (CX w) k n x mg fa h)
    (hCX : ∀ (w : World) (H : Hp) (s : Shared) (e : Value) (s' : Shared), CX w [] H s (fun _ _ _ => False) e s' → False) :
    PySem.W.WalkO q loose XP YP l.row.toRowW d [] (fun f vs => PySem.call f vs) := by
  refine Att.attach_callB hn hdf fun w s₀ s₁ mg mb fa o pm cd doc a vs ns G Y ho hd hcd hmg hobj hints hlen hbits hg => ?_
  have KX := hY w _ Y
  obtain ⟨fd, cs, sp, hT, nT, C, hb, hsp, hF⟩ := F w mg fa _ KX G.X G.T.g hmg fun y dr c P h1 h2 => PySem.W.tab_of G.T KX h1 h2
  exact LamX.law_callTs KX G.T.g G.T.b G.T.builtins G.T.nolimit hg hT nT C G.T.bmain hobj hints (Nat.le_trans hlen hn2) hr hF hb (fun H hH hS => hsp H a ns hlen hbits hH hS) fun H e s' => hCX w H s₁ e s'
end DL
namespace DL
open PySem L2
/-! ### places in a text -/
def sElse : Stmt → List Stmt
  | .If _ _ b _ => b
  | _ => []
def eNo : Expr := .Constant .none 0 ⟨0, 0, 0, 0⟩
def sVal : Stmt → Expr
  | .Assign _ e _ => e
  | .If e _ _ _ => e
  | .Expr e _ => e
  | .Return (some e) _ => e
  | _ => eNo
def eKid (i : Nat) : Expr → Expr
  | .Call _ as _ _ => as.getD i eNo
  | .List as _ => as.getD i eNo
  | .Tuple as _ _ => as.getD i eNo
  | .BoolOp _ as _ => as.getD i eNo
  | .UnaryOp _ a _ => a
  | .Compare a _ as _ => (a :: as).getD i eNo
  | .BinOp a _ b _ => [a, b].getD i eNo
  | .IfExp a b c _ => [a, b, c].getD i eNo
  | .Subscript a _ _ => a
  | _ => eNo
def lArgs : Expr → Arguments
  | .Lambda a _ _ _ => a
  | _ => defArgs (.Pass ⟨0, 0, 0, 0⟩)
def lBody : Expr → Expr
  | .Lambda _ b _ _ => b
  | _ => eNo
def lScope : Expr → Scope
  | .Lambda _ _ s _ => s
  | _ => defScope (.Pass ⟨0, 0, 0, 0⟩)
theorem q_atEK {X : Cx} {Wx : WX} {e : Expr} {da : DE} {pos : Pos} {K : PySem.W.Frag} {f : Str} (hK : X.K = K) (he : QE X Wx e da) (hb : attributeBase e f X.env (eval e X.env) = eval e X.env := by rfl) : QE X Wx (.Attribute e f pos) (dAtE K f da) := by
  subst hK
  exact q_atE he hb
def lamAt (e : Expr) (qual : Str) (ps fr : List Str) : LamF := ⟨lArgs e, lBody e, lScope e, qual, ps, fr⟩
theorem roomS {k : Nat} {A : Around} {v : Option Value} (h : Room k A) : L2H.RoomH k (A.mark v) := ⟨h.dp, h.un⟩
end DL
namespace L2H
theorem RoomH.units {k : Nat} {A : PySem.Around} (r : RoomH k A) : A.units + 64 < PySem.cLine := by have := r.un; omega
end L2H

namespace DL
open PySem L2
/-! ### the laws' helpers about errors -/
/-- codes and the fields beside them -/
inductive FldTab : Str → Str → Prop
  | c1 : FldTab "InvalidNumber" "given" | c2 : FldTab "InvalidRatio" "given" | c3 : FldTab "InvalidPoint" "given" | c4 : FldTab "InvalidLetter" "given" | c5 : FldTab "NoPlace" "given" | c6 : FldTab "OutOfBox" "given" | c7 : FldTab "InvalidLimit" "given"
  | c8 : FldTab "InvalidTerm" "at" | c9 : FldTab "InvalidProgram" "at" | c10 : FldTab "InvalidCommand" "at"
  | c11 : FldTab "InvalidName" "name" | c12 : FldTab "DuplicateName" "name" | c13 : FldTab "UnknownName" "name"
  | c14 : FldTab "InvalidText" "line" | c15 : FldTab "InvalidPage" "line"
  | c16 : FldTab "NoRoot" "index" | c17 : FldTab "Full" "limit" | c18 : FldTab "InUse" "user"
inductive NoFld : Str → Prop
  | c1 : NoFld "ZeroDivisor" | c2 : NoFld "ZeroPolynomial" | c3 : NoFld "NotDivisible" | c4 : NoFld "NoValue" | c5 : NoFld "NothingLeft"
/-- an error of the package: its fields, its code, what its field holds -/
inductive ErrD (K : PySem.W.Frag) (C : Addr) : List Str → List D → Str → D → Prop
  | one {code f : Str} {v : D} : FldTab code f → FldOk K C "code" → FldOk K C f → ErrD K C [f, "code"] [v, .str code] code v
  | no {code : Str} : NoFld code → FldOk K C "code" → ErrD K C ["code"] [.str code] code .non
def fieldS (K : PySem.W.Frag) : DSp := fun ds L k _ => ∃ C ns vs code r, ds = [.exc C ns vs] ∧ ErrD K C ns vs code r ∧ k r L
/-- what is caught -/
def Caught (K : PySem.W.Frag) (cs : List Value) (n : Exn) (kk : D → Prop) : Prop := ∃ C code r, n.cls = .ref C ∧ PySem.W.exmAny K (.ref C) cs = some true ∧ ErrD K C n.ns n.vs code r ∧ kk (.tup [.str code, r])
/-- a contract for weaker ends -/
def upG (G : LamF → DSp) : LamF → DSp := fun F ds L k x => ∃ k0 x0, G F ds L k0 x0 ∧ (∀ d L', k0 d L' → k d L') ∧ ∀ n L', x0 n L' → x n L'
theorem CloOk.up {P : Program} {w : World} {K : PySem.W.Frag} {mg : Str → Option Value} {base : Heap} {n : Nat} {G : LamF → DSp} (c : CloOk P w K mg base n G) : CloOk P w K mg base n (upG G) :=
  ⟨fun A outer s H f F vs ds L k x Q E hr e0 ca j r g hk hx => by
    obtain ⟨k0, x0, g, h1, h2⟩ := g
    exact c.run A outer s H f F vs ds L k0 x0 Q E hr e0 ca j r g (fun d L' v H' q => hk d L' v H' (h1 d L' q)) fun n L' a H' q => hx n L' a H' (h2 n L' q)⟩
def tryS (K : PySem.W.Frag) (cs : List Value) (G : LamF → DSp) : DSp := fun ds L k _ => ∃ F es, ds = [.clo F es] ∧ G F es L (fun d L' => k (.tup [.str "", d]) L') fun n L' => Caught K cs n fun d => k d L'
/-- each asked in turn; each answers r and leaves the ledger -/
def triesS (K : PySem.W.Frag) (cs : List Value) (G : LamF → DSp) : DSp := fun ds L k _ => ∃ (qs : List (LamF × List D)) (rs : List D), qs.length ≤ 1000 ∧ ds = [.lst (qs.map fun q => .clo q.1 q.2)] ∧ rs.length = qs.length ∧ plnL L = true ∧ plns rs = true ∧
  (∀ (i : Nat) (q : LamF × List D) (r : D), qs[i]? = some q → rs[i]? = some r → ∀ (L' : Led) (k' : DK), plnL L' = true → k' r L' → tryS K cs G [.clo q.1 q.2] L' k' fun _ _ => False) ∧ k (.lst rs) L
theorem lcD_yes {dg : DG} {de : DE} {env0 : DEnv} {p : Addr} {k : DK} {L : Led} (hp : ¬ inL L p) : ∀ (ds rs acc : List D), rs.length = ds.length → acc.length + ds.length ≤ 1000 → plns rs = true → plns acc = true →
    (∀ (i : Nat) (d r : D), ds[i]? = some d → rs[i]? = some r → ∀ (acc' : List D) (K' : DK), plns acc' = true → K' r ((p, .lst acc') :: L) → dg d env0 ((p, .lst acc') :: L) fun env1 => de env1 ((p, .lst acc') :: L) K' (fun _ _ _ => False)) →
    k (.lst (acc ++ rs)) L → lcD dg dYes de env0 p k ds acc ((p, .lst acc) :: L)
  | [], rs, acc, hl, _, _, _, _, h => by
    cases rs with
    | cons _ _ => cases hl
    | nil =>
      rw [lcD_nil, remL_top hp]
      rw [List.append_nil] at h
      exact h
  | d :: ds, rs, acc, hl, hz, pr, pa, hs, h => by
    cases rs with
    | nil => cases hl
    | cons r rs =>
      rw [lcD_cons]
      have pr' := Bool.and_eq_true_iff.mp (show (pln r && plns rs) = true by simpa only [plns] using pr)
      refine hs 0 d r rfl rfl acc _ pa ⟨lookup_top, Nat.lt_of_lt_of_le (show acc.length < 1000 by rw [List.length_cons] at hz; omega) (by decide), ?_⟩
      rw [setL_top hp]
      refine lcD_yes hp ds rs (acc ++ [r]) (by simpa using hl) (by rw [List.length_append, List.length_singleton]; rw [List.length_cons] at hz; omega) pr'.2 (plns_append pa (by unfold plns; rw [pr'.1]; rfl)) (fun i d' r' h1 h2 => hs (i + 1) d' r' (by simpa using h1) (by simpa using h2)) ?_
      rw [List.append_assoc]
      exact h
end DL
namespace DL
open PySem PySem.Spec PyProof.Rows L2
theorem calq_mk {P : Program} {w : World} {K : PySem.W.Frag} {mg : Str → Option Value} {base : Heap} {n : Nat} {x : Str} {ps : List Str} {g : DSp} {f : Addr} {fd : FuncData} (G : FnQ P w K mg base n f fd ps (spD K g)) (m : mg x = some (.ref f)) (k : PySem.W.keepIn K (.ref f) = true) (b : L2.Binds K fd ps []) : CalQ P w K mg base n x ps g := ⟨⟨f, fd, G, m, k, b⟩⟩
theorem kwb {K : PySem.W.Frag} {x qual : Str} {st : Stmt} {f : Addr} {fd : FuncData} {ps ks : List Str} {n : Nat} {gp : Perm3} (F : Fun K x qual st f fd)
    (h : ∀ (kV doc pm : Value) (an : Option Addr) (cdv ct : Value) (us ws : List Value), us.length = n → ws.length = ks.length → bindArgs (PySem.W.fnOf x qual (defArgs st) (defBody st) (defScope st) .none kV doc pm an cdv ct) ⟨us, ks.zip ws⟩ = pure (ps.zip (gp us ws []))) : KwB K fd ps n ks [] gp := by
  obtain ⟨oc, od, kV, doc, pm, an, cdv, ct, osl, rfl, lk, hcd⟩ := F.ex
  exact ⟨fun s us ws _ hu hw => .of_eq (h kV doc pm an cdv ct us ws hu hw)⟩
/-- an error class of the package as the top has left it -/
structure ErrC (K : PySem.W.Frag) (cs : List Value) (C : Addr) (fs : List Str) : Prop where
  oex : OexC K C
  xf : XfC K C
  no : ∀ f ∈ fs, PySem.W.findIn K (.ref C) f = some none
  ex : PySem.W.exmAny K (.ref C) cs = some true
theorem ErrC.fld {K : PySem.W.Frag} {cs : List Value} {C : Addr} {fs : List Str} (e : ErrC K cs C fs) {f : Str} (h : f ∈ fs) : FldOk K C f := ⟨e.xf, e.no f h⟩
theorem exm_ref {K : PySem.W.Frag} {cls : Value} {C : Addr} {d : ClassData} {b : Bool} (hb : PySem.W.subIn K (.ref C) (.type "BaseException") = some true) (hc : PySem.W.clsIn K C = some d) (ht : PySem.W.typeIn K (.ref C) = some (.type "type")) (hs : PySem.W.subIn K cls (.ref C) = some b) : PySem.W.exmOne K cls (.ref C) = some b := by
  unfold PySem.W.exmOne PySem.W.kitCls
  dsimp only
  rw [hb, hc, ht]
  exact hs
theorem exm_3 {K : PySem.W.Frag} {cls c1 c2 c3 : Value} {b1 b2 b3 : Bool} (h1 : PySem.W.exmOne K cls c1 = some b1) (h2 : PySem.W.exmOne K cls c2 = some b2) (h3 : PySem.W.exmOne K cls c3 = some b3) : PySem.W.exmAny K cls [c1, c2, c3] = some (b1 || (b2 || (b3 || false))) := by
  unfold PySem.W.exmAny
  rw [h1]
  unfold PySem.W.exmAny
  rw [h2]
  unfold PySem.W.exmAny
  rw [h3]
  unfold PySem.W.exmAny
  rfl
theorem tab_in {K : PySem.W.Frag} {x : Str} {f c P : Addr} {oc ec : Value} {od ed : Option Addr} {fd : FuncData} {osl esl : Array (Option Value)} {vs : Array Value} (a : PySem.W.nsIn K mainGlobals x = some (some (.ref f))) (lk : K.lookup f = some ⟨oc, od, .func fd, osl⟩) (hc : fd.code = .ref c) (lc : K.lookup c = some ⟨ec, ed, .fields vs, esl⟩) (hv : vs[11]? = some (.ref P)) : PySem.W.tabIn K x = some (c, P) := by
  unfold PySem.W.tabIn
  rw [a]
  dsimp only
  rw [lk]
  dsimp only
  rw [hc]
  dsimp only
  rw [lc]
  dsimp only
  rw [hv]
theorem law_at {l : PySem.W.OpenLaw} {w : World} {K : PySem.W.Frag} {CX : CXT} {k n : Nat} {x : Str} {mg : Str → Option Value} {fa c Pt : Addr} {h : Heap} {pr : Program} {lawS : Addr → DSp} {dr : DefRec} {q : Str}
    (tabs : ∀ (y : Str) (dr : DefRec) (c P : Addr), (recsOf pr).find? (fun e => e.name == y) = some dr → PySem.W.tabIn K y = some (c, P) → PySem.W.CodeHd h c P ∧ h.get? P = some { cls := .none, data := .fields #[] })
    (hr : (recsOf pr).find? (fun e => e.name == ("law" : Str)) = some dr) (hn : K.lookup Pt = none)
    (A : PySem.W.tabIn K "law" = some (c, Pt) ∧ ∃ fd : FuncData, (∀ (s : Shared) (v : Value), BindsTo s fd ⟨[v], []⟩ [(x, v)]) ∧ ∀ base : Heap, K.In base → base.Ns mainGlobals mg → LamX.TabB base mg c Pt → FnOk l.prog w K mg base CX k fa fd [x] (spD K (lawS Pt)))
    (hL : ∀ (ns : List Int), ns.length ≤ n → lawS Pt [.ro (ns.map .int)] [(Pt, .tab q)] (fun d _ => d = .bl true) fun _ _ => False) : LamX.LawAtS l w K CX k n x mg fa h := by
  obtain ⟨ht, fd, hb, hF⟩ := A
  obtain ⟨h1, h2⟩ := tabs "law" dr c Pt hr ht
  refine ⟨fd, [(c, Pt)], spD K (lawS Pt), fun p hp => ?_, fun p hp => ?_, fun p hp => ?_, hb, fun H a ns hlen _ hT hS => ?_, fun base b1 b2 b3 => hF base b1 b2 (b3 (c, Pt) (by simp))⟩
  · have e : p = (c, Pt) := by simpa using hp
    subst e; exact h2
  · have e : p = (c, Pt) := by simpa using hp
    subst e; exact hn
  · have e : p = (c, Pt) := by simpa using hp
    subst e; exact h1
  · have hP : H Pt = some (.tbl #[]) := hT (c, Pt) (by simp)
    have nP : ∀ b : Addr, inL [(Pt, D.tab q)] b → b = Pt := fun b hb => by simpa [inL] using hb
    refine ⟨[.ro (ns.map .int)], [(Pt, .tab q)], fun d _ => d = .bl true, fun _ _ => False, ⟨by simp, fun a d m => ?_⟩, .cons (.ro ?_ (RpAll.ints ns)) .nil, hL ns hlen, fun d L' v H' hd _ _ r => ?_, fun n L' a H' h => h.elim⟩
    · have e : (a, d) = (Pt, .tab q) := by simpa using m
      cases e
      exact ⟨#[], hP, True.intro, fun pos cv hc => by
        have z : codeAmong pos [] = some cv := hc
        simp [codeAmong] at z⟩
    · rcases hS with hs | hs
      · refine .inl ⟨fun hi => ?_, hs⟩
        have e := nP a hi
        subst e
        rcases hs with hs | ⟨o, hs⟩
        · rw [hP] at hs; cases hs
        · rw [hP] at hs; cases hs
      · exact .inr hs
    · subst hd
      cases r
      rfl
end DL

namespace DL
open PySem L2
section
variable {X : Cx} {Wx : WX} {a b c e o : Expr} {es : List Expr} {da db dc de do' : DE} {dl : DA} {pos : Pos}
/-! ### xs.append(e) of a list of the ledger -/
def dAppend (do' de : DE) : DE := fun env L k x => do' env L (fun o L1 => match o with
  | .ptr p => match L1.lookup p with
    | some (.lst _) => de env L1 (fun d L2 => match L2.lookup p with
      | some (.lst ds) => ds.length < sizeLine ∧ k .non (setL L2 p (.lst (ds ++ [d])))
      | _ => False) x
    | _ => False
  | _ => False) x
theorem q_append {apos : Pos} (ho : QE X Wx o do') (he : QE X Wx e de)
    (hbase : attributeBase o "append" X.env (eval o X.env) = eval o X.env := by rfl)
    (hfew : ((backTo pos (starEach (e :: []) X.env)).all (fun x => !x.1) && (backToKw pos (keywordEach [] X.env)).all (fun x => x.1.isSome)
      && decide ((e :: []).length + ([] : List Keyword).length + (if ([] : List Keyword).isEmpty then 0 else 1) < 30)) = true := by rfl)
    (hline : (apos.endLine == pos.line) = true := by rfl) (hs : starEach (e :: []) X.env = (false, eval e X.env) :: starEach [] X.env := by rfl) (hplain : (backTo pos (starEach [] X.env)).any (·.1) = false := by rfl) :
    QE X Wx (.Call (.Attribute o "append" apos) [e] [] pos) (dAppend do' de) := by
  obtain ⟨to, po, so⟩ := ho.ex
  obtain ⟨ta, pa, sa⟩ := (a_cons he a_nil hs).ex
  refine ⟨_, pe_bm PySem.F.plainAttrs_list PySem.F.slot_list_append PySem.F.type_list_append mt_append po pa hbase hfew hline hs hplain, fun σ H env L k x Q st h hk hx => ?_⟩
  refine so σ H env L _ x _ st h (fun o L1 vo H1 h1 g1 j1 r1 => ?_) hx
  split at h1
  · rename_i p
    cases r1
    split at h1
    · rename_i ds0 hl
      obtain ⟨vs0, e0, rv0⟩ := j1.look hl
      refine ⟨.inl ⟨rfl, _, SqL.of e0⟩, ?_⟩
      refine sa σ H1 env L1 (fun ds L2 => match ds with
        | [d] => (match L2.lookup p with
          | some (.lst ds) => ds.length < sizeLine ∧ k .non (setL L2 p (.lst (ds ++ [d])))
          | _ => False)
        | _ => False) x _ (st.go g1 j1) h1 (fun ds L2 vs H2 h2 g2 j2 r2 => ?_) (hx.go g1)
      split at h2
      · rename_i d
        cases r2 with
        | @cons vd _ _ _ rd r0 =>
        cases r0
        split at h2
        · rename_i ds1 hl2
          obtain ⟨vs1, e1, rv1⟩ := j2.look hl2
          have hp := inL_of_lookup hl2
          refine ⟨p, vs1, _, rfl, rfl, e1, by rw [rv1.length]; exact h2.1, ?_⟩
          have g4 : Go L2 (setL L2 p (.lst (ds1 ++ [d]))) H2 (upd H2 p (.lst (vs1 ++ [vd]))) := go_set hp
          have j4 : JL X.K (setL L2 p (.lst (ds1 ++ [d]))) (upd H2 p (.lst (vs1 ++ [vd]))) := j2.put hp ⟨_, upd_same, (rv1.go g4).append (.cons (rd.go g4) .nil)⟩
          exact hk _ _ _ _ h2.2 ((g1.trans g2).trans g4) j4 .non
        · exact h2.elim
      · exact h2.elim
    · exact h1.elim
  · exact h1.elim
/-- a list of the ledger, read for the last time: from now on a plain datum -/
def dSeal (i : Nat) : DE := fun env L k _ => match env[i]? with
  | some (some (.ptr p)) => match L.lookup p with
    | some (.lst ds) => k (.lst ds) (remL L p)
    | _ => False
  | _ => False
theorem q_seal (i : Nat) {x : Str} {pos : Pos} (hN : X.N[i]? = some x := by rfl) (hv : Vis X.env.scope x := by first | exact Or.inl rfl | exact Or.inr (Or.inl rfl) | exact Or.inr (Or.inr rfl)) (hd : (x == ("__debug__" : Str)) = false := by decide)
    (hcd : (x == ("__classdict__" : Str)) = false := by decide) : QE X Wx (.Name x pos) (dSeal i) := by
  refine ⟨tVar i, pv i hN hv hd hcd, fun σ H env L k x Q st h hk _ => ?_⟩
  unfold dSeal at h
  split at h
  · rename_i p hd
    split at h
    · rename_i ds hl
      obtain ⟨v, e1, r⟩ := st.1.get hd
      cases r
      obtain ⟨vs, e2, rv⟩ := st.2.look hl
      exact ⟨_, e1, hk _ _ _ H h go_rem st.2.rem (.lst (fun m => (inL_remL.mp m).2 rfl) e2 (rv.go go_rem))⟩
    · exact h.elim
  · exact h.elim
/-! ### texts -/
def gInC (neg : Bool) : G2 := fun a b _ k => match a, b with
  | .str ⟨⟨[c]⟩⟩, .str z => k (.bl (if neg then !decide (c ∈ z.cps.toList) else decide (c ∈ z.cps.toList)))
  | _, _ => False
theorem oq_inC : OQ X (compareOp .In) (gInC false) := ⟨_, op_in_sign, fun H L va vb a b k Q j ra rb h hk => by
  unfold gInC at h
  split at h
  · cases ra
    cases rb
    exact ⟨_, _, rfl, rfl, hk _ _ H h (Same.refl H) (.bl _)⟩
  · exact h.elim⟩
theorem oq_notInC : OQ X (compareOp .NotIn) (gInC true) := ⟨_, op_notIn_sign, fun H L va vb a b k Q j ra rb h hk => by
  unfold gInC at h
  split at h
  · cases ra
    cases rb
    exact ⟨_, _, rfl, rfl, hk _ _ H h (Same.refl H) (.bl _)⟩
  · exact h.elim⟩
/-- the signs of a text, one by one -/
def sgD (l : List Nat) : List D := l.map fun c => .str ⟨#[c]⟩
def diStr (da : DE) : DI := fun env L k x => da env L (fun d L1 => match d with
  | .str z => k (sgD z.cps.toList) L1
  | _ => False) x
theorem it_str {K : PySem.W.Frag} {L : Led} {H : Hp} {z : Str} : ItD K L H (Its z) (sgD z.cps.toList) := fun L' H' g j i => by
  refine ⟨fun d hd => ?_, fun hi => ?_⟩
  · unfold sgD at hd
    rw [List.getElem?_map] at hd
    cases hc : z.cps.toList[i]? with
    | none => rw [hc] at hd; cases hd
    | some c =>
      rw [hc] at hd
      cases hd
      have hlt := (List.getElem?_eq_some_iff.mp hc).1
      refine ⟨by show i < z.cps.size; simpa using hlt, fun x H'' hy => ?_⟩
      obtain ⟨rfl, c', hc', rfl⟩ := hy
      rw [← Array.getElem?_toList, hc] at hc'
      cases hc'
      exact ⟨Same.refl _, .str _⟩
  · unfold sgD at hi
    rw [List.length_map] at hi
    show z.cps.size ≤ i
    simpa using hi
theorem i_str {tg : Expr} (ha : QE X Wx e da) : QI X Wx tg e (diStr da) := by
  obtain ⟨ta, pa, sa⟩ := ha.ex
  refine ⟨_, pi_str pa, fun σ H env L k x R st h hk hx => ?_⟩
  refine sa σ H env L _ _ _ st h (fun d L1 v H1 h1 g1 j1 r1 => ?_) hx
  cases r1 <;> first | exact h1.elim | skip
  exact ⟨_, rfl, hk _ L1 _ H1 h1 g1 j1 it_str⟩
/-- a text's method with one argument -/
def dTxt1 (g : G2) (da db : DE) : DE := fun env L k x => da env L (fun a L1 => match a with
  | .str _ => db env L1 (fun b L2 => g a b L2 fun d => k d L2) x
  | _ => False) x
theorem q_txt1 {id : String} {name : Str} {apos : Pos} {r : V → List V → Hp → VK → Prop} {g : G2} (slot : Slot "str" name id) (ty : typeOf (.builtin id) = pure (.type "method_descriptor")) (rule : MtR X id r) (sr : Sim2 X.K (fun x y H Q => r x [y] H Q) g) (ho : QE X Wx o do') (he : QE X Wx e de)
    (hs : starEach [e] X.env = [(false, eval e X.env)] := by rfl) (hbase : attributeBase o name X.env (eval o X.env) = eval o X.env := by rfl) (hline : (apos.endLine == pos.line) = true := by rfl) :
    QE X Wx (.Call (.Attribute o name apos) [e] [] pos) (dTxt1 g do' de) := by
  obtain ⟨to, po, so⟩ := ho.ex
  obtain ⟨te, pe, se⟩ := he.ex
  refine ⟨_, pe_m1 slot ty rule po pe hs hbase hline, fun σ H env L k x Q st h hk hx => ?_⟩
  refine so σ H env L _ x _ st h (fun o L1 vo H1 h1 g1 j1 r1 => ?_) hx
  cases r1 <;> first | exact h1.elim | skip
  refine ⟨⟨_, rfl⟩, ?_⟩
  refine se σ H1 env L1 _ x _ (st.go g1 j1) h1 (fun b L2 vb H2 h2 g2 j2 r2 => ?_) (hx.go g1)
  exact sr H2 L2 _ vb _ b _ Q j2 (.str _) r2 h2 fun d v H' q s rp => hk d L2 v H' q ((g1.trans g2).trans (Go.same s)) (j2.same s) rp
def gStarts : G2 := fun a b _ k => match a, b with
  | .str x, .str y => k (.bl (Txt.startswith x y))
  | _, _ => False
def gPartn : G2 := fun a b _ k => match a, b with
  | .str x, .str y => (y.length == 0) = false ∧ x.length ≤ sizeLine ∧ k (.tup [.str (Txt.partition x y).1, .str (Txt.partition x y).2.1, .str (Txt.partition x y).2.2])
  | _, _ => False
def gSplit : G2 := fun a b _ k => match a, b with
  | .str x, .str y => (y.length == 0) = false ∧ x.length + 2 ≤ sizeLine ∧ k (.lst ((Txt.split x y).map D.str))
  | _, _ => False
def strsOf : List D → Option (List Str)
  | [] => some []
  | .str z :: r => match strsOf r with
    | some l => some (z :: l)
    | none => none
  | _ => none
theorem strsOf_eq : ∀ {ds : List D} {l : List Str}, strsOf ds = some l → ds = l.map D.str
  | [], l, h => by cases h; rfl
  | d :: r, l, h => by
    cases d <;> first | (cases h; done) | skip
    unfold strsOf at h
    cases e : strsOf r with
    | none => rw [e] at h; cases h
    | some m => rw [e] at h; cases h; rw [strsOf_eq e]; rfl
theorem strsOf_map : ∀ l : List Str, strsOf (l.map D.str) = some l
  | [] => rfl
  | z :: r => by show (match strsOf (r.map D.str) with | some l => some (z :: l) | none => none) = _; rw [strsOf_map r]
def gJoin : G2 := fun a b L k => match a, seqs (con L b) with
  | .str x, some ds => match strsOf ds with
    | some ys => (ys.map (·.length)).sum + ys.length * x.length ≤ 16777216 ∧ k (.str (Txt.join x ys))
    | none => False
  | _, _ => False
theorem q_starts {apos : Pos} (ho : QE X Wx o do') (he : QE X Wx e de) (hs : starEach [e] X.env = [(false, eval e X.env)] := by rfl) (hbase : attributeBase o "startswith" X.env (eval o X.env) = eval o X.env := by rfl) (hline : (apos.endLine == pos.line) = true := by rfl) :
    QE X Wx (.Call (.Attribute o "startswith" apos) [e] [] pos) (dTxt1 gStarts do' de) :=
  q_txt1 PySem.F.slot_str_startswith PySem.F.type_str_startswith mt_startswith (fun H L va vb a b k Q j ra rb h hk => by
    cases ra <;> cases rb <;> first | exact h.elim | skip
    exact ⟨_, _, rfl, rfl, hk _ _ H h (Same.refl H) (.bl _)⟩) ho he hs hbase hline
theorem q_partn {apos : Pos} (ho : QE X Wx o do') (he : QE X Wx e de) (hs : starEach [e] X.env = [(false, eval e X.env)] := by rfl) (hbase : attributeBase o "partition" X.env (eval o X.env) = eval o X.env := by rfl) (hline : (apos.endLine == pos.line) = true := by rfl) :
    QE X Wx (.Call (.Attribute o "partition" apos) [e] [] pos) (dTxt1 gPartn do' de) :=
  q_txt1 PySem.F.slot_str_partition PySem.F.type_str_partition mt_partition (fun H L va vb a b k Q j ra rb h hk => by
    cases ra <;> cases rb <;> first | exact h.elim | skip
    refine ⟨_, _, rfl, rfl, h.1, h.2.1, fun p hp => ?_⟩
    exact hk _ _ _ h.2.2 (same_new hp _) (.tup (.inl ⟨j.notIn hp, .inl upd_same⟩) (.cons (.str _) (.cons (.str _) (.cons (.str _) .nil))))) ho he hs hbase hline
theorem q_split {apos : Pos} (ho : QE X Wx o do') (he : QE X Wx e de) (hs : starEach [e] X.env = [(false, eval e X.env)] := by rfl) (hbase : attributeBase o "split" X.env (eval o X.env) = eval o X.env := by rfl) (hline : (apos.endLine == pos.line) = true := by rfl) :
    QE X Wx (.Call (.Attribute o "split" apos) [e] [] pos) (dTxt1 gSplit do' de) :=
  q_txt1 PySem.F.slot_str_split PySem.F.type_str_split mt_split (fun H L va vb a b k Q j ra rb h hk => by
    cases ra <;> cases rb <;> first | exact h.elim | skip
    refine ⟨_, _, rfl, rfl, h.1, h.2.1, fun p hp => ?_⟩
    exact hk _ _ _ h.2.2 (same_new hp _) (.lst (j.notIn hp) upd_same (RpAll.strs _))) ho he hs hbase hline
theorem q_join {apos : Pos} (ho : QE X Wx o do') (he : QE X Wx e de) (hs : starEach [e] X.env = [(false, eval e X.env)] := by rfl) (hbase : attributeBase o "join" X.env (eval o X.env) = eval o X.env := by rfl) (hline : (apos.endLine == pos.line) = true := by rfl) :
    QE X Wx (.Call (.Attribute o "join" apos) [e] [] pos) (dTxt1 gJoin do' de) :=
  q_txt1 PySem.F.slot_str_join PySem.F.type_str_join mt_join (fun H L va vb a b k Q j ra rb h hk => by
    unfold gJoin at h
    split at h
    · rename_i x ds hd
      cases ra
      split at h
      · rename_i ys hy
        obtain ⟨p, vs, rfl, hs, r⟩ := con_seq j rb hd
        rw [strsOf_eq hy] at r
        cases RpAll.ofStrs ys r
        exact ⟨_, p, ys, rfl, rfl, hs, h.1, hk _ _ H h.2 (Same.refl H) (.str _)⟩
      · exact h.elim
    · exact h.elim) ho he hs hbase hline
end
end DL

namespace DL
open PySem L2
section
variable {X : Cx} {Wx : WX} {a b c e o : Expr} {es : List Expr} {da db dc de do' : DE} {dl : DA} {pos : Pos}
/-! ### a list, a tuple, a text at a place -/
def gIxA : G2 := fun a b L k => match b with
  | .int i => match a with
    | .str z => z.length ≤ sizeLine ∧ match atI z.cps.toList i with
      | some c => k (.str ⟨#[c]⟩)
      | none => False
    | _ => match seqs (con L a) with
      | some ds => match atI ds i with
        | some d => k d
        | none => False
      | none => False
  | _ => False
theorem sim_ixA {K : PySem.W.Frag} : Sim2 K (fun x y H Q => rIxQ K x y H Q ∨ rIxS x y H Q) gIxA := by
  intro H L va vb a b k Q j ra rb h hk
  cases rb <;> first | exact h.elim | skip
  rename_i i
  by_cases ha : ∃ z, a = .str z
  · obtain ⟨z, rfl⟩ := ha
    exact .inr (sim_ixS H L va _ (.str z) (.int i) k Q j ra (.int i) h hk)
  · refine .inl (sim_ix H L va _ a (.int i) k Q j ra (.int i) ?_ hk)
    cases a <;> first | exact h | exact absurd ⟨_, rfl⟩ ha
theorem q_ixA (ha : QE X Wx a da) (hb : QE X Wx b db) (hs : PlainIx b := by intro _ _; rfl) : QE X Wx (.Subscript a b pos) (dOp gIxA da db) := by
  obtain ⟨ta, pa, sa⟩ := ha.ex
  obtain ⟨tb, pb, sb⟩ := hb.ex
  exact ⟨_, pe_ix (ix_or (ix_or ix_list ix_tup) ix_str) pa pb hs, sim_op sa sb sim_ixA⟩
/-! ### names of the top -/
/-- the name x of the top holds d -/
def GlbD (K : PySem.W.Frag) (mg : Str → Option Value) (x : Str) (d : D) : Prop := ∃ u v, mg x = some u ∧ RelV v u ∧ ∀ L H, Rp L K H v d
theorem q_globD {x : Str} {d : D} (h : GlbD X.K X.mg x d) (hg : Gl X x) (hd : (x == ("__debug__" : Str)) = false := by decide) : QE X Wx (.Name x pos) (dC d) := by
  obtain ⟨u, v, h1, h2, h3⟩ := h
  exact q_glob hg h1 h2 h3 hd
theorem glb_int {K : PySem.W.Frag} {mg : Str → Option Value} {x : Str} {i : Int} {t : Tok} (h : mg x = some (.int i t)) : GlbD K mg x (.int i) := ⟨_, .int i, h, ⟨t, rfl⟩, fun _ _ => .int i⟩
theorem glb_str {K : PySem.W.Frag} {mg : Str → Option Value} {x z : Str} {t : Tok} (h : mg x = some (.str z t)) : GlbD K mg x (.str z) := ⟨_, .str z, h, ⟨t, rfl⟩, fun _ _ => .str z⟩
theorem glb_ptr {K : PySem.W.Frag} {mg : Str → Option Value} {x : Str} {a : Addr} (h : mg x = some (.ref a)) : GlbD K mg x (.ptr a) := ⟨_, .ref a, h, rfl, fun _ _ => .ptr a⟩
/-- a written tuple of texts -/
theorem vals_strs' : ∀ (l : List (Str × Tok)), Vals (l.map fun q => V.str q.1) (l.map fun q => Value.str q.1 q.2)
  | [] => .nil
  | (z, t) :: r => .cons ⟨t, rfl⟩ (vals_strs' r)
theorem ktup_strs {K : PySem.W.Frag} {a : Addr} {od : Option Addr} {n : Nat} {sl : Array (Option Value)} {l : List (Str × Tok)} (h : K.lookup a = some ⟨.type "tuple", od, .seq (l.map fun q => Value.str q.1 q.2).toArray n, sl⟩) (hz : l.length ≤ sizeLine) : ∀ L H, Rp L K H (.ref a) (.tup (l.map fun q => D.str q.1)) := fun L H => by
  refine .tup (xs := l.map fun q => V.str q.1) (.inr ⟨_, _, n, h, rfl, rfl, by simpa using hz, vals_strs' l⟩) ?_
  have h1 : (l.map fun q => V.str q.1) = (l.map (·.1)).map V.str := by rw [List.map_map]; rfl
  have h2 : (l.map fun q => D.str q.1) = (l.map (·.1)).map D.str := by rw [List.map_map]; rfl
  rw [h1, h2]
  exact RpAll.strs _
theorem glb_tup {K : PySem.W.Frag} {mg : Str → Option Value} {x : Str} {a : Addr} {d : D} (h : mg x = some (.ref a)) (r : ∀ L H, Rp L K H (.ref a) d) : GlbD K mg x d := ⟨_, .ref a, h, rfl, r⟩
/-! ### dicts of the top: texts to what does not change -/
inductive EntsOk (K : PySem.W.Frag) : List (Str × D) → List DictEntry → Prop
  | nil : EntsOk K [] []
  | cons {k : Str} {d : D} {v : V} {e : DictEntry} {t : Tok} {r : List (Str × D)} {es : List DictEntry} : e.key = .str k t → RelV v e.val → (∀ L H, Rp L K H v d) → EntsOk K r es → EntsOk K ((k, d) :: r) (e :: es)
structure KDc (K : PySem.W.Frag) (w : World) (a : Addr) (kvs : List (Str × D)) : Prop where
  ex : ∃ es n, KDict K w a es n ∧ EntsOk K kvs es.toList
theorem ents_any {K : PySem.W.Frag} {kvs : List (Str × D)} {es : List DictEntry} (h : EntsOk K kvs es) : es.any (·.refKey) = false := by
  induction h with
  | nil => rfl
  | cons hk _ _ _ ih =>
    rw [List.any_cons, ih, Bool.or_false]
    unfold DictEntry.refKey
    rw [hk]
theorem ents_find {K : PySem.W.Frag} {kvs : List (Str × D)} {es : List DictEntry} (z : Str) (h : EntsOk K kvs es) : match kvs.lookup z with
    | some d => ∃ e v, es.find? (·.key.isStr z) = some e ∧ RelV v e.val ∧ ∀ L H, Rp L K H v d
    | none => es.find? (·.key.isStr z) = none := by
  induction h with
  | nil => rfl
  | @cons k d v e t r es hk hv hr hs ih =>
    have q : e.key.isStr z = (k == z) := by rw [hk]; rfl
    by_cases hz : z = k
    · subst hz
      rw [List.lookup_cons_self]
      exact ⟨e, v, by rw [List.find?_cons, q, beq_self_eq_true], hv, hr⟩
    · have n1 : (z == k) = false := beq_false_of_ne hz
      have n2 : (k == z) = false := beq_false_of_ne (Ne.symm hz)
      rw [List.lookup_cons, n1]
      simp only [List.find?_cons, q, n2]
      exact ih
theorem kd_ns {K : PySem.W.Frag} {w : World} {a : Addr} {es : Array DictEntry} {n : Nat} {kvs : List (Str × D)} (D' : KDict K w a es n) (h : EntsOk K kvs es.toList) (z : Str) : match kvs.lookup z with
    | some d => ∃ u v, PySem.W.nsIn K a z = some (some u) ∧ RelV v u ∧ ∀ L H, Rp L K H v d
    | none => PySem.W.nsIn K a z = some none := by
  have f := ents_find z h
  have hn : PySem.W.nsIn K a z = (match es.toList.find? (·.key.isStr z) with
      | some e => some (some e.val)
      | none => if es.toList.any (·.refKey) then none else some none) := by
    unfold PySem.W.nsIn
    rw [D'.at_]
    rfl
  cases hl : kvs.lookup z with
  | some d =>
    rw [hl] at f
    obtain ⟨e, v, h1, h2, h3⟩ := f
    exact ⟨e.val, v, by rw [hn, h1], h2, h3⟩
  | none =>
    rw [hl] at f
    dsimp only at f
    show PySem.W.nsIn K a z = some none
    rw [hn, f, ents_any h]
    rfl
def gInKD (p : Addr) (kvs : List (Str × D)) (neg : Bool) : G2 := fun a b _ k => match a, b with
  | .str z, .ptr q => q = p ∧ k (.bl (if neg then !(kvs.lookup z).isSome else (kvs.lookup z).isSome))
  | _, _ => False
theorem oq_inKD {p : Addr} {kvs : List (Str × D)} (hD : KDc X.K X.w p kvs) : OQ X (compareOp .In) (gInKD p kvs false) := by
  obtain ⟨es, n, kd, en⟩ := hD.ex
  refine ⟨_, op_in_kd kd, fun H L va vb a b k Q j ra rb h hk => ?_⟩
  unfold gInKD at h
  split at h
  · rename_i z q
    cases ra
    cases rb
    obtain ⟨rfl, h⟩ := h
    have f := kd_ns kd en z
    cases hl : kvs.lookup z with
    | some d =>
      rw [hl] at f h
      obtain ⟨u, v, h1, _⟩ := f
      exact ⟨z, some u, rfl, rfl, h1, hk _ _ H h (Same.refl H) (.bl _)⟩
    | none =>
      rw [hl] at f h
      exact ⟨z, none, rfl, rfl, f, hk _ _ H h (Same.refl H) (.bl _)⟩
  · exact h.elim
theorem oq_notInKD {p : Addr} {kvs : List (Str × D)} (hD : KDc X.K X.w p kvs) : OQ X (compareOp .NotIn) (gInKD p kvs true) := by
  obtain ⟨es, n, kd, en⟩ := hD.ex
  refine ⟨_, op_notIn_kd kd, fun H L va vb a b k Q j ra rb h hk => ?_⟩
  unfold gInKD at h
  split at h
  · rename_i z q
    cases ra
    cases rb
    obtain ⟨rfl, h⟩ := h
    have f := kd_ns kd en z
    cases hl : kvs.lookup z with
    | some d =>
      rw [hl] at f h
      obtain ⟨u, v, h1, _⟩ := f
      exact ⟨z, some u, rfl, rfl, h1, hk _ _ H h (Same.refl H) (.bl _)⟩
    | none =>
      rw [hl] at f h
      exact ⟨z, none, rfl, rfl, f, hk _ _ H h (Same.refl H) (.bl _)⟩
  · exact h.elim
def gIxKD (p : Addr) (kvs : List (Str × D)) : G2 := fun a b _ k => match a, b with
  | .ptr q, .str z => q = p ∧ match kvs.lookup z with
    | some d => k d
    | none => False
  | _, _ => False
theorem q_ixKD {p : Addr} {kvs : List (Str × D)} (hD : KDc X.K X.w p kvs) (ha : QE X Wx a da) (hb : QE X Wx b db) (hs : PlainIx b := by intro _ _; rfl) : QE X Wx (.Subscript a b pos) (dOp (gIxKD p kvs) da db) := by
  obtain ⟨ta, pa, sa⟩ := ha.ex
  obtain ⟨tb, pb, sb⟩ := hb.ex
  obtain ⟨es, n, kd, en⟩ := hD.ex
  refine ⟨_, pe_ix ix_kdict pa pb hs, sim_op sa sb fun H L va vb a b k Q j ra rb h hk => ?_⟩
  unfold gIxKD at h
  split at h
  · rename_i q z
    cases ra
    cases rb
    obtain ⟨rfl, h⟩ := h
    have f := kd_ns kd en z
    cases hl : kvs.lookup z with
    | some d =>
      rw [hl] at f h
      obtain ⟨u, v, h1, h2, h3⟩ := f
      exact ⟨q, z, v, rfl, rfl, ⟨es, n, u, kd.at_, kd.lit, h1, h2⟩, hk _ _ H h (Same.refl H) (h3 L H)⟩
    | none => rw [hl] at h; exact h.elim
  · exact h.elim
/-! ### a tuple times a number; tuple(..); min -/
def gRepT : G2 := fun a b L k => match con L a, b with
  | .tup xs, .int n => (xs ≠ [] ∧ 2 ≤ n ∧ n ≤ 1000 ∧ xs.length ≤ 1000) ∧ k (.tup (List.replicate n.toNat xs).flatten)
  | _, _ => False
theorem oq_repT : OQ X (binaryOp .Mult) gRepT := ⟨_, op_repT, fun H L va vb a b k Q j ra rb h hk => by
  unfold gRepT at h
  split at h
  · rename_i xs n ea
    cases rb
    obtain ⟨p, vs, rfl, hp, rv⟩ := con_tup j ra ea
    obtain ⟨⟨h1, h2, h3, h4⟩, h⟩ := h
    refine ⟨p, _, vs, rfl, rfl, hp, fun e0 => h1 ?_, h2, h3, by rw [rv.length]; exact h4, fun l hl => ?_⟩
    · subst e0; cases rv; rfl
    · have s := same_new hl (.tup (List.replicate n.toNat vs).flatten)
      exact hk _ _ _ h s (.tup (.inl ⟨j.notIn hl, .inl upd_same⟩) ((rep_all rv n.toNat).go (Go.same s)))
  · exact h.elim⟩
def gTupOf : GC := fun ds L k => match ds with
  | [d] => match con L d with
    | .lst xs => k (.tup xs)
    | .ro xs => k (.tup xs)
    | .tup xs => k (.tup xs)
    | _ => False
  | _ => False
theorem rp_tup {L : Led} {K : PySem.W.Frag} {H : Hp} {v : V} {d : D} {xs : List D} (j : JL K L H) (r : Rp L K H v d) (e : con L d = .tup xs) : Rp L K H v (.tup xs) := by
  cases d with
  | ptr z =>
    have e : (L.lookup z).getD (.ptr z) = _ := e
    cases q : L.lookup z with
    | none => rw [q] at e; cases e
    | some c' => rw [q] at e; have e : c' = .tup xs := e; subst e; exact (j.look q).elim
  | _ => first | (have e : _ = D.tup xs := e; rw [← e]; exact r)
theorem cq_tuple : CQ X (.type "tuple") gTupOf := ⟨_, call_tuple_of, fun H L vs ds k Q j r h hk => by
  unfold gTupOf at h
  split at h
  · cases r with
    | cons r1 r2 =>
      cases r2
      split at h
      · rename_i xs hd
        obtain ⟨a, vs, rfl, hs, rv⟩ := con_lst j r1 hd
        refine ⟨a, vs, rfl, .inl ⟨SqL.of hs, fun l hl => ?_⟩⟩
        have s := same_new hl (.tup vs)
        exact hk _ _ _ h s (.tup (.inl ⟨j.notIn hl, .inl upd_same⟩) (rv.go (Go.same s)))
      · rename_i xs hd
        obtain ⟨a, vs, rfl, hs, rv⟩ := con_ro j r1 hd
        refine ⟨a, vs, rfl, .inl ⟨hs, fun l hl => ?_⟩⟩
        have s := same_new hl (.tup vs)
        exact hk _ _ _ h s (.tup (.inl ⟨j.notIn hl, .inl upd_same⟩) (rv.go (Go.same s)))
      · rename_i xs hd
        obtain ⟨a, vs, rfl, hs, rv⟩ := con_tup j r1 hd
        exact ⟨a, vs, rfl, .inr ⟨hs, hk _ _ H h (Same.refl H) (rp_tup j r1 hd)⟩⟩
      · exact h.elim
  · exact h.elim⟩
def gMin2 : GC := fun ds _ k => match ds with
  | [.int i, .int j] => k (.int (if j < i then j else i))
  | _ => False
theorem cq_min2 (hc : X.calm = true) : CQ X (.builtin "min") gMin2 := ⟨_, call_min2 hc, fun H L vs ds k Q j r h hk => by
  unfold gMin2 at h
  split at h
  · cases r with
    | cons r1 r2 =>
      cases r2 with
      | cons r2 r3 =>
        cases r3
        cases r1
        cases r2
        exact ⟨_, _, rfl, hk _ _ H h (Same.refl H) (.int _)⟩
  · exact h.elim⟩
/-! ### texts with values put in -/
def strD : D → Option Str
  | .str y => some y
  | .int i => some (toString i)
  | _ => none
/-- one piece of a text: a constant, a value -/
def gFmt : G1 := fun a _ k => match a with
  | .str y => y.length ≤ sizeLine ∧ k (.str y)
  | .int i => i.natAbs.log2 < 1920 ∧ k (.str (toString i))
  | _ => False
theorem q_fmt (ha : QE X Wx e da) : QE X Wx (.FormattedValue e (-1) none pos) (dUn gFmt da) := by
  obtain ⟨ta, pa, sa⟩ := ha.ex
  refine ⟨_, pe_fmt pa, fun σ H env L k x Q st h hk hx => ?_⟩
  refine sa σ H env L _ x _ st h (fun a L1 va H1 h1 g1 j1 r1 => ?_) hx
  unfold gFmt at h1
  split at h1
  · cases r1
    exact .inl ⟨_, rfl, h1.1, hk _ L1 _ H1 h1.2 g1 j1 (.str _)⟩
  · cases r1
    exact .inr ⟨_, rfl, h1.1, hk _ L1 _ H1 h1.2 g1 j1 (.str _)⟩
  · exact h1.elim
structure QJ (X : Cx) (Wx : WX) (es : List Expr) (dj : DEnv → Led → Str → (Str → Led → Prop) → DX → Prop) : Prop where
  ex : ∃ ts, PJ X es ts ∧ ∀ σ H env L acc k x (Q : Str → Hp → Prop), StL X.K σ H env L → dj env L acc k x → (∀ z L' H', k z L' → Go L L' H H' → JL X.K L' H' → Q z H') → XOk X.K Wx L H x → tJs ts acc σ H Q
def djNil : DEnv → Led → Str → (Str → Led → Prop) → DX → Prop := fun _ L acc k _ => k acc L
def djCons (de : DE) (dj : DEnv → Led → Str → (Str → Led → Prop) → DX → Prop) : DEnv → Led → Str → (Str → Led → Prop) → DX → Prop := fun env L acc k x => de env L (fun d L1 => match d with
  | .str y => (acc ++ y).length ≤ sizeLine ∧ dj env L1 (acc ++ y) k x
  | _ => False) x
theorem j_nil : QJ X Wx [] djNil := ⟨[], .nil, fun σ H env L acc k x Q st h hk hx => hk acc L H h (Go.refl L H) st.2⟩
theorem j_cons {dj : DEnv → Led → Str → (Str → Led → Prop) → DX → Prop} (he : QE X Wx e de) (hr : QJ X Wx es dj) : QJ X Wx (e :: es) (djCons de dj) := by
  obtain ⟨te, pe, se⟩ := he.ex
  obtain ⟨ts, ps, ss⟩ := hr.ex
  refine ⟨te :: ts, .cons pe ps, fun σ H env L acc k x Q st h hk hx => ?_⟩
  refine se σ H env L _ x _ st h (fun d L1 v H1 h1 g1 j1 r1 => ?_) hx
  cases r1 <;> first | exact h1.elim | skip
  exact ⟨_, rfl, h1.1, ss σ H1 env L1 _ k x Q (st.go g1 j1) h1.2 (fun z L' H' q g j => hk z L' H' q (g1.trans g) j) (hx.go g1)⟩
def dJoined (dj : DEnv → Led → Str → (Str → Led → Prop) → DX → Prop) : DE := fun env L k x => dj env L Str.empty (fun z L' => k (.str z) L') x
theorem q_joined {v1 v2 : Expr} {dj : DEnv → Led → Str → (Str → Led → Prop) → DX → Prop} (h : QJ X Wx (v1 :: v2 :: es) dj) : QE X Wx (.JoinedStr (v1 :: v2 :: es) pos) (dJoined dj) := by
  obtain ⟨ts, ps, ss⟩ := h.ex
  refine ⟨_, pe_joined ps, fun σ H env L k x Q st h hk hx => ?_⟩
  exact ss σ H env L _ _ x _ st h (fun z L' H' q g j => hk _ L' _ H' q g j (.str z)) hx
/-- int(text) -/
def gIntT : GC := fun ds _ k => match ds with
  | [.str z] => z.length ≤ 640 ∧ match PySem.intText? z with
    | some n => k (.int n)
    | none => False
  | _ => False
theorem cq_intT : CQ X (.type "int") gIntT := ⟨_, call_int_str, fun H L vs ds k Q j r h hk => by
  unfold gIntT at h
  split at h
  · cases r with
    | cons r1 r2 =>
      cases r2
      cases r1
      obtain ⟨hz, h⟩ := h
      split at h
      · rename_i n hn
        exact ⟨_, n, rfl, hn, hz, hk _ _ H h (Same.refl H) (.int _)⟩
      · exact h.elim
  · exact h.elim⟩
end
end DL

namespace DL
open PySem L2
section
variable {X : Cx} {Wx : WX} {a b c e o : Expr} {es : List Expr} {da db dc de do' : DE} {dl : DA} {pos : Pos}
/-! ### x op= e -/
abbrev G2L := D → D → Led → (D → Led → Prop) → Prop
def Sim2L (K : PySem.W.Frag) (r : R2) (g : G2L) : Prop := ∀ H L va vb a b k Q, JL K L H → Rp L K H va a → Rp L K H vb b → g a b L k → KOk K L H k Q → r va vb H Q
def OQL (X : Cx) (op : Operator) (g : G2L) : Prop := ∃ r, PIp X op r ∧ Sim2L X.K r g
def dAug (i : Nat) (g : G2L) (de : DE) : DS := fun D env L => match env[i]? with
  | some (some a) => de env L (fun b L1 => g a b L1 fun d L2 => D.nx (env.set i (some d)) L2) D.ex
  | _ => False
theorem s_aug (i : Nat) {x : Str} {op : Operator} {pos' : Pos} {g : G2L} (hN : X.N.Nodup) (he : QE X Wx e de) (ho : OQL X op g) (hi : X.N[i]? = some x := by rfl) (hx : Loc X.env.scope x := by first | exact Or.inl rfl | exact Or.inr rfl) (hf : X.fn x = true ∨ X.env.scope.names.lookup x = some .local := by first | exact .inl rfl | exact .inr rfl | assumption) :
    QS X Wx (.AugAssign (.Name x pos') op e pos) (dAug i g de) := by
  obtain ⟨te, pe, se⟩ := he.ex
  obtain ⟨r, hr, sr⟩ := ho
  refine ⟨_, ps_aug hN hi hx pe hr hf, fun σ H env L D' D st h ok => ?_⟩
  unfold dAug at h
  split at h
  · rename_i a hd
    obtain ⟨v, e1, rv⟩ := st.1.get hd
    refine ⟨v, e1, ?_⟩
    refine se σ H env L _ _ _ st h (fun b L1 vb H1 h1 g1 j1 r1 => ?_) ok.ex
    refine sr H1 L1 v vb a b _ _ j1 (rv.go g1) r1 h1 fun d L2 vd H2 h2 g2 j2 r2 => ?_
    exact ok.nx _ L2 _ H2 h2 (g1.trans g2) ⟨(st.1.go (g1.trans g2)).set r2 i, j2⟩
  · exact h.elim
def gAugSub : G2L := fun a b L k => match a, b with
  | .int i, .int j => k (.int (i - j)) L
  | _, _ => False
theorem ip_subQ : OQL X .Sub gAugSub := ⟨_, ip_sub, fun H L va vb a b k Q j ra rb h hk => by
  unfold gAugSub at h
  split at h
  · cases ra
    cases rb
    exact ⟨_, _, rfl, rfl, hk _ L _ H h (Go.refl L H) j (.int _)⟩
  · exact h.elim⟩
def gAugAdd : G2L := fun a b L k => match a with
  | .int i => (match b with
    | .int j => k (.int (i + j)) L
    | _ => False)
  | .str x => (match b with
    | .str y => x.length + y.length ≤ sizeLine ∧ k (.str (x ++ y)) L
    | _ => False)
  | .ptr p => (match L.lookup p with
    | some (.lst xs) => (match con L b with
      | .lst ys => xs.length + ys.length ≤ sizeLine ∧ k (.ptr p) (setL L p (.lst (xs ++ ys)))
      | _ => False)
    | _ => False)
  | _ => False
theorem ip_addQ : OQL X .Add gAugAdd := by
  refine ⟨_, opr_or (opr_or iop_add iop_add_str) iop_ext, fun H L va vb a b k Q j ra rb h hk => ?_⟩
  unfold gAugAdd at h
  split at h
  · split at h
    · cases ra
      cases rb
      exact .inl (.inl ⟨_, _, rfl, rfl, hk _ L _ H h (Go.refl L H) j (.int _)⟩)
    · exact h.elim
  · split at h
    · cases ra
      cases rb
      exact .inl (.inr ⟨_, _, rfl, rfl, h.1, hk _ L _ H h.2 (Go.refl L H) j (.str _)⟩)
    · exact h.elim
  · rename_i p
    cases ra
    split at h
    · rename_i xs hl
      split at h
      · rename_i ys hb
        obtain ⟨vs, e1, rv⟩ := j.look hl
        obtain ⟨q, ws, rfl, e2, rw'⟩ := con_lst j rb hb
        have hp := inL_of_lookup hl
        refine .inr ⟨p, q, vs, ws, rfl, rfl, e1, e2, by rw [rv.length, rw'.length]; exact h.1, ?_⟩
        have g4 : Go L (setL L p (.lst (xs ++ ys))) H (upd H p (.lst (vs ++ ws))) := go_set hp
        have j4 : JL X.K (setL L p (.lst (xs ++ ys))) (upd H p (.lst (vs ++ ws))) := j.put hp ⟨_, upd_same, (rv.go g4).append (rw'.go g4)⟩
        exact hk _ _ _ _ h.2 g4 j4 (.ptr p)
      · exact h.elim
    · exact h.elim
  · exact h.elim
end
end DL

namespace DL
open PySem L2
/-! ### draws from a list or a text -/
def itemsD : D → Option (List D)
  | .lst xs => some xs
  | .str z => some (sgD z.cps.toList)
  | _ => none
def ofA : DSp := fun ds L k _ => ∃ (p : Addr) (b : Bag) (s : D) (xs : List D), ds = [.ptr p, s] ∧ itemsD s = some xs ∧ L.lookup p = some (bagC b) ∧ BagOk b ∧ 0 < xs.length ∧ xs.length < 1000 ∧ ∀ d b', d ∈ xs → BagOk b' → k d (setL L p (bagC b'))
/-! data of None, bools, ints, short texts, lists, tuples -/
mutual
def okW : D → Bool
  | .non => true | .bl _ => true | .int _ => true
  | .str z => decide (z.length ≤ 100000)
  | .lst xs => decide (xs.length < 100000) && okWs xs
  | .tup xs => decide (xs.length < 100000) && okWs xs
  | .ro _ => false | .dk _ _ => false | .dt _ _ => false | .obj _ _ _ => false | .exc _ _ _ => false | .fnv _ _ => false | .clo _ _ => false | .tab _ => false | .ptr _ => false | .ty _ => false
def okWs : List D → Bool
  | [] => true
  | d :: r => okW d && okWs r
end
theorem okW_T {d : D} (h : okW d = true) : okT d = true := by
  cases d <;> first | rfl | (simp [okW] at h; done)
theorem okW_tup {l : List D} (h : okW (.tup l) = true) : l.length < 100000 ∧ okWs l = true := by
  unfold okW at h
  rw [Bool.and_eq_true] at h
  exact ⟨of_decide_eq_true h.1, h.2⟩
theorem okW_str {z : Str} (h : okW (.str z) = true) : z.length ≤ 100000 := by
  unfold okW at h
  exact of_decide_eq_true h
theorem okWs_cons {d : D} {l : List D} (h : okWs (d :: l) = true) : okW d = true ∧ okWs l = true := by
  unfold okWs at h
  rw [Bool.and_eq_true] at h
  exact h
theorem okWs_mk {d : D} {l : List D} (h1 : okW d = true) (h2 : okWs l = true) : okWs (d :: l) = true := by
  unfold okWs
  rw [h1, h2]; rfl
theorem okWs_mem : ∀ {l : List D} {d : D}, okWs l = true → d ∈ l → okW d = true
  | [], _, _, h => by cases h
  | e :: r, d, h, hm => by
    rcases List.mem_cons.mp hm with q | q
    · subst q; exact (okWs_cons h).1
    · exact okWs_mem (okWs_cons h).2 q
theorem okWs_of : ∀ {l : List D}, (∀ d ∈ l, okW d = true) → okWs l = true
  | [], _ => by unfold okWs; rfl
  | e :: r, h => okWs_mk (h e List.mem_cons_self) (okWs_of fun d hd => h d (List.mem_cons_of_mem _ hd))
theorem okWs_append {l m : List D} (h1 : okWs l = true) (h2 : okWs m = true) : okWs (l ++ m) = true := okWs_of fun d hd => (List.mem_append.mp hd).elim (okWs_mem h1) (okWs_mem h2)
theorem okW_mk {l : List D} (h1 : l.length < 100000) (h2 : okWs l = true) : okW (.tup l) = true := by
  unfold okW
  rw [decide_eq_true h1, h2]; rfl
theorem atI_zero {α : Type} {a : α} {r : List α} : atI (a :: r) 0 = some a := atI_nat (j := 0) rfl
theorem atI_one {α : Type} {a b : α} {r : List α} : atI (a :: b :: r) 1 = some b := atI_nat (j := 1) rfl
theorem fl_ne {a b : Int} (h : a ≠ b) : flEq (.int a) (.int b) = false := decide_eq_false h
theorem fl_eq {a b : Int} (h : a = b) : flEq (.int a) (.int b) = true := decide_eq_true h
theorem fl_str {a b : Str} : flEq (.str a) (.str b) = decide (a = b) := rfl
theorem inV_str (z : Str) : ∀ l : List Str, inV (.str z) (l.map V.str) = decide (z ∈ l)
  | [] => rfl
  | y :: r => by
    have ih := inV_str z r
    unfold inV at ih ⊢
    rw [List.map_cons, List.any_cons, ih]
    by_cases h : z = y
    · subst h
      have : eqV (.str z) (.str z) = true := by simp [eqV]
      rw [this, decide_eq_true List.mem_cons_self]; rfl
    · have : eqV (.str y) (.str z) = false := by simp [eqV]; exact fun e => h e.symm
      rw [this, Bool.false_or]
      exact decide_eq_decide.mpr ⟨fun q => List.mem_cons_of_mem _ q, fun q => (List.mem_cons.mp q).resolve_left h⟩
/-- a for by what is left of its items -/
theorem forD_rec {dg : DG} {db : DS} {En : DEnds} (I : List D → DEnv → Led → Prop) (step : ∀ (E' : DEnds) (d : D) (ds : List D) (env : DEnv) (L : Led), E'.rt = En.rt → E'.ex = En.ex → E'.bk = En.nx → E'.ct = E'.nx → I (d :: ds) env L → (∀ env' L', I ds env' L' → E'.nx env' L') → dg d env L fun env1 => db E' env1 L)
    (stop : ∀ env L, I [] env L → En.nx env L) : ∀ (ds : List D) (env : DEnv) (L : Led), I ds env L → forD dg db En ds env L
  | [], env, L, h => by rw [forD_nil]; exact stop env L h
  | d :: ds, env, L, h => by
    rw [forD_cons]
    exact step _ d ds env L rfl rfl rfl rfl h fun env' L' h' => forD_rec I step stop ds env' L' h'
/-- a list made item by item, the ledger changing meanwhile -/
theorem lcD_inv {dg : DG} {de : DE} {env0 : DEnv} {p : Addr} {k : DK} (I : List D → Led → Prop) (hI : ∀ acc L, I acc L → ¬ inL L p) : ∀ (ds acc : List D) (L : Led), acc.length + ds.length ≤ 1000 → I acc L →
    (∀ d ∈ ds, ∀ (acc : List D) (L : Led), I acc L → ∀ K' : DK, (∀ y L', I (acc ++ [y]) L' → K' y ((p, .lst acc) :: L')) → dg d env0 ((p, .lst acc) :: L) fun env1 => de env1 ((p, .lst acc) :: L) K' (fun _ _ _ => False)) →
    (∀ acc' L', I acc' L' → acc'.length = acc.length + ds.length → k (.lst acc') L') → lcD dg dYes de env0 p k ds acc ((p, .lst acc) :: L)
  | [], acc, L, _, hi, _, hk => by
    rw [lcD_nil, remL_top (hI acc L hi)]
    exact hk acc L hi rfl
  | d :: ds, acc, L, hz, hi, hs, hk => by
    rw [lcD_cons]
    rw [List.length_cons] at hz
    refine hs d List.mem_cons_self acc L hi _ fun y L' hi' => ⟨lookup_top, Nat.lt_of_lt_of_le (show acc.length < 1000 by omega) (by decide), ?_⟩
    rw [setL_top (hI _ _ hi')]
    exact lcD_inv I hI ds (acc ++ [y]) L' (by rw [List.length_append, List.length_singleton]; omega) hi' (fun d hd => hs d (List.mem_cons_of_mem _ hd)) fun acc' L'' h hl => hk acc' L'' h (by rw [hl, List.length_append, List.length_singleton, List.length_cons]; omega)
/-! ### names, numbers, expressions: what the program asks, over data -/
def reserved : List Str := ["x", "y", "let", "if", "else", "end", "repeat", "stop"]
def letters : Str := "abcdefghijklmnopqrstuvwxyz"
def nameOk (z : Str) : Bool := decide (1 ≤ z.length) && (decide (z.length ≤ 6) && (!decide (z ∈ reserved) && z.cps.toList.all fun c => decide (c ∈ letters.cps.toList)))
def isNameD : D → Bool
  | .str z => nameOk z
  | _ => false
def numIn (lo hi : Int) : D → Bool
  | .int i => decide (lo ≤ i) && decide (i ≤ hi)
  | _ => false
def isTupD : D → Bool
  | .tup _ => true
  | _ => false
def signsT : List (Str × D) := [("add", .str "+"), ("sub", .str "-"), ("mul", .str "*"), ("div", .str "/")]
def testsT : List (Str × D) := [("less", .str "<"), ("equal", .str "="), ("upto", .str "<=")]
def isTestD : D → Bool
  | .str z => (testsT.lookup z).isSome
  | _ => false
def exprOk : Nat → D → Bool
  | 0, _ => false
  | n + 1, v => match v with
    | .tup (.str w :: r) =>
      if w = "x" ∨ w = "y" then r.isEmpty
      else if w = "num" then (match r with | [a] => numIn (-999) 999 a | _ => false)
      else if w = "name" then (match r with | [a] => isNameD a | _ => false)
      else if w = "call" then (match r with | [f, a, b] => isNameD f && (exprOk n a && exprOk n b) | _ => false)
      else if (signsT.lookup w).isSome then (match r with | [a, b] => exprOk n a && exprOk n b | _ => false)
      else false
    | _ => false
theorem exprOk_succ (m : Nat) (w : Str) (r : List D) : exprOk (m + 1) (.tup (.str w :: r)) = (if w = "x" ∨ w = "y" then r.isEmpty
      else if w = "num" then (match r with | [a] => numIn (-999) 999 a | _ => false)
      else if w = "name" then (match r with | [a] => isNameD a | _ => false)
      else if w = "call" then (match r with | [f, a, b] => isNameD f && (exprOk m a && exprOk m b) | _ => false)
      else if (signsT.lookup w).isSome then (match r with | [a, b] => exprOk m a && exprOk m b | _ => false)
      else false) := rfl
def headOk : D → Bool
  | .tup (.str w :: r) =>
    if w = "let" then (match r with | [n, e] => isNameD n && exprOk 6 e | _ => false)
    else if w = "if" then (match r with | [t, a, b, p, q] => isTestD t && (exprOk 6 a && exprOk 6 b) && (isTupD p && isTupD q) | _ => false)
    else if w = "repeat" then (match r with | [n, p] => numIn 0 9 n && isTupD p | _ => false)
    else if w = "stop" then (match r with | [e] => exprOk 6 e | _ => false)
    else false
  | _ => false
def isTupOf (d : D) (w : Str) (n : Nat) : Bool := match d with
  | .tup (.str z :: r) => decide (r.length + 1 = n) && decide (z = w)
  | _ => false
theorem isTupOf_is {d : D} {w : Str} {n : Nat} (h : isTupOf d w n = true) : ∃ r : List D, d = .tup (.str w :: r) ∧ r.length + 1 = n := by
  unfold isTupOf at h
  split at h
  · rename_i z r
    rw [Bool.and_eq_true] at h
    obtain rfl := of_decide_eq_true h.2
    exact ⟨r, rfl, of_decide_eq_true h.1⟩
  · cases h
theorem len2 {r : List D} (h : r.length + 1 = 3) : ∃ a b, r = [a, b] := by
  rcases r with _ | ⟨a, _ | ⟨b, _ | ⟨c, t⟩⟩⟩
  · cases h
  · cases h
  · exact ⟨a, b, rfl⟩
  · simp only [List.length_cons] at h; omega
theorem len1 {r : List D} (h : r.length + 1 = 2) : ∃ a, r = [a] := by
  rcases r with _ | ⟨a, _ | ⟨b, t⟩⟩
  · cases h
  · exact ⟨a, rfl⟩
  · simp only [List.length_cons] at h; omega
theorem len5 {r : List D} (h : r.length + 1 = 6) : ∃ a b c d e, r = [a, b, c, d, e] := by
  rcases r with _ | ⟨a, _ | ⟨b, _ | ⟨c, _ | ⟨d, _ | ⟨e, _ | ⟨f, t⟩⟩⟩⟩⟩⟩
  · cases h
  · cases h
  · cases h
  · cases h
  · cases h
  · exact ⟨a, b, c, d, e, rfl⟩
  · simp only [List.length_cons] at h; omega
theorem headOk_str (w : Str) (r : List D) : headOk (.tup (.str w :: r)) = (if w = "let" then (match r with | [n, e] => isNameD n && exprOk 6 e | _ => false)
    else if w = "if" then (match r with | [t, a, b, p, q] => isTestD t && (exprOk 6 a && exprOk 6 b) && (isTupD p && isTupD q) | _ => false)
    else if w = "repeat" then (match r with | [n, p] => numIn 0 9 n && isTupD p | _ => false)
    else if w = "stop" then (match r with | [e] => exprOk 6 e | _ => false)
    else false) := rfl
theorem headOk_no {d : D} (h1 : isTupOf d "let" 3 = false) (h2 : isTupOf d "if" 6 = false) (h3 : isTupOf d "repeat" 3 = false) (h4 : isTupOf d "stop" 2 = false) : headOk d = false := by
  cases d with
  | tup l =>
    rcases l with _ | ⟨a, r⟩
    · rfl
    · cases a with
      | str w =>
        have key : ∀ (z : Str) (n : Nat), isTupOf (.tup (.str w :: r)) z n = false → w = z → r.length + 1 ≠ n := fun z n h e q => by
          have h : (decide (r.length + 1 = n) && decide (w = z)) = false := h
          rw [decide_eq_true q, decide_eq_true e] at h
          cases h
        rw [headOk_str]
        by_cases e1 : w = "let"
        · rw [if_pos e1]
          have := key _ _ h1 e1
          rcases r with _ | ⟨a, _ | ⟨b, _ | ⟨c, t⟩⟩⟩ <;> first | rfl | exact absurd rfl this
        rw [if_neg e1]
        by_cases e2 : w = "if"
        · rw [if_pos e2]
          have := key _ _ h2 e2
          rcases r with _ | ⟨a, _ | ⟨b, _ | ⟨c, _ | ⟨d, _ | ⟨e, _ | ⟨f, t⟩⟩⟩⟩⟩⟩ <;> first | rfl | exact absurd rfl this
        rw [if_neg e2]
        by_cases e3 : w = "repeat"
        · rw [if_pos e3]
          have := key _ _ h3 e3
          rcases r with _ | ⟨a, _ | ⟨b, _ | ⟨c, t⟩⟩⟩ <;> first | rfl | exact absurd rfl this
        rw [if_neg e3]
        by_cases e4 : w = "stop"
        · rw [if_pos e4]
          have := key _ _ h4 e4
          rcases r with _ | ⟨a, _ | ⟨b, t⟩⟩ <;> first | rfl | exact absurd rfl this
        rw [if_neg e4]
      | _ => rfl
  | _ => rfl
def tupL : D → List D
  | .tup l => l
  | _ => []
def blocksOf : D → List (List D)
  | .tup [.str w, _, _, _, p, q] => if w = "if" then [tupL p, tupL q] else []
  | .tup [.str w, _, p] => if w = "repeat" then [tupL p] else []
  | _ => []
theorem blocks_okW {s : D} (h : okW s = true) : ∀ b ∈ blocksOf s, okWs b = true := by
  have tl : ∀ d, okW d = true → okWs (tupL d) = true := fun d hd => by
    cases d <;> first | (unfold tupL okWs; rfl) | skip
    exact (okW_tup hd).2
  intro b hb
  unfold blocksOf at hb
  split at hb
  · rename_i w _ _ _ p q
    obtain ⟨_, hw⟩ := okWs_cons (okW_tup h).2
    obtain ⟨_, hw⟩ := okWs_cons hw
    obtain ⟨_, hw⟩ := okWs_cons hw
    obtain ⟨_, hw⟩ := okWs_cons hw
    obtain ⟨wp, hw⟩ := okWs_cons hw
    obtain ⟨wq, _⟩ := okWs_cons hw
    split at hb
    · simp only [List.mem_cons, List.not_mem_nil, or_false] at hb
      rcases hb with e | e <;> subst e
      · exact tl _ wp
      · exact tl _ wq
    · cases hb
  · obtain ⟨_, hw⟩ := okWs_cons (okW_tup h).2
    obtain ⟨_, hw⟩ := okWs_cons hw
    obtain ⟨wp, hw⟩ := okWs_cons hw
    split at hb
    · simp only [List.mem_cons, List.not_mem_nil, or_false] at hb
      subst hb
      exact tl _ wp
    · cases hb
  · cases hb
/-- how many are counted, or the number of the first wrong one -/
inductive Vis where
  | ok (c : Nat)
  | bad (c : Nat)
deriving DecidableEq
def visL (sub : List D → Nat → Vis) : List (List D) → Nat → Vis
  | [], c => .ok c
  | b :: r, c => match sub b c with
    | .bad e => .bad e
    | .ok c' => visL sub r c'
def visS (sub : List D → Nat → Vis) : List D → Nat → Vis
  | [], c => .ok c
  | s :: r, c => match decide (c < 30) && headOk s with
    | true => (match visL sub (blocksOf s) (c + 1) with
      | .bad e => .bad e
      | .ok c' => visS sub r c')
    | false => .bad c
/-- n: how many levels may still follow -/
def visF : Nat → List D → Nat → Vis
  | 0 => fun l c => match l with
    | [] => .ok c
    | _ :: _ => .bad c
  | n + 1 => visS (visF n)
/-! ### expressions as they are drawn -/
inductive Ex where
  | num (i : Int) | lx | ly | nm (z : Str) | call (f : Str) (a b : Ex) | bin (o : Str) (a b : Ex)
def Ex.d : Ex → D
  | .num i => .tup [.str "num", .int i]
  | .lx => .tup [.str "x"]
  | .ly => .tup [.str "y"]
  | .nm z => .tup [.str "name", .str z]
  | .call f a b => .tup [.str "call", .str f, a.d, b.d]
  | .bin o a b => .tup [.str o, a.d, b.d]
def Ex.dp : Ex → Nat
  | .call _ a b => max a.dp b.dp + 1
  | .bin _ a b => max a.dp b.dp + 1
  | _ => 1
inductive Ex.Wf (ns ks : List Str) : Ex → Prop
  | num {i : Int} : -999 ≤ i → i ≤ 999 → Ex.Wf ns ks (.num i)
  | lx : Ex.Wf ns ks .lx
  | ly : Ex.Wf ns ks .ly
  | nm {z : Str} : z ∈ ns → Ex.Wf ns ks (.nm z)
  | call {f : Str} {a b : Ex} : f ∈ ks → Ex.Wf ns ks a → Ex.Wf ns ks b → Ex.Wf ns ks (.call f a b)
  | bin {o : Str} {a b : Ex} : o ∈ (["add", "sub", "mul", "div"] : List Str) → Ex.Wf ns ks a → Ex.Wf ns ks b → Ex.Wf ns ks (.bin o a b)
theorem Ex.ok_d : ∀ e : Ex, okP e.d = true
  | .num _ => rfl
  | .lx => rfl
  | .ly => rfl
  | .nm _ => rfl
  | .call f a b => by
    have h1 := Ex.ok_d a
    have h2 := Ex.ok_d b
    simp only [Ex.d, okP, okPs, h1, h2, List.length_cons, List.length_nil, Bool.and_true, Bool.true_and]
    exact rfl
  | .bin f a b => by
    have h1 := Ex.ok_d a
    have h2 := Ex.ok_d b
    simp only [Ex.d, okP, okPs, h1, h2, List.length_cons, List.length_nil, Bool.and_true, Bool.true_and]
    exact rfl
theorem Ex.okw_d {ns ks : List Str} (hn : ∀ z ∈ ns, z.length ≤ 100000) (hk : ∀ z ∈ ks, z.length ≤ 100000) {e : Ex} (h : e.Wf ns ks) : okW e.d = true := by
  have ok : ∀ z : Str, z.length ≤ 100000 → okW (.str z) = true := fun z h => by unfold okW; exact decide_eq_true h
  have nil : okWs [] = true := by unfold okWs; rfl
  have int : ∀ i, okW (.int i) = true := fun i => by unfold okW; rfl
  induction h with
  | num h1 h2 => exact okW_mk (by show 2 < 100000; decide) (okWs_mk (ok _ (by decide)) (okWs_mk (int _) nil))
  | lx => exact okW_mk (by decide) (okWs_mk (ok _ (by decide)) nil)
  | ly => exact okW_mk (by decide) (okWs_mk (ok _ (by decide)) nil)
  | nm h => exact okW_mk (by show 2 < 100000; decide) (okWs_mk (ok _ (by decide)) (okWs_mk (ok _ (hn _ h)) nil))
  | call hf ha hb iha ihb => exact okW_mk (by show 4 < 100000; decide) (okWs_mk (ok _ (by decide)) (okWs_mk (ok _ (hk _ hf)) (okWs_mk iha (okWs_mk ihb nil))))
  | bin ho ha hb iha ihb =>
    refine okW_mk (by show 3 < 100000; decide) (okWs_mk ?_ (okWs_mk iha (okWs_mk ihb nil)))
    simp only [List.mem_cons, List.not_mem_nil, or_false] at ho
    rcases ho with e | e | e | e <;> subst e <;> exact ok _ (by decide)
theorem Ex.dp_pos : ∀ e : Ex, 1 ≤ e.dp
  | .num _ => Nat.le_refl _
  | .lx => Nat.le_refl _
  | .ly => Nat.le_refl _
  | .nm _ => Nat.le_refl _
  | .call _ _ _ => Nat.le_add_left _ _
  | .bin _ _ _ => Nat.le_add_left _ _
theorem Ex.Wf.ok {ns ks : List Str} (hn : ∀ z ∈ ns, nameOk z = true) (hk : ∀ z ∈ ks, nameOk z = true) {e : Ex} (h : e.Wf ns ks) : ∀ n, e.dp ≤ n → exprOk n e.d = true := by
  induction h with
  | num h1 h2 =>
    intro n hn
    cases n with
    | zero => exact absurd hn (by show ¬ 1 ≤ 0; decide)
    | succ n =>
      show (decide (_ ≤ _) && decide (_ ≤ _)) = true
      rw [decide_eq_true h1, decide_eq_true h2]; rfl
  | lx => intro n hn; cases n with
    | zero => exact absurd hn (by show ¬ 1 ≤ 0; decide)
    | succ n => rfl
  | ly => intro n hn; cases n with
    | zero => exact absurd hn (by show ¬ 1 ≤ 0; decide)
    | succ n => rfl
  | nm h => intro n hn'; cases n with
    | zero => exact absurd hn' (by show ¬ 1 ≤ 0; decide)
    | succ n => exact hn _ h
  | call hf ha hb iha ihb => intro n hn'; cases n with
    | zero => exact absurd hn' (Nat.not_succ_le_zero _)
    | succ n =>
      have h := Nat.le_of_succ_le_succ hn'
      show (nameOk _ && (exprOk n _ && exprOk n _)) = true
      rw [hk _ hf, iha n (Nat.le_trans (Nat.le_max_left _ _) h), ihb n (Nat.le_trans (Nat.le_max_right _ _) h)]; rfl
  | bin ho ha hb iha ihb => intro n hn'; cases n with
    | zero => exact absurd hn' (Nat.not_succ_le_zero _)
    | succ n =>
      have h := Nat.le_of_succ_le_succ hn'
      have e1 := iha n (Nat.le_trans (Nat.le_max_left _ _) h)
      have e2 := ihb n (Nat.le_trans (Nat.le_max_right _ _) h)
      simp only [List.mem_cons, List.not_mem_nil, or_false] at ho
      rcases ho with e | e | e | e <;> subst e <;> (show (exprOk n _ && exprOk n _) = true; rw [e1, e2]; rfl)
end DL

namespace DL
open PySem L2 TL
/-- the bag stands at p, once -/
structure BagAt (L : Led) (p : Addr) (b : Bag) : Prop where
  lk : L.lookup p = some (bagC b)
  self : setL L p (bagC b) = L
  ok : BagOk b
theorem BagAt.set {L : Led} {p : Addr} {b b' : Bag} (h : BagAt L p b) (ok : BagOk b') : BagAt (setL L p (bagC b')) p b' := ⟨lookup_setL h.lk, setL_setL _ _ _ _, ok⟩
theorem BagAt.top {L : Led} {p : Addr} {b : Bag} (h : ¬ inL L p) (ok : BagOk b) : BagAt ((p, bagC b) :: L) p b := ⟨lookup_top, setL_top h, ok⟩
mutual
theorem okW_pln : ∀ {d : D}, okW d = true → pln d = true
  | .non, _ => by unfold pln; rfl
  | .bl _, _ => by unfold pln; rfl
  | .int _, _ => by unfold pln; rfl
  | .str _, _ => by unfold pln; rfl
  | .lst xs, h => by
    unfold okW at h
    rw [Bool.and_eq_true] at h
    unfold pln
    exact okWs_pln h.2
  | .tup xs, h => by
    unfold okW at h
    rw [Bool.and_eq_true] at h
    unfold pln
    exact okWs_pln h.2
  | .ro _, h => by simp [okW] at h
  | .dk _ _, h => by simp [okW] at h
  | .dt _ _, h => by simp [okW] at h
  | .obj _ _ _, h => by simp [okW] at h
  | .exc _ _ _, h => by simp [okW] at h
  | .fnv _ _, h => by simp [okW] at h
  | .clo _ _, h => by simp [okW] at h
  | .tab _, h => by simp [okW] at h
  | .ptr _, h => by simp [okW] at h
  | .ty _, h => by simp [okW] at h
theorem okWs_pln : ∀ {l : List D}, okWs l = true → plns l = true
  | [], _ => by unfold plns; rfl
  | d :: r, h => by
    unfold okWs at h
    rw [Bool.and_eq_true] at h
    unfold plns
    rw [okW_pln h.1, okWs_pln h.2]; rfl
end
theorem pln_bag (b : Bag) : pln (bagC b) = true := by
  have h : plns (b.cells.map D.int) = true := plns_map (fun _ => by unfold pln; rfl) _
  simp only [bagC, pln, plns, h, Bool.and_self]
/-! ### names that are drawn -/
def AllLet (l : List Nat) : Prop := ∀ c ∈ l, c ∈ tl letters
theorem tl_len (z : Str) : z.length = (tl z).length := len_tl z
theorem cut_pre (z : Str) (n : Nat) : tl (cutS z none (some (n : Int))) = (tl z).take n := by
  show ((tl z).drop 0).take (HT.sIx z.length z.length (some (n : Int)) - 0) = _
  rw [HT.sIx_nat, List.drop_zero, Nat.sub_zero, tl_len, List.take_eq_take_iff]
  omega
theorem cut_suf (z : Str) (n : Nat) : tl (cutS z (some (n : Int)) none) = (tl z).drop n := by
  show ((tl z).drop (HT.sIx z.length 0 (some (n : Int)))).take (z.length - HT.sIx z.length 0 (some (n : Int))) = _
  rw [HT.sIx_nat, tl_len]
  rcases Nat.le_total n (tl z).length with h | h
  · rw [Nat.min_eq_left h]
    exact List.take_of_length_le (by rw [List.length_drop]; omega)
  · rw [Nat.min_eq_right h, Nat.sub_self, List.take_zero, List.drop_eq_nil_of_le h]
theorem name_of {z : Str} (h1 : 1 ≤ z.length) (h2 : z.length ≤ 6) (h3 : z ∉ reserved) (h4 : AllLet (tl z)) : nameOk z = true := by
  unfold nameOk
  rw [decide_eq_true h1, decide_eq_true h2, decide_eq_false h3]
  simp only [Bool.not_false, Bool.true_and, List.all_eq_true]
  exact fun c hc => decide_eq_true (h4 c hc)
theorem barred_q {z : Str} (hz : z.length ≤ 5) (h : z ∈ reserved) : nameOk (z ++ "q") = true := by
  unfold reserved at h
  simp only [List.mem_cons, List.not_mem_nil, or_false] at h
  rcases h with e | e | e | e | e | e | e | e <;> subst e <;> first | decide +kernel | exact absurd hz (by decide)
/-- a stem with a letter put in -/
theorem word_ok {stem : List Nat} {n c : Nat} {z : Str} (hs : AllLet stem) (hl : stem.length ≤ 4) (hn : n ≤ stem.length) (hc : c ∈ tl letters) (hz : tl z = stem.take n ++ [c] ++ stem.drop n) : 1 ≤ z.length ∧ z.length ≤ 5 ∧ AllLet (tl z) := by
  have e : z.length = stem.length + 1 := by
    rw [tl_len, hz]
    simp only [List.length_append, List.length_take, List.length_drop, List.length_cons, List.length_nil]
    omega
  refine ⟨by omega, by omega, fun d hd => ?_⟩
  rw [hz] at hd
  simp only [List.mem_append, List.mem_cons, List.not_mem_nil, or_false] at hd
  rcases hd with (h | h) | h
  · exact hs d (List.mem_of_mem_take h)
  · subst h; exact hc
  · exact hs d (List.mem_of_mem_drop h)
def namesS : DSp := fun ds L k _ => ∃ (p : Addr) (b : Bag) (m : Nat), ds = [.ptr p, .int m] ∧ BagAt L p b ∧ m ≤ 100 ∧ ∀ (zs : List Str) b', zs.length = m → (∀ z ∈ zs, nameOk z = true) → BagOk b' → k (.lst (zs.map D.str)) (setL L p (bagC b'))
theorem mem_sgD {l : List Nat} {d : D} (h : d ∈ sgD l) : ∃ c ∈ l, d = .str ⟨#[c]⟩ := by
  unfold sgD at h
  obtain ⟨c, hc, e⟩ := List.mem_map.mp h
  exact ⟨c, hc, e.symm⟩
theorem nameOk_len {z : Str} (h : nameOk z = true) : z.length ≤ 6 := by
  unfold nameOk at h
  simp only [Bool.and_eq_true] at h
  exact of_decide_eq_true h.2.1
theorem nameOk_let {z : Str} (h : nameOk z = true) : AllLet (tl z) := by
  unfold nameOk at h
  simp only [Bool.and_eq_true, List.all_eq_true] at h
  exact fun c hc => of_decide_eq_true (h.2.2.2 c hc)
theorem let_lt {c : Nat} (h : c ∈ tl letters) : c < 128 := by
  have : ∀ c ∈ tl letters, c < 128 := by decide +kernel
  exact this c h
theorem nameOk_str {z : Str} (h : nameOk z = true) : PyData.strOk z = true := by
  unfold PyData.strOk
  rw [← Array.all_toList, List.all_eq_true]
  intro c hc
  have := let_lt (nameOk_let h c hc)
  exact decide_eq_true (by omega)
theorem canLay_strs : ∀ (l : List Str), (∀ z ∈ l, PyData.strOk z = true) → PyData.canLayAll0 (toPys (l.map D.str)) = true ∧ PyData.depthAll (toPys (l.map D.str)) = 0
  | [], _ => ⟨rfl, rfl⟩
  | z :: r, h => by
    obtain ⟨h1, h2⟩ := canLay_strs r fun z hz => h z (List.mem_cons_of_mem _ hz)
    constructor
    · show (PyData.strOk z && PyData.canLayAll0 (toPys (r.map D.str))) = true
      rw [h1, h z List.mem_cons_self]; rfl
    · show max 0 (PyData.depthAll (toPys (r.map D.str))) = 0
      rw [h2]; rfl
theorem shp_strs {l : List Str} (h : ∀ z ∈ l, nameOk z = true) : shp (.lst (l.map D.str)) = true := by
  obtain ⟨h1, h2⟩ := canLay_strs l fun z hz => nameOk_str (h z hz)
  show (PyData.canLayAll0 (toPys (l.map D.str)) && decide (PyData.depthAll (toPys (l.map D.str)) + 1 ≤ 64)) = true
  rw [h1, h2]; rfl
theorem eqD_strs (l : List Str) : eqD (.lst (l.map D.str)) (.lst []) = l.isEmpty := by
  cases l <;> rfl
def wrongS : DSp := fun ds L k _ => ∃ (p : Addr) (b : Bag), ds = [.ptr p] ∧ BagAt L p b ∧ ∀ d b', headOk d = false → okW d = true → pln d = true → BagOk b' → k d (setL L p (bagC b'))
/-! ### visits -/
theorem vis_good {sub : List D → Nat → Vis} {s : D} {r : List D} {c : Nat} (h1 : headOk s = true) (h2 : blocksOf s = []) (h3 : c < 30) : visS sub (s :: r) c = visS sub r (c + 1) := by
  show (match decide (c < 30) && headOk s with | true => (match visL sub (blocksOf s) (c + 1) with | .bad e => Vis.bad e | .ok c' => visS sub r c') | false => Vis.bad c) = _
  rw [h1, h2, decide_eq_true h3]
  rfl
theorem vis_bad {sub : List D → Nat → Vis} {s : D} {r : List D} {c : Nat} (h1 : headOk s = false) : visS sub (s :: r) c = .bad c := by
  show (match decide (c < 30) && headOk s with | true => (match visL sub (blocksOf s) (c + 1) with | .bad e => Vis.bad e | .ok c' => visS sub r c') | false => Vis.bad c) = _
  rw [h1, Bool.and_false]
theorem vis_blk {sub : List D → Nat → Vis} {s : D} {r : List D} {c : Nat} (h1 : headOk s = true) (h3 : c < 30) : visS sub (s :: r) c = (match visL sub (blocksOf s) (c + 1) with | .bad e => Vis.bad e | .ok c' => visS sub r c') := by
  show (match decide (c < 30) && headOk s with | true => (match visL sub (blocksOf s) (c + 1) with | .bad e => Vis.bad e | .ok c' => visS sub r c') | false => Vis.bad c) = _
  rw [h1, decide_eq_true h3]
  rfl
/-- a statement without blocks -/
structure Plain (s : D) : Prop where
  ok : headOk s = true
  no : blocksOf s = []
/-- good ones, then a wrong one -/
theorem vis_run {sub : List D → Nat → Vis} {bad : D} {r : List D} (hb : headOk bad = false) : ∀ (gs : List D) (c : Nat), (∀ s ∈ gs, Plain s) → c + gs.length < 30 → visS sub (gs ++ bad :: r) c = .bad (c + gs.length)
  | [], c, _, _ => vis_bad hb
  | s :: gs, c, h, hc => by
    rw [List.length_cons] at hc
    rw [List.cons_append, vis_good (h s List.mem_cons_self).ok (h s List.mem_cons_self).no (by omega), vis_run hb gs (c + 1) (fun s hs => h s (List.mem_cons_of_mem _ hs)) (by omega), List.length_cons]
    congr 1
    omega
theorem vis_all {sub : List D → Nat → Vis} {r : List D} : ∀ (gs : List D) (c : Nat), (∀ s ∈ gs, Plain s) → c + gs.length ≤ 30 → visS sub (gs ++ r) c = visS sub r (c + gs.length)
  | [], c, _, _ => rfl
  | s :: gs, c, h, hc => by
    rw [List.length_cons] at hc
    rw [List.cons_append, vis_good (h s List.mem_cons_self).ok (h s List.mem_cons_self).no (by omega), vis_all gs (c + 1) (fun s hs => h s (List.mem_cons_of_mem _ hs)) (by omega), List.length_cons]
    congr 1
    omega
def leafS : DSp := fun ds L k _ => ∃ (p : Addr) (b : Bag) (ns : List Str), ds = [.ptr p, .lst (ns.map D.str)] ∧ BagAt L p b ∧ ns.length ≤ 100 ∧ (∀ z ∈ ns, nameOk z = true) ∧ ∀ (e : Ex) b', e.dp = 1 → (∀ ks, e.Wf ns ks) → BagOk b' → k e.d (setL L p (bagC b'))
def exprG (n : Nat) : DSp := fun ds L k _ => ∃ (p : Addr) (b : Bag) (ns ks : List Str) (m : Nat), ds = [.ptr p, .lst (ns.map D.str), .lst (ks.map D.str), .int m] ∧ m < n ∧ BagAt L p b ∧ ns.length ≤ 100 ∧ (∀ z ∈ ns, nameOk z = true) ∧ ks.length ≤ 100 ∧ (∀ z ∈ ks, nameOk z = true) ∧ ∀ (e : Ex) b', e.dp ≤ max m 1 → e.Wf ns ks → BagOk b' → k e.d (setL L p (bagC b'))
end DL

namespace DL
open PySem L2 TL
section
variable {X : Cx} {Wx : WX} {a b c e o : Expr} {es : List Expr} {da db dc de do' : DE} {dl : DA} {pos : Pos}
/-- a text times a number -/
def gRepS : G2 := fun a b _ k => match a, b with
  | .str x, .int n => PySem.MulOk x n ∧ k (.str (Txt.mul x n))
  | _, _ => False
theorem op_repS : OpR X (binaryOp .Mult) (fun x y H Q => ∃ (z : Str) (n : Int), x = .str z ∧ y = .int n ∧ PySem.MulOk z n ∧ Q (.str (Txt.mul z n)) H) := by
  intro pins s σ H x y v u Q I rx ry h
  obtain ⟨z, n, rfl, rfl, hok, q⟩ := h
  obtain ⟨t, rfl⟩ := rx
  obtain ⟨t2, rfl⟩ := ry
  exact PySem.SB.mul hok fun t' k => ⟨.str _, H, I.tok k, ⟨t', rfl⟩, q⟩
theorem oq_repS : OQ X (binaryOp .Mult) gRepS := ⟨_, op_repS, fun H L va vb a b k Q j ra rb h hk => by
  unfold gRepS at h
  split at h
  · cases ra
    cases rb
    exact ⟨_, _, rfl, rfl, h.1, hk _ _ H h.2 (Same.refl H) (.str _)⟩
  · exact h.elim⟩
end
theorem starts_pre (x y : Str) (hy : tl y ≠ []) : Txt.startswith x y = pre (tl y) (tl x) := by
  have h := at_iff (x := x) (y := y) hy 0
  rw [List.drop_zero] at h
  have e : Txt.startswith x y = true ↔ PySem.StrLaws.At x y x.length 0 := by
    unfold Txt.startswith
    rw [Bool.and_eq_true, decide_eq_true_eq]
    exact Iff.rfl
  cases h1 : Txt.startswith x y with
  | true => exact (h.mp (e.mp h1)).symm
  | false =>
    cases h2 : pre (tl y) (tl x) with
    | false => rfl
    | true => rw [e.mpr (h.mpr h2)] at h1; cases h1
end DL

namespace DL
open PySem PySem.Spec PyProof.Rows L2
/-! ### instances -/
theorem con_obj {L : Led} {K : PySem.W.Frag} {H : Hp} {v : V} {d : D} {C : Addr} {ns : List Str} {ds : List D} (j : JL K L H) (r : Rp L K H v d) (e : con L d = .obj C ns ds) : ∃ a dx vs, v = .ref a ∧ H a = some (.ins C dx (ns.zip vs)) ∧ ns.length = vs.length ∧ RpAll L K H vs ds := by
  cases d with
  | ptr a =>
    cases r
    have e : (L.lookup a).getD (.ptr a) = _ := e
    cases h : L.lookup a with
    | none => rw [h] at e; cases e
    | some c =>
      rw [h] at e
      have e2 : c = .obj C ns ds := e
      subst e2
      obtain ⟨dx, vs, h1, h2, h3⟩ := j.look h
      exact ⟨a, dx, vs, rfl, h1, h2, h3⟩
  | obj C' ns' ds' =>
    have e2 : D.obj C' ns' ds' = .obj C ns ds := e
    cases e2
    cases r with
    | obj n h e r => exact ⟨_, _, _, rfl, h, e, r⟩
  | _ => cases e
def putNs (f : Str) : List Str → List Str
  | [] => [f]
  | g :: r => if g = f then g :: r else g :: putNs f r
def putVs {α : Type} (f : Str) (v : α) : List Str → List α → List α
  | [], _ => [v]
  | g :: r, x :: xs => if g = f then v :: xs else x :: putVs f v r xs
  | _ :: _, [] => []
theorem put_zip (f : Str) (v : V) : ∀ (ns : List Str) (xs : List V), ns.length = xs.length → putF f v (ns.zip xs) = (putNs f ns).zip (putVs f v ns xs) ∧ (putNs f ns).length = (putVs f v ns xs).length
  | [], [], _ => ⟨rfl, rfl⟩
  | [], _ :: _, h => by cases h
  | _ :: _, [], h => by cases h
  | g :: r, x :: xs, h => by
    obtain ⟨h1, h2⟩ := put_zip f v r xs (by simpa using h)
    show (if g = f then (g, v) :: r.zip xs else (g, x) :: putF f v (r.zip xs)) = (if g = f then g :: r else g :: putNs f r).zip (if g = f then v :: xs else x :: putVs f v r xs) ∧ (if g = f then g :: r else g :: putNs f r).length = (if g = f then v :: xs else x :: putVs f v r xs).length
    by_cases e : g = f
    · rw [if_pos e, if_pos e, if_pos e]
      exact ⟨rfl, h⟩
    · rw [if_neg e, if_neg e, if_neg e, h1]
      exact ⟨rfl, by rw [List.length_cons, List.length_cons, h2]⟩
theorem put_rp {L : Led} {K : PySem.W.Frag} {H : Hp} {f : Str} {v : V} {d : D} (r : Rp L K H v d) : ∀ (ns : List Str) {xs : List V} {ds : List D}, RpAll L K H xs ds → RpAll L K H (putVs f v ns xs) (putVs f d ns ds)
  | [], _, _, _ => .cons r .nil
  | g :: ns, _, _, .nil => .nil
  | g :: ns, _, _, .cons (v := x) (d := y) h t => by
    unfold putVs
    by_cases e : g = f
    · rw [if_pos e, if_pos e]; exact .cons r t
    · rw [if_neg e, if_neg e]; exact .cons h (put_rp r ns t)
section
variable {X : Cx} {Wx : WX} {a b c e o : Expr} {es : List Expr} {da db dc de do' : DE} {dl : DA} {pos apos : Pos}
/-- e.f -/
def dFld (K : PySem.W.Frag) (f : Str) (da : DE) : DE := fun env L k x => da env L (fun a L1 => match con L1 a with
  | .obj C ns ds => (Cls K C ∧ NoAttr K C f) ∧ match (ns.zip ds).lookup f with
    | some d => k d L1
    | none => False
  | _ => False) x
theorem q_fld {K : PySem.W.Frag} {f : Str} (hK : X.K = K) (he : QE X Wx e da) (hb : attributeBase e f X.env (eval e X.env) = eval e X.env := by rfl) : QE X Wx (.Attribute e f pos) (dFld K f da) := by
  subst hK
  obtain ⟨ta, pa, sa⟩ := he.ex
  refine ⟨_, pe_fld pa hb, fun σ H env L k x Q st h hk hx => ?_⟩
  refine sa σ H env L _ x _ st h (fun a L1 va H1 h1 g1 j1 r1 => ?_) hx
  split at h1
  · rename_i C ns ds hc
    obtain ⟨q, dx, vs, rfl, hq, hl, rv⟩ := con_obj j1 r1 hc
    obtain ⟨⟨h2, h3⟩, h1⟩ := h1
    split at h1
    · rename_i d hd
      obtain ⟨v, e1, r⟩ := lookup_rp rv hd
      exact ⟨q, C, dx, _, v, rfl, hq, h2, h3, e1, hk d L1 v H1 h1 g1 j1 r⟩
    · exact h1.elim
  · exact h1.elim
/-- o.f = e, o of the ledger -/
def dFldS (K : PySem.W.Frag) (f : Str) (de do' : DE) : DS := fun D env L => de env L (fun v L1 => do' env L1 (fun o L2 => match o with
  | .ptr p => match L2.lookup p with
    | some (.obj C ns ds) => (Cls K C ∧ NoAttr K C f ∧ ns.length < 1000) ∧ D.nx env (setL L2 p (.obj C (putNs f ns) (putVs f v ns ds)))
    | _ => False
  | _ => False) D.ex) D.ex
theorem s_fld {K : PySem.W.Frag} {f : Str} {p' : Pos} (hK : X.K = K) (he : QE X Wx e de) (ho : QE X Wx o do') (hs : swapsWith e (some (.Attribute o f p')) pos.line X.env = pure false := by rfl) : QS X Wx (.Assign [.Attribute o f p'] e pos) (dFldS K f de do') := by
  subst hK
  obtain ⟨te, pe, se⟩ := he.ex
  obtain ⟨to, po, so⟩ := ho.ex
  refine ⟨_, ps_fld po pe hs, fun σ H env L D' D st h ok => ?_⟩
  refine se σ H env L _ _ _ st h (fun v L1 vv H1 h1 g1 j1 r1 => ?_) ok.ex
  refine so σ H1 env L1 _ _ _ (st.go g1 j1) h1 (fun o L2 vo H2 h2 g2 j2 r2 => ?_) (ok.ex.go g1)
  split at h2
  · rename_i p
    cases r2
    split at h2
    · rename_i C ns ds hl
      obtain ⟨dx, vs, e1, e2, rv⟩ := j2.look hl
      obtain ⟨⟨c1, c2, c3⟩, h2⟩ := h2
      have hp := inL_of_lookup hl
      obtain ⟨z1, z2⟩ := put_zip f vv ns vs e2
      refine ⟨p, C, dx, _, rfl, e1, c1, c2, by rw [List.length_zip]; omega, ?_⟩
      rw [z1]
      have g4 : Go L2 (setL L2 p (.obj C (putNs f ns) (putVs f v ns ds))) H2 (upd H2 p (.ins C dx ((putNs f ns).zip (putVs f vv ns vs)))) := go_set hp
      have j4 : JL X.K (setL L2 p (.obj C (putNs f ns) (putVs f v ns ds))) (upd H2 p (.ins C dx ((putNs f ns).zip (putVs f vv ns vs)))) := j2.put hp ⟨dx, _, upd_same, z2, put_rp ((r1.go g2).go g4) ns (rv.go g4)⟩
      exact ok.nx env _ σ _ h2 ((g1.trans g2).trans g4) (st.go ((g1.trans g2).trans g4) j4)
    · exact h2.elim
  · exact h2.elim
/-- o.f += e (ints), o of the ledger -/
def dFldAdd (K : PySem.W.Frag) (f : Str) (do' de : DE) : DS := fun D env L => do' env L (fun o L1 => match o with
  | .ptr p => match L1.lookup p with
    | some (.obj C ns ds) => (Cls K C ∧ NoAttr K C f) ∧ match (ns.zip ds).lookup f with
      | some (.int i) => de env L1 (fun v L2 => match v with
        | .int j => match L2.lookup p with
          | some (.obj C' ns' ds') => (C' = C ∧ ns'.length < 1000) ∧ D.nx env (setL L2 p (.obj C (putNs f ns') (putVs f (.int (i + j)) ns' ds')))
          | _ => False
        | _ => False) D.ex
      | _ => False
    | _ => False
  | _ => False) D.ex
theorem s_fldAdd {K : PySem.W.Frag} {f : Str} {p' : Pos} (hK : X.K = K) (ho : QE X Wx o do') (he : QE X Wx e de) : QS X Wx (.AugAssign (.Attribute o f p') .Add e pos) (dFldAdd K f do' de) := by
  subst hK
  obtain ⟨te, pe, se⟩ := he.ex
  obtain ⟨to, po, so⟩ := ho.ex
  refine ⟨_, ps_fldaug po pe (rd := _) iop_add, fun σ H env L D' D st h ok => ?_⟩
  refine so σ H env L _ _ _ st h (fun o L1 vo H1 h1 g1 j1 r1 => ?_) ok.ex
  split at h1
  · rename_i p
    cases r1
    split at h1
    · rename_i C ns ds hl
      obtain ⟨dx, vs, e1, e2, rv⟩ := j1.look hl
      obtain ⟨⟨c1, c2⟩, h1⟩ := h1
      split at h1
      · rename_i i hi
        obtain ⟨v, ev, r⟩ := lookup_rp rv hi
        cases r
        refine ⟨p, C, dx, _, _, rfl, e1, c1, c2, ev, ?_⟩
        refine se σ H1 env L1 _ _ _ (st.go g1 j1) h1 (fun v L2 vv H2 h2 g2 j2 r2 => ?_) (ok.ex.go g1)
        split at h2
        · rename_i j
          cases r2
          split at h2
          · rename_i C' ns' ds' hl'
            obtain ⟨⟨rfl, c3⟩, h2⟩ := h2
            obtain ⟨dx', vs', e1', e2', rv'⟩ := j2.look hl'
            have hp := inL_of_lookup hl'
            obtain ⟨z1, z2⟩ := put_zip f (.int (i + j)) ns' vs' e2'
            refine ⟨i, j, rfl, rfl, dx', _, e1', by rw [List.length_zip]; omega, ?_⟩
            rw [z1]
            have g4 : Go L2 (setL L2 p (.obj C' (putNs f ns') (putVs f (.int (i + j)) ns' ds'))) H2 (upd H2 p (.ins C' dx' ((putNs f ns').zip (putVs f (.int (i + j)) ns' vs')))) := go_set hp
            have j4 : JL X.K (setL L2 p (.obj C' (putNs f ns') (putVs f (.int (i + j)) ns' ds'))) (upd H2 p (.ins C' dx' ((putNs f ns').zip (putVs f (.int (i + j)) ns' vs')))) := j2.put hp ⟨dx', _, upd_same, z2, put_rp (.int _) ns' (rv'.go g4)⟩
            exact ok.nx env _ σ _ h2 ((g1.trans g2).trans g4) (st.go ((g1.trans g2).trans g4) j4)
          · exact h2.elim
        · exact h2.elim
      · exact h1.elim
    · exact h1.elim
  · exact h1.elim
/-! ### methods -/
section
variable {CX : CXT} {k : Nat} {C f : Addr} {m : Str} {fd : FuncData} {ps : List Str} {sp : Sp} {E : L2.St → XK} {ds : List Value} {dvs : List V} {ta : TE} {t : TA} {pl : Sem Bool}
def tMethE (C : Addr) (m : Str) (sp : Sp) (dvs : List V) (E : L2.St → XK) (ta : TE) (t : TA) : TE := fun σ H Q => ta σ H fun x H1 => ∃ a dx fs, x = .ref a ∧ H1 a = some (.ins C dx fs) ∧ fs.lookup m = none ∧ t σ H1 fun vs H2 => sp (x :: (vs ++ dvs)) H2 Q (E σ)
theorem pe_methE (hO : PE X o ta) (hC : Cls X.K C) (hM : Meth X.K C m f) (F : FnOk X.prog X.w X.K X.mg X.base CX k f fd ps sp) (hr : Room k X.A) (hb : Binds X.K fd ps ds) (hd : Vals dvs ds) (hx : ∀ σ, PassesAt CX X σ (E σ)) (hA : PA X (e :: es) t)
    (h1 : starEach (e :: es) X.env = (false, eval e X.env) :: starEach es X.env := by rfl) (h2 : (backTo pos (starEach es X.env)).any (·.1) = false := by rfl)
    (h3 : eval (.Call (.Attribute o m apos) (e :: es) [] pos) X.env = (do let ov ← eval o X.env; standAt apos.atName; let (f, first) ← holding [ov] (getMethod ov m pl); callWith pos f first (backTo pos (starEach (e :: es) X.env)) (backToKw pos (keywordEach [] X.env))) := by rfl) :
    PE X (.Call (.Attribute o m apos) (e :: es) [] pos) (tMethE C m sp dvs E ta t) := ⟨fun pins s σ H Q I h => by
  refine PySem.W.methodCall_KW (pl := pl) (thn (hO.run pins s σ H _ I h) fun u s1 ⟨_, H1, I1, rx, a, _, _, ez, ea, l, q⟩ => ?_) h3
  subst ez
  cases rx
  refine getmeth_ok I1 ea hC hM l (PySem.W.callWith_K (first := [.ref a]) (h₀ := X.base) I.ok.mod.kin hM.kp (thn (hA.run pos pins s1 σ H1 _ I1 q) fun us _ ⟨vs, _, I2, r, q2⟩ => ⟨I2.kIn, ?_⟩) h1 h2)
  exact run_fnSD (us := .ref a :: us) (vs := .ref a :: vs) F hr hb hd (hx σ) I2 (.cons rfl r) q2⟩
theorem pe_meth0E (hO : PE X o ta) (hC : Cls X.K C) (hM : Meth X.K C m f) (F : FnOk X.prog X.w X.K X.mg X.base CX k f fd ps sp) (hr : Room k X.A) (hb : Binds X.K fd ps ds) (hd : Vals dvs ds) (hx : ∀ σ, PassesAt CX X σ (E σ))
    (h3 : eval (.Call (.Attribute o m apos) [] [] pos) X.env = (do let ov ← eval o X.env; standAt apos.atName; let (f, first) ← holding [ov] (getMethod ov m pl); callWith pos f first (backTo pos (starEach [] X.env)) (backToKw pos (keywordEach [] X.env))) := by rfl) :
    PE X (.Call (.Attribute o m apos) [] [] pos) (tMethE C m sp dvs E ta tNil) := ⟨fun pins s σ H Q I h => by
  refine PySem.W.methodCall_KW (pl := pl) (thn (hO.run pins s σ H _ I h) fun u s1 ⟨_, H1, I1, rx, a, _, _, ez, ea, l, q⟩ => ?_) h3
  subst ez
  cases rx
  exact getmeth_ok I1 ea hC hM l (PySem.W.callWith_K0 (first := [.ref a]) I1.kIn hM.kp (run_fnSD (us := [.ref a]) (vs := [.ref a]) F hr hb hd (hx σ) I1 (.cons rfl .nil) q))⟩
end
/-- a method by its class and name -/
structure MCal (P : Program) (w : World) (K : PySem.W.Frag) (mg : Str → Option Value) (base : Heap) (n : Nat) (C : Addr) (m : Str) (ps : List Str) (dd : List D) (g : DSp) : Prop where
  ex : ∃ f fd us dvs, FnOk P w K mg base (L2.CX P w) n f fd ps (spD K g) ∧ Cls K C ∧ Meth K C m f ∧ Binds K fd ps us ∧ Vals dvs us ∧ ∀ L H, RpAll L K H dvs dd
def dMeth (C : Addr) (m : Str) (g : DSp) (dd : List D) (da : DE) (dl : DA) : DE := fun env L k x => da env L (fun a L1 => match con L1 a with
  | .obj C' ns vs => (C' = C ∧ (ns.zip vs).lookup m = none) ∧ dl env L1 (fun ds L2 => g (a :: (ds ++ dd)) L2 k fun n L' => x n env L') x
  | _ => False) x
theorem lookup_none {f : Str} : ∀ {ns : List Str} {xs : List V} {ds : List D}, xs.length = ds.length → (ns.zip ds).lookup f = none → (ns.zip xs).lookup f = none
  | [], _, _, _, _ => rfl
  | _ :: _, [], [], _, _ => rfl
  | _ :: _, [], _ :: _, h, _ => by cases h
  | _ :: _, _ :: _, [], h, _ => by cases h
  | n :: ns, x :: xs, d :: ds, h, e => by
    rw [List.zip_cons_cons, List.lookup_cons] at e ⊢
    cases hb : f == n with
    | true => rw [hb] at e; cases e
    | false => rw [hb] at e; exact lookup_none (by simpa using h) e
theorem q_meth {C : Addr} {m : Str} {n k : Nat} {ps : List Str} {g : DSp} {dd : List D} {pl : Sem Bool} (F : MCal X.prog X.w X.K X.mg X.base n C m ps dd g) (hn : n ≤ k) (hr : Room k X.A) (tk : Takes X Wx) (ho : QE X Wx o do') (ha : QA X Wx (e :: es) dl)
    (h1 : starEach (e :: es) X.env = (false, eval e X.env) :: starEach es X.env := by rfl) (h2 : (backTo pos (starEach es X.env)).any (·.1) = false := by rfl)
    (h3 : eval (.Call (.Attribute o m apos) (e :: es) [] pos) X.env = (do let ov ← eval o X.env; standAt apos.atName; let (f, first) ← holding [ov] (getMethod ov m pl); callWith pos f first (backTo pos (starEach (e :: es) X.env)) (backToKw pos (keywordEach [] X.env))) := by rfl) :
    QE X Wx (.Call (.Attribute o m apos) (e :: es) [] pos) (dMeth C m g dd do' dl) := by
  obtain ⟨f, fd, us, dvs, F, hC, hM, hb, hd, hdd⟩ := F.ex
  obtain ⟨to, po, so⟩ := ho.ex
  obtain ⟨ta, pa, sa⟩ := ha.ex
  refine ⟨_, pe_methE po hC hM F (hr.mono hn) hb hd (fun σ => passAt tk σ) pa h1 h2 h3, fun σ H env L k x Q st h hk hx => ?_⟩
  refine so σ H env L _ x _ st h (fun a L1 va H1 h1 g1 j1 r1 => ?_) hx
  split at h1
  · rename_i C' ns ds hc
    obtain ⟨⟨rfl, h2⟩, h1⟩ := h1
    obtain ⟨q, dx, vs, rfl, hq, hl, rv⟩ := con_obj j1 r1 hc
    refine ⟨q, dx, _, rfl, hq, lookup_none rv.length h2, ?_⟩
    refine sa σ H1 env L1 _ x _ (st.go g1 j1) h1 (fun ds L2 vs H2 h2 g2 j2 r2 => ?_) (hx.go g1)
    exact ⟨a :: (ds ++ dd), L2, k, fun n L' => x n env L', j2, .cons (r1.go g2) (r2.append (hdd L2 H2)), h2, (hk.go g1).go g2, fun n L' a H' q g' j' r => hx n env L' a H' σ q ((g1.trans g2).trans g') (st.go ((g1.trans g2).trans g') j') r⟩
  · exact h1.elim
def dMeth0 (C : Addr) (m : Str) (g : DSp) (dd : List D) (da : DE) : DE := fun env L k x => da env L (fun a L1 => match con L1 a with
  | .obj C' ns vs => (C' = C ∧ (ns.zip vs).lookup m = none) ∧ g (a :: dd) L1 k fun n L' => x n env L'
  | _ => False) x
theorem q_meth0 {C : Addr} {m : Str} {n k : Nat} {ps : List Str} {g : DSp} {dd : List D} {pl : Sem Bool} (F : MCal X.prog X.w X.K X.mg X.base n C m ps dd g) (hn : n ≤ k) (hr : Room k X.A) (tk : Takes X Wx) (ho : QE X Wx o do')
    (h3 : eval (.Call (.Attribute o m apos) [] [] pos) X.env = (do let ov ← eval o X.env; standAt apos.atName; let (f, first) ← holding [ov] (getMethod ov m pl); callWith pos f first (backTo pos (starEach [] X.env)) (backToKw pos (keywordEach [] X.env))) := by rfl) :
    QE X Wx (.Call (.Attribute o m apos) [] [] pos) (dMeth0 C m g dd do') := by
  obtain ⟨f, fd, us, dvs, F, hC, hM, hb, hd, hdd⟩ := F.ex
  obtain ⟨to, po, so⟩ := ho.ex
  refine ⟨_, pe_meth0E po hC hM F (hr.mono hn) hb hd (fun σ => passAt tk σ) h3, fun σ H env L k x Q st h hk hx => ?_⟩
  refine so σ H env L _ x _ st h (fun a L1 va H1 h1 g1 j1 r1 => ?_) hx
  split at h1
  · rename_i C' ns ds hc
    obtain ⟨⟨rfl, h2⟩, h1⟩ := h1
    obtain ⟨q, dx, vs, rfl, hq, hl, rv⟩ := con_obj j1 r1 hc
    refine ⟨q, dx, _, rfl, hq, lookup_none rv.length h2, ?_⟩
    exact ⟨a :: dd, L1, k, fun n L' => x n env L', j1, .cons r1 (hdd L1 H1), h1, hk.go g1, fun n L' a H' q g' j' r => hx n env L' a H' σ q (g1.trans g') (st.go (g1.trans g') j') r⟩
  · exact h1.elim
end
end DL

namespace DL
open PySem PySem.Spec PyProof.Rows L2
section
variable {X : Cx} {Wx : WX} {a b c e o : Expr} {es : List Expr} {da db dc de do' : DE} {dl : DA} {pos apos : Pos}
/-! ### an instance made: C(..) -/
section
variable {CX : CXT} {k : Nat} {C f : Addr} {x : Str} {p : Pos} {fd : FuncData} {ps : List Str} {sp : Sp} {E : L2.St → XK} {ds : List Value} {dvs : List V} {t : TA}
def tMakeE (C : Addr) (sp : Sp) (dvs : List V) (E : L2.St → XK) (t : TA) : TE := fun σ H Q => t σ H fun vs H1 => ∀ x dx, H1 x = none → H1 dx = none → dx ≠ x → sp (.ref x :: (vs ++ dvs)) (upd (upd H1 dx (.own x)) x (.ins C dx [])) (fun v H2 => v = .non ∧ Q (.ref x) H2) (E σ)
theorem run_makeE {pins : List (Addr × Obj)} {σ : L2.St} {H : Hp} {s : Shared} {Q : VK} {us : List Value} {vs : List V} (M : Mk X.K C f) (F : FnOk X.prog X.w X.K X.mg X.base CX k f fd ps sp) (hr : Room (k + 1) X.A) (hb : Binds X.K fd ps ds) (hd : Vals dvs ds) (hx : PassesAt CX X σ (E σ)) (I : Inv X pins σ H s) (r : Vals vs us)
    (h : ∀ x dx, H x = none → H dx = none → dx ≠ x → sp (.ref x :: (vs ++ dvs)) (upd (upd H dx (.own x)) x (.ins C dx [])) (fun v H2 => v = .non ∧ Q (.ref x) H2) (E σ)) : wpAny (model X.prog X.w) X.A (call (.ref C) us) (EP X pins σ Q) X.xe s := by
  have q0 := h (s.heap.objs.size + 1) s.heap.objs.size (I.hok.fresh (Nat.le_succ _)) (I.hok.fresh (Nat.le_refl _)) (Nat.ne_of_lt (Nat.lt_succ_self _))
  have I2 := Inv.made (C := C) I
  have rr : Vals (V.ref (s.heap.objs.size + 1) :: (vs ++ dvs)) (.ref (s.heap.objs.size + 1) :: (us ++ ds)) := .cons rfl (r.append hd)
  have ll : (Value.ref (s.heap.objs.size + 1) :: us ++ ds).length = ps.length := rr.length.symm.trans (F.len _ _ _ _ q0)
  have run := F.run _ X.stack _ _ ⟨.ref (s.heap.objs.size + 1) :: us, []⟩ (.ref (s.heap.objs.size + 1) :: (us ++ ds)) _ _ (E σ) (hr.make C us []) (I2.env0.make C us []) (hb _ (.ref (s.heap.objs.size + 1) :: us) I2.kIn ll) rr q0
  refine wpAny_call (make_map (f := f) I.kIn M.makes M.init (beq_iff_eq.mp M.fn) (codeAny_mono run fun w s' hw => ?_))
  cases w with
  | error er => exact hx pins _ _ er s' I2 hw
  | ok fl =>
  cases fl with
  | brk => exact hw.elim
  | cont => exact hw.elim
  | next => exact hw.elim
  | ret u =>
  obtain ⟨_, H3, I3, rv, ev, q3⟩ := I2.after hw
  subst ev
  exact ⟨rv, ⟨.ref (s.heap.objs.size + 1), H3, I3, rfl, q3⟩⟩
theorem pe_makeE (M : Mk X.K C f) (F : FnOk X.prog X.w X.K X.mg X.base CX k f fd ps sp) (hr : Room (k + 1) X.A) (hg : Gl X x) (hm : X.mg x = some (.ref C)) (hb : Binds X.K fd ps ds) (hd : Vals dvs ds) (hx : ∀ σ, PassesAt CX X σ (E σ)) (hA : PA X (e :: es) t)
    (h0 : (x == ("__debug__" : Str)) = false := by decide) (h1 : starEach (e :: es) X.env = (false, eval e X.env) :: starEach es X.env := by rfl) (h2 : (backTo pos (starEach es X.env)).any (·.1) = false := by rfl) : PE X (.Call (.Name x p) (e :: es) [] pos) (tMakeE C sp dvs E t) :=
  ⟨fun pins s σ H Q I h => wpAny_Call_Name_kw (ld_glob I hg hm (PySem.W.callWith_K (h₀ := X.base) I.ok.mod.kin M.kp (thn (hA.run pos pins s σ H _ I h) fun us _ ⟨vs, _, I1, r, q⟩ => ⟨I1.kIn, run_makeE M F hr hb hd (hx σ) I1 r q⟩) h1 h2) h0)⟩
theorem pe_make0E (M : Mk X.K C f) (F : FnOk X.prog X.w X.K X.mg X.base CX k f fd ps sp) (hr : Room (k + 1) X.A) (hg : Gl X x) (hm : X.mg x = some (.ref C)) (hb : Binds X.K fd ps ds) (hd : Vals dvs ds) (hx : ∀ σ, PassesAt CX X σ (E σ))
    (h0 : (x == ("__debug__" : Str)) = false := by decide) : PE X (.Call (.Name x p) [] [] pos) (tMakeE C sp dvs E tNil) :=
  ⟨fun pins s σ H Q I h => wpAny_Call_Name_kw (ld_glob I hg hm (PySem.W.callWith_K0 I.kIn M.kp (run_makeE (us := []) M F hr hb hd (hx σ) I .nil h)) h0)⟩
end
/-- a class by name: what its __init__ promises of the new thing of the ledger -/
structure KCal (P : Program) (w : World) (K : PySem.W.Frag) (mg : Str → Option Value) (base : Heap) (n : Nat) (x : Str) (C : Addr) (ps : List Str) (dd : List D) (g : DSp) : Prop where
  ex : ∃ f fd us dvs, FnOk P w K mg base (L2.CX P w) n f fd ps (spD K g) ∧ Mk K C f ∧ mg x = some (.ref C) ∧ Binds K fd ps us ∧ Vals dvs us ∧ ∀ L H, RpAll L K H dvs dd
/-- .. it stays in the ledger -/
def dMakeM (C : Addr) (g : DSp) (dd : List D) (dl : DA) : DE := fun env L k x => dl env L (fun ds L1 => ∀ q, ¬ inL L1 q → g (.ptr q :: (ds ++ dd)) ((q, .obj C [] []) :: L1) (fun v L2 => v = .non ∧ k (.ptr q) L2) fun n L' => x n env L') x
/-- .. it is from then on a plain datum -/
def dMakeD (C : Addr) (g : DSp) (dd : List D) (dl : DA) : DE := fun env L k x => dl env L (fun ds L1 => ∀ q, ¬ inL L1 q → g (.ptr q :: (ds ++ dd)) ((q, .obj C [] []) :: L1) (fun v L2 => v = .non ∧ match L2.lookup q with
  | some (.obj C' ns vs) => k (.obj C' ns vs) (remL L2 q)
  | _ => False) fun n L' => x n env (remL L' q)) x
theorem made_jl {K : PySem.W.Frag} {L : Led} {H : Hp} {q dx C : Addr} (j : JL K L H) (hq : H q = none) (hd : H dx = none) (hne : dx ≠ q) : ¬ inL L q ∧ JL K ((q, .obj C [] []) :: L) (upd (upd H dx (.own q)) q (.ins C dx [])) ∧ Go L ((q, .obj C [] []) :: L) H (upd (upd H dx (.own q)) q (.ins C dx [])) := by
  have s := same_new hd (.own q)
  have hq' : (upd H dx (.own q)) q = none := by rw [upd_ne (Ne.symm hne)]; exact hq
  obtain ⟨j2, g2⟩ := (j.same s).push (d := .obj C [] []) hq' (o := .ins C dx []) ⟨dx, [], upd_same, rfl, .nil⟩
  exact ⟨j.notIn hq, j2, (Go.same s).trans g2⟩
theorem q_makeM {x : Str} {p : Pos} {n k : Nat} {C : Addr} {ps : List Str} {g : DSp} {dd : List D} (F : KCal X.prog X.w X.K X.mg X.base n x C ps dd g) (hn : n + 1 ≤ k) (hr : Room k X.A) (tk : Takes X Wx) (hg : Gl X x) (ha : QA X Wx (e :: es) dl)
    (h0 : (x == ("__debug__" : Str)) = false := by decide) (h1 : starEach (e :: es) X.env = (false, eval e X.env) :: starEach es X.env := by rfl) (h2 : (backTo pos (starEach es X.env)).any (·.1) = false := by rfl) : QE X Wx (.Call (.Name x p) (e :: es) [] pos) (dMakeM C g dd dl) := by
  obtain ⟨f, fd, us, dvs, F, hM, hm, hb, hd, hdd⟩ := F.ex
  obtain ⟨ta, pa, sa⟩ := ha.ex
  refine ⟨_, pe_makeE hM F (hr.mono hn) hg hm hb hd (fun σ => passAt tk σ) pa h0 h1 h2, fun σ H env L k x Q st h hk hx => ?_⟩
  refine sa σ H env L _ x _ st h (fun ds L1 vs H1 h1 g1 j1 r1 q dx hq hdx hne => ?_) hx
  obtain ⟨nq, j2, g2⟩ := made_jl (C := C) j1 hq hdx hne
  exact ⟨_, _, _, _, j2, .cons (.ptr q) ((r1.go g2).append (hdd _ _)), h1 q nq, fun d L' v H' ⟨ed, hkq⟩ g' j' r' => by subst ed; cases r'; exact ⟨rfl, hk _ L' _ H' hkq ((g1.trans g2).trans g') j' (.ptr q)⟩, fun n L' a H' hxq g' j' r => hx n env L' a H' σ hxq ((g1.trans g2).trans g') (st.go ((g1.trans g2).trans g') j') r⟩
theorem exR_go {L L' : Led} {K : PySem.W.Frag} {H H' : Hp} {a : Addr} {n : Exn} (g : Go L L' H H') (h : ExR L K H a n) : ExR L' K H' a n := by
  obtain ⟨na, vs, e1, e2, e3⟩ := h
  exact ⟨(g _ _ na e1).1, vs, (g _ _ na e1).2, e2, e3.go g⟩
theorem q_makeD {x : Str} {p : Pos} {n k : Nat} {C : Addr} {ps : List Str} {g : DSp} {dd : List D} (F : KCal X.prog X.w X.K X.mg X.base n x C ps dd g) (hn : n + 1 ≤ k) (hr : Room k X.A) (tk : Takes X Wx) (hg : Gl X x) (ha : QA X Wx (e :: es) dl)
    (h0 : (x == ("__debug__" : Str)) = false := by decide) (h1 : starEach (e :: es) X.env = (false, eval e X.env) :: starEach es X.env := by rfl) (h2 : (backTo pos (starEach es X.env)).any (·.1) = false := by rfl) : QE X Wx (.Call (.Name x p) (e :: es) [] pos) (dMakeD C g dd dl) := by
  obtain ⟨f, fd, us, dvs, F, hM, hm, hb, hd, hdd⟩ := F.ex
  obtain ⟨ta, pa, sa⟩ := ha.ex
  refine ⟨_, pe_makeE hM F (hr.mono hn) hg hm hb hd (fun σ => passAt tk σ) pa h0 h1 h2, fun σ H env L k x Q st h hk hx => ?_⟩
  refine sa σ H env L _ x _ st h (fun ds L1 vs H1 h1 g1 j1 r1 q dx hq hdx hne => ?_) hx
  obtain ⟨nq, j2, g2⟩ := made_jl (C := C) j1 hq hdx hne
  refine ⟨_, _, _, _, j2, .cons (.ptr q) ((r1.go g2).append (hdd _ _)), h1 q nq, fun d L' v H' ⟨ed, hkq⟩ g' j' r' => ?_, fun n L' a H' hxq g' j' r => ?_⟩
  · subst ed
    cases r'
    refine ⟨rfl, ?_⟩
    split at hkq
    · rename_i C' ns vs' hl
      obtain ⟨dx', ws, e1, e2, rv⟩ := j'.look hl
      exact hk _ _ _ H' hkq (((g1.trans g2).trans g').trans go_rem) j'.rem (.obj (fun m => (inL_remL.mp m).2 rfl) e1 e2 (rv.go go_rem))
    · exact hkq.elim
  · exact hx n env _ a H' σ hxq (((g1.trans g2).trans g').trans go_rem) (st.go (((g1.trans g2).trans g').trans go_rem) j'.rem) (exR_go go_rem r)
end
end DL

namespace DL
open PySem PySem.Spec PyProof.Rows PySem.W L2
/-- a class without an __init__ of its own -/
structure Bare (K : PySem.W.Frag) (C : Addr) : Prop where
  makes : PySem.W.makesIn K C = true
  ini : PySem.W.findIn K (.ref C) "__init__" = some (some (.builtin "object.__init__"))
  top : PySem.W.mroIn K C (.type "object") = some true
  kp : PySem.W.keepIn K (.ref C) = true
section
variable {X : Cx} {Wx : WX} {pos : Pos}
theorem pe_bare {C : Addr} {x : Str} {p : Pos} (B : Bare X.K C) (hg : Gl X x) (hm : X.mg x = some (.ref C)) (h0 : (x == ("__debug__" : Str)) = false := by decide) :
    PE X (.Call (.Name x p) [] [] pos) (fun σ H Q => ∀ x dx, H x = none → H dx = none → dx ≠ x → Q (.ref x) (upd (upd H dx (.own x)) x (.ins C dx []))) := by
  refine ⟨fun pins s σ H Q I h => ?_⟩
  refine wpAny_Call_Name_kw (ld_glob I hg hm (PySem.W.callWith_K0 I.kIn B.kp ?_) h0)
  have q0 := h (s.heap.objs.size + 1) s.heap.objs.size (I.hok.fresh (Nat.le_succ _)) (I.hok.fresh (Nat.le_refl _)) (Nat.ne_of_lt (Nat.lt_succ_self _))
  have I2 := Inv.made (C := C) I
  refine wpAny_call (make_map0 I.kIn B.makes B.ini (fun self => Looks.of_pure (oi_bind _)) ?_)
  have kin := I2.kIn
  have t1 : Looks (model X.prog X.w) ((s.heap.push PySem.W.emptyDict).push (PySem.W.instObj C s.heap.objs.size)) (typeOf (.ref (s.heap.objs.size + 1))) (.ref C) := NwA.type_at (o := PySem.W.instObj C s.heap.objs.size) (by
    have e : (s.heap.push PySem.W.emptyDict).objs.size = s.heap.objs.size + 1 := Array.size_push _
    rw [← e]
    exact Heap.get?_push_size _ rfl) rfl
  have t2 : Looks (model X.prog X.w) ((s.heap.push PySem.W.emptyDict).push (PySem.W.instObj C s.heap.objs.size)) (isInstance (.ref (s.heap.objs.size + 1)) (.type "object")) true := t1.andThen (looks_mroIn kin B.top)
  refine codeAny_call_builtin oi_plain entry_oi (check_slot oi_kind oi_split t2 (NwA.oi_args_any _ _ _) ?_)
  rw [oi_run]
  exact wpAny_pure (And.intro rfl ⟨.ref (s.heap.objs.size + 1), _, I2, rfl, q0⟩)
def dBare (C : Addr) : DE := fun _ L k _ => k (.obj C [] []) L
theorem q_bare {C : Addr} {x : Str} {p : Pos} (B : Bare X.K C) (hg : Gl X x) (hm : X.mg x = some (.ref C)) (h0 : (x == ("__debug__" : Str)) = false := by decide) : QE X Wx (.Call (.Name x p) [] [] pos) (dBare C) := by
  refine ⟨_, pe_bare B hg hm h0, fun σ H env L k x Q st h hk hx q dx hq hd hne => ?_⟩
  have s1 := same_new hd (.own q)
  have hq' : (upd H dx (.own q)) q = none := by rw [upd_ne (Ne.symm hne)]; exact hq
  have s2 := same_new hq' (.ins C dx [])
  have s : Same H (upd (upd H dx (.own q)) q (.ins C dx [])) := fun b u e => s2 b u (s1 b u e)
  exact hk _ L _ _ h (Go.same s) (st.2.same s) (.obj (dx := dx) (xs := []) (st.2.notIn hq) upd_same rfl .nil)
end
end DL

namespace DL
open PySem L2
/-! ### dicts with keys that are ints and texts -/
def keyD : D → Option Key
  | .int i => some (.inl i)
  | .str z => some (.inr z)
  | _ => none
theorem key_of {L : Led} {K : PySem.W.Frag} {H : Hp} {v : V} {d : D} {k : Key} (r : Rp L K H v d) (h : keyD d = some k) : v = kV k := by
  cases d <;> first | (cases h; done) | skip
  · cases h; cases r; rfl
  · cases h; cases r; rfl
def lookK {α : Type} : List Key → List α → Key → Option α
  | a :: ks, d :: ds, k => if a = k then some d else lookK ks ds k
  | _, _, _ => none
def setK {α : Type} (k : Key) (v : α) : List Key → List α → List α
  | a :: ks, d :: ds => (if a = k then v else d) :: setK k v ks ds
  | _, _ => []
def putKk (k : Key) (ks : List Key) : List Key := if ks.any (fun a => decide (a = k)) = true then ks else ks ++ [k]
def putKv {α : Type} (k : Key) (v : α) (ks : List Key) (vs : List α) : List α := if ks.any (fun a => decide (a = k)) = true then setK k v ks vs else vs ++ [v]
theorem look_val : ∀ (ks : List Key) (vs : List V) (k : Key), valV (ks.zip vs) k = lookK ks vs k
  | [], _, _ => rfl
  | _ :: _, [], _ => rfl
  | a :: ks, v :: vs, k => by
    show ((((a, v) :: ks.zip vs).find? fun kv => decide (kv.1 = k)).map (·.2)) = if a = k then some v else lookK ks vs k
    rw [List.find?_cons]
    by_cases e : a = k
    · rw [decide_eq_true e, if_pos e]; rfl
    · rw [decide_eq_false e, if_neg e]; exact look_val ks vs k
theorem look_rp {L : Led} {K : PySem.W.Frag} {H : Hp} (k : Key) : ∀ (ks : List Key) {vs : List V} {ds : List D}, RpAll L K H vs ds → match lookK ks ds k with
    | some d => ∃ v, lookK ks vs k = some v ∧ Rp L K H v d
    | none => lookK ks vs k = none
  | [], _, _, _ => rfl
  | a :: ks, _, _, .nil => rfl
  | a :: ks, _, _, .cons (v := v) (vs := vs) (d := d) (ds := ds) h r => by
    have ih := look_rp k ks r
    show match (if a = k then some d else lookK ks ds k) with | some d => ∃ v', (if a = k then some v else lookK ks vs k) = some v' ∧ Rp L K H v' d | none => (if a = k then some v else lookK ks vs k) = none
    by_cases e : a = k
    · rw [if_pos e, if_pos e]; exact ⟨v, rfl, h⟩
    · rw [if_neg e, if_neg e]; exact ih
theorem setK_len {α : Type} (k : Key) (v : α) : ∀ (ks : List Key) (vs : List α), ks.length = vs.length → (setK k v ks vs).length = vs.length
  | [], [], _ => rfl
  | [], _ :: _, h => by cases h
  | _ :: _, [], h => by cases h
  | a :: ks, x :: vs, h => by
    show (setK k v ks vs).length + 1 = vs.length + 1
    rw [setK_len k v ks vs (by simpa using h)]
theorem set_zip (k : Key) (v : V) : ∀ (ks : List Key) (vs : List V), (ks.zip vs).map (fun kv => if kv.1 = k then (kv.1, v) else kv) = ks.zip (setK k v ks vs)
  | [], _ => rfl
  | _ :: _, [] => rfl
  | a :: ks, x :: vs => by
    show (if a = k then (a, v) else (a, x)) :: (ks.zip vs).map _ = (a, if a = k then v else x) :: ks.zip (setK k v ks vs)
    rw [set_zip k v ks vs]
    by_cases e : a = k
    · rw [if_pos e, if_pos e]
    · rw [if_neg e, if_neg e]
theorem any_zip (k : Key) : ∀ (ks : List Key) (vs : List V), ks.length = vs.length → ((ks.zip vs).any fun kv => decide (kv.1 = k)) = ks.any fun a => decide (a = k)
  | [], _, _ => rfl
  | _ :: _, [], h => by cases h
  | a :: ks, x :: vs, h => by
    show (decide (a = k) || (ks.zip vs).any _) = (decide (a = k) || ks.any _)
    rw [any_zip k ks vs (by simpa using h)]
theorem putK_zip (k : Key) (v : V) (ks : List Key) (vs : List V) (h : ks.length = vs.length) : putK (ks.zip vs) k v = (putKk k ks).zip (putKv k v ks vs) ∧ (putKk k ks).length = (putKv k v ks vs).length := by
  unfold putK putKk putKv
  rw [any_zip k ks vs h]
  by_cases e : (ks.any fun a => decide (a = k)) = true
  · rw [if_pos e, if_pos e, if_pos e]
    exact ⟨set_zip k v ks vs, by rw [setK_len k v ks vs h]; exact h⟩
  · rw [if_neg e, if_neg e, if_neg e]
    refine ⟨?_, by rw [List.length_append, List.length_append, h]; rfl⟩
    rw [List.zip_append h]
    rfl
theorem setK_rp {L : Led} {K : PySem.W.Frag} {H : Hp} {v : V} {d : D} (r : Rp L K H v d) (k : Key) : ∀ (ks : List Key) {vs : List V} {ds : List D}, RpAll L K H vs ds → RpAll L K H (setK k v ks vs) (setK k d ks ds)
  | [], _, _, _ => .nil
  | _ :: _, _, _, .nil => .nil
  | a :: ks, _, _, .cons h t => by
    unfold setK
    by_cases e : a = k
    · rw [if_pos e, if_pos e]; exact .cons r (setK_rp r k ks t)
    · rw [if_neg e, if_neg e]; exact .cons h (setK_rp r k ks t)
theorem putKv_rp {L : Led} {K : PySem.W.Frag} {H : Hp} {v : V} {d : D} (r : Rp L K H v d) (k : Key) (ks : List Key) {vs : List V} {ds : List D} (h : RpAll L K H vs ds) : RpAll L K H (putKv k v ks vs) (putKv k d ks ds) := by
  unfold putKv
  split
  · exact setK_rp r k ks h
  · exact h.append (.cons r .nil)
theorem con_dk {L : Led} {K : PySem.W.Frag} {H : Hp} {v : V} {d : D} {ks : List Key} {ds : List D} (j : JL K L H) (r : Rp L K H v d) (e : con L d = .dk ks ds) : ∃ a vs, v = .ref a ∧ Rd H a (.dK (ks.zip vs)) ∧ ks.length = vs.length ∧ RpAll L K H vs ds := by
  cases d with
  | ptr a =>
    cases r
    have e : (L.lookup a).getD (.ptr a) = _ := e
    cases h : L.lookup a with
    | none => rw [h] at e; cases e
    | some c =>
      rw [h] at e
      have e2 : c = .dk ks ds := e
      subst e2
      obtain ⟨vs, h1, h2, h3⟩ := j.look h
      exact ⟨a, vs, rfl, .inl h1, h2, h3⟩
  | dk ks' ds' =>
    have e2 : D.dk ks' ds' = .dk ks ds := e
    cases e2
    cases r with
    | dk n h e r => exact ⟨_, _, rfl, h, e, r⟩
  | _ => cases e
section
variable {X : Cx} {Wx : WX} {a b c e o : Expr} {es : List Expr} {da db dc de do' : DE} {dl : DA} {pos apos : Pos}
def dDNewM : DE := fun _ L k _ => ∀ p, ¬ inL L p → k (.ptr p) ((p, .dk [] []) :: L)
def dDNewD : DE := fun _ L k _ => k (.dk [] []) L
theorem q_dnewM : QE X Wx (.Dict [] [] pos) dDNewM := ⟨_, pe_dnewK, fun σ H env L k x Q st h hk hx p hp => by
  obtain ⟨j2, g2⟩ := st.2.push (d := .dk [] []) hp (o := .dK []) ⟨[], upd_same, rfl, .nil⟩
  exact hk _ _ _ _ (h p (st.2.notIn hp)) g2 j2 (.ptr p)⟩
theorem q_dnewD : QE X Wx (.Dict [] [] pos) dDNewD := ⟨_, pe_dnewK, fun σ H env L k x Q st h hk hx p hp => by
  have s := same_new hp (.dK [])
  exact hk _ L _ _ h (Go.same s) (st.2.same s) (.dk (xs := []) (st.2.notIn hp) (.inl upd_same) rfl .nil)⟩
def gInDk (neg : Bool) : G2 := fun a b L k => match keyD a, con L b with
  | some q, .dk ks ds => k (.bl (if neg then !(lookK ks ds q).isSome else (lookK ks ds q).isSome))
  | _, _ => False
theorem in_look {L : Led} {K : PySem.W.Frag} {H : Hp} {ks : List Key} {vs : List V} {ds : List D} (q : Key) (r : RpAll L K H vs ds) : (lookK ks vs q).isSome = (lookK ks ds q).isSome := by
  have h := look_rp q ks r
  cases e : lookK ks ds q with
  | some d => rw [e] at h; obtain ⟨v, e1, _⟩ := h; rw [e1]; rfl
  | none => rw [e] at h; rw [show lookK ks vs q = none from h]; rfl
theorem op_inDk (hu : X.A.units + 1 < cLine) : OpR X (compareOp .In) (fun x y H Q => ∃ a ov, y = .ref a ∧ DGet H a x ov ∧ Q (.bl ov.isSome) H) := fun pins s σ H x y v u Q I rx ry ⟨a, ov, ea, g, q⟩ => by
  subst ea
  cases ry
  exact d_in hu I g rx fun s3 I3 => ⟨.bl ov.isSome, H, I3, rfl, q⟩
theorem op_notInDk (hu : X.A.units + 1 < cLine) : OpR X (compareOp .NotIn) (fun x y H Q => ∃ a ov, y = .ref a ∧ DGet H a x ov ∧ Q (.bl (!ov.isSome)) H) := fun pins s σ H x y v u Q I rx ry ⟨a, ov, ea, g, q⟩ => by
  subst ea
  cases ry
  exact d_notIn hu I g rx fun s3 I3 => ⟨.bl (!ov.isSome), H, I3, rfl, q⟩
theorem oq_inDk (hu : X.A.units + 64 < cLine) : OQ X (compareOp .In) (gInDk false) := ⟨_, op_inDk (by omega), fun H L va vb a b k Q j ra rb h hk => by
  unfold gInDk at h
  split at h
  · rename_i q ks ds hq hd
    obtain ⟨p, vs, rfl, hp, hl, rv⟩ := con_dk j rb hd
    cases key_of ra hq
    refine ⟨p, _, rfl, .inl ⟨_, q, hp, rfl, rfl⟩, ?_⟩
    rw [look_val, in_look q rv]
    exact hk _ _ H h (Same.refl H) (.bl _)
  · exact h.elim⟩
theorem oq_notInDk (hu : X.A.units + 64 < cLine) : OQ X (compareOp .NotIn) (gInDk true) := ⟨_, op_notInDk (by omega), fun H L va vb a b k Q j ra rb h hk => by
  unfold gInDk at h
  split at h
  · rename_i q ks ds hq hd
    obtain ⟨p, vs, rfl, hp, hl, rv⟩ := con_dk j rb hd
    cases key_of ra hq
    refine ⟨p, _, rfl, .inl ⟨_, q, hp, rfl, rfl⟩, ?_⟩
    rw [look_val, in_look q rv]
    exact hk _ _ H h (Same.refl H) (.bl _)
  · exact h.elim⟩
/-- d[k] -/
def gIxDk : G2 := fun a b L k => match con L a, keyD b with
  | .dk ks ds, some q => match lookK ks ds q with
    | some d => k d
    | none => False
  | _, _ => False
theorem q_ixDk (hu : X.A.units + 64 < cLine) (ha : QE X Wx a da) (hb : QE X Wx b db) (hs : NoSl b := by intro _ _; rfl) : QE X Wx (.Subscript a b pos) (dOp gIxDk da db) := by
  obtain ⟨ta, pa, sa⟩ := ha.ex
  obtain ⟨tb, pb, sb⟩ := hb.ex
  refine ⟨_, pe_dget (by omega) pa pb hs, fun σ H env L k x Q st h hk hx => ?_⟩
  refine sa σ H env L _ x _ st h (fun a L1 va H1 h1 g1 j1 r1 => ?_) hx
  refine sb σ H1 env L1 _ x _ (st.go g1 j1) h1 (fun b L2 vb H2 h2 g2 j2 r2 => ?_) (hx.go g1)
  unfold gIxDk at h2
  split at h2
  · rename_i ks ds q hd hq
    obtain ⟨p, vs, rfl, hp, hl, rv⟩ := con_dk j2 (r1.go g2) hd
    cases key_of r2 hq
    have hr := look_rp q ks rv
    split at h2
    · rename_i d hd2
      rw [hd2] at hr
      obtain ⟨v, e1, rv2⟩ := hr
      exact ⟨p, v, rfl, .inl ⟨_, q, hp, rfl, by rw [look_val]; exact e1.symm⟩, hk d L2 v H2 h2 (g1.trans g2) j2 rv2⟩
    · exact h2.elim
  · exact h2.elim
/-- d[k] = v, d of the ledger -/
def dStoreDk (de do' di : DE) : DS := fun D env L => de env L (fun v L1 => do' env L1 (fun o L2 => di env L2 (fun i L3 => match o, keyD i with
  | .ptr p, some q => match L3.lookup p with
    | some (.dk ks ds) => ks.length < sizeLine ∧ D.nx env (setL L3 p (.dk (putKk q ks) (putKv q v ks ds)))
    | _ => False
  | _, _ => False) D.ex) D.ex) D.ex
theorem s_storeDk {i : Expr} {di : DE} {ip : Pos} (hu : X.A.units + 64 < cLine) (he : QE X Wx e de) (ho : QE X Wx o do') (hi : QE X Wx i di) (hs : swapsWith e (some (.Subscript o i ip)) pos.line X.env = pure false := by rfl) : QS X Wx (.Assign [.Subscript o i ip] e pos) (dStoreDk de do' di) := by
  obtain ⟨te, pe, se⟩ := he.ex
  obtain ⟨to, po, so⟩ := ho.ex
  obtain ⟨ti, pi, si⟩ := hi.ex
  refine ⟨_, ps_dput (by omega) po pi pe hs, fun σ H env L D' D st h ok => ?_⟩
  refine se σ H env L _ _ _ st h (fun v L1 vv H1 h1 g1 j1 r1 => ?_) ok.ex
  refine so σ H1 env L1 _ _ _ (st.go g1 j1) h1 (fun o L2 vo H2 h2 g2 j2 r2 => ?_) (ok.ex.go g1)
  refine si σ H2 env L2 _ _ _ ((st.go g1 j1).go g2 j2) h2 (fun i L3 vi H3 h3 g3 j3 r3 => ?_) ((ok.ex.go g1).go g2)
  replace r2 := r2.go g3
  replace r1 := (r1.go g2).go g3
  split at h3
  · rename_i p q hq
    cases r2 with
    | ptr p =>
    cases key_of r3 hq
    split at h3
    · rename_i ks ds hl
      obtain ⟨vs, e1, e2, rv⟩ := j3.look hl
      have hp := inL_of_lookup hl
      obtain ⟨z1, z2⟩ := putK_zip q vv ks vs e2
      refine ⟨p, _, rfl, .inl ⟨_, q, e1, rfl, by rw [List.length_zip]; have := h3.1; omega, rfl⟩, ?_⟩
      rw [z1]
      have g4 : Go L3 (setL L3 p (.dk (putKk q ks) (putKv q v ks ds))) H3 (upd H3 p (.dK ((putKk q ks).zip (putKv q vv ks vs)))) := go_set hp
      have j4 : JL X.K (setL L3 p (.dk (putKk q ks) (putKv q v ks ds))) (upd H3 p (.dK ((putKk q ks).zip (putKv q vv ks vs)))) := j3.put hp ⟨_, upd_same, z2, putKv_rp (r1.go g4) q ks (rv.go g4)⟩
      exact ok.nx env _ σ _ h3.2 (((g1.trans g2).trans g3).trans g4) (st.go (((g1.trans g2).trans g3).trans g4) j4)
    · exact h3.elim
  · exact h3.elim
/-! ### {k: v, ..} -/
abbrev DPs := DEnv → Led → (List (D × D) → Led → Prop) → DX → Prop
structure QPs (X : Cx) (Wx : WX) (pos : Pos) (keys : List (Option Expr)) (values : List Expr) (dp : DPs) : Prop where
  ex : ∃ trs, PPs X pos keys values trs ∧ ∀ σ H env L k x (Q : List (V × V) → Hp → Prop), StL X.K σ H env L → dp env L k x → (∀ ps L' vs ws H', k ps L' → Go L L' H H' → JL X.K L' H' → RpAll L' X.K H' vs (ps.map (·.1)) → RpAll L' X.K H' ws (ps.map (·.2)) → Q (vs.zip ws) H') → XOk X.K Wx L H x → tPairs trs σ H Q
def dPnil : DPs := fun _ L k _ => k [] L
def dPcons (dk dv : DE) (dp : DPs) : DPs := fun env L k x => dk env L (fun a L1 => dv env L1 (fun b L2 => dp env L2 (fun ps L3 => k ((a, b) :: ps) L3) x) x) x
theorem p_nil : QPs X Wx pos [] [] dPnil := ⟨[], pps_nil, fun σ H env L k x Q st h hk hx => hk [] L [] [] H h (Go.refl L H) st.2 .nil .nil⟩
theorem p_cons {ks : List (Option Expr)} {vs : List Expr} {dk dv : DE} {dp : DPs} (h1 : QE X Wx a dk) (h2 : QE X Wx b dv) (hr : QPs X Wx pos ks vs dp) : QPs X Wx pos (some a :: ks) (b :: vs) (dPcons dk dv dp) := by
  obtain ⟨t1, p1, s1⟩ := h1.ex
  obtain ⟨t2, p2, s2⟩ := h2.ex
  obtain ⟨tr, p3, s3⟩ := hr.ex
  refine ⟨(t1, t2) :: tr, pps_cons p1 p2 p3, fun σ H env L k x Q st h hk hx => ?_⟩
  refine s1 σ H env L _ x _ st h (fun a L1 va H1 h1 g1 j1 r1 => ?_) hx
  refine s2 σ H1 env L1 _ x _ (st.go g1 j1) h1 (fun b L2 vb H2 h2 g2 j2 r2 => ?_) (hx.go g1)
  refine s3 σ H2 env L2 _ x _ ((st.go g1 j1).go g2 j2) h2 (fun ps L3 vs ws H3 h3 g3 j3 r3 r4 => ?_) ((hx.go g1).go g2)
  exact hk _ L3 (va :: vs) (vb :: ws) H3 h3 ((g1.trans g2).trans g3) j3 (.cons ((r1.go g2).go g3) r3) (.cons (r2.go g3) r4)
def keysOf : List (D × D) → Option (List Key)
  | [] => some []
  | (a, _) :: r => match keyD a, keysOf r with
    | some k, some l => some (k :: l)
    | _, _ => none
theorem keysOf_rp {L : Led} {K : PySem.W.Frag} {H : Hp} : ∀ {ps : List (D × D)} {ks : List Key} {vs : List V}, keysOf ps = some ks → RpAll L K H vs (ps.map (·.1)) → vs = ks.map kV ∧ ks.length = ps.length
  | [], ks, _, h, .nil => by cases h; exact ⟨rfl, rfl⟩
  | (a, b) :: r, ks, _, h, .cons h1 h2 => by
    unfold keysOf at h
    split at h
    · rename_i k l hk hl
      cases h
      obtain ⟨e1, e2⟩ := keysOf_rp hl h2
      cases key_of h1 hk
      exact ⟨by rw [e1]; rfl, by rw [List.length_cons, List.length_cons, e2]⟩
    · cases h
theorem put_fresh (k : Key) (v : V) (kvs : List (Key × V)) (h : k ∉ kvs.map (·.1)) : putK kvs k v = kvs ++ [(k, v)] := by
  unfold putK
  rw [if_neg]
  intro e
  obtain ⟨p, hp, e⟩ := List.any_eq_true.mp e
  exact h (List.mem_map.mpr ⟨p, hp, of_decide_eq_true e⟩)
theorem merge_fresh : ∀ (more kvs : List (Key × V)), (kvs.map (·.1) ++ more.map (·.1)).Nodup → mergeK kvs more = kvs ++ more
  | [], kvs, _ => by show kvs = kvs ++ []; rw [List.append_nil]
  | p :: r, kvs, h => by
    have hp : p.1 ∉ kvs.map (·.1) := fun hm => (List.nodup_append.mp h).2.2 _ hm _ List.mem_cons_self rfl
    show mergeK (putK kvs p.1 p.2) r = _
    rw [put_fresh p.1 p.2 kvs hp, merge_fresh r (kvs ++ [(p.1, p.2)]) (by simpa using h)]
    simp
theorem rem_set (L : Led) (p : Addr) (d : D) : remL (setL L p d) p = remL L p := by
  unfold remL setL
  induction L with
  | nil => rfl
  | cons q r ih =>
    rw [List.map_cons]
    by_cases e : q.1 = p
    · rw [if_pos e, List.filter_cons, List.filter_cons, decide_eq_false (fun h => h rfl), decide_eq_false (fun h => h e)]
      exact ih
    · rw [if_neg e, List.filter_cons, List.filter_cons, decide_eq_true e, if_pos rfl, if_pos rfl, ih]
def dDisp (dp : DPs) : DE := fun env L k x => ∀ p, ¬ inL L p → dp env ((p, .dk [] []) :: L) (fun ps L1 => match keysOf ps with
  | some ks => (L1.lookup p = some (.dk [] []) ∧ ks.Nodup ∧ ks.length ≤ 15) ∧ k (.dk ks (ps.map (·.2))) (remL L1 p)
  | none => False) (fun n env' L' => x n env' L')
theorem q_disp {keys : List (Option Expr)} {values : List Expr} {dp : DPs} (h : QPs X Wx pos keys values dp) (hall : keys.all (·.isSome) = true := by rfl) (hl : keys.length = values.length := by rfl) (h0 : keys ≠ [] := by simp) (h15 : keys.length ≤ 15 := by decide) : QE X Wx (.Dict keys values pos) (dDisp dp) := by
  obtain ⟨trs, pp, sp⟩ := h.ex
  refine ⟨_, pe_disp pp hall hl h0 h15, fun σ H env L k x Q st h hk hx p hp => ?_⟩
  obtain ⟨j2, g2⟩ := st.2.push (d := .dk [] []) hp (o := .dK []) ⟨[], upd_same, rfl, .nil⟩
  refine sp σ _ env _ _ _ _ (st.go g2 j2) (h p (st.2.notIn hp)) (fun ps L1 vs ws H1 h1 g1 j1 r1 r2 => ?_) (hx.go g2)
  split at h1
  · rename_i ks hk1
    obtain ⟨⟨hlk, hnd, h15'⟩, h1⟩ := h1
    obtain ⟨e1, e2⟩ := keysOf_rp hk1 r1
    obtain ⟨vs0, hp1, _, _⟩ := j1.look hlk
    have lw : ks.length = ws.length := by rw [r2.length, List.length_map]; exact e2
    have em : (ks.zip ws).map (·.1) = ks := List.map_fst_zip (by omega)
    have hin := inL_of_lookup hlk
    refine ⟨by simpa using hp1, ks.zip ws, ?_, by rw [List.length_zip]; omega, ?_⟩
    · rw [e1]
      clear e1 e2 em lw h1 hk1 r1 r2 hnd h15'
      induction ks generalizing ws with
      | nil => rfl
      | cons a t ih =>
        cases ws with
        | nil => rfl
        | cons w ws =>
          show (kV a, w) :: (t.map kV).zip ws = (kV a, w) :: (t.zip ws).map _
          rw [ih]
    · rw [merge_fresh (ks.zip ws) [] (by rw [List.map_nil, List.nil_append, em]; exact hnd), List.nil_append]
      have g4 : Go L1 (setL L1 p (.dk ks (ps.map (·.2)))) H1 (upd H1 p (.dK (ks.zip ws))) := go_set hin
      have j4 : JL X.K (setL L1 p (.dk ks (ps.map (·.2)))) (upd H1 p (.dK (ks.zip ws))) := j1.put hin ⟨ws, upd_same, lw, r2.go g4⟩
      have j5 := j4.rem (p := p)
      have g5 : Go (setL L1 p (.dk ks (ps.map (·.2)))) (remL (setL L1 p (.dk ks (ps.map (·.2)))) p) (upd H1 p (.dK (ks.zip ws))) (upd H1 p (.dK (ks.zip ws))) := go_rem
      rw [rem_set] at j5 g5
      exact hk _ _ _ _ h1 (((g2.trans g1).trans g4).trans g5) j5 (.dk (fun m => (inL_remL.mp m).2 rfl) (.inl upd_same) lw ((r2.go g4).go g5))
  · exact h1.elim
end
end DL

namespace DL
open PySem L2
/-! ### what a def has made for itself is forgotten -/
def keepL (L L' : Led) : Led := L'.filter fun q => decide (q.1 ∈ L.map (·.1))
theorem inL_keep {L L' : Led} {a : Addr} : inL (keepL L L') a ↔ inL L' a ∧ inL L a := by
  unfold inL keepL
  constructor
  · intro h
    obtain ⟨q, hq, rfl⟩ := List.mem_map.mp h
    obtain ⟨h1, h2⟩ := List.mem_filter.mp hq
    exact ⟨List.mem_map.mpr ⟨q, h1, rfl⟩, of_decide_eq_true h2⟩
  · rintro ⟨h1, h2⟩
    obtain ⟨q, hq, rfl⟩ := List.mem_map.mp h1
    exact List.mem_map.mpr ⟨q, List.mem_filter.mpr ⟨hq, decide_eq_true h2⟩, rfl⟩
theorem go_keep {L L' : Led} {H : Hp} : Go L' (keepL L L') H H := fun a o n h => ⟨fun m => n (inL_keep.mp m).1, h⟩
theorem JL.keep {K : PySem.W.Frag} {L L' : Led} {H : Hp} (j : JL K L' H) : JL K (keepL L L') H := by
  refine ⟨?_, fun a d m => ?_⟩
  · exact List.Nodup.sublist (List.Sublist.map _ List.filter_sublist) j.nd
  · exact Own.move (j.own a d (List.mem_filter.mp m).1) go_keep fun o e => e
/-- the contract with what is new in the ledger left out behind the call -/
def tidyS (g : DSp) : DSp := fun ds L k x => g ds L (fun d L' => k d (keepL L L')) fun n L' => x n (keepL L L')
theorem fn_tidy {P : Program} {w : World} {K : PySem.W.Frag} {mg : Str → Option Value} {base : Heap} {n : Nat} {f : Addr} {fd : FuncData} {ps : List Str} {g : DSp} (F : FnOk P w K mg base (L2.CX P w) n f fd ps (spD K g)) : FnOk P w K mg base (L2.CX P w) n f fd ps (spD K (tidyS g)) := by
  have key : ∀ vs H Q E, spD K (tidyS g) vs H Q E → spD K g vs H Q E := fun vs H Q E h => by
    obtain ⟨ds, L, k, x, j, r, h, hk, hx⟩ := h
    refine ⟨ds, L, _, _, j, r, h, fun d L' v H' q g' j' r' => ?_, fun n L' a H' q g' j' r' => ?_⟩
    · exact hk d _ v H' q (g'.trans go_keep) j'.keep (r'.go go_keep)
    · exact hx n _ a H' q (g'.trans go_keep) j'.keep (exR_go go_keep r')
  exact ⟨fun vs H Q E h => F.len vs H Q E (key vs H Q E h), fun A outer s H args us vs Q E hr e0 hb hv h => F.run A outer s H args us vs Q E hr e0 hb hv (key vs H Q E h)⟩
theorem keep_out {L L' : Led} {p : Addr} {d : D} (h : ¬ inL L p) : keepL L ((p, d) :: L') = keepL L L' := by
  unfold keepL
  rw [List.filter_cons, decide_eq_false (show ¬ p ∈ L.map (·.1) from h)]
  rfl
theorem keep_same {L L' : Led} (h : L'.map (·.1) = L.map (·.1)) : keepL L L' = L' := by
  unfold keepL
  refine List.filter_eq_self.mpr fun q hq => decide_eq_true ?_
  rw [← h]
  exact List.mem_map.mpr ⟨q, hq, rfl⟩
end DL

namespace DL
open PySem PySem.Spec PyProof.Rows L2
section
variable {X : Cx} {Wx : WX} {a b c e o : Expr} {es : List Expr} {da db dc de do' : DE} {dl : DA} {pos apos : Pos}
/-! ### raise C(v), C an own class over ValueError whose __init__ stores one field alone -/
def dRaiseF (C : Addr) (f : Str) (dl : DA) : DS := fun D env L => dl env L (fun ds L1 => match ds with
  | [v] => D.ex ⟨.ref C, [f], [v]⟩ env L1
  | _ => False) D.ex
theorem s_raiseF {x : Str} {C : Addr} {ps : List Str} {f : Str} {p pos2 : Pos} {k : Nat} (T : ExCls X.prog X.w X.K X.mg X.base x C ps (spIf C f)) (hcalm : X.calm = true) (hr : Room k X.A) (h2 : 2 ≤ k) (tk : Takes X Wx) (hg : Gl X x) (ha : QA X Wx [e] dl)
    (hdb : (x == ("__debug__" : Str)) = false := by decide) (he : starEach [e] X.env = (false, eval e X.env) :: starEach [] X.env := by rfl) (hpl : (backTo pos (starEach [] X.env)).any (·.1) = false := by rfl) :
    QS X Wx (.Raise (some (.Call (.Name x p) [e] [] pos)) none pos2) (dRaiseF C f dl) := by
  obtain ⟨fI, fd, iC, tI, F1, hb⟩ := T.make_
  obtain ⟨ta, pa, sa⟩ := ha.ex
  refine ⟨_, ps_raise (W := Wx) hcalm tk (pmk_oex T.oex iC tI F1 (hr.mono h2) hb .nil (fun _ _ _ _ _ _ _ h => by obtain ⟨_, _, _, _, _, _, _, _, _, _, _, _, z⟩ := h; exact z.elim) hg T.gC pa hdb he hpl), fun σ H env L D' D st h ok => ?_⟩
  refine sa σ H env L _ _ _ st h (fun ds L1 vs H1 h1 g1 j1 r1 => ?_) ok.ex
  split at h1
  · rename_i v
    cases r1 with
    | cons rv r2 =>
      cases r2
      rename_i vv
      refine ⟨by simp, fun q hq => ⟨q, vv, rfl, upd_same, fun d hd hne => ?_⟩⟩
      have hd1 : H1 d = none := by rw [upd_ne hne] at hd; exact hd
      refine ⟨rfl, d, [(f, vv)], upd_same, ?_, hd1, ?_⟩
      · rw [upd_ne hne, upd_same]
      · have s : Same H1 (upd (del (upd (upd (upd H1 q (exo q C none)) d (exd d [(f, vv)])) q (exo q C (some d))) q) d (.xd [(f, vv)])) := fun b u hb => by
          have n1 : b ≠ q := ne_of_none hb hq
          have n2 : b ≠ d := ne_of_none hb hd1
          rw [upd_ne n2, del_ne n1, upd_ne n1, upd_ne n2, upd_ne n1]
          exact hb
        have g2 := g1.trans (Go.same (L := L1) s)
        have j2 := j1.same s
        exact ok.ex ⟨.ref C, [f], [v]⟩ env L1 d _ σ h1 g2 (st.go g2 j2) ⟨j1.notIn hd1, [vv], upd_same, rfl, .cons (rv.go (Go.same s)) .nil⟩
  · exact h1.elim
end
section
variable {P : Program} {w : World} {K : PySem.W.Frag} {mg : Str → Option Value} {base : Heap}
theorem initf_ok {qual f : Str} {st : Stmt} {fI C : Addr} {fd : FuncData} {p5 p6 p7 p8 : Pos} (F : Fun K "__init__" qual st fI fd) (S : FnScope ["self", f] ["self", f] (defScope st))
    (hbd : defBody st = [.Assign [.Attribute (.Name "self" p5) f p6] (.Name f p7) p8]) (hs : (defScope st).names.lookup ("self" : Str) = some .local) (hf : (defScope st).names.lookup f = some .local)
    (hd : (f == ("__debug__" : Str)) = false) (hcd : (f == ("__classdict__" : Str)) = false) (T : OexC K C) (h2 : PySem.W.findIn K (.ref C) f = some none) : FnOk P w K mg base (L2.CX P w) 1 fI fd ["self", f] (spIf C f) := by
  refine F.okX S (fun vs H Q E h => ?_) (fun cdv A outer s H vs Q E hr h => ?_)
  · obtain ⟨a, v, rfl, _⟩ := h
    rfl
  · obtain ⟨a, v, rfl, ha, q⟩ := h
    rw [hbd]
    refine ⟨_, pss_one (ps_ost (pv 0 rfl (.inl hs)) (pv 1 rfl (.inl hf) hd hcd) (by rfl)), ?_⟩
    exact ⟨v, rfl, .ref a, rfl, a, C, rfl, T, h2, .inl ⟨ha, fun d hd hne => q d hd hne⟩⟩
end
end DL

namespace DL
open PySem PySem.Spec PyProof.Rows L2
theorem mul_one (l : Addr) (items : Array Value) (n : Nat) (dd : Option Addr) (sl : Array (Option Value)) (u : Tok) :
    Meets (Builtin.«tuple.__mul__» ⟨[.ref l, .int 1 u], []⟩) (fun _ R s => s.heap.get? l = some { cls := .type "tuple", dict := dd, data := .seq items n, slots := sl } ∧ R (.ok (.ret (Value.ref l))) s) :=
  .of_wp fun prog w A R s h => by
    obtain ⟨hp, g, d, tk, os⟩ := s
    obtain ⟨hl, h⟩ := h
    have f1 := AutoSeq1.idx_int
    wp_walk using wpAny_loadPart' hl
    exact ⟨_, rfl, h⟩
theorem mul_zero (l : Addr) (items : Array Value) (n : Nat) (dd : Option Addr) (sl : Array (Option Value)) (u : Tok) (hn : items.isEmpty = false) :
    Meets (Builtin.«tuple.__mul__» ⟨[.ref l, .int 0 u], []⟩) (fun _ R s => s.heap.get? l = some { cls := .type "tuple", dict := dd, data := .seq items n, slots := sl } ∧
      R (.ok (.ret (Value.ref s.heap.objs.size))) { s with heap := s.heap.push { cls := Value.type "tuple", data := Data.seq #[] }, toks := s.toks }) :=
  .of_wp fun prog w A R s h => by
    obtain ⟨hp, g, d, tk, os⟩ := s
    obtain ⟨hl, h⟩ := h
    have f1 := AutoSeq1.idx_int
    wp_walk using wpAny_loadPart' hl
    exact ⟨_, rfl, h⟩
section
variable {X : Cx} {Wx : WX} {a b c e o : Expr} {es : List Expr} {da db dc de do' : DE} {dl : DA} {pos apos : Pos}
/-- a tuple times 0 or 1 -/
def rRepF (K : PySem.W.Frag) : R2 := fun x y H Q => ∃ l k xs, x = .ref l ∧ y = .int k ∧ SqT K H l xs ∧ xs ≠ [] ∧ ((k = 1 ∧ Q (.ref l) H) ∨ (k = 0 ∧ ∀ p, H p = none → Q (.ref p) (upd H p (.tup []))))
theorem op_repF : OpR X (binaryOp .Mult) (rRepF X.K) := by
  intro pins st σ H x y v u Q I rx ry hq
  obtain ⟨l, k, xs, rfl, rfl, hT, hne, hk⟩ := hq
  cases rx
  obtain ⟨t, rfl⟩ := ry
  obtain ⟨its, r, ⟨⟨cl, dd, dat, sl⟩, ho, hc, n, hd⟩, hs⟩ := I.tuple hT
  simp only at hc hd
  subst hc
  subst hd
  have hi : its.toArray.isEmpty = false := by
    rcases its with _ | ⟨z, zs⟩
    · cases r; exact absurd rfl hne
    · rfl
  rcases hk with ⟨rfl, q⟩ | ⟨rfl, q⟩
  · refine wpAny_binaryOp_repeat_ref (T := "tuple") (U := "int") (by decide) ⟨_, ho, rfl⟩ (fun s' => typeIs_int s' 1 t) noFill_tuple_mul F.fills_int_mul F.slot_int_rmul repeat_tuple F.slot_int_index.lookup
      (call_meets F.slot_int_rmul (typeIs_int st 1 t) F.entry_int_rmul (F.args_int_rmul_2 _ _) (int_rmul_tuple 1 t l its.toArray n dd sl)
        ⟨ho, rfl, ⟨_, ho, rfl⟩, call_meets F.slot_tuple_mul ⟨_, ho, rfl⟩ F.entry_tuple_mul (F.args_tuple_mul_2 _ _) (mul_one l its.toArray n dd sl t) ⟨ho, ?_⟩⟩)
    exact ⟨.ref l, H, I, rfl, q⟩
  · refine wpAny_binaryOp_repeat_ref (T := "tuple") (U := "int") (by decide) ⟨_, ho, rfl⟩ (fun s' => typeIs_int s' 0 t) noFill_tuple_mul F.fills_int_mul F.slot_int_rmul repeat_tuple F.slot_int_index.lookup
      (call_meets F.slot_int_rmul (typeIs_int st 0 t) F.entry_int_rmul (F.args_int_rmul_2 _ _) (int_rmul_tuple 0 t l its.toArray n dd sl)
        ⟨ho, rfl, ⟨_, ho, rfl⟩, call_meets F.slot_tuple_mul ⟨_, ho, rfl⟩ F.entry_tuple_mul (F.args_tuple_mul_2 _ _) (mul_zero l its.toArray n dd sl t hi) ⟨ho, ?_⟩⟩)
    refine ⟨.ref st.heap.objs.size, _, I.laid (t' := st.toks) (o := .tup []) (fun b ob q => Heap.get?_push_of_some _ q) (Nat.le_refl _) ?_, rfl, q _ (I.hok.fresh (Nat.le_refl _))⟩
    exact ⟨Nat.zero_le _, [], .nil, IsTup.new _ _⟩
def gRepA : G2 := fun a b _ k => match a, b with
  | .tup xs, .int n => (xs ≠ [] ∧ 0 ≤ n ∧ n ≤ 1000 ∧ xs.length ≤ 1000) ∧ k (.tup (List.replicate n.toNat xs).flatten)
  | _, _ => False
theorem oq_repA : OQ X (binaryOp .Mult) gRepA := ⟨_, opr_or op_repF op_repT, fun H L va vb a b k Q j ra rb h hk => by
  unfold gRepA at h
  split at h
  · rename_i xs n
    cases rb
    obtain ⟨p, vs, rfl, hp, rv⟩ := con_tup j ra rfl
    obtain ⟨⟨h1, h2, h3, h4⟩, h⟩ := h
    have hv : vs ≠ [] := fun e0 => h1 (by subst e0; cases rv; rfl)
    by_cases n2 : 2 ≤ n
    · refine .inr ⟨p, _, vs, rfl, rfl, hp, hv, n2, h3, by rw [rv.length]; exact h4, fun l hl => ?_⟩
      have s := same_new hl (.tup (List.replicate n.toNat vs).flatten)
      exact hk _ _ _ h s (.tup (.inl ⟨j.notIn hl, .inl upd_same⟩) ((rep_all rv n.toNat).go (Go.same s)))
    · by_cases n1 : n = 1
      · subst n1
        refine .inl ⟨p, _, vs, rfl, rfl, hp, hv, .inl ⟨rfl, ?_⟩⟩
        rw [show (List.replicate (1 : Int).toNat xs).flatten = xs from by show xs ++ [] = xs; rw [List.append_nil]] at h
        exact hk _ _ _ h (Same.refl H) ra
      · have n0 : n = 0 := by omega
        subst n0
        refine .inl ⟨p, _, vs, rfl, rfl, hp, hv, .inr ⟨rfl, fun l hl => ?_⟩⟩
        have s := same_new hl (.tup [])
        exact hk _ _ _ h s (.tup (.inl ⟨j.notIn hl, .inl upd_same⟩) .nil)
  · exact h.elim⟩
/-- dict([(key, value), ..]): a plain datum; the keys differ -/
def pairD : D → Option (Key × D)
  | .tup [a, b] => (keyD a).map fun k => (k, b)
  | _ => none
def pairsD : List D → Option (List (Key × D))
  | [] => some []
  | d :: r => match pairD d, pairsD r with
    | some p, some l => some (p :: l)
    | _, _ => none
theorem pairs_rp {L : Led} {K : PySem.W.Frag} {H : Hp} (j : JL K L H) : ∀ {xs : List D} {l : List (Key × D)} {vs : List V}, pairsD xs = some l → RpAll L K H vs xs → ∃ (ps : List Addr) (kvs : List (Key × V)), vs = ps.map V.ref ∧ Paired (fun p kv => SqT K H p [kV kv.1, kv.2]) ps kvs ∧ kvs.map (·.1) = l.map (·.1) ∧ RpAll L K H (kvs.map (·.2)) (l.map (·.2))
  | [], l, _, h, .nil => by cases h; exact ⟨[], [], rfl, .nil, rfl, .nil⟩
  | d :: r, l, _, h, .cons h1 h2 => by
    unfold pairsD at h
    split at h
    · rename_i p l' hp hl
      cases h
      obtain ⟨ps, kvs, e1, e2, e3, e4⟩ := pairs_rp j hl h2
      unfold pairD at hp
      split at hp
      · rename_i a b
        cases hk : keyD a with
        | none => rw [hk] at hp; cases hp
        | some q =>
          rw [hk] at hp
          cases hp
          obtain ⟨t, us, rfl, ht, ru⟩ := con_tup j h1 rfl
          cases ru with
          | cons ra rr =>
            cases rr with
            | cons rb rn =>
              cases rn
              cases key_of ra hk
              exact ⟨t :: ps, (q, _) :: kvs, by rw [e1]; rfl, .cons ht e2, by rw [List.map_cons, e3]; rfl, .cons rb e4⟩
      · cases hp
    · cases h
theorem zip_fs {α β : Type} : ∀ l : List (α × β), l = (l.map (·.1)).zip (l.map (·.2))
  | [] => rfl
  | p :: r => by rw [List.map_cons, List.map_cons, List.zip_cons_cons, ← zip_fs r]
def gDictOf : GC := fun ds L k => match ds with
  | [d] => match con L d with
    | .lst xs => match pairsD xs with
      | some l => (l.map (·.1)).Nodup ∧ k (.dk (l.map (·.1)) (l.map (·.2)))
      | none => False
    | _ => False
  | _ => False
theorem cq_dict (hcalm : X.calm = true) : CQ X (.type "dict") gDictOf := ⟨_, call_dictP hcalm, fun H L vs ds k Q j r h hk => by
  unfold gDictOf at h
  split at h
  · cases r with
    | cons r1 r2 =>
      cases r2
      split at h
      · rename_i xs hd
        obtain ⟨a, vs, rfl, hs, rv⟩ := con_lst j r1 hd
        split at h
        · rename_i l hl
          obtain ⟨ps, kvs, rfl, e2, e3, e4⟩ := pairs_rp j hl rv
          refine ⟨a, ps, kvs, rfl, SqL.of hs, e2, fun q hq => ?_⟩
          rw [merge_fresh kvs [] (by rw [List.map_nil, List.nil_append, e3]; exact h.1), List.nil_append]
          have s := same_new hq (.dK kvs)
          have ez : kvs = (l.map (·.1)).zip (kvs.map (·.2)) := by
            rw [← e3]
            exact zip_fs kvs
          refine hk _ _ _ h.2 s (.dk (xs := kvs.map (·.2)) (j.notIn hq) (.inl (by rw [← ez]; exact upd_same)) (by rw [← e3, List.length_map, List.length_map]) (e4.go (Go.same s)))
        · exact h.elim
      · exact h.elim
  · exact h.elim⟩
end
end DL

namespace DL
open PySem L2
/-! ### runs of programs, as the law tells them -/
abbrev VAL := (Int × Int) × Int
def rtD (r : Int × Int) : D := .tup [.int r.1, .int r.2]
def valD (v : VAL) : D := .tup [rtD v.1, .int v.2]
/-- ends without a value -/
inductive EE where
  | unset (z : Str) | heavy | zero | long | none
def EE.l : EE → List Str
  | .unset z => ["unset", z]
  | .heavy => ["heavy"]
  | .zero => ["zero"]
  | .long => ["long"]
  | .none => ["none"]
def EE.d (e : EE) : D := .tup (e.l.map D.str)
structure RSt where
  outs : List Str
  steps : Nat
inductive R1 where
  | ok (v : VAL) | halt (e : EE)
def sgI (z : Int) : Int := (if decide (0 < z) then 1 else 0) - (if decide (z < 0) then 1 else 0)
def rAddL (a b : Int × Int) : Int × Int := lowI (a.1 * b.2 + b.1 * a.2) (a.2 * b.2)
def rSubL (a b : Int × Int) : Int × Int := lowI (a.1 * b.2 - b.1 * a.2) (a.2 * b.2)
def rMulL (a b : Int × Int) : Int × Int := lowI (a.1 * b.1) (a.2 * b.2)
def rDivL (a b : Int × Int) : Int × Int := lowI (a.1 * b.2) (a.2 * b.1)
def joinR (o : Str) (a b : Int × Int) : Int × Int := if o = "add" then rAddL a b else if o = "sub" then rSubL a b else if o = "mul" then rMulL a b else rDivL a b
def orderR (a b : Int × Int) : Int := sgI (a.1 * b.2 - b.1 * a.2)
abbrev NMS := List (Str × VAL)
abbrev FUN := Str → VAL → VAL → RSt → R1 × RSt
def evalE (F : FUN) (nm : NMS) (x y : VAL) : Ex → RSt → R1 × RSt
  | .num i, s => (.ok ((i, 1), 1), s)
  | .lx, s => (.ok x, s)
  | .ly, s => (.ok y, s)
  | .nm z, s => match nm.lookup z with
    | some v => (.ok v, s)
    | none => (.halt (.unset z), s)
  | .call f a b, s => match evalE F nm x y a s with
    | (.halt e, s1) => (.halt e, s1)
    | (.ok v, s1) => match evalE F nm x y b s1 with
      | (.halt e, s2) => (.halt e, s2)
      | (.ok w, s2) => F f v w s2
  | .bin o a b, s => match evalE F nm x y a s with
    | (.halt e, s1) => (.halt e, s1)
    | (.ok v, s1) => match evalE F nm x y b s1 with
      | (.halt e, s2) => (.halt e, s2)
      | (.ok w, s2) => if 10 < v.2 + w.2 then (.halt .heavy, s2) else if o = "div" ∧ w.1.1 = 0 then (.halt .zero, s2) else (.ok (joinR o v.1 w.1, v.2 + w.2), s2)
inductive Sm where
  | letS (z : Str) (e : Ex) | stop (e : Ex) | rep (n : Nat) (b : List Sm) | ifS (t : Str) (a b : Ex) (p q : List Sm)
mutual
def Sm.d : Sm → D
  | .letS z e => .tup [.str "let", .str z, e.d]
  | .stop e => .tup [.str "stop", e.d]
  | .rep n b => .tup [.str "repeat", .int n, .tup (Sm.ds b)]
  | .ifS t a b p q => .tup [.str "if", .str t, a.d, b.d, .tup (Sm.ds p), .tup (Sm.ds q)]
def Sm.ds : List Sm → List D
  | [] => []
  | s :: r => s.d :: Sm.ds r
end
/-- how a block ends: by a halt, by a value or by its last statement -/
inductive BR where
  | halt (e : EE) | done (o : Option VAL)
def putN (z : Str) (v : VAL) : NMS → NMS
  | [] => [(z, v)]
  | (a, u) :: r => if a = z then (a, v) :: r else (a, u) :: putN z v r
def sgnS (t : Int) : Str := if t = 0 then "=" else if t = 1 then ">" else "<"
def takes (t : Str) (turn : Int) : Bool := if t = "less" then decide (turn = -1) else if t = "equal" then decide (turn = 0) else decide (turn = -1) || decide (turn = 0)
def repM (body : NMS → RSt → BR × NMS × RSt) : Nat → NMS → RSt → BR × NMS × RSt
  | 0, nm, s => (.done none, nm, s)
  | n + 1, nm, s => match body nm s with
    | (.done none, nm1, s1) => repM body n nm1 s1
    | r => r
mutual
def stmM (F : FUN) (x y : VAL) : Sm → NMS → RSt → BR × NMS × RSt
  | .letS z e, nm, s => match evalE F nm x y e s with
    | (.halt h, s1) => (.halt h, nm, s1)
    | (.ok v, s1) => (.done none, putN z v nm, s1)
  | .stop e, nm, s => match evalE F nm x y e s with
    | (.halt h, s1) => (.halt h, nm, s1)
    | (.ok v, s1) => (.done (some v), nm, s1)
  | .rep n b, nm, s => repM (blkM F x y b) n nm s
  | .ifS t a b p q, nm, s => match evalE F nm x y a s with
    | (.halt h, s1) => (.halt h, nm, s1)
    | (.ok v, s1) => match evalE F nm x y b s1 with
      | (.halt h, s2) => (.halt h, nm, s2)
      | (.ok w, s2) => if 10 < v.2 + w.2 then (.halt .heavy, nm, s2) else
        match takes t (orderR v.1 w.1) with
        | true => blkM F x y p nm ⟨s2.outs ++ [sgnS (orderR v.1 w.1)], s2.steps⟩
        | false => blkM F x y q nm ⟨s2.outs ++ [sgnS (orderR v.1 w.1)], s2.steps⟩
def blkM (F : FUN) (x y : VAL) : List Sm → NMS → RSt → BR × NMS × RSt
  | [], nm, s => (.done none, nm, s)
  | st :: r, nm, s => if s.steps = 60 then (.halt .long, nm, s) else
    match stmM F x y st nm ⟨s.outs, s.steps + 1⟩ with
    | (.done none, nm1, s1) => blkM F x y r nm1 s1
    | q => q
end
/-- a program run with values for x and y -/
def execM (F : FUN) (p : List Sm) (x y : VAL) (s : RSt) : R1 × RSt := match blkM F x y p [] s with
  | (.halt e, _, s1) => (.halt e, s1)
  | (.done none, _, s1) => (.halt .none, s1)
  | (.done (some v), _, s1) => (.ok v, s1)
abbrev TAB := List (Str × List Sm)
def funM (tab : TAB) : Nat → FUN
  | 0 => fun _ _ _ s => (.halt .none, s)
  | n + 1 => fun f x y s => match tab.lookup f with
    | some p => execM (funM tab n) p x y s
    | none => (.halt .none, s)
def wholeD (r : R1 × RSt) : D := .tup [.tup (r.2.outs.map D.str), match r.1 with
  | .halt e => e.d
  | .ok v => .tup [.str "value", rtD v.1]]
/-! ### how great the numbers grow -/
structure VOk (v : VAL) : Prop where
  w1 : 1 ≤ v.2
  w2 : v.2 ≤ 10
  pos : 0 < v.1.2
  low : gcdI v.1.1 v.1.2 = 1
  top : v.1.1.natAbs < 2 ^ (64 * v.2.toNat - 1)
  bot : v.1.2.natAbs < 2 ^ (64 * v.2.toNat - 1)
theorem VOk.small {v : VAL} (h : VOk v) : v.1.1.natAbs < 2 ^ 640 ∧ v.1.2.natAbs < 2 ^ 640 := by
  have : 64 * v.2.toNat - 1 ≤ 640 := by have := h.w2; omega
  exact ⟨Nat.lt_of_lt_of_le h.top (Nat.pow_le_pow_right (by decide) this), Nat.lt_of_lt_of_le h.bot (Nat.pow_le_pow_right (by decide) this)⟩
theorem mul_lt {a b : Int} {n m : Nat} (ha : a.natAbs < 2 ^ n) (hb : b.natAbs < 2 ^ m) : (a * b).natAbs < 2 ^ (n + m) := by
  rw [Int.natAbs_mul, Nat.pow_add]
  exact Nat.mul_lt_mul'' ha hb
theorem VOk.join {v w : VAL} (hv : VOk v) (hw : VOk w) (o : Str) (h10 : ¬ 10 < v.2 + w.2) (hz : ¬ (o = "div" ∧ w.1.1 = 0)) (ho : o ∈ (["add", "sub", "mul", "div"] : List Str)) : VOk (joinR o v.1 w.1, v.2 + w.2) := by
  have e : (64 * v.2.toNat - 1) + (64 * w.2.toNat - 1) + 1 = 64 * (v.2 + w.2).toNat - 1 := by have := hv.w1; have := hw.w1; omega
  have p1 := mul_lt hv.top hw.bot
  have p2 := mul_lt hw.top hv.bot
  have p3 := mul_lt hv.bot hw.bot
  have p4 := mul_lt hv.top hw.top
  have p5 := mul_lt hv.bot hw.top
  have e2 : (2 : Nat) ^ (64 * (v.2 + w.2).toNat - 1) = 2 ^ ((64 * v.2.toNat - 1) + (64 * w.2.toNat - 1)) + 2 ^ ((64 * v.2.toNat - 1) + (64 * w.2.toNat - 1)) := by rw [← e, Nat.pow_succ]; omega
  rw [Nat.add_comm (64 * w.2.toNat - 1)] at p2
  have mk : ∀ t u : Int, u ≠ 0 → t.natAbs < 2 ^ (64 * (v.2 + w.2).toNat - 1) → u.natAbs < 2 ^ (64 * (v.2 + w.2).toNat - 1) → VOk (lowI t u, v.2 + w.2) := fun t u hu ht hb => by
    obtain ⟨s1, s2⟩ := lowI_small (t := t) hu
    obtain ⟨l1, l2, _⟩ := lowI_spec (t := t) hu
    exact ⟨by show 1 ≤ v.2 + w.2; have := hv.w1; have := hw.w1; omega, by show v.2 + w.2 ≤ 10; omega, l1, l2, Nat.lt_of_le_of_lt s1 ht, Nat.lt_of_le_of_lt s2 hb⟩
  have nz : v.1.2 * w.1.2 ≠ 0 := Int.mul_ne_zero (by have := hv.pos; omega) (by have := hw.pos; omega)
  unfold joinR
  simp only [List.mem_cons, List.not_mem_nil, or_false] at ho
  rcases ho with q | q | q | q <;> subst q
  · rw [if_pos rfl]
    exact mk _ _ nz (by omega) (by omega)
  · rw [if_neg (by decide), if_pos rfl]
    exact mk _ _ nz (by omega) (by omega)
  · rw [if_neg (by decide), if_neg (by decide), if_pos rfl]
    exact mk _ _ nz (by omega) (by omega)
  · rw [if_neg (by decide), if_neg (by decide), if_neg (by decide)]
    exact mk _ _ (Int.mul_ne_zero (by have := hv.pos; omega) fun z => hz ⟨rfl, z⟩) (by omega) (by omega)
end DL

namespace DL
open PySem L2
/-! ### the runner and the names in the ledger -/
theorem lookup_setL_ne : ∀ {L : Led} {p q : Addr} {d : D}, p ≠ q → (setL L q d).lookup p = L.lookup p
  | [], _, _, _, _ => rfl
  | (a, c) :: L, p, q, d, h => by
    by_cases e : a = q
    · subst e
      show List.lookup p ((if a = a then (a, d) else (a, c)) :: setL L a d) = _
      rw [if_pos rfl, lookup_ne h, lookup_ne h]
      exact lookup_setL_ne h
    · rw [setL_ne e]
      by_cases e2 : p = a
      · subst e2
        rw [List.lookup_cons_self, List.lookup_cons_self]
      · rw [lookup_ne e2, lookup_ne e2]
        exact lookup_setL_ne h
theorem setL_comm {p q : Addr} (h : p ≠ q) (c d : D) (L : Led) : setL (setL L p c) q d = setL (setL L q d) p c := by
  unfold setL
  rw [List.map_map, List.map_map]
  refine List.map_congr_left fun a _ => ?_
  show (if (if a.1 = p then (p, c) else a).1 = q then (q, d) else (if a.1 = p then (p, c) else a)) = (if (if a.1 = q then (q, d) else a).1 = p then (p, c) else (if a.1 = q then (q, d) else a))
  by_cases e : a.1 = p
  · rw [if_pos e, if_neg (show ¬ (p, c).1 = q from h), if_neg (show ¬ a.1 = q from fun z => h (e.symm.trans z)), if_pos e]
  · rw [if_neg e]
    by_cases e2 : a.1 = q
    · rw [if_pos e2, if_neg (show ¬ (q, d).1 = p from Ne.symm h)]
    · rw [if_neg e2, if_neg e]
theorem lookup_in : ∀ {L : Led} {p : Addr}, inL L p → ∃ d, L.lookup p = some d
  | [], p, h => by simp [inL] at h
  | (a, c) :: L, p, h => by
    by_cases e : p = a
    · subst e; exact ⟨c, List.lookup_cons_self⟩
    · rw [lookup_ne e]
      exact lookup_in ((inL_cons.mp h).resolve_left e)
def fldsR : List Str := ["arithmetic", "programs", "outcomes", "steps"]
def runD (cP cR : Addr) (tb : D) (o : Addr) (n : Nat) : D := .obj cR fldsR [.obj cP [] [], tb, .ptr o, .int n]
def dkD (nm : NMS) : D := .dk (nm.map fun p => .inr p.1) (nm.map fun p => valD p.2)
def tabD (tab : TAB) : D := .dk (tab.map fun p => .inr p.1) (tab.map fun p => .tup (Sm.ds p.2))
structure RR where
  cP : Addr
  cR : Addr
  r : Addr
  o : Addr
  tb : D
@[irreducible] def st2 (R : RR) (L : Led) (s : RSt) : Led := setL (setL L R.r (runD R.cP R.cR R.tb R.o s.steps)) R.o (.lst (s.outs.map D.str))
structure B2 (R : RR) (L : Led) : Prop where
  r : inL L R.r
  o : inL L R.o
  ne : R.r ≠ R.o
section
variable {R : RR} {L : Led} {s : RSt}
theorem st2_keys : (st2 R L s).map (·.1) = L.map (·.1) := by unfold st2; rw [setL_keys, setL_keys]
theorem st2_r (b : B2 R L) : (st2 R L s).lookup R.r = some (runD R.cP R.cR R.tb R.o s.steps) := by
  obtain ⟨d, hd⟩ := lookup_in b.r
  unfold st2
  rw [lookup_setL_ne b.ne]
  exact lookup_setL hd
theorem st2_o (b : B2 R L) : (st2 R L s).lookup R.o = some (.lst (s.outs.map D.str)) := by
  obtain ⟨d, hd⟩ := lookup_in b.o
  unfold st2
  exact lookup_setL (c := d) (by rw [lookup_setL_ne (Ne.symm b.ne)]; exact hd)
theorem st2_q {q : Addr} (h1 : q ≠ R.r) (h2 : q ≠ R.o) : (st2 R L s).lookup q = L.lookup q := by
  unfold st2
  rw [lookup_setL_ne h2, lookup_setL_ne h1]
theorem st2_setr (b : B2 R L) (n : Nat) : setL (st2 R L s) R.r (runD R.cP R.cR R.tb R.o n) = st2 R L ⟨s.outs, n⟩ := by
  unfold st2
  rw [setL_comm (Ne.symm b.ne), setL_setL]
theorem st2_seto (b : B2 R L) (l : List Str) : setL (st2 R L s) R.o (.lst (l.map D.str)) = st2 R L ⟨l, s.steps⟩ := by
  unfold st2
  rw [setL_setL]
theorem st2_setq {q : Addr} (h1 : q ≠ R.r) (h2 : q ≠ R.o) (d : D) : setL (st2 R L s) q d = st2 R (setL L q d) s := by
  unfold st2
  rw [setL_comm (Ne.symm h2), setL_comm (Ne.symm h1)]
theorem st2_cons {q : Addr} (h1 : q ≠ R.r) (h2 : q ≠ R.o) (d : D) : (q, d) :: st2 R L s = st2 R ((q, d) :: L) s := by
  unfold st2
  rw [setL_ne h1, setL_ne h2]
theorem B2.set (b : B2 R L) (q : Addr) (d : D) : B2 R (setL L q d) := ⟨inL_setL.mpr b.r, inL_setL.mpr b.o, b.ne⟩
theorem B2.cons (b : B2 R L) (q : Addr) (d : D) : B2 R ((q, d) :: L) := ⟨inL_cons.mpr (.inr b.r), inL_cons.mpr (.inr b.o), b.ne⟩
end
/-! ### names as a dict -/
theorem look_nm (z : Str) : ∀ nm : NMS, lookK (nm.map fun p => (Sum.inr p.1 : Key)) (nm.map fun p => valD p.2) (.inr z) = (nm.lookup z).map valD
  | [] => rfl
  | (a, v) :: r => by
    show (if (Sum.inr a : Key) = .inr z then some (valD v) else lookK _ _ _) = _
    by_cases e : a = z
    · subst e; rw [if_pos rfl, List.lookup_cons_self]; rfl
    · rw [if_neg (fun h => e (by injection h)), look_nm z r, List.lookup_cons, beq_false_of_ne (Ne.symm e)]
theorem look_tab (z : Str) : ∀ tab : TAB, lookK (tab.map fun p => (Sum.inr p.1 : Key)) (tab.map fun p => D.tup (Sm.ds p.2)) (.inr z) = (tab.lookup z).map fun p => .tup (Sm.ds p)
  | [] => rfl
  | (a, v) :: r => by
    show (if (Sum.inr a : Key) = .inr z then some _ else lookK _ _ _) = _
    by_cases e : a = z
    · subst e; rw [if_pos rfl, List.lookup_cons_self]; rfl
    · rw [if_neg (fun h => e (by injection h)), look_tab z r, List.lookup_cons, beq_false_of_ne (Ne.symm e)]
theorem putN_keys (z : Str) (v : VAL) : ∀ nm : NMS, (nm.map (·.1)).Nodup → putKk (.inr z) (nm.map fun p => (Sum.inr p.1 : Key)) = (putN z v nm).map (fun p => Sum.inr p.1) ∧ putKv (.inr z) (valD v) (nm.map fun p => (Sum.inr p.1 : Key)) (nm.map fun p => valD p.2) = (putN z v nm).map fun p => valD p.2
  | [], _ => ⟨rfl, rfl⟩
  | (a, u) :: r, h => by
    rw [List.map_cons, List.nodup_cons] at h
    obtain ⟨i1, i2⟩ := putN_keys z v r h.2
    have hs : ∀ (l : NMS), z ∉ l.map (·.1) → setK (.inr z) (valD v) (l.map fun p => (Sum.inr p.1 : Key)) (l.map fun p => valD p.2) = l.map fun p => valD p.2 := by
      intro l
      induction l with
      | nil => intro _; rfl
      | cons p l ih =>
        intro hn
        rw [List.map_cons, List.mem_cons, not_or] at hn
        show (if (Sum.inr p.1 : Key) = .inr z then valD v else valD p.2) :: setK _ _ _ _ = valD p.2 :: l.map _
        rw [if_neg (fun q => hn.1 (by injection q with q; exact q.symm)), ih hn.2]
    unfold putKk at i1
    unfold putKv at i2
    unfold putKk putKv
    rw [List.map_cons, List.any_cons]
    by_cases e : a = z
    · subst e
      rw [decide_eq_true (show (Sum.inr a : Key) = .inr a from rfl), Bool.true_or, if_pos rfl, if_pos rfl]
      unfold putN
      rw [if_pos rfl]
      refine ⟨rfl, ?_⟩
      show (if (Sum.inr a : Key) = .inr a then valD v else valD u) :: setK _ _ _ _ = _
      rw [if_pos rfl, hs r h.1]
      rfl
    · rw [decide_eq_false (show ¬ (Sum.inr a : Key) = .inr z from fun q => e (by injection q)), Bool.false_or]
      unfold putN
      rw [if_neg e]
      by_cases c : ((r.map fun p => (Sum.inr p.1 : Key)).any fun a => decide (a = .inr z)) = true
      · rw [if_pos c] at i1 i2
        rw [if_pos c, if_pos c]
        refine ⟨by rw [List.map_cons, ← i1], ?_⟩
        show (if (Sum.inr a : Key) = .inr z then valD v else valD u) :: setK _ _ _ _ = _
        rw [if_neg (fun q => e (by injection q)), List.map_cons, ← i2]
      · rw [if_neg c] at i1 i2
        rw [if_neg c, if_neg c]
        exact ⟨by rw [List.map_cons, ← i1]; rfl, by rw [List.map_cons, List.map_cons, ← i2]; rfl⟩
theorem putN_mem (z : Str) (v : VAL) : ∀ (nm : NMS) (a : Str), a ∈ (putN z v nm).map (·.1) → a = z ∨ a ∈ nm.map (·.1)
  | [], a, h => .inl (by simpa [putN] using h)
  | (b, u) :: r, a, h => by
    unfold putN at h
    split at h
    · exact .inr h
    · rw [List.map_cons, List.mem_cons] at h
      rcases h with h | h
      · exact .inr (by rw [h]; exact List.mem_cons_self)
      · rcases putN_mem z v r a h with q | q
        · exact .inl q
        · exact .inr (List.mem_cons_of_mem _ q)
theorem putN_nodup (z : Str) (v : VAL) : ∀ nm : NMS, (nm.map (·.1)).Nodup → ((putN z v nm).map (·.1)).Nodup
  | [], _ => by simp [putN]
  | (b, u) :: r, h => by
    unfold putN
    split
    · exact h
    · rename_i e
      rw [List.map_cons, List.nodup_cons] at h ⊢
      refine ⟨fun m => ?_, putN_nodup z v r h.2⟩
      rcases putN_mem z v r b m with q | q
      · exact e q
      · exact h.1 q
theorem putN_ok {P : VAL → Prop} {z : Str} {v : VAL} (hv : P v) : ∀ {nm : NMS}, (∀ p ∈ nm, P p.2) → ∀ p ∈ putN z v nm, P p.2
  | [], _, p, hp => by simp [putN] at hp; subst hp; exact hv
  | (b, u) :: r, h, p, hp => by
    unfold putN at hp
    split at hp
    · rcases List.mem_cons.mp hp with q | q
      · subst q; exact hv
      · exact h p (List.mem_cons_of_mem _ q)
    · rcases List.mem_cons.mp hp with q | q
      · subst q; exact h _ List.mem_cons_self
      · exact putN_ok hv (fun p hp => h p (List.mem_cons_of_mem _ hp)) p q
theorem putN_len (z : Str) (v : VAL) : ∀ nm : NMS, (putN z v nm).length ≤ nm.length + 1
  | [] => Nat.le_refl _
  | (b, u) :: r => by
    unfold putN
    split
    · rw [List.length_cons, List.length_cons]; omega
    · rw [List.length_cons, List.length_cons]; have := putN_len z v r; omega
end DL

namespace DL
open PySem L2
/-! ### what the model keeps -/
inductive XpOk (ks : Str → Prop) : Nat → Ex → Prop
  | num {m : Nat} {i : Int} : -999 ≤ i → i ≤ 999 → XpOk ks m (.num i)
  | lx {m : Nat} : XpOk ks m .lx
  | ly {m : Nat} : XpOk ks m .ly
  | nm {m : Nat} {z : Str} : XpOk ks m (.nm z)
  | call {m : Nat} {f : Str} {a b : Ex} : ks f → XpOk ks m a → XpOk ks m b → XpOk ks (m + 1) (.call f a b)
  | bin {m : Nat} {o : Str} {a b : Ex} : o ∈ (["add", "sub", "mul", "div"] : List Str) → XpOk ks m a → XpOk ks m b → XpOk ks (m + 1) (.bin o a b)
def tests : List Str := ["less", "equal", "upto"]
mutual
def smOk (ks : Str → Prop) : Nat → Sm → Prop
  | _, .letS _ e => XpOk ks 7 e
  | _, .stop e => XpOk ks 7 e
  | m, .rep n b => n ≤ 9 ∧ ∃ m', m = m' + 1 ∧ smsOk ks m' b
  | m, .ifS t a b p q => t ∈ tests ∧ XpOk ks 7 a ∧ XpOk ks 7 b ∧ ∃ m', m = m' + 1 ∧ smsOk ks m' p ∧ smsOk ks m' q
def smsOk (ks : Str → Prop) : Nat → List Sm → Prop
  | _, [] => True
  | m, s :: r => smOk ks m s ∧ smsOk ks m r
end
theorem XpOk.mono {ks : Str → Prop} {m : Nat} {e : Ex} (h : XpOk ks m e) : ∀ {m' : Nat}, m ≤ m' → XpOk ks m' e := by
  induction h with
  | num h1 h2 => intro _ _; exact .num h1 h2
  | lx => intro _ _; exact .lx
  | ly => intro _ _; exact .ly
  | nm => intro _ _; exact .nm
  | call hf _ _ ia ib =>
    intro m' hm
    obtain ⟨k, rfl⟩ : ∃ k, m' = k + 1 := ⟨m' - 1, by omega⟩
    exact .call hf (ia (by omega)) (ib (by omega))
  | bin ho _ _ ia ib =>
    intro m' hm
    obtain ⟨k, rfl⟩ : ∃ k, m' = k + 1 := ⟨m' - 1, by omega⟩
    exact .bin ho (ia (by omega)) (ib (by omega))
structure Gd (s : RSt) (r : R1 × RSt) : Prop where
  lim : r.2.steps ≤ 60
  mono : s.steps ≤ r.2.steps
  grow : r.2.outs.length + s.steps ≤ s.outs.length + r.2.steps
  v : ∀ v, r.1 = .ok v → VOk v
theorem Gd.refl {s : RSt} {r : R1} (h : s.steps ≤ 60) (hv : ∀ v, r = .ok v → VOk v) : Gd s (r, s) := ⟨h, Nat.le_refl _, Nat.le_refl _, hv⟩
theorem Gd.then {s s1 : RSt} {r1 : R1} {r : R1 × RSt} (a : Gd s (r1, s1)) (b : Gd s1 r) : Gd s r := ⟨b.lim, Nat.le_trans a.mono b.mono, by have h1 := a.grow; have h2 := b.grow; dsimp only at h1; omega, b.v⟩
theorem Gd.halt {s s1 : RSt} {r1 : R1} {e : EE} (a : Gd s (r1, s1)) : Gd s (.halt e, s1) := ⟨a.lim, a.mono, a.grow, fun v e => by cases e⟩
def FOk (F : FUN) : Prop := ∀ f x y s, VOk x → VOk y → s.steps ≤ 60 → Gd s (F f x y s)
theorem VOk.num {i : Int} (h1 : -999 ≤ i) (h2 : i ≤ 999) : VOk ((i, 1), 1) := by
  have e : (2 : Nat) ^ (64 * (1 : Int).toNat - 1) = 9223372036854775808 := by decide
  refine ⟨Int.le_refl _, by show (1 : Int) ≤ 10; decide, by show (0 : Int) < 1; decide, ?_, ?_, ?_⟩
  · show gcdI i 1 = 1
    unfold gcdI
    rw [show (1 : Int).natAbs = 1 from rfl, Nat.gcd_one_right]
    rfl
  · show i.natAbs < 2 ^ (64 * (1 : Int).toNat - 1)
    rw [e]; omega
  · show (1 : Int).natAbs < 2 ^ (64 * (1 : Int).toNat - 1)
    rw [e]; decide
theorem evalE_ok {F : FUN} {ks : Str → Prop} {nm : NMS} {x y : VAL} (hF : FOk F) (hn : ∀ p ∈ nm, VOk p.2) (hx : VOk x) (hy : VOk y) {m : Nat} {e : Ex} (he : XpOk ks m e) : ∀ s, s.steps ≤ 60 → Gd s (evalE F nm x y e s) := by
  have lk : ∀ (nm : NMS) z v, (∀ p ∈ nm, VOk p.2) → nm.lookup z = some v → VOk v := by
    intro nm
    induction nm with
    | nil => intro z v _ h; cases h
    | cons p r ih =>
      intro z v hp h
      rw [List.lookup_cons] at h
      cases hb : z == p.1 with
      | true => rw [hb] at h; cases h; exact hp p List.mem_cons_self
      | false => rw [hb] at h; exact ih z v (fun q hq => hp q (List.mem_cons_of_mem _ hq)) h
  induction he with
  | num h1 h2 => intro s hs; exact .refl hs fun v e => by cases e; exact VOk.num h1 h2
  | lx => intro s hs; exact .refl hs fun v e => by cases e; exact hx
  | ly => intro s hs; exact .refl hs fun v e => by cases e; exact hy
  | @nm _ z =>
    intro s hs
    unfold evalE
    cases h : nm.lookup z with
    | some v => exact .refl hs fun v' e => by cases e; exact lk nm z v hn h
    | none => exact .refl hs fun v' e => by cases e
  | @call _ f a b hf _ _ iha ihb =>
    intro s hs
    unfold evalE
    have ga := iha s hs
    rcases ea : evalE F nm x y a s with ⟨r1, s1⟩
    rw [ea] at ga
    rcases r1 with v | e
    rotate_left
    · exact ga.halt
    have gb := ihb s1 ga.lim
    dsimp only
    rcases eb : evalE F nm x y b s1 with ⟨r2, s2⟩
    rw [eb] at gb
    rcases r2 with w | e
    rotate_left
    · exact ga.then gb.halt
    exact ga.then (gb.then (hF f v w s2 (ga.v v rfl) (gb.v w rfl) gb.lim))
  | @bin _ o a b ho _ _ iha ihb =>
    intro s hs
    unfold evalE
    have ga := iha s hs
    rcases ea : evalE F nm x y a s with ⟨r1, s1⟩
    rw [ea] at ga
    rcases r1 with v | e
    rotate_left
    · exact ga.halt
    have gb := ihb s1 ga.lim
    dsimp only
    rcases eb : evalE F nm x y b s1 with ⟨r2, s2⟩
    rw [eb] at gb
    rcases r2 with w | e
    rotate_left
    · exact ga.then gb.halt
    dsimp only
    by_cases h1 : 10 < v.2 + w.2
    · rw [if_pos h1]; exact ga.then gb.halt
    · rw [if_neg h1]
      by_cases h2 : o = "div" ∧ w.1.1 = 0
      · rw [if_pos h2]; exact ga.then gb.halt
      · rw [if_neg h2]
        exact ga.then ⟨gb.lim, gb.mono, gb.grow, fun v' e => by cases e; exact VOk.join (ga.v v rfl) (gb.v w rfl) o h1 h2 ho⟩
/-- names that may stand when so many statements were executed -/
structure NOk (nm : NMS) : Prop where
  v : ∀ p ∈ nm, VOk p.2
  nd : (nm.map (·.1)).Nodup
structure Gb (nm : NMS) (s : RSt) (r : BR × NMS × RSt) : Prop where
  lim : r.2.2.steps ≤ 60
  mono : s.steps ≤ r.2.2.steps
  grow : r.2.2.outs.length + s.steps ≤ s.outs.length + r.2.2.steps
  n : NOk r.2.1
  len : r.2.1.length + s.steps ≤ nm.length + r.2.2.steps
  v : ∀ v, r.1 = .done (some v) → VOk v
theorem Gb.then {nm nm1 : NMS} {s s1 : RSt} {b : BR} {r : BR × NMS × RSt} (g : Gb nm s (b, nm1, s1)) (h : Gb nm1 s1 r) : Gb nm s r := ⟨h.lim, Nat.le_trans g.mono h.mono, by have h1 := g.grow; have h2 := h.grow; dsimp only at h1; omega, h.n, by have h1 := g.len; have h2 := h.len; dsimp only at h1; omega, h.v⟩
theorem repM_ok {body : NMS → RSt → BR × NMS × RSt} (h : ∀ nm s, NOk nm → s.steps ≤ 60 → Gb nm s (body nm s)) : ∀ (n : Nat) (nm : NMS) (s : RSt), NOk nm → s.steps ≤ 60 → Gb nm s (repM body n nm s)
  | 0, nm, s, hn, hs => ⟨hs, Nat.le_refl _, Nat.le_refl _, hn, Nat.le_refl _, fun v e => by cases e⟩
  | n + 1, nm, s, hn, hs => by
    unfold repM
    have g := h nm s hn hs
    rcases hb : body nm s with ⟨r, nm1, s1⟩
    rw [hb] at g
    rcases r with e | o
    · exact g
    · rcases o with _ | v
      · exact g.then (repM_ok h n nm1 s1 g.n g.lim)
      · exact g
/-- a statement: one name and one sign more than its steps -/
structure Gs (nm : NMS) (s : RSt) (r : BR × NMS × RSt) : Prop where
  lim : r.2.2.steps ≤ 60
  mono : s.steps ≤ r.2.2.steps
  grow : r.2.2.outs.length + s.steps ≤ s.outs.length + 1 + r.2.2.steps
  n : NOk r.2.1
  len : r.2.1.length + s.steps ≤ nm.length + 1 + r.2.2.steps
  v : ∀ v, r.1 = .done (some v) → VOk v
theorem Gd.gs {nm : NMS} {s s1 : RSt} {r : R1} {b : BR} (g : Gd s (r, s1)) (hn : NOk nm) (hv : ∀ v, b = .done (some v) → VOk v) : Gs nm s (b, nm, s1) := ⟨g.lim, g.mono, by have h1 := g.grow; dsimp only at h1 ⊢; omega, hn, by have h1 := g.mono; dsimp only at h1 ⊢; omega, hv⟩
mutual
theorem stmM_ok {F : FUN} {ks : Str → Prop} {x y : VAL} (hF : FOk F) (hx : VOk x) (hy : VOk y) : ∀ (m : Nat) (st : Sm) (nm : NMS) (s : RSt), smOk ks m st → NOk nm → s.steps ≤ 60 → Gs nm s (stmM F x y st nm s)
  | m, .letS z e, nm, s, h, hn, hs => by
    have g := evalE_ok hF hn.v hx hy (show XpOk ks 7 e by unfold smOk at h; exact h) s hs
    unfold stmM
    rcases he : evalE F nm x y e s with ⟨r, s1⟩
    rw [he] at g
    rcases r with v | e
    · exact ⟨g.lim, g.mono, by have h1 := g.grow; dsimp only at h1 ⊢; omega, ⟨putN_ok (g.v v rfl) hn.v, putN_nodup z v nm hn.nd⟩, by have h1 := putN_len z v nm; have h2 := g.mono; dsimp only at h2 ⊢; omega, fun v e => by cases e⟩
    · exact g.gs hn fun v e => by cases e
  | m, .stop e, nm, s, h, hn, hs => by
    have g := evalE_ok hF hn.v hx hy (show XpOk ks 7 e by unfold smOk at h; exact h) s hs
    unfold stmM
    rcases he : evalE F nm x y e s with ⟨r, s1⟩
    rw [he] at g
    rcases r with v | e
    · exact g.gs hn fun v' e => by cases e; exact g.v v rfl
    · exact g.gs hn fun v e => by cases e
  | m, .rep n b, nm, s, h, hn, hs => by
    obtain ⟨_, m', _, hb⟩ : n ≤ 9 ∧ ∃ m', m = m' + 1 ∧ smsOk ks m' b := by unfold smOk at h; exact h
    have g := repM_ok (fun nm s hn hs => blkM_ok hF hx hy m' b nm s hb hn hs) n nm s hn hs
    unfold stmM
    exact ⟨g.lim, g.mono, by have := g.grow; omega, g.n, by have := g.len; omega, g.v⟩
  | m, .ifS t a b p q, nm, s, h, hn, hs => by
    obtain ⟨_, hxa, hxb, m', _, hp, hq⟩ : t ∈ tests ∧ XpOk ks 7 a ∧ XpOk ks 7 b ∧ ∃ m', m = m' + 1 ∧ smsOk ks m' p ∧ smsOk ks m' q := by unfold smOk at h; exact h
    have ga := evalE_ok hF hn.v hx hy hxa s hs
    unfold stmM
    rcases ea : evalE F nm x y a s with ⟨r, s1⟩
    rw [ea] at ga
    rcases r with v | e
    rotate_left
    · exact ga.gs hn fun v e => by cases e
    have gb := evalE_ok hF hn.v hx hy hxb s1 ga.lim
    dsimp only
    rcases eb : evalE F nm x y b s1 with ⟨r, s2⟩
    rw [eb] at gb
    rcases r with w | e
    rotate_left
    · exact (ga.then gb).gs hn fun v e => by cases e
    dsimp only
    have gab := ga.then gb
    by_cases h1 : 10 < v.2 + w.2
    · rw [if_pos h1]
      exact gab.gs hn fun v e => by cases e
    · rw [if_neg h1]
      have key : ∀ z, Gb nm ⟨s2.outs ++ [sgnS (orderR v.1 w.1)], s2.steps⟩ z → Gs nm s z := fun z g => by
        refine ⟨g.lim, Nat.le_trans gab.mono g.mono, ?_, g.n, ?_, g.v⟩
        · have h1 := g.grow
          have h2 := gab.grow
          dsimp only at h1 h2
          rw [List.length_append, List.length_singleton] at h1
          omega
        · have h1 := g.len
          have h2 := gab.mono
          dsimp only at h1 h2
          omega
      cases takes t (orderR v.1 w.1) with
      | true => exact key _ (blkM_ok hF hx hy m' p nm ⟨s2.outs ++ [sgnS (orderR v.1 w.1)], s2.steps⟩ hp hn gab.lim)
      | false => exact key _ (blkM_ok hF hx hy m' q nm ⟨s2.outs ++ [sgnS (orderR v.1 w.1)], s2.steps⟩ hq hn gab.lim)
theorem blkM_ok {F : FUN} {ks : Str → Prop} {x y : VAL} (hF : FOk F) (hx : VOk x) (hy : VOk y) : ∀ (m : Nat) (l : List Sm) (nm : NMS) (s : RSt), smsOk ks m l → NOk nm → s.steps ≤ 60 → Gb nm s (blkM F x y l nm s)
  | m, [], nm, s, _, hn, hs => by
    unfold blkM
    exact ⟨hs, Nat.le_refl _, Nat.le_refl _, hn, Nat.le_refl _, fun v e => by cases e⟩
  | m, st :: r, nm, s, h, hn, hs => by
    have h : smOk ks m st ∧ smsOk ks m r := by unfold smsOk at h; exact h
    unfold blkM
    by_cases h60 : s.steps = 60
    · rw [if_pos h60]
      exact ⟨hs, Nat.le_refl _, Nat.le_refl _, hn, Nat.le_refl _, fun v e => by cases e⟩
    · rw [if_neg h60]
      have g := stmM_ok hF hx hy m st nm ⟨s.outs, s.steps + 1⟩ h.1 hn (by show s.steps + 1 ≤ 60; omega)
      rcases hb : stmM F x y st nm ⟨s.outs, s.steps + 1⟩ with ⟨b, nm1, s1⟩
      rw [hb] at g
      have g' : Gb nm s (b, nm1, s1) := ⟨g.lim, by have := g.mono; dsimp only at this ⊢; omega, by have := g.grow; dsimp only at this ⊢; omega, g.n, by have := g.len; dsimp only at this ⊢; omega, g.v⟩
      rcases b with e | o
      · exact g'
      · rcases o with _ | v
        · exact g'.then (blkM_ok hF hx hy m r nm1 s1 h.2 g.n g.lim)
        · exact g'
end
theorem execM_ok {F : FUN} {ks : Str → Prop} (hF : FOk F) {m : Nat} {p : List Sm} (hp : smsOk ks m p) {x y : VAL} (hx : VOk x) (hy : VOk y) (s : RSt) (hs : s.steps ≤ 60) : Gd s (execM F p x y s) := by
  have g := blkM_ok hF hx hy m p [] s hp (NOk.mk (fun p hp => nomatch hp) List.nodup_nil) hs
  unfold execM
  rcases hb : blkM F x y p [] s with ⟨b, nm1, s1⟩
  rw [hb] at g
  rcases b with e | o
  · exact ⟨g.lim, g.mono, g.grow, fun v e => by cases e⟩
  · rcases o with _ | v
    · exact ⟨g.lim, g.mono, g.grow, fun v e => by cases e⟩
    · exact ⟨g.lim, g.mono, g.grow, fun v' e => by cases e; exact g.v v rfl⟩
/-- names of the table that may be called with so many calls one within another -/
def Lv (tab : TAB) : Nat → Str → Prop
  | 0, _ => False
  | c + 1, f => ∃ p, tab.lookup f = some p ∧ smsOk (Lv tab c) 5 p
theorem funM_ok {tab : TAB} (ht : ∀ p ∈ tab, ∃ ks m, smsOk ks m p.2) : ∀ n, FOk (funM tab n)
  | 0 => fun f x y s hx hy hs => .refl hs fun v e => by cases e
  | n + 1 => fun f x y s hx hy hs => by
    unfold funM
    cases h : tab.lookup f with
    | none => exact .refl hs fun v e => by cases e
    | some p =>
      have : ∀ (tab : TAB), (∀ p ∈ tab, ∃ ks m, smsOk ks m p.2) → tab.lookup f = some p → ∃ ks m, smsOk ks m p := by
        intro tab
        induction tab with
        | nil => intro _ h; cases h
        | cons q r ih =>
          intro hq h
          rw [List.lookup_cons] at h
          cases hb : f == q.1 with
          | true => rw [hb] at h; cases h; exact hq q List.mem_cons_self
          | false => rw [hb] at h; exact ih (fun z hz => hq z (List.mem_cons_of_mem _ hz)) h
      obtain ⟨ks, m, hp⟩ := this tab ht h
      exact execM_ok (funM_ok ht n) (ks := ks) hp hx hy s hs
end DL

namespace DL
open PySem L2
/-! ### isinstance with an own class; what is never read -/
theorem kit_own {K : PySem.W.Frag} {t : Value} {C : Addr} {cl : ClassData} {b : Bool} (ht : (t == .ref C) = false) (hc : PySem.W.clsIn K C = some cl) (hy : PySem.W.typeIn K (.ref C) = some (.type "type")) (hs : PySem.W.subIn K t (.ref C) = some b) : PySem.W.kitOne K t (.ref C) = some b := by
  unfold PySem.W.kitOne
  rw [if_neg (by rw [ht]; decide)]
  unfold PySem.W.kitCls
  dsimp only
  rw [hc, hy, if_pos (by simp), hs]
/-- what a class must be known for, that its instances are asked for their class -/
structure InsC (K : PySem.W.Frag) (C : Addr) : Prop where
  cl : Cls K C
  ha : PySem.W.findIn K (.ref C) "__class__" = some (some (.builtin "object.__class__"))
  hn : PySem.W.specialIn K (.builtin "object.__class__") "__get__" = some (some (.builtin "getset_descriptor.__get__"))
  htk : PySem.W.takesIn K (.builtin "object.__class__") = some true
  hm : PySem.W.mroIn K C (.type "object") = some true
section
variable {X : Cx} {Wx : WX} {a b c e o : Expr} {es rest : List Expr} {da db dc de do' di : DE} {dt du : DT} {dl dk : DA} {pos : Pos}
def gIsC (K : PySem.W.Frag) (C : Addr) : G1 := fun a L k => match con L a with
  | .obj C' _ _ => ∃ b, (InsC K C' ∧ PySem.W.kitOne K (.ref C') (.ref C) = some b) ∧ k (.bl b)
  | c => match tyD c with
    | some t => ∃ b, PySem.W.kitOne K (.type t.nm) (.ref C) = some b ∧ k (.bl b)
    | none => False
def gcIsC (K : PySem.W.Frag) (C : Addr) : GC := fun ds L k => match ds with
  | [d, .ptr C'] => C' = C ∧ gIsC K C d L k
  | _ => False
theorem tyX_obj {L : Led} {K : PySem.W.Frag} {H : Hp} {v : V} {d : D} {C : Addr} {ns : List Str} {ds : List D} (j : JL K L H) (r : Rp L K H v d) (h : con L d = .obj C ns ds) (hI : InsC K C) : TyX K H v (.ref C) := by
  obtain ⟨a, dx, vs, rfl, e, _⟩ := con_obj j r h
  exact .base (.ins e hI.cl hI.ha hI.hn hI.htk hI.hm)
theorem cq_isC {K : PySem.W.Frag} (hK : X.K = K) {C : Addr} : CQ X (.builtin "isinstance") (gcIsC K C) := ⟨_, call_isi, fun H L vs ds k Q j r h hk => by
  subst hK
  unfold gcIsC at h
  split at h
  · rename_i d C'
    obtain ⟨rfl, h⟩ := h
    cases r with
    | cons r1 r2 => cases r2 with
      | cons r2 r3 =>
      cases r3
      cases r2
      unfold gIsC at h
      split at h
      · rename_i hc
        obtain ⟨b, ⟨hI, hb⟩, h⟩ := h
        exact ⟨_, _, _, _, _, rfl, .own _, tyX_obj j r1 hc hI, hb, hk _ _ H h (Same.refl H) (.bl _)⟩
      · split at h
        · rename_i t ht
          obtain ⟨b, hb, h⟩ := h
          exact ⟨_, _, _, _, _, rfl, .own _, tyX_con j r1 ht, hb, hk _ _ H h (Same.refl H) (.bl _)⟩
        · exact h.elim
  · exact h.elim⟩
theorem q_isC {K : PySem.W.Frag} {p p2 : Pos} {T : Str} {C : Addr} (hK : X.K = K) (ha : QE X Wx e da) (hmT : X.mg T = some (.ref C)) (hg : Gl X "isinstance") (hm : X.mg "isinstance" = none) (hgT : Gl X T)
    (hd : (T == ("__debug__" : Str)) = false := by decide) (hs : starEach (e :: [.Name T p2]) X.env = (false, eval e X.env) :: starEach [.Name T p2] X.env := by rfl) (hv0 : bootBuiltins "isinstance" = some (.builtin "isinstance") := by decide +kernel) :
    QE X Wx (.Call (.Name "isinstance" p) [e, .Name T p2] [] pos) (dUn (gIsC K C) da) := by
  refine (q_callB (g := gcIsC K C) (cq_isC hK) hg hm hv0 (a_cons ha (a_cons (q_glob (v := .ref C) (d := .ptr C) hgT hmT rfl (fun _ _ => .ptr _) hd) a_nil (by rfl)) hs) (by decide) (by decide) hs (by rfl)).w ?_
  intro env L k x h
  exact (show dCB (gcIsC K C) (dCons da (dCons (dC (.ptr C)) dNil)) env L k x from by
    unfold dCB dCons dC dNil
    unfold dUn at h
    refine cast ?_ h
    congr 1
    funext a L1
    show _ = (C = C ∧ _)
    simp)
def dNev : DE := fun _ _ _ _ => False
theorem q_nev : QE X Wx e dNev := ⟨fun _ _ _ => False, ⟨fun _ _ _ _ _ _ h => h.elim⟩, fun _ _ _ _ _ _ _ _ h _ _ => h.elim⟩
end
end DL

namespace DL
open PySem L2 TL
/-! ### programs that are drawn -/
mutual
def smW (ns ks : List Str) : Nat → Sm → Prop
  | _, .letS z e => z ∈ ns ∧ e.Wf ns ks ∧ e.dp ≤ 3
  | _, .stop e => e.Wf ns ks ∧ e.dp ≤ 3
  | m, .rep n b => n ≤ 9 ∧ ∃ m', m = m' + 1 ∧ smsW ns ks m' b
  | m, .ifS t a b p q => t ∈ tests ∧ (a.Wf ns ks ∧ a.dp ≤ 3) ∧ (b.Wf ns ks ∧ b.dp ≤ 3) ∧ ∃ m', m = m' + 1 ∧ smsW ns ks m' p ∧ smsW ns ks m' q
def smsW (ns ks : List Str) : Nat → List Sm → Prop
  | _, [] => True
  | m, s :: r => smW ns ks m s ∧ smsW ns ks m r
end
mutual
def cntS : Sm → Nat
  | .letS _ _ => 1
  | .stop _ => 1
  | .rep _ b => cntB b + 1
  | .ifS _ _ _ p q => cntB p + cntB q + 1
def cntB : List Sm → Nat
  | [] => 0
  | s :: r => cntS s + cntB r
end
theorem cntB_append : ∀ a b : List Sm, cntB (a ++ b) = cntB a + cntB b
  | [], b => by show cntB b = 0 + cntB b; omega
  | s :: r, b => by
    show cntS s + cntB (r ++ b) = cntS s + cntB r + cntB b
    rw [cntB_append r b]; omega
theorem smsW_append {ns ks : List Str} {m : Nat} : ∀ {a b : List Sm}, smsW ns ks m a → smsW ns ks m b → smsW ns ks m (a ++ b)
  | [], b, _, h => h
  | s :: r, b, ha, hb => by
    rw [List.cons_append]
    unfold smsW at ha ⊢
    exact ⟨ha.1, smsW_append ha.2 hb⟩
theorem cntB_len : ∀ l : List Sm, l.length ≤ cntB l
  | [] => Nat.le_refl _
  | s :: r => by
    have := cntB_len r
    have h1 : 1 ≤ cntS s := by cases s <;> unfold cntS <;> omega
    unfold cntB
    rw [List.length_cons]; omega
theorem Wf_xp {ns ks : List Str} {kk : Str → Prop} (hk : ∀ z ∈ ks, kk z) {e : Ex} (h : e.Wf ns ks) : ∀ {m : Nat}, e.dp ≤ m + 1 → XpOk kk m e := by
  induction h with
  | num h1 h2 => exact fun _ => .num h1 h2
  | lx => exact fun _ => .lx
  | ly => exact fun _ => .ly
  | nm _ => exact fun _ => .nm
  | call hf _ _ iha ihb =>
    intro m hm
    unfold Ex.dp at hm
    cases m with
    | zero => rename_i a b _ _; have : 1 ≤ a.dp := by cases a <;> unfold Ex.dp <;> omega
              omega
    | succ m => exact .call (hk _ hf) (iha (by omega)) (ihb (by omega))
  | bin ho _ _ iha ihb =>
    intro m hm
    unfold Ex.dp at hm
    cases m with
    | zero => rename_i a b _ _; have : 1 ≤ a.dp := by cases a <;> unfold Ex.dp <;> omega
              omega
    | succ m => exact .bin ho (iha (by omega)) (ihb (by omega))
mutual
theorem smW_ok {ns ks : List Str} {kk : Str → Prop} (hk : ∀ z ∈ ks, kk z) : ∀ (m : Nat) (s : Sm), smW ns ks m s → smOk kk m s
  | m, .letS z e, h => by
    unfold smW at h; unfold smOk
    exact Wf_xp hk h.2.1 (by omega)
  | m, .stop e, h => by
    unfold smW at h; unfold smOk
    exact Wf_xp hk h.1 (by omega)
  | m, .rep n b, h => by
    unfold smW at h; unfold smOk
    obtain ⟨h1, m', e, h2⟩ := h
    exact ⟨h1, m', e, smsW_ok hk m' b h2⟩
  | m, .ifS t a b p q, h => by
    unfold smW at h; unfold smOk
    obtain ⟨h1, h2, h3, m', e, h4, h5⟩ := h
    exact ⟨h1, Wf_xp hk h2.1 (by omega), Wf_xp hk h3.1 (by omega), m', e, smsW_ok hk m' p h4, smsW_ok hk m' q h5⟩
theorem smsW_ok {ns ks : List Str} {kk : Str → Prop} (hk : ∀ z ∈ ks, kk z) : ∀ (m : Nat) (l : List Sm), smsW ns ks m l → smsOk kk m l
  | m, [], _ => by unfold smsOk; trivial
  | m, s :: r, h => by
    unfold smsW at h; unfold smsOk
    exact ⟨smW_ok hk m s h.1, smsW_ok hk m r h.2⟩
end
mutual
theorem smOk_mono {kk : Str → Prop} : ∀ (m : Nat) (s : Sm) (m' : Nat), m ≤ m' → smOk kk m s → smOk kk m' s
  | m, .letS z e, m', _, h => by unfold smOk at h ⊢; exact h
  | m, .stop e, m', _, h => by unfold smOk at h ⊢; exact h
  | m, .rep n b, m', hm, h => by
    unfold smOk at h ⊢
    obtain ⟨h1, m1, e, h2⟩ := h
    exact ⟨h1, m' - 1, by omega, smsOk_mono m1 b (m' - 1) (by omega) h2⟩
  | m, .ifS t a b p q, m', hm, h => by
    unfold smOk at h ⊢
    obtain ⟨h1, h2, h3, m1, e, h4, h5⟩ := h
    exact ⟨h1, h2, h3, m' - 1, by omega, smsOk_mono m1 p (m' - 1) (by omega) h4, smsOk_mono m1 q (m' - 1) (by omega) h5⟩
theorem smsOk_mono {kk : Str → Prop} : ∀ (m : Nat) (l : List Sm) (m' : Nat), m ≤ m' → smsOk kk m l → smsOk kk m' l
  | m, [], m', _, _ => by unfold smsOk; trivial
  | m, s :: r, m', hm, h => by
    unfold smsOk at h ⊢
    exact ⟨smOk_mono m s m' hm h.1, smsOk_mono m r m' hm h.2⟩
end
theorem ds_app : ∀ a b : List Sm, Sm.ds (a ++ b) = Sm.ds a ++ Sm.ds b
  | [], b => by unfold Sm.ds; rfl
  | s :: r, b => by
    show s.d :: Sm.ds (r ++ b) = s.d :: (Sm.ds r ++ Sm.ds b)
    rw [ds_app r b]
theorem ds_length : ∀ l : List Sm, (Sm.ds l).length = l.length
  | [] => by unfold Sm.ds; rfl
  | s :: r => by unfold Sm.ds; rw [List.length_cons, List.length_cons, ds_length r]
/-! the bag and the number of statements that are left, in the ledger -/
def pst (L : Led) (p q : Addr) (b : Bag) (m : Nat) : Led := setL (setL L p (bagC b)) q (.lst [.int m])
structure PB (L : Led) (p q : Addr) : Prop where
  ip : inL L p
  iq : inL L q
  ne : p ≠ q
theorem lookup_inL {L : Led} {p : Addr} {d : D} (h : inL L p) : (setL L p d).lookup p = some d := by
  have : ∃ c, L.lookup p = some c := by
    clear d
    induction L with
    | nil => unfold inL at h; simp at h
    | cons z r ih =>
      by_cases e : p = z.1
      · subst e; exact ⟨_, List.lookup_cons_self⟩
      · have hr : inL r p := by
          unfold inL at h ⊢
          rw [List.map_cons] at h
          exact (List.mem_cons.mp h).resolve_left e
        obtain ⟨c, hc⟩ := ih hr
        exact ⟨c, by rw [show z = (z.1, z.2) from rfl, lookup_ne e]; exact hc⟩
  exact lookup_setL this.choose_spec
theorem lookup_set_ne {L : Led} {p q : Addr} {d : D} (h : q ≠ p) : (setL L p d).lookup q = L.lookup q := by
  induction L with
  | nil => rfl
  | cons z r ih =>
    by_cases e : z.1 = p
    · show List.lookup q ((if z.1 = p then (p, d) else z) :: setL r p d) = _
      rw [if_pos e, lookup_ne h, ih, show z = (z.1, z.2) from rfl, lookup_ne (by rw [e]; exact h)]
    · show List.lookup q ((if z.1 = p then (p, d) else z) :: setL r p d) = _
      rw [if_neg e]
      by_cases e2 : q = z.1
      · subst e2; rw [show z = (z.1, z.2) from rfl, List.lookup_cons_self, List.lookup_cons_self]
      · rw [show z = (z.1, z.2) from rfl, lookup_ne e2, lookup_ne e2, ih]
section
variable {L : Led} {p q : Addr} {b b' : Bag} {m m' : Nat}
theorem PB.lp (h : PB L p q) : (pst L p q b m).lookup p = some (bagC b) := by
  unfold pst
  rw [lookup_set_ne h.ne, lookup_inL h.ip]
theorem PB.lq (h : PB L p q) : (pst L p q b m).lookup q = some (.lst [.int m]) := lookup_inL (inL_setL.mpr h.iq)
theorem pst_bag (h : PB L p q) : setL (pst L p q b m) p (bagC b') = pst L p q b' m := by
  unfold pst
  rw [← setL_comm h.ne, setL_setL]
theorem pst_left : setL (pst L p q b m) q (.lst [.int (m' : Int)]) = pst L p q b m' := by
  unfold pst
  rw [setL_setL]
theorem PB.at (h : PB L p q) (ok : BagOk b) : BagAt (pst L p q b m) p b := ⟨h.lp, pst_bag h, ok⟩
theorem PB.cons (h : PB L p q) (f : Addr) (d : D) : PB ((f, d) :: L) p q := ⟨inL_cons.mpr (.inr h.ip), inL_cons.mpr (.inr h.iq), h.ne⟩
theorem pst_cons {f : Addr} {d : D} (h1 : f ≠ p) (h2 : f ≠ q) : pst ((f, d) :: L) p q b m = (f, d) :: pst L p q b m := by
  unfold pst
  rw [setL_ne h1, setL_ne h2]
theorem inL_pst {a : Addr} : inL (pst L p q b m) a ↔ inL L a := by unfold pst; rw [inL_setL, inL_setL]
end
structure NmL (l : List Str) : Prop where
  len : l.length ≤ 100
  ok : ∀ z ∈ l, nameOk z = true
def stG (n : Nat) : DSp := fun ds L k _ => ∃ (p q : Addr) (b : Bag) (m d : Nat) (ns ks : List Str) (L0 : Led), ds = [.ptr p, .lst (ns.map D.str), .lst (ks.map D.str), .int d, .ptr q] ∧ L = pst L0 p q b m ∧ PB L0 p q ∧ BagOk b ∧ d < n ∧ 1 ≤ d ∧ m ≤ 1000 ∧ NmL ns ∧ ns ≠ [] ∧ NmL ks ∧
  ∀ (s : Sm) b' m', smW ns ks (d - 1) s → cntS s + m' = m + 1 → BagOk b' → k s.d (pst L0 p q b' m')
def bkG (n : Nat) : DSp := fun ds L k _ => ∃ (p q : Addr) (b : Bag) (m d : Nat) (ns ks : List Str) (L0 : Led), ds = [.ptr p, .lst (ns.map D.str), .lst (ks.map D.str), .int d, .ptr q] ∧ L = pst L0 p q b m ∧ PB L0 p q ∧ BagOk b ∧ d < n ∧ 1 ≤ d ∧ m ≤ 1000 ∧ NmL ns ∧ ns ≠ [] ∧ NmL ks ∧
  ∀ (l : List Sm) b' m', smsW ns ks (d - 1) l → cntB l + m' = m → BagOk b' → k (.tup (Sm.ds l)) (pst L0 p q b' m')
def prG : DSp := fun ds L k _ => ∃ (p : Addr) (b : Bag) (m : Nat) (ns ks : List Str), ds = [.ptr p, .lst (ns.map D.str), .lst (ks.map D.str), .int m] ∧ BagAt L p b ∧ m ≤ 1000 ∧ NmL ns ∧ ns ≠ [] ∧ NmL ks ∧
  ∀ (l : List Sm) b', smsW ns ks 3 l → cntB l ≤ m → BagOk b' → k (.tup (Sm.ds l)) (setL L p (bagC b'))
/-- before what the def made for itself is left out -/
def prR : DSp := fun ds L k _ => ∃ (p : Addr) (b : Bag) (m : Nat) (ns ks : List Str), ds = [.ptr p, .lst (ns.map D.str), .lst (ks.map D.str), .int m] ∧ BagAt L p b ∧ m ≤ 1000 ∧ NmL ns ∧ ns ≠ [] ∧ NmL ks ∧
  ∀ (l : List Sm) b' q m', ¬ inL L q → smsW ns ks 3 l → cntB l ≤ m → BagOk b' → k (.tup (Sm.ds l)) ((q, .lst [.int (m' : Int)]) :: setL L p (bagC b'))
theorem pr_tidy {P : Program} {w : World} {K : PySem.W.Frag} {mg : Str → Option Value} {base : Heap} {n : Nat} {f : Addr} {fd : FuncData} {ps : List Str} (F : FnOk P w K mg base (L2.CX P w) n f fd ps (spD K prR)) : FnOk P w K mg base (L2.CX P w) n f fd ps (spD K prG) := by
  have G := fn_tidy F
  have key : ∀ vs H Q E, spD K prG vs H Q E → spD K (tidyS prR) vs H Q E := fun vs H Q E q => by
    obtain ⟨ds, L, k, x, j, r, ⟨p, b, m, ns, ks, e, hb, hm, h1, h2, h3, h⟩, hk, hx⟩ := q
    refine ⟨ds, L, k, x, j, r, ⟨p, b, m, ns, ks, e, hb, hm, h1, h2, h3, fun l b' q m' hq w1 w2 ok => ?_⟩, hk, hx⟩
    show k _ (keepL L _)
    rw [keep_out hq, keep_same (setL_keys _ _ _)]
    exact h l b' w1 w2 ok
  exact ⟨fun vs H Q E q => G.len vs H Q E (key vs H Q E q), fun A outer s H args us vs Q E hr e0 hb hv q => G.run A outer s H args us vs Q E hr e0 hb hv (key vs H Q E q)⟩
end DL

namespace DL
open PySem L2
/-! ### which names a run may end with -/
section
variable {U : Str → Prop}
def HU (U : Str → Prop) : EE → Prop
  | .unset z => U z
  | _ => True
def RU (U : Str → Prop) : R1 → Prop
  | .ok _ => True
  | .halt e => HU U e
def BU (U : Str → Prop) : BR → Prop
  | .halt e => HU U e
  | .done _ => True
def ExU (U : Str → Prop) : Ex → Prop
  | .nm z => U z
  | .call _ a b => ExU U a ∧ ExU U b
  | .bin _ a b => ExU U a ∧ ExU U b
  | _ => True
mutual
def smU (U : Str → Prop) : Sm → Prop
  | .letS _ e => ExU U e
  | .stop e => ExU U e
  | .rep _ b => smsU U b
  | .ifS _ a b p q => ExU U a ∧ ExU U b ∧ smsU U p ∧ smsU U q
def smsU (U : Str → Prop) : List Sm → Prop
  | [] => True
  | s :: r => smU U s ∧ smsU U r
end
def FU (U : Str → Prop) (F : FUN) : Prop := ∀ f x y s, RU U (F f x y s).1
theorem evalE_u {F : FUN} {nm : NMS} {x y : VAL} (hF : FU U F) : ∀ (e : Ex) (s : RSt), ExU U e → RU U (evalE F nm x y e s).1
  | .num i, s, _ => trivial
  | .lx, s, _ => trivial
  | .ly, s, _ => trivial
  | .nm z, s, h => by
    unfold evalE
    cases nm.lookup z with
    | none => exact h
    | some v => exact trivial
  | .call f a b, s, h => by
    have ha := evalE_u (nm := nm) (x := x) (y := y) hF a s h.1
    unfold evalE
    rcases eq0 : evalE F nm x y a s with ⟨r1, s1⟩
    rw [eq0] at ha
    cases r1 with
    | halt e => exact ha
    | ok v =>
      have hb := evalE_u (nm := nm) (x := x) (y := y) hF b s1 h.2
      dsimp only
      rcases eq0 : evalE F nm x y b s1 with ⟨r2, s2⟩
      rw [eq0] at hb
      cases r2 with
      | halt e => exact hb
      | ok w => exact hF f v w s2
  | .bin o a b, s, h => by
    have ha := evalE_u (nm := nm) (x := x) (y := y) hF a s h.1
    unfold evalE
    rcases eq0 : evalE F nm x y a s with ⟨r1, s1⟩
    rw [eq0] at ha
    cases r1 with
    | halt e => exact ha
    | ok v =>
      have hb := evalE_u (nm := nm) (x := x) (y := y) hF b s1 h.2
      dsimp only
      rcases eq0 : evalE F nm x y b s1 with ⟨r2, s2⟩
      rw [eq0] at hb
      cases r2 with
      | halt e => exact hb
      | ok w =>
        dsimp only
        by_cases h1 : 10 < v.2 + w.2
        · rw [if_pos h1]; trivial
        · rw [if_neg h1]
          by_cases h2 : o = "div" ∧ w.1.1 = 0
          · rw [if_pos h2]; trivial
          · rw [if_neg h2]; trivial
theorem repM_u {body : NMS → RSt → BR × NMS × RSt} (hb : ∀ nm s, BU U (body nm s).1) : ∀ (n : Nat) (nm : NMS) (s : RSt), BU U (repM body n nm s).1
  | 0, nm, s => trivial
  | n + 1, nm, s => by
    have h := hb nm s
    unfold repM
    rcases eq0 : body nm s with ⟨b, nm1, s1⟩
    rw [eq0] at h
    cases b with
    | halt e => exact h
    | done o =>
      cases o with
      | none => exact repM_u hb n nm1 s1
      | some v => exact trivial
mutual
theorem stmM_u {F : FUN} {x y : VAL} (hF : FU U F) : ∀ (st : Sm) (nm : NMS) (s : RSt), smU U st → BU U (stmM F x y st nm s).1
  | .letS z e, nm, s, h => by
    have g := evalE_u (nm := nm) (x := x) (y := y) hF e s (by unfold smU at h; exact h)
    unfold stmM
    rcases eq0 : evalE F nm x y e s with ⟨r, s1⟩
    rw [eq0] at g
    cases r with
    | halt e => exact g
    | ok v => exact trivial
  | .stop e, nm, s, h => by
    have g := evalE_u (nm := nm) (x := x) (y := y) hF e s (by unfold smU at h; exact h)
    unfold stmM
    rcases eq0 : evalE F nm x y e s with ⟨r, s1⟩
    rw [eq0] at g
    cases r with
    | halt e => exact g
    | ok v => exact trivial
  | .rep n b, nm, s, h => by
    unfold stmM
    exact repM_u (fun nm s => blkM_u hF b nm s (by unfold smU at h; exact h)) n nm s
  | .ifS t a b p q, nm, s, h => by
    obtain ⟨h1, h2, h3, h4⟩ : ExU U a ∧ ExU U b ∧ smsU U p ∧ smsU U q := by unfold smU at h; exact h
    have ga := evalE_u (nm := nm) (x := x) (y := y) hF a s h1
    unfold stmM
    rcases eq0 : evalE F nm x y a s with ⟨r, s1⟩
    rw [eq0] at ga
    cases r with
    | halt e => exact ga
    | ok v =>
      have gb := evalE_u (nm := nm) (x := x) (y := y) hF b s1 h2
      dsimp only
      rcases eq0 : evalE F nm x y b s1 with ⟨r, s2⟩
      rw [eq0] at gb
      cases r with
      | halt e => exact gb
      | ok w =>
        dsimp only
        by_cases h1 : 10 < v.2 + w.2
        · rw [if_pos h1]; trivial
        · rw [if_neg h1]
          cases takes t (orderR v.1 w.1) with
          | true => exact blkM_u hF p nm _ h3
          | false => exact blkM_u hF q nm _ h4
theorem blkM_u {F : FUN} {x y : VAL} (hF : FU U F) : ∀ (l : List Sm) (nm : NMS) (s : RSt), smsU U l → BU U (blkM F x y l nm s).1
  | [], nm, s, _ => by unfold blkM; trivial
  | st :: r, nm, s, h => by
    have h : smU U st ∧ smsU U r := by unfold smsU at h; exact h
    unfold blkM
    by_cases h60 : s.steps = 60
    · rw [if_pos h60]; trivial
    · rw [if_neg h60]
      have g := stmM_u (x := x) (y := y) hF st nm ⟨s.outs, s.steps + 1⟩ h.1
      rcases eq0 : stmM F x y st nm ⟨s.outs, s.steps + 1⟩ with ⟨b, nm1, s1⟩
      rw [eq0] at g
      cases b with
      | halt e => exact g
      | done o =>
        cases o with
        | none => exact blkM_u hF r nm1 s1 h.2
        | some v => exact trivial
end
theorem execM_u {F : FUN} (hF : FU U F) {p : List Sm} (hp : smsU U p) (x y : VAL) (s : RSt) : RU U (execM F p x y s).1 := by
  have g := blkM_u (x := x) (y := y) hF p [] s hp
  unfold execM
  rcases eq0 : blkM F x y p [] s with ⟨b, nm1, s1⟩
  rw [eq0] at g
  cases b with
  | halt e => exact g
  | done o => cases o <;> exact trivial
theorem funM_u {tab : TAB} (ht : ∀ p ∈ tab, smsU U p.2) : ∀ n, FU U (funM tab n)
  | 0 => fun f x y s => trivial
  | n + 1 => fun f x y s => by
    unfold funM
    cases e : tab.lookup f with
    | none => exact trivial
    | some p =>
      refine execM_u (funM_u ht n) ?_ x y s
      have : ∀ tab : TAB, (∀ p ∈ tab, smsU U p.2) → tab.lookup f = some p → smsU U p := fun tab => by
        induction tab with
        | nil => intro _ h; cases h
        | cons z r ih =>
          intro h e
          by_cases q : f = z.1
          · rw [show z = (z.1, z.2) from rfl, q, List.lookup_cons_self] at e
            cases e
            exact h z List.mem_cons_self
          · rw [show z = (z.1, z.2) from rfl, List.lookup_cons, show (f == z.1) = false from by simpa using q] at e
            exact ih (fun p hp => h p (List.mem_cons_of_mem _ hp)) e
      exact this tab ht e
theorem Wf_u {ns ks : List Str} (hn : ∀ z ∈ ns, U z) {e : Ex} (h : e.Wf ns ks) : ExU U e := by
  induction h with
  | num _ _ => trivial
  | lx => trivial
  | ly => trivial
  | nm hz => exact hn _ hz
  | call _ _ _ ha hb => exact ⟨ha, hb⟩
  | bin _ _ _ ha hb => exact ⟨ha, hb⟩
mutual
theorem smW_u {ns ks : List Str} (hn : ∀ z ∈ ns, U z) : ∀ (m : Nat) (s : Sm), smW ns ks m s → smU U s
  | m, .letS z e, h => by
    unfold smW at h; unfold smU
    exact Wf_u hn h.2.1
  | m, .stop e, h => by
    unfold smW at h; unfold smU
    exact Wf_u hn h.1
  | m, .rep n b, h => by
    unfold smW at h; unfold smU
    obtain ⟨h1, m', e, h2⟩ := h
    exact smsW_u hn m' b h2
  | m, .ifS t a b p q, h => by
    unfold smW at h; unfold smU
    obtain ⟨h1, h2, h3, m', e, h4, h5⟩ := h
    exact ⟨Wf_u hn h2.1, Wf_u hn h3.1, smsW_u hn m' p h4, smsW_u hn m' q h5⟩
theorem smsW_u {ns ks : List Str} (hn : ∀ z ∈ ns, U z) : ∀ (m : Nat) (l : List Sm), smsW ns ks m l → smsU U l
  | m, [], _ => by unfold smsU; trivial
  | m, s :: r, h => by
    unfold smsW at h; unfold smsU
    exact ⟨smW_u hn m s h.1, smsW_u hn m r h.2⟩
end
end
end DL

namespace DL
open PySem L2 TL NumText
/-! ### texts of ratios, as lists of signs -/
def figs : Str := "0123456789"
def allFig (l : List Nat) : Bool := l.all fun c => decide (c ∈ figs.cps.toList)
theorem figs_mem {c : Nat} : c ∈ figs.cps.toList ↔ 48 ≤ c ∧ c ≤ 57 := by
  have e : figs.cps.toList = [48, 49, 50, 51, 52, 53, 54, 55, 56, 57] := by decide +kernel
  rw [e]
  simp only [List.mem_cons, List.not_mem_nil, or_false]
  omega
theorem allFig_iff {l : List Nat} : allFig l = true ↔ AllDigits l := by
  unfold allFig AllDigits
  rw [List.all_eq_true]
  exact ⟨fun h c hc => figs_mem.mp (of_decide_eq_true (h c hc)), fun h c hc => decide_eq_true (figs_mem.mpr (h c hc))⟩
/-- a number of at most 30 signs without leading zeros -/
def digOk (l : List Nat) : Bool := decide (1 ≤ l.length) && (decide (l.length ≤ 30) && (allFig l && (decide (l = [48]) || decide (l.head? ≠ some 48))))
structure DigOk (l : List Nat) : Prop where
  ne : l ≠ []
  len : l.length ≤ 30
  dig : AllDigits l
  lead : l = [48] ∨ l.head? ≠ some 48
theorem digOk_iff {l : List Nat} : digOk l = true ↔ DigOk l := by
  unfold digOk
  simp only [Bool.and_eq_true, Bool.or_eq_true, decide_eq_true_eq, allFig_iff]
  constructor
  · rintro ⟨h1, h2, h3, h4⟩
    exact ⟨fun e => by rw [e] at h1; exact absurd h1 (by decide), h2, h3, h4⟩
  · rintro ⟨h1, h2, h3, h4⟩
    refine ⟨?_, h2, h3, h4⟩
    cases l with
    | nil => exact absurd rfl h1
    | cons _ _ => exact Nat.succ_le_succ (Nat.zero_le _)
def figuresOf : List Nat → List Nat
  | 45 :: cs => cs
  | l => l
def topVal : List Nat → Int
  | 45 :: cs => -((digitsVal cs : Nat) : Int)
  | l => ((digitsVal l : Nat) : Int)
def lowB (t u : Int) : Bool := decide (0 < u) && decide (gcdI t u = 1)
def botVal : Option (List Nat) → Int
  | none => 1
  | some b => ((digitsVal b : Nat) : Int)
def botOk : Option (List Nat) → Bool
  | none => true
  | some b => digOk b
/-- what stands ahead of the first stroke, what stands behind it -/
def readP (a : List Nat) (b : Option (List Nat)) : Option (Int × Int) :=
  match digOk (figuresOf a) && (!decide (a = [45, 48]) && botOk b) with
  | false => none
  | true => match lowB (topVal a) (botVal b) && !(b.isSome && decide (botVal b = 1)) with
    | true => some (topVal a, botVal b)
    | false => none
def readM (l : List Nat) : Option (Int × Int) := match par [47] [] l with
  | none => readP l none
  | some (a, b) => readP a (some b)
/-- the signs of an int -/
def intL (i : Int) : List Nat := if i < 0 then 45 :: numL i.natAbs else numL i.natAbs
theorem tl_int (i : Int) : tl (Str.ofString (toString i)) = intL i := by
  unfold intL
  cases i with
  | ofNat n =>
    rw [if_neg (by show ¬ (Int.ofNat n < 0); exact Int.not_lt.mpr (Int.natCast_nonneg n))]
    exact tl_num n
  | negSucc n =>
    rw [if_pos (Int.negSucc_lt_zero n)]
    have e : toString (Int.negSucc n) = "-" ++ toString ((n + 1 : Nat) : Int) := rfl
    rw [e, tl_ofString, String.toList_append, List.map_append]
    show 45 :: ((toString ((n + 1 : Nat) : Int)).toList.map Char.toNat) = _
    rw [← tl_ofString, tl_num]
    rfl
theorem numL_lead : ∀ n : Nat, numL n = [48] ∨ (numL n).head? ≠ some 48 := by
  intro n
  induction n using Nat.strongRecOn with
  | _ n ih =>
    by_cases h : n < 10
    · rw [numL_lt h]
      by_cases h0 : n = 0
      · subst h0; exact .inl rfl
      · refine .inr ?_
        show some (48 + n) ≠ some 48
        intro e
        injection e with e
        omega
    · rw [numL_step (by omega)]
      refine .inr ?_
      have ne := numL_ne (n / 10)
      cases hl : numL (n / 10) with
      | nil => exact absurd hl ne
      | cons c r =>
        show some c ≠ some 48
        rcases ih (n / 10) (by omega) with e | e
        · have v := numL_val (n / 10)
          rw [e] at v
          have v : 0 = n / 10 := v
          omega
        · rw [hl] at e
          exact e
theorem numL_ok {n : Nat} (h : n < 10 ^ 30) : DigOk (numL n) := ⟨numL_ne n, numL_len (by decide) h, numL_digits n, numL_lead n⟩
theorem numL_head {n : Nat} : ∀ c r, numL n = c :: r → c ≠ 45 := fun c r e h => by
  have := numL_digits n c (by rw [e]; exact List.mem_cons_self)
  omega
theorem figures_int (i : Int) : figuresOf (intL i) = numL i.natAbs := by
  unfold intL
  split
  · rfl
  · cases h : numL i.natAbs with
    | nil => exact absurd h (numL_ne _)
    | cons c r =>
      have hc := numL_head c r h
      unfold figuresOf
      split
      · rename_i e; injection e with e; exact absurd e hc
      · rfl
theorem top_int (i : Int) : topVal (intL i) = i := by
  unfold intL
  split
  · show -((digitsVal (numL i.natAbs) : Nat) : Int) = i
    rw [numL_val]
    omega
  · cases h : numL i.natAbs with
    | nil => exact absurd h (numL_ne _)
    | cons c r =>
      have hc := numL_head c r h
      unfold topVal
      split
      · rename_i e; injection e with e; exact absurd e hc
      · rw [← h, numL_val]
        omega
theorem int_not {i : Int} : intL i ≠ [45, 48] := fun e => by
  have v := top_int i
  have f := figures_int i
  rw [e] at v f
  have v : (0 : Int) = i := by rw [← v]; decide
  subst v
  have : intL 0 = [48] := by decide +kernel
  rw [this] at e
  cases e
theorem stroke_free {i : Int} : 47 ∉ intL i := by
  unfold intL
  split
  · intro h
    rcases List.mem_cons.mp h with h | h
    · cases h
    · exact numL_free (.inl (by decide)) h
  · exact numL_free (.inl (by decide))
def textL (t u : Int) : List Nat := if u = 1 then intL t else intL t ++ (47 :: intL u)
theorem read_back {t u : Int} (h : Low t u) (ht : t.natAbs < 10 ^ 30) (hu : u.natAbs < 10 ^ 30) : readM (textL t u) = some (t, u) := by
  have gl : lowB t u = true := by unfold lowB; rw [decide_eq_true h.pos, decide_eq_true h.one]; rfl
  have f1 : digOk (figuresOf (intL t)) = true := by rw [figures_int]; exact digOk_iff.mpr (numL_ok ht)
  unfold textL readM
  by_cases e : u = 1
  · subst e
    rw [if_pos rfl, par_none1 stroke_free]
    show readP (intL t) none = _
    unfold readP
    rw [f1, decide_eq_false int_not]
    show (match true && (!false && true) with | false => none | true => match lowB (topVal (intL t)) 1 && !(false && decide ((1 : Int) = 1)) with | true => some (topVal (intL t), (1 : Int)) | false => none) = _
    rw [top_int, gl]
    rfl
  · rw [if_neg e, show intL t ++ 47 :: intL u = intL t ++ ([47] ++ intL u) from rfl, par_part1 stroke_free, List.nil_append]
    show readP (intL t) (some (intL u)) = _
    have iu : intL u = numL u.natAbs := by unfold intL; rw [if_neg (Int.not_lt.mpr (Int.le_of_lt h.pos))]
    have f2 : digOk (intL u) = true := by rw [iu]; exact digOk_iff.mpr (numL_ok hu)
    have vu : ((digitsVal (intL u) : Nat) : Int) = u := by rw [iu, numL_val]; have := h.pos; omega
    unfold readP
    rw [f1, decide_eq_false int_not]
    show (match true && (!false && digOk (intL u)) with | false => none | true => match lowB (topVal (intL t)) ((digitsVal (intL u) : Nat) : Int) && !(true && decide (((digitsVal (intL u) : Nat) : Int) = 1)) with | true => some (topVal (intL t), ((digitsVal (intL u) : Nat) : Int)) | false => none) = _
    rw [f2, top_int, vu, gl, decide_eq_false e]
    rfl
theorem figures_len (l : List Nat) : (figuresOf l).length ≤ l.length ∧ l.length ≤ (figuresOf l).length + 1 := by
  unfold figuresOf
  split
  · rw [List.length_cons]; omega
  · omega
theorem int_bot {z : Str} (h : digOk (tl z) = true) : intText? z = some ((digitsVal (tl z) : Nat) : Int) ∧ z.length ≤ 640 := by
  have h := digOk_iff.mp h
  have hl : z.length ≤ 30 := by rw [len_tl]; exact h.len
  exact ⟨intText_digits h.dig h.ne (by omega), by omega⟩
theorem int_top {z : Str} (h : digOk (figuresOf (tl z)) = true) : intText? z = some (topVal (tl z)) ∧ z.length ≤ 640 := by
  have h := digOk_iff.mp h
  have hf := figures_len (tl z)
  have hl : z.length ≤ 31 := by rw [len_tl]; have := h.len; omega
  refine ⟨?_, by omega⟩
  by_cases e : ∃ cs, tl z = 45 :: cs
  · obtain ⟨cs, e⟩ := e
    rw [e] at h ⊢
    exact intText_neg e h.dig h.ne (by omega)
  · have e1 : figuresOf (tl z) = tl z := by
      unfold figuresOf
      split
      · rename_i cs q; exact absurd ⟨cs, q⟩ e
      · rfl
    have e2 : topVal (tl z) = ((digitsVal (tl z) : Nat) : Int) := by
      unfold topVal
      split
      · rename_i cs q; exact absurd ⟨cs, q⟩ e
      · rfl
    rw [e1] at h
    rw [e2]
    exact intText_digits h.dig h.ne (by omega)
theorem pre_minus (l : List Nat) : pre [45] l = true ↔ ∃ cs, l = 45 :: cs := by
  constructor
  · intro h
    cases l with
    | nil => exact absurd h (by decide)
    | cons c r =>
      have e : [c] = [45] := eq_of_beq h
      injection e with e
      subst e
      exact ⟨r, rfl⟩
  · rintro ⟨cs, rfl⟩
    exact pre_self [45] cs
/-- where the first stroke parts a text -/
theorem part_at (z : Str) : ∃ top stroke bottom : Str, Txt.partition z "/" = (top, stroke, bottom) ∧ top.length ≤ z.length ∧ bottom.length ≤ z.length ∧ ((stroke = "" ∧ par [47] [] (tl z) = none ∧ tl top = tl z) ∨ (stroke = "/" ∧ par [47] [] (tl z) = some (tl top, tl bottom))) := by
  have hs : tl ("/" : Str) = [47] := by decide +kernel
  have h := partition_par z "/" (by rw [hs]; simp)
  rw [hs] at h
  cases hp : par [47] [] (tl z) with
  | none =>
    rw [hp] at h
    exact ⟨z, "", "", h, Nat.le_refl _, Nat.zero_le _, .inl ⟨rfl, rfl, rfl⟩⟩
  | some ab =>
    obtain ⟨a, b⟩ := ab
    rw [hp] at h
    have le : ∀ (l acc a b : List Nat), par [47] acc l = some (a, b) → a.length + b.length ≤ acc.length + l.length := by
      intro l
      induction l with
      | nil => intro acc a b h; cases h
      | cons c r ih =>
        intro acc a b h
        by_cases hc : pre [47] (c :: r) = true
        · rw [par_hit hc] at h
          cases h
          show acc.length + r.length ≤ acc.length + (r.length + 1)
          omega
        · rw [par_miss (Bool.eq_false_iff.mpr hc)] at h
          have := ih _ _ _ h
          rw [List.length_append, List.length_singleton] at this
          rw [List.length_cons]
          omega
    have l1 := le _ _ _ _ hp
    rw [List.length_nil] at l1
    refine ⟨⟨a.toArray⟩, "/", ⟨b.toArray⟩, h, ?_, ?_, .inr ⟨rfl, rfl⟩⟩
    · rw [len_tl, len_tl, tl_mk]; omega
    · rw [len_tl, len_tl, tl_mk]; omega
end DL

/-! # The head by facts: what the top leaves, asked by Bools -/
namespace DH
open PySem PySem.Spec PyProof.Rows L2 DL
section
variable {fa : List He.Fa} {fn : List He.DefD} {K : Frag}
/-- a def without defaults -/
theorem defN (c : He.SaysD fa fn K) (i : Nat) {d : He.DefD} (h : fn[i]? = some d) (h0 : d.dfl = []) : ∃ oc od osl kV doc pm an cdv ct, K.lookup (He.fAd K d.at_) = some ⟨oc, od, .func (PySem.W.fnOf d.name d.qual d.params d.body d.scope .none kV doc pm an cdv ct), osl⟩ ∧ PySem.W.codeIn K cdv d.qual = true ∧ PySem.W.keepIn K (.ref (He.fAd K d.at_)) = true := by
  obtain ⟨fd, F⟩ := c.def_ i h
  obtain ⟨⟨oc, od, dV, kV, doc, pm, an, cdv, ct, osl, rfl, lk, hc, hd, hk⟩, kp⟩ := F
  have e : d.dvs K = [] := by unfold He.DefD.dvs; rw [h0]; rfl
  rw [e] at hd
  rcases hd with ⟨_, rfl⟩ | ⟨hne, _⟩
  · exact ⟨oc, od, osl, kV, doc, pm, an, cdv, ct, lk, hc, kp⟩
  · exact absurd rfl hne
/-- a def with one keyword-only default -/
theorem defK (c : He.SaysD fa fn K) (i : Nat) {d : He.DefD} (h : fn[i]? = some d) (h0 : d.dfl = []) {x : Str} {v : He.Dv} (h1 : d.kwd = [(x, v)]) : ∃ oc od osl D doc pm an cdv ct u, K.lookup (He.fAd K d.at_) = some ⟨oc, od, .func (PySem.W.fnOf d.name d.qual d.params d.body d.scope .none (.ref D) doc pm an cdv ct), osl⟩ ∧ PySem.W.codeIn K cdv d.qual = true ∧ PySem.W.keepIn K (.ref (He.fAd K d.at_)) = true ∧ PySem.W.nsIn K D x = some (some u) ∧ RelV (v.v K) u := by
  obtain ⟨fd, F⟩ := c.def_ i h
  obtain ⟨⟨oc, od, dV, kV, doc, pm, an, cdv, ct, osl, rfl, lk, hc, hd, hk⟩, kp⟩ := F
  have e : d.dvs K = [] := by unfold He.DefD.dvs; rw [h0]; rfl
  have e2 : d.kws K = [(x, v.v K)] := by unfold He.DefD.kws; rw [h1]; rfl
  rw [e] at hd
  rw [e2] at hk
  rcases hd with ⟨_, rfl⟩ | ⟨hne, _⟩
  · rcases hk with hk | ⟨D, rfl, hk⟩
    · cases hk
    · obtain ⟨u, h2, h3⟩ := hk (x, v.v K) (List.mem_singleton.mpr rfl)
      exact ⟨oc, od, osl, D, doc, pm, an, cdv, ct, u, lk, hc, kp, h2, h3⟩
  · exact absurd rfl hne
end
/-! ### constants of the top -/
/-- a tuple of flat values -/
def dvD : He.Dv → Option D
  | .non => some .non
  | .bl b => some (.bl b)
  | .int i => some (.int i)
  | .str x => some (.str x)
  | _ => none
def dvDs : List He.Dv → Option (List D)
  | [] => some []
  | v :: r => match dvD v, dvDs r with
    | some d, some ds => some (d :: ds)
    | _, _ => none
theorem dvD_rp {K : Frag} {v : He.Dv} {d : D} (h : dvD v = some d) : ∀ L H, Rp L K H (v.v K) d := by
  intro L H
  cases v with
  | non => cases h; exact .non
  | bl b => cases h; exact .bl b
  | int i => cases h; exact .int i
  | str x => cases h; exact .str x
  | _ => cases h
theorem dvDs_rp {K : Frag} : ∀ {vs : List He.Dv} {ds : List D}, dvDs vs = some ds → ∀ L H, RpAll L K H (vs.map (He.Dv.v K)) ds
  | [], _, h, _, _ => by cases h; exact .nil
  | v :: r, ds, h, L, H => by
    unfold dvDs at h
    split at h
    · rename_i d es h1 h2
      cases h
      exact .cons (dvD_rp h1 L H) (dvDs_rp h2 L H)
    · cases h
theorem tup_rp {K : Frag} {x : Str} {vs : List He.Dv} {ds : List D} (h : He.tupB K x vs = true) (hd : dvDs vs = some ds) : ∀ L H, Rp L K H (.ref (He.ga K x)) (.tup ds) := by
  intro L H
  have s := He.tupB_ok h (fun _ => none)
  rcases s with s | s
  · rcases s with s | ⟨o, s⟩ <;> cases s
  · exact .tup (.inr s) (dvDs_rp hd L H)
def kvsD : List (Str × He.Dv) → Option (List (Str × D))
  | [] => some []
  | q :: r => match dvD q.2, kvsD r with
    | some d, some ds => some ((q.1, d) :: ds)
    | _, _ => none
theorem entB_ok {K : Frag} : ∀ {kvs : List (Str × He.Dv)} {es : List DictEntry} {ds : List (Str × D)}, entB K kvs es = true → kvsD kvs = some ds → EntsOk K ds es
  | [], [], _, _, h => by cases h; exact .nil
  | [], _ :: _, _, h, _ => by cases h
  | _ :: _, [], _, h, _ => by cases h
  | q :: qs, e :: es, ds, h, hd => by
    unfold kvsD at hd
    split at hd
    · rename_i d ds' h1 h2
      cases hd
      have h : ((match e.key with
        | .str y _ => decide (y = q.1)
        | _ => false) && (He.relB (q.2.v K) e.val && entB K qs es)) = true := h
      obtain ⟨k1, k2⟩ := He.ba h
      obtain ⟨k3, k4⟩ := He.ba k2
      split at k1
      · rename_i y t hk
        exact .cons (by rw [hk, of_decide_eq_true k1]) (He.relB_ok k3) (dvD_rp h1) (entB_ok k4 h2)
      · cases k1
    · cases hd
theorem dic_ok {K : Frag} {w : World} {a : Addr} {kvs : List (Str × He.Dv)} {ds : List (Str × D)} (c : ∃ es n, KDict K w a es n) (h : dicB K a kvs = true) (hd : kvsD kvs = some ds) : KDc K w a ds := by
  obtain ⟨es, n, D'⟩ := c
  refine ⟨es, n, D', ?_⟩
  unfold dicB at h
  rw [D'.at_] at h
  exact entB_ok h hd
/-- a law without lambdas -/
theorem law0 {l : PySem.W.OpenLaw} {w : World} {K : Frag} {CX : CXT} {k n : Nat} {x : Str} {mg : Str → Option Value} {fa : Addr} {h : Heap} {lawS : DSp}
    (A : ∃ fd : FuncData, (∀ (s : Shared) (v : Value), BindsTo s fd ⟨[v], []⟩ [(x, v)]) ∧ ∀ base : Heap, K.In base → base.Ns mainGlobals mg → FnOk l.prog w K mg base CX k fa fd [x] (spD K lawS))
    (hL : ∀ (ns : List Int), lawS [.ro (ns.map .int)] [] (fun d _ => d = .bl true) fun _ _ => False) : LamX.LawAtS l w K CX k n x mg fa h := by
  obtain ⟨fd, hb, hF⟩ := A
  refine ⟨fd, [], spD K lawS, (fun p hp => nomatch hp), (fun p hp => nomatch hp), (fun p hp => nomatch hp), hb, fun H a ns hlen _ hT hS => ?_, fun base b1 b2 _ => hF base b1 b2⟩
  refine ⟨[.ro (ns.map .int)], [], fun d _ => d = .bl true, fun _ _ => False, ⟨List.nodup_nil, fun a d m => absurd m (by simp)⟩, .cons (.ro ?_ (RpAll.ints ns)) .nil, hL ns, fun d L' v H' hd _ _ r => ?_, fun n L' a H' h => h.elim⟩
  · rcases hS with h | h
    · exact .inl ⟨by simp [inL], h⟩
    · exact .inr h
  · subst hd
    cases r
    rfl
end DH

namespace T27
open PySem L2 DL
structure Zn (w : World) (K : PySem.W.Frag) (mg : Str → Option Value) (pS cP cR cH : Addr) : Prop where
  z_isinstance : mg "isinstance" = none
  z_int : mg "int" = none
  z_bool : mg "bool" = none
  z_str : mg "str" = none
  z_list : mg "list" = none
  z_tuple : mg "tuple" = none
  z_len : mg "len" = none
  z_abs : mg "abs" = none
  z_all : mg "all" = none
  z_range : mg "range" = none
  z_zip : mg "zip" = none
  z_dict : mg "dict" = none
  g_gcd : mg "gcd" = some (.builtin "math.gcd")
  g_MOST_WEIGHT : GlbD K mg "MOST_WEIGHT" (.int 10)
  g_MOST_STEPS : GlbD K mg "MOST_STEPS" (.int 60)
  g_SIGNS : GlbD K mg "SIGNS" (.ptr pS)
  d_SIGNS : KDc K w pS signsT
  c_P : Cls K cP
  c_R : Cls K cR
  n_R : ∀ f ∈ fldsR, NoAttr K cR f
  h_end : FldOk K cH "end"
section
variable {P : Program} {w : World} {K : PySem.W.Frag} {mg : Str → Option Value} {base : Heap} {pS cP cR cH : Addr}
local macro_rules | `(tactic| walk_at "w") => `(tactic| conv => whnf)
local macro_rules | `(tactic| walk_at "v") => `(tactic| ((conv => whnf); try dsimp only))
local macro_rules | `(tactic| walk_at "s") => `(tactic| ((conv => whnf); repeat ((first | refine ⟨sz_ok rfl, ?_⟩ | refine ⟨rfl, ?_⟩); conv => whnf)))

def lowestS : DSp := fun ds L k _ => ∃ t u : Int, ds = [.int t, .int u] ∧ u ≠ 0 ∧ u.natAbs < 2 ^ 1990 ∧ k (rtD (lowI t u)) L
def sm (z : Int) : Prop := z.natAbs < 2 ^ 640
theorem sm.mul {a b : Int} (h : sm a) (h2 : sm b) : MulOk a b := .inr (wide_mul h h2 (by decide) (by decide) (by decide))
theorem sm.b1 {a b c d : Int} (ha : sm a) (hb : sm b) (hc : sm c) (hd : sm d) : (a * b + c * d).natAbs < 2 ^ 1990 ∧ (a * b - c * d).natAbs < 2 ^ 1990 ∧ (a * b).natAbs < 2 ^ 1990 := by
  have h1 := mul_lt (show a.natAbs < 2 ^ 640 from ha) (show b.natAbs < 2 ^ 640 from hb)
  have h2 := mul_lt (show c.natAbs < 2 ^ 640 from hc) (show d.natAbs < 2 ^ 640 from hd)
  have h3 : 2 ^ (640 + 640) + 2 ^ (640 + 640) < 2 ^ 1990 := by decide +kernel
  refine ⟨?_, ?_, ?_⟩ <;> omega
def opS (f : Int × Int → Int × Int → Int × Int) (z : Int × Int → Prop) : DSp := fun ds L k _ => ∃ a b : Int × Int, ds = [rtD a, rtD b] ∧ a.2 ≠ 0 ∧ b.2 ≠ 0 ∧ z b ∧ sm a.1 ∧ sm a.2 ∧ sm b.1 ∧ sm b.2 ∧ k (rtD (f a b)) L
def signS : DSp := fun ds L k _ => ∃ z : Int, ds = [.int z] ∧ k (.int (sgI z)) L
def orderS : DSp := fun ds L k _ => ∃ a b : Int × Int, ds = [rtD a, rtD b] ∧ sm a.1 ∧ sm a.2 ∧ sm b.1 ∧ sm b.2 ∧ k (.int (orderR a b)) L
theorem scLowest : FnScope ["top", "bottom", "divisor"] ["top", "bottom"] (defScope sLowest) := ⟨rfl, rfl, rfl, by decide +kernel, rfl, by decide +kernel, by decide +kernel⟩
theorem ok_Lowest {f : Addr} {fd : FuncData} (Z : Zn w K mg pS cP cR cH) (F : Fun K "lowest" "lowest" sLowest f fd) : FnOk P w K mg base (L2.CX P w) 1 f fd ["top", "bottom"] (spD K lowestS) := by
  refine fn_ok F scLowest ?len (fun cdv A outer s H E hr => ?_)
  rotate_left
  · have tk := takes_of (X := cxOf (L2.CX P w) P w K mg base ["top", "bottom", "divisor"] "lowest" (defScope sLowest) f cdv A outer s H E) (E := E) rfl rfl rfl rfl
    have hp := passes_of (X := cxOf (L2.CX P w) P w K mg base ["top", "bottom", "divisor"] "lowest" (defScope sLowest) f cdv A outer s H E) rfl
    refine ⟨_, (ss_cons (s_set 2 scLowest.nd (q_callF cq_gcd (by rfl) Z.g_gcd (a_cons (qv 0) (a_cons (qv 1) a_nil))))
  (ss_cons (s_if (t_cmp oq_lt (qv 1) q_int) (ss_one (s_set 2 scLowest.nd (q_neg (qv 2)))) ss_nil)
  (ss_one (s_ret (q_tup (a_cons (q_op oq_fdiv (qv 0) (qv 2)) (a_cons (q_op oq_fdiv (qv 1) (qv 2)) a_nil))))))), ?_⟩
    clear tk hp
    rintro ds L k x ⟨t, u, rfl, hu, hz, h⟩
    have g0 : gcdI t u ≠ 0 := Int.ne_of_gt (gcdI_pos hu)
    have g1 : (gcdI t u).natAbs.log2 < 9000 := by
      have g2 := gcdI_le (a := t) hu
      have g3 := gcdI_nonneg t u
      have g4 : (gcdI t u).natAbs < 2 ^ 1990 := by omega
      by_cases hg : (gcdI t u).natAbs = 0
      · omega
      · exact Nat.lt_trans ((Nat.log2_lt hg).mpr g4) (by decide)
    have h : k (.tup [.int (t.fdiv (if u < 0 then 0 - gcdI t u else gcdI t u)), .int (u.fdiv (if u < 0 then 0 - gcdI t u else gcdI t u))]) L := h
    walk_at "v"
    cases h1 : decide (u < 0) with
    | true =>
      rw [if_pos (of_decide_eq_true h1), Int.zero_sub] at h
      walk_at "w"
      refine ⟨⟨(by show -(gcdI t u) ≠ 0; omega), (by show (-(gcdI t u)).natAbs.log2 < 9000; rw [Int.natAbs_neg]; exact g1)⟩, ?_⟩
      walk_at "w"
      refine ⟨⟨(by show -(gcdI t u) ≠ 0; omega), (by show (-(gcdI t u)).natAbs.log2 < 9000; rw [Int.natAbs_neg]; exact g1)⟩, ?_⟩
      exact ⟨sz_ok rfl, h⟩
    | false =>
      rw [if_neg (of_decide_eq_false h1)] at h
      walk_at "w"
      refine ⟨⟨g0, g1⟩, ?_⟩
      walk_at "w"
      refine ⟨⟨g0, g1⟩, ?_⟩
      exact ⟨sz_ok rfl, h⟩
  · rintro ds L k x ⟨t, u, rfl, _⟩; rfl
theorem scPlus : FnScope ["one", "other"] ["one", "other"] (defScope sPlus) := ⟨rfl, rfl, rfl, by decide +kernel, rfl, by decide +kernel, by decide +kernel⟩
theorem ok_Plus {f : Addr} {fd : FuncData} (Z : Zn w K mg pS cP cR cH) (F : Fun K "plus" "plus" sPlus f fd) (CLowest : Cal P w K mg base 1 "lowest" ["top", "bottom"] [] lowestS) : FnOk P w K mg base (L2.CX P w) 2 f fd ["one", "other"] (spD K (opS rAddL (fun _ => True))) := by
  refine fn_ok F scPlus ?len (fun cdv A outer s H E hr => ?_)
  rotate_left
  · have tk := takes_of (X := cxOf (L2.CX P w) P w K mg base ["one", "other"] "plus" (defScope sPlus) f cdv A outer s H E) (E := E) rfl rfl rfl rfl
    have hp := passes_of (X := cxOf (L2.CX P w) P w K mg base ["one", "other"] "plus" (defScope sPlus) f cdv A outer s H E) rfl
    refine ⟨_, (ss_one (s_ret (q_cal CLowest (by first | decide | exact Nat.le_refl _ | omega) hr tk (by rfl) (a_cons (q_op oq_add (q_op oq_mulU (q_ix (qv 0) q_int) (q_ix (qv 1) q_int)) (q_op oq_mulU (q_ix (qv 1) q_int) (q_ix (qv 0) q_int))) (a_cons (q_op oq_mulU (q_ix (qv 0) q_int) (q_ix (qv 1) q_int)) a_nil))))), ?_⟩
    clear tk hp
    rintro ds L k x ⟨⟨a, b⟩, ⟨c, d⟩, rfl, hb, hd, hz, sa, sb, sc, sd, h⟩
    have b1 := sm.b1 sa sd sc sb
    have b2 := sm.b1 sb sd sa sc
    have b3 := sm.b1 sb sc sa sc
    have b4 := sm.b1 sa sc sa sc
    walk_at "v"
    refine ⟨sm.mul sa sd, ?_⟩
    walk_at "w"
    refine ⟨sm.mul sc sb, ?_⟩
    walk_at "w"
    refine ⟨sm.mul sb sd, ?_⟩
    walk_at "w"
    exact ⟨_, _, rfl, Int.mul_ne_zero hb hd, b2.2.2, h⟩
  · rintro ds L k x ⟨a, b, rfl, _⟩; rfl
theorem scMinus : FnScope ["one", "other"] ["one", "other"] (defScope sMinus) := ⟨rfl, rfl, rfl, by decide +kernel, rfl, by decide +kernel, by decide +kernel⟩
theorem ok_Minus {f : Addr} {fd : FuncData} (Z : Zn w K mg pS cP cR cH) (F : Fun K "minus" "minus" sMinus f fd) (CLowest : Cal P w K mg base 1 "lowest" ["top", "bottom"] [] lowestS) : FnOk P w K mg base (L2.CX P w) 2 f fd ["one", "other"] (spD K (opS rSubL (fun _ => True))) := by
  refine fn_ok F scMinus ?len (fun cdv A outer s H E hr => ?_)
  rotate_left
  · have tk := takes_of (X := cxOf (L2.CX P w) P w K mg base ["one", "other"] "minus" (defScope sMinus) f cdv A outer s H E) (E := E) rfl rfl rfl rfl
    have hp := passes_of (X := cxOf (L2.CX P w) P w K mg base ["one", "other"] "minus" (defScope sMinus) f cdv A outer s H E) rfl
    refine ⟨_, (ss_one (s_ret (q_cal CLowest (by first | decide | exact Nat.le_refl _ | omega) hr tk (by rfl) (a_cons (q_op oq_sub (q_op oq_mulU (q_ix (qv 0) q_int) (q_ix (qv 1) q_int)) (q_op oq_mulU (q_ix (qv 1) q_int) (q_ix (qv 0) q_int))) (a_cons (q_op oq_mulU (q_ix (qv 0) q_int) (q_ix (qv 1) q_int)) a_nil))))), ?_⟩
    clear tk hp
    rintro ds L k x ⟨⟨a, b⟩, ⟨c, d⟩, rfl, hb, hd, hz, sa, sb, sc, sd, h⟩
    have b1 := sm.b1 sa sd sc sb
    have b2 := sm.b1 sb sd sa sc
    have b3 := sm.b1 sb sc sa sc
    have b4 := sm.b1 sa sc sa sc
    walk_at "v"
    refine ⟨sm.mul sa sd, ?_⟩
    walk_at "w"
    refine ⟨sm.mul sc sb, ?_⟩
    walk_at "w"
    refine ⟨sm.mul sb sd, ?_⟩
    walk_at "w"
    exact ⟨_, _, rfl, Int.mul_ne_zero hb hd, b2.2.2, h⟩
  · rintro ds L k x ⟨a, b, rfl, _⟩; rfl
theorem scTimes : FnScope ["one", "other"] ["one", "other"] (defScope sTimes) := ⟨rfl, rfl, rfl, by decide +kernel, rfl, by decide +kernel, by decide +kernel⟩
theorem ok_Times {f : Addr} {fd : FuncData} (Z : Zn w K mg pS cP cR cH) (F : Fun K "times" "times" sTimes f fd) (CLowest : Cal P w K mg base 1 "lowest" ["top", "bottom"] [] lowestS) : FnOk P w K mg base (L2.CX P w) 2 f fd ["one", "other"] (spD K (opS rMulL (fun _ => True))) := by
  refine fn_ok F scTimes ?len (fun cdv A outer s H E hr => ?_)
  rotate_left
  · have tk := takes_of (X := cxOf (L2.CX P w) P w K mg base ["one", "other"] "times" (defScope sTimes) f cdv A outer s H E) (E := E) rfl rfl rfl rfl
    have hp := passes_of (X := cxOf (L2.CX P w) P w K mg base ["one", "other"] "times" (defScope sTimes) f cdv A outer s H E) rfl
    refine ⟨_, (ss_one (s_ret (q_cal CLowest (by first | decide | exact Nat.le_refl _ | omega) hr tk (by rfl) (a_cons (q_op oq_mulU (q_ix (qv 0) q_int) (q_ix (qv 1) q_int)) (a_cons (q_op oq_mulU (q_ix (qv 0) q_int) (q_ix (qv 1) q_int)) a_nil))))), ?_⟩
    clear tk hp
    rintro ds L k x ⟨⟨a, b⟩, ⟨c, d⟩, rfl, hb, hd, hz, sa, sb, sc, sd, h⟩
    have b1 := sm.b1 sa sd sc sb
    have b2 := sm.b1 sb sd sa sc
    have b3 := sm.b1 sb sc sa sc
    have b4 := sm.b1 sa sc sa sc
    walk_at "v"
    refine ⟨sm.mul sa sc, ?_⟩
    walk_at "w"
    refine ⟨sm.mul sb sd, ?_⟩
    walk_at "w"
    exact ⟨_, _, rfl, Int.mul_ne_zero hb hd, b2.2.2, h⟩
  · rintro ds L k x ⟨a, b, rfl, _⟩; rfl
theorem scOver : FnScope ["one", "other"] ["one", "other"] (defScope sOver) := ⟨rfl, rfl, rfl, by decide +kernel, rfl, by decide +kernel, by decide +kernel⟩
theorem ok_Over {f : Addr} {fd : FuncData} (Z : Zn w K mg pS cP cR cH) (F : Fun K "over" "over" sOver f fd) (CLowest : Cal P w K mg base 1 "lowest" ["top", "bottom"] [] lowestS) : FnOk P w K mg base (L2.CX P w) 2 f fd ["one", "other"] (spD K (opS rDivL (fun b => b.1 ≠ 0))) := by
  refine fn_ok F scOver ?len (fun cdv A outer s H E hr => ?_)
  rotate_left
  · have tk := takes_of (X := cxOf (L2.CX P w) P w K mg base ["one", "other"] "over" (defScope sOver) f cdv A outer s H E) (E := E) rfl rfl rfl rfl
    have hp := passes_of (X := cxOf (L2.CX P w) P w K mg base ["one", "other"] "over" (defScope sOver) f cdv A outer s H E) rfl
    refine ⟨_, (ss_cons (s_if (t_cmp (oq_eqU hr.units) (q_ix (qv 1) q_int) q_int) (ss_one s_never) ss_nil)
  (ss_one (s_ret (q_cal CLowest (by first | decide | exact Nat.le_refl _ | omega) hr tk (by rfl) (a_cons (q_op oq_mulU (q_ix (qv 0) q_int) (q_ix (qv 1) q_int)) (a_cons (q_op oq_mulU (q_ix (qv 0) q_int) (q_ix (qv 1) q_int)) a_nil)))))), ?_⟩
    clear tk hp
    rintro ds L k x ⟨⟨a, b⟩, ⟨c, d⟩, rfl, hb, hd, hz, sa, sb, sc, sd, h⟩
    have b3 := sm.b1 sb sc sa sc
    walk_at "v"
    rw [show flEq (.int c) (.int 0) = false from fl_ne hz]
    walk_at "w"
    refine ⟨sm.mul sa sd, ?_⟩
    walk_at "w"
    refine ⟨sm.mul sb sc, ?_⟩
    walk_at "w"
    exact ⟨_, _, rfl, Int.mul_ne_zero hb hz, b3.2.2, h⟩
  · rintro ds L k x ⟨a, b, rfl, _⟩; rfl
theorem scSign : FnScope ["number"] ["number"] (defScope sSign) := ⟨rfl, rfl, rfl, by decide +kernel, rfl, by decide +kernel, by decide +kernel⟩
theorem ok_Sign {f : Addr} {fd : FuncData} (Z : Zn w K mg pS cP cR cH) (F : Fun K "sign" "sign" sSign f fd) : FnOk P w K mg base (L2.CX P w) 1 f fd ["number"] (spD K signS) := by
  refine fn_ok F scSign ?len (fun cdv A outer s H E hr => ?_)
  rotate_left
  · have tk := takes_of (X := cxOf (L2.CX P w) P w K mg base ["number"] "sign" (defScope sSign) f cdv A outer s H E) (E := E) rfl rfl rfl rfl
    have hp := passes_of (X := cxOf (L2.CX P w) P w K mg base ["number"] "sign" (defScope sSign) f cdv A outer s H E) rfl
    refine ⟨_, (ss_one (s_ret (q_op oq_sub (q_callTy cq_int (by rfl) Z.z_int bb_int (a_cons (q_cmp oq_gt (qv 0) q_int) a_nil)) (q_callTy cq_int (by rfl) Z.z_int bb_int (a_cons (q_cmp oq_lt (qv 0) q_int) a_nil))))), ?_⟩
    clear tk hp
    rintro ds L k x ⟨z, rfl, h⟩
    exact h
  · rintro ds L k x ⟨z, rfl, _⟩; rfl
theorem scLSign : FnScope ["_law_number"] ["_law_number"] (defScope sLSign) := ⟨rfl, rfl, rfl, by decide +kernel, rfl, by decide +kernel, by decide +kernel⟩
theorem ok_LSign {f : Addr} {fd : FuncData} (Z : Zn w K mg pS cP cR cH) (F : Fun K "_law_sign" "_law_sign" sLSign f fd) : FnOk P w K mg base (L2.CX P w) 1 f fd ["_law_number"] (spD K signS) := by
  refine fn_ok F scLSign ?len (fun cdv A outer s H E hr => ?_)
  rotate_left
  · have tk := takes_of (X := cxOf (L2.CX P w) P w K mg base ["_law_number"] "_law_sign" (defScope sLSign) f cdv A outer s H E) (E := E) rfl rfl rfl rfl
    have hp := passes_of (X := cxOf (L2.CX P w) P w K mg base ["_law_number"] "_law_sign" (defScope sLSign) f cdv A outer s H E) rfl
    refine ⟨_, (ss_one (s_ret (q_op oq_sub (q_callTy cq_int (by rfl) Z.z_int bb_int (a_cons (q_cmp oq_gt (qv 0) q_int) a_nil)) (q_callTy cq_int (by rfl) Z.z_int bb_int (a_cons (q_cmp oq_lt (qv 0) q_int) a_nil))))), ?_⟩
    clear tk hp
    rintro ds L k x ⟨z, rfl, h⟩
    exact h
  · rintro ds L k x ⟨z, rfl, _⟩; rfl

def ofNumS (cP : Addr) : DSp := fun ds L k _ => ∃ i : Int, ds = [.obj cP [] [], .int i] ∧ k (rtD (i, 1)) L
def okR (a : Int × Int) : Prop := 0 < a.2 ∧ sm a.1 ∧ sm a.2
def joinedS (cP : Addr) : DSp := fun ds L k _ => ∃ (z : Str) (a b : Int × Int), ds = [.obj cP [] [], .str z, rtD a, rtD b] ∧ okR a ∧ okR b ∧ ¬ (z = "div" ∧ b.1 = 0) ∧ z ∈ (["add", "sub", "mul", "div"] : List Str) ∧ k (rtD (joinR z a b)) L
def isZeroS (cP : Addr) : DSp := fun ds L k _ => ∃ a : Int × Int, ds = [.obj cP [] [], rtD a] ∧ k (.bl (decide (a.1 = 0))) L
def pOrderS (cP : Addr) : DSp := fun ds L k _ => ∃ a b : Int × Int, ds = [.obj cP [] [], rtD a, rtD b] ∧ okR a ∧ okR b ∧ k (.int (orderR a b)) L
theorem lowI_sg (t : Int) {u : Int} (hu : 0 < u) : sgI (lowI t u).1 = sgI t := by
  have g0 : 0 < gcdI t u := gcdI_pos (Int.ne_of_gt hu)
  have e : (lowI t u).1 = t.fdiv (gcdI t u) := by unfold lowI; rw [if_neg (by omega)]
  have d : gcdI t u ∣ t := by unfold gcdI; exact Int.ofNat_dvd_left.mpr (Nat.gcd_dvd_left _ _)
  obtain ⟨q, hq⟩ := d
  have e2 : ∀ g : Int, 0 < g → t = g * q → t.fdiv g = q := fun g hg ht => by
    rw [ht, Int.mul_fdiv_cancel_left _ (Int.ne_of_gt hg)]
  rw [e, e2 _ g0 hq]
  clear e e2
  generalize gcdI t u = g at *
  unfold sgI
  have h1 : (0 < t) ↔ (0 < q) := by
    constructor
    · intro h
      refine Int.not_le.mp fun hn => ?_
      have := Int.mul_nonneg (Int.le_of_lt g0) (show 0 ≤ -q by omega)
      rw [Int.mul_neg] at this
      omega
    · intro h
      have := Int.mul_pos g0 h
      omega
  have h2 : (t < 0) ↔ (q < 0) := by
    constructor
    · intro h
      refine Int.not_le.mp fun hn => ?_
      have := Int.mul_nonneg (Int.le_of_lt g0) hn
      omega
    · intro h
      have := Int.mul_neg_of_pos_of_neg g0 h
      omega
  rw [decide_eq_decide.mpr h1, decide_eq_decide.mpr h2]
theorem scPlainOfNumber : FnScope ["self", "value"] ["self", "value"] (defScope sPlainOfNumber) := ⟨rfl, rfl, rfl, by decide +kernel, rfl, by decide +kernel, by decide +kernel⟩
theorem ok_PlainOfNumber {f : Addr} {fd : FuncData} (Z : Zn w K mg pS cP cR cH) (F : Fun K "of_number" "Plain.of_number" sPlainOfNumber f fd) : FnOk P w K mg base (L2.CX P w) 1 f fd ["self", "value"] (spD K (ofNumS cP)) := by
  refine fn_ok F scPlainOfNumber ?len (fun cdv A outer s H E hr => ?_)
  rotate_left
  · have tk := takes_of (X := cxOf (L2.CX P w) P w K mg base ["self", "value"] "Plain.of_number" (defScope sPlainOfNumber) f cdv A outer s H E) (E := E) rfl rfl rfl rfl
    have hp := passes_of (X := cxOf (L2.CX P w) P w K mg base ["self", "value"] "Plain.of_number" (defScope sPlainOfNumber) f cdv A outer s H E) rfl
    refine ⟨_, (ss_one (s_ret (q_tup (a_cons (qv 1) (a_cons q_int a_nil))))), ?_⟩
    clear tk hp
    rintro ds L k x ⟨i, rfl, h⟩
    exact ⟨sz_ok rfl, h⟩
  · rintro ds L k x ⟨i, rfl, _⟩; rfl
theorem scPlainIsZero : FnScope ["self", "one"] ["self", "one"] (defScope sPlainIsZero) := ⟨rfl, rfl, rfl, by decide +kernel, rfl, by decide +kernel, by decide +kernel⟩
theorem ok_PlainIsZero {f : Addr} {fd : FuncData} (Z : Zn w K mg pS cP cR cH) (F : Fun K "is_zero" "Plain.is_zero" sPlainIsZero f fd) : FnOk P w K mg base (L2.CX P w) 1 f fd ["self", "one"] (spD K (isZeroS cP)) := by
  refine fn_ok F scPlainIsZero ?len (fun cdv A outer s H E hr => ?_)
  rotate_left
  · have tk := takes_of (X := cxOf (L2.CX P w) P w K mg base ["self", "one"] "Plain.is_zero" (defScope sPlainIsZero) f cdv A outer s H E) (E := E) rfl rfl rfl rfl
    have hp := passes_of (X := cxOf (L2.CX P w) P w K mg base ["self", "one"] "Plain.is_zero" (defScope sPlainIsZero) f cdv A outer s H E) rfl
    refine ⟨_, (ss_one (s_ret (q_cmp (oq_eqU hr.units) (q_ix (qv 1) q_int) q_int))), ?_⟩
    clear tk hp
    rintro ds L k x ⟨⟨a, b⟩, rfl, h⟩
    walk_at "w"
    by_cases e : a = 0
    · subst e; exact h
    · rw [show flEq (.int a) (.int 0) = false from fl_ne e]
      rw [decide_eq_false e] at h
      exact h
  · rintro ds L k x ⟨a, rfl, _⟩; rfl
theorem scPlainJoined : FnScope ["self", "word", "one", "other"] ["self", "word", "one", "other"] (defScope sPlainJoined) := ⟨rfl, rfl, rfl, by decide +kernel, rfl, by decide +kernel, by decide +kernel⟩
theorem ok_PlainJoined {f : Addr} {fd : FuncData} (Z : Zn w K mg pS cP cR cH) (F : Fun K "joined" "Plain.joined" sPlainJoined f fd) (CPlus : Cal P w K mg base 2 "plus" ["one", "other"] [] (opS rAddL (fun _ => True))) (CMinus : Cal P w K mg base 2 "minus" ["one", "other"] [] (opS rSubL (fun _ => True))) (CTimes : Cal P w K mg base 2 "times" ["one", "other"] [] (opS rMulL (fun _ => True))) (COverRatios : Cal P w K mg base 2 "over_ratios" ["one", "other"] [] (opS rDivL (fun b => b.1 ≠ 0))) : FnOk P w K mg base (L2.CX P w) 3 f fd ["self", "word", "one", "other"] (spD K (joinedS cP)) := by
  refine fn_ok F scPlainJoined ?len (fun cdv A outer s H E hr => ?_)
  rotate_left
  · have tk := takes_of (X := cxOf (L2.CX P w) P w K mg base ["self", "word", "one", "other"] "Plain.joined" (defScope sPlainJoined) f cdv A outer s H E) (E := E) rfl rfl rfl rfl
    have hp := passes_of (X := cxOf (L2.CX P w) P w K mg base ["self", "word", "one", "other"] "Plain.joined" (defScope sPlainJoined) f cdv A outer s H E) rfl
    refine ⟨_, (ss_cons (s_if (t_cmp (oq_eqU hr.units) (qv 1) q_str) (ss_one (s_ret (q_cal CPlus (by first | decide | exact Nat.le_refl _ | omega) hr tk (by rfl) (a_cons (qv 2) (a_cons (qv 3) a_nil))))) ss_nil)
  (ss_cons (s_if (t_cmp (oq_eqU hr.units) (qv 1) q_str) (ss_one (s_ret (q_cal CMinus (by first | decide | exact Nat.le_refl _ | omega) hr tk (by rfl) (a_cons (qv 2) (a_cons (qv 3) a_nil))))) ss_nil)
  (ss_one (s_ret (q_if (t_cmp (oq_eqU hr.units) (qv 1) q_str) (q_cal CTimes (by first | decide | exact Nat.le_refl _ | omega) hr tk (by rfl) (a_cons (qv 2) (a_cons (qv 3) a_nil))) (q_cal COverRatios (by first | decide | exact Nat.le_refl _ | omega) hr tk (by rfl) (a_cons (qv 2) (a_cons (qv 3) a_nil)))))))), ?_⟩
    clear tk hp
    rintro ds L k x ⟨z, a, b, rfl, ha, hb, hz, hm, h⟩
    simp only [List.mem_cons, List.not_mem_nil, or_false] at hm
    rcases hm with rfl | rfl | rfl | rfl
    · walk_at "w"
      exact ⟨a, b, rfl, Int.ne_of_gt ha.1, Int.ne_of_gt hb.1, trivial, ha.2.1, ha.2.2, hb.2.1, hb.2.2, h⟩
    · walk_at "w"
      exact ⟨a, b, rfl, Int.ne_of_gt ha.1, Int.ne_of_gt hb.1, trivial, ha.2.1, ha.2.2, hb.2.1, hb.2.2, h⟩
    · walk_at "w"
      exact ⟨a, b, rfl, Int.ne_of_gt ha.1, Int.ne_of_gt hb.1, trivial, ha.2.1, ha.2.2, hb.2.1, hb.2.2, h⟩
    · walk_at "w"
      exact ⟨a, b, rfl, Int.ne_of_gt ha.1, Int.ne_of_gt hb.1, fun e => hz ⟨rfl, e⟩, ha.2.1, ha.2.2, hb.2.1, hb.2.2, h⟩
  · rintro ds L k x ⟨z, a, b, rfl, _⟩; rfl
theorem scPlainOrder : FnScope ["self", "one", "other"] ["self", "one", "other"] (defScope sPlainOrder) := ⟨rfl, rfl, rfl, by decide +kernel, rfl, by decide +kernel, by decide +kernel⟩
theorem ok_PlainOrder {f : Addr} {fd : FuncData} (Z : Zn w K mg pS cP cR cH) (F : Fun K "order" "Plain.order" sPlainOrder f fd) (CMinus : Cal P w K mg base 2 "minus" ["one", "other"] [] (opS rSubL (fun _ => True))) (CSign : Cal P w K mg base 1 "sign" ["number"] [] signS) : FnOk P w K mg base (L2.CX P w) 3 f fd ["self", "one", "other"] (spD K (pOrderS cP)) := by
  refine fn_ok F scPlainOrder ?len (fun cdv A outer s H E hr => ?_)
  rotate_left
  · have tk := takes_of (X := cxOf (L2.CX P w) P w K mg base ["self", "one", "other"] "Plain.order" (defScope sPlainOrder) f cdv A outer s H E) (E := E) rfl rfl rfl rfl
    have hp := passes_of (X := cxOf (L2.CX P w) P w K mg base ["self", "one", "other"] "Plain.order" (defScope sPlainOrder) f cdv A outer s H E) rfl
    refine ⟨_, (ss_one (s_ret (q_cal CSign (by first | decide | exact Nat.le_refl _ | omega) hr tk (by rfl) (a_cons (q_ix (q_cal CMinus (by first | decide | exact Nat.le_refl _ | omega) hr tk (by rfl) (a_cons (qv 1) (a_cons (qv 2) a_nil))) q_int) a_nil)))), ?_⟩
    clear tk hp
    rintro ds L k x ⟨⟨a, b⟩, ⟨c, d⟩, rfl, ha, hb, h⟩
    walk_at "w"
    refine ⟨(a, b), (c, d), rfl, Int.ne_of_gt ha.1, Int.ne_of_gt hb.1, trivial, ha.2.1, ha.2.2, hb.2.1, hb.2.2, ?_⟩
    walk_at "w"
    refine ⟨_, rfl, ?_⟩
    have e : sgI (rSubL (a, b) (c, d)).1 = orderR (a, b) (c, d) := lowI_sg _ (Int.mul_pos ha.1 hb.1)
    rw [← e] at h
    exact h
  · rintro ds L k x ⟨a, b, rfl, _⟩; rfl
end
end T27

namespace T27
open PySem L2 DL
section
variable {P : Program} {w : World} {K : PySem.W.Frag} {mg : Str → Option Value} {base : Heap} {pS cP cR cH : Addr}
local macro_rules | `(tactic| walk_at "w") => `(tactic| conv => whnf)
local macro_rules | `(tactic| walk_at "v") => `(tactic| ((conv => whnf); try dsimp only))
local macro_rules | `(tactic| walk_at "s") => `(tactic| ((conv => whnf); repeat ((first | refine ⟨sz_ok rfl, ?_⟩ | refine ⟨rfl, ?_⟩); conv => whnf)))

structure Sit (cP cR : Addr) (tab : TAB) (R : RR) (L : Led) (s : RSt) : Prop where
  b : B2 R L
  eP : R.cP = cP
  eR : R.cR = cR
  et : R.tb = tabD tab
  st : s.steps ≤ 60
  ou : s.outs.length ≤ s.steps
  tk : ∀ p ∈ tab, ∃ ks m, smsOk ks m p.2
structure Nam (R : RR) (L : Led) (q : Addr) (nm : NMS) (s : RSt) : Prop where
  n1 : q ≠ R.r
  n2 : q ≠ R.o
  lk : L.lookup q = some (dkD nm)
  ok : NOk nm
  len : nm.length ≤ s.steps
def exnH (cH : Addr) (e : EE) : Exn := ⟨.ref cH, ["end"], [e.d]⟩
def outV (cH : Addr) (vd : VAL → D) (R : RR) (L : Led) (k : D → Led → Prop) (x : Exn → Led → Prop) : R1 × RSt → Prop
  | (.ok v, s1) => k (vd v) (st2 R L s1)
  | (.halt e, s1) => x (exnH cH e) (st2 R L s1)
def evS (cP cR cH : Addr) (tab : TAB) (c m : Nat) : DSp := fun ds L k x => ∃ R L0 s nm q e vx vy, ds = [.ptr R.r, e.d, .ptr q, valD vx, valD vy] ∧ L = st2 R L0 s ∧ Sit cP cR tab R L0 s ∧ Nam R L0 q nm s ∧ VOk vx ∧ VOk vy ∧ (∃ m', m = m' + 1 ∧ XpOk (Lv tab c) m' e) ∧ outV cH valD R L0 k x (evalE (funM tab c) nm vx vy e s)
def exS (cP cR cH : Addr) (tab : TAB) : Nat → DSp
  | 0 => fun _ _ _ _ => False
  | c + 1 => fun ds L k x => ∃ R L0 s p vx vy, ds = [.ptr R.r, .tup (Sm.ds p), valD vx, valD vy] ∧ L = st2 R L0 s ∧ Sit cP cR tab R L0 s ∧ VOk vx ∧ VOk vy ∧ smsOk (Lv tab c) 5 p ∧ outX cH R L0 k x (blkM (funM tab c) vx vy p [] s)
where outX (cH : Addr) (R : RR) (L : Led) (k : D → Led → Prop) (x : Exn → Led → Prop) : BR × NMS × RSt → Prop
  | (.done (some v), _, s1) => k (.tup [.str "value", valD v]) (st2 R L s1)
  | (.done none, _, s1) => k (.tup [.str "none"]) (st2 R L s1)
  | (.halt e, _, s1) => x (exnH cH e) (st2 R L s1)
theorem Sit.go {tab : TAB} {R : RR} {L : Led} {s s1 : RSt} {r : R1} (h : Sit cP cR tab R L s) (g : Gd s (r, s1)) : Sit cP cR tab R L s1 := ⟨h.b, h.eP, h.eR, h.et, g.lim, by have h1 := g.grow; have h2 := h.ou; have h3 := g.mono; dsimp only at h1 h3 ⊢; omega, h.tk⟩
theorem Nam.go {R : RR} {L : Led} {q : Addr} {nm : NMS} {s s1 : RSt} {r : R1} (h : Nam R L q nm s) (g : Gd s (r, s1)) : Nam R L q nm s1 := ⟨h.n1, h.n2, h.lk, h.ok, Nat.le_trans h.len g.mono⟩
theorem vokR {v : VAL} (h : VOk v) : okR v.1 := ⟨h.pos, h.small.1, h.small.2⟩
theorem con_r {tab : TAB} {R : RR} {L : Led} {s : RSt} (h : Sit cP cR tab R L s) : con (st2 R L s) (.ptr R.r) = .obj cR fldsR [.obj cP [] [], tabD tab, .ptr R.o, .int s.steps] := by
  show ((st2 R L s).lookup R.r).getD _ = _
  rw [st2_r h.b, h.eP, h.eR, h.et]
  rfl
theorem con_q {R : RR} {L : Led} {q : Addr} {nm : NMS} {s : RSt} (h : Nam R L q nm s) : con (st2 R L s) (.ptr q) = dkD nm := by
  show ((st2 R L s).lookup q).getD _ = _
  rw [st2_q h.n1 h.n2, h.lk]
  rfl
theorem scRunnerEvaluate : FnScope ["self", "expression", "names", "x", "y", "word", "one", "other", "end", "weight"] ["self", "expression", "names", "x", "y"] (defScope sRunnerEvaluate) := ⟨rfl, rfl, rfl, by decide +kernel, rfl, by decide +kernel, by decide +kernel⟩
theorem ok_RunnerEvaluate {f : Addr} {fd : FuncData} (Z : Zn w K mg pS cP cR cH) (F : Fun K "evaluate" "Runner.evaluate" sRunnerEvaluate f fd) {tab : TAB} {c m : Nat} (MPlainOfNumber : MCal P w K mg base 1 cP "of_number" ["self", "value"] [] (ofNumS cP)) (MPlainJoined : MCal P w K mg base 3 cP "joined" ["self", "word", "one", "other"] [] (joinedS cP)) (MPlainIsZero : MCal P w K mg base 1 cP "is_zero" ["self", "one"] [] (isZeroS cP)) (MRunnerEvaluate : MCal P w K mg base (30 * c + m + 5) cR "evaluate" ["self", "expression", "names", "x", "y"] [] (evS cP cR cH tab c m)) (MRunnerExecute : MCal P w K mg base (30 * c) cR "execute" ["self", "program", "x", "y"] [] (exS cP cR cH tab c)) (E_Halt : ExCls P w K mg base "Halt" cH ["self", "end"] (spIf cH "end")) : FnOk P w K mg base (L2.CX P w) (30 * c + m + 5 + 1) f fd ["self", "expression", "names", "x", "y"] (spD K (evS cP cR cH tab c (m + 1))) := by
  refine fn_ok F scRunnerEvaluate ?len (fun cdv A outer s H E hr => ?_)
  rotate_left
  · have tk := takes_of (X := cxOf (L2.CX P w) P w K mg base ["self", "expression", "names", "x", "y", "word", "one", "other", "end", "weight"] "Runner.evaluate" (defScope sRunnerEvaluate) f cdv A outer s H E) (E := E) rfl rfl rfl rfl
    have hp := passes_of (X := cxOf (L2.CX P w) P w K mg base ["self", "expression", "names", "x", "y", "word", "one", "other", "end", "weight"] "Runner.evaluate" (defScope sRunnerEvaluate) f cdv A outer s H E) rfl
    refine ⟨_, (ss_cons (s_set 5 scRunnerEvaluate.nd (q_ix (qv 1) q_int))
  (ss_cons (s_if (t_cmp (oq_eqU hr.units) (qv 5) q_str) (ss_one (s_ret (q_tup (a_cons (q_meth MPlainOfNumber (by first | decide | exact Nat.le_refl _ | omega) hr tk (q_fld (K := K) rfl (qv 0)) (a_cons (q_ix (qv 1) q_int) a_nil)) (a_cons q_int a_nil))))) ss_nil)
  (ss_cons (s_if (t_cmp oq_inQ (qv 5) (q_tup (a_cons q_str (a_cons q_str a_nil)))) (ss_one (s_ret (q_if (t_cmp (oq_eqU hr.units) (qv 5) q_str) (qv 3) (qv 4)))) ss_nil)
  (ss_cons (s_if (t_cmp (oq_eqU hr.units) (qv 5) q_str) (ss_cons (s_if (t_cmp (oq_notInDk hr.units) (q_ix (qv 1) q_int) (qv 2)) (ss_one (s_raiseF E_Halt rfl hr (by first | decide | omega) tk (by rfl) (a_cons (q_tup (a_cons q_str (a_cons (q_ix (qv 1) q_int) a_nil))) a_nil))) ss_nil)
  (ss_one (s_ret (q_ixDk hr.units (qv 2) (q_ix (qv 1) q_int))))) ss_nil)
  (ss_cons (s_set 6 scRunnerEvaluate.nd (q_meth MRunnerEvaluate (by first | decide | exact Nat.le_refl _ | omega) hr tk (qv 0) (a_cons (q_ix (qv 1) (q_neg q_int)) (a_cons (qv 2) (a_cons (qv 3) (a_cons (qv 4) a_nil))))))
  (ss_cons (s_set 7 scRunnerEvaluate.nd (q_meth MRunnerEvaluate (by first | decide | exact Nat.le_refl _ | omega) hr tk (qv 0) (a_cons (q_ix (qv 1) (q_neg q_int)) (a_cons (qv 2) (a_cons (qv 3) (a_cons (qv 4) a_nil))))))
  (ss_cons (s_if (t_cmp (oq_eqU hr.units) (qv 5) q_str) (ss_cons (s_set 8 scRunnerEvaluate.nd (q_meth MRunnerExecute (by first | decide | exact Nat.le_refl _ | omega) hr tk (qv 0) (a_cons (q_ixDk hr.units (q_fld (K := K) rfl (qv 0)) (q_ix (qv 1) q_int)) (a_cons (qv 6) (a_cons (qv 7) a_nil)))))
  (ss_cons (s_if (t_cmp (oq_neU hr.units) (q_ix (qv 8) q_int) q_str) (ss_one (s_raiseF E_Halt rfl hr (by first | decide | omega) tk (by rfl) (a_cons (qv 8) a_nil))) ss_nil)
  (ss_one (s_ret (q_ix (qv 8) q_int))))) ss_nil)
  (ss_cons (s_set 9 scRunnerEvaluate.nd (q_op oq_add (q_ix (qv 6) q_int) (q_ix (qv 7) q_int)))
  (ss_cons (s_if (t_cmp oq_gt (qv 9) (q_globD Z.g_MOST_WEIGHT (by rfl))) (ss_one (s_raiseF E_Halt rfl hr (by first | decide | omega) tk (by rfl) (a_cons (q_tup (a_cons q_str a_nil)) a_nil))) ss_nil)
  (ss_cons (s_if (w_and (t_cmp (oq_eqU hr.units) (qv 5) q_str) (w_and1 (t_val (q_meth MPlainIsZero (by first | decide | exact Nat.le_refl _ | omega) hr tk (q_fld (K := K) rfl (qv 0)) (a_cons (q_ix (qv 7) q_int) a_nil))))).t (ss_one (s_raiseF E_Halt rfl hr (by first | decide | omega) tk (by rfl) (a_cons (q_tup (a_cons q_str a_nil)) a_nil))) ss_nil)
  (ss_one (s_ret (q_tup (a_cons (q_meth MPlainJoined (by first | decide | exact Nat.le_refl _ | omega) hr tk (q_fld (K := K) rfl (qv 0)) (a_cons (qv 5) (a_cons (q_ix (qv 6) q_int) (a_cons (q_ix (qv 7) q_int) a_nil)))) (a_cons (qv 9) a_nil))))))))))))))), ?_⟩
    clear tk hp
    rintro ds L k x ⟨R, L0, s, nm, q, e, vx, vy, rfl, rfl, hS, hN, hx, hy, ⟨m', hm, he⟩, h⟩
    cases hm
    cases he with
    | num h1 h2 =>
      walk_at "w"
      rw [con_r hS]
      walk_at "w"
      refine ⟨⟨Z.c_R, Z.n_R _ (by decide)⟩, ?_⟩
      walk_at "w"
      refine ⟨⟨rfl, rfl⟩, ?_⟩
      walk_at "w"
      refine ⟨_, rfl, ?_⟩
      exact ⟨sz_ok rfl, h⟩
    | lx =>
      walk_at "w"
      refine ⟨sz_ok rfl, ?_⟩
      exact h
    | ly =>
      walk_at "w"
      refine ⟨sz_ok rfl, ?_⟩
      exact h
    | @nm _ z =>
      walk_at "w"
      refine ⟨sz_ok rfl, ?_⟩
      walk_at "w"
      rw [con_q hN]
      walk_at "w"
      rw [if_pos rfl, look_nm]
      have h : outV cH valD R L0 k x (match nm.lookup z with
        | some v => (.ok v, s)
        | none => (.halt (.unset z), s)) := h
      cases hl : nm.lookup z with
      | none =>
        rw [hl] at h
        walk_at "w"
        refine ⟨sz_ok rfl, ?_⟩
        exact h
      | some v =>
        rw [hl] at h
        walk_at "w"
        rw [con_q hN]
        walk_at "w"
        rw [look_nm, hl]
        exact h
    | @call _ f a b hf ha hb =>
      walk_at "w"
      refine ⟨sz_ok rfl, ?_⟩
      walk_at "w"
      rw [con_r hS]
      walk_at "w"
      refine ⟨⟨rfl, rfl⟩, ?_⟩
      walk_at "w"
      refine ⟨R, L0, s, nm, q, a, vx, vy, rfl, rfl, hS, hN, hx, hy, ⟨_, rfl, ha⟩, ?_⟩
      have ga := evalE_ok (funM_ok hS.tk c) hN.ok.v hx hy ha s hS.st
      unfold evalE at h
      rcases ea : evalE (funM tab c) nm vx vy a s with ⟨r1, s1⟩
      rw [ea] at ga h
      rcases r1 with v | e
      rotate_left
      · exact h
      have hS1 := hS.go ga
      have hN1 := hN.go ga
      walk_at "w"
      rw [con_r hS1]
      walk_at "w"
      refine ⟨⟨rfl, rfl⟩, ?_⟩
      walk_at "w"
      refine ⟨R, L0, s1, nm, q, b, vx, vy, rfl, rfl, hS1, hN1, hx, hy, ⟨_, rfl, hb⟩, ?_⟩
      have gb := evalE_ok (funM_ok hS.tk c) hN.ok.v hx hy hb s1 hS1.st
      dsimp only at h
      rcases eb : evalE (funM tab c) nm vx vy b s1 with ⟨r2, s2⟩
      rw [eb] at gb h
      rcases r2 with w | e
      rotate_left
      · exact h
      have hS2 := hS1.go gb
      dsimp only at h
      cases c with
      | zero => exact hf.elim
      | succ c =>
      obtain ⟨p, hp, hps⟩ := hf
      have h : outV cH valD R L0 k x (match tab.lookup f with
        | some p => execM (funM tab c) p v w s2
        | none => (.halt .none, s2)) := h
      rw [hp] at h
      dsimp only at h
      walk_at "w"
      rw [con_r hS2]
      walk_at "w"
      refine ⟨⟨rfl, rfl⟩, ?_⟩
      walk_at "w"
      rw [con_r hS2]
      walk_at "w"
      refine ⟨⟨Z.c_R, Z.n_R _ (by decide)⟩, ?_⟩
      walk_at "w"
      rw [look_tab, hp]
      walk_at "w"
      refine ⟨R, L0, s2, p, v, w, rfl, rfl, hS2, ga.v v rfl, gb.v w rfl, hps, ?_⟩
      unfold execM at h
      rcases eb3 : blkM (funM tab c) v w p [] s2 with ⟨r, nm3, s3⟩
      rw [eb3] at h
      rcases r with e | o
      · exact h
      · rcases o with _ | u
        · exact h
        · exact h
    | @bin _ z a b ho ha hb =>
      simp only [List.mem_cons, List.not_mem_nil, or_false] at ho
      rcases ho with rfl | rfl | rfl | rfl
      · walk_at "w"
        refine ⟨sz_ok rfl, ?_⟩
        walk_at "w"
        rw [con_r hS]
        walk_at "w"
        refine ⟨⟨rfl, rfl⟩, ?_⟩
        walk_at "w"
        refine ⟨R, L0, s, nm, q, a, vx, vy, rfl, rfl, hS, hN, hx, hy, ⟨_, rfl, ha⟩, ?_⟩
        have ga := evalE_ok (funM_ok hS.tk c) hN.ok.v hx hy ha s hS.st
        unfold evalE at h
        rcases ea : evalE (funM tab c) nm vx vy a s with ⟨r1, s1⟩
        rw [ea] at ga h
        rcases r1 with v | e
        rotate_left
        · exact h
        have hS1 := hS.go ga
        have hN1 := hN.go ga
        walk_at "w"
        rw [con_r hS1]
        walk_at "w"
        refine ⟨⟨rfl, rfl⟩, ?_⟩
        walk_at "w"
        refine ⟨R, L0, s1, nm, q, b, vx, vy, rfl, rfl, hS1, hN1, hx, hy, ⟨_, rfl, hb⟩, ?_⟩
        have gb := evalE_ok (funM_ok hS.tk c) hN.ok.v hx hy hb s1 hS1.st
        dsimp only at h
        rcases eb : evalE (funM tab c) nm vx vy b s1 with ⟨r2, s2⟩
        rw [eb] at gb h
        rcases r2 with w | e
        rotate_left
        · exact h
        have hS2 := hS1.go gb
        dsimp only at h
        walk_at "w"
        cases h10 : decide (10 < v.2 + w.2) with
        | true =>
          rw [if_pos (of_decide_eq_true h10)] at h
          walk_at "w"
          refine ⟨sz_ok rfl, ?_⟩
          exact h
        | false =>
          rw [if_neg (of_decide_eq_false h10)] at h
          have hz : ¬ (("add" : Str) = "div" ∧ w.1.1 = 0) := fun q => absurd q.1 (by decide)
          rw [if_neg hz] at h
          walk_at "w"
          rw [con_r hS2]
          walk_at "w"
          refine ⟨⟨Z.c_R, Z.n_R _ (by decide)⟩, ?_⟩
          walk_at "w"
          refine ⟨⟨rfl, rfl⟩, ?_⟩
          walk_at "w"
          refine ⟨"add", v.1, w.1, rfl, vokR (ga.v v rfl), vokR (gb.v w rfl), hz, by decide, ?_⟩
          exact ⟨sz_ok rfl, h⟩
      · walk_at "w"
        refine ⟨sz_ok rfl, ?_⟩
        walk_at "w"
        rw [con_r hS]
        walk_at "w"
        refine ⟨⟨rfl, rfl⟩, ?_⟩
        walk_at "w"
        refine ⟨R, L0, s, nm, q, a, vx, vy, rfl, rfl, hS, hN, hx, hy, ⟨_, rfl, ha⟩, ?_⟩
        have ga := evalE_ok (funM_ok hS.tk c) hN.ok.v hx hy ha s hS.st
        unfold evalE at h
        rcases ea : evalE (funM tab c) nm vx vy a s with ⟨r1, s1⟩
        rw [ea] at ga h
        rcases r1 with v | e
        rotate_left
        · exact h
        have hS1 := hS.go ga
        have hN1 := hN.go ga
        walk_at "w"
        rw [con_r hS1]
        walk_at "w"
        refine ⟨⟨rfl, rfl⟩, ?_⟩
        walk_at "w"
        refine ⟨R, L0, s1, nm, q, b, vx, vy, rfl, rfl, hS1, hN1, hx, hy, ⟨_, rfl, hb⟩, ?_⟩
        have gb := evalE_ok (funM_ok hS.tk c) hN.ok.v hx hy hb s1 hS1.st
        dsimp only at h
        rcases eb : evalE (funM tab c) nm vx vy b s1 with ⟨r2, s2⟩
        rw [eb] at gb h
        rcases r2 with w | e
        rotate_left
        · exact h
        have hS2 := hS1.go gb
        dsimp only at h
        walk_at "w"
        cases h10 : decide (10 < v.2 + w.2) with
        | true =>
          rw [if_pos (of_decide_eq_true h10)] at h
          walk_at "w"
          refine ⟨sz_ok rfl, ?_⟩
          exact h
        | false =>
          rw [if_neg (of_decide_eq_false h10)] at h
          have hz : ¬ (("sub" : Str) = "div" ∧ w.1.1 = 0) := fun q => absurd q.1 (by decide)
          rw [if_neg hz] at h
          walk_at "w"
          rw [con_r hS2]
          walk_at "w"
          refine ⟨⟨Z.c_R, Z.n_R _ (by decide)⟩, ?_⟩
          walk_at "w"
          refine ⟨⟨rfl, rfl⟩, ?_⟩
          walk_at "w"
          refine ⟨"sub", v.1, w.1, rfl, vokR (ga.v v rfl), vokR (gb.v w rfl), hz, by decide, ?_⟩
          exact ⟨sz_ok rfl, h⟩
      · walk_at "w"
        refine ⟨sz_ok rfl, ?_⟩
        walk_at "w"
        rw [con_r hS]
        walk_at "w"
        refine ⟨⟨rfl, rfl⟩, ?_⟩
        walk_at "w"
        refine ⟨R, L0, s, nm, q, a, vx, vy, rfl, rfl, hS, hN, hx, hy, ⟨_, rfl, ha⟩, ?_⟩
        have ga := evalE_ok (funM_ok hS.tk c) hN.ok.v hx hy ha s hS.st
        unfold evalE at h
        rcases ea : evalE (funM tab c) nm vx vy a s with ⟨r1, s1⟩
        rw [ea] at ga h
        rcases r1 with v | e
        rotate_left
        · exact h
        have hS1 := hS.go ga
        have hN1 := hN.go ga
        walk_at "w"
        rw [con_r hS1]
        walk_at "w"
        refine ⟨⟨rfl, rfl⟩, ?_⟩
        walk_at "w"
        refine ⟨R, L0, s1, nm, q, b, vx, vy, rfl, rfl, hS1, hN1, hx, hy, ⟨_, rfl, hb⟩, ?_⟩
        have gb := evalE_ok (funM_ok hS.tk c) hN.ok.v hx hy hb s1 hS1.st
        dsimp only at h
        rcases eb : evalE (funM tab c) nm vx vy b s1 with ⟨r2, s2⟩
        rw [eb] at gb h
        rcases r2 with w | e
        rotate_left
        · exact h
        have hS2 := hS1.go gb
        dsimp only at h
        walk_at "w"
        cases h10 : decide (10 < v.2 + w.2) with
        | true =>
          rw [if_pos (of_decide_eq_true h10)] at h
          walk_at "w"
          refine ⟨sz_ok rfl, ?_⟩
          exact h
        | false =>
          rw [if_neg (of_decide_eq_false h10)] at h
          have hz : ¬ (("mul" : Str) = "div" ∧ w.1.1 = 0) := fun q => absurd q.1 (by decide)
          rw [if_neg hz] at h
          walk_at "w"
          rw [con_r hS2]
          walk_at "w"
          refine ⟨⟨Z.c_R, Z.n_R _ (by decide)⟩, ?_⟩
          walk_at "w"
          refine ⟨⟨rfl, rfl⟩, ?_⟩
          walk_at "w"
          refine ⟨"mul", v.1, w.1, rfl, vokR (ga.v v rfl), vokR (gb.v w rfl), hz, by decide, ?_⟩
          exact ⟨sz_ok rfl, h⟩
      · walk_at "w"
        refine ⟨sz_ok rfl, ?_⟩
        walk_at "w"
        rw [con_r hS]
        walk_at "w"
        refine ⟨⟨rfl, rfl⟩, ?_⟩
        walk_at "w"
        refine ⟨R, L0, s, nm, q, a, vx, vy, rfl, rfl, hS, hN, hx, hy, ⟨_, rfl, ha⟩, ?_⟩
        have ga := evalE_ok (funM_ok hS.tk c) hN.ok.v hx hy ha s hS.st
        unfold evalE at h
        rcases ea : evalE (funM tab c) nm vx vy a s with ⟨r1, s1⟩
        rw [ea] at ga h
        rcases r1 with v | e
        rotate_left
        · exact h
        have hS1 := hS.go ga
        have hN1 := hN.go ga
        walk_at "w"
        rw [con_r hS1]
        walk_at "w"
        refine ⟨⟨rfl, rfl⟩, ?_⟩
        walk_at "w"
        refine ⟨R, L0, s1, nm, q, b, vx, vy, rfl, rfl, hS1, hN1, hx, hy, ⟨_, rfl, hb⟩, ?_⟩
        have gb := evalE_ok (funM_ok hS.tk c) hN.ok.v hx hy hb s1 hS1.st
        dsimp only at h
        rcases eb : evalE (funM tab c) nm vx vy b s1 with ⟨r2, s2⟩
        rw [eb] at gb h
        rcases r2 with w | e
        rotate_left
        · exact h
        have hS2 := hS1.go gb
        dsimp only at h
        walk_at "w"
        cases h10 : decide (10 < v.2 + w.2) with
        | true =>
          rw [if_pos (of_decide_eq_true h10)] at h
          walk_at "w"
          refine ⟨sz_ok rfl, ?_⟩
          exact h
        | false =>
          rw [if_neg (of_decide_eq_false h10)] at h
          walk_at "w"
          rw [con_r hS2]
          walk_at "w"
          refine ⟨⟨Z.c_R, Z.n_R _ (by decide)⟩, ?_⟩
          walk_at "w"
          refine ⟨⟨rfl, rfl⟩, ?_⟩
          walk_at "w"
          refine ⟨w.1, rfl, ?_⟩
          cases h0 : decide (w.1.1 = 0) with
          | true =>
            rw [if_pos ⟨rfl, of_decide_eq_true h0⟩] at h
            walk_at "w"
            refine ⟨sz_ok rfl, ?_⟩
            exact h
          | false =>
            have hz : ¬ (("div" : Str) = "div" ∧ w.1.1 = 0) := fun q => of_decide_eq_false h0 q.2
            rw [if_neg hz] at h
            walk_at "w"
            rw [con_r hS2]
            walk_at "w"
            refine ⟨⟨Z.c_R, Z.n_R _ (by decide)⟩, ?_⟩
            walk_at "w"
            refine ⟨⟨rfl, rfl⟩, ?_⟩
            walk_at "w"
            refine ⟨"div", v.1, w.1, rfl, vokR (ga.v v rfl), vokR (gb.v w rfl), hz, by decide, ?_⟩
            exact ⟨sz_ok rfl, h⟩
  · rintro ds L k x ⟨R, L0, s, nm, q, e, vx, vy, rfl, _⟩; rfl

/-- the outcome of an if: halted, or which block is executed -/
def outM (F : FUN) (nm : NMS) (x y : VAL) (t : Str) (a b : Ex) (s : RSt) : Option EE × Bool × RSt := match evalE F nm x y a s with
  | (.halt h, s1) => (some h, false, s1)
  | (.ok v, s1) => match evalE F nm x y b s1 with
    | (.halt h, s2) => (some h, false, s2)
    | (.ok w, s2) => if 10 < v.2 + w.2 then (some .heavy, false, s2) else (none, takes t (orderR v.1 w.1), ⟨s2.outs ++ [sgnS (orderR v.1 w.1)], s2.steps⟩)
def outO (cH : Addr) (R : RR) (L : Led) (k : D → Led → Prop) (x : Exn → Led → Prop) : Option EE × Bool × RSt → Prop
  | (none, g, s1) => k (.bl g) (st2 R L s1)
  | (some e, _, s1) => x (exnH cH e) (st2 R L s1)
def ocS (cP cR cH : Addr) (tab : TAB) (c : Nat) : DSp := fun ds L k x => ∃ R L0 s nm q t a b p r vx vy, ds = [.ptr R.r, .tup [.str "if", .str t, a.d, b.d, p, r], .ptr q, valD vx, valD vy] ∧ L = st2 R L0 s ∧ Sit cP cR tab R L0 s ∧ Nam R L0 q nm s ∧ VOk vx ∧ VOk vy ∧ t ∈ tests ∧ XpOk (Lv tab c) 7 a ∧ XpOk (Lv tab c) 7 b ∧ outO cH R L0 k x (outM (funM tab c) nm vx vy t a b s)
theorem sg_cases (z : Int) : sgI z = -1 ∨ sgI z = 0 ∨ sgI z = 1 := by
  unfold sgI
  by_cases h1 : 0 < z <;> by_cases h2 : z < 0 <;> simp [h1, h2]
theorem scRunnerOutcome : FnScope ["self", "statement", "names", "x", "y", "one", "other", "turn"] ["self", "statement", "names", "x", "y"] (defScope sRunnerOutcome) := ⟨rfl, rfl, rfl, by decide +kernel, rfl, by decide +kernel, by decide +kernel⟩
theorem ok_RunnerOutcome {f : Addr} {fd : FuncData} (Z : Zn w K mg pS cP cR cH) (F : Fun K "outcome" "Runner.outcome" sRunnerOutcome f fd) {tab : TAB} {c : Nat} (MPlainOrder : MCal P w K mg base 3 cP "order" ["self", "one", "other"] [] (pOrderS cP)) (MRunnerEvaluate : MCal P w K mg base (30 * c + 13) cR "evaluate" ["self", "expression", "names", "x", "y"] [] (evS cP cR cH tab c 8)) (E_Halt : ExCls P w K mg base "Halt" cH ["self", "end"] (spIf cH "end")) : FnOk P w K mg base (L2.CX P w) (30 * c + 13 + 1) f fd ["self", "statement", "names", "x", "y"] (spD K (ocS cP cR cH tab c)) := by
  refine fn_ok F scRunnerOutcome ?len (fun cdv A outer s H E hr => ?_)
  rotate_left
  · have tk := takes_of (X := cxOf (L2.CX P w) P w K mg base ["self", "statement", "names", "x", "y", "one", "other", "turn"] "Runner.outcome" (defScope sRunnerOutcome) f cdv A outer s H E) (E := E) rfl rfl rfl rfl
    have hp := passes_of (X := cxOf (L2.CX P w) P w K mg base ["self", "statement", "names", "x", "y", "one", "other", "turn"] "Runner.outcome" (defScope sRunnerOutcome) f cdv A outer s H E) rfl
    refine ⟨_, (ss_cons (s_set 5 scRunnerOutcome.nd (q_meth MRunnerEvaluate (by first | decide | exact Nat.le_refl _ | omega) hr tk (qv 0) (a_cons (q_ix (qv 1) q_int) (a_cons (qv 2) (a_cons (qv 3) (a_cons (qv 4) a_nil))))))
  (ss_cons (s_set 6 scRunnerOutcome.nd (q_meth MRunnerEvaluate (by first | decide | exact Nat.le_refl _ | omega) hr tk (qv 0) (a_cons (q_ix (qv 1) q_int) (a_cons (qv 2) (a_cons (qv 3) (a_cons (qv 4) a_nil))))))
  (ss_cons (s_if (t_cmp oq_gt (q_op oq_add (q_ix (qv 5) q_int) (q_ix (qv 6) q_int)) (q_globD Z.g_MOST_WEIGHT (by rfl))) (ss_one (s_raiseF E_Halt rfl hr (by first | decide | omega) tk (by rfl) (a_cons (q_tup (a_cons q_str a_nil)) a_nil))) ss_nil)
  (ss_cons (s_set 7 scRunnerOutcome.nd (q_meth MPlainOrder (by first | decide | exact Nat.le_refl _ | omega) hr tk (q_fld (K := K) rfl (qv 0)) (a_cons (q_ix (qv 5) q_int) (a_cons (q_ix (qv 6) q_int) a_nil))))
  (ss_cons (s_expr (q_append (q_fld (K := K) rfl (qv 0)) (q_ixS q_str (qv 7))))
  (ss_one (s_ret (q_cmp oq_inQ (qv 7) (q_ixDk hr.units (q_disp (p_cons q_str (q_tup (a_cons (q_neg q_int) a_nil)) (p_cons q_str (q_tup (a_cons q_int a_nil)) (p_cons q_str (q_tup (a_cons (q_neg q_int) (a_cons q_int a_nil))) p_nil)))) (q_ix (qv 1) q_int)))))))))), ?_⟩
    clear tk hp
    rintro ds L k x ⟨R, L0, s, nm, q, t, a, b, p, r, vx, vy, rfl, rfl, hS, hN, hx, hy, ht, ha, hb, h⟩
    unfold outM at h
    walk_at "w"
    rw [con_r hS]
    walk_at "w"
    refine ⟨⟨rfl, rfl⟩, ?_⟩
    walk_at "w"
    refine ⟨R, L0, s, nm, q, a, vx, vy, rfl, rfl, hS, hN, hx, hy, ⟨_, rfl, ha⟩, ?_⟩
    have ga := evalE_ok (funM_ok hS.tk c) hN.ok.v hx hy ha s hS.st
    rcases ea : evalE (funM tab c) nm vx vy a s with ⟨r1, s1⟩
    rw [ea] at ga h
    rcases r1 with v | e
    rotate_left
    · exact h
    have hS1 := hS.go ga
    have hN1 := hN.go ga
    walk_at "w"
    rw [con_r hS1]
    walk_at "w"
    refine ⟨⟨rfl, rfl⟩, ?_⟩
    walk_at "w"
    refine ⟨R, L0, s1, nm, q, b, vx, vy, rfl, rfl, hS1, hN1, hx, hy, ⟨_, rfl, hb⟩, ?_⟩
    have gb := evalE_ok (funM_ok hS.tk c) hN.ok.v hx hy hb s1 hS1.st
    dsimp only at h
    rcases eb : evalE (funM tab c) nm vx vy b s1 with ⟨r2, s2⟩
    rw [eb] at gb h
    rcases r2 with w | e
    rotate_left
    · exact h
    have hS2 := hS1.go gb
    dsimp only at h
    walk_at "w"
    cases h10 : decide (10 < v.2 + w.2) with
    | true =>
      rw [if_pos (of_decide_eq_true h10)] at h
      walk_at "w"
      refine ⟨sz_ok rfl, ?_⟩
      exact h
    | false =>
      rw [if_neg (of_decide_eq_false h10)] at h
      walk_at "w"
      rw [con_r hS2]
      walk_at "w"
      refine ⟨⟨Z.c_R, Z.n_R _ (by decide)⟩, ?_⟩
      walk_at "w"
      refine ⟨⟨rfl, rfl⟩, ?_⟩
      walk_at "w"
      refine ⟨v.1, w.1, rfl, vokR (ga.v v rfl), vokR (gb.v w rfl), ?_⟩
      walk_at "w"
      have hc : orderR v.1 w.1 = -1 ∨ orderR v.1 w.1 = 0 ∨ orderR v.1 w.1 = 1 := sg_cases _
      generalize orderR v.1 w.1 = tn at h hc ⊢
      rw [con_r hS2]
      walk_at "w"
      refine ⟨⟨Z.c_R, Z.n_R _ (by decide)⟩, ?_⟩
      walk_at "w"
      rw [st2_o hS2.b]
      have hsz : (s2.outs.map D.str).length < sizeLine := by
        have h1 := hS2.ou
        have h2 := hS2.st
        rw [List.length_map]
        exact Nat.lt_of_le_of_lt (Nat.le_trans h1 h2) (by decide)
      have key : ∀ z : Str, s2.outs.map D.str ++ [.str z] = (s2.outs ++ [z]).map D.str := fun z => by rw [List.map_append]; rfl
      rcases hc with rfl | rfl | rfl
      · walk_at "w"
        refine ⟨by decide, ?_⟩
        walk_at "w"
        rw [st2_o hS2.b]
        refine ⟨hsz, ?_⟩
        rw [key, st2_seto hS2.b]
        walk_at "w"
        intro p0 hp0
        walk_at "w"
        refine ⟨sz_ok rfl, ?_⟩
        walk_at "w"
        refine ⟨sz_ok rfl, ?_⟩
        walk_at "w"
        refine ⟨sz_ok rfl, ?_⟩
        walk_at "w"
        refine ⟨⟨lookup_top, by decide, by decide⟩, ?_⟩
        rw [remL_top hp0]
        simp only [tests, List.mem_cons, List.not_mem_nil, or_false] at ht
        rcases ht with rfl | rfl | rfl
        · exact h
        · exact h
        · exact h
      · walk_at "w"
        refine ⟨by decide, ?_⟩
        walk_at "w"
        rw [st2_o hS2.b]
        refine ⟨hsz, ?_⟩
        rw [key, st2_seto hS2.b]
        walk_at "w"
        intro p0 hp0
        walk_at "w"
        refine ⟨sz_ok rfl, ?_⟩
        walk_at "w"
        refine ⟨sz_ok rfl, ?_⟩
        walk_at "w"
        refine ⟨sz_ok rfl, ?_⟩
        walk_at "w"
        refine ⟨⟨lookup_top, by decide, by decide⟩, ?_⟩
        rw [remL_top hp0]
        simp only [tests, List.mem_cons, List.not_mem_nil, or_false] at ht
        rcases ht with rfl | rfl | rfl
        · exact h
        · exact h
        · exact h
      · walk_at "w"
        refine ⟨by decide, ?_⟩
        walk_at "w"
        rw [st2_o hS2.b]
        refine ⟨hsz, ?_⟩
        rw [key, st2_seto hS2.b]
        walk_at "w"
        intro p0 hp0
        walk_at "w"
        refine ⟨sz_ok rfl, ?_⟩
        walk_at "w"
        refine ⟨sz_ok rfl, ?_⟩
        walk_at "w"
        refine ⟨sz_ok rfl, ?_⟩
        walk_at "w"
        refine ⟨⟨lookup_top, by decide, by decide⟩, ?_⟩
        rw [remL_top hp0]
        simp only [tests, List.mem_cons, List.not_mem_nil, or_false] at ht
        rcases ht with rfl | rfl | rfl
        · exact h
        · exact h
        · exact h
  · rintro ds L k x ⟨R, L0, s, nm, q, t, a, b, p, r, vx, vy, rfl, _⟩; rfl
end
end T27

namespace T27
open PySem L2 DL
section
variable {P : Program} {w : World} {K : PySem.W.Frag} {mg : Str → Option Value} {base : Heap} {pS cP cR cH : Addr}
local macro_rules | `(tactic| walk_at "w") => `(tactic| conv => whnf)
local macro_rules | `(tactic| walk_at "v") => `(tactic| ((conv => whnf); try dsimp only))
local macro_rules | `(tactic| walk_at "s") => `(tactic| ((conv => whnf); repeat ((first | refine ⟨sz_ok rfl, ?_⟩ | refine ⟨rfl, ?_⟩); conv => whnf)))

def outB (cH : Addr) (R : RR) (L : Led) (q : Addr) (k : D → Led → Prop) (x : Exn → Led → Prop) : BR × NMS × RSt → Prop
  | (.done (some v), nm, s1) => k (.tup [.str "value", valD v]) (st2 R (setL L q (dkD nm)) s1)
  | (.done none, nm, s1) => k .non (st2 R (setL L q (dkD nm)) s1)
  | (.halt e, nm, s1) => x (exnH cH e) (st2 R (setL L q (dkD nm)) s1)
structure S3 (cP cR : Addr) (tab : TAB) (R : RR) (L : Led) (q : Addr) (nm : NMS) (s : RSt) : Prop where
  si : Sit cP cR tab R (setL L q (dkD nm)) s
  na : Nam R (setL L q (dkD nm)) q nm s
def blS (cP cR cH : Addr) (tab : TAB) (c m : Nat) : DSp := fun ds L k x => ∃ R L0 s nm q l vx vy, ds = [.ptr R.r, .tup (Sm.ds l), .ptr q, valD vx, valD vy] ∧ L = st2 R (setL L0 q (dkD nm)) s ∧ S3 cP cR tab R L0 q nm s ∧ VOk vx ∧ VOk vy ∧ (∃ m', m = m' + 1 ∧ smsOk (Lv tab c) m' l) ∧ outB cH R L0 q k x (blkM (funM tab c) vx vy l nm s)
theorem S3.put {tab : TAB} {R : RR} {L : Led} {q : Addr} {nm nm1 : NMS} {s s1 : RSt} (h : S3 cP cR tab R L q nm s) (h1 : s1.steps ≤ 60) (h2 : s1.outs.length ≤ s1.steps) (h3 : NOk nm1) (h4 : nm1.length ≤ s1.steps) : S3 cP cR tab R L q nm1 s1 := by
  have hin : inL L q := inL_setL.mp (inL_of_lookup h.na.lk)
  obtain ⟨d, hd⟩ := lookup_in hin
  exact ⟨⟨⟨inL_setL.mpr (inL_setL.mp h.si.b.r), inL_setL.mpr (inL_setL.mp h.si.b.o), h.si.b.ne⟩, h.si.eP, h.si.eR, h.si.et, h1, h2, h.si.tk⟩, ⟨h.na.n1, h.na.n2, lookup_setL hd, h3, h4⟩⟩
theorem look_r {tab : TAB} {R : RR} {L : Led} {s : RSt} (h : Sit cP cR tab R L s) : (st2 R L s).lookup R.r = some (.obj cR fldsR [.obj cP [] [], tabD tab, .ptr R.o, .int s.steps]) := by
  rw [st2_r h.b, h.eP, h.eR, h.et]
  rfl
theorem step_r {tab : TAB} {R : RR} {L : Led} {s : RSt} (h : Sit cP cR tab R L s) : setL (st2 R L s) R.r (.obj cR (putNs "steps" fldsR) (putVs "steps" (.int ((s.steps : Int) + 1)) fldsR [.obj cP [] [], tabD tab, .ptr R.o, .int s.steps])) = st2 R L ⟨s.outs, s.steps + 1⟩ := by
  have e := st2_setr (s := s) h.b (s.steps + 1)
  rw [h.eP, h.eR, h.et] at e
  exact e
theorem put_q {R : RR} {L : Led} {q : Addr} {nm : NMS} {s : RSt} (h1 : q ≠ R.r) (h2 : q ≠ R.o) (hn : NOk nm) (z : Str) (v : VAL) : setL (st2 R (setL L q (dkD nm)) s) q (.dk (putKk (.inr z) (nm.map fun p => .inr p.1)) (putKv (.inr z) (valD v) (nm.map fun p => .inr p.1) (nm.map fun p => valD p.2))) = st2 R (setL L q (dkD (putN z v nm))) s := by
  obtain ⟨e1, e2⟩ := putN_keys z v nm hn.nd
  rw [e1, e2, st2_setq h1 h2, setL_setL]
  rfl
theorem stm_if (F : FUN) (x y : VAL) (t : Str) (a b : Ex) (p r : List Sm) (nm : NMS) (s : RSt) : stmM F x y (.ifS t a b p r) nm s = match outM F nm x y t a b s with
    | (some e, _, s1) => (.halt e, nm, s1)
    | (none, true, s1) => blkM F x y p nm s1
    | (none, false, s1) => blkM F x y r nm s1 := by
  unfold stmM outM
  rcases evalE F nm x y a s with ⟨v | e, s1⟩
  · dsimp only
    rcases evalE F nm x y b s1 with ⟨w | e, s2⟩
    · dsimp only
      by_cases h : 10 < v.2 + w.2
      · rw [if_pos h, if_pos h]
      · rw [if_neg h, if_neg h]
        cases takes t (orderR v.1 w.1) <;> rfl
    · rfl
  · rfl
theorem outM_ok {F : FUN} {ks : Str → Prop} {nm : NMS} {x y : VAL} {t : Str} (hF : FOk F) (hn : ∀ p ∈ nm, VOk p.2) (hx : VOk x) (hy : VOk y) {m : Nat} {a b : Ex} (ha : XpOk ks m a) (hb : XpOk ks m b) {s s1 : RSt} {g : Bool} (hs : s.steps ≤ 60) (h : outM F nm x y t a b s = (none, g, s1)) : s1.steps ≤ 60 ∧ s.steps ≤ s1.steps ∧ s1.outs.length + s.steps ≤ s.outs.length + 1 + s1.steps := by
  have ga := evalE_ok hF hn hx hy ha s hs
  unfold outM at h
  rcases ea : evalE F nm x y a s with ⟨v | e, s2⟩
  · rw [ea] at ga h
    dsimp only at h
    have gb := evalE_ok hF hn hx hy hb s2 ga.lim
    rcases eb : evalE F nm x y b s2 with ⟨w | e, s3⟩
    · rw [eb] at gb h
      dsimp only at h
      by_cases h10 : 10 < v.2 + w.2
      · rw [if_pos h10] at h; cases h
      · rw [if_neg h10] at h
        cases h
        have g := ga.then gb
        have h1 := g.grow
        dsimp only at h1
        exact ⟨g.lim, g.mono, by show (s3.outs ++ [sgnS (orderR v.1 w.1)]).length + s.steps ≤ s.outs.length + 1 + s3.steps; rw [List.length_append, List.length_singleton]; omega⟩
    · rw [eb] at h; cases h
  · rw [ea] at h; cases h
theorem S3.gs {tab : TAB} {R : RR} {L : Led} {q : Addr} {nm nm1 : NMS} {s s1 : RSt} {b : BR} (h : S3 cP cR tab R L q nm s) (g : Gs nm ⟨s.outs, s.steps + 1⟩ (b, nm1, s1)) : S3 cP cR tab R L q nm1 s1 := by
  have h1 := g.lim
  have h2 := g.grow
  have h3 := g.len
  have h4 := h.si.ou
  have h5 := h.na.len
  dsimp only at h1 h2 h3
  exact h.put h1 (by omega) g.n (by omega)
theorem S3.gb {tab : TAB} {R : RR} {L : Led} {q : Addr} {nm nm1 : NMS} {s s1 : RSt} {b : BR} (h : S3 cP cR tab R L q nm s) (g : Gb nm s (b, nm1, s1)) : S3 cP cR tab R L q nm1 s1 := by
  have h1 := g.lim
  have h2 := g.grow
  have h3 := g.len
  have h4 := h.si.ou
  have h5 := h.na.len
  dsimp only at h1 h2 h3
  exact h.put h1 (by omega) g.n (by omega)
theorem S3.gd {tab : TAB} {R : RR} {L : Led} {q : Addr} {nm : NMS} {s s1 : RSt} {b : R1} (h : S3 cP cR tab R L q nm s) (g : Gd s (b, s1)) : S3 cP cR tab R L q nm s1 := ⟨h.si.go g, h.na.go g⟩
theorem scRunnerBlock : FnScope ["self", "statements", "names", "x", "y", "statement", "end", "chosen", "_"] ["self", "statements", "names", "x", "y"] (defScope sRunnerBlock) := ⟨rfl, rfl, rfl, by decide +kernel, rfl, by decide +kernel, by decide +kernel⟩
theorem ok_RunnerBlock {f : Addr} {fd : FuncData} (Z : Zn w K mg pS cP cR cH) (F : Fun K "block" "Runner.block" sRunnerBlock f fd) {tab : TAB} {c m : Nat} (MRunnerEvaluate : MCal P w K mg base (30 * c + 13) cR "evaluate" ["self", "expression", "names", "x", "y"] [] (evS cP cR cH tab c 8)) (MRunnerOutcome : MCal P w K mg base (30 * c + 14) cR "outcome" ["self", "statement", "names", "x", "y"] [] (ocS cP cR cH tab c)) (MRunnerBlock : MCal P w K mg base (30 * c + m + 14) cR "block" ["self", "statements", "names", "x", "y"] [] (blS cP cR cH tab c m)) (E_Halt : ExCls P w K mg base "Halt" cH ["self", "end"] (spIf cH "end")) : FnOk P w K mg base (L2.CX P w) (30 * c + m + 14 + 1) f fd ["self", "statements", "names", "x", "y"] (spD K (blS cP cR cH tab c (m + 1))) := by
  refine fn_ok F scRunnerBlock ?len (fun cdv A outer s H E hr => ?_)
  rotate_left
  · have tk := takes_of (X := cxOf (L2.CX P w) P w K mg base ["self", "statements", "names", "x", "y", "statement", "end", "chosen", "_"] "Runner.block" (defScope sRunnerBlock) f cdv A outer s H E) (E := E) rfl rfl rfl rfl
    have hp := passes_of (X := cxOf (L2.CX P w) P w K mg base ["self", "statements", "names", "x", "y", "statement", "end", "chosen", "_"] "Runner.block" (defScope sRunnerBlock) f cdv A outer s H E) rfl
    refine ⟨_, (ss_cons (s_for hp rfl (i_tup (qv 1)) (g_name 5 scRunnerBlock.nd) (ss_cons (s_if (t_cmp (oq_eqU hr.units) (q_fld (K := K) rfl (qv 0)) (q_globD Z.g_MOST_STEPS (by rfl))) (ss_one (s_raiseF E_Halt rfl hr (by first | decide | omega) tk (by rfl) (a_cons (q_tup (a_cons q_str a_nil)) a_nil))) ss_nil)
  (ss_cons (s_fldAdd (K := K) rfl (qv 0) q_int)
  (ss_cons (s_set 6 scRunnerBlock.nd q_non)
  (ss_cons (s_if (t_cmp (oq_eqU hr.units) (q_ix (qv 5) q_int) q_str) (ss_one (s_set 6 scRunnerBlock.nd (q_tup (a_cons q_str (a_cons (q_meth MRunnerEvaluate (by first | decide | exact Nat.le_refl _ | omega) hr tk (qv 0) (a_cons (q_ix (qv 5) q_int) (a_cons (qv 2) (a_cons (qv 3) (a_cons (qv 4) a_nil))))) a_nil))))) (ss_one (s_if (t_cmp (oq_eqU hr.units) (q_ix (qv 5) q_int) q_str) (ss_one (s_storeDk hr.units (q_meth MRunnerEvaluate (by first | decide | exact Nat.le_refl _ | omega) hr tk (qv 0) (a_cons (q_ix (qv 5) q_int) (a_cons (qv 2) (a_cons (qv 3) (a_cons (qv 4) a_nil))))) (qv 2) (q_ix (qv 5) q_int))) (ss_one (s_if (t_cmp (oq_eqU hr.units) (q_ix (qv 5) q_int) q_str) (ss_cons (s_set 7 scRunnerBlock.nd (q_if (t_val (q_meth MRunnerOutcome (by first | decide | exact Nat.le_refl _ | omega) hr tk (qv 0) (a_cons (qv 5) (a_cons (qv 2) (a_cons (qv 3) (a_cons (qv 4) a_nil)))))) q_int q_int))
  (ss_one (s_set 6 scRunnerBlock.nd (q_meth MRunnerBlock (by first | decide | exact Nat.le_refl _ | omega) hr tk (qv 0) (a_cons (q_ix (qv 5) (qv 7)) (a_cons (qv 2) (a_cons (qv 3) (a_cons (qv 4) a_nil)))))))) (ss_one (s_for hp rfl (i_range1 (by rfl) Z.z_range (a_cons (q_ix (qv 5) q_int) a_nil)) (g_name 8 scRunnerBlock.nd) (ss_one (s_set 6 scRunnerBlock.nd (q_if (t_cmp oq_isN (qv 6) q_non) (q_meth MRunnerBlock (by first | decide | exact Nat.le_refl _ | omega) hr tk (qv 0) (a_cons (q_ix (qv 5) q_int) (a_cons (qv 2) (a_cons (qv 3) (a_cons (qv 4) a_nil))))) (qv 6)))))))))))
  (ss_one (s_if (t_cmp oq_notN (qv 6) q_non) (ss_one (s_ret (qv 6))) ss_nil)))))))
  (ss_one (s_ret q_non))), ?_⟩
    clear tk hp
    rintro ds L k x ⟨R, L0, s, nm, q, l, vx, vy, rfl, rfl, hS, hx, hy, ⟨m', hm, hl⟩, h⟩
    cases hm
    walk_at "w"
    refine forD_rec (fun r env L' => ∃ (l' : List Sm) (nm : NMS) (s : RSt) (o5 o6 o7 o8 : Option D), r = Sm.ds l' ∧ env = [some (.ptr R.r), some (.tup (Sm.ds l)), some (.ptr q), some (valD vx), some (valD vy), o5, o6, o7, o8] ∧ L' = st2 R (setL L0 q (dkD nm)) s ∧ S3 cP cR tab R L0 q nm s ∧ smsOk (Lv tab c) m l' ∧ outB cH R L0 q k x (blkM (funM tab c) vx vy l' nm s)) ?step ?stop _ _ _ ⟨l, nm, s, none, none, none, none, rfl, rfl, rfl, hS, hl, h⟩
    case stop =>
      rintro env L' ⟨l', nm, s, o5, o6, o7, o8, hr, rfl, rfl, hS, hl, h⟩
      cases l' with
      | cons a b => cases hr
      | nil => exact h
    case step =>
      clear h hl hS nm s
      rintro E' st r env L' hrt hex hbk hct ⟨l', nm, s, o5, o6, o7, o8, hr, rfl, rfl, hS, hl, h⟩ hnx
      cases l' with
      | nil => cases hr
      | cons st r =>
      cases hr
      have hx' : ∀ e env, x (exnH cH e) env → ∀ z, E'.ex (exnH cH e) z env := fun e env h z => by rw [hex]; exact h
      have hr' : ∀ d L, k d L → E'.rt d L := fun d L h => by rw [hrt]; exact h
      have hl2 : smOk (Lv tab c) m st ∧ smsOk (Lv tab c) m r := by unfold smsOk at hl; exact hl
      unfold blkM at h
      walk_at "w"
      rw [con_r hS.si]
      walk_at "w"
      refine ⟨⟨Z.c_R, Z.n_R _ (by decide)⟩, ?_⟩
      walk_at "w"
      by_cases h60 : s.steps = 60
      · rw [if_pos h60] at h
        rw [h60]
        walk_at "w"
        refine ⟨sz_ok rfl, ?_⟩
        exact hx' .long _ h _
      rw [if_neg h60] at h
      rw [show flEq (.int (s.steps : Int)) (.int 60) = false from fl_ne (by omega)]
      walk_at "w"
      rw [look_r hS.si]
      walk_at "w"
      refine ⟨⟨Z.c_R, Z.n_R _ (by decide)⟩, ?_⟩
      walk_at "w"
      rw [look_r hS.si]
      walk_at "w"
      refine ⟨⟨rfl, by decide⟩, ?_⟩
      rw [show setL (st2 R (setL L0 q (dkD nm)) s) R.r _ = _ from step_r hS.si]
      have hst : s.steps + 1 ≤ 60 := by have := hS.si.st; omega
      have gS := stmM_ok (funM_ok hS.si.tk c) hx hy m st nm ⟨s.outs, s.steps + 1⟩ hl2.1 hS.na.ok hst
      have hS1 : S3 cP cR tab R L0 q nm ⟨s.outs, s.steps + 1⟩ := hS.put hst (by have := hS.si.ou; show s.outs.length ≤ s.steps + 1; omega) hS.na.ok (by have := hS.na.len; show nm.length ≤ s.steps + 1; omega)
      cases st with
      | stop e =>
        have he : XpOk (Lv tab c) 7 e := by have := hl2.1; unfold smOk at this; exact this
        unfold stmM at h gS
        walk_at "w"
        rw [con_r hS1.si]
        walk_at "w"
        refine ⟨⟨rfl, rfl⟩, ?_⟩
        walk_at "w"
        refine ⟨R, _, _, nm, q, e, vx, vy, rfl, rfl, hS1.si, hS1.na, hx, hy, ⟨_, rfl, he⟩, ?_⟩
        rcases ev : evalE (funM tab c) nm vx vy e ⟨s.outs, s.steps + 1⟩ with ⟨r1, s1⟩
        rw [ev] at h gS
        rcases r1 with v | e
        · walk_at "w"
          refine ⟨sz_ok rfl, ?_⟩
          exact hr' _ _ h
        · exact hx' e _ h _
      | letS z e =>
        have he : XpOk (Lv tab c) 7 e := by have := hl2.1; unfold smOk at this; exact this
        unfold stmM at h gS
        walk_at "w"
        rw [con_r hS1.si]
        walk_at "w"
        refine ⟨⟨rfl, rfl⟩, ?_⟩
        walk_at "w"
        refine ⟨R, _, _, nm, q, e, vx, vy, rfl, rfl, hS1.si, hS1.na, hx, hy, ⟨_, rfl, he⟩, ?_⟩
        rcases ev : evalE (funM tab c) nm vx vy e ⟨s.outs, s.steps + 1⟩ with ⟨r1, s1⟩
        rw [ev] at h gS
        rcases r1 with v | e
        · walk_at "w"
          rw [st2_q hS.na.n1 hS.na.n2, hS.na.lk]
          walk_at "w"
          refine ⟨by rw [List.length_map]; exact Nat.lt_of_le_of_lt (Nat.le_trans hS.na.len hS.si.st) (by decide), ?_⟩
          rw [put_q hS.na.n1 hS.na.n2 hS.na.ok z v]
          walk_at "w"
          exact hnx _ _ ⟨r, _, s1, _, _, _, _, rfl, rfl, rfl, hS.gs gS, hl2.2, h⟩
        · exact hx' e _ h _
      | ifS t a b p r2 =>
        obtain ⟨ht, ha, hb, m', em, hp, hq⟩ : t ∈ tests ∧ XpOk (Lv tab c) 7 a ∧ XpOk (Lv tab c) 7 b ∧ ∃ m', m = m' + 1 ∧ smsOk (Lv tab c) m' p ∧ smsOk (Lv tab c) m' r2 := by have := hl2.1; unfold smOk at this; exact this
        have ok := fun g s1 => outM_ok (t := t) (funM_ok hS.si.tk c) hS.na.ok.v hx hy ha hb (s := ⟨s.outs, s.steps + 1⟩) (s1 := s1) (g := g) hst
        rw [stm_if] at h gS
        walk_at "w"
        rw [con_r hS1.si]
        walk_at "w"
        refine ⟨⟨rfl, rfl⟩, ?_⟩
        walk_at "w"
        refine ⟨R, _, _, nm, q, t, a, b, _, _, vx, vy, rfl, rfl, hS1.si, hS1.na, hx, hy, ht, ha, hb, ?_⟩
        rcases ev : outM (funM tab c) nm vx vy t a b ⟨s.outs, s.steps + 1⟩ with ⟨_ | e, g, s1⟩
        rotate_left
        · rw [ev] at h gS
          exact hx' e _ h _
        obtain ⟨k1, k2, k3⟩ := ok g s1 ev
        dsimp only at k1 k2 k3
        have hS2 : S3 cP cR tab R L0 q nm s1 := hS.put k1 (by have := hS.si.ou; omega) hS.na.ok (by have := hS.na.len; omega)
        rw [ev] at h gS
        cases g with
        | true =>
          dsimp only at h gS
          walk_at "w"
          rw [con_r hS2.si]
          walk_at "w"
          refine ⟨⟨rfl, rfl⟩, ?_⟩
          walk_at "w"
          refine ⟨R, L0, s1, nm, q, p, vx, vy, rfl, rfl, hS2, hx, hy, ⟨m', em, hp⟩, ?_⟩
          rcases eb : blkM (funM tab c) vx vy p nm s1 with ⟨b1, nm1, s2⟩
          rw [eb] at h gS
          rcases b1 with e | o
          · exact hx' e _ h _
          · rcases o with _ | v
            · walk_at "w"
              exact hnx _ _ ⟨r, _, s2, _, _, _, _, rfl, rfl, rfl, hS.gs gS, hl2.2, h⟩
            · walk_at "w"
              exact hr' _ _ h
        | false =>
          dsimp only at h gS
          walk_at "w"
          rw [con_r hS2.si]
          walk_at "w"
          refine ⟨⟨rfl, rfl⟩, ?_⟩
          walk_at "w"
          refine ⟨R, L0, s1, nm, q, r2, vx, vy, rfl, rfl, hS2, hx, hy, ⟨m', em, hq⟩, ?_⟩
          rcases eb : blkM (funM tab c) vx vy r2 nm s1 with ⟨b1, nm1, s2⟩
          rw [eb] at h gS
          rcases b1 with e | o
          · exact hx' e _ h _
          · rcases o with _ | v
            · walk_at "w"
              exact hnx _ _ ⟨r, _, s2, _, _, _, _, rfl, rfl, rfl, hS.gs gS, hl2.2, h⟩
            · walk_at "w"
              exact hr' _ _ h
      | rep n b =>
        obtain ⟨h9, m', em, hb⟩ : n ≤ 9 ∧ ∃ m', m = m' + 1 ∧ smsOk (Lv tab c) m' b := by have := hl2.1; unfold smOk at this; exact this
        unfold stmM at h gS
        walk_at "w"
        refine ⟨⟨by omega, by omega⟩, ?_⟩
        show forD _ _ _ (rngD 0 n) _ _
        generalize hR : repM (blkM (funM tab c) vx vy b) n nm ⟨s.outs, s.steps + 1⟩ = RES at h gS
        refine forD_rec (fun r2 env L' => ∃ (nm' : NMS) (s' : RSt) (e6 : D) (o8 : Option D), env = [some (.ptr R.r), some (.tup (Sm.ds l)), some (.ptr q), some (valD vx), some (valD vy), some (Sm.rep n b).d, some e6, o7, o8] ∧ L' = st2 R (setL L0 q (dkD nm')) s' ∧ S3 cP cR tab R L0 q nm' s' ∧ ((e6 = .non ∧ repM (blkM (funM tab c) vx vy b) r2.length nm' s' = RES) ∨ ∃ v, e6 = .tup [.str "value", valD v] ∧ RES = (.done (some v), nm', s'))) ?step ?stop _ _ _ ⟨nm, _, .non, o8, rfl, rfl, hS1, .inl ⟨rfl, by rw [rngD_len]; exact hR⟩⟩
        case stop =>
          rintro env L' ⟨nm', s', e6, o8, rfl, rfl, hS2, ⟨rfl, hq⟩ | ⟨v, rfl, hq⟩⟩
          · have hq : (BR.done none, nm', s') = RES := hq
            subst hq
            walk_at "w"
            exact hnx _ _ ⟨r, _, s', _, _, _, _, rfl, rfl, rfl, hS2, hl2.2, h⟩
          · subst hq
            walk_at "w"
            exact hr' _ _ h
        case step =>
          rintro E2 d r2 env L' hrt2 hex2 hbk2 hct2 ⟨nm', s', e6, o8, rfl, rfl, hS2, ⟨rfl, hq⟩ | ⟨v, rfl, hq⟩⟩ hnx2
          · walk_at "w"
            rw [con_r hS2.si]
            walk_at "w"
            refine ⟨⟨rfl, rfl⟩, ?_⟩
            walk_at "w"
            refine ⟨R, L0, s', nm', q, b, vx, vy, rfl, rfl, hS2, hx, hy, ⟨m', em, hb⟩, ?_⟩
            have gB := blkM_ok (funM_ok hS.si.tk c) hx hy m' b nm' s' hb hS2.na.ok hS2.si.st
            have hq : (match blkM (funM tab c) vx vy b nm' s' with
              | (.done none, nm1, s1) => repM (blkM (funM tab c) vx vy b) r2.length nm1 s1
              | r => r) = RES := hq
            rcases eb : blkM (funM tab c) vx vy b nm' s' with ⟨b1, nm1, s2⟩
            rw [eb] at hq gB
            rcases b1 with e | o
            · subst hq
              show E2.ex _ _ _
              rw [hex2]
              exact hx' e _ h _
            · rcases o with _ | v
              · walk_at "w"
                exact hnx2 _ _ ⟨nm1, s2, .non, _, rfl, rfl, hS2.gb gB, .inl ⟨rfl, hq⟩⟩
              · walk_at "w"
                exact hnx2 _ _ ⟨nm1, s2, _, _, rfl, rfl, hS2.gb gB, .inr ⟨v, rfl, hq.symm⟩⟩
          · walk_at "w"
            exact hnx2 _ _ ⟨nm', s', _, _, rfl, rfl, hS2, .inr ⟨v, rfl, hq⟩⟩
  · rintro ds L k x ⟨R, L0, s, nm, q, l, vx, vy, rfl, _⟩; rfl
end
end T27

namespace T27
open PySem L2 DL
section
variable {P : Program} {w : World} {K : PySem.W.Frag} {mg : Str → Option Value} {base : Heap} {pS cP cR cH : Addr}
local macro_rules | `(tactic| walk_at "w") => `(tactic| conv => whnf)
local macro_rules | `(tactic| walk_at "v") => `(tactic| ((conv => whnf); try dsimp only))
local macro_rules | `(tactic| walk_at "s") => `(tactic| ((conv => whnf); repeat ((first | refine ⟨sz_ok rfl, ?_⟩ | refine ⟨rfl, ?_⟩); conv => whnf)))

theorem fn_weak {n : Nat} {f : Addr} {fd : FuncData} {ps : List Str} {g h : DSp} (F : FnOk P w K mg base (L2.CX P w) n f fd ps (spD K g)) (e : ∀ ds L k x, h ds L k x → g ds L k x) : FnOk P w K mg base (L2.CX P w) n f fd ps (spD K h) := by
  have key : ∀ vs H Q E, spD K h vs H Q E → spD K g vs H Q E := fun vs H Q E q => by
    obtain ⟨ds, L, k, x, j, r, q, hk, hx⟩ := q
    exact ⟨ds, L, k, x, j, r, e ds L k x q, hk, hx⟩
  exact ⟨fun vs H Q E q => F.len vs H Q E (key vs H Q E q), fun A outer s H args us vs Q E hr e0 hb hv q => F.run A outer s H args us vs Q E hr e0 hb hv (key vs H Q E q)⟩
def outXr (cH : Addr) (R : RR) (L : Led) (p : Addr) (k : D → Led → Prop) (x : Exn → Led → Prop) : BR × NMS × RSt → Prop
  | (.done (some v), nm, s1) => k (.tup [.str "value", valD v]) (st2 R ((p, dkD nm) :: L) s1)
  | (.done none, nm, s1) => k (.tup [.str "none"]) (st2 R ((p, dkD nm) :: L) s1)
  | (.halt e, nm, s1) => x (exnH cH e) (st2 R ((p, dkD nm) :: L) s1)
def exR (cP cR cH : Addr) (tab : TAB) (c : Nat) : DSp := fun ds L k x => ∃ R L0 s p vx vy, ds = [.ptr R.r, .tup (Sm.ds p), valD vx, valD vy] ∧ L = st2 R L0 s ∧ Sit cP cR tab R L0 s ∧ VOk vx ∧ VOk vy ∧ smsOk (Lv tab c) 5 p ∧ ∀ q, ¬ inL L0 q → outXr cH R L0 q k x (blkM (funM tab c) vx vy p [] s)
theorem scRunnerExecute : FnScope ["self", "program", "x", "y", "end"] ["self", "program", "x", "y"] (defScope sRunnerExecute) := ⟨rfl, rfl, rfl, by decide +kernel, rfl, by decide +kernel, by decide +kernel⟩
theorem ok_RunnerExecute {f : Addr} {fd : FuncData} (Z : Zn w K mg pS cP cR cH) (F : Fun K "execute" "Runner.execute" sRunnerExecute f fd) {tab : TAB} {c : Nat} (MRunnerBlock : MCal P w K mg base (30 * c + 20) cR "block" ["self", "statements", "names", "x", "y"] [] (blS cP cR cH tab c 6)) : FnOk P w K mg base (L2.CX P w) (30 * c + 29 + 1) f fd ["self", "program", "x", "y"] (spD K (exR cP cR cH tab c)) := by
  refine fn_ok F scRunnerExecute ?len (fun cdv A outer s H E hr => ?_)
  rotate_left
  · have tk := takes_of (X := cxOf (L2.CX P w) P w K mg base ["self", "program", "x", "y", "end"] "Runner.execute" (defScope sRunnerExecute) f cdv A outer s H E) (E := E) rfl rfl rfl rfl
    have hp := passes_of (X := cxOf (L2.CX P w) P w K mg base ["self", "program", "x", "y", "end"] "Runner.execute" (defScope sRunnerExecute) f cdv A outer s H E) rfl
    refine ⟨_, (ss_cons (s_set 4 scRunnerExecute.nd (q_meth MRunnerBlock (by first | decide | exact Nat.le_refl _ | omega) hr tk (qv 0) (a_cons (qv 1) (a_cons q_dnewM (a_cons (qv 2) (a_cons (qv 3) a_nil))))))
  (ss_one (s_ret (q_if (t_cmp oq_isN (qv 4) q_non) (q_tup (a_cons q_str a_nil)) (qv 4))))), ?_⟩
    clear tk hp
    rintro ds L k x ⟨R, L0, s, p, vx, vy, rfl, rfl, hS, hx, hy, hp, h⟩
    walk_at "w"
    rw [con_r hS]
    walk_at "w"
    refine ⟨⟨rfl, rfl⟩, ?_⟩
    walk_at "w"
    intro q hq
    have hq : ¬ inL L0 q := fun m => hq (by unfold inL; rw [st2_keys]; exact m)
    have n1 : q ≠ R.r := fun e => hq (e ▸ hS.b.r)
    have n2 : q ≠ R.o := fun e => hq (e ▸ hS.b.o)
    have h := h q hq
    walk_at "w"
    have e0 : setL ((q, dkD []) :: L0) q (dkD []) = (q, dkD []) :: L0 := setL_top hq
    have e1 : ∀ nm, setL ((q, dkD []) :: L0) q (dkD nm) = (q, dkD nm) :: L0 := fun nm => setL_top hq
    refine ⟨R, (q, dkD []) :: L0, s, [], q, p, vx, vy, rfl, ?_, ?_, hx, hy, ⟨_, rfl, hp⟩, ?_⟩
    · rw [e0]; exact st2_cons n1 n2 _
    · have b := hS.b.cons q (dkD [])
      rw [← e0] at b
      exact ⟨⟨b, hS.eP, hS.eR, hS.et, hS.st, hS.ou, hS.tk⟩, ⟨n1, n2, by rw [e0]; exact List.lookup_cons_self, ⟨fun p hp => (List.not_mem_nil hp).elim, List.nodup_nil⟩, Nat.zero_le _⟩⟩
    · rcases eb : blkM (funM tab c) vx vy p [] s with ⟨b, nm1, s1⟩
      rw [eb] at h
      rcases b with e | o
      · dsimp only [outB]
        rw [e1]
        exact h
      · rcases o with _ | v
        · dsimp only [outB]
          rw [e1]
          walk_at "w"
          refine ⟨sz_ok rfl, ?_⟩
          exact h
        · dsimp only [outB]
          rw [e1]
          walk_at "w"
          exact h
  · rintro ds L k x ⟨R, L0, s, p, vx, vy, rfl, _⟩; rfl

theorem keep_st {R : RR} {L : Led} {s s1 : RSt} {q : Addr} {d : D} (b : B2 R L) (hq : ¬ inL L q) : keepL (st2 R L s) (st2 R ((q, d) :: L) s1) = st2 R L s1 := by
  have n1 : q ≠ R.r := fun e => hq (e ▸ b.r)
  have n2 : q ≠ R.o := fun e => hq (e ▸ b.o)
  rw [← st2_cons n1 n2, keep_out (fun m => hq (by unfold inL at m; rw [st2_keys] at m; exact m)), keep_same (by rw [st2_keys, st2_keys])]
theorem ok_exec {f : Addr} {fd : FuncData} {tab : TAB} {c : Nat} (Z : Zn w K mg pS cP cR cH) (F : Fun K "execute" "Runner.execute" sRunnerExecute f fd) (M : MCal P w K mg base (30 * c + 20) cR "block" ["self", "statements", "names", "x", "y"] [] (blS cP cR cH tab c 6)) : FnOk P w K mg base (L2.CX P w) (30 * c + 29 + 1) f fd ["self", "program", "x", "y"] (spD K (exS cP cR cH tab (c + 1))) := by
  refine fn_weak (fn_tidy (ok_RunnerExecute Z F M)) ?_
  rintro ds L k x ⟨R, L0, s, p, vx, vy, rfl, rfl, hS, hx, hy, hp, h⟩
  refine ⟨R, L0, s, p, vx, vy, rfl, rfl, hS, hx, hy, hp, fun q hq => ?_⟩
  rcases eb : blkM (funM tab c) vx vy p [] s with ⟨b, nm1, s1⟩
  rw [eb] at h
  rcases b with e | o
  · show x _ (keepL _ _)
    rw [keep_st hS.b hq]
    exact h
  · rcases o with _ | v
    · show k _ (keepL _ _)
      rw [keep_st hS.b hq]
      exact h
    · show k _ (keepL _ _)
      rw [keep_st hS.b hq]
      exact h
theorem con_o {tab : TAB} {R : RR} {L : Led} {s : RSt} (h : Sit cP cR tab R L s) : con (st2 R L s) (.ptr R.o) = .lst (s.outs.map D.str) := by
  show ((st2 R L s).lookup R.o).getD _ = _
  rw [st2_o h.b]
  rfl
theorem hsz {tab : TAB} {R : RR} {L : Led} {s : RSt} (h : Sit cP cR tab R L s) : (s.outs.map D.str).length ≤ sizeLine := by
  rw [List.length_map]
  exact Nat.le_trans (Nat.le_trans h.ou h.st) (by decide)
def whS (cP cR cH : Addr) (tab : TAB) (c : Nat) : DSp := fun ds L k _ => ∃ R L0 p x y, ds = [.ptr R.r, .tup (Sm.ds p), rtD x, rtD y] ∧ L = st2 R L0 ⟨[], 0⟩ ∧ Sit cP cR tab R L0 ⟨[], 0⟩ ∧ VOk (x, 1) ∧ VOk (y, 1) ∧ smsOk (Lv tab c) 5 p ∧ ∀ s, k (wholeD (execM (funM tab c) p (x, 1) (y, 1) ⟨[], 0⟩)) (st2 R L0 s)
theorem scRunnerWhole : FnScope ["self", "program", "x", "y", "end", "halt"] ["self", "program", "x", "y"] (defScope sRunnerWhole) := ⟨rfl, rfl, rfl, by decide +kernel, rfl, by decide +kernel, by decide +kernel⟩
theorem ok_RunnerWhole {f : Addr} {fd : FuncData} (Z : Zn w K mg pS cP cR cH) (F : Fun K "whole" "Runner.whole" sRunnerWhole f fd) {tab : TAB} {c : Nat} (MRunnerExecute : MCal P w K mg base (30 * c + 30) cR "execute" ["self", "program", "x", "y"] [] (exS cP cR cH tab (c + 1))) (n_Halt : mg "Halt" = some (.ref cH)) (XM : PySem.W.exmOne K (.ref cH) (.ref cH) = some true) : FnOk P w K mg base (L2.CX P w) (30 * c + 30 + 1) f fd ["self", "program", "x", "y"] (spD K (whS cP cR cH tab c)) := by
  refine fn_ok F scRunnerWhole ?len (fun cdv A outer s H E hr => ?_)
  rotate_left
  · have tk := takes_of (X := cxOf (L2.CX P w) P w K mg base ["self", "program", "x", "y", "end", "halt"] "Runner.whole" (defScope sRunnerWhole) f cdv A outer s H E) (E := E) rfl rfl rfl rfl
    have hp := passes_of (X := cxOf (L2.CX P w) P w K mg base ["self", "program", "x", "y", "end", "halt"] "Runner.whole" (defScope sRunnerWhole) f cdv A outer s H E) rfl
    refine ⟨_, (ss_cons (s_try 5 rfl rfl scRunnerWhole.nd (tst_one ⟨by rfl, by decide, .inl n_Halt⟩) tk (fun W pn xe tk hp => (ss_one (s_set 4 scRunnerWhole.nd (q_meth MRunnerExecute (by first | decide | exact Nat.le_refl _ | omega) hr tk (qv 0) (a_cons (qv 1) (a_cons (q_tup (a_cons (qv 2) (a_cons q_int a_nil))) (a_cons (q_tup (a_cons (qv 3) (a_cons q_int a_nil))) a_nil))))))) (fun a pn => (ss_one (s_set 4 scRunnerWhole.nd (q_atEK (K := K) rfl (qv 5))))))
  (ss_cons (s_if (t_cmp (oq_eqU hr.units) (q_ix (qv 4) q_int) q_str) (ss_one (s_set 4 scRunnerWhole.nd (q_tup (a_cons q_str (a_cons (q_ix (q_ix (qv 4) q_int) q_int) a_nil))))) ss_nil)
  (ss_one (s_ret (q_tup (a_cons (q_callTy cq_tuple (by rfl) Z.z_tuple bb_tuple (a_cons (q_fld (K := K) rfl (qv 0)) a_nil)) (a_cons (qv 4) a_nil))))))), ?_⟩
    clear tk hp
    rintro ds L k x ⟨R, L0, p, vx, vy, rfl, rfl, hS, hx, hy, hp, h⟩
    walk_at "w"
    rw [con_r hS]
    walk_at "w"
    refine ⟨⟨rfl, rfl⟩, ?_⟩
    walk_at "w"
    refine ⟨sz_ok rfl, ?_⟩
    walk_at "w"
    refine ⟨sz_ok rfl, ?_⟩
    walk_at "w"
    refine ⟨R, L0, _, p, _, _, rfl, rfl, hS, hx, hy, hp, ?_⟩
    have gE := execM_ok (funM_ok hS.tk c) hp hx hy ⟨[], 0⟩ hS.st
    unfold execM at h gE
    rcases eb : blkM (funM tab c) (vx, 1) (vy, 1) p [] ⟨[], 0⟩ with ⟨b, nm1, s1⟩
    rw [eb] at h gE
    rcases b with e | o
    · have hS1 := hS.go gE
      show ∃ b, _ ∧ _
      refine ⟨true, XM, cH, rfl, ?_⟩
      walk_at "w"
      refine ⟨Z.h_end, ?_⟩
      cases e with
      | unset z =>
        walk_at "w"
        rw [con_r hS1]
        walk_at "w"
        refine ⟨⟨Z.c_R, Z.n_R _ (by decide)⟩, ?_⟩
        walk_at "w"
        rw [con_o hS1]
        walk_at "w"
        exact ⟨sz_ok rfl, h s1⟩
      | heavy =>
        walk_at "w"
        rw [con_r hS1]
        walk_at "w"
        refine ⟨⟨Z.c_R, Z.n_R _ (by decide)⟩, ?_⟩
        walk_at "w"
        rw [con_o hS1]
        walk_at "w"
        exact ⟨sz_ok rfl, h s1⟩
      | zero =>
        walk_at "w"
        rw [con_r hS1]
        walk_at "w"
        refine ⟨⟨Z.c_R, Z.n_R _ (by decide)⟩, ?_⟩
        walk_at "w"
        rw [con_o hS1]
        walk_at "w"
        exact ⟨sz_ok rfl, h s1⟩
      | long =>
        walk_at "w"
        rw [con_r hS1]
        walk_at "w"
        refine ⟨⟨Z.c_R, Z.n_R _ (by decide)⟩, ?_⟩
        walk_at "w"
        rw [con_o hS1]
        walk_at "w"
        exact ⟨sz_ok rfl, h s1⟩
      | none =>
        walk_at "w"
        rw [con_r hS1]
        walk_at "w"
        refine ⟨⟨Z.c_R, Z.n_R _ (by decide)⟩, ?_⟩
        walk_at "w"
        rw [con_o hS1]
        walk_at "w"
        exact ⟨sz_ok rfl, h s1⟩
    · rcases o with _ | v
      · have hS1 := hS.go gE
        walk_at "w"
        rw [con_r hS1]
        walk_at "w"
        refine ⟨⟨Z.c_R, Z.n_R _ (by decide)⟩, ?_⟩
        walk_at "w"
        rw [con_o hS1]
        walk_at "w"
        exact ⟨sz_ok rfl, h s1⟩
      · have hS1 := hS.go gE
        walk_at "w"
        refine ⟨sz_ok rfl, ?_⟩
        walk_at "w"
        rw [con_r hS1]
        walk_at "w"
        refine ⟨⟨Z.c_R, Z.n_R _ (by decide)⟩, ?_⟩
        walk_at "w"
        rw [con_o hS1]
        walk_at "w"
        exact ⟨sz_ok rfl, h s1⟩
  · rintro ds L k x ⟨R, L0, p, vx, vy, rfl, _⟩; rfl

def inS (cP cR : Addr) : DSp := fun ds L k _ => ∃ r tb L1, ds = [.ptr r, .obj cP [] [], tb] ∧ L = (r, .obj cR [] []) :: L1 ∧ ¬ inL L1 r ∧ ∀ o, o ≠ r → ¬ inL L1 o → k .non ((o, .lst []) :: (r, runD cP cR tb o 0) :: L1)
theorem scRunnerInit : FnScope ["self", "arithmetic", "table"] ["self", "arithmetic", "table"] (defScope sRunnerInit) := ⟨rfl, rfl, rfl, by decide +kernel, rfl, by decide +kernel, by decide +kernel⟩
theorem ok_RunnerInit {f : Addr} {fd : FuncData} (Z : Zn w K mg pS cP cR cH) (F : Fun K "__init__" "Runner.__init__" sRunnerInit f fd) : FnOk P w K mg base (L2.CX P w) 1 f fd ["self", "arithmetic", "table"] (spD K (inS cP cR)) := by
  refine fn_ok F scRunnerInit ?len (fun cdv A outer s H E hr => ?_)
  rotate_left
  · have tk := takes_of (X := cxOf (L2.CX P w) P w K mg base ["self", "arithmetic", "table"] "Runner.__init__" (defScope sRunnerInit) f cdv A outer s H E) (E := E) rfl rfl rfl rfl
    have hp := passes_of (X := cxOf (L2.CX P w) P w K mg base ["self", "arithmetic", "table"] "Runner.__init__" (defScope sRunnerInit) f cdv A outer s H E) rfl
    refine ⟨_, (ss_cons (s_fld (K := K) rfl (qv 1) (qv 0))
  (ss_cons (s_fld (K := K) rfl (qv 2) (qv 0))
  (ss_cons (s_fld (K := K) rfl (q_lstM a_nil) (qv 0))
  (ss_one (s_fld (K := K) rfl q_int (qv 0)))))), ?_⟩
    clear tk hp
    rintro ds L k x ⟨r, tb, L1, rfl, rfl, hr0, h⟩
    walk_at "w"
    rw [lookup_top]
    walk_at "w"
    refine ⟨⟨Z.c_R, Z.n_R _ (by decide), by decide⟩, ?_⟩
    rw [setL_top hr0]
    walk_at "w"
    rw [lookup_top]
    walk_at "w"
    refine ⟨⟨Z.c_R, Z.n_R _ (by decide), by decide⟩, ?_⟩
    rw [setL_top hr0]
    walk_at "w"
    refine ⟨by decide, fun o ho => ?_⟩
    have n1 : o ≠ r := fun e => ho (inL_cons.mpr (.inl e))
    have n2 : ¬ inL L1 o := fun m => ho (inL_cons.mpr (.inr m))
    walk_at "w"
    rw [lookup_ne (Ne.symm n1), lookup_top]
    walk_at "w"
    refine ⟨⟨Z.c_R, Z.n_R _ (by decide), by decide⟩, ?_⟩
    rw [setL_ne n1, setL_top hr0]
    walk_at "w"
    rw [lookup_ne (Ne.symm n1), lookup_top]
    walk_at "w"
    refine ⟨⟨Z.c_R, Z.n_R _ (by decide), by decide⟩, ?_⟩
    rw [setL_ne n1, setL_top hr0]
    exact h o n1 n2
  · rintro ds L k x ⟨r, tb, L1, rfl, _⟩; rfl
end
end T27

namespace T27
open PySem L2 DL
section
variable {P : Program} {w : World} {K : PySem.W.Frag} {mg : Str → Option Value} {base : Heap} {pS cP cR cH : Addr}
local macro_rules | `(tactic| walk_at "w") => `(tactic| conv => whnf)
local macro_rules | `(tactic| walk_at "v") => `(tactic| ((conv => whnf); try dsimp only))
local macro_rules | `(tactic| walk_at "s") => `(tactic| ((conv => whnf); repeat ((first | refine ⟨sz_ok rfl, ?_⟩ | refine ⟨rfl, ?_⟩); conv => whnf)))

def callsE : Ex → List Str
  | .call f a b => f :: (callsE a ++ callsE b)
  | .bin _ a b => callsE a ++ callsE b
  | _ => []
theorem callsE_call (f : Str) (a b : Ex) : callsE (.call f a b) = f :: (callsE a ++ callsE b) := rfl
theorem callsE_bin (z : Str) (a b : Ex) : callsE (.bin z a b) = callsE a ++ callsE b := rfl
mutual
def callsS : Sm → List Str
  | .letS _ e => callsE e
  | .stop e => callsE e
  | .rep _ b => callsB b
  | .ifS _ a b p q => callsE a ++ callsE b ++ (callsB p ++ callsB q)
def callsB : List Sm → List Str
  | [] => []
  | s :: r => callsS s ++ callsB r
end
def exprsX : Sm → List Ex
  | .letS _ e => [e]
  | .stop e => [e]
  | .rep _ _ => []
  | .ifS _ a b _ _ => [a, b]
def blocksX : Sm → List (List Sm)
  | .rep _ b => [b]
  | .ifS _ _ _ p q => [p, q]
  | _ => []
theorem calls_split (s : Sm) : callsS s = (exprsX s).flatMap callsE ++ (blocksX s).flatMap callsB := by
  cases s <;> simp [callsS, exprsX, blocksX]
def exprsS : DSp := fun ds L k _ => ∃ s : Sm, ds = [s.d] ∧ k (.lst ((exprsX s).map Ex.d)) L
def blocksS : DSp := fun ds L k _ => ∃ s : Sm, ds = [s.d] ∧ k (.lst ((blocksX s).map fun b => .tup (Sm.ds b))) L
def ncS (m : Nat) : DSp := fun ds L k _ => ∃ e ks m', ds = [e.d] ∧ m = m' + 1 ∧ XpOk ks m' e ∧ (callsE e).length ≤ sizeLine ∧ k (.lst ((callsE e).map D.str)) L
def cnS (m : Nat) : DSp := fun ds L k _ => ∃ l ks m', ds = [.tup (Sm.ds l)] ∧ m = m' + 1 ∧ smsOk ks m' l ∧ (callsB l).length ≤ sizeLine ∧ k (.lst ((callsB l).map D.str)) L
theorem scExpressionsOf : FnScope ["statement"] ["statement"] (defScope sExpressionsOf) := ⟨rfl, rfl, rfl, by decide +kernel, rfl, by decide +kernel, by decide +kernel⟩
theorem ok_ExpressionsOf {f : Addr} {fd : FuncData} (Z : Zn w K mg pS cP cR cH) (F : Fun K "expressions_of" "expressions_of" sExpressionsOf f fd) : FnOk P w K mg base (L2.CX P w) 1 f fd ["statement"] (spD K exprsS) := by
  refine fn_ok F scExpressionsOf ?len (fun cdv A outer s H E hr => ?_)
  rotate_left
  · have tk := takes_of (X := cxOf (L2.CX P w) P w K mg base ["statement"] "expressions_of" (defScope sExpressionsOf) f cdv A outer s H E) (E := E) rfl rfl rfl rfl
    have hp := passes_of (X := cxOf (L2.CX P w) P w K mg base ["statement"] "expressions_of" (defScope sExpressionsOf) f cdv A outer s H E) rfl
    refine ⟨_, (ss_cons (s_if (t_cmp (oq_eqU hr.units) (q_ix (qv 0) q_int) q_str) (ss_one (s_ret (q_lst (a_cons (q_ix (qv 0) q_int) (a_cons (q_ix (qv 0) q_int) a_nil))))) ss_nil)
  (ss_cons (s_if (t_cmp (oq_eqU hr.units) (q_ix (qv 0) q_int) q_str) (ss_one (s_ret (q_lst (a_cons (q_ix (qv 0) q_int) a_nil)))) ss_nil)
  (ss_one (s_ret (q_if (t_cmp (oq_eqU hr.units) (q_ix (qv 0) q_int) q_str) (q_lst (a_cons (q_ix (qv 0) q_int) a_nil)) (q_lst a_nil)))))), ?_⟩
    clear tk hp
    rintro ds L k x ⟨s, rfl, h⟩
    cases s with
    | letS z e => walk_at "w"; exact ⟨sz_ok rfl, h⟩
    | stop e => walk_at "w"; exact ⟨sz_ok rfl, h⟩
    | rep n b => walk_at "w"; exact ⟨sz_ok rfl, h⟩
    | ifS t a b p q => walk_at "w"; exact ⟨sz_ok rfl, h⟩
  · rintro ds L k x ⟨s, rfl, _⟩; rfl
theorem scBlocksOf : FnScope ["statement"] ["statement"] (defScope sBlocksOf) := ⟨rfl, rfl, rfl, by decide +kernel, rfl, by decide +kernel, by decide +kernel⟩
theorem ok_BlocksOf {f : Addr} {fd : FuncData} (Z : Zn w K mg pS cP cR cH) (F : Fun K "blocks_of" "blocks_of" sBlocksOf f fd) : FnOk P w K mg base (L2.CX P w) 1 f fd ["statement"] (spD K blocksS) := by
  refine fn_ok F scBlocksOf ?len (fun cdv A outer s H E hr => ?_)
  rotate_left
  · have tk := takes_of (X := cxOf (L2.CX P w) P w K mg base ["statement"] "blocks_of" (defScope sBlocksOf) f cdv A outer s H E) (E := E) rfl rfl rfl rfl
    have hp := passes_of (X := cxOf (L2.CX P w) P w K mg base ["statement"] "blocks_of" (defScope sBlocksOf) f cdv A outer s H E) rfl
    refine ⟨_, (ss_cons (s_if (t_cmp (oq_eqU hr.units) (q_ix (qv 0) q_int) q_str) (ss_one (s_ret (q_lst (a_cons (q_ix (qv 0) q_int) (a_cons (q_ix (qv 0) q_int) a_nil))))) ss_nil)
  (ss_one (s_ret (q_if (t_cmp (oq_eqU hr.units) (q_ix (qv 0) q_int) q_str) (q_lst (a_cons (q_ix (qv 0) q_int) a_nil)) (q_lst a_nil))))), ?_⟩
    clear tk hp
    rintro ds L k x ⟨s, rfl, h⟩
    cases s with
    | letS z e => walk_at "w"; exact ⟨sz_ok rfl, h⟩
    | stop e => walk_at "w"; exact ⟨sz_ok rfl, h⟩
    | rep n b => walk_at "w"; exact ⟨sz_ok rfl, h⟩
    | ifS t a b p q => walk_at "w"; exact ⟨sz_ok rfl, h⟩
  · rintro ds L k x ⟨s, rfl, _⟩; rfl
theorem scNamesCalledIn : FnScope ["expression"] ["expression"] (defScope sNamesCalledIn) := ⟨rfl, rfl, rfl, by decide +kernel, rfl, by decide +kernel, by decide +kernel⟩
theorem ok_NamesCalledIn {f : Addr} {fd : FuncData} (Z : Zn w K mg pS cP cR cH) (F : Fun K "names_called_in" "names_called_in" sNamesCalledIn f fd) (CNamesCalledIn : Cal P w K mg base m "names_called_in" ["expression"] [] (ncS m)) : FnOk P w K mg base (L2.CX P w) (m + 1) f fd ["expression"] (spD K (ncS (m + 1))) := by
  refine fn_ok F scNamesCalledIn ?len (fun cdv A outer s H E hr => ?_)
  rotate_left
  · have tk := takes_of (X := cxOf (L2.CX P w) P w K mg base ["expression"] "names_called_in" (defScope sNamesCalledIn) f cdv A outer s H E) (E := E) rfl rfl rfl rfl
    have hp := passes_of (X := cxOf (L2.CX P w) P w K mg base ["expression"] "names_called_in" (defScope sNamesCalledIn) f cdv A outer s H E) rfl
    refine ⟨_, (ss_cons (s_if (t_cmp (oq_eqU hr.units) (q_ix (qv 0) q_int) q_str) (ss_one (s_ret (q_op oq_add (q_op oq_add (q_lst (a_cons (q_ix (qv 0) q_int) a_nil)) (q_cal CNamesCalledIn (by first | decide | exact Nat.le_refl _ | omega) hr tk (by rfl) (a_cons (q_ix (qv 0) q_int) a_nil))) (q_cal CNamesCalledIn (by first | decide | exact Nat.le_refl _ | omega) hr tk (by rfl) (a_cons (q_ix (qv 0) q_int) a_nil))))) ss_nil)
  (ss_cons (s_if (t_cmp (oq_inKD Z.d_SIGNS) (q_ix (qv 0) q_int) (q_globD Z.g_SIGNS (by rfl))) (ss_one (s_ret (q_op oq_add (q_cal CNamesCalledIn (by first | decide | exact Nat.le_refl _ | omega) hr tk (by rfl) (a_cons (q_ix (qv 0) q_int) a_nil)) (q_cal CNamesCalledIn (by first | decide | exact Nat.le_refl _ | omega) hr tk (by rfl) (a_cons (q_ix (qv 0) q_int) a_nil))))) ss_nil)
  (ss_one (s_ret (q_lst a_nil))))), ?_⟩
    clear tk hp
    rintro ds L k x ⟨e, ks, m', rfl, hm, he, hl, h⟩
    cases hm
    cases he with
    | num h1 h2 =>
      walk_at "w"
      refine ⟨rfl, ?_⟩
      exact ⟨sz_ok rfl, h⟩
    | lx =>
      walk_at "w"
      refine ⟨rfl, ?_⟩
      exact ⟨sz_ok rfl, h⟩
    | ly =>
      walk_at "w"
      refine ⟨rfl, ?_⟩
      exact ⟨sz_ok rfl, h⟩
    | nm =>
      walk_at "w"
      refine ⟨rfl, ?_⟩
      exact ⟨sz_ok rfl, h⟩
    | @call _ f a b hf ha hb =>
      have hl' : (callsE a).length + (callsE b).length + 1 ≤ sizeLine := by
        have e : (callsE (.call f a b)).length = (callsE a).length + (callsE b).length + 1 := by rw [callsE_call, List.length_cons, List.length_append]
        omega
      walk_at "w"
      refine ⟨sz_ok rfl, ?_⟩
      walk_at "w"
      refine ⟨a, ks, _, rfl, rfl, ha, by omega, ?_⟩
      walk_at "w"
      refine ⟨by rw [List.length_map, List.length_singleton]; omega, ?_⟩
      walk_at "w"
      refine ⟨b, ks, _, rfl, rfl, hb, by omega, ?_⟩
      walk_at "w"
      refine ⟨by rw [List.length_append, List.length_map, List.length_map, List.length_singleton]; omega, ?_⟩
      have e : [D.str f] ++ (callsE a).map D.str ++ (callsE b).map D.str = (callsE (.call f a b)).map D.str := by
        rw [callsE_call, List.map_cons, List.map_append, List.append_assoc]
        rfl
      rw [e]
      exact h
    | @bin _ z a b ho ha hb =>
      have hl' : (callsE a).length + (callsE b).length ≤ sizeLine := by
        have e : (callsE (.bin z a b)).length = (callsE a).length + (callsE b).length := by rw [callsE_bin, List.length_append]
        omega
      have e : (callsE a).map D.str ++ (callsE b).map D.str = (callsE (.bin z a b)).map D.str := by
        rw [callsE_bin, List.map_append]
      simp only [List.mem_cons, List.not_mem_nil, or_false] at ho
      rcases ho with rfl | rfl | rfl | rfl
      · walk_at "w"
        refine ⟨rfl, ?_⟩
        walk_at "w"
        refine ⟨a, ks, _, rfl, rfl, ha, by omega, ?_⟩
        walk_at "w"
        refine ⟨b, ks, _, rfl, rfl, hb, by omega, ?_⟩
        walk_at "w"
        refine ⟨by rw [List.length_map, List.length_map]; omega, ?_⟩
        rw [e]
        exact h
      · walk_at "w"
        refine ⟨rfl, ?_⟩
        walk_at "w"
        refine ⟨a, ks, _, rfl, rfl, ha, by omega, ?_⟩
        walk_at "w"
        refine ⟨b, ks, _, rfl, rfl, hb, by omega, ?_⟩
        walk_at "w"
        refine ⟨by rw [List.length_map, List.length_map]; omega, ?_⟩
        rw [e]
        exact h
      · walk_at "w"
        refine ⟨rfl, ?_⟩
        walk_at "w"
        refine ⟨a, ks, _, rfl, rfl, ha, by omega, ?_⟩
        walk_at "w"
        refine ⟨b, ks, _, rfl, rfl, hb, by omega, ?_⟩
        walk_at "w"
        refine ⟨by rw [List.length_map, List.length_map]; omega, ?_⟩
        rw [e]
        exact h
      · walk_at "w"
        refine ⟨rfl, ?_⟩
        walk_at "w"
        refine ⟨a, ks, _, rfl, rfl, ha, by omega, ?_⟩
        walk_at "w"
        refine ⟨b, ks, _, rfl, rfl, hb, by omega, ?_⟩
        walk_at "w"
        refine ⟨by rw [List.length_map, List.length_map]; omega, ?_⟩
        rw [e]
        exact h
  · rintro ds L k x ⟨e, ks, m', rfl, _⟩; rfl
theorem scCalledNames : FnScope ["program", "found", "statement", "expression", "block"] ["program"] (defScope sCalledNames) := ⟨rfl, rfl, rfl, by decide +kernel, rfl, by decide +kernel, by decide +kernel⟩
theorem ok_CalledNames {f : Addr} {fd : FuncData} (Z : Zn w K mg pS cP cR cH) (F : Fun K "called_names" "called_names" sCalledNames f fd) (CExpressionsOf : Cal P w K mg base 1 "expressions_of" ["statement"] [] exprsS) (CBlocksOf : Cal P w K mg base 1 "blocks_of" ["statement"] [] blocksS) (CNamesCalledIn : Cal P w K mg base 8 "names_called_in" ["expression"] [] (ncS 8)) (CCalledNames : Cal P w K mg base (m + 8) "called_names" ["program"] [] (cnS m)) : FnOk P w K mg base (L2.CX P w) (m + 8 + 1) f fd ["program"] (spD K (cnS (m + 1))) := by
  refine fn_ok F scCalledNames ?len (fun cdv A outer s H E hr => ?_)
  rotate_left
  · have tk := takes_of (X := cxOf (L2.CX P w) P w K mg base ["program", "found", "statement", "expression", "block"] "called_names" (defScope sCalledNames) f cdv A outer s H E) (E := E) rfl rfl rfl rfl
    have hp := passes_of (X := cxOf (L2.CX P w) P w K mg base ["program", "found", "statement", "expression", "block"] "called_names" (defScope sCalledNames) f cdv A outer s H E) rfl
    refine ⟨_, (ss_cons (s_set 1 scCalledNames.nd (q_lstM a_nil))
  (ss_cons (s_for hp rfl (i_tup (qv 0)) (g_name 2 scCalledNames.nd) (ss_cons (s_for hp rfl (i_list (q_cal CExpressionsOf (by first | decide | exact Nat.le_refl _ | omega) hr tk (by rfl) (a_cons (qv 2) a_nil))) (g_name 3 scCalledNames.nd) (ss_one (s_aug 1 scCalledNames.nd (q_cal CNamesCalledIn (by first | decide | exact Nat.le_refl _ | omega) hr tk (by rfl) (a_cons (qv 3) a_nil)) ip_addQ)))
  (ss_one (s_for hp rfl (i_list (q_cal CBlocksOf (by first | decide | exact Nat.le_refl _ | omega) hr tk (by rfl) (a_cons (qv 2) a_nil))) (g_name 4 scCalledNames.nd) (ss_one (s_aug 1 scCalledNames.nd (q_cal CCalledNames (by first | decide | exact Nat.le_refl _ | omega) hr tk (by rfl) (a_cons (qv 4) a_nil)) ip_addQ))))))
  (ss_one (s_ret (q_seal 1))))), ?_⟩
    clear tk hp
    rintro ds L k x ⟨l, ks, m', rfl, hm, hs, hl, h⟩
    cases hm
    walk_at "w"
    refine ⟨sz_ok rfl, fun p hp => ?_⟩
    walk_at "w"
    have st : ∀ (v c : D), setL ((p, c) :: L) p v = (p, v) :: L := fun v c => setL_top hp
    refine forD_rec (fun r env L' => ∃ (l' : List Sm) (pre : List Str) (o2 o3 o4 : Option D), r = Sm.ds l' ∧ env = [some (.tup (Sm.ds l)), some (.ptr p), o2, o3, o4] ∧ L' = (p, .lst (pre.map D.str)) :: L ∧ smsOk ks m l' ∧ pre ++ callsB l' = callsB l) ?step ?fin _ _ _ ⟨l, [], none, none, none, rfl, rfl, rfl, hs, rfl⟩
    case fin =>
      rintro env L' ⟨l', pre, o2, o3, o4, hr, rfl, rfl, hs, he⟩
      cases l' with
      | cons a b => cases hr
      | nil =>
        walk_at "w"
        rw [lookup_top]
        walk_at "w"
        rw [remL_top hp]
        have he : pre ++ [] = callsB l := he
        rw [List.append_nil] at he
        rw [he]
        exact h
    case step =>
      clear hs
      rintro E' s r env L' hrt hex hbk hct ⟨l', pre, o2, o3, o4, hr, rfl, rfl, hs, he⟩ hnx
      cases l' with
      | nil => cases hr
      | cons s r =>
      cases hr
      have hs2 : smOk ks m s ∧ smsOk ks m r := by unfold smsOk at hs; exact hs
      have he : pre ++ (callsS s ++ callsB r) = callsB l := he
      rw [calls_split] at he
      have hE : ∀ e ∈ exprsX s, XpOk ks 7 e := by
        have h1 := hs2.1
        intro e me
        cases s with
        | letS z e0 => unfold smOk at h1; cases List.mem_singleton.mp me; exact h1
        | stop e0 => unfold smOk at h1; cases List.mem_singleton.mp me; exact h1
        | rep n b => cases me
        | ifS t a b p q =>
          unfold smOk at h1
          rcases List.mem_cons.mp me with rfl | me
          · exact h1.2.1
          · cases List.mem_singleton.mp me; exact h1.2.2.1
      have hB : ∀ b ∈ blocksX s, ∃ m', m = m' + 1 ∧ smsOk ks m' b := by
        have h1 := hs2.1
        intro e me
        cases s with
        | letS z e0 => cases me
        | stop e0 => cases me
        | rep n b => unfold smOk at h1; cases List.mem_singleton.mp me; exact h1.2
        | ifS t a b p q =>
          unfold smOk at h1
          obtain ⟨_, _, _, m', em, hp, hq⟩ := h1
          rcases List.mem_cons.mp me with rfl | me
          · exact ⟨m', em, hp⟩
          · cases List.mem_singleton.mp me; exact ⟨m', em, hq⟩
      walk_at "w"
      refine ⟨s, rfl, ?_⟩
      walk_at "w"
      refine forD_rec (fun r2 env L' => ∃ (es : List Ex) (pre2 : List Str) (o3 : Option D), r2 = es.map Ex.d ∧ env = [some (.tup (Sm.ds l)), some (.ptr p), some s.d, o3, o4] ∧ L' = (p, .lst (pre2.map D.str)) :: L ∧ (∀ e ∈ es, XpOk ks 7 e) ∧ pre2 ++ es.flatMap callsE = pre ++ (exprsX s).flatMap callsE) ?step ?fin _ _ _ ⟨exprsX s, pre, o3, rfl, rfl, rfl, hE, rfl⟩
      case step =>
        rintro E2 d r2 env L' hrt2 hex2 hbk2 hct2 ⟨es, pre2, o3, hr, rfl, rfl, hes, hq⟩ hnx2
        cases es with
        | nil => cases hr
        | cons e es =>
        cases hr
        have hq2 : pre2 ++ (callsE e ++ es.flatMap callsE) = pre ++ (exprsX s).flatMap callsE := hq
        have hlen : pre2.length + (callsE e).length ≤ sizeLine := by
          have h1 := congrArg List.length hq2
          have h2 := congrArg List.length he
          simp only [List.length_append] at h1 h2
          omega
        walk_at "w"
        refine ⟨e, ks, 7, rfl, rfl, hes e List.mem_cons_self, by omega, ?_⟩
        walk_at "w"
        rw [lookup_top]
        walk_at "w"
        refine ⟨by rw [List.length_map, List.length_map]; exact hlen, ?_⟩
        rw [st]
        refine hnx2 _ _ ⟨es, pre2 ++ callsE e, some e.d, rfl, rfl, by rw [List.map_append], fun e he => hes e (List.mem_cons_of_mem _ he), by rw [List.append_assoc]; exact hq2⟩
      case fin =>
        rintro env L' ⟨es, pre2, o3, hr, rfl, rfl, hes, hq⟩
        cases es with
        | cons a b => cases hr
        | nil =>
        have hq : pre2 ++ [] = pre ++ (exprsX s).flatMap callsE := hq
        rw [List.append_nil] at hq
        walk_at "w"
        refine ⟨s, rfl, ?_⟩
        walk_at "w"
        refine forD_rec (fun r2 env L' => ∃ (bs : List (List Sm)) (pre3 : List Str) (o4 : Option D), r2 = bs.map (fun b => .tup (Sm.ds b)) ∧ env = [some (.tup (Sm.ds l)), some (.ptr p), some s.d, o3, o4] ∧ L' = (p, .lst (pre3.map D.str)) :: L ∧ (∀ b ∈ bs, ∃ m', m = m' + 1 ∧ smsOk ks m' b) ∧ pre3 ++ bs.flatMap callsB = pre2 ++ (blocksX s).flatMap callsB) ?step ?fin _ _ _ ⟨blocksX s, pre2, o4, rfl, rfl, rfl, hB, rfl⟩
        case fin =>
          rintro env L' ⟨bs, pre3, o4, hr, rfl, rfl, hes, hq3⟩
          cases bs with
          | cons a b => cases hr
          | nil =>
          have hq3 : pre3 ++ [] = pre2 ++ (blocksX s).flatMap callsB := hq3
          rw [List.append_nil] at hq3
          exact hnx _ _ ⟨r, pre3, _, _, _, rfl, rfl, rfl, hs2.2, by rw [hq3, hq, ← he]; simp only [List.append_assoc]⟩
        case step =>
          rintro E2 d r2 env L' hrt2 hex2 hbk2 hct2 ⟨bs, pre3, o4, hr, rfl, rfl, hbs, hq3⟩ hnx2
          cases bs with
          | nil => cases hr
          | cons b bs =>
          cases hr
          have hq4 : pre3 ++ (callsB b ++ bs.flatMap callsB) = pre2 ++ (blocksX s).flatMap callsB := hq3
          have hlen : pre3.length + (callsB b).length ≤ sizeLine := by
            have h1 := congrArg List.length hq4
            have h2 := congrArg List.length he
            have h3 := congrArg List.length hq
            simp only [List.length_append] at h1 h2 h3
            omega
          obtain ⟨m', em, hb⟩ := hbs b List.mem_cons_self
          walk_at "w"
          refine ⟨b, ks, m', rfl, em, hb, by omega, ?_⟩
          walk_at "w"
          rw [lookup_top]
          walk_at "w"
          refine ⟨by rw [List.length_map, List.length_map]; exact hlen, ?_⟩
          rw [st]
          refine hnx2 _ _ ⟨bs, pre3 ++ callsB b, some (.tup (Sm.ds b)), rfl, rfl, by rw [List.map_append], fun e he => hbs e (List.mem_cons_of_mem _ he), by rw [List.append_assoc]; exact hq4⟩
  · rintro ds L k x ⟨l, ks, m', rfl, _⟩; rfl
end
end T27

namespace T27
open PySem L2 DL
section
variable {P : Program} {w : World} {K : PySem.W.Frag} {mg : Str → Option Value} {base : Heap} {pS cP cR cH : Addr}
local macro_rules | `(tactic| walk_at "w") => `(tactic| conv => whnf)
local macro_rules | `(tactic| walk_at "v") => `(tactic| ((conv => whnf); try dsimp only))
local macro_rules | `(tactic| walk_at "s") => `(tactic| ((conv => whnf); repeat ((first | refine ⟨sz_ok rfl, ?_⟩ | refine ⟨rfl, ?_⟩); conv => whnf)))

theorem callsE_ok {ks : Str → Prop} {m : Nat} {e : Ex} (h : XpOk ks m e) : ∀ f ∈ callsE e, ks f := by
  induction h with
  | num _ _ => intro f hf; cases hf
  | lx => intro f hf; cases hf
  | ly => intro f hf; cases hf
  | nm => intro f hf; cases hf
  | call h0 _ _ ia ib =>
    intro f hf
    rw [callsE_call] at hf
    rcases List.mem_cons.mp hf with rfl | hf
    · exact h0
    · rcases List.mem_append.mp hf with hf | hf
      · exact ia f hf
      · exact ib f hf
  | bin _ _ _ ia ib =>
    intro f hf
    rw [callsE_bin] at hf
    rcases List.mem_append.mp hf with hf | hf
    · exact ia f hf
    · exact ib f hf
mutual
theorem callsS_ok {ks : Str → Prop} : ∀ (m : Nat) (s : Sm), smOk ks m s → ∀ f ∈ callsS s, ks f
  | m, .letS z e, h, f, hf => by
    unfold smOk at h
    unfold callsS at hf
    exact callsE_ok h f hf
  | m, .stop e, h, f, hf => by
    unfold smOk at h
    unfold callsS at hf
    exact callsE_ok h f hf
  | m, .rep n b, h, f, hf => by
    unfold smOk at h
    unfold callsS at hf
    obtain ⟨_, m', _, hb⟩ := h
    exact callsB_ok m' b hb f hf
  | m, .ifS t a b p q, h, f, hf => by
    unfold smOk at h
    unfold callsS at hf
    obtain ⟨_, ha, hb, m', _, hp, hq⟩ := h
    rcases List.mem_append.mp hf with hf | hf
    · rcases List.mem_append.mp hf with hf | hf
      · exact callsE_ok ha f hf
      · exact callsE_ok hb f hf
    · rcases List.mem_append.mp hf with hf | hf
      · exact callsB_ok m' p hp f hf
      · exact callsB_ok m' q hq f hf
theorem callsB_ok {ks : Str → Prop} : ∀ (m : Nat) (l : List Sm), smsOk ks m l → ∀ f ∈ callsB l, ks f
  | m, [], _, f, hf => by unfold callsB at hf; cases hf
  | m, s :: r, h, f, hf => by
    unfold smsOk at h
    unfold callsB at hf
    rcases List.mem_append.mp hf with hf | hf
    · exact callsS_ok m s h.1 f hf
    · exact callsB_ok m r h.2 f hf
end
def chk (cs : List Str) : D := .dk (cs.map fun z => .inr z) (cs.map fun _ => .bl true)
theorem len_sub : ∀ {cs T : List Str}, cs.Nodup → (∀ z ∈ cs, z ∈ T) → cs.length ≤ T.length
  | [], _, _, _ => Nat.zero_le _
  | a :: r, T, h, hs => by
    rw [List.nodup_cons] at h
    have ha : a ∈ T := hs a List.mem_cons_self
    have h1 := len_sub (T := T.erase a) h.2 fun z hz => (List.mem_erase_of_ne (fun e => h.1 (by rw [← e]; exact hz))).mpr (hs z (List.mem_cons_of_mem _ hz))
    have h2 := List.length_erase_of_mem ha
    have h3 := List.length_pos_of_mem ha
    rw [List.length_cons]
    omega
theorem chk_look (z : Str) : ∀ cs : List Str, lookK (cs.map fun z => (Sum.inr z : Key)) (cs.map fun _ => D.bl true) (.inr z) = if z ∈ cs then some (.bl true) else none
  | [] => rfl
  | a :: r => by
    show (if (Sum.inr a : Key) = .inr z then some (D.bl true) else lookK _ _ _) = _
    by_cases e : a = z
    · subst e; rw [if_pos rfl, if_pos List.mem_cons_self]
    · rw [if_neg (fun h => e (by injection h)), chk_look z r]
      by_cases m : z ∈ r
      · rw [if_pos m, if_pos (List.mem_cons_of_mem _ m)]
      · rw [if_neg m, if_neg (fun h => (List.mem_cons.mp h).elim (fun q => e q.symm) m)]
theorem chk_put (z : Str) (cs : List Str) : ∃ cs', (∀ a, a ∈ cs' ↔ a ∈ cs ∨ a = z) ∧ (cs.Nodup → cs'.Nodup) ∧ D.dk (putKk (.inr z) (cs.map fun z => .inr z)) (putKv (.inr z) (.bl true) (cs.map fun z => .inr z) (cs.map fun _ => .bl true)) = chk cs' := by
  by_cases m : z ∈ cs
  · refine ⟨cs, fun a => ⟨.inl, fun h => h.elim id fun e => e ▸ m⟩, id, ?_⟩
    have e1 : ((cs.map fun z => (Sum.inr z : Key)).any fun a => decide (a = .inr z)) = true := List.any_eq_true.mpr ⟨.inr z, List.mem_map.mpr ⟨z, m, rfl⟩, decide_eq_true rfl⟩
    unfold putKk putKv chk
    rw [if_pos e1, if_pos e1]
    have e2 : ∀ l : List Str, setK (.inr z) (D.bl true) (l.map fun z => (Sum.inr z : Key)) (l.map fun _ => D.bl true) = l.map fun _ => D.bl true := by
      intro l
      induction l with
      | nil => rfl
      | cons a r ih =>
        show (if (Sum.inr a : Key) = .inr z then D.bl true else D.bl true) :: setK _ _ _ _ = _
        rw [ih]
        by_cases q : (Sum.inr a : Key) = .inr z
        · rw [if_pos q]; rfl
        · rw [if_neg q]; rfl
    rw [e2]
  · refine ⟨cs ++ [z], fun a => by rw [List.mem_append, List.mem_singleton], fun h => List.nodup_append.mpr ⟨h, by simp, fun a ha b hb => by rw [List.mem_singleton.mp hb]; intro e; exact m (e ▸ ha)⟩, ?_⟩
    have e1 : ¬ ((cs.map fun z => (Sum.inr z : Key)).any fun a => decide (a = .inr z)) = true := fun h => by
      obtain ⟨a, ha, e⟩ := List.any_eq_true.mp h
      obtain ⟨y, hy, rfl⟩ := List.mem_map.mp ha
      have e := of_decide_eq_true e
      injection e with e
      exact m (e ▸ hy)
    unfold putKk putKv chk
    rw [if_neg e1, if_neg e1, List.map_append, List.map_append]
    rfl
structure CkOk (tab : TAB) (cs : List Str) : Prop where
  nd : cs.Nodup
  sub : ∀ z ∈ cs, z ∈ tab.map (·.1)
structure TabOk (tab : TAB) : Prop where
  len : tab.length < sizeLine
  few : ∀ f p, tab.lookup f = some p → (callsB p).length ≤ sizeLine
def ccS : Nat → DSp
  | 0 => fun _ _ _ _ => False
  | c + 1 => fun ds L k _ => ∃ tab p q L0 cs, ds = [.tup (Sm.ds p), tabD tab, .ptr q] ∧ L = setL L0 q (chk cs) ∧ inL L0 q ∧ CkOk tab cs ∧ TabOk tab ∧ smsOk (Lv tab c) 5 p ∧ (callsB p).length ≤ sizeLine ∧ ∀ cs', CkOk tab cs' → k .non (setL L0 q (chk cs'))
theorem mem_lookup : ∀ {tab : TAB} {f : Str} {p : List Sm}, tab.lookup f = some p → f ∈ tab.map (·.1)
  | [], _, _, h => by cases h
  | (a, b) :: r, f, p, h => by
    rw [List.lookup_cons] at h
    cases hb : f == a with
    | true => rw [eq_of_beq hb]; exact List.mem_cons_self
    | false => rw [hb] at h; exact List.mem_cons_of_mem _ (mem_lookup h)
theorem scCheckCalls : FnScope ["program", "table", "checked", "name"] ["program", "table", "checked"] (defScope sCheckCalls) := ⟨rfl, rfl, rfl, by decide +kernel, rfl, by decide +kernel, by decide +kernel⟩
theorem ok_CheckCalls {f : Addr} {fd : FuncData} (Z : Zn w K mg pS cP cR cH) (F : Fun K "check_calls" "check_calls" sCheckCalls f fd) {c : Nat} (CCalledNames : Cal P w K mg base 14 "called_names" ["program"] [] (cnS 6)) (CCheckCalls : Cal P w K mg base (c + 14) "check_calls" ["program", "table", "checked"] [] (ccS c)) : FnOk P w K mg base (L2.CX P w) (c + 14 + 1) f fd ["program", "table", "checked"] (spD K (ccS (c + 1))) := by
  refine fn_ok F scCheckCalls ?len (fun cdv A outer s H E hr => ?_)
  rotate_left
  · have tk := takes_of (X := cxOf (L2.CX P w) P w K mg base ["program", "table", "checked", "name"] "check_calls" (defScope sCheckCalls) f cdv A outer s H E) (E := E) rfl rfl rfl rfl
    have hp := passes_of (X := cxOf (L2.CX P w) P w K mg base ["program", "table", "checked", "name"] "check_calls" (defScope sCheckCalls) f cdv A outer s H E) rfl
    refine ⟨_, (ss_one (s_for hp rfl (i_list (q_cal CCalledNames (by first | decide | exact Nat.le_refl _ | omega) hr tk (by rfl) (a_cons (qv 0) a_nil))) (g_name 3 scCheckCalls.nd) (ss_cons (s_if (t_cmp (oq_notInDk hr.units) (qv 3) (qv 1)) (ss_one s_never) ss_nil)
  (ss_one (s_if (t_cmp (oq_notInDk hr.units) (qv 3) (qv 2)) (ss_cons (s_expr (q_cal CCheckCalls (by first | decide | exact Nat.le_refl _ | omega) hr tk (by rfl) (a_cons (q_ixDk hr.units (qv 1) (qv 3)) (a_cons (qv 1) (a_cons (qv 2) a_nil)))))
  (ss_one (s_storeDk hr.units q_bl (qv 2) (qv 3)))) ss_nil))))), ?_⟩
    clear tk hp
    rintro ds L k x ⟨tab, p, q, L0, cs, rfl, rfl, hq, hc, hT, hp, hlen, h⟩
    obtain ⟨d0, hd0⟩ := lookup_in hq
    have lk : ∀ d, (setL L0 q d).lookup q = some d := fun d => lookup_setL hd0
    have cq : ∀ cs, con (setL L0 q (chk cs)) (.ptr q) = chk cs := fun cs => by
      show ((setL L0 q (chk cs)).lookup q).getD _ = _
      rw [lk]
      rfl
    walk_at "w"
    refine ⟨p, _, _, rfl, rfl, hp, hlen, ?_⟩
    walk_at "w"
    refine forD_rec (fun r env L' => ∃ (fs cs : List Str) (o3 : Option D), r = fs.map D.str ∧ env = [some (.tup (Sm.ds p)), some (tabD tab), some (.ptr q), o3] ∧ L' = setL L0 q (chk cs) ∧ CkOk tab cs ∧ ∀ f ∈ fs, Lv tab c f) ?step ?fin _ _ _ ⟨_, cs, none, rfl, rfl, rfl, hc, callsB_ok 5 p hp⟩
    case fin =>
      rintro env L' ⟨fs, cs, o3, hr, rfl, rfl, hc, _⟩
      exact h cs hc
    case step =>
      clear hc
      rintro E' d r env L' hrt hex hbk hct ⟨fs, cs, o3, hr, rfl, rfl, hc, hf⟩ hnx
      cases fs with
      | nil => cases hr
      | cons f fs =>
      cases hr
      have hf0 := hf f List.mem_cons_self
      have hf1 := fun g hg => hf g (List.mem_cons_of_mem _ hg)
      cases c with
      | zero => exact hf0.elim
      | succ c =>
      obtain ⟨p2, hl2, hp2⟩ := hf0
      walk_at "w"
      rw [if_pos rfl, look_tab, hl2]
      walk_at "w"
      rw [cq]
      walk_at "w"
      rw [if_pos rfl, chk_look]
      by_cases m : f ∈ cs
      · rw [if_pos m]
        exact hnx _ _ ⟨fs, cs, _, rfl, rfl, rfl, hc, hf1⟩
      · rw [if_neg m]
        walk_at "w"
        rw [look_tab, hl2]
        walk_at "w"
        refine ⟨tab, p2, q, L0, cs, rfl, rfl, hq, hc, hT, hp2, hT.few f p2 hl2, fun cs' hc' => ?_⟩
        walk_at "w"
        rw [lk]
        walk_at "w"
        obtain ⟨cs2, h1, h2, h3⟩ := chk_put f cs'
        refine ⟨by rw [List.length_map]; have := len_sub hc'.nd hc'.sub; rw [List.length_map] at this; exact Nat.lt_of_le_of_lt this hT.len, ?_⟩
        rw [setL_setL, h3]
        exact hnx _ _ ⟨fs, cs2, _, rfl, rfl, rfl, ⟨h2 hc'.nd, fun z hz => ((h1 z).mp hz).elim (hc'.sub z) fun e => e ▸ mem_lookup hl2⟩, hf1⟩
  · rintro ds L k x ⟨tab, p, q, L0, cs, rfl, _⟩; rfl

def ruR (tab : TAB) (c : Nat) : DSp := fun ds L k _ => ∃ p x y tb, ds = [.tup (Sm.ds p), .tup [rtD x, rtD y], tb] ∧ (tb = tabD tab ∨ tb = .non ∧ tab = []) ∧ TabOk tab ∧ VOk (x, 1) ∧ VOk (y, 1) ∧ smsOk (Lv tab c) 5 p ∧ (callsB p).length ≤ sizeLine ∧ (∀ p ∈ tab, ∃ ks m, smsOk ks m p.2) ∧ ∀ L', keepL L L' = L → k (wholeD (execM (funM tab c) p (x, 1) (y, 1) ⟨[], 0⟩)) L'
theorem st2_init {cP cR r o : Addr} {tb : D} {L : Led} (n : o ≠ r) (h1 : ¬ inL L r) (h2 : ¬ inL L o) : (o, .lst []) :: (r, runD cP cR tb o 0) :: L = st2 ⟨cP, cR, r, o, tb⟩ ((o, .lst []) :: (r, runD cP cR tb o 0) :: L) ⟨[], 0⟩ := by
  unfold st2
  rw [setL_ne n, setL_top h1, setL_top (fun m => (inL_cons.mp m).elim n h2)]
  rfl
theorem keep_run {R : RR} {L L1 : Led} {s : RSt} (h1 : ¬ inL L R.r) (h2 : ¬ inL L R.o) : keepL L (st2 R L1 s) = keepL L L1 := by
  unfold st2 keepL
  have e : ∀ (L1 : Led) (a : Addr) (d : D), ¬ inL L a → (setL L1 a d).filter (fun q => decide (q.1 ∈ L.map (·.1))) = L1.filter fun q => decide (q.1 ∈ L.map (·.1)) := by
    intro L1 a d ha
    induction L1 with
    | nil => rfl
    | cons p r ih =>
      obtain ⟨b, c⟩ := p
      by_cases e : b = a
      · subst e
        show List.filter _ ((if b = b then (b, d) else (b, c)) :: setL r b d) = _
        rw [if_pos rfl, List.filter_cons, List.filter_cons, decide_eq_false (show ¬ b ∈ L.map (·.1) from ha)]
        exact ih
      · rw [setL_ne e, List.filter_cons, List.filter_cons, ih]
  rw [e _ _ _ h2, e _ _ _ h1]
theorem scRun : FnScope ["program", "point", "table", "known"] ["program", "point", "table"] (defScope sRun) := ⟨rfl, rfl, rfl, by decide +kernel, rfl, by decide +kernel, by decide +kernel⟩
theorem ok_Run {f : Addr} {fd : FuncData} (Z : Zn w K mg pS cP cR cH) (F : Fun K "run" "run" sRun f fd) {tab : TAB} {c : Nat} (CCheckCalls : Cal P w K mg base (30 * c + 31) "check_calls" ["program", "table", "checked"] [] (ccS (c + 1))) (MRunnerWhole : MCal P w K mg base (30 * c + 31) cR "whole" ["self", "program", "x", "y"] [] (whS cP cR cH tab c)) (B_Plain : Bare K cP) (n_Plain : mg "Plain" = some (.ref cP)) (K_Runner : KCal P w K mg base 1 "Runner" cR ["self", "arithmetic", "table"] [] (inS cP cR)) : FnOk P w K mg base (L2.CX P w) (30 * c + 31 + 1) f fd ["program", "point", "table"] (spD K (ruR tab c)) := by
  refine fn_ok F scRun ?len (fun cdv A outer s H E hr => ?_)
  rotate_left
  · have tk := takes_of (X := cxOf (L2.CX P w) P w K mg base ["program", "point", "table", "known"] "run" (defScope sRun) f cdv A outer s H E) (E := E) rfl rfl rfl rfl
    have hp := passes_of (X := cxOf (L2.CX P w) P w K mg base ["program", "point", "table", "known"] "run" (defScope sRun) f cdv A outer s H E) rfl
    refine ⟨_, (ss_cons (s_set 3 scRun.nd (q_if (t_cmp oq_isN (qv 2) q_non) q_dnewD (qv 2)))
  (ss_cons (s_expr (q_cal CCheckCalls (by first | decide | exact Nat.le_refl _ | omega) hr tk (by rfl) (a_cons (qv 0) (a_cons (qv 3) (a_cons q_dnewM a_nil)))))
  (ss_one (s_ret (q_meth MRunnerWhole (by first | decide | exact Nat.le_refl _ | omega) hr tk (q_makeM K_Runner (by first | decide | omega) hr tk (by rfl) (a_cons (q_bare B_Plain (by rfl) n_Plain) (a_cons (qv 3) a_nil))) (a_cons (qv 0) (a_cons (q_ix (qv 1) q_int) (a_cons (q_ix (qv 1) q_int) a_nil)))))))), ?_⟩
    clear tk hp
    rintro ds L k x ⟨p, vx, vy, tb, rfl, htb, hT, hx, hy, hp, hlen, hok, h⟩
    rcases htb with rfl | ⟨rfl, rfl⟩
    · walk_at "w"
      intro q hq
      have e0 : ∀ cs, setL ((q, chk []) :: L) q (chk cs) = (q, chk cs) :: L := fun cs => setL_top hq
      walk_at "w"
      refine ⟨_, p, q, (q, chk []) :: L, [], rfl, by rw [e0]; rfl, inL_cons.mpr (.inl rfl), ⟨List.nodup_nil, fun z hz => (List.not_mem_nil hz).elim⟩, hT, hp, hlen, fun cs hc => ?_⟩
      rw [e0]
      walk_at "w"
      intro r hr
      refine ⟨r, _, (q, chk cs) :: L, rfl, rfl, hr, fun o no ho => ⟨rfl, ?_⟩⟩
      have hrL : ¬ inL L r := fun m => hr (inL_cons.mpr (.inr m))
      have hoL : ¬ inL L o := fun m => ho (inL_cons.mpr (.inr m))
      rw [st2_init no hr ho]
      have hS : Sit cP cR tab ⟨cP, cR, r, o, tabD tab⟩ ((o, .lst []) :: (r, runD cP cR (tabD tab) o 0) :: (q, chk cs) :: L) ⟨[], 0⟩ := ⟨⟨inL_cons.mpr (.inr (inL_cons.mpr (.inl rfl))), inL_cons.mpr (.inl rfl), Ne.symm no⟩, rfl, rfl, rfl, Nat.zero_le _, Nat.zero_le _, hok⟩
      show match con (st2 ⟨cP, cR, r, o, tabD tab⟩ ((o, .lst []) :: (r, runD cP cR (tabD tab) o 0) :: (q, chk cs) :: L) ⟨[], 0⟩) (.ptr r) with | .obj C' ns vs => _ | _ => False
      rw [con_r hS]
      walk_at "w"
      refine ⟨⟨rfl, rfl⟩, ?_⟩
      walk_at "w"
      refine ⟨⟨cP, cR, r, o, tabD tab⟩, _, p, vx, vy, rfl, rfl, hS, hx, hy, hp, fun s => ?_⟩
      refine h _ ?_
      rw [keep_run hrL hoL, keep_out hoL, keep_out hrL, keep_out hq, keep_same rfl]
    · walk_at "w"
      intro q hq
      have e0 : ∀ cs, setL ((q, chk []) :: L) q (chk cs) = (q, chk cs) :: L := fun cs => setL_top hq
      walk_at "w"
      refine ⟨_, p, q, (q, chk []) :: L, [], rfl, by rw [e0]; rfl, inL_cons.mpr (.inl rfl), ⟨List.nodup_nil, fun z hz => (List.not_mem_nil hz).elim⟩, hT, hp, hlen, fun cs hc => ?_⟩
      rw [e0]
      walk_at "w"
      intro r hr
      refine ⟨r, _, (q, chk cs) :: L, rfl, rfl, hr, fun o no ho => ⟨rfl, ?_⟩⟩
      have hrL : ¬ inL L r := fun m => hr (inL_cons.mpr (.inr m))
      have hoL : ¬ inL L o := fun m => ho (inL_cons.mpr (.inr m))
      rw [st2_init no hr ho]
      have hS : Sit cP cR [] ⟨cP, cR, r, o, tabD []⟩ ((o, .lst []) :: (r, runD cP cR (tabD []) o 0) :: (q, chk cs) :: L) ⟨[], 0⟩ := ⟨⟨inL_cons.mpr (.inr (inL_cons.mpr (.inl rfl))), inL_cons.mpr (.inl rfl), Ne.symm no⟩, rfl, rfl, rfl, Nat.zero_le _, Nat.zero_le _, hok⟩
      show match con (st2 ⟨cP, cR, r, o, tabD []⟩ ((o, .lst []) :: (r, runD cP cR (tabD []) o 0) :: (q, chk cs) :: L) ⟨[], 0⟩) (.ptr r) with | .obj C' ns vs => _ | _ => False
      rw [con_r hS]
      walk_at "w"
      refine ⟨⟨rfl, rfl⟩, ?_⟩
      walk_at "w"
      refine ⟨⟨cP, cR, r, o, tabD []⟩, _, p, vx, vy, rfl, rfl, hS, hx, hy, hp, fun s => ?_⟩
      refine h _ ?_
      rw [keep_run hrL hoL, keep_out hoL, keep_out hrL, keep_out hq, keep_same rfl]
  · rintro ds L k x ⟨p, vx, vy, tb, rfl, _⟩; rfl

def ruS (tab : TAB) (c : Nat) : DSp := fun ds L k _ => ∃ p x y tb, ds = [.tup (Sm.ds p), .tup [rtD x, rtD y], tb] ∧ (tb = tabD tab ∨ tb = .non ∧ tab = []) ∧ TabOk tab ∧ VOk (x, 1) ∧ VOk (y, 1) ∧ smsOk (Lv tab c) 5 p ∧ (callsB p).length ≤ sizeLine ∧ (∀ p ∈ tab, ∃ ks m, smsOk ks m p.2) ∧ k (wholeD (execM (funM tab c) p (x, 1) (y, 1) ⟨[], 0⟩)) L
theorem run_tidy {f : Addr} {fd : FuncData} {tab : TAB} {c n : Nat} (F : FnOk P w K mg base (L2.CX P w) n f fd ["program", "point", "table"] (spD K (ruR tab c))) : FnOk P w K mg base (L2.CX P w) n f fd ["program", "point", "table"] (spD K (ruS tab c)) := by
  refine fn_weak (fn_tidy F) ?_
  rintro ds L k x ⟨p, vx, vy, tb, rfl, htb, hT, hx, hy, hp, hlen, hok, h⟩
  exact ⟨p, vx, vy, tb, rfl, htb, hT, hx, hy, hp, hlen, hok, fun L' e => by show k _ (keepL L L'); rw [e]; exact h⟩
end
end T27

namespace T27
open PySem L2 DL
section
variable {P : Program} {w : World} {K : PySem.W.Frag} {mg : Str → Option Value} {base : Heap} {pS cP cR cH : Addr}
local macro_rules | `(tactic| walk_at "w") => `(tactic| conv => whnf)
local macro_rules | `(tactic| walk_at "v") => `(tactic| ((conv => whnf); try dsimp only))
local macro_rules | `(tactic| walk_at "s") => `(tactic| ((conv => whnf); repeat ((first | refine ⟨sz_ok rfl, ?_⟩ | refine ⟨rfl, ?_⟩); conv => whnf)))

structure LR where
  o : Addr
  c : Addr
@[irreducible] def su (R : LR) (L : Led) (s : RSt) : Led := setL (setL L R.o (.lst (s.outs.map D.str))) R.c (.lst [.int s.steps])
structure BL (R : LR) (L : Led) : Prop where
  o : inL L R.o
  c : inL L R.c
  ne : R.o ≠ R.c
section
variable {R : LR} {L : Led} {s : RSt}
theorem su_keys : (su R L s).map (·.1) = L.map (·.1) := by unfold su; rw [setL_keys, setL_keys]
theorem su_o (b : BL R L) : (su R L s).lookup R.o = some (.lst (s.outs.map D.str)) := by
  obtain ⟨d, hd⟩ := lookup_in b.o
  unfold su
  rw [lookup_setL_ne b.ne]
  exact lookup_setL hd
theorem su_c (b : BL R L) : (su R L s).lookup R.c = some (.lst [.int s.steps]) := by
  obtain ⟨d, hd⟩ := lookup_in b.c
  unfold su
  exact lookup_setL (c := d) (by rw [lookup_setL_ne (Ne.symm b.ne)]; exact hd)
theorem su_q {q : Addr} (h1 : q ≠ R.o) (h2 : q ≠ R.c) : (su R L s).lookup q = L.lookup q := by
  unfold su
  rw [lookup_setL_ne h2, lookup_setL_ne h1]
theorem su_seto (b : BL R L) (l : List Str) : setL (su R L s) R.o (.lst (l.map D.str)) = su R L ⟨l, s.steps⟩ := by
  unfold su
  rw [setL_comm (Ne.symm b.ne), setL_setL]
theorem su_setc (b : BL R L) (n : Nat) : setL (su R L s) R.c (.lst [.int n]) = su R L ⟨s.outs, n⟩ := by
  unfold su
  rw [setL_setL]
theorem su_setq {q : Addr} (h1 : q ≠ R.o) (h2 : q ≠ R.c) (d : D) : setL (su R L s) q d = su R (setL L q d) s := by
  unfold su
  rw [setL_comm (Ne.symm h2), setL_comm (Ne.symm h1)]
theorem su_cons {q : Addr} (h1 : q ≠ R.o) (h2 : q ≠ R.c) (d : D) : (q, d) :: su R L s = su R ((q, d) :: L) s := by
  unfold su
  rw [setL_ne h1, setL_ne h2]
end
def stD (x y : VAL) (q : Addr) (tab : TAB) (R : LR) : D := .lst [valD x, valD y, .ptr q, tabD tab, .ptr R.o, .ptr R.c]
structure LSit (tab : TAB) (R : LR) (L : Led) (s : RSt) : Prop where
  b : BL R L
  st : s.steps ≤ 60
  ou : s.outs.length ≤ s.steps
  tk : ∀ p ∈ tab, ∃ ks m, smsOk ks m p.2
structure LNam (tab : TAB) (R : LR) (L : Led) (S q : Addr) (nm : NMS) (x y : VAL) (s : RSt) : Prop where
  s1 : S ≠ R.o
  s2 : S ≠ R.c
  n1 : q ≠ R.o
  n2 : q ≠ R.c
  ne : q ≠ S
  lS : L.lookup S = some (stD x y q tab R)
  lk : L.lookup q = some (dkD nm)
  ok : NOk nm
  len : nm.length ≤ s.steps
def resD : R1 → D
  | .ok v => valD v
  | .halt e => e.d
def brD : BR → D
  | .halt e => e.d
  | .done none => .non
  | .done (some v) => .tup [.str "value", valD v]
theorem LSit.go {tab : TAB} {R : LR} {L : Led} {s s1 : RSt} {r : R1} (h : LSit tab R L s) (g : Gd s (r, s1)) : LSit tab R L s1 := ⟨h.b, g.lim, by have h1 := g.grow; have h2 := h.ou; have h3 := g.mono; dsimp only at h1 h3 ⊢; omega, h.tk⟩
theorem LNam.go {tab : TAB} {R : LR} {L : Led} {S q : Addr} {nm : NMS} {x y : VAL} {s s1 : RSt} {r : R1} (h : LNam tab R L S q nm x y s) (g : Gd s (r, s1)) : LNam tab R L S q nm x y s1 := ⟨h.s1, h.s2, h.n1, h.n2, h.ne, h.lS, h.lk, h.ok, Nat.le_trans h.len g.mono⟩
theorem con_S {tab : TAB} {R : LR} {L : Led} {S q : Addr} {nm : NMS} {x y : VAL} {s s' : RSt} (h : LNam tab R L S q nm x y s) : con (su R L s') (.ptr S) = stD x y q tab R := by
  show ((su R L s').lookup S).getD _ = _
  rw [su_q h.s1 h.s2, h.lS]
  rfl
theorem con_lq {tab : TAB} {R : LR} {L : Led} {S q : Addr} {nm : NMS} {x y : VAL} {s s' : RSt} (h : LNam tab R L S q nm x y s) : con (su R L s') (.ptr q) = dkD nm := by
  show ((su R L s').lookup q).getD _ = _
  rw [su_q h.n1 h.n2, h.lk]
  rfl
def lvS (tab : TAB) (c m : Nat) : DSp := fun ds L k _ => ∃ R L0 s nm S q e x y, ds = [e.d, .ptr S] ∧ L = su R L0 s ∧ LSit tab R L0 s ∧ LNam tab R L0 S q nm x y s ∧ VOk x ∧ VOk y ∧ (∃ m', m = m' + 1 ∧ XpOk (Lv tab c) m' e) ∧ k (resD (evalE (funM tab c) nm x y e s).1) (su R L0 (evalE (funM tab c) nm x y e s).2)
def lvR (tab : TAB) (c m : Nat) : DSp := fun ds L k _ => ∃ R L0 s nm S q e x y, ds = [e.d, .ptr S] ∧ L = su R L0 s ∧ LSit tab R L0 s ∧ LNam tab R L0 S q nm x y s ∧ VOk x ∧ VOk y ∧ (∃ m', m = m' + 1 ∧ XpOk (Lv tab c) m' e) ∧ ∀ L', keepL (su R L0 s) L' = su R L0 (evalE (funM tab c) nm x y e s).2 → k (resD (evalE (funM tab c) nm x y e s).1) L'
def lbS (tab : TAB) (c m : Nat) : DSp := fun ds L k _ => ∃ R L0 s nm S q l x y, ds = [.tup (Sm.ds l), .ptr S] ∧ L = su R (setL L0 q (dkD nm)) s ∧ LSit tab R (setL L0 q (dkD nm)) s ∧ LNam tab R (setL L0 q (dkD nm)) S q nm x y s ∧ VOk x ∧ VOk y ∧ (∃ m', m = m' + 1 ∧ smsOk (Lv tab c) m' l) ∧ k (brD (blkM (funM tab c) x y l nm s).1) (su R (setL L0 q (dkD (blkM (funM tab c) x y l nm s).2.1)) (blkM (funM tab c) x y l nm s).2.2)
def lbP (tab : TAB) : Nat → DSp
  | 0 => fun _ _ _ _ => False
  | c + 1 => lbS tab c 6
theorem lv_tidy {f : Addr} {fd : FuncData} {tab : TAB} {c m n : Nat} {ps : List Str} (F : FnOk P w K mg base (L2.CX P w) n f fd ps (spD K (lvR tab c m))) : FnOk P w K mg base (L2.CX P w) n f fd ps (spD K (lvS tab c m)) := by
  refine fn_weak (fn_tidy F) ?_
  rintro ds L k x ⟨R, L0, s, nm, S, q, e, vx, vy, rfl, rfl, h1, h2, h3, h4, h5, h⟩
  exact ⟨R, L0, s, nm, S, q, e, vx, vy, rfl, rfl, h1, h2, h3, h4, h5, fun L' e => by show k _ (keepL _ L'); rw [e]; exact h⟩
theorem keep_su {R : LR} {L : Led} {s s1 : RSt} : keepL (su R L s) (su R L s1) = su R L s1 := keep_same (by rw [su_keys, su_keys])

theorem LNam.cons {tab : TAB} {R : LR} {L : Led} {S q : Addr} {nm : NMS} {x y : VAL} {s : RSt} (h : LNam tab R L S q nm x y s) {p : Addr} {d : D} (hp : ¬ inL L p) : LNam tab R ((p, d) :: L) S q nm x y s := by
  have n1 : S ≠ p := fun e => hp (e ▸ inL_of_lookup h.lS)
  have n2 : q ≠ p := fun e => hp (e ▸ inL_of_lookup h.lk)
  exact ⟨h.s1, h.s2, h.n1, h.n2, h.ne, by rw [lookup_ne n1]; exact h.lS, by rw [lookup_ne n2]; exact h.lk, h.ok, h.len⟩
theorem LSit.cons {tab : TAB} {R : LR} {L : Led} {s : RSt} (h : LSit tab R L s) (p : Addr) (d : D) : LSit tab R ((p, d) :: L) s := ⟨⟨inL_cons.mpr (.inr h.b.o), inL_cons.mpr (.inr h.b.c), h.b.ne⟩, h.st, h.ou, h.tk⟩
/-- a state of its own for a called program -/
theorem LNam.own {tab : TAB} {R : LR} {L : Led} {S q : Addr} {x y : VAL} {s : RSt} (b : BL R L) (hq : ¬ inL L q) (hS : ¬ inL ((q, dkD []) :: L) S) : setL ((S, stD x y q tab R) :: (q, dkD []) :: L) q (dkD []) = (S, stD x y q tab R) :: (q, dkD []) :: L ∧ LNam tab R ((S, stD x y q tab R) :: (q, dkD []) :: L) S q [] x y s := by
  have ne : q ≠ S := fun e => hS (inL_cons.mpr (.inl e.symm))
  have hS2 : ¬ inL L S := fun m => hS (inL_cons.mpr (.inr m))
  refine ⟨by rw [setL_ne (Ne.symm ne), setL_top hq], fun e => hS2 (e ▸ b.o), fun e => hS2 (e ▸ b.c), fun e => hq (e ▸ b.o), fun e => hq (e ▸ b.c), ne, List.lookup_cons_self, by rw [lookup_ne ne]; exact List.lookup_cons_self, ⟨fun p hp => (List.not_mem_nil hp).elim, List.nodup_nil⟩, Nat.zero_le _⟩
theorem keep_own {tab : TAB} {R : LR} {L : Led} {S q : Addr} {d d0 : D} {dS : D} {s s1 : RSt} (b : BL R L) (hq : ¬ inL L q) (hS : ¬ inL ((q, d0) :: L) S) : keepL (su R L s) (su R (setL ((S, dS) :: (q, d0) :: L) q d) s1) = su R L s1 := by
  have ne : q ≠ S := fun e => hS (inL_cons.mpr (.inl e.symm))
  have hS2 : ¬ inL L S := fun m => hS (inL_cons.mpr (.inr m))
  have i1 : ¬ inL (su R L s) S := fun m => hS2 (by unfold inL at m; rw [su_keys] at m; exact m)
  have i2 : ¬ inL (su R L s) q := fun m => hq (by unfold inL at m; rw [su_keys] at m; exact m)
  have a1 : S ≠ R.o := fun e => hS2 (e ▸ b.o)
  have a2 : S ≠ R.c := fun e => hS2 (e ▸ b.c)
  have a3 : q ≠ R.o := fun e => hq (e ▸ b.o)
  have a4 : q ≠ R.c := fun e => hq (e ▸ b.c)
  rw [setL_ne (Ne.symm ne), setL_top hq, ← su_cons a1 a2, ← su_cons a3 a4, keep_out i1, keep_out i2, keep_su]
theorem scLGcd : FnScope ["_law_one", "_law_two", "_law_k"] ["_law_one", "_law_two"] (defScope sLGcd) := ⟨rfl, rfl, rfl, by decide +kernel, rfl, by decide +kernel, by decide +kernel⟩
theorem ok_LGcd {f : Addr} {fd : FuncData} (Z : Zn w K mg pS cP cR cH) (F : Fun K "_law_gcd" "_law_gcd" sLGcd f fd) : FnOk P w K mg base (L2.CX P w) 1 f fd ["_law_one", "_law_two"] (spD K gcdS) := by
  refine fn_ok F scLGcd ?len (fun cdv A outer s H E hr => ?_)
  rotate_left
  · have tk := takes_of (X := cxOf (L2.CX P w) P w K mg base ["_law_one", "_law_two", "_law_k"] "_law_gcd" (defScope sLGcd) f cdv A outer s H E) (E := E) rfl rfl rfl rfl
    have hp := passes_of (X := cxOf (L2.CX P w) P w K mg base ["_law_one", "_law_two", "_law_k"] "_law_gcd" (defScope sLGcd) f cdv A outer s H E) rfl
    refine ⟨_, (ss_cons (s_par 0 1 rfl scLGcd.nd (a_cons (q_callB cq_abs (by rfl) Z.z_abs bb_abs (a_cons (qv 0) a_nil)) (a_cons (q_callB cq_abs (by rfl) Z.z_abs bb_abs (a_cons (qv 1) a_nil)) a_nil)))
  (ss_cons (s_for hp rfl (i_range1 (by rfl) Z.z_range (a_cons q_int a_nil)) (g_name 2 scLGcd.nd) (ss_cons (s_if (t_cmp (oq_eqU hr.units) (qv 1) q_int) (ss_one (s_ret (qv 0))) ss_nil)
  (ss_one (s_par 0 1 rfl scLGcd.nd (a_cons (qv 1) (a_cons (q_op oq_mod (q_callTy cq_int (by rfl) Z.z_int bb_int (a_cons (qv 0) a_nil)) (qv 1)) a_nil))))))
  (ss_one (s_ret (qv 0))))), ?_⟩
    clear tk hp
    rintro ds L k x ⟨a, b, rfl, ha, hb, h⟩
    have key : ∀ (En : DEnds) (db : DS), (∀ (E' : DEnds) (x y j : Int), E'.rt = En.rt → 0 ≤ x → 0 ≤ y → (y = 0 → E'.rt (.int x) L) → (y ≠ 0 → E'.nx [some (.int y), some (.int (x.fmod y)), some (.int j)] L) → db E' [some (.int x), some (.int y), some (.int j)] L) →
        ∀ (n : Nat) (lo x y : Int) (o : Option D), 0 ≤ x → 0 ≤ y → y ≤ x → x * y < 2 ^ n → En.rt (.int (gcdI x y)) L → forD (dgName 2) db En (rngD lo (n + 1)) [some (.int x), some (.int y), o] L := by
      intro En db hb n
      induction n with
      | zero =>
        intro lo x y o hx hy hyx hp hr
        have y0 : y = 0 := by
          rcases Int.lt_or_eq_of_le hy with z | z
          · have : 1 * 1 ≤ x * y := Int.mul_le_mul (by omega) (by omega) (by decide) hx
            omega
          · exact z.symm
        show forD _ _ _ (.int lo :: rngD (lo + 1) 0) _ _
        rw [forD_cons]
        refine hb _ x y lo rfl hx hy (fun _ => ?_) (fun z => absurd y0 z)
        rw [y0, gcdI_zero hx] at hr
        exact hr
      | succ n ih =>
        intro lo x y o hx hy hyx hp hr
        show forD _ _ _ (.int lo :: rngD (lo + 1) (n + 1)) _ _
        rw [forD_cons]
        refine hb _ x y lo rfl hx hy (fun z => ?_) (fun z => ?_)
        · rw [z, gcdI_zero hx] at hr
          exact hr
        · have yp : 0 < y := by omega
          obtain ⟨f0, f1, _⟩ := fmod_bounds hx yp
          refine ih (lo + 1) y (x.fmod y) _ hy f0 (by omega) ?_ ?_
          · have := half_step yp hyx
            rw [Int.pow_succ] at hp
            omega
          · rw [gcdI_step hx yp]
            exact hr
    have abs0 : ∀ z : Int, 0 ≤ (if z < 0 then -z else z) := fun z => by split <;> omega
    have absb : ∀ z : Int, z.natAbs < 2 ^ 1990 → (if z < 0 then -z else z) < 2 ^ 1990 := fun z hz => by
      have e : (if z < 0 then -z else z) = (z.natAbs : Int) := by split <;> omega
      rw [e]
      exact_mod_cast hz
    have hprod : ∀ x y : Int, 0 ≤ x → 0 ≤ y → x < 2 ^ 1990 → y < 2 ^ 1990 → x * y < 2 ^ 3998 := fun x y hx hy h1 h2 => by
      have q1 : x * y ≤ 2 ^ 1990 * 2 ^ 1990 := Int.mul_le_mul (Int.le_of_lt h1) (Int.le_of_lt h2) hy (by exact Int.le_of_lt (Int.pow_pos (by decide)))
      have q2 : (2 : Int) ^ 1990 * 2 ^ 1990 < 2 ^ 3998 := by decide +kernel
      exact Int.lt_of_le_of_lt q1 q2
    have h : (endsD k x).rt (.int (gcdI (if a < 0 then -a else a) (if b < 0 then -b else b))) L := by rw [gcdI_abs]; exact h
    walk_at "w"
    refine ⟨by decide, ?_⟩
    have a0 := abs0 a
    have b0 := abs0 b
    have a1 := absb a ha
    have b1 := absb b hb
    generalize (if a < 0 then -a else a) = x' at *
    generalize (if b < 0 then -b else b) = y' at *
    clear abs0 absb
    have turn : ∀ (E' : DEnds) (x y j : Int), 0 ≤ x → 0 ≤ y → (y = 0 → E'.rt (.int x) L) → (y ≠ 0 → E'.nx [some (.int y), some (.int (x.fmod y)), some (.int j)] L) → (dSeq (dIfS (dB (dOp gEqU (dVar 1) (dC (D.int 0)))) (dRet (dVar 0)) dNext) (dPar 0 1 (dCons (dVar 1) (dCons (dOp gMod (dCB gInt (dCons (dVar 0) dNil)) (dVar 1)) dNil)))) E' [some (.int x), some (.int y), some (.int j)] L := by
      intro E' x y j hx hy h0 h1
      walk_at "w"
      cases h2 : flEq (D.int y) (D.int 0) with
      | true => exact h0 (of_decide_eq_true h2)
      | false =>
        have y0 : y ≠ 0 := of_decide_eq_false h2
        exact ⟨y0, h1 y0⟩
    show forD _ _ _ (rngD 0 4000) _ _
    by_cases hyx : y' ≤ x'
    · exact key _ _ (fun E' x y j _ => turn E' x y j) 3999 0 x' y' none a0 b0 hyx (Int.lt_of_lt_of_le (hprod x' y' a0 b0 a1 b1) (by decide +kernel)) h
    · show forD _ _ _ (.int 0 :: rngD (0 + 1) 3999) _ _
      rw [forD_cons]
      refine turn _ x' y' 0 a0 b0 (fun z => by omega) (fun z => ?_)
      have yp : 0 < y' := by omega
      obtain ⟨f0, f1, f2⟩ := fmod_bounds a0 yp
      refine key _ _ (fun E' x y j _ => turn E' x y j) 3998 (0 + 1) y' (x'.fmod y') _ b0 f0 (by omega) ?_ ?_
      · have q := Int.mul_le_mul_of_nonneg_left f2 b0
        have := hprod y' x' b0 a0 b1 a1
        exact Int.lt_of_le_of_lt q this
      · rw [gcdI_step a0 yp]
        exact h
  · rintro ds L k x ⟨a, b, rfl, _⟩; rfl
theorem scLLow : FnScope ["_law_top", "_law_under", "_law_shared"] ["_law_top", "_law_under"] (defScope sLLow) := ⟨rfl, rfl, rfl, by decide +kernel, rfl, by decide +kernel, by decide +kernel⟩
theorem ok_LLow {f : Addr} {fd : FuncData} (Z : Zn w K mg pS cP cR cH) (F : Fun K "_law_low" "_law_low" sLLow f fd) (CLGcd : Cal P w K mg base 1 "_law_gcd" ["_law_one", "_law_two"] [] gcdS) : FnOk P w K mg base (L2.CX P w) 2 f fd ["_law_top", "_law_under"] (spD K lowS) := by
  refine fn_ok F scLLow ?len (fun cdv A outer s H E hr => ?_)
  rotate_left
  · have tk := takes_of (X := cxOf (L2.CX P w) P w K mg base ["_law_top", "_law_under", "_law_shared"] "_law_low" (defScope sLLow) f cdv A outer s H E) (E := E) rfl rfl rfl rfl
    have hp := passes_of (X := cxOf (L2.CX P w) P w K mg base ["_law_top", "_law_under", "_law_shared"] "_law_low" (defScope sLLow) f cdv A outer s H E) rfl
    refine ⟨_, (ss_cons (s_set 2 scLLow.nd (q_cal CLGcd (by first | decide | exact Nat.le_refl _ | omega) hr tk (by rfl) (a_cons (qv 0) (a_cons (qv 1) a_nil))))
  (ss_cons (s_if (t_cmp oq_lt (qv 1) q_int) (ss_one (s_set 2 scLLow.nd (q_op oq_sub q_int (qv 2)))) ss_nil)
  (ss_one (s_ret (q_tup (a_cons (q_op oq_fdiv (qv 0) (qv 2)) (a_cons (q_op oq_fdiv (qv 1) (qv 2)) a_nil))))))), ?_⟩
    clear tk hp
    rintro ds L k x ⟨t, u, rfl, hu, ht, hu', h⟩
    have hg := gcdI_pos (a := t) hu
    have hl : (gcdI t u).natAbs.log2 < 9000 := by
      have e : (gcdI t u).natAbs ≤ u.natAbs := by have := gcdI_le (a := t) hu; omega
      have : (gcdI t u).natAbs.log2 < 1990 := by
        rw [Nat.log2_lt (by omega)]
        omega
      omega
    unfold lowI at h
    walk_at "w"
    refine ⟨t, u, rfl, ht, hu', ?_⟩
    walk_at "w"
    by_cases hn : u < 0
    · simp only [if_pos hn] at h
      rw [show decide (u < 0) = true from decide_eq_true hn]
      have e0 : (0 - gcdI t u).natAbs = (gcdI t u).natAbs := by omega
      have c : CDivA t (0 - gcdI t u) := ⟨by omega, by rw [e0]; exact hl⟩
      walk_at "w"
      refine ⟨c, ?_⟩
      walk_at "w"
      refine ⟨c, ?_⟩
      walk_at "w"
      exact ⟨(by show 2 ≤ sizeLine; decide), h⟩
    · simp only [if_neg hn] at h
      rw [show decide (u < 0) = false from decide_eq_false hn]
      have c : CDivA t (gcdI t u) := ⟨by omega, hl⟩
      walk_at "w"
      refine ⟨c, ?_⟩
      walk_at "w"
      refine ⟨c, ?_⟩
      walk_at "w"
      exact ⟨(by show 2 ≤ sizeLine; decide), h⟩
  · rintro ds L k x ⟨t, u, rfl, _⟩; rfl
theorem scLAdd : FnScope ["_law_one", "_law_two"] ["_law_one", "_law_two"] (defScope sLAdd) := ⟨rfl, rfl, rfl, by decide +kernel, rfl, by decide +kernel, by decide +kernel⟩
theorem ok_LAdd {f : Addr} {fd : FuncData} (Z : Zn w K mg pS cP cR cH) (F : Fun K "_law_add" "_law_add" sLAdd f fd) (CLLow : Cal P w K mg base 2 "_law_low" ["_law_top", "_law_under"] [] lowS) : FnOk P w K mg base (L2.CX P w) 3 f fd ["_law_one", "_law_two"] (spD K (opS rAddL (fun _ => True))) := by
  refine fn_ok F scLAdd ?len (fun cdv A outer s H E hr => ?_)
  rotate_left
  · have tk := takes_of (X := cxOf (L2.CX P w) P w K mg base ["_law_one", "_law_two"] "_law_add" (defScope sLAdd) f cdv A outer s H E) (E := E) rfl rfl rfl rfl
    have hp := passes_of (X := cxOf (L2.CX P w) P w K mg base ["_law_one", "_law_two"] "_law_add" (defScope sLAdd) f cdv A outer s H E) rfl
    refine ⟨_, (ss_one (s_ret (q_cal CLLow (by first | decide | exact Nat.le_refl _ | omega) hr tk (by rfl) (a_cons (q_op oq_add (q_op oq_mulU (q_ix (qv 0) q_int) (q_ix (qv 1) q_int)) (q_op oq_mulU (q_ix (qv 1) q_int) (q_ix (qv 0) q_int))) (a_cons (q_op oq_mulU (q_ix (qv 0) q_int) (q_ix (qv 1) q_int)) a_nil))))), ?_⟩
    clear tk hp
    rintro ds L k x ⟨⟨a, b⟩, ⟨c, d⟩, rfl, hb, hd, hz, sa, sb, sc, sd, h⟩
    have b1 := sm.b1 sa sd sc sb
    have b2 := sm.b1 sb sd sa sc
    have b3 := sm.b1 sb sc sa sc
    have b4 := sm.b1 sa sc sa sc
    have b5 := sm.b1 sa sd sa sd
    walk_at "v"
    refine ⟨sm.mul sa sd, ?_⟩
    walk_at "w"
    refine ⟨sm.mul sc sb, ?_⟩
    walk_at "w"
    refine ⟨sm.mul sb sd, ?_⟩
    walk_at "w"
    exact ⟨_, _, rfl, Int.mul_ne_zero hb hd, b1.1, b2.2.2, h⟩
  · rintro ds L k x ⟨a, b, rfl, _⟩; rfl
theorem scLSub : FnScope ["_law_one", "_law_two"] ["_law_one", "_law_two"] (defScope sLSub) := ⟨rfl, rfl, rfl, by decide +kernel, rfl, by decide +kernel, by decide +kernel⟩
theorem ok_LSub {f : Addr} {fd : FuncData} (Z : Zn w K mg pS cP cR cH) (F : Fun K "_law_sub" "_law_sub" sLSub f fd) (CLLow : Cal P w K mg base 2 "_law_low" ["_law_top", "_law_under"] [] lowS) : FnOk P w K mg base (L2.CX P w) 3 f fd ["_law_one", "_law_two"] (spD K (opS rSubL (fun _ => True))) := by
  refine fn_ok F scLSub ?len (fun cdv A outer s H E hr => ?_)
  rotate_left
  · have tk := takes_of (X := cxOf (L2.CX P w) P w K mg base ["_law_one", "_law_two"] "_law_sub" (defScope sLSub) f cdv A outer s H E) (E := E) rfl rfl rfl rfl
    have hp := passes_of (X := cxOf (L2.CX P w) P w K mg base ["_law_one", "_law_two"] "_law_sub" (defScope sLSub) f cdv A outer s H E) rfl
    refine ⟨_, (ss_one (s_ret (q_cal CLLow (by first | decide | exact Nat.le_refl _ | omega) hr tk (by rfl) (a_cons (q_op oq_sub (q_op oq_mulU (q_ix (qv 0) q_int) (q_ix (qv 1) q_int)) (q_op oq_mulU (q_ix (qv 1) q_int) (q_ix (qv 0) q_int))) (a_cons (q_op oq_mulU (q_ix (qv 0) q_int) (q_ix (qv 1) q_int)) a_nil))))), ?_⟩
    clear tk hp
    rintro ds L k x ⟨⟨a, b⟩, ⟨c, d⟩, rfl, hb, hd, hz, sa, sb, sc, sd, h⟩
    have b1 := sm.b1 sa sd sc sb
    have b2 := sm.b1 sb sd sa sc
    have b3 := sm.b1 sb sc sa sc
    have b4 := sm.b1 sa sc sa sc
    have b5 := sm.b1 sa sd sa sd
    walk_at "v"
    refine ⟨sm.mul sa sd, ?_⟩
    walk_at "w"
    refine ⟨sm.mul sc sb, ?_⟩
    walk_at "w"
    refine ⟨sm.mul sb sd, ?_⟩
    walk_at "w"
    exact ⟨_, _, rfl, Int.mul_ne_zero hb hd, b1.2.1, b2.2.2, h⟩
  · rintro ds L k x ⟨a, b, rfl, _⟩; rfl
theorem scLMul : FnScope ["_law_one", "_law_two"] ["_law_one", "_law_two"] (defScope sLMul) := ⟨rfl, rfl, rfl, by decide +kernel, rfl, by decide +kernel, by decide +kernel⟩
theorem ok_LMul {f : Addr} {fd : FuncData} (Z : Zn w K mg pS cP cR cH) (F : Fun K "_law_mul" "_law_mul" sLMul f fd) (CLLow : Cal P w K mg base 2 "_law_low" ["_law_top", "_law_under"] [] lowS) : FnOk P w K mg base (L2.CX P w) 3 f fd ["_law_one", "_law_two"] (spD K (opS rMulL (fun _ => True))) := by
  refine fn_ok F scLMul ?len (fun cdv A outer s H E hr => ?_)
  rotate_left
  · have tk := takes_of (X := cxOf (L2.CX P w) P w K mg base ["_law_one", "_law_two"] "_law_mul" (defScope sLMul) f cdv A outer s H E) (E := E) rfl rfl rfl rfl
    have hp := passes_of (X := cxOf (L2.CX P w) P w K mg base ["_law_one", "_law_two"] "_law_mul" (defScope sLMul) f cdv A outer s H E) rfl
    refine ⟨_, (ss_one (s_ret (q_cal CLLow (by first | decide | exact Nat.le_refl _ | omega) hr tk (by rfl) (a_cons (q_op oq_mulU (q_ix (qv 0) q_int) (q_ix (qv 1) q_int)) (a_cons (q_op oq_mulU (q_ix (qv 0) q_int) (q_ix (qv 1) q_int)) a_nil))))), ?_⟩
    clear tk hp
    rintro ds L k x ⟨⟨a, b⟩, ⟨c, d⟩, rfl, hb, hd, hz, sa, sb, sc, sd, h⟩
    have b1 := sm.b1 sa sd sc sb
    have b2 := sm.b1 sb sd sa sc
    have b3 := sm.b1 sb sc sa sc
    have b4 := sm.b1 sa sc sa sc
    have b5 := sm.b1 sa sd sa sd
    walk_at "v"
    refine ⟨sm.mul sa sc, ?_⟩
    walk_at "w"
    refine ⟨sm.mul sb sd, ?_⟩
    walk_at "w"
    exact ⟨_, _, rfl, Int.mul_ne_zero hb hd, b4.2.2, b2.2.2, h⟩
  · rintro ds L k x ⟨a, b, rfl, _⟩; rfl
theorem scLDiv : FnScope ["_law_one", "_law_two"] ["_law_one", "_law_two"] (defScope sLDiv) := ⟨rfl, rfl, rfl, by decide +kernel, rfl, by decide +kernel, by decide +kernel⟩
theorem ok_LDiv {f : Addr} {fd : FuncData} (Z : Zn w K mg pS cP cR cH) (F : Fun K "_law_div" "_law_div" sLDiv f fd) (CLLow : Cal P w K mg base 2 "_law_low" ["_law_top", "_law_under"] [] lowS) : FnOk P w K mg base (L2.CX P w) 3 f fd ["_law_one", "_law_two"] (spD K (opS rDivL (fun b => b.1 ≠ 0))) := by
  refine fn_ok F scLDiv ?len (fun cdv A outer s H E hr => ?_)
  rotate_left
  · have tk := takes_of (X := cxOf (L2.CX P w) P w K mg base ["_law_one", "_law_two"] "_law_div" (defScope sLDiv) f cdv A outer s H E) (E := E) rfl rfl rfl rfl
    have hp := passes_of (X := cxOf (L2.CX P w) P w K mg base ["_law_one", "_law_two"] "_law_div" (defScope sLDiv) f cdv A outer s H E) rfl
    refine ⟨_, (ss_one (s_ret (q_cal CLLow (by first | decide | exact Nat.le_refl _ | omega) hr tk (by rfl) (a_cons (q_op oq_mulU (q_ix (qv 0) q_int) (q_ix (qv 1) q_int)) (a_cons (q_op oq_mulU (q_ix (qv 0) q_int) (q_ix (qv 1) q_int)) a_nil))))), ?_⟩
    clear tk hp
    rintro ds L k x ⟨⟨a, b⟩, ⟨c, d⟩, rfl, hb, hd, hz, sa, sb, sc, sd, h⟩
    have b1 := sm.b1 sa sd sc sb
    have b2 := sm.b1 sb sd sa sc
    have b3 := sm.b1 sb sc sa sc
    have b4 := sm.b1 sa sc sa sc
    have b5 := sm.b1 sa sd sa sd
    walk_at "v"
    refine ⟨sm.mul sa sd, ?_⟩
    walk_at "w"
    refine ⟨sm.mul sb sc, ?_⟩
    walk_at "w"
    exact ⟨_, _, rfl, Int.mul_ne_zero hb hz, b5.2.2, b3.2.2, h⟩
  · rintro ds L k x ⟨a, b, rfl, _⟩; rfl
theorem scLOrder : FnScope ["_law_one", "_law_two"] ["_law_one", "_law_two"] (defScope sLOrder) := ⟨rfl, rfl, rfl, by decide +kernel, rfl, by decide +kernel, by decide +kernel⟩
theorem ok_LOrder {f : Addr} {fd : FuncData} (Z : Zn w K mg pS cP cR cH) (F : Fun K "_law_order" "_law_order" sLOrder f fd) (CLSign : Cal P w K mg base 1 "_law_sign" ["_law_number"] [] signS) : FnOk P w K mg base (L2.CX P w) 2 f fd ["_law_one", "_law_two"] (spD K orderS) := by
  refine fn_ok F scLOrder ?len (fun cdv A outer s H E hr => ?_)
  rotate_left
  · have tk := takes_of (X := cxOf (L2.CX P w) P w K mg base ["_law_one", "_law_two"] "_law_order" (defScope sLOrder) f cdv A outer s H E) (E := E) rfl rfl rfl rfl
    have hp := passes_of (X := cxOf (L2.CX P w) P w K mg base ["_law_one", "_law_two"] "_law_order" (defScope sLOrder) f cdv A outer s H E) rfl
    refine ⟨_, (ss_one (s_ret (q_cal CLSign (by first | decide | exact Nat.le_refl _ | omega) hr tk (by rfl) (a_cons (q_op oq_sub (q_op oq_mulU (q_ix (qv 0) q_int) (q_ix (qv 1) q_int)) (q_op oq_mulU (q_ix (qv 1) q_int) (q_ix (qv 0) q_int))) a_nil)))), ?_⟩
    clear tk hp
    rintro ds L k x ⟨⟨a, b⟩, ⟨c, d⟩, rfl, sa, sb, sc, sd, h⟩
    walk_at "v"
    refine ⟨sm.mul sa sd, ?_⟩
    walk_at "w"
    refine ⟨sm.mul sc sb, ?_⟩
    walk_at "w"
    exact ⟨_, rfl, h⟩
  · rintro ds L k x ⟨a, b, rfl, _⟩; rfl
theorem scLValue : FnScope ["_law_one", "_law_state", "_law_first", "_law_second", "_law_late", "_law_end", "_law_weight"] ["_law_one", "_law_state"] (defScope sLValue) := ⟨rfl, rfl, rfl, by decide +kernel, rfl, by decide +kernel, by decide +kernel⟩
theorem ok_LValue {f : Addr} {fd : FuncData} (Z : Zn w K mg pS cP cR cH) (F : Fun K "_law_value" "_law_value" sLValue f fd) {tab : TAB} {c m : Nat} (CLAdd : Cal P w K mg base 3 "_law_add" ["_law_one", "_law_two"] [] (opS rAddL (fun _ => True))) (CLSub : Cal P w K mg base 3 "_law_sub" ["_law_one", "_law_two"] [] (opS rSubL (fun _ => True))) (CLMul : Cal P w K mg base 3 "_law_mul" ["_law_one", "_law_two"] [] (opS rMulL (fun _ => True))) (CLDiv : Cal P w K mg base 3 "_law_div" ["_law_one", "_law_two"] [] (opS rDivL (fun b => b.1 ≠ 0))) (CLValue : Cal P w K mg base (30 * c + m + 5) "_law_value" ["_law_one", "_law_state"] [] (lvS tab c m)) (CLBlockEnd : Cal P w K mg base (30 * c) "_law_block_end" ["_law_program_z", "_law_state"] [] (lbP tab c)) : FnOk P w K mg base (L2.CX P w) (30 * c + m + 5 + 1) f fd ["_law_one", "_law_state"] (spD K (lvR tab c (m + 1))) := by
  refine fn_ok F scLValue ?len (fun cdv A outer s H E hr => ?_)
  rotate_left
  · have tk := takes_of (X := cxOf (L2.CX P w) P w K mg base ["_law_one", "_law_state", "_law_first", "_law_second", "_law_late", "_law_end", "_law_weight"] "_law_value" (defScope sLValue) f cdv A outer s H E) (E := E) rfl rfl rfl rfl
    have hp := passes_of (X := cxOf (L2.CX P w) P w K mg base ["_law_one", "_law_state", "_law_first", "_law_second", "_law_late", "_law_end", "_law_weight"] "_law_value" (defScope sLValue) f cdv A outer s H E) rfl
    refine ⟨_, (ss_cons (s_if (t_cmp (oq_eqU hr.units) (q_ix (qv 0) q_int) q_str) (ss_one (s_ret (q_tup (a_cons (q_tup (a_cons (q_ix (qv 0) q_int) (a_cons q_int a_nil))) (a_cons q_int a_nil))))) ss_nil)
  (ss_cons (s_if (t_cmp oq_inQ (q_ix (qv 0) q_int) (q_tup (a_cons q_str (a_cons q_str a_nil)))) (ss_one (s_ret (q_if (t_cmp (oq_eqU hr.units) (q_ix (qv 0) q_int) q_str) (q_ix (qv 1) q_int) (q_ix (qv 1) q_int)))) ss_nil)
  (ss_cons (s_if (t_cmp (oq_eqU hr.units) (q_ix (qv 0) q_int) q_str) (ss_one (s_ret (q_if (t_cmp (oq_inDk hr.units) (q_ix (qv 0) q_int) (q_ix (qv 1) q_int)) (q_ixDk hr.units (q_ix (qv 1) q_int) (q_ix (qv 0) q_int)) (q_tup (a_cons q_str (a_cons (q_ix (qv 0) q_int) a_nil)))))) ss_nil)
  (ss_cons (s_set 2 scLValue.nd (q_cal CLValue (by first | decide | exact Nat.le_refl _ | omega) hr tk (by rfl) (a_cons (q_ix (qv 0) (q_op oq_sub (q_callB cq_len (by rfl) Z.z_len bb_len (a_cons (qv 0) a_nil)) q_int)) (a_cons (qv 1) a_nil))))
  (ss_cons (s_if (t_val (q_isi .str (q_ix (qv 2) q_int) (by rfl) Z.z_isinstance (by rfl) Z.z_str bb_str)) (ss_one (s_ret (qv 2))) ss_nil)
  (ss_cons (s_set 3 scLValue.nd (q_cal CLValue (by first | decide | exact Nat.le_refl _ | omega) hr tk (by rfl) (a_cons (q_ix (qv 0) (q_op oq_sub (q_callB cq_len (by rfl) Z.z_len bb_len (a_cons (qv 0) a_nil)) q_int)) (a_cons (qv 1) a_nil))))
  (ss_cons (s_if (t_val (q_isi .str (q_ix (qv 3) q_int) (by rfl) Z.z_isinstance (by rfl) Z.z_str bb_str)) (ss_one (s_ret (qv 3))) ss_nil)
  (ss_cons (s_if (t_cmp (oq_eqU hr.units) (q_ix (qv 0) q_int) q_str) (ss_cons (s_set 4 scLValue.nd (q_lstM (a_cons (qv 2) (a_cons (qv 3) (a_cons q_dnewM (a_cons (q_ix (qv 1) q_int) (a_cons (q_ix (qv 1) q_int) (a_cons (q_ix (qv 1) q_int) a_nil))))))))
  (ss_cons (s_set 5 scLValue.nd (q_cal CLBlockEnd (by first | decide | exact Nat.le_refl _ | omega) hr tk (by rfl) (a_cons (q_ixDk hr.units (q_ix (qv 1) q_int) (q_ix (qv 0) q_int)) (a_cons (qv 4) a_nil))))
  (ss_cons (s_if (t_cmp oq_isN (qv 5) q_non) (ss_one (s_ret (q_tup (a_cons q_str a_nil)))) ss_nil)
  (ss_one (s_ret (q_if (t_cmp (oq_eqU hr.units) (q_ix (qv 5) q_int) q_str) (q_ix (qv 5) q_int) (qv 5))))))) ss_nil)
  (ss_cons (s_set 6 scLValue.nd (q_op oq_add (q_ix (qv 2) q_int) (q_ix (qv 3) q_int)))
  (ss_cons (s_if (t_cmp oq_gt (qv 6) q_int) (ss_one (s_ret (q_tup (a_cons q_str a_nil)))) ss_nil)
  (ss_cons (s_if (w_and (t_cmp (oq_eqU hr.units) (q_ix (qv 0) q_int) q_str) (w_and1 (t_cmp (oq_eqU hr.units) (q_ix (q_ix (qv 3) q_int) q_int) q_int))).t (ss_one (s_ret (q_tup (a_cons q_str a_nil)))) ss_nil)
  (ss_cons (s_if (t_cmp (oq_eqU hr.units) (q_ix (qv 0) q_int) q_str) (ss_one (s_ret (q_tup (a_cons (q_cal CLAdd (by first | decide | exact Nat.le_refl _ | omega) hr tk (by rfl) (a_cons (q_ix (qv 2) q_int) (a_cons (q_ix (qv 3) q_int) a_nil))) (a_cons (qv 6) a_nil))))) ss_nil)
  (ss_cons (s_if (t_cmp (oq_eqU hr.units) (q_ix (qv 0) q_int) q_str) (ss_one (s_ret (q_tup (a_cons (q_cal CLSub (by first | decide | exact Nat.le_refl _ | omega) hr tk (by rfl) (a_cons (q_ix (qv 2) q_int) (a_cons (q_ix (qv 3) q_int) a_nil))) (a_cons (qv 6) a_nil))))) ss_nil)
  (ss_one (s_ret (q_tup (a_cons (q_if (t_cmp (oq_eqU hr.units) (q_ix (qv 0) q_int) q_str) (q_cal CLMul (by first | decide | exact Nat.le_refl _ | omega) hr tk (by rfl) (a_cons (q_ix (qv 2) q_int) (a_cons (q_ix (qv 3) q_int) a_nil))) (q_cal CLDiv (by first | decide | exact Nat.le_refl _ | omega) hr tk (by rfl) (a_cons (q_ix (qv 2) q_int) (a_cons (q_ix (qv 3) q_int) a_nil)))) (a_cons (qv 6) a_nil)))))))))))))))))), ?_⟩
    clear tk hp
    rintro ds L k x ⟨R, L0, s, nm, S, q, e, vx, vy, rfl, rfl, hS, hN, hx, hy, ⟨m', hm, he⟩, h⟩
    cases hm
    cases he with
    | num h1 h2 =>
      walk_at "w"
      refine ⟨sz_ok rfl, ?_⟩
      walk_at "w"
      refine ⟨sz_ok rfl, ?_⟩
      exact h _ keep_su
    | lx =>
      walk_at "w"
      refine ⟨sz_ok rfl, ?_⟩
      walk_at "w"
      rw [con_S hN]
      exact h _ keep_su
    | ly =>
      walk_at "w"
      refine ⟨sz_ok rfl, ?_⟩
      walk_at "w"
      rw [con_S hN]
      exact h _ keep_su
    | @nm _ z =>
      walk_at "w"
      refine ⟨sz_ok rfl, ?_⟩
      walk_at "w"
      rw [con_S hN]
      walk_at "w"
      rw [con_lq hN]
      walk_at "w"
      rw [if_neg (by decide), look_nm]
      have h : ∀ L', keepL (su R L0 s) L' = su R L0 (match nm.lookup z with
        | some v => (R1.ok v, s)
        | none => (.halt (.unset z), s)).2 → k (resD (match nm.lookup z with
        | some v => (R1.ok v, s)
        | none => (.halt (.unset z), s)).1) L' := h
      cases hl : nm.lookup z with
      | none =>
        rw [hl] at h
        walk_at "w"
        refine ⟨sz_ok rfl, ?_⟩
        exact h _ keep_su
      | some v =>
        rw [hl] at h
        walk_at "w"
        rw [con_S hN]
        walk_at "w"
        rw [con_lq hN]
        walk_at "w"
        rw [look_nm, hl]
        exact h _ keep_su
    | @call _ f a b hf ha hb =>
      walk_at "w"
      refine ⟨sz_ok rfl, ?_⟩
      walk_at "w"
      refine ⟨R, L0, s, nm, S, q, a, vx, vy, rfl, rfl, hS, hN, hx, hy, ⟨_, rfl, ha⟩, ?_⟩
      have ga := evalE_ok (funM_ok hS.tk c) hN.ok.v hx hy ha s hS.st
      unfold evalE at h
      rcases ea : evalE (funM tab c) nm vx vy a s with ⟨r1, s1⟩
      rw [ea] at ga h
      rcases r1 with v | e
      rotate_left
      · cases e <;> exact h _ keep_su
      have hS1 := hS.go ga
      have hN1 := hN.go ga
      walk_at "w"
      refine ⟨R, L0, s1, nm, S, q, b, vx, vy, rfl, rfl, hS1, hN1, hx, hy, ⟨_, rfl, hb⟩, ?_⟩
      have gb := evalE_ok (funM_ok hS.tk c) hN.ok.v hx hy hb s1 hS1.st
      dsimp only at h
      rcases eb : evalE (funM tab c) nm vx vy b s1 with ⟨r2, s2⟩
      rw [eb] at gb h
      rcases r2 with w | e
      rotate_left
      · cases e <;> exact h _ keep_su
      have hS2 := hS1.go gb
      have hN2 := hN1.go gb
      dsimp only at h
      cases c with
      | zero => exact hf.elim
      | succ c =>
      obtain ⟨p, hp, hps⟩ := hf
      have h : ∀ L', keepL (su R L0 s) L' = su R L0 (match tab.lookup f with
        | some p => execM (funM tab c) p v w s2
        | none => (.halt .none, s2)).2 → k (resD (match tab.lookup f with
        | some p => execM (funM tab c) p v w s2
        | none => (.halt .none, s2)).1) L' := h
      rw [hp] at h
      dsimp only at h
      walk_at "w"
      intro q2 hq2
      have hq2 : ¬ inL L0 q2 := fun m => hq2 (by unfold inL; rw [su_keys]; exact m)
      have a1 : q2 ≠ R.o := fun e => hq2 (e ▸ hS.b.o)
      have a2 : q2 ≠ R.c := fun e => hq2 (e ▸ hS.b.c)
      rw [show ((q2, D.dk [] []) :: su R L0 s2) = su R ((q2, dkD []) :: L0) s2 from su_cons a1 a2 _]
      have hN3 : LNam tab R ((q2, dkD []) :: L0) S q nm vx vy s2 := hN2.cons hq2
      walk_at "w"
      rw [con_S hN3]
      walk_at "w"
      rw [con_S hN3]
      walk_at "w"
      rw [con_S hN3]
      walk_at "w"
      refine ⟨sz_ok rfl, fun S2 hS2' => ?_⟩
      have hS2' : ¬ inL ((q2, dkD []) :: L0) S2 := fun m => hS2' (by unfold inL; rw [su_keys]; exact m)
      have b2 : BL R ((q2, dkD []) :: L0) := ⟨inL_cons.mpr (.inr hS.b.o), inL_cons.mpr (.inr hS.b.c), hS.b.ne⟩
      have a3 : S2 ≠ R.o := fun e => hS2' (e ▸ b2.o)
      have a4 : S2 ≠ R.c := fun e => hS2' (e ▸ b2.c)
      rw [show ((S2, D.lst [resD (R1.ok v, s1).fst, resD (R1.ok w, s2).fst, .ptr q2, tabD tab, .ptr R.o, .ptr R.c]) :: su R ((q2, dkD []) :: L0) s2) = su R ((S2, stD v w q2 tab R) :: (q2, dkD []) :: L0) s2 from su_cons a3 a4 _]
      obtain ⟨e0, hN4⟩ := LNam.own (tab := tab) (x := v) (y := w) (s := s2) hS.b hq2 hS2'
      walk_at "w"
      rw [con_S (hN3.cons hS2')]
      walk_at "w"
      rw [look_tab, hp]
      walk_at "w"
      refine ⟨R, (S2, stD v w q2 tab R) :: (q2, dkD []) :: L0, s2, [], S2, q2, p, v, w, rfl, by rw [e0], ?_, ?_, ga.v v rfl, gb.v w rfl, ⟨_, rfl, hps⟩, ?_⟩
      · rw [e0]; exact (hS2.cons _ _).cons _ _
      · rw [e0]; exact hN4
      · unfold execM at h
        rcases eb3 : blkM (funM tab c) v w p [] s2 with ⟨r, nm3, s3⟩
        rw [eb3] at h
        have kk := fun d => keep_own (tab := tab) (d := d) (dS := stD v w q2 tab R) (s := s) (s1 := s3) hS.b hq2 hS2'
        rcases r with e | o
        · cases e <;> exact h _ (kk _)
        · rcases o with _ | u
          · walk_at "w"
            refine ⟨sz_ok rfl, ?_⟩
            exact h _ (kk _)
          · exact h _ (kk _)
    | @bin _ z a b ho ha hb =>
      simp only [List.mem_cons, List.not_mem_nil, or_false] at ho
      rcases ho with rfl | rfl | rfl | rfl
      · walk_at "w"
        refine ⟨sz_ok rfl, ?_⟩
        walk_at "w"
        refine ⟨R, L0, s, nm, S, q, a, vx, vy, rfl, rfl, hS, hN, hx, hy, ⟨_, rfl, ha⟩, ?_⟩
        have ga := evalE_ok (funM_ok hS.tk c) hN.ok.v hx hy ha s hS.st
        unfold evalE at h
        rcases ea : evalE (funM tab c) nm vx vy a s with ⟨r1, s1⟩
        rw [ea] at ga h
        rcases r1 with v | e
        rotate_left
        · cases e <;> exact h _ keep_su
        have hS1 := hS.go ga
        have hN1 := hN.go ga
        walk_at "w"
        refine ⟨R, L0, s1, nm, S, q, b, vx, vy, rfl, rfl, hS1, hN1, hx, hy, ⟨_, rfl, hb⟩, ?_⟩
        have gb := evalE_ok (funM_ok hS.tk c) hN.ok.v hx hy hb s1 hS1.st
        dsimp only at h
        rcases eb : evalE (funM tab c) nm vx vy b s1 with ⟨r2, s2⟩
        rw [eb] at gb h
        rcases r2 with w | e
        rotate_left
        · cases e <;> exact h _ keep_su
        have hS2 := hS1.go gb
        have hN2 := hN1.go gb
        dsimp only at h
        walk_at "w"
        cases h10 : decide (10 < v.2 + w.2) with
        | true =>
          rw [if_pos (of_decide_eq_true h10)] at h
          walk_at "w"
          refine ⟨sz_ok rfl, ?_⟩
          exact h _ keep_su
        | false =>
          rw [if_neg (of_decide_eq_false h10)] at h
          have va := vokR (ga.v v rfl)
          have vb := vokR (gb.v w rfl)
          have hz : ¬ (("add" : Str) = "div" ∧ w.1.1 = 0) := fun q => absurd q.1 (by decide)
          rw [if_neg hz] at h
          walk_at "w"
          refine ⟨v.1, w.1, rfl, Int.ne_of_gt va.1, Int.ne_of_gt vb.1, trivial, va.2.1, va.2.2, vb.2.1, vb.2.2, ?_⟩
          walk_at "w"
          refine ⟨sz_ok rfl, ?_⟩
          exact h _ keep_su
      · walk_at "w"
        refine ⟨sz_ok rfl, ?_⟩
        walk_at "w"
        refine ⟨R, L0, s, nm, S, q, a, vx, vy, rfl, rfl, hS, hN, hx, hy, ⟨_, rfl, ha⟩, ?_⟩
        have ga := evalE_ok (funM_ok hS.tk c) hN.ok.v hx hy ha s hS.st
        unfold evalE at h
        rcases ea : evalE (funM tab c) nm vx vy a s with ⟨r1, s1⟩
        rw [ea] at ga h
        rcases r1 with v | e
        rotate_left
        · cases e <;> exact h _ keep_su
        have hS1 := hS.go ga
        have hN1 := hN.go ga
        walk_at "w"
        refine ⟨R, L0, s1, nm, S, q, b, vx, vy, rfl, rfl, hS1, hN1, hx, hy, ⟨_, rfl, hb⟩, ?_⟩
        have gb := evalE_ok (funM_ok hS.tk c) hN.ok.v hx hy hb s1 hS1.st
        dsimp only at h
        rcases eb : evalE (funM tab c) nm vx vy b s1 with ⟨r2, s2⟩
        rw [eb] at gb h
        rcases r2 with w | e
        rotate_left
        · cases e <;> exact h _ keep_su
        have hS2 := hS1.go gb
        have hN2 := hN1.go gb
        dsimp only at h
        walk_at "w"
        cases h10 : decide (10 < v.2 + w.2) with
        | true =>
          rw [if_pos (of_decide_eq_true h10)] at h
          walk_at "w"
          refine ⟨sz_ok rfl, ?_⟩
          exact h _ keep_su
        | false =>
          rw [if_neg (of_decide_eq_false h10)] at h
          have va := vokR (ga.v v rfl)
          have vb := vokR (gb.v w rfl)
          have hz : ¬ (("sub" : Str) = "div" ∧ w.1.1 = 0) := fun q => absurd q.1 (by decide)
          rw [if_neg hz] at h
          walk_at "w"
          refine ⟨v.1, w.1, rfl, Int.ne_of_gt va.1, Int.ne_of_gt vb.1, trivial, va.2.1, va.2.2, vb.2.1, vb.2.2, ?_⟩
          walk_at "w"
          refine ⟨sz_ok rfl, ?_⟩
          exact h _ keep_su
      · walk_at "w"
        refine ⟨sz_ok rfl, ?_⟩
        walk_at "w"
        refine ⟨R, L0, s, nm, S, q, a, vx, vy, rfl, rfl, hS, hN, hx, hy, ⟨_, rfl, ha⟩, ?_⟩
        have ga := evalE_ok (funM_ok hS.tk c) hN.ok.v hx hy ha s hS.st
        unfold evalE at h
        rcases ea : evalE (funM tab c) nm vx vy a s with ⟨r1, s1⟩
        rw [ea] at ga h
        rcases r1 with v | e
        rotate_left
        · cases e <;> exact h _ keep_su
        have hS1 := hS.go ga
        have hN1 := hN.go ga
        walk_at "w"
        refine ⟨R, L0, s1, nm, S, q, b, vx, vy, rfl, rfl, hS1, hN1, hx, hy, ⟨_, rfl, hb⟩, ?_⟩
        have gb := evalE_ok (funM_ok hS.tk c) hN.ok.v hx hy hb s1 hS1.st
        dsimp only at h
        rcases eb : evalE (funM tab c) nm vx vy b s1 with ⟨r2, s2⟩
        rw [eb] at gb h
        rcases r2 with w | e
        rotate_left
        · cases e <;> exact h _ keep_su
        have hS2 := hS1.go gb
        have hN2 := hN1.go gb
        dsimp only at h
        walk_at "w"
        cases h10 : decide (10 < v.2 + w.2) with
        | true =>
          rw [if_pos (of_decide_eq_true h10)] at h
          walk_at "w"
          refine ⟨sz_ok rfl, ?_⟩
          exact h _ keep_su
        | false =>
          rw [if_neg (of_decide_eq_false h10)] at h
          have va := vokR (ga.v v rfl)
          have vb := vokR (gb.v w rfl)
          have hz : ¬ (("mul" : Str) = "div" ∧ w.1.1 = 0) := fun q => absurd q.1 (by decide)
          rw [if_neg hz] at h
          walk_at "w"
          refine ⟨v.1, w.1, rfl, Int.ne_of_gt va.1, Int.ne_of_gt vb.1, trivial, va.2.1, va.2.2, vb.2.1, vb.2.2, ?_⟩
          walk_at "w"
          refine ⟨sz_ok rfl, ?_⟩
          exact h _ keep_su
      · walk_at "w"
        refine ⟨sz_ok rfl, ?_⟩
        walk_at "w"
        refine ⟨R, L0, s, nm, S, q, a, vx, vy, rfl, rfl, hS, hN, hx, hy, ⟨_, rfl, ha⟩, ?_⟩
        have ga := evalE_ok (funM_ok hS.tk c) hN.ok.v hx hy ha s hS.st
        unfold evalE at h
        rcases ea : evalE (funM tab c) nm vx vy a s with ⟨r1, s1⟩
        rw [ea] at ga h
        rcases r1 with v | e
        rotate_left
        · cases e <;> exact h _ keep_su
        have hS1 := hS.go ga
        have hN1 := hN.go ga
        walk_at "w"
        refine ⟨R, L0, s1, nm, S, q, b, vx, vy, rfl, rfl, hS1, hN1, hx, hy, ⟨_, rfl, hb⟩, ?_⟩
        have gb := evalE_ok (funM_ok hS.tk c) hN.ok.v hx hy hb s1 hS1.st
        dsimp only at h
        rcases eb : evalE (funM tab c) nm vx vy b s1 with ⟨r2, s2⟩
        rw [eb] at gb h
        rcases r2 with w | e
        rotate_left
        · cases e <;> exact h _ keep_su
        have hS2 := hS1.go gb
        have hN2 := hN1.go gb
        dsimp only at h
        walk_at "w"
        cases h10 : decide (10 < v.2 + w.2) with
        | true =>
          rw [if_pos (of_decide_eq_true h10)] at h
          walk_at "w"
          refine ⟨sz_ok rfl, ?_⟩
          exact h _ keep_su
        | false =>
          rw [if_neg (of_decide_eq_false h10)] at h
          have va := vokR (ga.v v rfl)
          have vb := vokR (gb.v w rfl)
          walk_at "w"
          by_cases h0 : w.1.1 = 0
          · rw [if_pos ⟨rfl, h0⟩] at h
            rw [show flEq (.int w.1.1) (.int 0) = true from by rw [h0]; rfl]
            walk_at "w"
            refine ⟨sz_ok rfl, ?_⟩
            exact h _ keep_su
          · have hz : ¬ (("div" : Str) = "div" ∧ w.1.1 = 0) := fun q => h0 q.2
            rw [if_neg hz] at h
            rw [show flEq (.int w.1.1) (.int 0) = false from fl_ne h0]
            walk_at "w"
            refine ⟨v.1, w.1, rfl, Int.ne_of_gt va.1, Int.ne_of_gt vb.1, h0, va.2.1, va.2.2, vb.2.1, vb.2.2, ?_⟩
            walk_at "w"
            refine ⟨sz_ok rfl, ?_⟩
            exact h _ keep_su
  · rintro ds L k x ⟨R, L0, s, nm, S, q, e, vx, vy, rfl, _⟩; rfl
end
end T27

namespace T27
open PySem L2 DL
section
variable {P : Program} {w : World} {K : PySem.W.Frag} {mg : Str → Option Value} {base : Heap} {pS cP cR cH : Addr}
local macro_rules | `(tactic| walk_at "w") => `(tactic| conv => whnf)
local macro_rules | `(tactic| walk_at "v") => `(tactic| ((conv => whnf); try dsimp only))
local macro_rules | `(tactic| walk_at "s") => `(tactic| ((conv => whnf); repeat ((first | refine ⟨sz_ok rfl, ?_⟩ | refine ⟨rfl, ?_⟩); conv => whnf)))

def outL (R : LR) (L : Led) (p r : List Sm) (k : D → Led → Prop) : Option EE × Bool × RSt → Prop
  | (some e, _, s1) => k (.lst [e.d]) (su R L s1)
  | (none, true, s1) => k (.tup (Sm.ds p)) (su R L s1)
  | (none, false, s1) => k (.tup (Sm.ds r)) (su R L s1)
def lrS (tab : TAB) (c : Nat) : DSp := fun ds L k _ => ∃ R L0 s nm S q t a b p r x y, ds = [.tup [.str "if", .str t, a.d, b.d, .tup (Sm.ds p), .tup (Sm.ds r)], .ptr S] ∧ L = su R L0 s ∧ LSit tab R L0 s ∧ LNam tab R L0 S q nm x y s ∧ VOk x ∧ VOk y ∧ t ∈ tests ∧ XpOk (Lv tab c) 7 a ∧ XpOk (Lv tab c) 7 b ∧ outL R L0 p r k (outM (funM tab c) nm x y t a b s)
structure T3 (tab : TAB) (R : LR) (L : Led) (S q : Addr) (nm : NMS) (x y : VAL) (s : RSt) : Prop where
  si : LSit tab R (setL L q (dkD nm)) s
  na : LNam tab R (setL L q (dkD nm)) S q nm x y s
theorem T3.put {tab : TAB} {R : LR} {L : Led} {S q : Addr} {nm nm1 : NMS} {x y : VAL} {s s1 : RSt} (h : T3 tab R L S q nm x y s) (h1 : s1.steps ≤ 60) (h2 : s1.outs.length ≤ s1.steps) (h3 : NOk nm1) (h4 : nm1.length ≤ s1.steps) : T3 tab R L S q nm1 x y s1 := by
  have hin : inL L q := inL_setL.mp (inL_of_lookup h.na.lk)
  obtain ⟨d, hd⟩ := lookup_in hin
  have hS := h.na.lS
  rw [lookup_setL_ne (Ne.symm h.na.ne)] at hS
  exact ⟨⟨⟨inL_setL.mpr (inL_setL.mp h.si.b.o), inL_setL.mpr (inL_setL.mp h.si.b.c), h.si.b.ne⟩, h1, h2, h.si.tk⟩, ⟨h.na.s1, h.na.s2, h.na.n1, h.na.n2, h.na.ne, by rw [lookup_setL_ne (Ne.symm h.na.ne)]; exact hS, lookup_setL hd, h3, h4⟩⟩
theorem T3.gs {tab : TAB} {R : LR} {L : Led} {S q : Addr} {nm nm1 : NMS} {x y : VAL} {s s1 : RSt} {b : BR} (h : T3 tab R L S q nm x y s) (g : Gs nm ⟨s.outs, s.steps + 1⟩ (b, nm1, s1)) : T3 tab R L S q nm1 x y s1 := by
  have h1 := g.lim
  have h2 := g.grow
  have h3 := g.len
  have h4 := h.si.ou
  have h5 := h.na.len
  dsimp only at h1 h2 h3
  exact h.put h1 (by omega) g.n (by omega)
theorem T3.gb {tab : TAB} {R : LR} {L : Led} {S q : Addr} {nm nm1 : NMS} {x y : VAL} {s s1 : RSt} {b : BR} (h : T3 tab R L S q nm x y s) (g : Gb nm s (b, nm1, s1)) : T3 tab R L S q nm1 x y s1 := by
  have h1 := g.lim
  have h2 := g.grow
  have h3 := g.len
  have h4 := h.si.ou
  have h5 := h.na.len
  dsimp only at h1 h2 h3
  exact h.put h1 (by omega) g.n (by omega)
theorem con_lo {tab : TAB} {R : LR} {L : Led} {s : RSt} (h : LSit tab R L s) : con (su R L s) (.ptr R.o) = .lst (s.outs.map D.str) := by
  show ((su R L s).lookup R.o).getD _ = _
  rw [su_o h.b]
  rfl
theorem con_lc {tab : TAB} {R : LR} {L : Led} {s : RSt} (h : LSit tab R L s) : con (su R L s) (.ptr R.c) = .lst [.int s.steps] := by
  show ((su R L s).lookup R.c).getD _ = _
  rw [su_c h.b]
  rfl
theorem put_lq {R : LR} {L : Led} {q : Addr} {nm : NMS} {s : RSt} (h1 : q ≠ R.o) (h2 : q ≠ R.c) (hn : NOk nm) (z : Str) (v : VAL) : setL (su R (setL L q (dkD nm)) s) q (.dk (putKk (.inr z) (nm.map fun p => .inr p.1)) (putKv (.inr z) (valD v) (nm.map fun p => .inr p.1) (nm.map fun p => valD p.2))) = su R (setL L q (dkD (putN z v nm))) s := by
  obtain ⟨e1, e2⟩ := putN_keys z v nm hn.nd
  rw [e1, e2, su_setq h1 h2, setL_setL]
  rfl
theorem scLBranch : FnScope ["_law_one", "_law_state", "_law_first", "_law_second", "_law_turn", "_law_good"] ["_law_one", "_law_state"] (defScope sLBranch) := ⟨rfl, rfl, rfl, by decide +kernel, rfl, by decide +kernel, by decide +kernel⟩
theorem ok_LBranch {f : Addr} {fd : FuncData} (Z : Zn w K mg pS cP cR cH) (F : Fun K "_law_branch" "_law_branch" sLBranch f fd) {tab : TAB} {c : Nat} (CLValue : Cal P w K mg base (30 * c + 13) "_law_value" ["_law_one", "_law_state"] [] (lvS tab c 8)) (CLOrder : Cal P w K mg base 2 "_law_order" ["_law_one", "_law_two"] [] orderS) : FnOk P w K mg base (L2.CX P w) (30 * c + 13 + 1) f fd ["_law_one", "_law_state"] (spD K (lrS tab c)) := by
  refine fn_ok F scLBranch ?len (fun cdv A outer s H E hr => ?_)
  rotate_left
  · have tk := takes_of (X := cxOf (L2.CX P w) P w K mg base ["_law_one", "_law_state", "_law_first", "_law_second", "_law_turn", "_law_good"] "_law_branch" (defScope sLBranch) f cdv A outer s H E) (E := E) rfl rfl rfl rfl
    have hp := passes_of (X := cxOf (L2.CX P w) P w K mg base ["_law_one", "_law_state", "_law_first", "_law_second", "_law_turn", "_law_good"] "_law_branch" (defScope sLBranch) f cdv A outer s H E) rfl
    refine ⟨_, (ss_cons (s_set 2 scLBranch.nd (q_cal CLValue (by first | decide | exact Nat.le_refl _ | omega) hr tk (by rfl) (a_cons (q_ix (qv 0) q_int) (a_cons (qv 1) a_nil))))
  (ss_cons (s_if (t_val (q_isi .str (q_ix (qv 2) q_int) (by rfl) Z.z_isinstance (by rfl) Z.z_str bb_str)) (ss_one (s_ret (q_lst (a_cons (qv 2) a_nil)))) ss_nil)
  (ss_cons (s_set 3 scLBranch.nd (q_cal CLValue (by first | decide | exact Nat.le_refl _ | omega) hr tk (by rfl) (a_cons (q_ix (qv 0) q_int) (a_cons (qv 1) a_nil))))
  (ss_cons (s_if (t_val (q_isi .str (q_ix (qv 3) q_int) (by rfl) Z.z_isinstance (by rfl) Z.z_str bb_str)) (ss_one (s_ret (q_lst (a_cons (qv 3) a_nil)))) ss_nil)
  (ss_cons (s_if (t_cmp oq_gt (q_op oq_add (q_ix (qv 2) q_int) (q_ix (qv 3) q_int)) q_int) (ss_one (s_ret (q_lst (a_cons (q_tup (a_cons q_str a_nil)) a_nil)))) ss_nil)
  (ss_cons (s_set 4 scLBranch.nd (q_cal CLOrder (by first | decide | exact Nat.le_refl _ | omega) hr tk (by rfl) (a_cons (q_ix (qv 2) q_int) (a_cons (q_ix (qv 3) q_int) a_nil))))
  (ss_cons (s_expr (q_append (q_ix (qv 1) q_int) (q_ixS q_str (q_op oq_add (qv 4) q_int))))
  (ss_cons (s_set 5 scLBranch.nd (q_or (q_and (q_cmp oq_lt (qv 4) q_int) (q_one (q_cmp (oq_neU hr.units) (q_ix (qv 0) q_int) q_str))) (q_one (q_and (q_cmp (oq_eqU hr.units) (qv 4) q_int) (q_one (q_cmp (oq_neU hr.units) (q_ix (qv 0) q_int) q_str))))))
  (ss_one (s_ret (q_if (t_val (qv 5)) (q_ix (qv 0) q_int) (q_ix (qv 0) q_int)))))))))))), ?_⟩
    clear tk hp
    rintro ds L k x ⟨R, L0, s, nm, S, q, t, a, b, p, r, vx, vy, rfl, rfl, hS, hN, hx, hy, ht, ha, hb, h⟩
    unfold outM at h
    walk_at "w"
    refine ⟨R, L0, s, nm, S, q, a, vx, vy, rfl, rfl, hS, hN, hx, hy, ⟨_, rfl, ha⟩, ?_⟩
    have ga := evalE_ok (funM_ok hS.tk c) hN.ok.v hx hy ha s hS.st
    rcases ea : evalE (funM tab c) nm vx vy a s with ⟨r1, s1⟩
    rw [ea] at ga h
    rcases r1 with v | e
    rotate_left
    · cases e <;> exact ⟨sz_ok rfl, h⟩
    have hS1 := hS.go ga
    have hN1 := hN.go ga
    walk_at "w"
    refine ⟨R, L0, s1, nm, S, q, b, vx, vy, rfl, rfl, hS1, hN1, hx, hy, ⟨_, rfl, hb⟩, ?_⟩
    have gb := evalE_ok (funM_ok hS.tk c) hN.ok.v hx hy hb s1 hS1.st
    dsimp only at h
    rcases eb : evalE (funM tab c) nm vx vy b s1 with ⟨r2, s2⟩
    rw [eb] at gb h
    rcases r2 with w | e
    rotate_left
    · cases e <;> exact ⟨sz_ok rfl, h⟩
    have hS2 := hS1.go gb
    have hN2 := hN1.go gb
    dsimp only at h
    walk_at "w"
    cases h10 : decide (10 < v.2 + w.2) with
    | true =>
      rw [if_pos (of_decide_eq_true h10)] at h
      walk_at "w"
      refine ⟨sz_ok rfl, ?_⟩
      walk_at "w"
      refine ⟨sz_ok rfl, ?_⟩
      exact h
    | false =>
      rw [if_neg (of_decide_eq_false h10)] at h
      have va := vokR (ga.v v rfl)
      have vb := vokR (gb.v w rfl)
      walk_at "w"
      refine ⟨v.1, w.1, rfl, va.2.1, va.2.2, vb.2.1, vb.2.2, ?_⟩
      walk_at "w"
      have hc : orderR v.1 w.1 = -1 ∨ orderR v.1 w.1 = 0 ∨ orderR v.1 w.1 = 1 := sg_cases _
      generalize orderR v.1 w.1 = tn at h hc ⊢
      have hsz : (s2.outs.map D.str).length < sizeLine := by
        have h1 := hS2.ou
        have h2 := hS2.st
        rw [List.length_map]
        exact Nat.lt_of_le_of_lt (Nat.le_trans h1 h2) (by decide)
      have key : ∀ z : Str, s2.outs.map D.str ++ [.str z] = (s2.outs ++ [z]).map D.str := fun z => by rw [List.map_append]; rfl
      simp only [tests, List.mem_cons, List.not_mem_nil, or_false] at ht
      rw [con_S hN2]
      walk_at "w"
      rw [su_o hS2.b]
      rcases hc with rfl | rfl | rfl
      · walk_at "w"
        refine ⟨by decide, ?_⟩
        walk_at "w"
        rw [su_o hS2.b]
        refine ⟨hsz, ?_⟩
        rw [key, su_seto hS2.b]
        rcases ht with rfl | rfl | rfl
        · exact h
        · exact h
        · exact h
      · walk_at "w"
        refine ⟨by decide, ?_⟩
        walk_at "w"
        rw [su_o hS2.b]
        refine ⟨hsz, ?_⟩
        rw [key, su_seto hS2.b]
        rcases ht with rfl | rfl | rfl
        · exact h
        · exact h
        · exact h
      · walk_at "w"
        refine ⟨by decide, ?_⟩
        walk_at "w"
        rw [su_o hS2.b]
        refine ⟨hsz, ?_⟩
        rw [key, su_seto hS2.b]
        rcases ht with rfl | rfl | rfl
        · exact h
        · exact h
        · exact h
  · rintro ds L k x ⟨R, L0, s, nm, S, q, t, a, b, p, r, vx, vy, rfl, _⟩; rfl
end
end T27

namespace T27
open PySem L2 DL
section
variable {P : Program} {w : World} {K : PySem.W.Frag} {mg : Str → Option Value} {base : Heap} {pS cP cR cH : Addr}
local macro_rules | `(tactic| walk_at "w") => `(tactic| conv => whnf)
local macro_rules | `(tactic| walk_at "v") => `(tactic| ((conv => whnf); try dsimp only))
local macro_rules | `(tactic| walk_at "s") => `(tactic| ((conv => whnf); repeat ((first | refine ⟨sz_ok rfl, ?_⟩ | refine ⟨rfl, ?_⟩); conv => whnf)))

theorem scLBlockEnd : FnScope ["_law_program_z", "_law_state", "_law_one", "_law_end", "_law_k", "_law_chosen", "_law_found", "_law_names_z"] ["_law_program_z", "_law_state"] (defScope sLBlockEnd) := ⟨rfl, rfl, rfl, by decide +kernel, rfl, by decide +kernel, by decide +kernel⟩
theorem ok_LBlockEnd {f : Addr} {fd : FuncData} (Z : Zn w K mg pS cP cR cH) (F : Fun K "_law_block_end" "_law_block_end" sLBlockEnd f fd) {tab : TAB} {c m : Nat} (CLValue : Cal P w K mg base (30 * c + 13) "_law_value" ["_law_one", "_law_state"] [] (lvS tab c 8)) (CLBranch : Cal P w K mg base (30 * c + 14) "_law_branch" ["_law_one", "_law_state"] [] (lrS tab c)) (CLBlockEnd : Cal P w K mg base (30 * c + m + 14) "_law_block_end" ["_law_program_z", "_law_state"] [] (lbS tab c m)) : FnOk P w K mg base (L2.CX P w) (30 * c + m + 14 + 1) f fd ["_law_program_z", "_law_state"] (spD K (lbS tab c (m + 1))) := by
  refine fn_ok F scLBlockEnd ?len (fun cdv A outer s H E hr => ?_)
  rotate_left
  · have tk := takes_of (X := cxOf (L2.CX P w) P w K mg base ["_law_program_z", "_law_state", "_law_one", "_law_end", "_law_k", "_law_chosen", "_law_found", "_law_names_z"] "_law_block_end" (defScope sLBlockEnd) f cdv A outer s H E) (E := E) rfl rfl rfl rfl
    have hp := passes_of (X := cxOf (L2.CX P w) P w K mg base ["_law_program_z", "_law_state", "_law_one", "_law_end", "_law_k", "_law_chosen", "_law_found", "_law_names_z"] "_law_block_end" (defScope sLBlockEnd) f cdv A outer s H E) rfl
    refine ⟨_, (ss_cons (s_for hp rfl (i_tup (qv 0)) (g_name 2 scLBlockEnd.nd) (ss_cons (s_if (t_cmp (oq_eqU hr.units) (q_ix (q_ix (qv 1) q_int) q_int) q_int) (ss_one (s_ret (q_tup (a_cons q_str a_nil)))) ss_nil)
  (ss_cons (s_store (q_op oq_add (q_ix (q_ix (qv 1) q_int) q_int) q_int) (q_ix (qv 1) q_int) q_int)
  (ss_cons (s_set 3 scLBlockEnd.nd q_non)
  (ss_cons (s_if (t_cmp (oq_eqU hr.units) (q_ix (qv 2) q_int) q_str) (ss_one (s_for hp rfl (i_range1 (by rfl) Z.z_range (a_cons (q_ix (qv 2) q_int) a_nil)) (g_name 4 scLBlockEnd.nd) (ss_one (s_set 3 scLBlockEnd.nd (q_if (t_cmp oq_isN (qv 3) q_non) (q_cal CLBlockEnd (by first | decide | exact Nat.le_refl _ | omega) hr tk (by rfl) (a_cons (q_ix (qv 2) q_int) (a_cons (qv 1) a_nil))) (qv 3)))))) (ss_one (s_if (t_cmp (oq_eqU hr.units) (q_ix (qv 2) q_int) q_str) (ss_cons (s_set 5 scLBlockEnd.nd (q_cal CLBranch (by first | decide | exact Nat.le_refl _ | omega) hr tk (by rfl) (a_cons (qv 2) (a_cons (qv 1) a_nil))))
  (ss_one (s_set 3 scLBlockEnd.nd (q_if (t_val (q_isi .lst (qv 5) (by rfl) Z.z_isinstance (by rfl) Z.z_list bb_list)) (q_ix (qv 5) q_int) (q_cal CLBlockEnd (by first | decide | exact Nat.le_refl _ | omega) hr tk (by rfl) (a_cons (qv 5) (a_cons (qv 1) a_nil))))))) (ss_cons (s_set 6 scLBlockEnd.nd (q_cal CLValue (by first | decide | exact Nat.le_refl _ | omega) hr tk (by rfl) (a_cons (q_ix (qv 2) (q_op oq_sub (q_callB cq_len (by rfl) Z.z_len bb_len (a_cons (qv 2) a_nil)) q_int)) (a_cons (qv 1) a_nil))))
  (ss_cons (s_if (t_val (q_isi .str (q_ix (qv 6) q_int) (by rfl) Z.z_isinstance (by rfl) Z.z_str bb_str)) (ss_one (s_ret (qv 6))) ss_nil)
  (ss_cons (s_if (t_cmp (oq_eqU hr.units) (q_ix (qv 2) q_int) q_str) (ss_one (s_ret (q_tup (a_cons q_str (a_cons (qv 6) a_nil))))) ss_nil)
  (ss_cons (s_set 7 scLBlockEnd.nd (q_ix (qv 1) q_int))
  (ss_one (s_storeDk hr.units (qv 6) (qv 7) (q_ix (qv 2) q_int))))))))))
  (ss_one (s_if (t_cmp oq_notN (qv 3) q_non) (ss_one (s_ret (qv 3))) ss_nil)))))))
  (ss_one (s_ret q_non))), ?_⟩
    clear tk hp
    rintro ds L k x ⟨R, L0, s, nm, S, q, l, vx, vy, rfl, rfl, hS0, hN0, hx, hy, ⟨m', hm, hl⟩, h⟩
    cases hm
    have hS : T3 tab R L0 S q nm vx vy s := ⟨hS0, hN0⟩
    clear hS0 hN0
    walk_at "w"
    refine forD_rec (fun r env L' => ∃ (l' : List Sm) (nm : NMS) (s : RSt) (o2 o3 o4 o5 o6 o7 : Option D), r = Sm.ds l' ∧ env = [some (.tup (Sm.ds l)), some (.ptr S), o2, o3, o4, o5, o6, o7] ∧ L' = su R (setL L0 q (dkD nm)) s ∧ T3 tab R L0 S q nm vx vy s ∧ smsOk (Lv tab c) m l' ∧ k (brD (blkM (funM tab c) vx vy l' nm s).1) (su R (setL L0 q (dkD (blkM (funM tab c) vx vy l' nm s).2.1)) (blkM (funM tab c) vx vy l' nm s).2.2)) ?step ?fin _ _ _ ⟨l, nm, s, none, none, none, none, none, none, rfl, rfl, rfl, hS, hl, h⟩
    case fin =>
      rintro env L' ⟨l', nm, s, o2, o3, o4, o5, o6, o7, hr, rfl, rfl, hS, hl, h⟩
      cases l' with
      | cons a b => cases hr
      | nil => exact h
    case step =>
      clear h hl hS nm s
      rintro E' st r env L' hrt hex hbk hct ⟨l', nm, s, o2, o3, o4, o5, o6, o7, hr, rfl, rfl, hS, hl, h⟩ hnx
      cases l' with
      | nil => cases hr
      | cons st r =>
      cases hr
      have hr' : ∀ d L, k d L → E'.rt d L := fun d L h => by rw [hrt]; exact h
      have hl2 : smOk (Lv tab c) m st ∧ smsOk (Lv tab c) m r := by unfold smsOk at hl; exact hl
      unfold blkM at h
      walk_at "w"
      rw [con_S hS.na]
      walk_at "w"
      rw [con_lc hS.si]
      walk_at "w"
      by_cases h60 : s.steps = 60
      · rw [if_pos h60] at h
        rw [show flEq (.int (s.steps : Int)) (.int 60) = true from by rw [h60]; rfl]
        walk_at "w"
        refine ⟨sz_ok rfl, ?_⟩
        exact hr' _ _ h
      rw [if_neg h60] at h
      rw [show flEq (.int (s.steps : Int)) (.int 60) = false from fl_ne (by omega)]
      walk_at "w"
      rw [con_S hS.na]
      walk_at "w"
      rw [con_lc hS.si]
      walk_at "w"
      rw [con_S hS.na]
      walk_at "w"
      rw [su_c hS.si.b]
      walk_at "w"
      rw [show setL (su R (setL L0 q (dkD nm)) s) R.c (D.lst ([D.int (s.steps : Int)].set (Int.toNat 0) (D.int ((s.steps : Int) + 1)))) = su R (setL L0 q (dkD nm)) ⟨s.outs, s.steps + 1⟩ from su_setc hS.si.b (s.steps + 1)]
      have hst : s.steps + 1 ≤ 60 := by have := hS.si.st; omega
      have gS := stmM_ok (funM_ok hS.si.tk c) hx hy m st nm ⟨s.outs, s.steps + 1⟩ hl2.1 hS.na.ok hst
      have hS1 : T3 tab R L0 S q nm vx vy ⟨s.outs, s.steps + 1⟩ := hS.put hst (by have := hS.si.ou; show s.outs.length ≤ s.steps + 1; omega) hS.na.ok (by have := hS.na.len; show nm.length ≤ s.steps + 1; omega)
      cases st with
      | stop e =>
        have he : XpOk (Lv tab c) 7 e := by have := hl2.1; unfold smOk at this; exact this
        unfold stmM at h gS
        walk_at "w"
        refine ⟨R, _, _, nm, S, q, e, vx, vy, rfl, rfl, hS1.si, hS1.na, hx, hy, ⟨_, rfl, he⟩, ?_⟩
        rcases ev : evalE (funM tab c) nm vx vy e ⟨s.outs, s.steps + 1⟩ with ⟨r1, s1⟩
        rw [ev] at h gS
        rcases r1 with v | e
        · walk_at "w"
          refine ⟨sz_ok rfl, ?_⟩
          exact hr' _ _ h
        · cases e <;> exact hr' _ _ h
      | letS z e =>
        have he : XpOk (Lv tab c) 7 e := by have := hl2.1; unfold smOk at this; exact this
        unfold stmM at h gS
        walk_at "w"
        refine ⟨R, _, _, nm, S, q, e, vx, vy, rfl, rfl, hS1.si, hS1.na, hx, hy, ⟨_, rfl, he⟩, ?_⟩
        rcases ev : evalE (funM tab c) nm vx vy e ⟨s.outs, s.steps + 1⟩ with ⟨r1, s1⟩
        rw [ev] at h gS
        rcases r1 with v | e
        · walk_at "w"
          rw [con_S hS1.na]
          walk_at "w"
          rw [su_q hS.na.n1 hS.na.n2, hS.na.lk]
          walk_at "w"
          refine ⟨by rw [List.length_map]; exact Nat.lt_of_le_of_lt (Nat.le_trans hS.na.len hS.si.st) (by decide), ?_⟩
          dsimp only [resD]
          rw [put_lq hS.na.n1 hS.na.n2 hS.na.ok z v]
          walk_at "w"
          exact hnx _ _ ⟨r, _, s1, _, _, _, _, _, _, rfl, rfl, rfl, hS.gs gS, hl2.2, h⟩
        · cases e <;> exact hr' _ _ h
      | ifS t a b p r2 =>
        obtain ⟨ht, ha, hb, m', em, hp, hq⟩ : t ∈ tests ∧ XpOk (Lv tab c) 7 a ∧ XpOk (Lv tab c) 7 b ∧ ∃ m', m = m' + 1 ∧ smsOk (Lv tab c) m' p ∧ smsOk (Lv tab c) m' r2 := by have := hl2.1; unfold smOk at this; exact this
        have ok := fun g s1 => outM_ok (t := t) (funM_ok hS.si.tk c) hS.na.ok.v hx hy ha hb (s := ⟨s.outs, s.steps + 1⟩) (s1 := s1) (g := g) hst
        rw [stm_if] at h gS
        walk_at "w"
        refine ⟨R, _, _, nm, S, q, t, a, b, p, r2, vx, vy, rfl, rfl, hS1.si, hS1.na, hx, hy, ht, ha, hb, ?_⟩
        rcases ev : outM (funM tab c) nm vx vy t a b ⟨s.outs, s.steps + 1⟩ with ⟨_ | e, g, s1⟩
        rotate_left
        · rw [ev] at h gS
          cases e <;> exact hr' _ _ h
        obtain ⟨k1, k2, k3⟩ := ok g s1 ev
        dsimp only at k1 k2 k3
        have hS2 : T3 tab R L0 S q nm vx vy s1 := hS.put k1 (by have := hS.si.ou; omega) hS.na.ok (by have := hS.na.len; omega)
        rw [ev] at h gS
        cases g with
        | true =>
          dsimp only at h gS
          walk_at "w"
          refine ⟨R, L0, s1, nm, S, q, p, vx, vy, rfl, rfl, hS2.si, hS2.na, hx, hy, ⟨m', em, hp⟩, ?_⟩
          rcases eb : blkM (funM tab c) vx vy p nm s1 with ⟨b1, nm1, s2⟩
          rw [eb] at h gS
          rcases b1 with e | o
          · cases e <;> exact hr' _ _ h
          · rcases o with _ | v
            · walk_at "w"
              exact hnx _ _ ⟨r, _, s2, _, _, _, _, _, _, rfl, rfl, rfl, hS.gs gS, hl2.2, h⟩
            · walk_at "w"
              exact hr' _ _ h
        | false =>
          dsimp only at h gS
          walk_at "w"
          refine ⟨R, L0, s1, nm, S, q, r2, vx, vy, rfl, rfl, hS2.si, hS2.na, hx, hy, ⟨m', em, hq⟩, ?_⟩
          rcases eb : blkM (funM tab c) vx vy r2 nm s1 with ⟨b1, nm1, s2⟩
          rw [eb] at h gS
          rcases b1 with e | o
          · cases e <;> exact hr' _ _ h
          · rcases o with _ | v
            · walk_at "w"
              exact hnx _ _ ⟨r, _, s2, _, _, _, _, _, _, rfl, rfl, rfl, hS.gs gS, hl2.2, h⟩
            · walk_at "w"
              exact hr' _ _ h
      | rep n b =>
        obtain ⟨h9, m', em, hb⟩ : n ≤ 9 ∧ ∃ m', m = m' + 1 ∧ smsOk (Lv tab c) m' b := by have := hl2.1; unfold smOk at this; exact this
        unfold stmM at h gS
        walk_at "w"
        refine ⟨⟨by omega, by omega⟩, ?_⟩
        show forD _ _ _ (rngD 0 n) _ _
        generalize hR : repM (blkM (funM tab c) vx vy b) n nm ⟨s.outs, s.steps + 1⟩ = RES at h gS
        refine forD_rec (fun r2 env L' => ∃ (nm' : NMS) (s' : RSt) (e3 : D) (o4 : Option D), env = [some (.tup (Sm.ds l)), some (.ptr S), some (Sm.rep n b).d, some e3, o4, o5, o6, o7] ∧ L' = su R (setL L0 q (dkD nm')) s' ∧ T3 tab R L0 S q nm' vx vy s' ∧ ((e3 = .non ∧ repM (blkM (funM tab c) vx vy b) r2.length nm' s' = RES) ∨ ∃ b1, e3 = brD b1 ∧ b1 ≠ .done none ∧ RES = (b1, nm', s'))) ?step ?fin _ _ _ ⟨nm, _, .non, o4, rfl, rfl, hS1, .inl ⟨rfl, by rw [rngD_len]; exact hR⟩⟩
        case fin =>
          rintro env L' ⟨nm', s', e3, o4, rfl, rfl, hS2, ⟨rfl, hq⟩ | ⟨b1, rfl, nb, hq⟩⟩
          · have hq : (BR.done none, nm', s') = RES := hq
            subst hq
            walk_at "w"
            exact hnx _ _ ⟨r, _, s', _, _, _, _, _, _, rfl, rfl, rfl, hS2, hl2.2, h⟩
          · subst hq
            rcases b1 with e | o
            · cases e <;> exact hr' _ _ h
            · rcases o with _ | v
              · exact absurd rfl nb
              · walk_at "w"
                exact hr' _ _ h
        case step =>
          rintro E2 d r2 env L' hrt2 hex2 hbk2 hct2 ⟨nm', s', e3, o4, rfl, rfl, hS2, ⟨rfl, hq⟩ | ⟨b1, rfl, nb, hq⟩⟩ hnx2
          · walk_at "w"
            refine ⟨R, L0, s', nm', S, q, b, vx, vy, rfl, rfl, hS2.si, hS2.na, hx, hy, ⟨m', em, hb⟩, ?_⟩
            have gB := blkM_ok (funM_ok hS.si.tk c) hx hy m' b nm' s' hb hS2.na.ok hS2.si.st
            have hq : (match blkM (funM tab c) vx vy b nm' s' with
              | (.done none, nm1, s1) => repM (blkM (funM tab c) vx vy b) r2.length nm1 s1
              | r => r) = RES := hq
            rcases eb : blkM (funM tab c) vx vy b nm' s' with ⟨b1, nm1, s2⟩
            rw [eb] at hq gB
            rcases b1 with e | o
            · exact hnx2 _ _ ⟨nm1, s2, _, _, rfl, rfl, hS2.gb gB, .inr ⟨.halt e, rfl, (fun z => by cases z), hq.symm⟩⟩
            · rcases o with _ | v
              · exact hnx2 _ _ ⟨nm1, s2, .non, _, rfl, rfl, hS2.gb gB, .inl ⟨rfl, hq⟩⟩
              · exact hnx2 _ _ ⟨nm1, s2, _, _, rfl, rfl, hS2.gb gB, .inr ⟨.done (some v), rfl, (fun z => by cases z), hq.symm⟩⟩
          · rcases b1 with e | o
            · cases e <;> exact hnx2 _ _ ⟨nm', s', _, _, rfl, rfl, hS2, .inr ⟨_, rfl, nb, hq⟩⟩
            · rcases o with _ | v
              · exact absurd rfl nb
              · exact hnx2 _ _ ⟨nm', s', _, _, rfl, rfl, hS2, .inr ⟨_, rfl, nb, hq⟩⟩
  · rintro ds L k x ⟨R, L0, s, nm, S, q, l, vx, vy, rfl, _⟩; rfl
end
end T27

namespace T27
open PySem L2 DL TL
section
variable {P : Program} {w : World} {K : PySem.W.Frag} {mg : Str → Option Value} {base : Heap} {pS cP cR cH : Addr}
local macro_rules | `(tactic| walk_at "w") => `(tactic| conv => whnf)
local macro_rules | `(tactic| walk_at "v") => `(tactic| ((conv => whnf); try dsimp only))
local macro_rules | `(tactic| walk_at "s") => `(tactic| ((conv => whnf); repeat ((first | refine ⟨sz_ok rfl, ?_⟩ | refine ⟨rfl, ?_⟩); conv => whnf)))

def lnS (tab : TAB) (c : Nat) : DSp := fun ds L k _ => ∃ p x y, ds = [.tup (Sm.ds p), .tup [rtD x, rtD y], tabD tab] ∧ VOk (x, 1) ∧ VOk (y, 1) ∧ smsOk (Lv tab c) 5 p ∧ (∀ p ∈ tab, ∃ ks m, smsOk ks m p.2) ∧ k (wholeD (execM (funM tab c) p (x, 1) (y, 1) ⟨[], 0⟩)) L
def lnR (tab : TAB) (c : Nat) : DSp := fun ds L k _ => ∃ p x y, ds = [.tup (Sm.ds p), .tup [rtD x, rtD y], tabD tab] ∧ VOk (x, 1) ∧ VOk (y, 1) ∧ smsOk (Lv tab c) 5 p ∧ (∀ p ∈ tab, ∃ ks m, smsOk ks m p.2) ∧ ∀ L', keepL L L' = L → k (wholeD (execM (funM tab c) p (x, 1) (y, 1) ⟨[], 0⟩)) L'
theorem ln_tidy {f : Addr} {fd : FuncData} {tab : TAB} {c n : Nat} {ps : List Str} (F : FnOk P w K mg base (L2.CX P w) n f fd ps (spD K (lnR tab c))) : FnOk P w K mg base (L2.CX P w) n f fd ps (spD K (lnS tab c)) := by
  refine fn_weak (fn_tidy F) ?_
  rintro ds L k x ⟨p, vx, vy, rfl, h1, h2, h3, h4, h⟩
  exact ⟨p, vx, vy, rfl, h1, h2, h3, h4, fun L' e => by show k _ (keepL _ L'); rw [e]; exact h⟩
theorem keep_set {L : Led} {a : Addr} {d : D} (ha : ¬ inL L a) : ∀ L1 : Led, keepL L (setL L1 a d) = keepL L L1
  | [] => rfl
  | (b, c) :: r => by
    have ih := keep_set (d := d) ha r
    unfold keepL at ih ⊢
    by_cases e : b = a
    · subst e
      show List.filter _ ((if b = b then (b, d) else (b, c)) :: setL r b d) = _
      rw [if_pos rfl, List.filter_cons, List.filter_cons, decide_eq_false (show ¬ b ∈ L.map (·.1) from ha)]
      exact ih
    · rw [setL_ne e, List.filter_cons, List.filter_cons, ih]
theorem keep_law {R : LR} {L L1 : Led} {s : RSt} (h1 : ¬ inL L R.o) (h2 : ¬ inL L R.c) : keepL L (su R L1 s) = keepL L L1 := by
  unfold su
  rw [keep_set h2, keep_set h1]
theorem scLRun : FnScope ["_law_program_z", "_law_spot_z", "_law_table_z", "_law_state", "_law_end"] ["_law_program_z", "_law_spot_z", "_law_table_z"] (defScope sLRun) := ⟨rfl, rfl, rfl, by decide +kernel, rfl, by decide +kernel, by decide +kernel⟩
theorem ok_LRun {f : Addr} {fd : FuncData} (Z : Zn w K mg pS cP cR cH) (F : Fun K "_law_run" "_law_run" sLRun f fd) {tab : TAB} {c : Nat} (CLBlockEnd : Cal P w K mg base (30 * c + 20) "_law_block_end" ["_law_program_z", "_law_state"] [] (lbS tab c 6)) : FnOk P w K mg base (L2.CX P w) (30 * c + 20 + 1) f fd ["_law_program_z", "_law_spot_z", "_law_table_z"] (spD K (lnR tab c)) := by
  refine fn_ok F scLRun ?len (fun cdv A outer s H E hr => ?_)
  rotate_left
  · have tk := takes_of (X := cxOf (L2.CX P w) P w K mg base ["_law_program_z", "_law_spot_z", "_law_table_z", "_law_state", "_law_end"] "_law_run" (defScope sLRun) f cdv A outer s H E) (E := E) rfl rfl rfl rfl
    have hp := passes_of (X := cxOf (L2.CX P w) P w K mg base ["_law_program_z", "_law_spot_z", "_law_table_z", "_law_state", "_law_end"] "_law_run" (defScope sLRun) f cdv A outer s H E) rfl
    refine ⟨_, (ss_cons (s_set 3 scLRun.nd (q_lstM (a_cons (q_tup (a_cons (q_ix (qv 1) q_int) (a_cons q_int a_nil))) (a_cons (q_tup (a_cons (q_ix (qv 1) q_int) (a_cons q_int a_nil))) (a_cons q_dnewM (a_cons (qv 2) (a_cons (q_lstM a_nil) (a_cons (q_lstM (a_cons q_int a_nil)) a_nil))))))))
  (ss_cons (s_set 4 scLRun.nd (q_cal CLBlockEnd (by first | decide | exact Nat.le_refl _ | omega) hr tk (by rfl) (a_cons (qv 0) (a_cons (qv 3) a_nil))))
  (ss_cons (s_set 4 scLRun.nd (q_if (t_cmp oq_isN (qv 4) q_non) (q_tup (a_cons q_str a_nil)) (q_if (t_cmp (oq_eqU hr.units) (q_ix (qv 4) q_int) q_str) (q_tup (a_cons q_str (a_cons (q_ix (q_ix (qv 4) q_int) q_int) a_nil))) (qv 4))))
  (ss_one (s_ret (q_tup (a_cons (q_callTy cq_tuple (by rfl) Z.z_tuple bb_tuple (a_cons (q_ix (qv 3) q_int) a_nil)) (a_cons (qv 4) a_nil)))))))), ?_⟩
    clear tk hp
    rintro ds L k x ⟨p, vx, vy, rfl, hx, hy, hp, hok, h⟩
    walk_at "w"
    refine ⟨sz_ok rfl, ?_⟩
    walk_at "w"
    refine ⟨sz_ok rfl, ?_⟩
    walk_at "w"
    intro q hq
    walk_at "w"
    refine ⟨sz_ok rfl, fun o ho => ?_⟩
    walk_at "w"
    refine ⟨sz_ok rfl, fun c0 hc0 => ?_⟩
    walk_at "w"
    refine ⟨sz_ok rfl, fun S hS => ?_⟩
    have ho1 : ¬ inL L o := fun m => ho (inL_cons.mpr (.inr m))
    have hoq : o ≠ q := fun e => ho (inL_cons.mpr (.inl e))
    have hco : c0 ≠ o := fun e => hc0 (inL_cons.mpr (.inl e))
    have hcq : c0 ≠ q := fun e => hc0 (inL_cons.mpr (.inr (inL_cons.mpr (.inl e))))
    have hc1 : ¬ inL L c0 := fun m => hc0 (inL_cons.mpr (.inr (inL_cons.mpr (.inr m))))
    have hSc : S ≠ c0 := fun e => hS (inL_cons.mpr (.inl e))
    have hSo : S ≠ o := fun e => hS (inL_cons.mpr (.inr (inL_cons.mpr (.inl e))))
    have hSq : S ≠ q := fun e => hS (inL_cons.mpr (.inr (inL_cons.mpr (.inr (inL_cons.mpr (.inl e))))))
    have hS1 : ¬ inL L S := fun m => hS (inL_cons.mpr (.inr (inL_cons.mpr (.inr (inL_cons.mpr (.inr m))))))
    let R : LR := ⟨o, c0⟩
    let L1 : Led := (S, stD (vx, 1) (vy, 1) q tab R) :: (c0, .lst [.int 0]) :: (o, .lst []) :: (q, dkD []) :: L
    have e1 : ∀ d, setL L1 q d = (S, stD (vx, 1) (vy, 1) q tab R) :: (c0, .lst [.int 0]) :: (o, .lst []) :: (q, d) :: L := fun d => by
      show setL ((S, stD (vx, 1) (vy, 1) q tab R) :: (c0, .lst [.int 0]) :: (o, .lst []) :: (q, dkD []) :: L) q d = _
      rw [setL_ne hSq, setL_ne hcq, setL_ne hoq, setL_top hq]
    have e0 : setL L1 q (dkD []) = L1 := e1 _
    have e2 : su R L1 ⟨[], 0⟩ = L1 := by
      unfold su
      show setL (setL ((S, stD (vx, 1) (vy, 1) q tab R) :: (c0, .lst [.int 0]) :: (o, .lst []) :: (q, dkD []) :: L) o _) c0 _ = _
      rw [setL_ne hSo, setL_ne hco, setL_top (fun m => (inL_cons.mp m).elim hoq ho1), setL_ne hSc, setL_top (fun m => (inL_cons.mp m).elim hco fun m => (inL_cons.mp m).elim hcq hc1)]
      rfl
    walk_at "w"
    refine ⟨R, L1, ⟨[], 0⟩, [], S, q, p, (vx, 1), (vy, 1), rfl, by rw [e0, e2]; rfl, ?_, ?_, hx, hy, ⟨_, rfl, hp⟩, ?_⟩
    · rw [e0]
      exact ⟨⟨inL_cons.mpr (.inr (inL_cons.mpr (.inr (inL_cons.mpr (.inl rfl))))), inL_cons.mpr (.inr (inL_cons.mpr (.inl rfl))), Ne.symm hco⟩, Nat.zero_le _, Nat.zero_le _, hok⟩
    · rw [e0]
      exact ⟨hSo, hSc, Ne.symm hoq, Ne.symm hcq, Ne.symm hSq, List.lookup_cons_self, by rw [lookup_ne (Ne.symm hSq), lookup_ne (Ne.symm hcq), lookup_ne (Ne.symm hoq)]; exact List.lookup_cons_self, ⟨fun p hp => (List.not_mem_nil hp).elim, List.nodup_nil⟩, Nat.zero_le _⟩
    · have hk : ∀ d s, keepL L (su R (setL L1 q d) s) = L := fun d s => by
        rw [keep_law ho1 hc1, keep_set hq, keep_out hS1, keep_out hc1, keep_out ho1, keep_out hq, keep_same rfl]
      have cS : ∀ d s, con (su R (setL L1 q d) s) (.ptr S) = stD (vx, 1) (vy, 1) q tab R := fun d s => by
        show ((su R (setL L1 q d) s).lookup S).getD _ = _
        rw [su_q hSo hSc, e1, List.lookup_cons_self]
        rfl
      have cO : ∀ d s, con (su R (setL L1 q d) s) (.ptr o) = .lst (s.outs.map D.str) := fun d s => by
        show ((su R (setL L1 q d) s).lookup R.o).getD _ = _
        rw [su_o ⟨inL_setL.mpr (inL_cons.mpr (.inr (inL_cons.mpr (.inr (inL_cons.mpr (.inl rfl)))))), inL_setL.mpr (inL_cons.mpr (.inr (inL_cons.mpr (.inl rfl)))), Ne.symm hco⟩]
        rfl
      unfold execM at h
      rcases eb : blkM (funM tab c) (vx, 1) (vy, 1) p [] ⟨[], 0⟩ with ⟨b, nm1, s1⟩
      rw [eb] at h
      rcases b with e | w
      · cases e <;> (walk_at "w"; rw [cS]; walk_at "w"; rw [cO]; exact ⟨sz_ok rfl, h _ (hk _ _)⟩)
      · rcases w with _ | v
        · walk_at "w"
          refine ⟨sz_ok rfl, ?_⟩
          walk_at "w"
          rw [cS]
          walk_at "w"
          rw [cO]
          exact ⟨sz_ok rfl, h _ (hk _ _)⟩
        · walk_at "w"
          refine ⟨sz_ok rfl, ?_⟩
          walk_at "w"
          rw [cS]
          walk_at "w"
          rw [cO]
          exact ⟨sz_ok rfl, h _ (hk _ _)⟩
  · rintro ds L k x ⟨p, vx, vy, rfl, _⟩; rfl
theorem scLBag : FnScope ["_law_script", "_law_mixed", "_law_cell"] ["_law_script"] (defScope sLBag) := ⟨rfl, rfl, rfl, by decide +kernel, rfl, by decide +kernel, by decide +kernel⟩
theorem ok_LBag {f : Addr} {fd : FuncData} (Z : Zn w K mg pS cP cR cH) (F : Fun K "_law_bag" "_law_bag" sLBag f fd) : FnOk P w K mg base (L2.CX P w) 1 f fd ["_law_script"] (spD K bagS) := by
  refine fn_ok F scLBag ?len (fun cdv A outer s H E hr => ?_)
  rotate_left
  · have tk := takes_of (X := cxOf (L2.CX P w) P w K mg base ["_law_script", "_law_mixed", "_law_cell"] "_law_bag" (defScope sLBag) f cdv A outer s H E) (E := E) rfl rfl rfl rfl
    have hp := passes_of (X := cxOf (L2.CX P w) P w K mg base ["_law_script", "_law_mixed", "_law_cell"] "_law_bag" (defScope sLBag) f cdv A outer s H E) rfl
    refine ⟨_, (ss_cons (s_set 1 scLBag.nd q_int)
  (ss_cons (s_for hp rfl (i_list (q_slice (qv 0) o_none (o_some q_int))) (g_name 2 scLBag.nd) (ss_one (s_set 1 scLBag.nd (q_op oq_mod (q_callTy cq_int (by rfl) Z.z_int bb_int (a_cons (q_op oq_add (q_op oq_add (q_op oq_mulU (qv 1) q_int) (q_op oq_mod (q_callTy cq_int (by rfl) Z.z_int bb_int (a_cons (qv 2) a_nil)) q_int)) q_int) a_nil)) q_int))))
  (ss_one (s_ret (q_lstM (a_cons (q_callTy cq_list (by rfl) Z.z_list bb_list (a_cons (q_slice (qv 0) o_none (o_some q_int)) a_nil)) (a_cons q_int (a_cons q_int (a_cons (qv 1) (a_cons q_int a_nil)))))))))), ?_⟩
    clear tk hp
    rintro ds L k x ⟨ns, rfl, h⟩
    obtain ⟨ms, e⟩ : ∃ ms : List Int, cutD (ns.map .int) none (some 63) = ms.map .int := ⟨(ns.drop (HT.sIx (ns.map D.int).length 0 none)).take (HT.sIx (ns.map D.int).length (ns.map D.int).length (some 63) - HT.sIx (ns.map D.int).length 0 none), by unfold cutD; rw [List.map_take, List.map_drop]⟩
    have key : ∀ (En : DEnds) (db : DS), (∀ (m : Int) (o : Option D), 0 ≤ m → m < 2147483497 → En.nx [some (.ro (ns.map .int)), some (.int m), o] L) →
        (∀ (E' : DEnds) (m v : Int), (∀ m' : Int, 0 ≤ m' → m' < 2147483497 → E'.nx [some (.ro (ns.map .int)), some (.int m'), some (.int v)] L) → db E' [some (.ro (ns.map .int)), some (.int m), some (.int v)] L) →
        ∀ (ms : List Int) (m : Int) (o : Option D), 0 ≤ m → m < 2147483497 → forD (dgName 2) db En (ms.map .int) [some (.ro (ns.map .int)), some (.int m), o] L := by
      intro En db hn hb ms
      induction ms with
      | nil => intro m o h0 h1; rw [List.map_nil, forD_nil]; exact hn m o h0 h1
      | cons v r ih => intro m o h0 h1; rw [List.map_cons, forD_cons]; exact hb _ m v fun m' q0 q1 => ih m' (some (.int v)) q0 q1
    walk_at "w"
    rw [e]
    refine key _ _ (fun m o h0 h1 => ?_) (fun E' m v hn => ?_) ms 12019 none (by decide) (by decide)
    · walk_at "w"
      rw [e]
      refine ⟨(by show 5 ≤ sizeLine; decide), fun p hp => ?_⟩
      exact h p ⟨ms, 0, 0, m, 0⟩ hp ⟨Int.le_refl 0, Int.natCast_nonneg _, Int.le_refl 0, h0, h1⟩
    · walk_at "w"
      refine ⟨.inl (.inr (by decide)), ?_⟩
      walk_at "w"
      refine ⟨(by show (2147483423 : Int) ≠ 0; decide), ?_⟩
      walk_at "w"
      refine ⟨(by show (2147483497 : Int) ≠ 0; decide), ?_⟩
      refine hn _ ?_ ?_
      · rw [Int.fmod_eq_emod_of_nonneg _ (by decide)]; exact Int.emod_nonneg _ (by decide)
      · rw [Int.fmod_eq_emod_of_nonneg _ (by decide)]; exact Int.emod_lt_of_pos _ (by decide)
  · rintro ds L k x ⟨ns, rfl, _⟩; rfl
theorem scLPull : FnScope ["_law_bag_here", "_law_many", "_law_cell", "_law_digit", "_law_seed"] ["_law_bag_here", "_law_many"] (defScope sLPull) := ⟨rfl, rfl, rfl, by decide +kernel, rfl, by decide +kernel, by decide +kernel⟩
theorem ok_LPull {f : Addr} {fd : FuncData} (Z : Zn w K mg pS cP cR cH) (F : Fun K "_law_pull" "_law_pull" sLPull f fd) : FnOk P w K mg base (L2.CX P w) 1 f fd ["_law_bag_here", "_law_many"] (spD K pullS) := by
  refine fn_ok F scLPull ?len (fun cdv A outer s H E hr => ?_)
  rotate_left
  · have tk := takes_of (X := cxOf (L2.CX P w) P w K mg base ["_law_bag_here", "_law_many", "_law_cell", "_law_digit", "_law_seed"] "_law_pull" (defScope sLPull) f cdv A outer s H E) (E := E) rfl rfl rfl rfl
    have hp := passes_of (X := cxOf (L2.CX P w) P w K mg base ["_law_bag_here", "_law_many", "_law_cell", "_law_digit", "_law_seed"] "_law_pull" (defScope sLPull) f cdv A outer s H E) rfl
    refine ⟨_, (ss_cons (s_store (q_op oq_add (q_ix (qv 0) q_int) q_int) (qv 0) q_int)
  (ss_cut (s_if (w_and (t_cmp (oq_eqU hr.units) (q_ix (qv 0) q_int) q_int) (w_and1 (t_cmp oq_lt (q_ix (qv 0) q_int) (q_callB cq_len (by rfl) Z.z_len bb_len (a_cons (q_ix (qv 0) q_int) a_nil))))).t (ss_cons (s_set 2 scLPull.nd (q_ix (q_ix (qv 0) q_int) (q_ix (qv 0) q_int)))
  (ss_cons (s_store (q_op oq_add (q_ix (qv 0) q_int) q_int) (qv 0) q_int)
  (ss_one (s_if (t_cmp oq_ge (qv 2) (q_op oq_pow q_int q_int)) (ss_one (s_store (qv 2) (qv 0) q_int)) (ss_one (s_store (q_op oq_mod (q_callTy cq_int (by rfl) Z.z_int bb_int (a_cons (q_op oq_add (q_op oq_add (q_op oq_mulU (q_ix (qv 0) q_int) q_int) (q_op oq_mulU (q_op oq_mod (q_callTy cq_int (by rfl) Z.z_int bb_int (a_cons (qv 2) a_nil)) q_int) q_int)) q_int) a_nil)) q_int) (qv 0) q_int)))))) ss_nil)
  (ss_cons (s_if (t_cmp oq_gt (q_ix (qv 0) q_int) q_int) (ss_cons (s_set 3 scLPull.nd (q_op oq_mod (q_callTy cq_int (by rfl) Z.z_int bb_int (a_cons (q_ix (qv 0) q_int) a_nil)) (qv 1)))
  (ss_cons (s_store (q_op oq_fdiv (q_ix (qv 0) q_int) (qv 1)) (qv 0) q_int)
  (ss_one (s_ret (qv 3))))) ss_nil)
  (ss_cons (s_set 4 scLPull.nd (q_callTy cq_int (by rfl) Z.z_int bb_int (a_cons (q_ix (qv 0) q_int) a_nil)))
  (ss_cons (s_store (q_op oq_mod (q_callTy cq_int (by rfl) Z.z_int bb_int (a_cons (q_op oq_add (q_op oq_add (q_op oq_add (q_op oq_pow (qv 4) q_int) (q_op oq_mulU (qv 4) q_int)) (q_op oq_mulU (q_ix (qv 0) q_int) q_int)) q_int) a_nil)) q_int) (qv 0) q_int)
  (ss_one (s_ret (q_op oq_mod (q_callTy cq_int (by rfl) Z.z_int bb_int (a_cons (q_op oq_add (q_op oq_fdiv (q_ix (qv 0) q_int) q_int) (q_op oq_mulU (q_op oq_mod (q_callTy cq_int (by rfl) Z.z_int bb_int (a_cons (q_ix (qv 0) q_int) a_nil)) q_int) q_int)) a_nil)) (qv 1))))))))), ?_⟩
    clear tk hp
    rintro ds L k x ⟨p, b, m, rfl, hl, ok, m0, m1, h⟩
    obtain ⟨cs, at_, rest, mix, cnt⟩ := b
    have k1 : ∀ d, (setL L p d).lookup p = some d := fun d => lookup_setL hl
    walk_at "w"
    rw [con_ptr hl]
    walk_at "w"
    rw [hl]
    walk_at "w"
    refine ⟨fun env' L' => ∃ (b' : Bag) (o : Option D), BagOk b' ∧ env' = [some (.ptr p), some (.int m), o, none, none] ∧ L' = setL L p (bagC b'), ?_, ?_⟩
    · have st : ∀ (L' : Led) (b' : Bag) (o : Option D), BagOk b' → L' = setL L p (bagC b') → ∃ (b'' : Bag) (o' : Option D), BagOk b'' ∧ [some (D.ptr p), some (D.int m), o, none, none] = [some (.ptr p), some (.int m), o', none, none] ∧ L' = setL L p (bagC b'') := fun L' b' o z e => ⟨b', o, z, rfl, e⟩
      walk_at "w"
      rw [con_ptr (k1 _)]
      walk_at "w"
      try dsimp only
      cases h2 : flEq (D.int rest) (D.int 0) with
      | false => exact st _ ⟨cs, at_, rest, mix, cnt + 1⟩ none ⟨ok.a0, ok.a1, ok.r0, ok.m0, ok.m1⟩ rfl
      | true =>
        walk_at "w"
        rw [con_ptr (k1 _)]
        walk_at "w"
        rw [con_ptr (k1 _)]
        walk_at "w"
        try dsimp only
        cases h3 : decide (at_ < ((cs.map D.int).length : Int)) with
        | false => exact st _ ⟨cs, at_, rest, mix, cnt + 1⟩ none ⟨ok.a0, ok.a1, ok.r0, ok.m0, ok.m1⟩ rfl
        | true =>
          have h3 := of_decide_eq_true h3
          rw [List.length_map] at h3
          have a0 : 0 ≤ at_ := ok.a0
          obtain ⟨n, rfl⟩ := Int.eq_ofNat_of_zero_le a0
          have hn : n < cs.length := by omega
          have hat : atI (cs.map D.int) (n : Int) = some (.int cs[n]) := atI_nat (by rw [List.getElem?_map, List.getElem?_eq_getElem hn]; rfl)
          walk_at "w"
          rw [con_ptr (k1 _)]
          walk_at "w"
          rw [con_ptr (k1 _)]
          walk_at "w"
          rw [show atI (List.map D.int (Bag.mk cs (n : Int) rest mix cnt).cells) (Bag.mk cs (n : Int) rest mix cnt).at_ = some (D.int cs[n]) from hat]
          walk_at "w"
          rw [con_ptr (k1 _)]
          walk_at "w"
          rw [k1]
          walk_at "w"
          rw [setL_setL]
          walk_at "w"
          refine ⟨⟨by decide, by decide, by decide⟩, ?_⟩
          walk_at "w"
          cases h4 : decide ((10 : Int) ^ (Int.toNat 18) ≤ cs[n]) with
          | true =>
            have h4 := of_decide_eq_true h4
            walk_at "w"
            rw [k1]
            walk_at "w"
            rw [setL_setL]
            refine st _ ⟨cs, n + 1, cs[n], mix, cnt + 1⟩ _ ⟨?_, ?_, ?_, ok.m0, ok.m1⟩ rfl
            · show (0 : Int) ≤ n + 1; omega
            · show (n : Int) + 1 ≤ cs.length; omega
            · show 0 ≤ cs[n]
              have : (0 : Int) ≤ 10 ^ (Int.toNat 18) := by decide +kernel
              omega
          | false =>
            walk_at "w"
            rw [con_ptr (k1 _)]
            walk_at "w"
            refine ⟨.inl (.inr (by decide)), ?_⟩
            walk_at "w"
            refine ⟨(by show (2147483423 : Int) ≠ 0; decide), ?_⟩
            walk_at "w"
            refine ⟨.inl (.inr (by decide)), ?_⟩
            walk_at "w"
            refine ⟨(by show (2147483489 : Int) ≠ 0; decide), ?_⟩
            walk_at "w"
            rw [k1]
            walk_at "w"
            rw [setL_setL]
            refine st _ ⟨cs, n + 1, rest, (mix * 39317 + cs[n].fmod 2147483423 * 691 + 43).fmod 2147483489, cnt + 1⟩ _ ⟨?_, ?_, ok.r0, ?_, ?_⟩ rfl
            · show (0 : Int) ≤ n + 1; omega
            · show (n : Int) + 1 ≤ cs.length; omega
            · show (0 : Int) ≤ Int.fmod _ _
              rw [Int.fmod_eq_emod_of_nonneg _ (by decide)]; exact Int.emod_nonneg _ (by decide)
            · show Int.fmod _ _ < (2147483497 : Int)
              rw [Int.fmod_eq_emod_of_nonneg _ (by decide)]
              have := Int.emod_lt_of_pos (mix * 39317 + cs[n].fmod 2147483423 * 691 + 43) (show (0 : Int) < 2147483489 by decide)
              omega
    · rintro env' L' ⟨⟨cs, at_, rest, mix, cnt⟩, o, ok', rfl, rfl⟩
      have r0 : 0 ≤ rest := ok'.r0
      have fm : ∀ z : Int, 0 ≤ z.fmod m ∧ z.fmod m < m := fun z => by
        rw [Int.fmod_eq_emod_of_nonneg _ (Int.le_of_lt m0)]
        exact ⟨Int.emod_nonneg _ (by omega), Int.emod_lt_of_pos _ m0⟩
      walk_at "w"
      rw [con_ptr (k1 _)]
      walk_at "w"
      try dsimp only
      cases h2 : decide (0 < rest) with
      | true =>
        walk_at "w"
        rw [con_ptr (k1 _)]
        walk_at "w"
        refine ⟨(by show m ≠ 0; omega), ?_⟩
        walk_at "w"
        rw [con_ptr (k1 _)]
        walk_at "w"
        refine ⟨⟨(by omega), m1⟩, ?_⟩
        walk_at "w"
        rw [k1]
        walk_at "w"
        rw [setL_setL]
        refine h _ ⟨cs, at_, rest.fdiv m, mix, cnt⟩ (fm rest).1 (fm rest).2 ⟨ok'.a0, ok'.a1, ?_, ok'.m0, ok'.m1⟩
        exact Int.fdiv_nonneg r0 (Int.le_of_lt m0)
      | false =>
        walk_at "w"
        rw [con_ptr (k1 _)]
        walk_at "w"
        have hm0 : 0 ≤ mix := ok'.m0
        have hm1 : mix < 2147483497 := ok'.m1
        refine ⟨⟨by decide, by decide, (by show mix.natAbs < 2 ^ 64; omega)⟩, ?_⟩
        walk_at "w"
        refine ⟨.inl (.inr (by decide)), ?_⟩
        walk_at "w"
        rw [con_ptr (k1 _)]
        walk_at "w"
        refine ⟨.inl (.inr (by decide)), ?_⟩
        walk_at "w"
        refine ⟨(by show (2147483489 : Int) ≠ 0; decide), ?_⟩
        walk_at "w"
        rw [k1]
        walk_at "w"
        rw [setL_setL]
        rw [con_ptr (k1 _)]
        walk_at "w"
        refine ⟨⟨by decide, by decide +kernel⟩, ?_⟩
        walk_at "w"
        rw [con_ptr (k1 _)]
        walk_at "w"
        refine ⟨(by show (7919 : Int) ≠ 0; decide), ?_⟩
        walk_at "w"
        refine ⟨.inl (.inr (by decide)), ?_⟩
        walk_at "w"
        refine ⟨(by show m ≠ 0; omega), ?_⟩
        refine h _ ⟨cs, at_, rest, (mix ^ Int.toNat 3 + mix * 27073 + cnt * 1299827 + 70001).fmod 2147483489, cnt⟩ (fm _).1 (fm _).2 ⟨ok'.a0, ok'.a1, ok'.r0, ?_, ?_⟩
        · show (0 : Int) ≤ Int.fmod _ _
          rw [Int.fmod_eq_emod_of_nonneg _ (by decide)]; exact Int.emod_nonneg _ (by decide)
        · show Int.fmod _ _ < (2147483497 : Int)
          rw [Int.fmod_eq_emod_of_nonneg _ (by decide)]
          have := Int.emod_lt_of_pos (mix ^ Int.toNat 3 + mix * 27073 + cnt * 1299827 + 70001) (show (0 : Int) < 2147483489 by decide)
          omega
  · rintro ds L k x ⟨p, b, m, rfl, _⟩; rfl
theorem scLOf : FnScope ["_law_bag_here", "_law_some"] ["_law_bag_here", "_law_some"] (defScope sLOf) := ⟨rfl, rfl, rfl, by decide +kernel, rfl, by decide +kernel, by decide +kernel⟩
theorem ok_LOf {f : Addr} {fd : FuncData} (Z : Zn w K mg pS cP cR cH) (F : Fun K "_law_of" "_law_of" sLOf f fd) (CLPull : Cal P w K mg base 1 "_law_pull" ["_law_bag_here", "_law_many"] [] pullS) : FnOk P w K mg base (L2.CX P w) 2 f fd ["_law_bag_here", "_law_some"] (spD K ofA) := by
  refine fn_ok F scLOf ?len (fun cdv A outer s H E hr => ?_)
  rotate_left
  · have tk := takes_of (X := cxOf (L2.CX P w) P w K mg base ["_law_bag_here", "_law_some"] "_law_of" (defScope sLOf) f cdv A outer s H E) (E := E) rfl rfl rfl rfl
    have hp := passes_of (X := cxOf (L2.CX P w) P w K mg base ["_law_bag_here", "_law_some"] "_law_of" (defScope sLOf) f cdv A outer s H E) rfl
    refine ⟨_, (ss_one (s_ret (q_ixA (qv 1) (q_cal CLPull (by first | decide | exact Nat.le_refl _ | omega) hr tk (by rfl) (a_cons (qv 0) (a_cons (q_callB cq_len (by rfl) Z.z_len bb_len (a_cons (qv 1) a_nil)) a_nil)))))), ?_⟩
    clear tk hp
    rintro ds L k x ⟨p, b, s, xs, rfl, hs, hl, ok, x0, x1, h⟩
    have lg : ∀ n : Nat, 0 < n → n < 1000 → ((n : Int)).natAbs.log2 < 9000 := fun n n0 n1 => by
      rw [Int.natAbs_natCast]
      have : n.log2 < 10 := by
        rw [Nat.log2_lt (by omega)]
        omega
      omega
    cases s <;> first | cases hs; done | skip
    · rename_i z
      cases hs
      rw [sgD, List.length_map] at x0 x1
      have x0 : 0 < z.length := x0
      have x1 : z.length < 1000 := x1
      have zs : z.length ≤ sizeLine := Nat.le_trans (Nat.le_of_lt x1) (by decide)
      walk_at "w"
      refine ⟨zs, ?_⟩
      walk_at "w"
      refine ⟨p, b, z.length, rfl, hl, ok, by omega, lg _ x0 x1, fun r b' r0 r1 ok' => ?_⟩
      obtain ⟨n, rfl⟩ := Int.eq_ofNat_of_zero_le r0
      have hn : n < z.cps.toList.length := by show n < z.length; omega
      walk_at "w"
      refine ⟨zs, ?_⟩
      rw [show atI z.cps.toList (n : Int) = some z.cps.toList[n] from atI_nat (List.getElem?_eq_getElem hn)]
      exact h _ b' (List.mem_map.mpr ⟨_, List.getElem_mem hn, rfl⟩) ok'
    · rename_i l
      have e : l = xs := by injection hs
      subst e
      walk_at "w"
      refine ⟨p, b, l.length, rfl, hl, ok, by omega, lg _ x0 x1, fun r b' r0 r1 ok' => ?_⟩
      obtain ⟨n, rfl⟩ := Int.eq_ofNat_of_zero_le r0
      have hn : n < l.length := by omega
      walk_at "w"
      rw [show atI l (n : Int) = some l[n] from atI_nat (List.getElem?_eq_getElem hn)]
      exact h _ b' (List.getElem_mem hn) ok'
  · rintro ds L k x ⟨p, b, s, xs, rfl, _⟩; rfl
theorem scLSame : FnScope ["_law_found", "_law_due", "_law_one", "_law_two"] ["_law_found", "_law_due"] (defScope sLSame) := ⟨rfl, rfl, rfl, by decide +kernel, rfl, by decide +kernel, by decide +kernel⟩
theorem ok_LSame {f : Addr} {fd : FuncData} {n : Nat} (Z : Zn w K mg pS cP cR cH) (F : Fun K "_law_same" "_law_same" sLSame f fd) (CLSame : Cal P w K mg base n "_law_same" ["_law_found", "_law_due"] [] (sameS n)) : FnOk P w K mg base (L2.CX P w) (n + 1) f fd ["_law_found", "_law_due"] (spD K (sameS (n + 1))) := by
  refine fn_ok F scLSame ?len (fun cdv A outer s H E hr => ?_)
  rotate_left
  · have tk := takes_of (X := cxOf (L2.CX P w) P w K mg base ["_law_found", "_law_due", "_law_one", "_law_two"] "_law_same" (defScope sLSame) f cdv A outer s H E) (E := E) rfl rfl rfl rfl
    have hp := passes_of (X := cxOf (L2.CX P w) P w K mg base ["_law_found", "_law_due", "_law_one", "_law_two"] "_law_same" (defScope sLSame) f cdv A outer s H E) rfl
    refine ⟨_, (ss_cons (s_if (t_val (q_isi2 .lst .tup (qv 1) (by rfl) Z.z_isinstance (by rfl) Z.z_list bb_list (by rfl) Z.z_tuple bb_tuple)) (ss_cons (s_if (w_or (t_cmp (oq_neU hr.units) (q_isi .lst (qv 0) (by rfl) Z.z_isinstance (by rfl) Z.z_list bb_list) (q_isi .lst (qv 1) (by rfl) Z.z_isinstance (by rfl) Z.z_list bb_list)) (w_or1 (t_cmp (oq_neU hr.units) (q_isi .tup (qv 0) (by rfl) Z.z_isinstance (by rfl) Z.z_tuple bb_tuple) (q_isi .tup (qv 1) (by rfl) Z.z_isinstance (by rfl) Z.z_tuple bb_tuple)))).t (ss_one (s_ret q_bl)) ss_nil)
  (ss_one (s_ret (q_and (q_cmp (oq_eqU hr.units) (q_callB cq_len (by rfl) Z.z_len bb_len (a_cons (qv 0) a_nil)) (q_callB cq_len (by rfl) Z.z_len bb_len (a_cons (qv 1) a_nil))) (q_one (q_callB (cq_all rfl) (by rfl) Z.z_all bb_all (a_cons (q_lc rfl scLSame.nd (i_zip (by rfl) Z.z_zip (a_cons (qv 0) (a_cons (qv 1) a_nil))) (blkOk_by (own := [("_law_one", 2), ("_law_two", 3)]) (N := ["_law_found", "_law_due", "_law_one", "_law_two"]) (sc := (defScope sLSame)) (by decide +kernel)) (fun _ _ _ _ _ => (g_tup (n := 2) rfl (gs_cons (g_name 2 scLSame.nd) (gs_cons (g_name 3 scLSame.nd) gs_nil)))) (fun _ _ _ _ _ => ts_nil) (fun _ _ _ _ _ => (q_cal CLSame (by first | decide | exact Nat.le_refl _ | omega) hr takes0 (by rfl) (a_cons (qv 2) (a_cons (qv 3) a_nil))))) a_nil))))))) ss_nil)
  (ss_cons (s_if (w_or (t_cmp oq_isN (qv 1) q_non) (w_or1 (t_cmp oq_isN (qv 0) q_non))).t (ss_one (s_ret (q_and (q_cmp oq_isN (qv 1) q_non) (q_one (q_cmp oq_isN (qv 0) q_non))))) ss_nil)
  (ss_cons (s_if (w_or (t_cmp (oq_neU hr.units) (q_isi .bl (qv 0) (by rfl) Z.z_isinstance (by rfl) Z.z_bool bb_bool) (q_isi .bl (qv 1) (by rfl) Z.z_isinstance (by rfl) Z.z_bool bb_bool)) (w_or1 (t_cmp (oq_neU hr.units) (q_isi .int (qv 0) (by rfl) Z.z_isinstance (by rfl) Z.z_int bb_int) (q_isi .int (qv 1) (by rfl) Z.z_isinstance (by rfl) Z.z_int bb_int)))).t (ss_one (s_ret q_bl)) ss_nil)
  (ss_one (s_ret (q_and (q_cmp (oq_eqU hr.units) (q_isi .str (qv 0) (by rfl) Z.z_isinstance (by rfl) Z.z_str bb_str) (q_isi .str (qv 1) (by rfl) Z.z_isinstance (by rfl) Z.z_str bb_str)) (q_one (q_cmp (oq_eqU hr.units) (qv 0) (qv 1))))))))), ?_⟩
    clear tk hp
    rintro ds L k x ⟨a, b, rfl, oa, ob, hd, h⟩
    have seq : ∀ (kk : DK) (p : Addr) (e0 : DEnv) (e1 : D → D → DEnv), ¬ inL L p → ∀ (dg : DG) (de : DE), (∀ (x y : D) (L' : Led) (g : DEnv → Prop), g (e1 x y) → dg (.tup [x, y]) e0 L' g) → (∀ (x y : D) (L' : Led) (g : DK) (gx : DX), okP x = true → okP y = true → dep y < n → g (.bl (sameD x y)) L' → de (e1 x y) L' g gx) →
        ∀ (xs ys acc : List D), xs.length = ys.length → okPs xs = true → okPs ys = true → deps ys < n → acc.length + xs.length < 200000 → (∀ bs : List Bool, bs.all id = sameL xs ys → kk (.lst (acc ++ bs.map .bl)) L) → lcD dg dYes de e0 p kk (zipD xs ys) acc ((p, .lst acc) :: L) := by
      intro kk p e0 e1 hp dg de hg he xs
      induction xs with
      | nil =>
        intro ys acc hl _ _ _ _ hk
        cases ys with
        | cons _ _ => simp at hl
        | nil =>
          show lcD _ _ _ _ _ _ [] _ _
          rw [lcD_nil, remL_top hp]
          have := hk [] (by unfold sameL; rfl)
          rw [List.map_nil, List.append_nil] at this
          exact this
      | cons x r ih =>
        intro ys acc hl o1 o2 d2 ha hk
        cases ys with
        | nil => simp at hl
        | cons y s =>
          show lcD _ _ _ _ _ _ (.tup [x, y] :: zipD r s) _ _
          rw [lcD_cons]
          unfold okPs at o1 o2
          rw [Bool.and_eq_true] at o1 o2
          unfold deps at d2
          refine hg x y _ _ ?_
          show de (e1 x y) _ _ _
          refine he x y _ _ _ o1.1 o2.1 (by omega) ⟨lookup_top, ?_, ?_⟩
          · have z : (200000 : Nat) ≤ sizeLine := by decide
            omega
          · rw [setL_top hp]
            refine ih s (acc ++ [.bl (sameD x y)]) (by simpa using hl) o1.2 o2.2 (by omega) (by simp at ha ⊢; omega) fun bs hb => ?_
            have := hk (sameD x y :: bs) (by unfold sameL; rw [List.all_cons, hb]; rfl)
            rw [List.map_cons] at this
            rw [List.append_assoc]
            exact this
    have both : ∀ (xs ys : List D) (kk : DK) (p : Addr) (e0 : DEnv), xs.length = ys.length → okPs xs = true → okPs ys = true → deps ys < n → xs.length < 100000 → (∀ bs : List Bool, bs.all id = sameL xs ys → kk (.lst (bs.map .bl)) L) → ¬ inL L p → ∀ u v, e0 = [u, v, none, none] → lcD (dgTup 2 (dgCons (dgName 2) (dgCons (dgName 3) dgNil))) dYes (dCall (sameS n) [] (dCons (dVar 2) (dCons (dVar 3) dNil))) e0 p kk (zipD xs ys) [] ((p, .lst []) :: L) := by
      intro xs ys kk p e0 hl o1 o2 d2 hz hk hp u v he0
      subst he0
      refine seq kk p _ (fun x y => [u, v, some x, some y]) hp _ _ (fun x y L' g hg => ⟨rfl, hg⟩) (fun x y L' g gx o1 o2 d hg => ?_) xs ys [] hl o1 o2 d2 (by simpa using (by omega : xs.length < 200000)) fun bs hb => hk bs hb
      exact ⟨x, y, rfl, o1, o2, d, hg⟩
    have fin : ∀ (xs ys : List D), okP (.lst xs) = true → okP (.lst ys) = true → deps ys + 1 < n + 1 → sameD a b = sameL xs ys → (decide ((xs.length : Int) = (ys.length : Int)) = false → k (.bl false) L) ∧ (decide ((xs.length : Int) = (ys.length : Int)) = true → xs.length = ys.length ∧ okPs xs = true ∧ okPs ys = true ∧ deps ys < n ∧ xs.length < 100000) := by
      intro xs ys o1 o2 d2 e
      refine ⟨fun z => ?_, fun z => ?_⟩
      · have := of_decide_eq_false z
        rw [e, sameL_len (by omega)] at h
        exact h
      · have := of_decide_eq_true z
        unfold okP at o1 o2
        rw [Bool.and_eq_true] at o1 o2
        exact ⟨by omega, o1.2, o2.2, by omega, of_decide_eq_true o1.1⟩
    have all_ : ∀ (bs : List Bool) (r : Bool), bs.all id = r → k (.bl r) L → gAll [.lst (bs.map .bl)] L fun d => k d L := by
      intro bs r e hk
      show (match blsOf (bs.map .bl) with | some bs => k (.bl (bs.all id)) L | none => False)
      rw [blsOf_map]
      show k (.bl (bs.all id)) L
      rw [e]; exact hk
    cases b with
    | lst ys =>
      cases a with
      | lst xs =>
        have e : sameD (.lst xs) (.lst ys) = sameL xs ys := by unfold sameD; rfl
        rw [e] at h
        unfold dep at hd
        obtain ⟨f1, f2⟩ := fin xs ys oa ob hd e
        walk_at "w"
        cases hh : flEq (D.int (xs.length : Int)) (D.int (ys.length : Int)) with
        | false => exact f1 hh
        | true =>
          obtain ⟨q1, q2, q3, q4, q5⟩ := f2 hh
          walk_at "w"
          intro p hp
          exact both xs ys _ p _ q1 q2 q3 q4 q5 (fun bs hb => all_ bs _ hb h) hp _ _ rfl
      | _ => first | (simp [okP] at oa; done) | (unfold sameD at h; exact h)
    | tup ys =>
      cases a with
      | tup xs =>
        have e : sameD (.tup xs) (.tup ys) = sameL xs ys := by unfold sameD; rfl
        rw [e] at h
        unfold dep at hd
        obtain ⟨f1, f2⟩ := fin xs ys oa ob hd e
        walk_at "w"
        cases hh : flEq (D.int (xs.length : Int)) (D.int (ys.length : Int)) with
        | false => exact f1 hh
        | true =>
          obtain ⟨q1, q2, q3, q4, q5⟩ := f2 hh
          walk_at "w"
          intro p hp
          exact both xs ys _ p _ q1 q2 q3 q4 q5 (fun bs hb => all_ bs _ hb h) hp _ _ rfl
      | _ => first | (simp [okP] at oa; done) | (unfold sameD at h; exact h)
    | non => cases a <;> first | (simp [okP] at oa; done) | (unfold sameD at h; exact h)
    | bl v => cases a <;> first | (simp [okP] at oa; done) | (unfold sameD at h; exact h)
    | int v => cases a <;> first | (simp [okP] at oa; done) | (unfold sameD at h; exact h)
    | str v => cases a <;> first | (simp [okP] at oa; done) | (unfold sameD at h; exact h)
    | _ => simp [okP] at ob
  · rintro ds L k x ⟨a, b, rfl, _⟩; rfl
theorem scLRatio : FnScope ["_law_bag_here", "_law_high", "_law_under"] ["_law_bag_here", "_law_high", "_law_under"] (defScope sLRatio) := ⟨rfl, rfl, rfl, by decide +kernel, rfl, by decide +kernel, by decide +kernel⟩
theorem ok_LRatio {f : Addr} {fd : FuncData} (Z : Zn w K mg pS cP cR cH) (F : Fun K "_law_ratio" "_law_ratio" sLRatio f fd) (CLPull : Cal P w K mg base 1 "_law_pull" ["_law_bag_here", "_law_many"] [] pullS) (CLLow : Cal P w K mg base 2 "_law_low" ["_law_top", "_law_under"] [] lowS) : FnOk P w K mg base (L2.CX P w) 3 f fd ["_law_bag_here", "_law_high", "_law_under"] (spD K ratS) := by
  refine fn_ok F scLRatio ?len (fun cdv A outer s H E hr => ?_)
  rotate_left
  · have tk := takes_of (X := cxOf (L2.CX P w) P w K mg base ["_law_bag_here", "_law_high", "_law_under"] "_law_ratio" (defScope sLRatio) f cdv A outer s H E) (E := E) rfl rfl rfl rfl
    have hp := passes_of (X := cxOf (L2.CX P w) P w K mg base ["_law_bag_here", "_law_high", "_law_under"] "_law_ratio" (defScope sLRatio) f cdv A outer s H E) rfl
    refine ⟨_, (ss_one (s_ret (q_cal CLLow (by first | decide | exact Nat.le_refl _ | omega) hr tk (by rfl) (a_cons (q_op oq_sub (q_cal CLPull (by first | decide | exact Nat.le_refl _ | omega) hr tk (by rfl) (a_cons (qv 0) (a_cons (q_op oq_add (q_op oq_mulU q_int (qv 1)) q_int) a_nil))) (qv 1)) (a_cons (q_op oq_add q_int (q_cal CLPull (by first | decide | exact Nat.le_refl _ | omega) hr tk (by rfl) (a_cons (qv 0) (a_cons (qv 2) a_nil)))) a_nil))))), ?_⟩
    clear tk hp
    rintro ds L k x ⟨p, g, hi, u, rfl, hl, ok, h0, h1, u0, u1, h⟩
    have lg : ∀ z : Int, 0 < z → z < 2 ^ 1990 → z.natAbs.log2 < 9000 := fun z z0 z1 => by
      have : z.natAbs.log2 < 1990 := by
        rw [Nat.log2_lt (by omega)]
        omega
      omega
    have two : (2 : Int) ^ 1900 * 2 < 2 ^ 1990 - 1 := by decide +kernel
    walk_at "w"
    refine ⟨.inl (.inl (by decide)), ?_⟩
    walk_at "w"
    refine ⟨p, g, 2 * hi + 1, rfl, hl, ok, by omega, lg _ (by omega) (by omega), fun r g1 r0 r1 ok1 => ?_⟩
    walk_at "w"
    refine ⟨p, g1, u, rfl, lookup_setL hl, ok1, u0, lg u u0 (by omega), fun q g2 q0 q1 ok2 => ?_⟩
    walk_at "w"
    refine ⟨r - hi, 1 + q, rfl, by omega, by omega, by omega, ?_⟩
    rw [setL_setL]
    obtain ⟨s1, s2, s3⟩ := lowI_spec (t := r - hi) (u := 1 + q) (by omega)
    obtain ⟨t1, t2⟩ := lowI_small (t := r - hi) (u := 1 + q) (by omega)
    exact h _ _ g2 ⟨s1, s2⟩ (by omega) (by omega) (by omega) ok2
  · rintro ds L k x ⟨p, g, hi, u, rfl, _⟩; rfl
end
end T27

namespace T27
open PySem L2 DL TL NumText
section
variable {P : Program} {w : World} {K : PySem.W.Frag} {mg : Str → Option Value} {base : Heap} {pS cP cR cH : Addr}
local macro_rules | `(tactic| walk_at "w") => `(tactic| conv => whnf)
local macro_rules | `(tactic| walk_at "v") => `(tactic| ((conv => whnf); try dsimp only))
local macro_rules | `(tactic| walk_at "s") => `(tactic| ((conv => whnf); repeat ((first | refine ⟨sz_ok rfl, ?_⟩ | refine ⟨rfl, ?_⟩); conv => whnf)))

structure RatOk (h u : Int) (x : Int × Int) : Prop where
  low : Low x.1 x.2
  a : -h ≤ x.1
  b : x.1 ≤ h
  c : x.2 ≤ u
def pointS : DSp := fun ds L k _ => ∃ (b : Addr) (g : Bag) (h u : Int), ds = [.ptr b, .int h, .int u] ∧ L.lookup b = some (bagC g) ∧ BagOk g ∧ 0 ≤ h ∧ h < 2 ^ 1900 ∧ 0 < u ∧ u < 2 ^ 1900 ∧ ∀ x y g', RatOk h u x → RatOk h u y → BagOk g' → k (.tup [rtD x, rtD y]) (setL L b (bagC g'))
def txt (t u : Int) : Str := ⟨(textL t u).toArray⟩
def txtS : DSp := fun ds L k _ => ∃ t u : Int, ds = [.tup [.int t, .int u]] ∧ t.natAbs < 2 ^ 640 ∧ u.natAbs < 2 ^ 640 ∧ k (.str (txt t u)) L

def endD : R1 → D
  | .halt e => e.d
  | .ok v => .tup [.str "value", rtD v.1]
def endT : R1 → Str
  | .halt e => Txt.join " " e.l
  | .ok v => "value " ++ txt v.1.1 v.1.2
structure EndOk (r : R1) : Prop where
  v : ∀ v, r = .ok v → VOk v
  u : ∀ z, r = .halt (.unset z) → z.length ≤ 100
def endS : DSp := fun ds L k _ => ∃ r : R1, ds = [endD r] ∧ EndOk r ∧ k (.str (endT r)) L
theorem txt_len {t u : Int} (ht : t.natAbs < 2 ^ 640) (hu : u.natAbs < 2 ^ 640) : (txt t u).length ≤ 500 := by
  have ll : ∀ i : Int, i.natAbs < 2 ^ 640 → (intL i).length ≤ 200 := fun i h => by
    have := numL_len (k := 193) (by decide) (Nat.lt_trans h (by decide +kernel))
    unfold intL
    split
    · rw [List.length_cons]; omega
    · omega
  have h1 := ll t ht
  have h2 := ll u hu
  rw [tl_len]
  show (textL t u).toArray.toList.length ≤ 500
  rw [List.toList_toArray]
  unfold textL
  split
  · omega
  · rw [List.length_append, List.length_cons]; omega
theorem scLPoint : FnScope ["_law_bag_here", "_law_high", "_law_under"] ["_law_bag_here", "_law_high", "_law_under"] (defScope sLPoint) := ⟨rfl, rfl, rfl, by decide +kernel, rfl, by decide +kernel, by decide +kernel⟩
theorem ok_LPoint {f : Addr} {fd : FuncData} (Z : Zn w K mg pS cP cR cH) (F : Fun K "_law_point" "_law_point" sLPoint f fd) (CLRatio : Cal P w K mg base 3 "_law_ratio" ["_law_bag_here", "_law_high", "_law_under"] [] ratS) : FnOk P w K mg base (L2.CX P w) 4 f fd ["_law_bag_here", "_law_high", "_law_under"] (spD K pointS) := by
  refine fn_ok F scLPoint ?len (fun cdv A outer s H E hr => ?_)
  rotate_left
  · have tk := takes_of (X := cxOf (L2.CX P w) P w K mg base ["_law_bag_here", "_law_high", "_law_under"] "_law_point" (defScope sLPoint) f cdv A outer s H E) (E := E) rfl rfl rfl rfl
    have hp := passes_of (X := cxOf (L2.CX P w) P w K mg base ["_law_bag_here", "_law_high", "_law_under"] "_law_point" (defScope sLPoint) f cdv A outer s H E) rfl
    refine ⟨_, (ss_one (s_ret (q_tup (a_cons (q_cal CLRatio (by first | decide | exact Nat.le_refl _ | omega) hr tk (by rfl) (a_cons (qv 0) (a_cons (qv 1) (a_cons (qv 2) a_nil)))) (a_cons (q_cal CLRatio (by first | decide | exact Nat.le_refl _ | omega) hr tk (by rfl) (a_cons (qv 0) (a_cons (qv 1) (a_cons (qv 2) a_nil)))) a_nil))))), ?_⟩
    clear tk hp
    rintro ds L k x ⟨b, g, hi, u, rfl, hl, ok, h0, h1, u0, u1, h⟩
    walk_at "w"
    refine ⟨b, g, hi, u, rfl, hl, ok, h0, h1, u0, u1, fun p q g1 lw a1 a2 a3 ok1 => ?_⟩
    walk_at "w"
    refine ⟨b, g1, hi, u, rfl, lookup_setL hl, ok1, h0, h1, u0, u1, fun p' q' g2 lw' a1' a2' a3' ok2 => ?_⟩
    walk_at "w"
    rw [setL_setL]
    exact ⟨sz_ok rfl, h (p, q) (p', q') g2 ⟨lw, a1, a2, a3⟩ ⟨lw', a1', a2', a3'⟩ ok2⟩
  · rintro ds L k x ⟨b, g, hi, u, rfl, _⟩; rfl
theorem scRatioText : FnScope ["one"] ["one"] (defScope sRatioText) := ⟨rfl, rfl, rfl, by decide +kernel, rfl, by decide +kernel, by decide +kernel⟩
theorem ok_RatioText {f : Addr} {fd : FuncData} (Z : Zn w K mg pS cP cR cH) (F : Fun K "ratio_text" "ratio_text" sRatioText f fd) : FnOk P w K mg base (L2.CX P w) 1 f fd ["one"] (spD K txtS) := by
  refine fn_ok F scRatioText ?len (fun cdv A outer s H E hr => ?_)
  rotate_left
  · have tk := takes_of (X := cxOf (L2.CX P w) P w K mg base ["one"] "ratio_text" (defScope sRatioText) f cdv A outer s H E) (E := E) rfl rfl rfl rfl
    have hp := passes_of (X := cxOf (L2.CX P w) P w K mg base ["one"] "ratio_text" (defScope sRatioText) f cdv A outer s H E) rfl
    refine ⟨_, (ss_one (s_ret (q_if (t_cmp (oq_eqU hr.units) (q_ix (qv 0) q_int) q_int) (q_callTy cq_str (by rfl) Z.z_str bb_str (a_cons (q_ix (qv 0) q_int) a_nil)) (q_joined (j_cons (q_fmt (q_ix (qv 0) q_int)) (j_cons q_str (j_cons (q_fmt (q_ix (qv 0) q_int)) j_nil))))))), ?_⟩
    clear tk hp
    rintro ds L k x ⟨t, u, rfl, ht, hu, h⟩
    have lg : ∀ i : Int, i.natAbs < 2 ^ 640 → i.natAbs.log2 < 1920 := fun i h => by
      by_cases h0 : i.natAbs = 0
      · rw [h0]; decide
      · exact Nat.lt_trans ((Nat.log2_lt h0).mpr h) (by decide)
    have ll : ∀ i : Int, i.natAbs < 2 ^ 640 → (Str.ofString (toString i)).length ≤ 200 := fun i h => by
      rw [tl_len, tl_int]
      have := numL_len (k := 193) (by decide) (Nat.lt_trans h (by decide +kernel))
      unfold intL
      split
      · rw [List.length_cons]; omega
      · omega
    have sl : ∀ n : Nat, n ≤ 1000 → n ≤ sizeLine := fun n hn => Nat.le_trans hn (by decide)
    walk_at "v"
    cases h1 : flEq (.int u) (.int 1) with
    | true =>
      have h1 : u = 1 := of_decide_eq_true h1
      subst h1
      walk_at "w"
      refine ⟨lg t ht, ?_⟩
      rw [show txt t 1 = Str.ofString (toString t) from ext_tl (by rw [tl_int]; rfl)] at h
      exact h
    | false =>
      have h1 : u ≠ 1 := of_decide_eq_false h1
      walk_at "w"
      refine ⟨lg t ht, ?_⟩
      walk_at "w"
      refine ⟨sl _ (by rw [tl_len, tl_append, List.length_append, ← tl_len, ← tl_len]; have := ll t ht; show 0 + _ ≤ 1000; omega), ?_⟩
      walk_at "w"
      refine ⟨sl _ (by rw [tl_len, tl_append, tl_append, List.length_append, List.length_append, ← tl_len, ← tl_len, ← tl_len]; have := ll t ht; show 0 + _ + 1 ≤ 1000; omega), ?_⟩
      walk_at "w"
      refine ⟨lg u hu, ?_⟩
      walk_at "w"
      refine ⟨sl _ (by rw [tl_len, tl_append, tl_append, tl_append, List.length_append, List.length_append, List.length_append, ← tl_len, ← tl_len, ← tl_len, ← tl_len]; have := ll t ht; have := ll u hu; show 0 + _ + 1 + _ ≤ 1000; omega), ?_⟩
      rw [show txt t u = Str.empty ++ Str.ofString (toString t) ++ "/" ++ Str.ofString (toString u) from ext_tl (by rw [tl_append, tl_append, tl_append, tl_int, tl_int]; show textL t u = [] ++ intL t ++ [47] ++ intL u; unfold textL; rw [if_neg h1]; simp)] at h
      exact h
  · rintro ds L k x ⟨t, u, rfl, _⟩; rfl
theorem scLRatioText : FnScope ["_law_one"] ["_law_one"] (defScope sLRatioText) := ⟨rfl, rfl, rfl, by decide +kernel, rfl, by decide +kernel, by decide +kernel⟩
theorem ok_LRatioText {f : Addr} {fd : FuncData} (Z : Zn w K mg pS cP cR cH) (F : Fun K "_law_ratio_text" "_law_ratio_text" sLRatioText f fd) : FnOk P w K mg base (L2.CX P w) 1 f fd ["_law_one"] (spD K txtS) := by
  refine fn_ok F scLRatioText ?len (fun cdv A outer s H E hr => ?_)
  rotate_left
  · have tk := takes_of (X := cxOf (L2.CX P w) P w K mg base ["_law_one"] "_law_ratio_text" (defScope sLRatioText) f cdv A outer s H E) (E := E) rfl rfl rfl rfl
    have hp := passes_of (X := cxOf (L2.CX P w) P w K mg base ["_law_one"] "_law_ratio_text" (defScope sLRatioText) f cdv A outer s H E) rfl
    refine ⟨_, (ss_one (s_ret (q_if (t_cmp (oq_eqU hr.units) (q_ix (qv 0) q_int) q_int) (q_callTy cq_str (by rfl) Z.z_str bb_str (a_cons (q_ix (qv 0) q_int) a_nil)) (q_op oq_add (q_op oq_add (q_callTy cq_str (by rfl) Z.z_str bb_str (a_cons (q_ix (qv 0) q_int) a_nil)) q_str) (q_callTy cq_str (by rfl) Z.z_str bb_str (a_cons (q_ix (qv 0) q_int) a_nil)))))), ?_⟩
    clear tk hp
    rintro ds L k x ⟨t, u, rfl, ht, hu, h⟩
    have lg : ∀ i : Int, i.natAbs < 2 ^ 640 → i.natAbs.log2 < 1920 := fun i h => by
      by_cases h0 : i.natAbs = 0
      · rw [h0]; decide
      · exact Nat.lt_trans ((Nat.log2_lt h0).mpr h) (by decide)
    have ll : ∀ i : Int, i.natAbs < 2 ^ 640 → (Str.ofString (toString i)).length ≤ 200 := fun i h => by
      rw [tl_len, tl_int]
      have := numL_len (k := 193) (by decide) (Nat.lt_trans h (by decide +kernel))
      unfold intL
      split
      · rw [List.length_cons]; omega
      · omega
    have sl : ∀ n : Nat, n ≤ 1000 → n ≤ sizeLine := fun n hn => Nat.le_trans hn (by decide)
    walk_at "v"
    cases h1 : flEq (.int u) (.int 1) with
    | true =>
      have h1 : u = 1 := of_decide_eq_true h1
      subst h1
      walk_at "w"
      refine ⟨lg t ht, ?_⟩
      rw [show txt t 1 = Str.ofString (toString t) from ext_tl (by rw [tl_int]; rfl)] at h
      exact h
    | false =>
      have h1 : u ≠ 1 := of_decide_eq_false h1
      walk_at "w"
      refine ⟨lg t ht, ?_⟩
      walk_at "w"
      refine ⟨sl _ (by have := ll t ht; show _ + 1 ≤ 1000; omega), ?_⟩
      walk_at "w"
      refine ⟨lg u hu, ?_⟩
      walk_at "w"
      refine ⟨sl _ (by have e : (Str.ofString (toString t) ++ ("/" : Str)).length = (Str.ofString (toString t)).length + 1 := (by rw [tl_len, tl_append, List.length_append, ← tl_len]; rfl); have := ll t ht; have := ll u hu; omega), ?_⟩
      rw [show txt t u = Str.ofString (toString t) ++ "/" ++ Str.ofString (toString u) from ext_tl (by rw [tl_append, tl_append, tl_int, tl_int]; show textL t u = intL t ++ [47] ++ intL u; unfold textL; rw [if_neg h1]; simp)] at h
      exact h
  · rintro ds L k x ⟨t, u, rfl, _⟩; rfl
theorem scEndText : FnScope ["end"] ["end"] (defScope sEndText) := ⟨rfl, rfl, rfl, by decide +kernel, rfl, by decide +kernel, by decide +kernel⟩
theorem ok_EndText {f : Addr} {fd : FuncData} (Z : Zn w K mg pS cP cR cH) (F : Fun K "end_text" "end_text" sEndText f fd) {cQ : Addr} (CRatioText : Cal P w K mg base 1 "ratio_text" ["one"] [] txtS) (n_Quotient : mg "Quotient" = some (.ref cQ)) (hQ : PySem.W.kitOne K (.type "tuple") (.ref cQ) = some false) : FnOk P w K mg base (L2.CX P w) 2 f fd ["end"] (spD K endS) := by
  refine fn_ok F scEndText ?len (fun cdv A outer s H E hr => ?_)
  rotate_left
  · have tk := takes_of (X := cxOf (L2.CX P w) P w K mg base ["end"] "end_text" (defScope sEndText) f cdv A outer s H E) (E := E) rfl rfl rfl rfl
    have hp := passes_of (X := cxOf (L2.CX P w) P w K mg base ["end"] "end_text" (defScope sEndText) f cdv A outer s H E) rfl
    refine ⟨_, (ss_cons (s_if (t_cmp (oq_neU hr.units) (q_ix (qv 0) q_int) q_str) (ss_one (s_ret (q_join q_str (q_callTy cq_list (by rfl) Z.z_list bb_list (a_cons (qv 0) a_nil))))) ss_nil)
  (ss_one (s_ret (q_op oq_add q_str (q_if (t_val (q_isC (K := K) rfl (q_ix (qv 0) q_int) n_Quotient (by rfl) Z.z_isinstance (by rfl))) q_nev (q_cal CRatioText (by first | decide | exact Nat.le_refl _ | omega) hr tk (by rfl) (a_cons (q_ix (qv 0) q_int) a_nil))))))), ?_⟩
    clear tk hp
    rintro ds L k x ⟨r, rfl, hr, h⟩
    cases r with
    | ok v =>
      have hv := (hr.v v rfl).small
      walk_at "s"
      refine ⟨false, hQ, ?_⟩
      walk_at "w"
      refine ⟨_, _, rfl, hv.1, hv.2, ?_⟩
      walk_at "w"
      refine ⟨by have := txt_len hv.1 hv.2; exact sz_ok (Nat.ble_eq.mpr (by show 6 + _ ≤ 1000; omega)), ?_⟩
      exact h
    | halt e =>
      cases e with
      | unset z =>
        have hz := hr.u z rfl
        walk_at "s"
        refine ⟨by show 5 + (z.length + 0) + 2 * 1 ≤ 16777216; omega, ?_⟩
        exact h
      | heavy => walk_at "s"; exact h
      | zero => walk_at "s"; exact h
      | long => walk_at "s"; exact h
      | none => walk_at "s"; exact h
  · rintro ds L k x ⟨r, rfl, _⟩; rfl
end
end T27

namespace T27
open PySem L2 DL TL NumText
section
variable {P : Program} {w : World} {K : PySem.W.Frag} {mg : Str → Option Value} {base : Heap} {pS cP cR cH : Addr}
local macro_rules | `(tactic| walk_at "w") => `(tactic| conv => whnf)
local macro_rules | `(tactic| walk_at "v") => `(tactic| ((conv => whnf); try dsimp only))
local macro_rules | `(tactic| walk_at "s") => `(tactic| ((conv => whnf); repeat ((first | refine ⟨sz_ok rfl, ?_⟩ | refine ⟨rfl, ?_⟩); conv => whnf)))
theorem scLNames : FnScope ["_law_bag_here", "_law_many", "_law_letters", "_law_stem", "_law_k", "_law_at", "_law_first", "_law_found", "_law_barred", "_law_word"] ["_law_bag_here", "_law_many"] (defScope sLNames) := ⟨rfl, rfl, rfl, by decide +kernel, rfl, by decide +kernel, by decide +kernel⟩
theorem ok_LNames {f : Addr} {fd : FuncData} (Z : Zn w K mg pS cP cR cH) (F : Fun K "_law_names" "_law_names" sLNames f fd) (CLPull : Cal P w K mg base 1 "_law_pull" ["_law_bag_here", "_law_many"] [] pullS) (CLOf : Cal P w K mg base 2 "_law_of" ["_law_bag_here", "_law_some"] [] ofA) : FnOk P w K mg base (L2.CX P w) 3 f fd ["_law_bag_here", "_law_many"] (spD K namesS) := by
  refine fn_ok F scLNames ?len (fun cdv A outer s H E hr => ?_)
  rotate_left
  · have tk := takes_of (X := cxOf (L2.CX P w) P w K mg base ["_law_bag_here", "_law_many", "_law_letters", "_law_stem", "_law_k", "_law_at", "_law_first", "_law_found", "_law_barred", "_law_word"] "_law_names" (defScope sLNames) f cdv A outer s H E) (E := E) rfl rfl rfl rfl
    have hp := passes_of (X := cxOf (L2.CX P w) P w K mg base ["_law_bag_here", "_law_many", "_law_letters", "_law_stem", "_law_k", "_law_at", "_law_first", "_law_found", "_law_barred", "_law_word"] "_law_names" (defScope sLNames) f cdv A outer s H E) rfl
    refine ⟨_, (ss_cons (s_asg (q_tup (a_cons q_str (a_cons q_str a_nil))) (g_tup (n := 2) rfl (gs_cons (g_name 2 scLNames.nd) (gs_cons (g_name 3 scLNames.nd) gs_nil))))
  (ss_cons (s_for hp rfl (i_range1 (by rfl) Z.z_range (a_cons (q_cal CLPull (by first | decide | exact Nat.le_refl _ | omega) hr tk (by rfl) (a_cons (qv 0) (a_cons q_int a_nil))) a_nil)) (g_name 4 scLNames.nd) (ss_one (s_set 3 scLNames.nd (q_op oq_add (qv 3) (q_cal CLOf (by first | decide | exact Nat.le_refl _ | omega) hr tk (by rfl) (a_cons (qv 0) (a_cons (qv 2) a_nil)))))))
  (ss_cons (s_asg (q_tup (a_cons (q_cal CLPull (by first | decide | exact Nat.le_refl _ | omega) hr tk (by rfl) (a_cons (qv 0) (a_cons (q_op oq_add (q_callB cq_len (by rfl) Z.z_len bb_len (a_cons (qv 3) a_nil)) q_int) a_nil))) (a_cons (q_cal CLPull (by first | decide | exact Nat.le_refl _ | omega) hr tk (by rfl) (a_cons (qv 0) (a_cons q_int a_nil))) a_nil))) (g_tup (n := 2) rfl (gs_cons (g_name 5 scLNames.nd) (gs_cons (g_name 6 scLNames.nd) gs_nil))))
  (ss_cons (s_setLc 7 rfl scLNames.nd (i_range1 (by rfl) Z.z_range (a_cons (qv 1) a_nil)) (blkOk_by (own := [("_law_k", 4)]) (N := ["_law_bag_here", "_law_many", "_law_letters", "_law_stem", "_law_k", "_law_at", "_law_first", "_law_found", "_law_barred", "_law_word"]) (sc := (defScope sLNames)) (by decide +kernel)) (fun _ _ _ _ _ => (g_name 4 scLNames.nd)) (fun _ _ _ _ _ => ts_nil) (fun _ _ _ _ _ => (q_op oq_add (q_op oq_add (q_slice (qv 3) o_none (o_some (qv 5))) (q_ixS (qv 2) (q_op oq_mod (q_callTy cq_int (by rfl) Z.z_int bb_int (a_cons (q_op oq_add (qv 6) (q_op oq_mulU q_int (qv 4))) a_nil)) q_int))) (q_slice (qv 3) (o_some (qv 5)) o_none))) (sw_true rfl rfl rfl (by decide +kernel)))
  (ss_cons (s_set 8 scLNames.nd (q_tup (a_cons q_str (a_cons q_str (a_cons q_str (a_cons q_str (a_cons q_str (a_cons q_str (a_cons q_str (a_cons q_str a_nil))))))))))
  (ss_one (s_ret (q_lc rfl scLNames.nd (i_list (qv 7)) (blkOk_by (own := [("_law_word", 9)]) (N := ["_law_bag_here", "_law_many", "_law_letters", "_law_stem", "_law_k", "_law_at", "_law_first", "_law_found", "_law_barred", "_law_word"]) (sc := (defScope sLNames)) (by decide +kernel)) (fun _ _ _ _ _ => (g_name 9 scLNames.nd)) (fun _ _ _ _ _ => ts_nil) (fun _ _ _ _ _ => (q_if (t_cmp oq_inQ (qv 9) (qv 8)) (q_op oq_add (qv 9) q_str) (qv 9))))))))))), ?_⟩
    clear tk hp
    rintro ds L k x ⟨p, b, m, rfl, ba, hm, h⟩
    have lg : ∀ n : Nat, 0 < n → n < 1000 → ((n : Int)).natAbs.log2 < 9000 := fun n n0 n1 => by
      rw [Int.natAbs_natCast]
      have : n.log2 < 10 := by
        rw [Nat.log2_lt (by omega)]
        omega
      omega
    have sl : ∀ n : Nat, n ≤ 1000 → n ≤ sizeLine := fun n hn => Nat.le_trans hn (by decide)
    walk_at "s"
    refine ⟨p, b, 5, rfl, ba.lk, ba.ok, by decide, by decide +kernel, fun r b1 r0 r1 ok1 => ?_⟩
    obtain ⟨t, rfl⟩ := Int.eq_ofNat_of_zero_le r0
    walk_at "w"
    refine ⟨⟨by omega, by omega⟩, ?_⟩
    refine forD_rec (fun q env L' => ∃ (stem : Str) (b : Bag) (o4 : Option D), AllLet (tl stem) ∧ stem.length + q.length ≤ 4 ∧ BagOk b ∧ env = [some (.ptr p), some (.int m), some (.str letters), some (.str stem), o4, none, none, none, none, none] ∧ L' = setL L p (bagC b)) ?step ?stop _ _ _ ⟨"", b1, none, (fun c hc => nomatch (show c ∈ ([] : List Nat) from hc)), ?start, ok1, rfl, rfl⟩
    case start =>
      rw [rngD_len, Int.toNat_natCast]
      show 0 + t ≤ 4
      omega
    case step =>
      rintro E' d q env L' _ _ _ _ ⟨stem, b, o4, hs, hl, ok, rfl, rfl⟩ hnx
      rw [List.length_cons] at hl
      walk_at "w"
      refine ⟨p, b, .str letters, _, rfl, rfl, (ba.set ok).lk, ok, by decide, by decide, fun d b2 hd ok2 => ?_⟩
      obtain ⟨c, hc, rfl⟩ := mem_sgD hd
      rw [setL_setL]
      walk_at "w"
      refine ⟨sl _ (by show stem.length + 1 ≤ 1000; omega), ?_⟩
      refine hnx _ _ ⟨stem ++ ⟨#[c]⟩, b2, _, ?_, ?_, ok2, rfl, rfl⟩
      · intro d hd
        rw [tl_append] at hd
        rcases List.mem_append.mp hd with q | q
        · exact hs d q
        · have e : d = c := by simpa [tl] using q
          subst e
          exact hc
      · rw [tl_len, tl_append, List.length_append, ← tl_len]
        show stem.length + 1 + q.length ≤ 4
        omega
    case stop =>
      rintro env L' ⟨stem, b, o4, hs, hl, ok, rfl, rfl⟩
      have hl : stem.length ≤ 4 := hl
      walk_at "w"
      refine ⟨sl _ (by omega), ?_⟩
      walk_at "w"
      refine ⟨p, b, ((stem.length + 1 : Nat) : Int), rfl, (ba.set ok).lk, ok, by omega, lg _ (by omega) (by omega), fun at_ b2 a0 a1 ok2 => ?_⟩
      rw [setL_setL]
      obtain ⟨n, rfl⟩ := Int.eq_ofNat_of_zero_le a0
      walk_at "w"
      refine ⟨p, b2, 26, rfl, (ba.set ok2).lk, ok2, by decide, by decide +kernel, fun f b3 f0 f1 ok3 => ?_⟩
      rw [setL_setL]
      walk_at "s"
      refine ⟨⟨by omega, by omega⟩, fun q hq => ?_⟩
      refine lcD_inv (fun acc L' => L' = setL L p (bagC b3) ∧ ∃ zs : List Str, acc = zs.map D.str ∧ ∀ z ∈ zs, 1 ≤ z.length ∧ z.length ≤ 5 ∧ AllLet (tl z)) (fun acc L' h => by rw [h.1]; exact hq) _ [] _ (by rw [rngD_len]; show 0 + ((m : Int)).toNat ≤ 1000; omega) ⟨rfl, [], rfl, fun z hz => by cases hz⟩ ?_ ?_
      · rintro d hd acc L' ⟨rfl, zs, rfl, hz⟩ K' hK
        obtain ⟨i, hi⟩ := List.getElem?_of_mem hd
        obtain ⟨_, rfl⟩ := rngD_get _ _ _ _ hi
        walk_at "w"
        refine ⟨sl _ (by omega), ?_⟩
        walk_at "w"
        refine ⟨.inl (.inl (by decide)), ?_⟩
        walk_at "w"
        refine ⟨(by show (26 : Int) ≠ 0; decide), ?_⟩
        walk_at "w"
        refine ⟨by decide, ?_⟩
        have hj : ∃ c, atI (tl letters) ((f + 7 * (0 + (i : Int))).fmod 26) = some c ∧ c ∈ tl letters := by
          rw [Int.fmod_eq_emod_of_nonneg _ (by decide)]
          have h0 := Int.emod_nonneg (f + 7 * (0 + (i : Int))) (show (26 : Int) ≠ 0 by decide)
          have h1 := Int.emod_lt_of_pos (f + 7 * (0 + (i : Int))) (show (0 : Int) < 26 by decide)
          obtain ⟨j, ej⟩ := Int.eq_ofNat_of_zero_le h0
          rw [ej] at h1 ⊢
          have hj : j < (tl letters).length := by show j < 26; omega
          exact ⟨(tl letters)[j], atI_nat (List.getElem?_eq_getElem hj), List.getElem_mem hj⟩
        obtain ⟨c, hc1, hc2⟩ := hj
        rw [show atI letters.cps.toList ((f + 7 * (0 + (i : Int))).fmod 26) = some c from hc1]
        have l1 : (cutS stem none (some (n : Int))).length ≤ 4 := Nat.le_trans (cutS_length _ _ _) hl
        have l2 : (cutS stem (some (n : Int)) none).length ≤ 4 := Nat.le_trans (cutS_length _ _ _) hl
        walk_at "w"
        refine ⟨sl _ (by show _ + 1 ≤ 1000; omega), ?_⟩
        walk_at "w"
        refine ⟨sl _ (by omega), ?_⟩
        have l3 : (cutS stem none (some (n : Int)) ++ ⟨#[c]⟩).length ≤ 5 := by
          rw [tl_len, tl_append, List.length_append, ← tl_len]
          show _ + 1 ≤ 5
          omega
        walk_at "w"
        refine ⟨sl _ (by omega), ?_⟩
        refine hK _ _ ⟨rfl, zs ++ [cutS stem none (some (n : Int)) ++ ⟨#[c]⟩ ++ cutS stem (some (n : Int)) none], by rw [List.map_append]; rfl, fun z hz' => ?_⟩
        rcases List.mem_append.mp hz' with q | q
        · exact hz z q
        · have e := List.mem_singleton.mp q
          subst e
          refine word_ok (n := n) (c := c) hs (by rw [← tl_len]; exact hl) (by rw [← tl_len]; omega) hc2 ?_
          rw [tl_append, tl_append, cut_pre, cut_suf]
      · rintro acc L' ⟨rfl, zs, rfl, hz⟩ hlen
        have hlen : zs.length = m := by
          rw [List.length_map, rngD_len, List.length_nil, Int.toNat_natCast] at hlen
          omega
        walk_at "s"
        intro q2 hq2
        refine lcD_inv (fun acc L' => L' = setL L p (bagC b3) ∧ ∃ zs : List Str, acc = zs.map D.str ∧ ∀ z ∈ zs, nameOk z = true) (fun acc L' h => by rw [h.1]; exact hq2) _ [] _ (by rw [List.length_map]; show 0 + zs.length ≤ 1000; omega) ⟨rfl, [], rfl, fun z hz => by cases hz⟩ ?_ ?_
        · rintro d hd acc L' ⟨rfl, ys, rfl, hy⟩ K' hK
          obtain ⟨z, hzm, rfl⟩ := List.mem_map.mp hd
          obtain ⟨z1, z2, z3⟩ := hz z hzm
          have put : ∀ z', nameOk z' = true → K' (.str z') ((q2, .lst (ys.map D.str)) :: setL L p (bagC b3)) := fun z' hz' => hK _ _ ⟨rfl, ys ++ [z'], by rw [List.map_append]; rfl, fun y hy' => (List.mem_append.mp hy').elim (hy y) fun q => by rw [List.mem_singleton.mp q]; exact hz'⟩
          walk_at "v"
          generalize hb : (if false = true then _ else _) = bb
          have hb : decide (z ∈ reserved) = bb := (inV_str z reserved).symm.trans hb
          cases bb with
          | true =>
            walk_at "w"
            refine ⟨sl _ (by show z.length + 1 ≤ 1000; omega), ?_⟩
            exact put _ (barred_q z2 (of_decide_eq_true hb))
          | false =>
            exact put _ (name_of z1 (by omega) (of_decide_eq_false hb) z3)
        · rintro acc L' ⟨rfl, ys, rfl, hy⟩ hlen2
          refine h ys b3 ?_ hy ok3
          rw [List.length_map, List.length_map, List.length_nil] at hlen2
          omega
  · rintro ds L k x ⟨p, b, m, rfl, _⟩; rfl
theorem scLLeaf : FnScope ["_law_bag_here", "_law_names_z", "_law_way"] ["_law_bag_here", "_law_names_z"] (defScope sLLeaf) := ⟨rfl, rfl, rfl, by decide +kernel, rfl, by decide +kernel, by decide +kernel⟩
theorem ok_LLeaf {f : Addr} {fd : FuncData} (Z : Zn w K mg pS cP cR cH) (F : Fun K "_law_leaf" "_law_leaf" sLLeaf f fd) (CLPull : Cal P w K mg base 1 "_law_pull" ["_law_bag_here", "_law_many"] [] pullS) (CLOf : Cal P w K mg base 2 "_law_of" ["_law_bag_here", "_law_some"] [] ofA) : FnOk P w K mg base (L2.CX P w) 3 f fd ["_law_bag_here", "_law_names_z"] (spD K leafS) := by
  refine fn_ok F scLLeaf ?len (fun cdv A outer s H E hr => ?_)
  rotate_left
  · have tk := takes_of (X := cxOf (L2.CX P w) P w K mg base ["_law_bag_here", "_law_names_z", "_law_way"] "_law_leaf" (defScope sLLeaf) f cdv A outer s H E) (E := E) rfl rfl rfl rfl
    have hp := passes_of (X := cxOf (L2.CX P w) P w K mg base ["_law_bag_here", "_law_names_z", "_law_way"] "_law_leaf" (defScope sLLeaf) f cdv A outer s H E) rfl
    refine ⟨_, (ss_cons (s_set 2 scLLeaf.nd (q_cal CLPull (by first | decide | exact Nat.le_refl _ | omega) hr tk (by rfl) (a_cons (qv 0) (a_cons q_int a_nil))))
  (ss_cons (s_if (t_cmp (oq_eqU hr.units) (qv 2) q_int) (ss_one (s_ret (q_tup (a_cons q_str (a_cons (q_cal CLOf (by first | decide | exact Nat.le_refl _ | omega) hr tk (by rfl) (a_cons (qv 0) (a_cons (q_lst (a_cons (q_op oq_sub (q_cal CLPull (by first | decide | exact Nat.le_refl _ | omega) hr tk (by rfl) (a_cons (qv 0) (a_cons q_int a_nil))) q_int) (a_cons (q_op oq_sub (q_cal CLPull (by first | decide | exact Nat.le_refl _ | omega) hr tk (by rfl) (a_cons (qv 0) (a_cons q_int a_nil))) q_int) a_nil))) a_nil))) a_nil))))) ss_nil)
  (ss_cons (s_if (w_and (t_cmp (oq_eqU hr.units) (qv 2) q_int) (w_and1 (t_cmp (oq_neU hr.units) (qv 1) (q_lst a_nil)))).t (ss_one (s_ret (q_tup (a_cons q_str (a_cons (q_cal CLOf (by first | decide | exact Nat.le_refl _ | omega) hr tk (by rfl) (a_cons (qv 0) (a_cons (qv 1) a_nil))) a_nil))))) ss_nil)
  (ss_one (s_ret (q_cal CLOf (by first | decide | exact Nat.le_refl _ | omega) hr tk (by rfl) (a_cons (qv 0) (a_cons (q_lst (a_cons (q_tup (a_cons q_str a_nil)) (a_cons (q_tup (a_cons q_str a_nil)) a_nil))) a_nil)))))))), ?_⟩
    clear tk hp
    rintro ds L k x ⟨p, b, ns, rfl, ba, hl, hn, h⟩
    have last : ∀ b, BagOk b → ofA [.ptr p, .lst [Ex.lx.d, Ex.ly.d]] (setL L p (bagC b)) k (fun _ _ => False) := fun b ok => by
      refine ⟨p, b, _, _, rfl, rfl, (ba.set ok).lk, ok, by show 0 < 2; decide, by show 2 < 1000; decide, fun d b2 hd ok2 => ?_⟩
      rw [setL_setL]
      simp only [List.mem_cons, List.not_mem_nil, or_false] at hd
      rcases hd with e | e <;> subst e
      · exact h .lx b2 rfl (fun _ => .lx) ok2
      · exact h .ly b2 rfl (fun _ => .ly) ok2
    walk_at "w"
    refine ⟨p, b, 5, rfl, ba.lk, ba.ok, by decide, by decide +kernel, fun r b1 r0 r1 ok1 => ?_⟩
    walk_at "v"
    cases h0 : flEq (.int r) (.int 0) with
    | true =>
      walk_at "w"
      refine ⟨p, b1, 1999, rfl, (ba.set ok1).lk, ok1, by decide, by decide +kernel, fun r2 b2 r20 r21 ok2 => ?_⟩
      rw [setL_setL]
      walk_at "w"
      refine ⟨p, b2, 7, rfl, (ba.set ok2).lk, ok2, by decide, by decide +kernel, fun r3 b3 r30 r31 ok3 => ?_⟩
      rw [setL_setL]
      walk_at "s"
      refine ⟨p, b3, _, _, rfl, rfl, (ba.set ok3).lk, ok3, by show 0 < 2; decide, by show 2 < 1000; decide, fun d b4 hd ok4 => ?_⟩
      rw [setL_setL]
      walk_at "w"
      refine ⟨sz_ok rfl, ?_⟩
      simp only [List.mem_cons, List.not_mem_nil, or_false] at hd
      rcases hd with e | e <;> subst e
      · exact h (.num (r2 - 999)) b4 rfl (fun _ => .num (by omega) (by omega)) ok4
      · exact h (.num (r3 - 3)) b4 rfl (fun _ => .num (by omega) (by omega)) ok4
    | false =>
      walk_at "v"
      cases h1 : flEq (.int r) (.int 1) with
      | false =>
        walk_at "s"
        exact last b1 ok1
      | true =>
        walk_at "s"
        refine ⟨shp_strs hn, rfl, ?_⟩
        walk_at "v"
        rw [eqD_strs]
        cases he : ns.isEmpty with
        | true =>
          walk_at "s"
          exact last b1 ok1
        | false =>
          walk_at "s"
          refine ⟨p, b1, _, _, rfl, rfl, (ba.set ok1).lk, ok1, ?_, by rw [List.length_map]; omega, fun d b2 hd ok2 => ?_⟩
          · rw [List.length_map]
            cases ns with
            | nil => cases he
            | cons _ _ => exact Nat.succ_pos _
          rw [setL_setL]
          walk_at "w"
          refine ⟨sz_ok rfl, ?_⟩
          obtain ⟨z, hz, rfl⟩ := List.mem_map.mp hd
          exact h (.nm z) b2 rfl (fun _ => .nm hz) ok2
  · rintro ds L k x ⟨p, b, ns, rfl, _⟩; rfl
theorem scLExpression : FnScope ["_law_bag_here", "_law_names_z", "_law_known", "_law_deep", "_law_one", "_law_two"] ["_law_bag_here", "_law_names_z", "_law_known", "_law_deep"] (defScope sLExpression) := ⟨rfl, rfl, rfl, by decide +kernel, rfl, by decide +kernel, by decide +kernel⟩
theorem ok_LExpression {f : Addr} {fd : FuncData} {n : Nat} (Z : Zn w K mg pS cP cR cH) (F : Fun K "_law_expression" "_law_expression" sLExpression f fd) (CLPull : Cal P w K mg base 1 "_law_pull" ["_law_bag_here", "_law_many"] [] pullS) (CLOf : Cal P w K mg base 2 "_law_of" ["_law_bag_here", "_law_some"] [] ofA) (CLLeaf : Cal P w K mg base 3 "_law_leaf" ["_law_bag_here", "_law_names_z"] [] leafS) (CLExpression : Cal P w K mg base (n + 3) "_law_expression" ["_law_bag_here", "_law_names_z", "_law_known", "_law_deep"] [] (exprG n)) : FnOk P w K mg base (L2.CX P w) (n + 4) f fd ["_law_bag_here", "_law_names_z", "_law_known", "_law_deep"] (spD K (exprG (n + 1))) := by
  refine fn_ok F scLExpression ?len (fun cdv A outer s H E hr => ?_)
  rotate_left
  · have tk := takes_of (X := cxOf (L2.CX P w) P w K mg base ["_law_bag_here", "_law_names_z", "_law_known", "_law_deep", "_law_one", "_law_two"] "_law_expression" (defScope sLExpression) f cdv A outer s H E) (E := E) rfl rfl rfl rfl
    have hp := passes_of (X := cxOf (L2.CX P w) P w K mg base ["_law_bag_here", "_law_names_z", "_law_known", "_law_deep", "_law_one", "_law_two"] "_law_expression" (defScope sLExpression) f cdv A outer s H E) rfl
    refine ⟨_, (ss_cons (s_if (w_or (t_cmp oq_lt (qv 3) q_int) (w_or1 (t_cmp (oq_eqU hr.units) (q_cal CLPull (by first | decide | exact Nat.le_refl _ | omega) hr tk (by rfl) (a_cons (qv 0) (a_cons q_int a_nil))) q_int))).t (ss_one (s_ret (q_cal CLLeaf (by first | decide | exact Nat.le_refl _ | omega) hr tk (by rfl) (a_cons (qv 0) (a_cons (qv 1) a_nil))))) ss_nil)
  (ss_cons (s_par 4 5 rfl scLExpression.nd (a_cons (q_cal CLExpression (by first | decide | exact Nat.le_refl _ | omega) hr tk (by rfl) (a_cons (qv 0) (a_cons (qv 1) (a_cons (qv 2) (a_cons (q_op oq_sub (qv 3) q_int) a_nil))))) (a_cons (q_cal CLExpression (by first | decide | exact Nat.le_refl _ | omega) hr tk (by rfl) (a_cons (qv 0) (a_cons (qv 1) (a_cons (qv 2) (a_cons (q_op oq_sub (qv 3) q_int) a_nil))))) a_nil)))
  (ss_cons (s_if (w_and (t_cmp (oq_neU hr.units) (qv 2) (q_lst a_nil)) (w_and1 (t_cmp (oq_eqU hr.units) (q_cal CLPull (by first | decide | exact Nat.le_refl _ | omega) hr tk (by rfl) (a_cons (qv 0) (a_cons q_int a_nil))) q_int))).t (ss_one (s_ret (q_tup (a_cons q_str (a_cons (q_cal CLOf (by first | decide | exact Nat.le_refl _ | omega) hr tk (by rfl) (a_cons (qv 0) (a_cons (qv 2) a_nil))) (a_cons (qv 4) (a_cons (qv 5) a_nil))))))) ss_nil)
  (ss_one (s_ret (q_tup (a_cons (q_cal CLOf (by first | decide | exact Nat.le_refl _ | omega) hr tk (by rfl) (a_cons (qv 0) (a_cons (q_lst (a_cons q_str (a_cons q_str (a_cons q_str (a_cons q_str a_nil))))) a_nil))) (a_cons (qv 4) (a_cons (qv 5) a_nil))))))))), ?_⟩
    clear tk hp
    rintro ds L k x ⟨p, b, ns, ks, m, rfl, hm, ba, hl, hn, kl, hk, h⟩
    have leaf : ∀ b, BagAt L p b → leafS [.ptr p, .lst (ns.map D.str)] L k (fun _ _ => False) := fun b ba => ⟨p, b, ns, rfl, ba, hl, hn, fun e b' h1 h2 ok => h e b' (by rw [h1]; exact Nat.le_max_right _ _) (h2 ks) ok⟩
    have leaf2 : ∀ b, BagOk b → leafS [.ptr p, .lst (ns.map D.str)] (setL L p (bagC b)) k (fun _ _ => False) := fun b ok => ⟨p, b, ns, rfl, ba.set ok, hl, hn, fun e b' h1 h2 ok => by rw [setL_setL]; exact h e b' (by rw [h1]; exact Nat.le_max_right _ _) (h2 ks) ok⟩
    walk_at "v"
    cases h0 : decide ((m : Int) < 2) with
    | true =>
      walk_at "w"
      exact leaf b ba
    | false =>
      have h0 := of_decide_eq_false h0
      obtain ⟨m, rfl⟩ : ∃ m', m = m' + 1 := ⟨m - 1, by omega⟩
      walk_at "w"
      refine ⟨p, b, 4, rfl, ba.lk, ba.ok, by decide, by decide +kernel, fun r b1 r0 r1 ok1 => ?_⟩
      walk_at "v"
      cases h1 : flEq (.int r) (.int 0) with
      | true =>
        walk_at "w"
        exact leaf2 b1 ok1
      | false =>
        have em : ((m + 1 : Nat) : Int) - 1 = (m : Int) := by omega
        walk_at "w"
        refine ⟨p, b1, ns, ks, m, by show [D.ptr p, D.lst (ns.map D.str), D.lst (ks.map D.str), D.int (((m + 1 : Nat) : Int) - 1)] = _; rw [em], by omega, ba.set ok1, hl, hn, kl, hk, fun e1 b2 d1 w1 ok2 => ?_⟩
        rw [setL_setL]
        walk_at "w"
        refine ⟨p, b2, ns, ks, m, by show [D.ptr p, D.lst (ns.map D.str), D.lst (ks.map D.str), D.int (((m + 1 : Nat) : Int) - 1)] = _; rw [em], by omega, ba.set ok2, hl, hn, kl, hk, fun e2 b3 d2 w2 ok3 => ?_⟩
        rw [setL_setL]
        have dd : max e1.dp e2.dp + 1 ≤ max (m + 1) 1 := by
          have : 1 ≤ m := by omega
          rw [Nat.max_eq_left this] at d1 d2
          rw [show max (m + 1) 1 = m + 1 from Nat.max_eq_left (by omega)]
          exact Nat.succ_le_succ (Nat.max_le.mpr ⟨d1, d2⟩)
        have fin : ∀ b, BagOk b → ofA [.ptr p, .lst [.str "add", .str "sub", .str "mul", .str "div"]] (setL L p (bagC b)) (fun d L' => [d, e1.d, e2.d].length ≤ sizeLine ∧ k (.tup [d, e1.d, e2.d]) L') (fun _ _ => False) := fun b ok => by
          refine ⟨p, b, _, _, rfl, rfl, (ba.set ok).lk, ok, by decide, by decide, fun d b' hd ok' => ?_⟩
          rw [setL_setL]
          refine ⟨sz_ok rfl, ?_⟩
          have : ∃ o : Str, d = .str o ∧ o ∈ (["add", "sub", "mul", "div"] : List Str) := by
            simp only [List.mem_cons, List.not_mem_nil, or_false] at hd
            rcases hd with e | e | e | e <;> subst e <;> exact ⟨_, rfl, by decide⟩
          obtain ⟨o, rfl, ho⟩ := this
          exact h (.bin o e1 e2) b' dd (.bin ho w1 w2) ok'
        walk_at "s"
        refine ⟨shp_strs hk, rfl, ?_⟩
        walk_at "v"
        rw [eqD_strs]
        cases he : ks.isEmpty with
        | true =>
          walk_at "s"
          exact fin b3 ok3
        | false =>
          walk_at "w"
          refine ⟨p, b3, 5, rfl, (ba.set ok3).lk, ok3, by decide, by decide +kernel, fun r2 b4 r20 r21 ok4 => ?_⟩
          rw [setL_setL]
          walk_at "v"
          cases h2 : flEq (.int r2) (.int 0) with
          | false =>
            walk_at "s"
            exact fin b4 ok4
          | true =>
            walk_at "s"
            refine ⟨p, b4, _, _, rfl, rfl, (ba.set ok4).lk, ok4, ?_, by rw [List.length_map]; omega, fun d b5 hd ok5 => ?_⟩
            · rw [List.length_map]
              cases ks with
              | nil => cases he
              | cons _ _ => exact Nat.succ_pos _
            rw [setL_setL]
            walk_at "w"
            refine ⟨sz_ok rfl, ?_⟩
            obtain ⟨z, hz, rfl⟩ := List.mem_map.mp hd
            exact h (.call z e1 e2) b5 dd (.call hz w1 w2) ok5
  · rintro ds L k x ⟨p, b, ns, ks, m, rfl, _⟩; rfl
theorem scLStatement : FnScope ["_law_bag_here", "_law_names_z", "_law_known", "_law_deep", "_law_left", "_law_way", "_law_often_z", "_law_one", "_law_two", "_law_word", "_law_then"] ["_law_bag_here", "_law_names_z", "_law_known", "_law_deep", "_law_left"] (defScope sLStatement) := ⟨rfl, rfl, rfl, by decide +kernel, rfl, by decide +kernel, by decide +kernel⟩
theorem ok_LStatement {f : Addr} {fd : FuncData} {n : Nat} (Z : Zn w K mg pS cP cR cH) (F : Fun K "_law_statement" "_law_statement" sLStatement f fd) (CLPull : Cal P w K mg base 1 "_law_pull" ["_law_bag_here", "_law_many"] [] pullS) (CLOf : Cal P w K mg base 2 "_law_of" ["_law_bag_here", "_law_some"] [] ofA) (CLExpression : Cal P w K mg base 8 "_law_expression" ["_law_bag_here", "_law_names_z", "_law_known", "_law_deep"] [] (exprG 5)) (CLBlock : Cal P w K mg base (2 * n + 9) "_law_block" ["_law_bag_here", "_law_names_z", "_law_known", "_law_deep", "_law_left"] [] (bkG n)) : FnOk P w K mg base (L2.CX P w) (2 * n + 10) f fd ["_law_bag_here", "_law_names_z", "_law_known", "_law_deep", "_law_left"] (spD K (stG (n + 1))) := by
  refine fn_ok F scLStatement ?len (fun cdv A outer s H E hr => ?_)
  rotate_left
  · have tk := takes_of (X := cxOf (L2.CX P w) P w K mg base ["_law_bag_here", "_law_names_z", "_law_known", "_law_deep", "_law_left", "_law_way", "_law_often_z", "_law_one", "_law_two", "_law_word", "_law_then"] "_law_statement" (defScope sLStatement) f cdv A outer s H E) (E := E) rfl rfl rfl rfl
    have hp := passes_of (X := cxOf (L2.CX P w) P w K mg base ["_law_bag_here", "_law_names_z", "_law_known", "_law_deep", "_law_left", "_law_way", "_law_often_z", "_law_one", "_law_two", "_law_word", "_law_then"] "_law_statement" (defScope sLStatement) f cdv A outer s H E) rfl
    refine ⟨_, (ss_cons (s_set 5 scLStatement.nd (q_cal CLPull (by first | decide | exact Nat.le_refl _ | omega) hr tk (by rfl) (a_cons (qv 0) (a_cons q_int a_nil))))
  (ss_cons (s_if (w_or (t_cmp oq_lt (qv 5) q_int) (w_or1 (w_and (t_cmp oq_lt (qv 3) q_int) (w_and1 (t_cmp oq_lt (qv 5) q_int))).t)).t (ss_one (s_ret (q_tup (a_cons q_str (a_cons (q_cal CLOf (by first | decide | exact Nat.le_refl _ | omega) hr tk (by rfl) (a_cons (qv 0) (a_cons (qv 1) a_nil))) (a_cons (q_cal CLExpression (by first | decide | exact Nat.le_refl _ | omega) hr tk (by rfl) (a_cons (qv 0) (a_cons (qv 1) (a_cons (qv 2) (a_cons q_int a_nil))))) a_nil)))))) ss_nil)
  (ss_cons (s_if (w_or (t_cmp (oq_eqU hr.units) (qv 5) q_int) (w_or1 (t_cmp oq_lt (qv 3) q_int))).t (ss_one (s_ret (q_tup (a_cons q_str (a_cons (q_cal CLExpression (by first | decide | exact Nat.le_refl _ | omega) hr tk (by rfl) (a_cons (qv 0) (a_cons (qv 1) (a_cons (qv 2) (a_cons q_int a_nil))))) a_nil))))) ss_nil)
  (ss_cons (s_if (t_cmp (oq_eqU hr.units) (qv 5) q_int) (ss_cons (s_set 6 scLStatement.nd (q_cal CLOf (by first | decide | exact Nat.le_refl _ | omega) hr tk (by rfl) (a_cons (qv 0) (a_cons (q_lst (a_cons q_int (a_cons q_int (a_cons q_int (a_cons q_int (a_cons q_int a_nil)))))) a_nil))))
  (ss_one (s_ret (q_tup (a_cons q_str (a_cons (qv 6) (a_cons (q_cal CLBlock (by first | decide | exact Nat.le_refl _ | omega) hr tk (by rfl) (a_cons (qv 0) (a_cons (qv 1) (a_cons (qv 2) (a_cons (q_op oq_sub (qv 3) q_int) (a_cons (qv 4) a_nil)))))) a_nil))))))) ss_nil)
  (ss_cons (s_par 7 8 rfl scLStatement.nd (a_cons (q_cal CLExpression (by first | decide | exact Nat.le_refl _ | omega) hr tk (by rfl) (a_cons (qv 0) (a_cons (qv 1) (a_cons (qv 2) (a_cons q_int a_nil))))) (a_cons (q_cal CLExpression (by first | decide | exact Nat.le_refl _ | omega) hr tk (by rfl) (a_cons (qv 0) (a_cons (qv 1) (a_cons (qv 2) (a_cons q_int a_nil))))) a_nil)))
  (ss_cons (s_par 9 10 rfl scLStatement.nd (a_cons (q_cal CLOf (by first | decide | exact Nat.le_refl _ | omega) hr tk (by rfl) (a_cons (qv 0) (a_cons (q_lst (a_cons q_str (a_cons q_str (a_cons q_str a_nil)))) a_nil))) (a_cons (q_cal CLBlock (by first | decide | exact Nat.le_refl _ | omega) hr tk (by rfl) (a_cons (qv 0) (a_cons (qv 1) (a_cons (qv 2) (a_cons (q_op oq_sub (qv 3) q_int) (a_cons (qv 4) a_nil)))))) a_nil)))
  (ss_one (s_ret (q_tup (a_cons q_str (a_cons (qv 9) (a_cons (qv 7) (a_cons (qv 8) (a_cons (qv 10) (a_cons (q_cal CLBlock (by first | decide | exact Nat.le_refl _ | omega) hr tk (by rfl) (a_cons (qv 0) (a_cons (qv 1) (a_cons (qv 2) (a_cons (q_op oq_sub (qv 3) q_int) (a_cons (qv 4) a_nil)))))) a_nil))))))))))))))), ?_⟩
    clear tk hp
    rintro ds L k x ⟨p, q, b, m, d, ns, ks, L0, rfl, rfl, hB, ok, hd, hd1, hm, hn, hne, hk, h⟩
    obtain ⟨d, rfl⟩ : ∃ d', d = d' + 1 := ⟨d - 1, by omega⟩
    have em : ((d + 1 : Nat) : Int) - 1 = (d : Int) := by omega
    have npos : 0 < (ns.map D.str).length := by
      rw [List.length_map]
      cases ns with
      | nil => exact absurd rfl hne
      | cons _ _ => exact Nat.succ_pos _
    have nlt : (ns.map D.str).length < 1000 := by rw [List.length_map]; have := hn.len; omega
    walk_at "w"
    refine ⟨p, b, 8, rfl, hB.lp, ok, by decide, by decide +kernel, fun r b1 r0 r1 ok1 => ?_⟩
    rw [pst_bag hB]
    walk_at "v"
    cases c1 : decide (r < 3) with
    | true =>
      walk_at "w"
      refine ⟨p, b1, _, _, rfl, rfl, hB.lp, ok1, npos, nlt, fun d b2 hd ok2 => ?_⟩
      rw [pst_bag hB]
      obtain ⟨z, hz, rfl⟩ := List.mem_map.mp hd
      walk_at "w"
      refine ⟨p, b2, ns, ks, 3, rfl, by decide, hB.at ok2, hn.len, hn.ok, hk.len, hk.ok, fun e b3 h1 h2 ok3 => ?_⟩
      rw [pst_bag hB]
      walk_at "w"
      exact ⟨sz_ok rfl, h (.letS z e) b3 m (by unfold smW; exact ⟨hz, h2, by omega⟩) (by unfold cntS; omega) ok3⟩
    | false =>
      have c1 := of_decide_eq_false c1
      walk_at "v"
      cases c2 : decide (((d + 1 : Nat) : Int) < 2) with
      | true =>
        have c2 := of_decide_eq_true c2
        walk_at "v"
        cases c3 : decide (r < 6) with
        | true =>
          walk_at "w"
          refine ⟨p, b1, _, _, rfl, rfl, hB.lp, ok1, npos, nlt, fun d b2 hd ok2 => ?_⟩
          rw [pst_bag hB]
          obtain ⟨z, hz, rfl⟩ := List.mem_map.mp hd
          walk_at "w"
          refine ⟨p, b2, ns, ks, 3, rfl, by decide, hB.at ok2, hn.len, hn.ok, hk.len, hk.ok, fun e b3 h1 h2 ok3 => ?_⟩
          rw [pst_bag hB]
          walk_at "w"
          exact ⟨sz_ok rfl, h (.letS z e) b3 m (by unfold smW; exact ⟨hz, h2, by omega⟩) (by unfold cntS; omega) ok3⟩
        | false =>
          walk_at "v"
          cases c4 : flEq (.int r) (.int 7) with
          | true =>
            walk_at "w"
            refine ⟨p, b1, ns, ks, 3, rfl, by decide, hB.at ok1, hn.len, hn.ok, hk.len, hk.ok, fun e b3 h1 h2 ok3 => ?_⟩
            rw [pst_bag hB]
            walk_at "w"
            exact ⟨sz_ok rfl, h (.stop e) b3 m (by unfold smW; exact ⟨h2, by omega⟩) (by unfold cntS; omega) ok3⟩
          | false =>
            walk_at "v"
            rw [show decide (((d + 1 : Nat) : Int) < 2) = true from decide_eq_true c2]
            walk_at "w"
            refine ⟨p, b1, ns, ks, 3, rfl, by decide, hB.at ok1, hn.len, hn.ok, hk.len, hk.ok, fun e b3 h1 h2 ok3 => ?_⟩
            rw [pst_bag hB]
            walk_at "w"
            exact ⟨sz_ok rfl, h (.stop e) b3 m (by unfold smW; exact ⟨h2, by omega⟩) (by unfold cntS; omega) ok3⟩
      | false =>
        have c2 := of_decide_eq_false c2
        walk_at "v"
        cases c4 : flEq (.int r) (.int 7) with
        | true =>
          walk_at "w"
          refine ⟨p, b1, ns, ks, 3, rfl, by decide, hB.at ok1, hn.len, hn.ok, hk.len, hk.ok, fun e b3 h1 h2 ok3 => ?_⟩
          rw [pst_bag hB]
          walk_at "w"
          exact ⟨sz_ok rfl, h (.stop e) b3 m (by unfold smW; exact ⟨h2, by omega⟩) (by unfold cntS; omega) ok3⟩
        | false =>
          walk_at "v"
          rw [show decide (((d + 1 : Nat) : Int) < 2) = false from decide_eq_false c2]
          walk_at "v"
          cases c5 : flEq (.int r) (.int 6) with
          | true =>
            walk_at "s"
            refine ⟨p, b1, _, _, rfl, rfl, hB.lp, ok1, by decide, by decide, fun r2 b2 hr2 ok2 => ?_⟩
            rw [pst_bag hB]
            obtain ⟨t, ht, rfl⟩ : ∃ t : Nat, t ≤ 9 ∧ r2 = .int (t : Int) := by
              simp only [List.mem_cons, List.not_mem_nil, or_false] at hr2
              rcases hr2 with e | e | e | e | e <;> subst e
              · exact ⟨0, by decide, rfl⟩
              · exact ⟨1, by decide, rfl⟩
              · exact ⟨2, by decide, rfl⟩
              · exact ⟨3, by decide, rfl⟩
              · exact ⟨9, by decide, rfl⟩
            walk_at "w"
            refine ⟨p, q, b2, m, d, ns, ks, L0, by show [D.ptr p, D.lst (ns.map D.str), D.lst (ks.map D.str), D.int (((d + 1 : Nat) : Int) - 1), D.ptr q] = _; rw [em], rfl, hB, ok2, by omega, by omega, hm, hn, hne, hk, fun l b3 m' w1 w2 ok3 => ?_⟩
            walk_at "w"
            exact ⟨sz_ok rfl, h (.rep t l) b3 m' (by unfold smW; exact ⟨ht, d - 1, by omega, w1⟩) (by unfold cntS; omega) ok3⟩
          | false =>
            walk_at "w"
            refine ⟨p, b1, ns, ks, 3, rfl, by decide, hB.at ok1, hn.len, hn.ok, hk.len, hk.ok, fun e1 b2 d1 w1 ok2 => ?_⟩
            rw [pst_bag hB]
            walk_at "w"
            refine ⟨p, b2, ns, ks, 2, rfl, by decide, hB.at ok2, hn.len, hn.ok, hk.len, hk.ok, fun e2 b3 d2 w2 ok3 => ?_⟩
            rw [pst_bag hB]
            walk_at "s"
            refine ⟨p, b3, _, _, rfl, rfl, hB.lp, ok3, by decide, by decide, fun dt b4 hd ok4 => ?_⟩
            rw [pst_bag hB]
            obtain ⟨t, ht, rfl⟩ : ∃ t : Str, t ∈ tests ∧ dt = .str t := by
              simp only [List.mem_cons, List.not_mem_nil, or_false] at hd
              rcases hd with e | e | e <;> subst e
              · exact ⟨_, by decide, rfl⟩
              · exact ⟨_, by decide, rfl⟩
              · exact ⟨_, by decide, rfl⟩
            walk_at "w"
            refine ⟨p, q, b4, m, d, ns, ks, L0, by show [D.ptr p, D.lst (ns.map D.str), D.lst (ks.map D.str), D.int (((d + 1 : Nat) : Int) - 1), D.ptr q] = _; rw [em], rfl, hB, ok4, by omega, by omega, hm, hn, hne, hk, fun l b5 m' w3 c3 ok5 => ?_⟩
            walk_at "w"
            refine ⟨p, q, b5, m', d, ns, ks, L0, by show [D.ptr p, D.lst (ns.map D.str), D.lst (ks.map D.str), D.int (((d + 1 : Nat) : Int) - 1), D.ptr q] = _; rw [em], rfl, hB, ok5, by omega, by omega, by omega, hn, hne, hk, fun l2 b6 m2 w4 c4 ok6 => ?_⟩
            walk_at "w"
            exact ⟨sz_ok rfl, h (.ifS t e1 e2 l l2) b6 m2 (by unfold smW; exact ⟨ht, ⟨w1, by omega⟩, ⟨w2, by omega⟩, d - 1, by omega, w3, w4⟩) (by unfold cntS; omega) ok6⟩
  · rintro ds L k x ⟨p, q, b, m, d, ns, ks, L0, rfl, _⟩; rfl
theorem scLBlock : FnScope ["_law_bag_here", "_law_names_z", "_law_known", "_law_deep", "_law_left", "_law_found", "_law_k"] ["_law_bag_here", "_law_names_z", "_law_known", "_law_deep", "_law_left"] (defScope sLBlock) := ⟨rfl, rfl, rfl, by decide +kernel, rfl, by decide +kernel, by decide +kernel⟩
theorem ok_LBlock {f : Addr} {fd : FuncData} {n : Nat} (Z : Zn w K mg pS cP cR cH) (F : Fun K "_law_block" "_law_block" sLBlock f fd) (CLPull : Cal P w K mg base 1 "_law_pull" ["_law_bag_here", "_law_many"] [] pullS) (CLStatement : Cal P w K mg base (2 * n + 10) "_law_statement" ["_law_bag_here", "_law_names_z", "_law_known", "_law_deep", "_law_left"] [] (stG (n + 1))) : FnOk P w K mg base (L2.CX P w) (2 * n + 11) f fd ["_law_bag_here", "_law_names_z", "_law_known", "_law_deep", "_law_left"] (spD K (bkG (n + 1))) := by
  refine fn_ok F scLBlock ?len (fun cdv A outer s H E hr => ?_)
  rotate_left
  · have tk := takes_of (X := cxOf (L2.CX P w) P w K mg base ["_law_bag_here", "_law_names_z", "_law_known", "_law_deep", "_law_left", "_law_found", "_law_k"] "_law_block" (defScope sLBlock) f cdv A outer s H E) (E := E) rfl rfl rfl rfl
    have hp := passes_of (X := cxOf (L2.CX P w) P w K mg base ["_law_bag_here", "_law_names_z", "_law_known", "_law_deep", "_law_left", "_law_found", "_law_k"] "_law_block" (defScope sLBlock) f cdv A outer s H E) rfl
    refine ⟨_, (ss_cons (s_set 5 scLBlock.nd (q_lstM a_nil))
  (ss_cons (s_for hp rfl (i_range1 (by rfl) Z.z_range (a_cons (q_cal CLPull (by first | decide | exact Nat.le_refl _ | omega) hr tk (by rfl) (a_cons (qv 0) (a_cons q_int a_nil))) a_nil)) (g_name 6 scLBlock.nd) (ss_one (s_if (t_cmp oq_gt (q_ix (qv 4) q_int) q_int) (ss_cons (s_store (q_op oq_sub (q_ix (qv 4) q_int) q_int) (qv 4) q_int)
  (ss_one (s_expr (q_append (qv 5) (q_cal CLStatement (by first | decide | exact Nat.le_refl _ | omega) hr tk (by rfl) (a_cons (qv 0) (a_cons (qv 1) (a_cons (qv 2) (a_cons (qv 3) (a_cons (qv 4) a_nil)))))))))) ss_nil)))
  (ss_one (s_ret (q_callTy cq_tuple (by rfl) Z.z_tuple bb_tuple (a_cons (q_seal 5) a_nil)))))), ?_⟩
    clear tk hp
    rintro ds L k x ⟨p, q, b, m, d, ns, ks, L0, rfl, rfl, hB, ok, hd, hd1, hm, hn, hne, hk, h⟩
    walk_at "w"
    refine ⟨sz_ok rfl, fun f hf => ?_⟩
    have hf : ¬ inL L0 f := fun z => hf (inL_pst.mpr z)
    have fp : f ≠ p := fun e => hf (e ▸ hB.ip)
    have fq : f ≠ q := fun e => hf (e ▸ hB.iq)
    have lp : ∀ c b m, List.lookup p ((f, c) :: pst L0 p q b m) = some (bagC b) := fun c b m => by rw [lookup_ne (Ne.symm fp)]; exact hB.lp
    have lq : ∀ c b m, List.lookup q ((f, c) :: pst L0 p q b m) = some (.lst [.int (m : Int)]) := fun c b m => by rw [lookup_ne (Ne.symm fq)]; exact hB.lq
    have sp : ∀ c b b' m, setL ((f, c) :: pst L0 p q b m) p (bagC b') = (f, c) :: pst L0 p q b' m := fun c b b' m => by rw [setL_ne fp, pst_bag hB]
    have sq : ∀ (c : D) (b : Bag) (m m' : Nat), setL ((f, c) :: pst L0 p q b m) q (.lst [.int (m' : Int)]) = (f, c) :: pst L0 p q b m' := fun c b m m' => by rw [setL_ne fq, pst_left]
    walk_at "w"
    refine ⟨p, b, 4, rfl, lp _ _ _, ok, by decide, by decide +kernel, fun r b1 r0 r1 ok1 => ?_⟩
    rw [sp]
    walk_at "w"
    refine ⟨⟨by omega, by omega⟩, ?_⟩
    refine forD_rec (fun rs env L' => ∃ (l : List Sm) (b : Bag) (m' : Nat) (o6 : Option D), env = [some (.ptr p), some (.lst (ns.map D.str)), some (.lst (ks.map D.str)), some (.int d), some (.ptr q), some (.ptr f), o6] ∧ L' = (f, .lst (Sm.ds l)) :: pst L0 p q b m' ∧ l.length + rs.length ≤ 3 ∧ smsW ns ks (d - 1) l ∧ cntB l + m' = m ∧ BagOk b) ?step ?fin _ _ _ ⟨[], b1, m, none, rfl, rfl, by rw [rngD_len]; show 0 + _ ≤ 3; omega, by unfold smsW; trivial, by unfold cntB; omega, ok1⟩
    case fin =>
      rintro env L' ⟨l, b, m', o6, rfl, rfl, hl, hw, hc, ok⟩
      walk_at "w"
      rw [lookup_top]
      walk_at "w"
      rw [remL_top (fun z => hf (inL_pst.mp z))]
      exact h l b m' hw hc ok
    case step =>
      rintro E' _ rs env L' hrt hex hbk hct ⟨l, b, m', o6, rfl, rfl, hl, hw, hc, ok⟩ hnx
      have hl : l.length + (rs.length + 1) ≤ 3 := hl
      walk_at "w"
      rw [con_ptr (lq _ _ _)]
      walk_at "v"
      cases c1 : decide ((0 : Int) < (m' : Int)) with
      | false => exact hnx _ _ ⟨l, b, m', _, rfl, rfl, by omega, hw, hc, ok⟩
      | true =>
        have c1 := of_decide_eq_true c1
        obtain ⟨m', rfl⟩ : ∃ n, m' = n + 1 := ⟨m' - 1, by omega⟩
        have em : ((m' + 1 : Nat) : Int) - 1 = (m' : Int) := by omega
        walk_at "w"
        rw [con_ptr (lq _ _ _)]
        walk_at "w"
        rw [lq]
        walk_at "w"
        rw [show setL ((f, .lst (Sm.ds l)) :: pst L0 p q b (m' + 1)) q (D.lst ([D.int ((m' + 1 : Nat) : Int)].set (Int.toNat 0) ((fun i j => D.int (i - j)) ((m' + 1 : Nat) : Int) 1))) = (f, .lst (Sm.ds l)) :: pst L0 p q b m' from by
          show setL _ q (.lst [.int (((m' + 1 : Nat) : Int) - 1)]) = _
          rw [em]; exact sq _ _ _ _]
        rw [lookup_top]
        walk_at "w"
        refine ⟨p, q, b, m', d, ns, ks, (f, .lst (Sm.ds l)) :: L0, rfl, (pst_cons fp fq).symm, hB.cons _ _, ok, by omega, hd1, by omega, hn, hne, hk, fun s b2 m2 ws cs ok2 => ?_⟩
        rw [pst_cons fp fq]
        walk_at "w"
        rw [lookup_top]
        refine ⟨by rw [ds_length]; exact Nat.lt_of_lt_of_le (show l.length < 1000 by omega) (by decide), ?_⟩
        rw [setL_top (fun z => hf (inL_pst.mp z))]
        refine hnx _ _ ⟨l ++ [s], b2, m2, _, rfl, by rw [ds_app]; rfl, by rw [List.length_append, List.length_singleton]; omega, smsW_append hw (by unfold smsW; exact ⟨ws, by unfold smsW; trivial⟩), ?_, ok2⟩
        rw [cntB_append]
        have : cntB [s] = cntS s := by unfold cntB; unfold cntB; omega
        omega
  · rintro ds L k x ⟨p, q, b, m, d, ns, ks, L0, rfl, _⟩; rfl
theorem scLProgram : FnScope ["_law_bag_here", "_law_names_z", "_law_known", "_law_many"] ["_law_bag_here", "_law_names_z", "_law_known", "_law_many"] (defScope sLProgram) := ⟨rfl, rfl, rfl, by decide +kernel, rfl, by decide +kernel, by decide +kernel⟩
theorem ok_LProgram {f : Addr} {fd : FuncData} (Z : Zn w K mg pS cP cR cH) (F : Fun K "_law_program" "_law_program" sLProgram f fd) (CLBlock : Cal P w K mg base 19 "_law_block" ["_law_bag_here", "_law_names_z", "_law_known", "_law_deep", "_law_left"] [] (bkG 5)) : FnOk P w K mg base (L2.CX P w) 20 f fd ["_law_bag_here", "_law_names_z", "_law_known", "_law_many"] (spD K prR) := by
  refine fn_ok F scLProgram ?len (fun cdv A outer s H E hr => ?_)
  rotate_left
  · have tk := takes_of (X := cxOf (L2.CX P w) P w K mg base ["_law_bag_here", "_law_names_z", "_law_known", "_law_many"] "_law_program" (defScope sLProgram) f cdv A outer s H E) (E := E) rfl rfl rfl rfl
    have hp := passes_of (X := cxOf (L2.CX P w) P w K mg base ["_law_bag_here", "_law_names_z", "_law_known", "_law_many"] "_law_program" (defScope sLProgram) f cdv A outer s H E) rfl
    refine ⟨_, (ss_one (s_ret (q_cal CLBlock (by first | decide | exact Nat.le_refl _ | omega) hr tk (by rfl) (a_cons (qv 0) (a_cons (qv 1) (a_cons (qv 2) (a_cons q_int (a_cons (q_lstM (a_cons (qv 3) a_nil)) a_nil)))))))), ?_⟩
    clear tk hp
    rintro ds L k x ⟨p, b, m, ns, ks, rfl, hb, hm, hn, hne, hk, h⟩
    walk_at "w"
    refine ⟨sz_ok rfl, fun q hq => ?_⟩
    have ip : inL L p := inL_of_lookup hb.lk
    have pq : p ≠ q := fun e => hq (e ▸ ip)
    have e : ∀ (b : Bag) (m' : Nat), pst ((q, .lst [.int (m : Int)]) :: L) p q b m' = (q, .lst [.int (m' : Int)]) :: setL L p (bagC b) := fun b m' => by
      unfold pst
      rw [setL_ne (Ne.symm pq), setL_top (fun z => hq (inL_setL.mp z))]
    walk_at "w"
    refine ⟨p, q, b, m, 4, ns, ks, (q, .lst [.int (m : Int)]) :: L, rfl, by rw [e, hb.self], ⟨inL_cons.mpr (.inr ip), inL_cons.mpr (.inl rfl), pq⟩, hb.ok, by decide, by decide, hm, hn, hne, hk, fun l b' m' w1 w2 ok => ?_⟩
    rw [e]
    exact h l b' q m' hq w1 (by omega) ok
  · rintro ds L k x ⟨p, b, m, ns, ks, rfl, _⟩; rfl
end
end T27

namespace T27
open PySem L2 DL TL NumText
section
variable {P : Program} {w : World} {K : PySem.W.Frag} {mg : Str → Option Value} {base : Heap} {pS cP cR cH : Addr}
local macro_rules | `(tactic| walk_at "w") => `(tactic| conv => whnf)
local macro_rules | `(tactic| walk_at "v") => `(tactic| ((conv => whnf); try dsimp only))
local macro_rules | `(tactic| walk_at "s") => `(tactic| ((conv => whnf); repeat ((first | refine ⟨sz_ok rfl, ?_⟩ | refine ⟨rfl, ?_⟩); conv => whnf)))
def lawS : DSp := fun ds L k _ => ∃ ns : List Int, ds = [.ro (ns.map .int)] ∧ L = [] ∧ ∀ L', k (.bl true) L'
def ruA : DSp := fun ds L k x => ∃ i : TAB × Nat, i.2 ≤ 1 ∧ ruS i.1 i.2 ds L k x
def lnA : DSp := fun ds L k x => ∃ i : TAB × Nat, i.2 ≤ 1 ∧ lnS i.1 i.2 ds L k x
theorem whole_ok (r : R1 × RSt) (h : r.2.outs.length ≤ 60) : okP (wholeD r) = true ∧ dep (wholeD r) < 7 := by
  have s1 : ∀ l : List Str, okPs (l.map D.str) = true := fun l => by
    induction l with
    | nil => rfl
    | cons a r ih => show (okP (.str a) && okPs (r.map D.str)) = true; rw [ih]; rfl
  have s2 : ∀ l : List Str, deps (l.map D.str) = 0 := fun l => by
    induction l with
    | nil => rfl
    | cons a r ih => show max (dep (.str a)) (deps (r.map D.str)) = 0; rw [ih]; rfl
  obtain ⟨r, ⟨os, n⟩⟩ := r
  have h : os.length ≤ 60 := h
  have e1 : okP (.tup (os.map D.str)) = true := by
    unfold okP
    rw [s1, decide_eq_true (by rw [List.length_map]; omega)]
    rfl
  have e2 : dep (.tup (os.map D.str)) = 1 := by
    unfold dep
    rw [s2]
  cases r with
  | ok v =>
    constructor
    · show (decide (2 < 100000) && (okP (.tup (os.map D.str)) && _)) = true
      rw [e1]
      rfl
    · show max (dep (.tup (os.map D.str))) (max (dep (.tup [.str "value", rtD v.1])) 0) + 1 < 7
      rw [e2, show dep (.tup [.str "value", rtD v.1]) = 2 from rfl]
      decide
  | halt e =>
    have e3 : okP e.d = true ∧ dep e.d ≤ 1 := by
      cases e <;> exact ⟨rfl, Nat.le_refl _⟩
    constructor
    · show (decide (2 < 100000) && (okP (.tup (os.map D.str)) && (okP e.d && true))) = true
      rw [e1, e3.1]
      rfl
    · show max (dep (.tup (os.map D.str))) (max (dep e.d) 0) + 1 < 7
      rw [e2]
      omega
theorem calls_none {m : Nat} {l : List Sm} (tab : TAB) (h : smsOk (Lv tab 0) m l) : callsB l = [] := by
  cases e : callsB l with
  | nil => rfl
  | cons f r => exact (callsB_ok m l h f (by rw [e]; exact List.mem_cons_self)).elim
theorem point_ok {hi : Int} (h1 : hi ≤ 10 ^ 12) {x : Int × Int} (h : RatOk hi hi x) : VOk (x, 1) := by
  have e : (2 : Nat) ^ (64 * (1 : Int).toNat - 1) = 9223372036854775808 := by decide
  have e2 : (10 : Int) ^ 12 = 1000000000000 := by decide
  rw [e2] at h1
  refine ⟨Int.le_refl _, by show (1 : Int) ≤ 10; decide, h.low.pos, h.low.one, ?_, ?_⟩
  · show x.1.natAbs < 2 ^ (64 * (1 : Int).toNat - 1)
    rw [e]; have := h.a; have := h.b; omega
  · show x.2.natAbs < 2 ^ (64 * (1 : Int).toNat - 1)
    rw [e]; have := h.c; have := h.low.pos; omega
theorem tab_nil : TabOk [] := ⟨by decide, fun f p h => by cases h⟩
theorem okP_two {d : D} (h : okP d = true) : okP (.lst [d, d]) = true := by
  unfold okP okPs okPs okPs
  rw [h]; rfl
theorem dep_two {d : D} (h : dep d < 7) : dep (.lst [d, d]) < 9 := by
  unfold dep deps deps deps
  omega
theorem scLaw : FnScope ["_law_script", "_law_bag_here", "_law_turn", "_law_names_z", "_law_program_z", "_law_high", "_law_again", "_law_spot", "_law_due", "_law_term"] ["_law_script"] (defScope sLaw) := ⟨rfl, rfl, rfl, by decide +kernel, rfl, by decide +kernel, by decide +kernel⟩
theorem ok_Law {f : Addr} {fd : FuncData} (Z : Zn w K mg pS cP cR cH) (F : Fun K "law" "law" sLaw f fd) (CLBag : Cal P w K mg base 1 "_law_bag" ["_law_script"] [] bagS) (CLPull : Cal P w K mg base 1 "_law_pull" ["_law_bag_here", "_law_many"] [] pullS) (CLPoint : Cal P w K mg base 4 "_law_point" ["_law_bag_here", "_law_high", "_law_under"] [] pointS) (CLNames : Cal P w K mg base 3 "_law_names" ["_law_bag_here", "_law_many"] [] namesS) (CLProgram : Cal P w K mg base 20 "_law_program" ["_law_bag_here", "_law_names_z", "_law_known", "_law_many"] [] prG) (CLSame : Cal P w K mg base 9 "_law_same" ["_law_found", "_law_due"] [] (sameS 9)) (CRun : Cal P w K mg base 62 "run" ["program", "point", "table"] [.non] ruA) (CLRun : Cal P w K mg base 51 "_law_run" ["_law_program_z", "_law_spot_z", "_law_table_z"] [] lnA) (CLRatioText : Cal P w K mg base 1 "_law_ratio_text" ["_law_one"] [] txtS) (CEndText : Cal P w K mg base 2 "end_text" ["end"] [] endS) (W_Run_2_table : CalW P w K mg base 62 "run" 2 ["table"] [] (fun a b _ => a ++ b) ruA) : FnOk P w K mg base (L2.CX P w) 70 f fd ["_law_script"] (spD K lawS) := by
  refine fn_ok F scLaw ?len (fun cdv A outer s H E hr => ?_)
  rotate_left
  · have tk := takes_of (X := cxOf (L2.CX P w) P w K mg base ["_law_script", "_law_bag_here", "_law_turn", "_law_names_z", "_law_program_z", "_law_high", "_law_again", "_law_spot", "_law_due", "_law_term"] "law" (defScope sLaw) f cdv A outer s H E) (E := E) rfl rfl rfl rfl
    have hp := passes_of (X := cxOf (L2.CX P w) P w K mg base ["_law_script", "_law_bag_here", "_law_turn", "_law_names_z", "_law_program_z", "_law_high", "_law_again", "_law_spot", "_law_due", "_law_term"] "law" (defScope sLaw) f cdv A outer s H E) rfl
    refine ⟨_, (ss_cons (s_set 1 scLaw.nd (q_cal CLBag (by first | decide | exact Nat.le_refl _ | omega) hr tk (by rfl) (a_cons (qv 0) a_nil)))
  (ss_cons (s_for hp rfl (i_range1 (by rfl) Z.z_range (a_cons q_int a_nil)) (g_name 2 scLaw.nd) (ss_cons (s_set 3 scLaw.nd (q_cal CLNames (by first | decide | exact Nat.le_refl _ | omega) hr tk (by rfl) (a_cons (qv 1) (a_cons q_int a_nil))))
  (ss_cons (s_set 4 scLaw.nd (q_cal CLProgram (by first | decide | exact Nat.le_refl _ | omega) hr tk (by rfl) (a_cons (qv 1) (a_cons (qv 3) (a_cons (q_lst a_nil) (a_cons q_int a_nil))))))
  (ss_cut (s_set 5 scLaw.nd (q_if (t_cmp (oq_eqU hr.units) (q_cal CLPull (by first | decide | exact Nat.le_refl _ | omega) hr tk (by rfl) (a_cons (qv 1) (a_cons q_int a_nil))) q_int) (q_op oq_pow q_int q_int) q_int))
  (ss_one (s_for hp rfl (i_range1 (by rfl) Z.z_range (a_cons q_int a_nil)) (g_name 6 scLaw.nd) (ss_cons (s_set 7 scLaw.nd (q_cal CLPoint (by first | decide | exact Nat.le_refl _ | omega) hr tk (by rfl) (a_cons (qv 1) (a_cons (qv 5) (a_cons (qv 5) a_nil)))))
  (ss_cons (s_set 8 scLaw.nd (q_cal CLRun (by first | decide | exact Nat.le_refl _ | omega) hr tk (by rfl) (a_cons (qv 4) (a_cons (qv 7) (a_cons q_dnewD a_nil)))))
  (ss_cons (s_if (t_not (t_val (q_cal CLSame (by first | decide | exact Nat.le_refl _ | omega) hr tk (by rfl) (a_cons (q_lst (a_cons (q_cal CRun (by first | decide | exact Nat.le_refl _ | omega) hr tk (by rfl) (a_cons (qv 4) (a_cons (qv 7) a_nil))) (a_cons (q_calW W_Run_2_table (by decide) hr tk (by rfl) (a_cons (qv 4) (a_cons (qv 7) a_nil)) (k_cons q_dnewD k_nil)) a_nil))) (a_cons (q_lst (a_cons (qv 8) (a_cons (qv 8) a_nil))) a_nil))))) (ss_one (s_ret q_bl)) ss_nil)
  (ss_cons (s_set 9 scLaw.nd (q_if (t_cmp (oq_eqU hr.units) (q_ix (q_ix (qv 8) q_int) q_int) q_str) (q_op oq_add q_str (q_cal CLRatioText (by first | decide | exact Nat.le_refl _ | omega) hr tk (by rfl) (a_cons (q_ix (q_ix (qv 8) q_int) q_int) a_nil))) (q_join q_str (q_callTy cq_list (by rfl) Z.z_list bb_list (a_cons (q_ix (qv 8) q_int) a_nil)))))
  (ss_one (s_if (t_not (t_val (q_cal CLSame (by first | decide | exact Nat.le_refl _ | omega) hr tk (by rfl) (a_cons (q_cal CEndText (by first | decide | exact Nat.le_refl _ | omega) hr tk (by rfl) (a_cons (q_ix (qv 8) q_int) a_nil)) (a_cons (qv 9) a_nil))))) (ss_one (s_ret q_bl)) ss_nil))))))))))))
  (ss_one (s_ret q_bl)))), ?_⟩
    clear tk hp
    rintro ds L k x0 ⟨ns, rfl, rfl, h⟩
    have top : ∀ (b : Addr) (g : Bag), BagOk g → BagAt [(b, bagC g)] b g := fun b g ok => BagAt.top (by simp [inL]) ok
    walk_at "w"
    refine ⟨ns, rfl, fun b g hb ok => ?_⟩
    walk_at "w"
    refine ⟨⟨by decide, by decide⟩, ?_⟩
    refine forD_rec (fun r env L' => ∃ (g : Bag) (o2 o3 o4 o5 o6 o7 o8 o9 : Option D), env = [some (.ro (ns.map .int)), some (.ptr b), o2, o3, o4, o5, o6, o7, o8, o9] ∧ L' = [(b, bagC g)] ∧ BagOk g) ?step ?fin _ _ _ ⟨g, none, none, none, none, none, none, none, none, rfl, rfl, ok⟩
    case fin =>
      rintro env L' ⟨g, o2, o3, o4, o5, o6, o7, o8, o9, rfl, rfl, ok⟩
      walk_at "w"
      exact h _
    case step =>
      clear ok
      rintro E' d r env L' hrt hex hbk hct ⟨g, o2, o3, o4, o5, o6, o7, o8, o9, rfl, rfl, ok⟩ hnx
      walk_at "w"
      refine ⟨b, g, 2, rfl, top b g ok, by decide, fun zs g1 hl hz ok1 => ?_⟩
      rw [setL_one]
      have nz : NmL zs := ⟨by omega, hz⟩
      walk_at "s"
      refine ⟨b, g1, 14, zs, [], rfl, top b g1 ok1, by decide, nz, (fun e => by rw [e] at hl; cases hl), ⟨by decide, fun z hz => by cases hz⟩, fun l g2 hw hc ok2 => ?_⟩
      rw [setL_one]
      have hp0 : smsOk (Lv [] 0) 3 l := smsW_ok (fun z hz => by cases hz) 3 l hw
      have hp : smsOk (Lv [] 0) 5 l := smsOk_mono 3 l 5 (by decide) hp0
      have hu : smsU (fun z => z.length ≤ 100) l := smsW_u (fun z hz' => Nat.le_trans (nameOk_len (hz z hz')) (by decide)) 3 l hw
      walk_at "w"
      refine ⟨fun env' L' => ∃ (hi : Int) (g3 : Bag), 0 < hi ∧ hi ≤ 10 ^ 12 ∧ env' = [some (.ro (ns.map .int)), some (.ptr b), some d, some (.lst (zs.map D.str)), some (.tup (Sm.ds l)), some (.int hi), o6, o7, o8, o9] ∧ L' = [(b, bagC g3)] ∧ BagOk g3, ?_, ?_⟩
      · walk_at "w"
        refine ⟨b, g2, 4, rfl, lookup_top, ok2, by decide, by decide, fun r4 g3 p0 p1 ok3 => ?_⟩
        rw [setL_one]
        walk_at "v"
        cases c0 : flEq (.int r4) (.int 0) with
        | true =>
          walk_at "w"
          refine ⟨⟨by decide, by decide, by decide⟩, ?_⟩
          exact ⟨_, g3, by decide, by decide, rfl, rfl, ok3⟩
        | false => exact ⟨9, g3, by decide, by decide, rfl, rfl, ok3⟩
      · rintro env' L' ⟨hi, g3, hi0, hi1, rfl, rfl, ok3⟩
        walk_at "w"
        refine ⟨⟨by decide, by decide⟩, ?_⟩
        refine forD_rec (fun r env L' => ∃ (g : Bag) (o6 o7 o8 o9 : Option D), env = [some (.ro (ns.map .int)), some (.ptr b), some d, some (.lst (zs.map D.str)), some (.tup (Sm.ds l)), some (.int hi), o6, o7, o8, o9] ∧ L' = [(b, bagC g)] ∧ BagOk g) ?s2 ?f2 _ _ _ ⟨g3, _, _, _, _, rfl, rfl, ok3⟩
        case f2 =>
          rintro env L' ⟨g4, o6, o7, o8, o9, rfl, rfl, ok4⟩
          exact hnx _ _ ⟨g4, _, _, _, _, _, _, _, _, rfl, rfl, ok4⟩
        case s2 =>
          clear ok3 ok2 ok1 ok
          rintro E2 d2 r2 env L' hrt2 hex2 hbk2 hct2 ⟨g4, o6, o7, o8, o9, rfl, rfl, ok4⟩ hnx2
          walk_at "w"
          refine ⟨b, g4, hi, hi, rfl, lookup_top, ok4, by omega, Int.lt_of_le_of_lt hi1 (by decide +kernel), hi0, Int.lt_of_le_of_lt hi1 (by decide +kernel), fun x y g5 hx hy ok5 => ?_⟩
          rw [setL_one]
          have vx := point_ok hi1 hx
          have vy := point_ok hi1 hy
          walk_at "w"
          refine ⟨([], 0), by decide, l, x, y, rfl, vx, vy, hp, fun p hp => (List.not_mem_nil hp).elim, ?_⟩
          have gE := execM_ok (funM_ok (tab := []) (fun p hp => (List.not_mem_nil hp).elim) 0) hp vx vy ⟨[], 0⟩ (Nat.zero_le _)
          have uE := execM_u (U := fun z => z.length ≤ 100) (funM_u (tab := []) (fun p hp => (List.not_mem_nil hp).elim) 0) hu (x, 1) (y, 1) ⟨[], 0⟩
          have ok6 := whole_ok (execM (funM [] 0) l (x, 1) (y, 1) ⟨[], 0⟩) (by have h1 := gE.grow; have h2 := gE.lim; dsimp only at h1; rw [List.length_nil] at h1; omega)
          walk_at "w"
          refine ⟨([], 0), by decide, l, x, y, .non, rfl, .inr ⟨rfl, rfl⟩, tab_nil, vx, vy, hp, by rw [calls_none [] hp]; exact Nat.zero_le _, fun p hp => (List.not_mem_nil hp).elim, ?_⟩
          walk_at "w"
          refine ⟨rfl, rfl, ?_⟩
          refine ⟨([], 0), by decide, l, x, y, _, rfl, .inl rfl, tab_nil, vx, vy, hp, by rw [calls_none [] hp]; exact Nat.zero_le _, fun p hp => (List.not_mem_nil hp).elim, ?_⟩
          have gv : ∀ v, (execM (funM [] 0) l (x, 1) (y, 1) ⟨[], 0⟩).1 = .ok v → VOk v := fun v hv => gE.v v hv
          generalize hE : execM (funM [] 0) l (x, 1) (y, 1) ⟨[], 0⟩ = R at gv uE ok6 ⊢
          clear gE
          obtain ⟨r, s1⟩ := R
          walk_at "s"
          refine ⟨_, _, rfl, okP_two ok6.1, okP_two ok6.1, dep_two ok6.2, ?_⟩
          rw [sameD_refl _ (okP_two ok6.1)]
          cases r with
          | ok v =>
            have hv := (gv v rfl).small
            walk_at "s"
            refine ⟨_, _, rfl, hv.1, hv.2, ?_⟩
            walk_at "w"
            refine ⟨by have := txt_len hv.1 hv.2; exact sz_ok (Nat.ble_eq.mpr (by show 6 + _ ≤ 1000; omega)), ?_⟩
            walk_at "w"
            refine ⟨.ok v, rfl, ⟨(fun w e => by cases e; exact gv v rfl), (fun z e => by cases e)⟩, ?_⟩
            walk_at "w"
            refine ⟨_, _, rfl, rfl, rfl, (show (0 : Nat) < 9 by decide), ?_⟩
            rw [show endT (.ok v) = "value " ++ txt v.1.1 v.1.2 from rfl, sameD_refl _ rfl]
            walk_at "w"
            exact hnx2 _ _ ⟨g5, _, _, _, _, rfl, rfl, ok5⟩
          | halt e =>
            cases e with
            | unset z =>
              have hz : z.length ≤ 100 := uE
              walk_at "s"
              refine ⟨by show 5 + (z.length + 0) + 2 * 1 ≤ 16777216; omega, ?_⟩
              walk_at "w"
              refine ⟨.halt (.unset z), rfl, ⟨(fun w e => by cases e), (fun z' e => by cases e; exact hz)⟩, ?_⟩
              walk_at "w"
              refine ⟨_, _, rfl, rfl, rfl, (show (0 : Nat) < 9 by decide), ?_⟩
              rw [show endT (.halt (.unset z)) = Txt.join " " ["unset", z] from rfl, sameD_refl _ rfl]
              walk_at "w"
              exact hnx2 _ _ ⟨g5, _, _, _, _, rfl, rfl, ok5⟩
            | heavy =>
              walk_at "s"
              refine ⟨.halt .heavy, rfl, ⟨(fun w e => by cases e), (fun z e => by cases e)⟩, ?_⟩
              walk_at "w"
              refine ⟨_, _, rfl, rfl, rfl, (show (0 : Nat) < 9 by decide), ?_⟩
              rw [show endT (.halt .heavy) = Txt.join " " ["heavy"] from rfl, sameD_refl _ rfl]
              walk_at "w"
              exact hnx2 _ _ ⟨g5, _, _, _, _, rfl, rfl, ok5⟩
            | zero =>
              walk_at "s"
              refine ⟨.halt .zero, rfl, ⟨(fun w e => by cases e), (fun z e => by cases e)⟩, ?_⟩
              walk_at "w"
              refine ⟨_, _, rfl, rfl, rfl, (show (0 : Nat) < 9 by decide), ?_⟩
              rw [show endT (.halt .zero) = Txt.join " " ["zero"] from rfl, sameD_refl _ rfl]
              walk_at "w"
              exact hnx2 _ _ ⟨g5, _, _, _, _, rfl, rfl, ok5⟩
            | long =>
              walk_at "s"
              refine ⟨.halt .long, rfl, ⟨(fun w e => by cases e), (fun z e => by cases e)⟩, ?_⟩
              walk_at "w"
              refine ⟨_, _, rfl, rfl, rfl, (show (0 : Nat) < 9 by decide), ?_⟩
              rw [show endT (.halt .long) = Txt.join " " ["long"] from rfl, sameD_refl _ rfl]
              walk_at "w"
              exact hnx2 _ _ ⟨g5, _, _, _, _, rfl, rfl, ok5⟩
            | none =>
              walk_at "s"
              refine ⟨.halt .none, rfl, ⟨(fun w e => by cases e), (fun z e => by cases e)⟩, ?_⟩
              walk_at "w"
              refine ⟨_, _, rfl, rfl, rfl, (show (0 : Nat) < 9 by decide), ?_⟩
              rw [show endT (.halt .none) = Txt.join " " ["none"] from rfl, sameD_refl _ rfl]
              walk_at "w"
              exact hnx2 _ _ ⟨g5, _, _, _, _, rfl, rfl, ok5⟩
  · rintro ds L k x ⟨ns, rfl, _⟩; rfl

end
end T27

namespace T27
open PySem L2 DL TL
section
variable {P : Program} {w : World} {K : PySem.W.Frag} {mg : Str → Option Value} {base : Heap} {pS cP cR cH : Addr}

theorem fn_up {n m : Nat} {f : Addr} {fd : FuncData} {ps : List Str} {sp : Sp} (F : FnOk P w K mg base (L2.CX P w) n f fd ps sp) (h : n ≤ m) : FnOk P w K mg base (L2.CX P w) m f fd ps sp := ⟨F.len, fun A outer s H args us vs Q E hr e0 hb hv q => F.run A outer s H args us vs Q E (hr.mono h) e0 hb hv q⟩
theorem fn_no {n : Nat} {f : Addr} {fd : FuncData} {ps : List Str} {g : DSp} (h : ∀ ds L k x, ¬ g ds L k x) : FnOk P w K mg base (L2.CX P w) n f fd ps (spD K g) := by
  have no : ∀ vs H Q E, ¬ spD K g vs H Q E := fun vs H Q E q => by
    obtain ⟨ds, L, k, x, _, _, q, _⟩ := q
    exact h _ _ _ _ q
  exact ⟨fun vs H Q E q => absurd q (no vs H Q E), fun A outer s H args us vs Q E _ _ _ _ q => absurd q (no vs H Q E)⟩
theorem fn_ex {ι : Type} {n : Nat} {f : Addr} {fd : FuncData} {ps : List Str} {g : ι → DSp} (h : ∀ i, FnOk P w K mg base (L2.CX P w) n f fd ps (spD K (g i))) : FnOk P w K mg base (L2.CX P w) n f fd ps (spD K fun ds L k x => ∃ i, g i ds L k x) := by
  have key : ∀ vs H Q E, spD K (fun ds L k x => ∃ i, g i ds L k x) vs H Q E → ∃ i, spD K (g i) vs H Q E := fun vs H Q E q => by
    obtain ⟨ds, L, k, x, j, r, ⟨i, q⟩, hk, hx⟩ := q
    exact ⟨i, ds, L, k, x, j, r, q, hk, hx⟩
  refine ⟨fun vs H Q E q => ?_, fun A outer s H args us vs Q E hr e0 hb hv q => ?_⟩
  · obtain ⟨i, q⟩ := key vs H Q E q
    exact (h i).len vs H Q E q
  · obtain ⟨i, q⟩ := key vs H Q E q
    exact (h i).run A outer s H args us vs Q E hr e0 hb hv q
theorem paired_append {α β : Type} {R : α → β → Prop} : ∀ {a c : List α} {b d : List β}, Paired R a b → Paired R c d → Paired R (a ++ c) (b ++ d)
  | _, _, _, _, .nil, h => h
  | _, _, _, _, .cons h t, h2 => .cons h (paired_append t h2)
theorem mcal_mk {n : Nat} {C f : Addr} {m : Str} {fd : FuncData} {ps : List Str} {g : DSp} (G : FnOk P w K mg base (L2.CX P w) n f fd ps (spD K g)) (c : Cls K C) (h : Meth K C m f) (b : Binds K fd ps []) : MCal P w K mg base n C m ps [] g := ⟨⟨f, fd, [], [], G, c, h, b, .nil, fun _ _ => .nil⟩⟩
theorem cal_mk {n : Nat} {x : Str} {ps : List Str} {g : DSp} {f : Addr} {fd : FuncData} (G : FnOk P w K mg base (L2.CX P w) n f fd ps (spD K g)) (m : mg x = some (.ref f)) (k : PySem.W.keepIn K (.ref f) = true) (b : Binds K fd ps []) : Cal P w K mg base n x ps [] g := ⟨⟨f, fd, [], [], G, m, k, b, .nil, fun _ _ => .nil⟩⟩
theorem ev_all {c : Nat} (Z : Zn w K mg pS cP cR cH) {tab : TAB} {fRunnerEvaluate : Addr} {fdRunnerEvaluate : FuncData} (FRunnerEvaluate : Fun K "evaluate" "Runner.evaluate" sRunnerEvaluate fRunnerEvaluate fdRunnerEvaluate) (bRunnerEvaluate : Binds K fdRunnerEvaluate ["self", "expression", "names", "x", "y"] []) (hRunnerEvaluate : Meth K cR "evaluate" fRunnerEvaluate) (MPlainOfNumber : MCal P w K mg base 1 cP "of_number" ["self", "value"] [] (ofNumS cP)) (MPlainJoined : MCal P w K mg base 3 cP "joined" ["self", "word", "one", "other"] [] (joinedS cP)) (MPlainIsZero : MCal P w K mg base 1 cP "is_zero" ["self", "one"] [] (isZeroS cP)) (MRunnerExecute : MCal P w K mg base (30 * c) cR "execute" ["self", "program", "x", "y"] [] (exS cP cR cH tab c)) (E_Halt : ExCls P w K mg base "Halt" cH ["self", "end"] (spIf cH "end")) : ∀ m : Nat, FnOk P w K mg base (L2.CX P w) (30 * c + m + 5) fRunnerEvaluate fdRunnerEvaluate ["self", "expression", "names", "x", "y"] (spD K (evS cP cR cH tab c m))
  | 0 => fn_no fun ds L k x h => by obtain ⟨_, _, _, _, _, _, _, _, _, _, _, _, _, _, ⟨_, h, _⟩, _⟩ := h; cases h
  | m + 1 => ok_RunnerEvaluate Z FRunnerEvaluate MPlainOfNumber MPlainJoined MPlainIsZero (mcal_mk (ev_all Z FRunnerEvaluate bRunnerEvaluate hRunnerEvaluate MPlainOfNumber MPlainJoined MPlainIsZero MRunnerExecute E_Halt m) Z.c_R hRunnerEvaluate bRunnerEvaluate) MRunnerExecute E_Halt
theorem bl_all {c : Nat} {tab : TAB} (Z : Zn w K mg pS cP cR cH) {fRunnerBlock : Addr} {fdRunnerBlock : FuncData} (FRunnerBlock : Fun K "block" "Runner.block" sRunnerBlock fRunnerBlock fdRunnerBlock) (bRunnerBlock : Binds K fdRunnerBlock ["self", "statements", "names", "x", "y"] []) (hRunnerBlock : Meth K cR "block" fRunnerBlock) (MRunnerEvaluate : MCal P w K mg base (30 * c + 13) cR "evaluate" ["self", "expression", "names", "x", "y"] [] (evS cP cR cH tab c 8)) (MRunnerOutcome : MCal P w K mg base (30 * c + 14) cR "outcome" ["self", "statement", "names", "x", "y"] [] (ocS cP cR cH tab c)) (E_Halt : ExCls P w K mg base "Halt" cH ["self", "end"] (spIf cH "end")) : ∀ m : Nat, FnOk P w K mg base (L2.CX P w) (30 * c + m + 14) fRunnerBlock fdRunnerBlock ["self", "statements", "names", "x", "y"] (spD K (blS cP cR cH tab c m))
  | 0 => fn_no fun ds L k x h => by obtain ⟨_, _, _, _, _, _, _, _, _, _, _, _, _, ⟨_, h, _⟩, _⟩ := h; cases h
  | m + 1 => ok_RunnerBlock Z FRunnerBlock MRunnerEvaluate MRunnerOutcome (mcal_mk (bl_all Z FRunnerBlock bRunnerBlock hRunnerBlock MRunnerEvaluate MRunnerOutcome E_Halt m) Z.c_R hRunnerBlock bRunnerBlock) E_Halt
theorem ex_all {tab : TAB} (Z : Zn w K mg pS cP cR cH) {fRunnerEvaluate : Addr} {fdRunnerEvaluate : FuncData} (FRunnerEvaluate : Fun K "evaluate" "Runner.evaluate" sRunnerEvaluate fRunnerEvaluate fdRunnerEvaluate) (bRunnerEvaluate : Binds K fdRunnerEvaluate ["self", "expression", "names", "x", "y"] []) (hRunnerEvaluate : Meth K cR "evaluate" fRunnerEvaluate) {fRunnerOutcome : Addr} {fdRunnerOutcome : FuncData} (FRunnerOutcome : Fun K "outcome" "Runner.outcome" sRunnerOutcome fRunnerOutcome fdRunnerOutcome) (bRunnerOutcome : Binds K fdRunnerOutcome ["self", "statement", "names", "x", "y"] []) (hRunnerOutcome : Meth K cR "outcome" fRunnerOutcome) {fRunnerBlock : Addr} {fdRunnerBlock : FuncData} (FRunnerBlock : Fun K "block" "Runner.block" sRunnerBlock fRunnerBlock fdRunnerBlock) (bRunnerBlock : Binds K fdRunnerBlock ["self", "statements", "names", "x", "y"] []) (hRunnerBlock : Meth K cR "block" fRunnerBlock) {fRunnerExecute : Addr} {fdRunnerExecute : FuncData} (FRunnerExecute : Fun K "execute" "Runner.execute" sRunnerExecute fRunnerExecute fdRunnerExecute) (bRunnerExecute : Binds K fdRunnerExecute ["self", "program", "x", "y"] []) (hRunnerExecute : Meth K cR "execute" fRunnerExecute) (MPlainOfNumber : MCal P w K mg base 1 cP "of_number" ["self", "value"] [] (ofNumS cP)) (MPlainJoined : MCal P w K mg base 3 cP "joined" ["self", "word", "one", "other"] [] (joinedS cP)) (MPlainIsZero : MCal P w K mg base 1 cP "is_zero" ["self", "one"] [] (isZeroS cP)) (MPlainOrder : MCal P w K mg base 3 cP "order" ["self", "one", "other"] [] (pOrderS cP)) (E_Halt : ExCls P w K mg base "Halt" cH ["self", "end"] (spIf cH "end")) : ∀ c : Nat, FnOk P w K mg base (L2.CX P w) (30 * c) fRunnerExecute fdRunnerExecute ["self", "program", "x", "y"] (spD K (exS cP cR cH tab c))
  | 0 => fn_no fun ds L k x h => h
  | c + 1 => by
    have MX := mcal_mk (ex_all (tab := tab) Z FRunnerEvaluate bRunnerEvaluate hRunnerEvaluate FRunnerOutcome bRunnerOutcome hRunnerOutcome FRunnerBlock bRunnerBlock hRunnerBlock FRunnerExecute bRunnerExecute hRunnerExecute MPlainOfNumber MPlainJoined MPlainIsZero MPlainOrder E_Halt c) Z.c_R hRunnerExecute bRunnerExecute
    have ME := mcal_mk (ev_all (c := c) (tab := tab) Z FRunnerEvaluate bRunnerEvaluate hRunnerEvaluate MPlainOfNumber MPlainJoined MPlainIsZero MX E_Halt 8) Z.c_R hRunnerEvaluate bRunnerEvaluate
    have MO := mcal_mk (ok_RunnerOutcome (c := c) (tab := tab) Z FRunnerOutcome MPlainOrder ME E_Halt) Z.c_R hRunnerOutcome bRunnerOutcome
    exact ok_exec Z FRunnerExecute (mcal_mk (bl_all (c := c) (tab := tab) Z FRunnerBlock bRunnerBlock hRunnerBlock ME MO E_Halt 6) Z.c_R hRunnerBlock bRunnerBlock)
theorem lv_all {c : Nat} {tab : TAB} (Z : Zn w K mg pS cP cR cH) {fLValue : Addr} {fdLValue : FuncData} (FLValue : Fun K "_law_value" "_law_value" sLValue fLValue fdLValue) (bLValue : Binds K fdLValue ["_law_one", "_law_state"] []) (mLValue : mg "_law_value" = some (.ref fLValue)) (CLAdd : Cal P w K mg base 3 "_law_add" ["_law_one", "_law_two"] [] (opS rAddL (fun _ => True))) (CLSub : Cal P w K mg base 3 "_law_sub" ["_law_one", "_law_two"] [] (opS rSubL (fun _ => True))) (CLMul : Cal P w K mg base 3 "_law_mul" ["_law_one", "_law_two"] [] (opS rMulL (fun _ => True))) (CLDiv : Cal P w K mg base 3 "_law_div" ["_law_one", "_law_two"] [] (opS rDivL (fun b => b.1 ≠ 0))) (CLBlockEnd : Cal P w K mg base (30 * c) "_law_block_end" ["_law_program_z", "_law_state"] [] (lbP tab c)) : ∀ m : Nat, FnOk P w K mg base (L2.CX P w) (30 * c + m + 5) fLValue fdLValue ["_law_one", "_law_state"] (spD K (lvS tab c m))
  | 0 => fn_no fun ds L k x h => by obtain ⟨_, _, _, _, _, _, _, _, _, _, _, _, _, _, _, ⟨_, h, _⟩, _⟩ := h; cases h
  | m + 1 => lv_tidy (ok_LValue Z FLValue CLAdd CLSub CLMul CLDiv (cal_mk (lv_all Z FLValue bLValue mLValue CLAdd CLSub CLMul CLDiv CLBlockEnd m) mLValue FLValue.kp bLValue) CLBlockEnd)
theorem lb_all {c : Nat} {tab : TAB} (Z : Zn w K mg pS cP cR cH) {fLBlockEnd : Addr} {fdLBlockEnd : FuncData} (FLBlockEnd : Fun K "_law_block_end" "_law_block_end" sLBlockEnd fLBlockEnd fdLBlockEnd) (bLBlockEnd : Binds K fdLBlockEnd ["_law_program_z", "_law_state"] []) (mLBlockEnd : mg "_law_block_end" = some (.ref fLBlockEnd)) (CLValue : Cal P w K mg base (30 * c + 13) "_law_value" ["_law_one", "_law_state"] [] (lvS tab c 8)) (CLBranch : Cal P w K mg base (30 * c + 14) "_law_branch" ["_law_one", "_law_state"] [] (lrS tab c)) : ∀ m : Nat, FnOk P w K mg base (L2.CX P w) (30 * c + m + 14) fLBlockEnd fdLBlockEnd ["_law_program_z", "_law_state"] (spD K (lbS tab c m))
  | 0 => fn_no fun ds L k x h => by obtain ⟨_, _, _, _, _, _, _, _, _, _, _, _, _, _, _, ⟨_, h, _⟩, _⟩ := h; cases h
  | m + 1 => ok_LBlockEnd Z FLBlockEnd CLValue CLBranch (cal_mk (lb_all Z FLBlockEnd bLBlockEnd mLBlockEnd CLValue CLBranch m) mLBlockEnd FLBlockEnd.kp bLBlockEnd)
theorem lbP_all {tab : TAB} (Z : Zn w K mg pS cP cR cH) {fLValue : Addr} {fdLValue : FuncData} (FLValue : Fun K "_law_value" "_law_value" sLValue fLValue fdLValue) (bLValue : Binds K fdLValue ["_law_one", "_law_state"] []) (mLValue : mg "_law_value" = some (.ref fLValue)) {fLBranch : Addr} {fdLBranch : FuncData} (FLBranch : Fun K "_law_branch" "_law_branch" sLBranch fLBranch fdLBranch) (bLBranch : Binds K fdLBranch ["_law_one", "_law_state"] []) (mLBranch : mg "_law_branch" = some (.ref fLBranch)) {fLBlockEnd : Addr} {fdLBlockEnd : FuncData} (FLBlockEnd : Fun K "_law_block_end" "_law_block_end" sLBlockEnd fLBlockEnd fdLBlockEnd) (bLBlockEnd : Binds K fdLBlockEnd ["_law_program_z", "_law_state"] []) (mLBlockEnd : mg "_law_block_end" = some (.ref fLBlockEnd)) (CLAdd : Cal P w K mg base 3 "_law_add" ["_law_one", "_law_two"] [] (opS rAddL (fun _ => True))) (CLSub : Cal P w K mg base 3 "_law_sub" ["_law_one", "_law_two"] [] (opS rSubL (fun _ => True))) (CLMul : Cal P w K mg base 3 "_law_mul" ["_law_one", "_law_two"] [] (opS rMulL (fun _ => True))) (CLDiv : Cal P w K mg base 3 "_law_div" ["_law_one", "_law_two"] [] (opS rDivL (fun b => b.1 ≠ 0))) (CLOrder : Cal P w K mg base 2 "_law_order" ["_law_one", "_law_two"] [] orderS) : ∀ c : Nat, FnOk P w K mg base (L2.CX P w) (30 * c) fLBlockEnd fdLBlockEnd ["_law_program_z", "_law_state"] (spD K (lbP tab c)) ∧ FnOk P w K mg base (L2.CX P w) (30 * c + 20) fLBlockEnd fdLBlockEnd ["_law_program_z", "_law_state"] (spD K (lbS tab c 6)) := by
  have step : ∀ c : Nat, FnOk P w K mg base (L2.CX P w) (30 * c) fLBlockEnd fdLBlockEnd ["_law_program_z", "_law_state"] (spD K (lbP tab c)) → FnOk P w K mg base (L2.CX P w) (30 * c + 20) fLBlockEnd fdLBlockEnd ["_law_program_z", "_law_state"] (spD K (lbS tab c 6)) := fun c G => by
    have CV := cal_mk (lv_all (c := c) (tab := tab) Z FLValue bLValue mLValue CLAdd CLSub CLMul CLDiv (cal_mk G mLBlockEnd FLBlockEnd.kp bLBlockEnd) 8) mLValue FLValue.kp bLValue
    have CR := cal_mk (ok_LBranch (c := c) (tab := tab) Z FLBranch CV CLOrder) mLBranch FLBranch.kp bLBranch
    exact lb_all (c := c) (tab := tab) Z FLBlockEnd bLBlockEnd mLBlockEnd CV CR 6
  have all : ∀ c : Nat, FnOk P w K mg base (L2.CX P w) (30 * c) fLBlockEnd fdLBlockEnd ["_law_program_z", "_law_state"] (spD K (lbP tab c)) := fun c => by
    induction c with
    | zero => exact fn_no fun ds L k x h => h
    | succ c ih => exact fn_up (step c ih) (by omega)
  exact fun c => ⟨all c, step c (all c)⟩
theorem nc_all (Z : Zn w K mg pS cP cR cH) {fNamesCalledIn : Addr} {fdNamesCalledIn : FuncData} (FNamesCalledIn : Fun K "names_called_in" "names_called_in" sNamesCalledIn fNamesCalledIn fdNamesCalledIn) (bNamesCalledIn : Binds K fdNamesCalledIn ["expression"] []) (mNamesCalledIn : mg "names_called_in" = some (.ref fNamesCalledIn)) : ∀ m : Nat, FnOk P w K mg base (L2.CX P w) m fNamesCalledIn fdNamesCalledIn ["expression"] (spD K (ncS m))
  | 0 => fn_no fun ds L k x h => by obtain ⟨_, _, _, _, h, _⟩ := h; cases h
  | m + 1 => ok_NamesCalledIn Z FNamesCalledIn (cal_mk (nc_all Z FNamesCalledIn bNamesCalledIn mNamesCalledIn m) mNamesCalledIn FNamesCalledIn.kp bNamesCalledIn)
theorem cn_all (Z : Zn w K mg pS cP cR cH) {fCalledNames : Addr} {fdCalledNames : FuncData} (FCalledNames : Fun K "called_names" "called_names" sCalledNames fCalledNames fdCalledNames) (bCalledNames : Binds K fdCalledNames ["program"] []) (mCalledNames : mg "called_names" = some (.ref fCalledNames)) (CExpressionsOf : Cal P w K mg base 1 "expressions_of" ["statement"] [] exprsS) (CBlocksOf : Cal P w K mg base 1 "blocks_of" ["statement"] [] blocksS) (CNamesCalledIn : Cal P w K mg base 8 "names_called_in" ["expression"] [] (ncS 8)) : ∀ m : Nat, FnOk P w K mg base (L2.CX P w) (m + 8) fCalledNames fdCalledNames ["program"] (spD K (cnS m))
  | 0 => fn_no fun ds L k x h => by obtain ⟨_, _, _, _, h, _⟩ := h; cases h
  | m + 1 => ok_CalledNames Z FCalledNames CExpressionsOf CBlocksOf CNamesCalledIn (cal_mk (cn_all Z FCalledNames bCalledNames mCalledNames CExpressionsOf CBlocksOf CNamesCalledIn m) mCalledNames FCalledNames.kp bCalledNames)
theorem cc_all (Z : Zn w K mg pS cP cR cH) {fCheckCalls : Addr} {fdCheckCalls : FuncData} (FCheckCalls : Fun K "check_calls" "check_calls" sCheckCalls fCheckCalls fdCheckCalls) (bCheckCalls : Binds K fdCheckCalls ["program", "table", "checked"] []) (mCheckCalls : mg "check_calls" = some (.ref fCheckCalls)) (CCalledNames : Cal P w K mg base 14 "called_names" ["program"] [] (cnS 6)) : ∀ c : Nat, FnOk P w K mg base (L2.CX P w) (c + 14) fCheckCalls fdCheckCalls ["program", "table", "checked"] (spD K (ccS c))
  | 0 => fn_no fun ds L k x h => h
  | c + 1 => ok_CheckCalls Z FCheckCalls CCalledNames (cal_mk (cc_all Z FCheckCalls bCheckCalls mCheckCalls CCalledNames c) mCheckCalls FCheckCalls.kp bCheckCalls)
theorem same_all (Z : Zn w K mg pS cP cR cH) {fLSame : Addr} {fdLSame : FuncData} (FLSame : Fun K "_law_same" "_law_same" sLSame fLSame fdLSame) (bLSame : Binds K fdLSame ["_law_found", "_law_due"] []) (mLSame : mg "_law_same" = some (.ref fLSame)) : ∀ n : Nat, FnOk P w K mg base (L2.CX P w) n fLSame fdLSame ["_law_found", "_law_due"] (spD K (sameS n))
  | 0 => fn_no fun ds L k x h => by obtain ⟨_, _, _, _, _, h, _⟩ := h; exact absurd h (Nat.not_lt_zero _)
  | n + 1 => ok_LSame Z FLSame (cal_mk (same_all Z FLSame bLSame mLSame n) mLSame FLSame.kp bLSame)
end
end T27

namespace T27
open PySem L2 DL TL NumText
section
variable {P : Program} {w : World} {K : PySem.W.Frag} {mg : Str → Option Value} {base : Heap} {pS cP cR cH : Addr}
theorem lexpr_all (Z : Zn w K mg pS cP cR cH) {fLExpression : Addr} {fdLExpression : FuncData} (FLExpression : Fun K "_law_expression" "_law_expression" sLExpression fLExpression fdLExpression) (bLExpression : Binds K fdLExpression ["_law_bag_here", "_law_names_z", "_law_known", "_law_deep"] []) (mLExpression : mg "_law_expression" = some (.ref fLExpression)) (CLPull : Cal P w K mg base 1 "_law_pull" ["_law_bag_here", "_law_many"] [] pullS) (CLOf : Cal P w K mg base 2 "_law_of" ["_law_bag_here", "_law_some"] [] ofA) (CLLeaf : Cal P w K mg base 3 "_law_leaf" ["_law_bag_here", "_law_names_z"] [] leafS) : ∀ n : Nat, FnOk P w K mg base (L2.CX P w) (n + 3) fLExpression fdLExpression ["_law_bag_here", "_law_names_z", "_law_known", "_law_deep"] (spD K (exprG n))
  | 0 => fn_no fun ds L k x h => by obtain ⟨_, _, _, _, _, _, h, _⟩ := h; exact absurd h (Nat.not_lt_zero _)
  | n + 1 => ok_LExpression Z FLExpression CLPull CLOf CLLeaf (cal_mk (lexpr_all Z FLExpression bLExpression mLExpression CLPull CLOf CLLeaf n) mLExpression FLExpression.kp bLExpression)
theorem bk_all (Z : Zn w K mg pS cP cR cH) {fLBlock : Addr} {fdLBlock : FuncData} (FLBlock : Fun K "_law_block" "_law_block" sLBlock fLBlock fdLBlock) (bLBlock : Binds K fdLBlock ["_law_bag_here", "_law_names_z", "_law_known", "_law_deep", "_law_left"] []) (mLBlock : mg "_law_block" = some (.ref fLBlock)) {fLStatement : Addr} {fdLStatement : FuncData} (FLStatement : Fun K "_law_statement" "_law_statement" sLStatement fLStatement fdLStatement) (bLStatement : Binds K fdLStatement ["_law_bag_here", "_law_names_z", "_law_known", "_law_deep", "_law_left"] []) (mLStatement : mg "_law_statement" = some (.ref fLStatement)) (CLPull : Cal P w K mg base 1 "_law_pull" ["_law_bag_here", "_law_many"] [] pullS) (CLOf : Cal P w K mg base 2 "_law_of" ["_law_bag_here", "_law_some"] [] ofA) (CLExpression : Cal P w K mg base 8 "_law_expression" ["_law_bag_here", "_law_names_z", "_law_known", "_law_deep"] [] (exprG 5)) : ∀ n : Nat, FnOk P w K mg base (L2.CX P w) (2 * n + 9) fLBlock fdLBlock ["_law_bag_here", "_law_names_z", "_law_known", "_law_deep", "_law_left"] (spD K (bkG n))
  | 0 => fn_no fun ds L k x h => by obtain ⟨_, _, _, _, _, _, _, _, _, _, _, _, h, _⟩ := h; exact absurd h (Nat.not_lt_zero _)
  | n + 1 => ok_LBlock Z FLBlock CLPull (cal_mk (ok_LStatement Z FLStatement CLPull CLOf CLExpression (cal_mk (bk_all Z FLBlock bLBlock mLBlock FLStatement bLStatement mLStatement CLPull CLOf CLExpression n) mLBlock FLBlock.kp bLBlock)) mLStatement FLStatement.kp bLStatement)
end
end T27

namespace T27
open PySem L2 DL
theorem scHalt_init : FnScope ["self", "end"] ["self", "end"] (defScope sHalt_init) := ⟨rfl, rfl, rfl, by decide +kernel, rfl, by decide +kernel, by decide +kernel⟩
theorem all_mk {P : Program} {w : World} {K : PySem.W.Frag} {h : Heap} {mg : Str → Option Value} {fa : Addr}
    {pS cP cR cH : Addr}
    {cQ : Addr}
    {f1 : Addr} {od1 an1 : Option Addr} {sl1 : Array (Option Value)} {oc1 kV1 dc1 pm1 cd1 ct1 : Value}
    {f2 : Addr} {od2 an2 : Option Addr} {sl2 : Array (Option Value)} {oc2 kV2 dc2 pm2 cd2 ct2 : Value}
    {f3 : Addr} {od3 an3 : Option Addr} {sl3 : Array (Option Value)} {oc3 kV3 dc3 pm3 cd3 ct3 : Value}
    {f4 : Addr} {od4 an4 : Option Addr} {sl4 : Array (Option Value)} {oc4 kV4 dc4 pm4 cd4 ct4 : Value}
    {f5 : Addr} {od5 an5 : Option Addr} {sl5 : Array (Option Value)} {oc5 kV5 dc5 pm5 cd5 ct5 : Value}
    {f6 : Addr} {od6 an6 : Option Addr} {sl6 : Array (Option Value)} {oc6 kV6 dc6 pm6 cd6 ct6 : Value}
    {f7 : Addr} {od7 an7 : Option Addr} {sl7 : Array (Option Value)} {oc7 kV7 dc7 pm7 cd7 ct7 : Value}
    {f8 : Addr} {od8 an8 : Option Addr} {sl8 : Array (Option Value)} {oc8 kV8 dc8 pm8 cd8 ct8 : Value}
    {f9 : Addr} {od9 an9 : Option Addr} {sl9 : Array (Option Value)} {oc9 kV9 dc9 pm9 cd9 ct9 : Value}
    {f10 : Addr} {od10 an10 : Option Addr} {sl10 : Array (Option Value)} {oc10 kV10 dc10 pm10 cd10 ct10 : Value}
    {f11 : Addr} {od11 an11 : Option Addr} {sl11 : Array (Option Value)} {oc11 kV11 dc11 pm11 cd11 ct11 : Value}
    {f12 : Addr} {od12 an12 : Option Addr} {sl12 : Array (Option Value)} {oc12 kV12 dc12 pm12 cd12 ct12 : Value}
    {f13 : Addr} {od13 an13 : Option Addr} {sl13 : Array (Option Value)} {oc13 dc13 pm13 cd13 ct13 : Value}
    {dR : Addr}
    {f14 : Addr} {od14 an14 : Option Addr} {sl14 : Array (Option Value)} {oc14 kV14 dc14 pm14 cd14 ct14 : Value}
    {f15 : Addr} {od15 an15 : Option Addr} {sl15 : Array (Option Value)} {oc15 kV15 dc15 pm15 cd15 ct15 : Value}
    {f16 : Addr} {od16 an16 : Option Addr} {sl16 : Array (Option Value)} {oc16 kV16 dc16 pm16 cd16 ct16 : Value}
    {f17 : Addr} {od17 an17 : Option Addr} {sl17 : Array (Option Value)} {oc17 kV17 dc17 pm17 cd17 ct17 : Value}
    {f18 : Addr} {od18 an18 : Option Addr} {sl18 : Array (Option Value)} {oc18 kV18 dc18 pm18 cd18 ct18 : Value}
    {f19 : Addr} {od19 an19 : Option Addr} {sl19 : Array (Option Value)} {oc19 kV19 dc19 pm19 cd19 ct19 : Value}
    {f20 : Addr} {od20 an20 : Option Addr} {sl20 : Array (Option Value)} {oc20 kV20 dc20 pm20 cd20 ct20 : Value}
    {f21 : Addr} {od21 an21 : Option Addr} {sl21 : Array (Option Value)} {oc21 kV21 dc21 pm21 cd21 ct21 : Value}
    {f22 : Addr} {od22 an22 : Option Addr} {sl22 : Array (Option Value)} {oc22 kV22 dc22 pm22 cd22 ct22 : Value}
    {f23 : Addr} {od23 an23 : Option Addr} {sl23 : Array (Option Value)} {oc23 kV23 dc23 pm23 cd23 ct23 : Value}
    {f24 : Addr} {od24 an24 : Option Addr} {sl24 : Array (Option Value)} {oc24 kV24 dc24 pm24 cd24 ct24 : Value}
    {f25 : Addr} {od25 an25 : Option Addr} {sl25 : Array (Option Value)} {oc25 kV25 dc25 pm25 cd25 ct25 : Value}
    {f26 : Addr} {od26 an26 : Option Addr} {sl26 : Array (Option Value)} {oc26 kV26 dc26 pm26 cd26 ct26 : Value}
    {f27 : Addr} {od27 an27 : Option Addr} {sl27 : Array (Option Value)} {oc27 kV27 dc27 pm27 cd27 ct27 : Value}
    {f28 : Addr} {od28 an28 : Option Addr} {sl28 : Array (Option Value)} {oc28 kV28 dc28 pm28 cd28 ct28 : Value}
    {f29 : Addr} {od29 an29 : Option Addr} {sl29 : Array (Option Value)} {oc29 kV29 dc29 pm29 cd29 ct29 : Value}
    {f30 : Addr} {od30 an30 : Option Addr} {sl30 : Array (Option Value)} {oc30 kV30 dc30 pm30 cd30 ct30 : Value}
    {f31 : Addr} {od31 an31 : Option Addr} {sl31 : Array (Option Value)} {oc31 kV31 dc31 pm31 cd31 ct31 : Value}
    {f32 : Addr} {od32 an32 : Option Addr} {sl32 : Array (Option Value)} {oc32 kV32 dc32 pm32 cd32 ct32 : Value}
    {f33 : Addr} {od33 an33 : Option Addr} {sl33 : Array (Option Value)} {oc33 kV33 dc33 pm33 cd33 ct33 : Value}
    {f34 : Addr} {od34 an34 : Option Addr} {sl34 : Array (Option Value)} {oc34 kV34 dc34 pm34 cd34 ct34 : Value}
    {f35 : Addr} {od35 an35 : Option Addr} {sl35 : Array (Option Value)} {oc35 kV35 dc35 pm35 cd35 ct35 : Value}
    {f36 : Addr} {od36 an36 : Option Addr} {sl36 : Array (Option Value)} {oc36 kV36 dc36 pm36 cd36 ct36 : Value}
    {f37 : Addr} {od37 an37 : Option Addr} {sl37 : Array (Option Value)} {oc37 kV37 dc37 pm37 cd37 ct37 : Value}
    {f38 : Addr} {od38 an38 : Option Addr} {sl38 : Array (Option Value)} {oc38 kV38 dc38 pm38 cd38 ct38 : Value}
    {f39 : Addr} {od39 an39 : Option Addr} {sl39 : Array (Option Value)} {oc39 kV39 dc39 pm39 cd39 ct39 : Value}
    {f40 : Addr} {od40 an40 : Option Addr} {sl40 : Array (Option Value)} {oc40 kV40 dc40 pm40 cd40 ct40 : Value}
    {f41 : Addr} {od41 an41 : Option Addr} {sl41 : Array (Option Value)} {oc41 kV41 dc41 pm41 cd41 ct41 : Value}
    {f42 : Addr} {od42 an42 : Option Addr} {sl42 : Array (Option Value)} {oc42 kV42 dc42 pm42 cd42 ct42 : Value}
    {f43 : Addr} {od43 an43 : Option Addr} {sl43 : Array (Option Value)} {oc43 kV43 dc43 pm43 cd43 ct43 : Value}
    {f44 : Addr} {od44 an44 : Option Addr} {sl44 : Array (Option Value)} {oc44 kV44 dc44 pm44 cd44 ct44 : Value}
    {f45 : Addr} {od45 an45 : Option Addr} {sl45 : Array (Option Value)} {oc45 kV45 dc45 pm45 cd45 ct45 : Value}
    {f46 : Addr} {od46 an46 : Option Addr} {sl46 : Array (Option Value)} {oc46 kV46 dc46 pm46 cd46 ct46 : Value}
    {f47 : Addr} {od47 an47 : Option Addr} {sl47 : Array (Option Value)} {oc47 kV47 dc47 pm47 cd47 ct47 : Value}
    {f48 : Addr} {od48 an48 : Option Addr} {sl48 : Array (Option Value)} {oc48 kV48 dc48 pm48 cd48 ct48 : Value}
    {f49 : Addr} {od49 an49 : Option Addr} {sl49 : Array (Option Value)} {oc49 kV49 dc49 pm49 cd49 ct49 : Value}
    {f50 : Addr} {od50 an50 : Option Addr} {sl50 : Array (Option Value)} {oc50 kV50 dc50 pm50 cd50 ct50 : Value}
    {tk_MOST_WEIGHT : Tok}
    {tk_MOST_STEPS : Tok}
    {cq_Quotient : ClassData}
    {nm_Halt q_Halt : Str} {N_Halt fI_Halt : Addr} {bs_Halt bm_Halt su_Halt : List Value} {sn_Halt : List Str} {ab_Halt : Bool} {co_Halt : Option Bool} {dd_Halt odI_Halt anI_Halt : Option Addr} {k0_Halt k1_Halt k2_Halt k3_Halt k5_Halt : Option Value} {ocI_Halt kVI_Halt dcI_Halt pmI_Halt cdI_Halt ctI_Halt : Value} {slI_Halt : Array (Option Value)} {cl_Halt : ClassData}
    (X : K.In h) (G : h.Ns mainGlobals mg) (hfa : mg "law" = some (.ref fa))
    (a_Plain : PySem.W.nsIn K mainGlobals "Plain" = some (some (.ref cP)))
    (a_Runner : PySem.W.nsIn K mainGlobals "Runner" = some (some (.ref cR)))
    (a_Halt : PySem.W.nsIn K mainGlobals "Halt" = some (some (.ref cH)))
    (a1 : PySem.W.nsIn K mainGlobals "lowest" = some (some (.ref f1)))
    (l1 : K.lookup f1 = some ⟨oc1, od1, .func (PySem.W.fnOf "lowest" "lowest" (defArgs sLowest) (defBody sLowest) (defScope sLowest) .none kV1 dc1 pm1 an1 cd1 ct1), sl1⟩)
    (c1 : PySem.W.codeIn K cd1 "lowest" = true)
    (k1 : PySem.W.keepIn K (.ref f1) = true)
    (a2 : PySem.W.nsIn K mainGlobals "plus" = some (some (.ref f2)))
    (l2 : K.lookup f2 = some ⟨oc2, od2, .func (PySem.W.fnOf "plus" "plus" (defArgs sPlus) (defBody sPlus) (defScope sPlus) .none kV2 dc2 pm2 an2 cd2 ct2), sl2⟩)
    (c2 : PySem.W.codeIn K cd2 "plus" = true)
    (k2 : PySem.W.keepIn K (.ref f2) = true)
    (a3 : PySem.W.nsIn K mainGlobals "minus" = some (some (.ref f3)))
    (l3 : K.lookup f3 = some ⟨oc3, od3, .func (PySem.W.fnOf "minus" "minus" (defArgs sMinus) (defBody sMinus) (defScope sMinus) .none kV3 dc3 pm3 an3 cd3 ct3), sl3⟩)
    (c3 : PySem.W.codeIn K cd3 "minus" = true)
    (k3 : PySem.W.keepIn K (.ref f3) = true)
    (a4 : PySem.W.nsIn K mainGlobals "times" = some (some (.ref f4)))
    (l4 : K.lookup f4 = some ⟨oc4, od4, .func (PySem.W.fnOf "times" "times" (defArgs sTimes) (defBody sTimes) (defScope sTimes) .none kV4 dc4 pm4 an4 cd4 ct4), sl4⟩)
    (c4 : PySem.W.codeIn K cd4 "times" = true)
    (k4 : PySem.W.keepIn K (.ref f4) = true)
    (a5 : PySem.W.nsIn K mainGlobals "over" = some (some (.ref f5)))
    (l5 : K.lookup f5 = some ⟨oc5, od5, .func (PySem.W.fnOf "over" "over" (defArgs sOver) (defBody sOver) (defScope sOver) .none kV5 dc5 pm5 an5 cd5 ct5), sl5⟩)
    (c5 : PySem.W.codeIn K cd5 "over" = true)
    (k5 : PySem.W.keepIn K (.ref f5) = true)
    (a6 : PySem.W.nsIn K mainGlobals "sign" = some (some (.ref f6)))
    (l6 : K.lookup f6 = some ⟨oc6, od6, .func (PySem.W.fnOf "sign" "sign" (defArgs sSign) (defBody sSign) (defScope sSign) .none kV6 dc6 pm6 an6 cd6 ct6), sl6⟩)
    (c6 : PySem.W.codeIn K cd6 "sign" = true)
    (k6 : PySem.W.keepIn K (.ref f6) = true)
    (a7 : PySem.W.nsIn K mainGlobals "ratio_text" = some (some (.ref f7)))
    (l7 : K.lookup f7 = some ⟨oc7, od7, .func (PySem.W.fnOf "ratio_text" "ratio_text" (defArgs sRatioText) (defBody sRatioText) (defScope sRatioText) .none kV7 dc7 pm7 an7 cd7 ct7), sl7⟩)
    (c7 : PySem.W.codeIn K cd7 "ratio_text" = true)
    (k7 : PySem.W.keepIn K (.ref f7) = true)
    (a8 : PySem.W.nsIn K mainGlobals "blocks_of" = some (some (.ref f8)))
    (l8 : K.lookup f8 = some ⟨oc8, od8, .func (PySem.W.fnOf "blocks_of" "blocks_of" (defArgs sBlocksOf) (defBody sBlocksOf) (defScope sBlocksOf) .none kV8 dc8 pm8 an8 cd8 ct8), sl8⟩)
    (c8 : PySem.W.codeIn K cd8 "blocks_of" = true)
    (k8 : PySem.W.keepIn K (.ref f8) = true)
    (a9 : PySem.W.nsIn K mainGlobals "expressions_of" = some (some (.ref f9)))
    (l9 : K.lookup f9 = some ⟨oc9, od9, .func (PySem.W.fnOf "expressions_of" "expressions_of" (defArgs sExpressionsOf) (defBody sExpressionsOf) (defScope sExpressionsOf) .none kV9 dc9 pm9 an9 cd9 ct9), sl9⟩)
    (c9 : PySem.W.codeIn K cd9 "expressions_of" = true)
    (k9 : PySem.W.keepIn K (.ref f9) = true)
    (a10 : PySem.W.nsIn K mainGlobals "names_called_in" = some (some (.ref f10)))
    (l10 : K.lookup f10 = some ⟨oc10, od10, .func (PySem.W.fnOf "names_called_in" "names_called_in" (defArgs sNamesCalledIn) (defBody sNamesCalledIn) (defScope sNamesCalledIn) .none kV10 dc10 pm10 an10 cd10 ct10), sl10⟩)
    (c10 : PySem.W.codeIn K cd10 "names_called_in" = true)
    (k10 : PySem.W.keepIn K (.ref f10) = true)
    (a11 : PySem.W.nsIn K mainGlobals "called_names" = some (some (.ref f11)))
    (l11 : K.lookup f11 = some ⟨oc11, od11, .func (PySem.W.fnOf "called_names" "called_names" (defArgs sCalledNames) (defBody sCalledNames) (defScope sCalledNames) .none kV11 dc11 pm11 an11 cd11 ct11), sl11⟩)
    (c11 : PySem.W.codeIn K cd11 "called_names" = true)
    (k11 : PySem.W.keepIn K (.ref f11) = true)
    (a12 : PySem.W.nsIn K mainGlobals "check_calls" = some (some (.ref f12)))
    (l12 : K.lookup f12 = some ⟨oc12, od12, .func (PySem.W.fnOf "check_calls" "check_calls" (defArgs sCheckCalls) (defBody sCheckCalls) (defScope sCheckCalls) .none kV12 dc12 pm12 an12 cd12 ct12), sl12⟩)
    (c12 : PySem.W.codeIn K cd12 "check_calls" = true)
    (k12 : PySem.W.keepIn K (.ref f12) = true)
    (a13 : PySem.W.nsIn K mainGlobals "run" = some (some (.ref f13)))
    (l13 : K.lookup f13 = some ⟨oc13, od13, .func (PySem.W.fnOf "run" "run" (defArgs sRun) (defBody sRun) (defScope sRun) .none (.ref dR) dc13 pm13 an13 cd13 ct13), sl13⟩)
    (c13 : PySem.W.codeIn K cd13 "run" = true)
    (k13 : PySem.W.keepIn K (.ref f13) = true)
    (w13 : PySem.W.nsIn K dR "table" = some (some .none))
    (a14 : PySem.W.nsIn K mainGlobals "end_text" = some (some (.ref f14)))
    (l14 : K.lookup f14 = some ⟨oc14, od14, .func (PySem.W.fnOf "end_text" "end_text" (defArgs sEndText) (defBody sEndText) (defScope sEndText) .none kV14 dc14 pm14 an14 cd14 ct14), sl14⟩)
    (c14 : PySem.W.codeIn K cd14 "end_text" = true)
    (k14 : PySem.W.keepIn K (.ref f14) = true)
    (a15 : PySem.W.nsIn K mainGlobals "_law_bag" = some (some (.ref f15)))
    (l15 : K.lookup f15 = some ⟨oc15, od15, .func (PySem.W.fnOf "_law_bag" "_law_bag" (defArgs sLBag) (defBody sLBag) (defScope sLBag) .none kV15 dc15 pm15 an15 cd15 ct15), sl15⟩)
    (c15 : PySem.W.codeIn K cd15 "_law_bag" = true)
    (k15 : PySem.W.keepIn K (.ref f15) = true)
    (a16 : PySem.W.nsIn K mainGlobals "_law_pull" = some (some (.ref f16)))
    (l16 : K.lookup f16 = some ⟨oc16, od16, .func (PySem.W.fnOf "_law_pull" "_law_pull" (defArgs sLPull) (defBody sLPull) (defScope sLPull) .none kV16 dc16 pm16 an16 cd16 ct16), sl16⟩)
    (c16 : PySem.W.codeIn K cd16 "_law_pull" = true)
    (k16 : PySem.W.keepIn K (.ref f16) = true)
    (a17 : PySem.W.nsIn K mainGlobals "_law_of" = some (some (.ref f17)))
    (l17 : K.lookup f17 = some ⟨oc17, od17, .func (PySem.W.fnOf "_law_of" "_law_of" (defArgs sLOf) (defBody sLOf) (defScope sLOf) .none kV17 dc17 pm17 an17 cd17 ct17), sl17⟩)
    (c17 : PySem.W.codeIn K cd17 "_law_of" = true)
    (k17 : PySem.W.keepIn K (.ref f17) = true)
    (a18 : PySem.W.nsIn K mainGlobals "_law_same" = some (some (.ref f18)))
    (l18 : K.lookup f18 = some ⟨oc18, od18, .func (PySem.W.fnOf "_law_same" "_law_same" (defArgs sLSame) (defBody sLSame) (defScope sLSame) .none kV18 dc18 pm18 an18 cd18 ct18), sl18⟩)
    (c18 : PySem.W.codeIn K cd18 "_law_same" = true)
    (k18 : PySem.W.keepIn K (.ref f18) = true)
    (a19 : PySem.W.nsIn K mainGlobals "_law_gcd" = some (some (.ref f19)))
    (l19 : K.lookup f19 = some ⟨oc19, od19, .func (PySem.W.fnOf "_law_gcd" "_law_gcd" (defArgs sLGcd) (defBody sLGcd) (defScope sLGcd) .none kV19 dc19 pm19 an19 cd19 ct19), sl19⟩)
    (c19 : PySem.W.codeIn K cd19 "_law_gcd" = true)
    (k19 : PySem.W.keepIn K (.ref f19) = true)
    (a20 : PySem.W.nsIn K mainGlobals "_law_low" = some (some (.ref f20)))
    (l20 : K.lookup f20 = some ⟨oc20, od20, .func (PySem.W.fnOf "_law_low" "_law_low" (defArgs sLLow) (defBody sLLow) (defScope sLLow) .none kV20 dc20 pm20 an20 cd20 ct20), sl20⟩)
    (c20 : PySem.W.codeIn K cd20 "_law_low" = true)
    (k20 : PySem.W.keepIn K (.ref f20) = true)
    (a21 : PySem.W.nsIn K mainGlobals "_law_add" = some (some (.ref f21)))
    (l21 : K.lookup f21 = some ⟨oc21, od21, .func (PySem.W.fnOf "_law_add" "_law_add" (defArgs sLAdd) (defBody sLAdd) (defScope sLAdd) .none kV21 dc21 pm21 an21 cd21 ct21), sl21⟩)
    (c21 : PySem.W.codeIn K cd21 "_law_add" = true)
    (k21 : PySem.W.keepIn K (.ref f21) = true)
    (a22 : PySem.W.nsIn K mainGlobals "_law_sub" = some (some (.ref f22)))
    (l22 : K.lookup f22 = some ⟨oc22, od22, .func (PySem.W.fnOf "_law_sub" "_law_sub" (defArgs sLSub) (defBody sLSub) (defScope sLSub) .none kV22 dc22 pm22 an22 cd22 ct22), sl22⟩)
    (c22 : PySem.W.codeIn K cd22 "_law_sub" = true)
    (k22 : PySem.W.keepIn K (.ref f22) = true)
    (a23 : PySem.W.nsIn K mainGlobals "_law_mul" = some (some (.ref f23)))
    (l23 : K.lookup f23 = some ⟨oc23, od23, .func (PySem.W.fnOf "_law_mul" "_law_mul" (defArgs sLMul) (defBody sLMul) (defScope sLMul) .none kV23 dc23 pm23 an23 cd23 ct23), sl23⟩)
    (c23 : PySem.W.codeIn K cd23 "_law_mul" = true)
    (k23 : PySem.W.keepIn K (.ref f23) = true)
    (a24 : PySem.W.nsIn K mainGlobals "_law_div" = some (some (.ref f24)))
    (l24 : K.lookup f24 = some ⟨oc24, od24, .func (PySem.W.fnOf "_law_div" "_law_div" (defArgs sLDiv) (defBody sLDiv) (defScope sLDiv) .none kV24 dc24 pm24 an24 cd24 ct24), sl24⟩)
    (c24 : PySem.W.codeIn K cd24 "_law_div" = true)
    (k24 : PySem.W.keepIn K (.ref f24) = true)
    (a25 : PySem.W.nsIn K mainGlobals "_law_sign" = some (some (.ref f25)))
    (l25 : K.lookup f25 = some ⟨oc25, od25, .func (PySem.W.fnOf "_law_sign" "_law_sign" (defArgs sLSign) (defBody sLSign) (defScope sLSign) .none kV25 dc25 pm25 an25 cd25 ct25), sl25⟩)
    (c25 : PySem.W.codeIn K cd25 "_law_sign" = true)
    (k25 : PySem.W.keepIn K (.ref f25) = true)
    (a26 : PySem.W.nsIn K mainGlobals "_law_order" = some (some (.ref f26)))
    (l26 : K.lookup f26 = some ⟨oc26, od26, .func (PySem.W.fnOf "_law_order" "_law_order" (defArgs sLOrder) (defBody sLOrder) (defScope sLOrder) .none kV26 dc26 pm26 an26 cd26 ct26), sl26⟩)
    (c26 : PySem.W.codeIn K cd26 "_law_order" = true)
    (k26 : PySem.W.keepIn K (.ref f26) = true)
    (a27 : PySem.W.nsIn K mainGlobals "_law_ratio" = some (some (.ref f27)))
    (l27 : K.lookup f27 = some ⟨oc27, od27, .func (PySem.W.fnOf "_law_ratio" "_law_ratio" (defArgs sLRatio) (defBody sLRatio) (defScope sLRatio) .none kV27 dc27 pm27 an27 cd27 ct27), sl27⟩)
    (c27 : PySem.W.codeIn K cd27 "_law_ratio" = true)
    (k27 : PySem.W.keepIn K (.ref f27) = true)
    (a28 : PySem.W.nsIn K mainGlobals "_law_point" = some (some (.ref f28)))
    (l28 : K.lookup f28 = some ⟨oc28, od28, .func (PySem.W.fnOf "_law_point" "_law_point" (defArgs sLPoint) (defBody sLPoint) (defScope sLPoint) .none kV28 dc28 pm28 an28 cd28 ct28), sl28⟩)
    (c28 : PySem.W.codeIn K cd28 "_law_point" = true)
    (k28 : PySem.W.keepIn K (.ref f28) = true)
    (a29 : PySem.W.nsIn K mainGlobals "_law_ratio_text" = some (some (.ref f29)))
    (l29 : K.lookup f29 = some ⟨oc29, od29, .func (PySem.W.fnOf "_law_ratio_text" "_law_ratio_text" (defArgs sLRatioText) (defBody sLRatioText) (defScope sLRatioText) .none kV29 dc29 pm29 an29 cd29 ct29), sl29⟩)
    (c29 : PySem.W.codeIn K cd29 "_law_ratio_text" = true)
    (k29 : PySem.W.keepIn K (.ref f29) = true)
    (a30 : PySem.W.nsIn K mainGlobals "_law_names" = some (some (.ref f30)))
    (l30 : K.lookup f30 = some ⟨oc30, od30, .func (PySem.W.fnOf "_law_names" "_law_names" (defArgs sLNames) (defBody sLNames) (defScope sLNames) .none kV30 dc30 pm30 an30 cd30 ct30), sl30⟩)
    (c30 : PySem.W.codeIn K cd30 "_law_names" = true)
    (k30 : PySem.W.keepIn K (.ref f30) = true)
    (a31 : PySem.W.nsIn K mainGlobals "_law_leaf" = some (some (.ref f31)))
    (l31 : K.lookup f31 = some ⟨oc31, od31, .func (PySem.W.fnOf "_law_leaf" "_law_leaf" (defArgs sLLeaf) (defBody sLLeaf) (defScope sLLeaf) .none kV31 dc31 pm31 an31 cd31 ct31), sl31⟩)
    (c31 : PySem.W.codeIn K cd31 "_law_leaf" = true)
    (k31 : PySem.W.keepIn K (.ref f31) = true)
    (a32 : PySem.W.nsIn K mainGlobals "_law_expression" = some (some (.ref f32)))
    (l32 : K.lookup f32 = some ⟨oc32, od32, .func (PySem.W.fnOf "_law_expression" "_law_expression" (defArgs sLExpression) (defBody sLExpression) (defScope sLExpression) .none kV32 dc32 pm32 an32 cd32 ct32), sl32⟩)
    (c32 : PySem.W.codeIn K cd32 "_law_expression" = true)
    (k32 : PySem.W.keepIn K (.ref f32) = true)
    (a33 : PySem.W.nsIn K mainGlobals "_law_statement" = some (some (.ref f33)))
    (l33 : K.lookup f33 = some ⟨oc33, od33, .func (PySem.W.fnOf "_law_statement" "_law_statement" (defArgs sLStatement) (defBody sLStatement) (defScope sLStatement) .none kV33 dc33 pm33 an33 cd33 ct33), sl33⟩)
    (c33 : PySem.W.codeIn K cd33 "_law_statement" = true)
    (k33 : PySem.W.keepIn K (.ref f33) = true)
    (a34 : PySem.W.nsIn K mainGlobals "_law_block" = some (some (.ref f34)))
    (l34 : K.lookup f34 = some ⟨oc34, od34, .func (PySem.W.fnOf "_law_block" "_law_block" (defArgs sLBlock) (defBody sLBlock) (defScope sLBlock) .none kV34 dc34 pm34 an34 cd34 ct34), sl34⟩)
    (c34 : PySem.W.codeIn K cd34 "_law_block" = true)
    (k34 : PySem.W.keepIn K (.ref f34) = true)
    (a35 : PySem.W.nsIn K mainGlobals "_law_program" = some (some (.ref f35)))
    (l35 : K.lookup f35 = some ⟨oc35, od35, .func (PySem.W.fnOf "_law_program" "_law_program" (defArgs sLProgram) (defBody sLProgram) (defScope sLProgram) .none kV35 dc35 pm35 an35 cd35 ct35), sl35⟩)
    (c35 : PySem.W.codeIn K cd35 "_law_program" = true)
    (k35 : PySem.W.keepIn K (.ref f35) = true)
    (a36 : PySem.W.nsIn K mainGlobals "_law_value" = some (some (.ref f36)))
    (l36 : K.lookup f36 = some ⟨oc36, od36, .func (PySem.W.fnOf "_law_value" "_law_value" (defArgs sLValue) (defBody sLValue) (defScope sLValue) .none kV36 dc36 pm36 an36 cd36 ct36), sl36⟩)
    (c36 : PySem.W.codeIn K cd36 "_law_value" = true)
    (k36 : PySem.W.keepIn K (.ref f36) = true)
    (a37 : PySem.W.nsIn K mainGlobals "_law_branch" = some (some (.ref f37)))
    (l37 : K.lookup f37 = some ⟨oc37, od37, .func (PySem.W.fnOf "_law_branch" "_law_branch" (defArgs sLBranch) (defBody sLBranch) (defScope sLBranch) .none kV37 dc37 pm37 an37 cd37 ct37), sl37⟩)
    (c37 : PySem.W.codeIn K cd37 "_law_branch" = true)
    (k37 : PySem.W.keepIn K (.ref f37) = true)
    (a38 : PySem.W.nsIn K mainGlobals "_law_block_end" = some (some (.ref f38)))
    (l38 : K.lookup f38 = some ⟨oc38, od38, .func (PySem.W.fnOf "_law_block_end" "_law_block_end" (defArgs sLBlockEnd) (defBody sLBlockEnd) (defScope sLBlockEnd) .none kV38 dc38 pm38 an38 cd38 ct38), sl38⟩)
    (c38 : PySem.W.codeIn K cd38 "_law_block_end" = true)
    (k38 : PySem.W.keepIn K (.ref f38) = true)
    (a39 : PySem.W.nsIn K mainGlobals "_law_run" = some (some (.ref f39)))
    (l39 : K.lookup f39 = some ⟨oc39, od39, .func (PySem.W.fnOf "_law_run" "_law_run" (defArgs sLRun) (defBody sLRun) (defScope sLRun) .none kV39 dc39 pm39 an39 cd39 ct39), sl39⟩)
    (c39 : PySem.W.codeIn K cd39 "_law_run" = true)
    (k39 : PySem.W.keepIn K (.ref f39) = true)
    (a40 : PySem.W.nsIn K mainGlobals "law" = some (some (.ref f40)))
    (l40 : K.lookup f40 = some ⟨oc40, od40, .func (PySem.W.fnOf "law" "law" (defArgs sLaw) (defBody sLaw) (defScope sLaw) .none kV40 dc40 pm40 an40 cd40 ct40), sl40⟩)
    (c40 : PySem.W.codeIn K cd40 "law" = true)
    (k40 : PySem.W.keepIn K (.ref f40) = true)
    (a41 : PySem.W.findIn K (.ref cP) "of_number" = some (some (.ref f41)))
    (i41 : PySem.W.isFn K (.ref f41) = true)
    (l41 : K.lookup f41 = some ⟨oc41, od41, .func (PySem.W.fnOf "of_number" "Plain.of_number" (defArgs sPlainOfNumber) (defBody sPlainOfNumber) (defScope sPlainOfNumber) .none kV41 dc41 pm41 an41 cd41 ct41), sl41⟩)
    (c41 : PySem.W.codeIn K cd41 "Plain.of_number" = true)
    (k41 : PySem.W.keepIn K (.ref f41) = true)
    (a42 : PySem.W.findIn K (.ref cP) "joined" = some (some (.ref f42)))
    (i42 : PySem.W.isFn K (.ref f42) = true)
    (l42 : K.lookup f42 = some ⟨oc42, od42, .func (PySem.W.fnOf "joined" "Plain.joined" (defArgs sPlainJoined) (defBody sPlainJoined) (defScope sPlainJoined) .none kV42 dc42 pm42 an42 cd42 ct42), sl42⟩)
    (c42 : PySem.W.codeIn K cd42 "Plain.joined" = true)
    (k42 : PySem.W.keepIn K (.ref f42) = true)
    (a43 : PySem.W.findIn K (.ref cP) "is_zero" = some (some (.ref f43)))
    (i43 : PySem.W.isFn K (.ref f43) = true)
    (l43 : K.lookup f43 = some ⟨oc43, od43, .func (PySem.W.fnOf "is_zero" "Plain.is_zero" (defArgs sPlainIsZero) (defBody sPlainIsZero) (defScope sPlainIsZero) .none kV43 dc43 pm43 an43 cd43 ct43), sl43⟩)
    (c43 : PySem.W.codeIn K cd43 "Plain.is_zero" = true)
    (k43 : PySem.W.keepIn K (.ref f43) = true)
    (a44 : PySem.W.findIn K (.ref cP) "order" = some (some (.ref f44)))
    (i44 : PySem.W.isFn K (.ref f44) = true)
    (l44 : K.lookup f44 = some ⟨oc44, od44, .func (PySem.W.fnOf "order" "Plain.order" (defArgs sPlainOrder) (defBody sPlainOrder) (defScope sPlainOrder) .none kV44 dc44 pm44 an44 cd44 ct44), sl44⟩)
    (c44 : PySem.W.codeIn K cd44 "Plain.order" = true)
    (k44 : PySem.W.keepIn K (.ref f44) = true)
    (a45 : PySem.W.findIn K (.ref cR) "__init__" = some (some (.ref f45)))
    (i45 : PySem.W.isFn K (.ref f45) = true)
    (l45 : K.lookup f45 = some ⟨oc45, od45, .func (PySem.W.fnOf "__init__" "Runner.__init__" (defArgs sRunnerInit) (defBody sRunnerInit) (defScope sRunnerInit) .none kV45 dc45 pm45 an45 cd45 ct45), sl45⟩)
    (c45 : PySem.W.codeIn K cd45 "Runner.__init__" = true)
    (k45 : PySem.W.keepIn K (.ref f45) = true)
    (a46 : PySem.W.findIn K (.ref cR) "evaluate" = some (some (.ref f46)))
    (i46 : PySem.W.isFn K (.ref f46) = true)
    (l46 : K.lookup f46 = some ⟨oc46, od46, .func (PySem.W.fnOf "evaluate" "Runner.evaluate" (defArgs sRunnerEvaluate) (defBody sRunnerEvaluate) (defScope sRunnerEvaluate) .none kV46 dc46 pm46 an46 cd46 ct46), sl46⟩)
    (c46 : PySem.W.codeIn K cd46 "Runner.evaluate" = true)
    (k46 : PySem.W.keepIn K (.ref f46) = true)
    (a47 : PySem.W.findIn K (.ref cR) "outcome" = some (some (.ref f47)))
    (i47 : PySem.W.isFn K (.ref f47) = true)
    (l47 : K.lookup f47 = some ⟨oc47, od47, .func (PySem.W.fnOf "outcome" "Runner.outcome" (defArgs sRunnerOutcome) (defBody sRunnerOutcome) (defScope sRunnerOutcome) .none kV47 dc47 pm47 an47 cd47 ct47), sl47⟩)
    (c47 : PySem.W.codeIn K cd47 "Runner.outcome" = true)
    (k47 : PySem.W.keepIn K (.ref f47) = true)
    (a48 : PySem.W.findIn K (.ref cR) "block" = some (some (.ref f48)))
    (i48 : PySem.W.isFn K (.ref f48) = true)
    (l48 : K.lookup f48 = some ⟨oc48, od48, .func (PySem.W.fnOf "block" "Runner.block" (defArgs sRunnerBlock) (defBody sRunnerBlock) (defScope sRunnerBlock) .none kV48 dc48 pm48 an48 cd48 ct48), sl48⟩)
    (c48 : PySem.W.codeIn K cd48 "Runner.block" = true)
    (k48 : PySem.W.keepIn K (.ref f48) = true)
    (a49 : PySem.W.findIn K (.ref cR) "execute" = some (some (.ref f49)))
    (i49 : PySem.W.isFn K (.ref f49) = true)
    (l49 : K.lookup f49 = some ⟨oc49, od49, .func (PySem.W.fnOf "execute" "Runner.execute" (defArgs sRunnerExecute) (defBody sRunnerExecute) (defScope sRunnerExecute) .none kV49 dc49 pm49 an49 cd49 ct49), sl49⟩)
    (c49 : PySem.W.codeIn K cd49 "Runner.execute" = true)
    (k49 : PySem.W.keepIn K (.ref f49) = true)
    (a50 : PySem.W.findIn K (.ref cR) "whole" = some (some (.ref f50)))
    (i50 : PySem.W.isFn K (.ref f50) = true)
    (l50 : K.lookup f50 = some ⟨oc50, od50, .func (PySem.W.fnOf "whole" "Runner.whole" (defArgs sRunnerWhole) (defBody sRunnerWhole) (defScope sRunnerWhole) .none kV50 dc50 pm50 an50 cd50 ct50), sl50⟩)
    (c50 : PySem.W.codeIn K cd50 "Runner.whole" = true)
    (k50 : PySem.W.keepIn K (.ref f50) = true)
    (z_isinstance : PySem.W.nsIn K mainGlobals "isinstance" = some none)
    (z_int : PySem.W.nsIn K mainGlobals "int" = some none)
    (z_bool : PySem.W.nsIn K mainGlobals "bool" = some none)
    (z_str : PySem.W.nsIn K mainGlobals "str" = some none)
    (z_list : PySem.W.nsIn K mainGlobals "list" = some none)
    (z_tuple : PySem.W.nsIn K mainGlobals "tuple" = some none)
    (z_len : PySem.W.nsIn K mainGlobals "len" = some none)
    (z_abs : PySem.W.nsIn K mainGlobals "abs" = some none)
    (z_all : PySem.W.nsIn K mainGlobals "all" = some none)
    (z_range : PySem.W.nsIn K mainGlobals "range" = some none)
    (z_zip : PySem.W.nsIn K mainGlobals "zip" = some none)
    (z_dict : PySem.W.nsIn K mainGlobals "dict" = some none)
    (g_gcd : PySem.W.nsIn K mainGlobals "gcd" = some (some (.builtin "math.gcd")))
    (g_MOST_WEIGHT : PySem.W.nsIn K mainGlobals "MOST_WEIGHT" = some (some (.int (10) tk_MOST_WEIGHT)))
    (g_MOST_STEPS : PySem.W.nsIn K mainGlobals "MOST_STEPS" = some (some (.int (60) tk_MOST_STEPS)))
    (g_SIGNS : PySem.W.nsIn K mainGlobals "SIGNS" = some (some (.ref pS)))
    (d_SIGNS : KDc K w pS signsT)
    (al_over_ratios : PySem.W.nsIn K mainGlobals "over_ratios" = some (some (.ref f5)))
    (a_Quotient : PySem.W.nsIn K mainGlobals "Quotient" = some (some (.ref cQ)))
    (ci_Quotient : PySem.W.clsIn K cQ = some cq_Quotient)
    (ty_Quotient : PySem.W.typeIn K (.ref cQ) = some (.type "type"))
    (su_Quotient_tuple : PySem.W.subIn K (.type "tuple") (.ref cQ) = some false)
    (pg_Plain : PySem.W.plainGet K cP Str.empty = true)
    (hd_Plain : PySem.W.hasDictIn K cP = true)
    (po_Plain : PySem.W.plainOver K cP = true)
    (sa_Plain : PySem.W.findIn K (.ref cP) "__setattr__" = some (some (.builtin "object.__setattr__")))
    (mk_Plain : PySem.W.makesIn K cP = true)
    (kc_Plain : PySem.W.keepIn K (.ref cP) = true)
    (in_Plain : PySem.W.findIn K (.ref cP) "__init__" = some (some (.builtin "object.__init__")))
    (ob_Plain : PySem.W.mroIn K cP (.type "object") = some true)
    (pg_Runner : PySem.W.plainGet K cR Str.empty = true)
    (hd_Runner : PySem.W.hasDictIn K cR = true)
    (po_Runner : PySem.W.plainOver K cR = true)
    (sa_Runner : PySem.W.findIn K (.ref cR) "__setattr__" = some (some (.builtin "object.__setattr__")))
    (mk_Runner : PySem.W.makesIn K cR = true)
    (kc_Runner : PySem.W.keepIn K (.ref cR) = true)
    (no0_Runner : PySem.W.findIn K (.ref cR) "arithmetic" = some none)
    (no1_Runner : PySem.W.findIn K (.ref cR) "programs" = some none)
    (no2_Runner : PySem.W.findIn K (.ref cR) "outcomes" = some none)
    (no3_Runner : PySem.W.findIn K (.ref cR) "steps" = some none)
    (o_Halt : K.lookup cH = some (excClassObj nm_Halt q_Halt cH N_Halt bs_Halt bm_Halt true sn_Halt su_Halt ab_Halt co_Halt dd_Halt k0_Halt k1_Halt k2_Halt k3_Halt k5_Halt "ValueError.__new__"))
    (r_Halt : PySem.HandSPX.refsVE bm_Halt = true)
    (sa_Halt : PySem.W.findIn K (.ref cH) "__setattr__" = some (some (.builtin "object.__setattr__")))
    (ex_Halt : PySem.W.subIn K (.ref cH) (.type "BaseException") = some true)
    (ty_Halt : PySem.W.typeIn K (.ref cH) = some (.type "type"))
    (kc_Halt : PySem.W.keepIn K (.ref cH) = true)
    (ga_Halt : PySem.W.findIn K (.ref cH) "__getattribute__" = some (some (.builtin "BaseException.__getattribute__")))
    (gg_Halt : PySem.W.findIn K (.ref cH) "__getattr__" = some none)
    (hd_Halt : PySem.W.hasDictIn K cH = true)
    (ci_Halt : PySem.W.clsIn K cH = some cl_Halt)
    (ss_Halt : PySem.W.subIn K (.ref cH) (.ref cH) = some true)
    (iI_Halt : PySem.W.findIn K (.ref cH) "__init__" = some (some (.ref fI_Halt)))
    (tI_Halt : PySem.W.typeIn K (.ref fI_Halt) = some (.type "function"))
    (lI_Halt : K.lookup fI_Halt = some ⟨ocI_Halt, odI_Halt, .func (PySem.W.fnOf "__init__" "Halt.__init__" (defArgs sHalt_init) (defBody sHalt_init) (defScope sHalt_init) .none kVI_Halt dcI_Halt pmI_Halt anI_Halt cdI_Halt ctI_Halt), slI_Halt⟩)
    (cI_Halt : PySem.W.codeIn K cdI_Halt "Halt.__init__" = true)
    (kI_Halt : PySem.W.keepIn K (.ref fI_Halt) = true)
    (f0_Halt : PySem.W.findIn K (.ref cH) "end" = some none) :
    ∃ fd : FuncData, (∀ (s : Shared) (v : Value), BindsTo s fd ⟨[v], []⟩ [("_law_script", v)]) ∧ ∀ base : Heap, K.In base → base.Ns mainGlobals mg → FnOk P w K mg base (L2.CX P w) 70 fa fd ["_law_script"] (spD K lawS) := by
  have e := hfa.symm.trans (PySem.W.mg_of X G a40)
  cases e
  have mOverRatios := PySem.W.mg_of X G al_over_ratios
  have n_Quotient := PySem.W.mg_of X G a_Quotient
  have hk_Quotient_tuple := kit_own (t := .type "tuple") (by rfl) ci_Quotient ty_Quotient su_Quotient_tuple
  have n_Plain := PySem.W.mg_of X G a_Plain
  have c_Plain : Cls K cP := ⟨pg_Plain, hd_Plain, po_Plain, sa_Plain⟩
  have B_Plain : Bare K cP := ⟨mk_Plain, in_Plain, ob_Plain, kc_Plain⟩
  have n_Runner := PySem.W.mg_of X G a_Runner
  have c_Runner : Cls K cR := ⟨pg_Runner, hd_Runner, po_Runner, sa_Runner⟩
  have Mk_Runner : Mk K cR f45 := ⟨mk_Runner, a45, i45, kc_Runner⟩
  have n_Halt := PySem.W.mg_of X G a_Halt
  have OX_Halt : OexC K cH := ⟨⟨_, _, _, _, _, _, _, _, _, _, _, _, _, _, _, o_Halt, r_Halt⟩, sa_Halt, ex_Halt, ty_Halt, kc_Halt⟩
  have XF_Halt : XfC K cH := ⟨ga_Halt, gg_Halt, ex_Halt, hd_Halt⟩
  have XM_Halt : PySem.W.exmOne K (.ref cH) (.ref cH) = some true := exm_ref ex_Halt ci_Halt ty_Halt ss_Halt
  have FI_Halt := fun_mk (st := sHalt_init) lI_Halt cI_Halt kI_Halt
  have BI_Halt := FI_Halt.binds (ps := ["self", "end"]) fun _ _ _ _ _ _ us hl => match us, hl with | [_, _], _ => rfl
  have FLowest := fun_mk (st := sLowest) l1 c1 k1
  have bLowest := FLowest.binds (ps := ["top", "bottom"]) fun _ _ _ _ _ _ us hl => match us, hl with | [_, _], _ => rfl
  have mLowest := PySem.W.mg_of X G a1
  have FPlus := fun_mk (st := sPlus) l2 c2 k2
  have bPlus := FPlus.binds (ps := ["one", "other"]) fun _ _ _ _ _ _ us hl => match us, hl with | [_, _], _ => rfl
  have mPlus := PySem.W.mg_of X G a2
  have FMinus := fun_mk (st := sMinus) l3 c3 k3
  have bMinus := FMinus.binds (ps := ["one", "other"]) fun _ _ _ _ _ _ us hl => match us, hl with | [_, _], _ => rfl
  have mMinus := PySem.W.mg_of X G a3
  have FTimes := fun_mk (st := sTimes) l4 c4 k4
  have bTimes := FTimes.binds (ps := ["one", "other"]) fun _ _ _ _ _ _ us hl => match us, hl with | [_, _], _ => rfl
  have mTimes := PySem.W.mg_of X G a4
  have FOver := fun_mk (st := sOver) l5 c5 k5
  have bOver := FOver.binds (ps := ["one", "other"]) fun _ _ _ _ _ _ us hl => match us, hl with | [_, _], _ => rfl
  have mOver := PySem.W.mg_of X G a5
  have FSign := fun_mk (st := sSign) l6 c6 k6
  have bSign := FSign.binds (ps := ["number"]) fun _ _ _ _ _ _ us hl => match us, hl with | [_], _ => rfl
  have mSign := PySem.W.mg_of X G a6
  have FRatioText := fun_mk (st := sRatioText) l7 c7 k7
  have bRatioText := FRatioText.binds (ps := ["one"]) fun _ _ _ _ _ _ us hl => match us, hl with | [_], _ => rfl
  have mRatioText := PySem.W.mg_of X G a7
  have FBlocksOf := fun_mk (st := sBlocksOf) l8 c8 k8
  have bBlocksOf := FBlocksOf.binds (ps := ["statement"]) fun _ _ _ _ _ _ us hl => match us, hl with | [_], _ => rfl
  have mBlocksOf := PySem.W.mg_of X G a8
  have FExpressionsOf := fun_mk (st := sExpressionsOf) l9 c9 k9
  have bExpressionsOf := FExpressionsOf.binds (ps := ["statement"]) fun _ _ _ _ _ _ us hl => match us, hl with | [_], _ => rfl
  have mExpressionsOf := PySem.W.mg_of X G a9
  have FNamesCalledIn := fun_mk (st := sNamesCalledIn) l10 c10 k10
  have bNamesCalledIn := FNamesCalledIn.binds (ps := ["expression"]) fun _ _ _ _ _ _ us hl => match us, hl with | [_], _ => rfl
  have mNamesCalledIn := PySem.W.mg_of X G a10
  have FCalledNames := fun_mk (st := sCalledNames) l11 c11 k11
  have bCalledNames := FCalledNames.binds (ps := ["program"]) fun _ _ _ _ _ _ us hl => match us, hl with | [_], _ => rfl
  have mCalledNames := PySem.W.mg_of X G a11
  have FCheckCalls := fun_mk (st := sCheckCalls) l12 c12 k12
  have bCheckCalls := FCheckCalls.binds (ps := ["program", "table", "checked"]) fun _ _ _ _ _ _ us hl => match us, hl with | [_, _, _], _ => rfl
  have mCheckCalls := PySem.W.mg_of X G a12
  have FRun := fun_mk (st := sRun) l13 c13 k13
  have mRun := PySem.W.mg_of X G a13
  have FEndText := fun_mk (st := sEndText) l14 c14 k14
  have bEndText := FEndText.binds (ps := ["end"]) fun _ _ _ _ _ _ us hl => match us, hl with | [_], _ => rfl
  have mEndText := PySem.W.mg_of X G a14
  have FLBag := fun_mk (st := sLBag) l15 c15 k15
  have bLBag := FLBag.binds (ps := ["_law_script"]) fun _ _ _ _ _ _ us hl => match us, hl with | [_], _ => rfl
  have mLBag := PySem.W.mg_of X G a15
  have FLPull := fun_mk (st := sLPull) l16 c16 k16
  have bLPull := FLPull.binds (ps := ["_law_bag_here", "_law_many"]) fun _ _ _ _ _ _ us hl => match us, hl with | [_, _], _ => rfl
  have mLPull := PySem.W.mg_of X G a16
  have FLOf := fun_mk (st := sLOf) l17 c17 k17
  have bLOf := FLOf.binds (ps := ["_law_bag_here", "_law_some"]) fun _ _ _ _ _ _ us hl => match us, hl with | [_, _], _ => rfl
  have mLOf := PySem.W.mg_of X G a17
  have FLSame := fun_mk (st := sLSame) l18 c18 k18
  have bLSame := FLSame.binds (ps := ["_law_found", "_law_due"]) fun _ _ _ _ _ _ us hl => match us, hl with | [_, _], _ => rfl
  have mLSame := PySem.W.mg_of X G a18
  have FLGcd := fun_mk (st := sLGcd) l19 c19 k19
  have bLGcd := FLGcd.binds (ps := ["_law_one", "_law_two"]) fun _ _ _ _ _ _ us hl => match us, hl with | [_, _], _ => rfl
  have mLGcd := PySem.W.mg_of X G a19
  have FLLow := fun_mk (st := sLLow) l20 c20 k20
  have bLLow := FLLow.binds (ps := ["_law_top", "_law_under"]) fun _ _ _ _ _ _ us hl => match us, hl with | [_, _], _ => rfl
  have mLLow := PySem.W.mg_of X G a20
  have FLAdd := fun_mk (st := sLAdd) l21 c21 k21
  have bLAdd := FLAdd.binds (ps := ["_law_one", "_law_two"]) fun _ _ _ _ _ _ us hl => match us, hl with | [_, _], _ => rfl
  have mLAdd := PySem.W.mg_of X G a21
  have FLSub := fun_mk (st := sLSub) l22 c22 k22
  have bLSub := FLSub.binds (ps := ["_law_one", "_law_two"]) fun _ _ _ _ _ _ us hl => match us, hl with | [_, _], _ => rfl
  have mLSub := PySem.W.mg_of X G a22
  have FLMul := fun_mk (st := sLMul) l23 c23 k23
  have bLMul := FLMul.binds (ps := ["_law_one", "_law_two"]) fun _ _ _ _ _ _ us hl => match us, hl with | [_, _], _ => rfl
  have mLMul := PySem.W.mg_of X G a23
  have FLDiv := fun_mk (st := sLDiv) l24 c24 k24
  have bLDiv := FLDiv.binds (ps := ["_law_one", "_law_two"]) fun _ _ _ _ _ _ us hl => match us, hl with | [_, _], _ => rfl
  have mLDiv := PySem.W.mg_of X G a24
  have FLSign := fun_mk (st := sLSign) l25 c25 k25
  have bLSign := FLSign.binds (ps := ["_law_number"]) fun _ _ _ _ _ _ us hl => match us, hl with | [_], _ => rfl
  have mLSign := PySem.W.mg_of X G a25
  have FLOrder := fun_mk (st := sLOrder) l26 c26 k26
  have bLOrder := FLOrder.binds (ps := ["_law_one", "_law_two"]) fun _ _ _ _ _ _ us hl => match us, hl with | [_, _], _ => rfl
  have mLOrder := PySem.W.mg_of X G a26
  have FLRatio := fun_mk (st := sLRatio) l27 c27 k27
  have bLRatio := FLRatio.binds (ps := ["_law_bag_here", "_law_high", "_law_under"]) fun _ _ _ _ _ _ us hl => match us, hl with | [_, _, _], _ => rfl
  have mLRatio := PySem.W.mg_of X G a27
  have FLPoint := fun_mk (st := sLPoint) l28 c28 k28
  have bLPoint := FLPoint.binds (ps := ["_law_bag_here", "_law_high", "_law_under"]) fun _ _ _ _ _ _ us hl => match us, hl with | [_, _, _], _ => rfl
  have mLPoint := PySem.W.mg_of X G a28
  have FLRatioText := fun_mk (st := sLRatioText) l29 c29 k29
  have bLRatioText := FLRatioText.binds (ps := ["_law_one"]) fun _ _ _ _ _ _ us hl => match us, hl with | [_], _ => rfl
  have mLRatioText := PySem.W.mg_of X G a29
  have FLNames := fun_mk (st := sLNames) l30 c30 k30
  have bLNames := FLNames.binds (ps := ["_law_bag_here", "_law_many"]) fun _ _ _ _ _ _ us hl => match us, hl with | [_, _], _ => rfl
  have mLNames := PySem.W.mg_of X G a30
  have FLLeaf := fun_mk (st := sLLeaf) l31 c31 k31
  have bLLeaf := FLLeaf.binds (ps := ["_law_bag_here", "_law_names_z"]) fun _ _ _ _ _ _ us hl => match us, hl with | [_, _], _ => rfl
  have mLLeaf := PySem.W.mg_of X G a31
  have FLExpression := fun_mk (st := sLExpression) l32 c32 k32
  have bLExpression := FLExpression.binds (ps := ["_law_bag_here", "_law_names_z", "_law_known", "_law_deep"]) fun _ _ _ _ _ _ us hl => match us, hl with | [_, _, _, _], _ => rfl
  have mLExpression := PySem.W.mg_of X G a32
  have FLStatement := fun_mk (st := sLStatement) l33 c33 k33
  have bLStatement := FLStatement.binds (ps := ["_law_bag_here", "_law_names_z", "_law_known", "_law_deep", "_law_left"]) fun _ _ _ _ _ _ us hl => match us, hl with | [_, _, _, _, _], _ => rfl
  have mLStatement := PySem.W.mg_of X G a33
  have FLBlock := fun_mk (st := sLBlock) l34 c34 k34
  have bLBlock := FLBlock.binds (ps := ["_law_bag_here", "_law_names_z", "_law_known", "_law_deep", "_law_left"]) fun _ _ _ _ _ _ us hl => match us, hl with | [_, _, _, _, _], _ => rfl
  have mLBlock := PySem.W.mg_of X G a34
  have FLProgram := fun_mk (st := sLProgram) l35 c35 k35
  have bLProgram := FLProgram.binds (ps := ["_law_bag_here", "_law_names_z", "_law_known", "_law_many"]) fun _ _ _ _ _ _ us hl => match us, hl with | [_, _, _, _], _ => rfl
  have mLProgram := PySem.W.mg_of X G a35
  have FLValue := fun_mk (st := sLValue) l36 c36 k36
  have bLValue := FLValue.binds (ps := ["_law_one", "_law_state"]) fun _ _ _ _ _ _ us hl => match us, hl with | [_, _], _ => rfl
  have mLValue := PySem.W.mg_of X G a36
  have FLBranch := fun_mk (st := sLBranch) l37 c37 k37
  have bLBranch := FLBranch.binds (ps := ["_law_one", "_law_state"]) fun _ _ _ _ _ _ us hl => match us, hl with | [_, _], _ => rfl
  have mLBranch := PySem.W.mg_of X G a37
  have FLBlockEnd := fun_mk (st := sLBlockEnd) l38 c38 k38
  have bLBlockEnd := FLBlockEnd.binds (ps := ["_law_program_z", "_law_state"]) fun _ _ _ _ _ _ us hl => match us, hl with | [_, _], _ => rfl
  have mLBlockEnd := PySem.W.mg_of X G a38
  have FLRun := fun_mk (st := sLRun) l39 c39 k39
  have bLRun := FLRun.binds (ps := ["_law_program_z", "_law_spot_z", "_law_table_z"]) fun _ _ _ _ _ _ us hl => match us, hl with | [_, _, _], _ => rfl
  have mLRun := PySem.W.mg_of X G a39
  have FLaw := fun_mk (st := sLaw) l40 c40 k40
  have bLaw := FLaw.binds (ps := ["_law_script"]) fun _ _ _ _ _ _ us hl => match us, hl with | [_], _ => rfl
  have mLaw := PySem.W.mg_of X G a40
  have FPlainOfNumber := fun_mk (st := sPlainOfNumber) l41 c41 k41
  have bPlainOfNumber := FPlainOfNumber.binds (ps := ["self", "value"]) fun _ _ _ _ _ _ us hl => match us, hl with | [_, _], _ => rfl
  have hPlainOfNumber : Meth K cP "of_number" f41 := ⟨a41, i41, k41⟩
  have FPlainJoined := fun_mk (st := sPlainJoined) l42 c42 k42
  have bPlainJoined := FPlainJoined.binds (ps := ["self", "word", "one", "other"]) fun _ _ _ _ _ _ us hl => match us, hl with | [_, _, _, _], _ => rfl
  have hPlainJoined : Meth K cP "joined" f42 := ⟨a42, i42, k42⟩
  have FPlainIsZero := fun_mk (st := sPlainIsZero) l43 c43 k43
  have bPlainIsZero := FPlainIsZero.binds (ps := ["self", "one"]) fun _ _ _ _ _ _ us hl => match us, hl with | [_, _], _ => rfl
  have hPlainIsZero : Meth K cP "is_zero" f43 := ⟨a43, i43, k43⟩
  have FPlainOrder := fun_mk (st := sPlainOrder) l44 c44 k44
  have bPlainOrder := FPlainOrder.binds (ps := ["self", "one", "other"]) fun _ _ _ _ _ _ us hl => match us, hl with | [_, _, _], _ => rfl
  have hPlainOrder : Meth K cP "order" f44 := ⟨a44, i44, k44⟩
  have FRunnerInit := fun_mk (st := sRunnerInit) l45 c45 k45
  have bRunnerInit := FRunnerInit.binds (ps := ["self", "arithmetic", "table"]) fun _ _ _ _ _ _ us hl => match us, hl with | [_, _, _], _ => rfl
  have FRunnerEvaluate := fun_mk (st := sRunnerEvaluate) l46 c46 k46
  have bRunnerEvaluate := FRunnerEvaluate.binds (ps := ["self", "expression", "names", "x", "y"]) fun _ _ _ _ _ _ us hl => match us, hl with | [_, _, _, _, _], _ => rfl
  have hRunnerEvaluate : Meth K cR "evaluate" f46 := ⟨a46, i46, k46⟩
  have FRunnerOutcome := fun_mk (st := sRunnerOutcome) l47 c47 k47
  have bRunnerOutcome := FRunnerOutcome.binds (ps := ["self", "statement", "names", "x", "y"]) fun _ _ _ _ _ _ us hl => match us, hl with | [_, _, _, _, _], _ => rfl
  have hRunnerOutcome : Meth K cR "outcome" f47 := ⟨a47, i47, k47⟩
  have FRunnerBlock := fun_mk (st := sRunnerBlock) l48 c48 k48
  have bRunnerBlock := FRunnerBlock.binds (ps := ["self", "statements", "names", "x", "y"]) fun _ _ _ _ _ _ us hl => match us, hl with | [_, _, _, _, _], _ => rfl
  have hRunnerBlock : Meth K cR "block" f48 := ⟨a48, i48, k48⟩
  have FRunnerExecute := fun_mk (st := sRunnerExecute) l49 c49 k49
  have bRunnerExecute := FRunnerExecute.binds (ps := ["self", "program", "x", "y"]) fun _ _ _ _ _ _ us hl => match us, hl with | [_, _, _, _], _ => rfl
  have hRunnerExecute : Meth K cR "execute" f49 := ⟨a49, i49, k49⟩
  have FRunnerWhole := fun_mk (st := sRunnerWhole) l50 c50 k50
  have bRunnerWhole := FRunnerWhole.binds (ps := ["self", "program", "x", "y"]) fun _ _ _ _ _ _ us hl => match us, hl with | [_, _, _, _], _ => rfl
  have hRunnerWhole : Meth K cR "whole" f50 := ⟨a50, i50, k50⟩
  have Z : Zn w K mg pS cP cR cH := { z_isinstance := PySem.W.mg_none_of X G z_isinstance, z_int := PySem.W.mg_none_of X G z_int, z_bool := PySem.W.mg_none_of X G z_bool, z_str := PySem.W.mg_none_of X G z_str, z_list := PySem.W.mg_none_of X G z_list, z_tuple := PySem.W.mg_none_of X G z_tuple, z_len := PySem.W.mg_none_of X G z_len, z_abs := PySem.W.mg_none_of X G z_abs, z_all := PySem.W.mg_none_of X G z_all, z_range := PySem.W.mg_none_of X G z_range, z_zip := PySem.W.mg_none_of X G z_zip, z_dict := PySem.W.mg_none_of X G z_dict, g_gcd := PySem.W.mg_of X G g_gcd, g_MOST_WEIGHT := glb_int (PySem.W.mg_of X G g_MOST_WEIGHT), g_MOST_STEPS := glb_int (PySem.W.mg_of X G g_MOST_STEPS), g_SIGNS := glb_ptr (PySem.W.mg_of X G g_SIGNS), d_SIGNS := d_SIGNS, c_P := c_Plain, c_R := c_Runner, n_R := fun f hf => by simp only [fldsR, List.mem_cons, List.not_mem_nil, or_false] at hf; rcases hf with rfl | rfl | rfl | rfl <;> assumption, h_end := ⟨XF_Halt, f0_Halt⟩ }
  refine ⟨PySem.W.fnOf "law" "law" (defArgs sLaw) (defBody sLaw) (defScope sLaw) .none kV40 dc40 pm40 an40 cd40 ct40, fun s v => .of_eq rfl, fun base _ _ => ?_⟩
  have E_Halt : ExCls P w K mg base "Halt" cH ["self", "end"] (spIf cH "end") := ⟨OX_Halt, n_Halt, fI_Halt, _, iI_Halt, tI_Halt, initf_ok FI_Halt scHalt_init rfl rfl rfl (by decide) (by decide) OX_Halt f0_Halt, BI_Halt⟩
  have CLowest := cal_mk (ok_Lowest (P := P) (w := w) (base := base) Z FLowest) mLowest FLowest.kp bLowest
  have CPlus := cal_mk (ok_Plus Z FPlus CLowest) mPlus FPlus.kp bPlus
  have CMinus := cal_mk (ok_Minus Z FMinus CLowest) mMinus FMinus.kp bMinus
  have CTimes := cal_mk (ok_Times Z FTimes CLowest) mTimes FTimes.kp bTimes
  have COver := cal_mk (ok_Over Z FOver CLowest) mOver FOver.kp bOver
  have COverRatios := cal_mk (ok_Over (P := P) (w := w) (base := base) Z FOver CLowest) mOverRatios FOver.kp bOver
  have CSign := cal_mk (ok_Sign (P := P) (w := w) (base := base) Z FSign) mSign FSign.kp bSign
  have CLSign := cal_mk (ok_LSign (P := P) (w := w) (base := base) Z FLSign) mLSign FLSign.kp bLSign
  have MPlainOfNumber := mcal_mk (ok_PlainOfNumber (P := P) (w := w) (base := base) Z FPlainOfNumber) Z.c_P hPlainOfNumber bPlainOfNumber
  have MPlainIsZero := mcal_mk (ok_PlainIsZero (P := P) (w := w) (base := base) Z FPlainIsZero) Z.c_P hPlainIsZero bPlainIsZero
  have MPlainJoined := mcal_mk (ok_PlainJoined Z FPlainJoined CPlus CMinus CTimes COverRatios) Z.c_P hPlainJoined bPlainJoined
  have MPlainOrder := mcal_mk (ok_PlainOrder Z FPlainOrder CMinus CSign) Z.c_P hPlainOrder bPlainOrder
  have exA := fun tab => ex_all (tab := tab) Z FRunnerEvaluate bRunnerEvaluate hRunnerEvaluate FRunnerOutcome bRunnerOutcome hRunnerOutcome FRunnerBlock bRunnerBlock hRunnerBlock FRunnerExecute bRunnerExecute hRunnerExecute MPlainOfNumber MPlainJoined MPlainIsZero MPlainOrder E_Halt
  have whA := fun tab c => ok_RunnerWhole (tab := tab) (c := c) Z FRunnerWhole (mcal_mk (exA tab (c + 1)) Z.c_R hRunnerExecute bRunnerExecute) n_Halt XM_Halt
  have CExpressionsOf := cal_mk (ok_ExpressionsOf (P := P) (w := w) (base := base) Z FExpressionsOf) mExpressionsOf FExpressionsOf.kp bExpressionsOf
  have CBlocksOf := cal_mk (ok_BlocksOf (P := P) (w := w) (base := base) Z FBlocksOf) mBlocksOf FBlocksOf.kp bBlocksOf
  have CNamesCalledIn := cal_mk (nc_all (P := P) (w := w) (base := base) Z FNamesCalledIn bNamesCalledIn mNamesCalledIn 8) mNamesCalledIn FNamesCalledIn.kp bNamesCalledIn
  have CCalledNames := cal_mk (cn_all Z FCalledNames bCalledNames mCalledNames CExpressionsOf CBlocksOf CNamesCalledIn 6) mCalledNames FCalledNames.kp bCalledNames
  have ccA := fun c => cc_all Z FCheckCalls bCheckCalls mCheckCalls CCalledNames c
  have K_Runner : KCal P w K mg base 1 "Runner" cR ["self", "arithmetic", "table"] [] (inS cP cR) := ⟨⟨_, _, [], [], ok_RunnerInit (P := P) (w := w) (base := base) Z FRunnerInit, Mk_Runner, n_Runner, bRunnerInit, .nil, fun _ _ => .nil⟩⟩
  have ruF := fun tab c => run_tidy (ok_Run (tab := tab) (c := c) Z FRun (cal_mk (fn_up (ccA (c + 1)) (show c + 1 + 14 ≤ 30 * c + 31 by omega)) mCheckCalls FCheckCalls.kp bCheckCalls) (mcal_mk (whA tab c) Z.c_R hRunnerWhole bRunnerWhole) B_Plain n_Plain K_Runner)
  have ruG : FnOk P w K mg base (L2.CX P w) 62 f13 _ ["program", "point", "table"] (spD K ruA) := fn_ex fun i => by
    by_cases hi : i.2 ≤ 1
    · exact fn_weak (fn_up (ruF i.1 i.2) (show 30 * i.2 + 31 + 1 ≤ 62 by omega)) fun ds L k x h => h.2
    · exact fn_no fun ds L k x h => hi h.1
  obtain ⟨dsR, vR, bR⟩ := FunD.binds0 (ps := ["program", "point", "table"]) (⟨⟨_, _, .none, .ref dR, _, _, _, _, _, _, rfl, l13, c13, .inl ⟨rfl, rfl⟩, .inr ⟨dR, rfl, fun q hq => by cases List.mem_singleton.mp hq; exact ⟨_, w13, rfl⟩⟩⟩, k13⟩ : FunD K "run" "run" (defArgs sRun) (defBody sRun) (defScope sRun) [] [("table", .non)] f13 _) 2 (by simp) rfl (fun D doc pm an cdv ct us ks h1 h2 => match us, ks, h1, h2 with | [_, _], [_], _, _ => ⟨_, _, _, _, _, _, rfl, rfl, rfl⟩)
  have CRun : Cal P w K mg base 62 "run" ["program", "point", "table"] [.non] ruA := ⟨⟨_, _, dsR, [.non], ruG, mRun, k13, bR, vR, fun _ _ => .cons .non .nil⟩⟩
  have W_Run_2_table : CalW P w K mg base 62 "run" 2 ["table"] [] (fun a b _ => a ++ b) ruA := ⟨⟨_, _, _, [], [], ruG, mRun, k13, kwb FRun (fun kV doc pm an cdv ct us ws h1 h2 => match us, ws, h1, h2 with | [_, _], [_], _, _ => rfl), ⟨fun a b _ => paired_append a b⟩, .nil, fun _ _ => .nil⟩⟩
  have CLGcd := cal_mk (ok_LGcd (P := P) (w := w) (base := base) Z FLGcd) mLGcd FLGcd.kp bLGcd
  have CLLow := cal_mk (ok_LLow Z FLLow CLGcd) mLLow FLLow.kp bLLow
  have CLAdd := cal_mk (ok_LAdd Z FLAdd CLLow) mLAdd FLAdd.kp bLAdd
  have CLSub := cal_mk (ok_LSub Z FLSub CLLow) mLSub FLSub.kp bLSub
  have CLMul := cal_mk (ok_LMul Z FLMul CLLow) mLMul FLMul.kp bLMul
  have CLDiv := cal_mk (ok_LDiv Z FLDiv CLLow) mLDiv FLDiv.kp bLDiv
  have CLOrder := cal_mk (ok_LOrder Z FLOrder CLSign) mLOrder FLOrder.kp bLOrder
  have lbA := fun tab => lbP_all (tab := tab) Z FLValue bLValue mLValue FLBranch bLBranch mLBranch FLBlockEnd bLBlockEnd mLBlockEnd CLAdd CLSub CLMul CLDiv CLOrder
  have lnF := fun tab c => ln_tidy (ok_LRun (tab := tab) (c := c) Z FLRun (cal_mk (lbA tab c).2 mLBlockEnd FLBlockEnd.kp bLBlockEnd))
  have lnG : FnOk P w K mg base (L2.CX P w) 51 f39 _ ["_law_program_z", "_law_spot_z", "_law_table_z"] (spD K lnA) := fn_ex fun i => by
    by_cases hi : i.2 ≤ 1
    · exact fn_weak (fn_up (lnF i.1 i.2) (show 30 * i.2 + 20 + 1 ≤ 51 by omega)) fun ds L k x h => h.2
    · exact fn_no fun ds L k x h => hi h.1
  have CLRun := cal_mk (lnG) mLRun FLRun.kp bLRun
  have CLBag := cal_mk (ok_LBag (P := P) (w := w) (base := base) Z FLBag) mLBag FLBag.kp bLBag
  have CLPull := cal_mk (ok_LPull (P := P) (w := w) (base := base) Z FLPull) mLPull FLPull.kp bLPull
  have CLOf := cal_mk (ok_LOf Z FLOf CLPull) mLOf FLOf.kp bLOf
  have CLSame := cal_mk (same_all (P := P) (w := w) (base := base) Z FLSame bLSame mLSame 9) mLSame FLSame.kp bLSame
  have CLRatio := cal_mk (ok_LRatio Z FLRatio CLPull CLLow) mLRatio FLRatio.kp bLRatio
  have CLPoint := cal_mk (ok_LPoint Z FLPoint CLRatio) mLPoint FLPoint.kp bLPoint
  have CRatioText := cal_mk (ok_RatioText (P := P) (w := w) (base := base) Z FRatioText) mRatioText FRatioText.kp bRatioText
  have CLRatioText := cal_mk (ok_LRatioText (P := P) (w := w) (base := base) Z FLRatioText) mLRatioText FLRatioText.kp bLRatioText
  have CEndText := cal_mk (ok_EndText Z FEndText CRatioText n_Quotient hk_Quotient_tuple) mEndText FEndText.kp bEndText
  have CLNames := cal_mk (ok_LNames Z FLNames CLPull CLOf) mLNames FLNames.kp bLNames
  have CLLeaf := cal_mk (ok_LLeaf Z FLLeaf CLPull CLOf) mLLeaf FLLeaf.kp bLLeaf
  have CLExpression := cal_mk (lexpr_all Z FLExpression bLExpression mLExpression CLPull CLOf CLLeaf 5) mLExpression FLExpression.kp bLExpression
  have CLBlock := cal_mk (bk_all Z FLBlock bLBlock mLBlock FLStatement bLStatement mLStatement CLPull CLOf CLExpression 5) mLBlock FLBlock.kp bLBlock
  have CLProgram := cal_mk (pr_tidy (ok_LProgram Z FLProgram CLBlock)) mLProgram FLProgram.kp bLProgram
  exact ok_Law Z FLaw CLBag CLPull CLPoint CLNames CLProgram CLSame CRun CLRun CLRatioText CEndText W_Run_2_table
theorem fin {l : PySem.W.OpenLaw} {w : World} {h : Heap} {mg : Str → Option Value} {fa : Addr} {K : PySem.W.Frag} (KX : K.In h) (G : h.Ns mainGlobals mg) (hmg : mg "law" = some (.ref fa)) (c : He.SaysX [] fnL tabL [] (DH.exAll tsts) w h K) : LamX.LawAtS l w K (L2.CX l.prog w) 70 63 "_law_script" mg fa h := by
  obtain ⟨oc1, od1, sl1, kV1, dc1, pm1, an1, cd1, ct1, l1, c1, k1⟩ := DH.defN c.t.d 0 (d := d0) rfl rfl
  obtain ⟨oc2, od2, sl2, kV2, dc2, pm2, an2, cd2, ct2, l2, c2, k2⟩ := DH.defN c.t.d 1 (d := d1) rfl rfl
  obtain ⟨oc3, od3, sl3, kV3, dc3, pm3, an3, cd3, ct3, l3, c3, k3⟩ := DH.defN c.t.d 2 (d := d2) rfl rfl
  obtain ⟨oc4, od4, sl4, kV4, dc4, pm4, an4, cd4, ct4, l4, c4, k4⟩ := DH.defN c.t.d 3 (d := d3) rfl rfl
  obtain ⟨oc5, od5, sl5, kV5, dc5, pm5, an5, cd5, ct5, l5, c5, k5⟩ := DH.defN c.t.d 4 (d := d4) rfl rfl
  obtain ⟨oc6, od6, sl6, kV6, dc6, pm6, an6, cd6, ct6, l6, c6, k6⟩ := DH.defN c.t.d 5 (d := d5) rfl rfl
  obtain ⟨oc7, od7, sl7, kV7, dc7, pm7, an7, cd7, ct7, l7, c7, k7⟩ := DH.defN c.t.d 6 (d := d6) rfl rfl
  obtain ⟨oc8, od8, sl8, kV8, dc8, pm8, an8, cd8, ct8, l8, c8, k8⟩ := DH.defN c.t.d 7 (d := d7) rfl rfl
  obtain ⟨oc9, od9, sl9, kV9, dc9, pm9, an9, cd9, ct9, l9, c9, k9⟩ := DH.defN c.t.d 8 (d := d8) rfl rfl
  obtain ⟨oc10, od10, sl10, kV10, dc10, pm10, an10, cd10, ct10, l10, c10, k10⟩ := DH.defN c.t.d 9 (d := d9) rfl rfl
  obtain ⟨oc11, od11, sl11, kV11, dc11, pm11, an11, cd11, ct11, l11, c11, k11⟩ := DH.defN c.t.d 10 (d := d10) rfl rfl
  obtain ⟨oc12, od12, sl12, kV12, dc12, pm12, an12, cd12, ct12, l12, c12, k12⟩ := DH.defN c.t.d 11 (d := d11) rfl rfl
  obtain ⟨oc13, od13, sl13, dR, dc13, pm13, an13, cd13, ct13, u13, l13, c13, k13, w13, rw13⟩ := DH.defK c.t.d 12 (d := d12) rfl rfl rfl
  cases (show u13 = .none from rw13)
  obtain ⟨oc14, od14, sl14, kV14, dc14, pm14, an14, cd14, ct14, l14, c14, k14⟩ := DH.defN c.t.d 13 (d := d13) rfl rfl
  obtain ⟨oc15, od15, sl15, kV15, dc15, pm15, an15, cd15, ct15, l15, c15, k15⟩ := DH.defN c.t.d 14 (d := d14) rfl rfl
  obtain ⟨oc16, od16, sl16, kV16, dc16, pm16, an16, cd16, ct16, l16, c16, k16⟩ := DH.defN c.t.d 15 (d := d15) rfl rfl
  obtain ⟨oc17, od17, sl17, kV17, dc17, pm17, an17, cd17, ct17, l17, c17, k17⟩ := DH.defN c.t.d 16 (d := d16) rfl rfl
  obtain ⟨oc18, od18, sl18, kV18, dc18, pm18, an18, cd18, ct18, l18, c18, k18⟩ := DH.defN c.t.d 17 (d := d17) rfl rfl
  obtain ⟨oc19, od19, sl19, kV19, dc19, pm19, an19, cd19, ct19, l19, c19, k19⟩ := DH.defN c.t.d 18 (d := d18) rfl rfl
  obtain ⟨oc20, od20, sl20, kV20, dc20, pm20, an20, cd20, ct20, l20, c20, k20⟩ := DH.defN c.t.d 19 (d := d19) rfl rfl
  obtain ⟨oc21, od21, sl21, kV21, dc21, pm21, an21, cd21, ct21, l21, c21, k21⟩ := DH.defN c.t.d 20 (d := d20) rfl rfl
  obtain ⟨oc22, od22, sl22, kV22, dc22, pm22, an22, cd22, ct22, l22, c22, k22⟩ := DH.defN c.t.d 21 (d := d21) rfl rfl
  obtain ⟨oc23, od23, sl23, kV23, dc23, pm23, an23, cd23, ct23, l23, c23, k23⟩ := DH.defN c.t.d 22 (d := d22) rfl rfl
  obtain ⟨oc24, od24, sl24, kV24, dc24, pm24, an24, cd24, ct24, l24, c24, k24⟩ := DH.defN c.t.d 23 (d := d23) rfl rfl
  obtain ⟨oc25, od25, sl25, kV25, dc25, pm25, an25, cd25, ct25, l25, c25, k25⟩ := DH.defN c.t.d 24 (d := d24) rfl rfl
  obtain ⟨oc26, od26, sl26, kV26, dc26, pm26, an26, cd26, ct26, l26, c26, k26⟩ := DH.defN c.t.d 25 (d := d25) rfl rfl
  obtain ⟨oc27, od27, sl27, kV27, dc27, pm27, an27, cd27, ct27, l27, c27, k27⟩ := DH.defN c.t.d 26 (d := d26) rfl rfl
  obtain ⟨oc28, od28, sl28, kV28, dc28, pm28, an28, cd28, ct28, l28, c28, k28⟩ := DH.defN c.t.d 27 (d := d27) rfl rfl
  obtain ⟨oc29, od29, sl29, kV29, dc29, pm29, an29, cd29, ct29, l29, c29, k29⟩ := DH.defN c.t.d 28 (d := d28) rfl rfl
  obtain ⟨oc30, od30, sl30, kV30, dc30, pm30, an30, cd30, ct30, l30, c30, k30⟩ := DH.defN c.t.d 29 (d := d29) rfl rfl
  obtain ⟨oc31, od31, sl31, kV31, dc31, pm31, an31, cd31, ct31, l31, c31, k31⟩ := DH.defN c.t.d 30 (d := d30) rfl rfl
  obtain ⟨oc32, od32, sl32, kV32, dc32, pm32, an32, cd32, ct32, l32, c32, k32⟩ := DH.defN c.t.d 31 (d := d31) rfl rfl
  obtain ⟨oc33, od33, sl33, kV33, dc33, pm33, an33, cd33, ct33, l33, c33, k33⟩ := DH.defN c.t.d 32 (d := d32) rfl rfl
  obtain ⟨oc34, od34, sl34, kV34, dc34, pm34, an34, cd34, ct34, l34, c34, k34⟩ := DH.defN c.t.d 33 (d := d33) rfl rfl
  obtain ⟨oc35, od35, sl35, kV35, dc35, pm35, an35, cd35, ct35, l35, c35, k35⟩ := DH.defN c.t.d 34 (d := d34) rfl rfl
  obtain ⟨oc36, od36, sl36, kV36, dc36, pm36, an36, cd36, ct36, l36, c36, k36⟩ := DH.defN c.t.d 35 (d := d35) rfl rfl
  obtain ⟨oc37, od37, sl37, kV37, dc37, pm37, an37, cd37, ct37, l37, c37, k37⟩ := DH.defN c.t.d 36 (d := d36) rfl rfl
  obtain ⟨oc38, od38, sl38, kV38, dc38, pm38, an38, cd38, ct38, l38, c38, k38⟩ := DH.defN c.t.d 37 (d := d37) rfl rfl
  obtain ⟨oc39, od39, sl39, kV39, dc39, pm39, an39, cd39, ct39, l39, c39, k39⟩ := DH.defN c.t.d 38 (d := d38) rfl rfl
  obtain ⟨oc40, od40, sl40, kV40, dc40, pm40, an40, cd40, ct40, l40, c40, k40⟩ := DH.defN c.t.d 39 (d := d39) rfl rfl
  obtain ⟨oc41, od41, sl41, kV41, dc41, pm41, an41, cd41, ct41, l41, c41, k41⟩ := DH.defN c.t.d 40 (d := d40) rfl rfl
  obtain ⟨oc42, od42, sl42, kV42, dc42, pm42, an42, cd42, ct42, l42, c42, k42⟩ := DH.defN c.t.d 41 (d := d41) rfl rfl
  obtain ⟨oc43, od43, sl43, kV43, dc43, pm43, an43, cd43, ct43, l43, c43, k43⟩ := DH.defN c.t.d 42 (d := d42) rfl rfl
  obtain ⟨oc44, od44, sl44, kV44, dc44, pm44, an44, cd44, ct44, l44, c44, k44⟩ := DH.defN c.t.d 43 (d := d43) rfl rfl
  obtain ⟨oc45, od45, sl45, kV45, dc45, pm45, an45, cd45, ct45, l45, c45, k45⟩ := DH.defN c.t.d 44 (d := d44) rfl rfl
  obtain ⟨oc46, od46, sl46, kV46, dc46, pm46, an46, cd46, ct46, l46, c46, k46⟩ := DH.defN c.t.d 45 (d := d45) rfl rfl
  obtain ⟨oc47, od47, sl47, kV47, dc47, pm47, an47, cd47, ct47, l47, c47, k47⟩ := DH.defN c.t.d 46 (d := d46) rfl rfl
  obtain ⟨oc48, od48, sl48, kV48, dc48, pm48, an48, cd48, ct48, l48, c48, k48⟩ := DH.defN c.t.d 47 (d := d47) rfl rfl
  obtain ⟨oc49, od49, sl49, kV49, dc49, pm49, an49, cd49, ct49, l49, c49, k49⟩ := DH.defN c.t.d 48 (d := d48) rfl rfl
  obtain ⟨oc50, od50, sl50, kV50, dc50, pm50, an50, cd50, ct50, l50, c50, k50⟩ := DH.defN c.t.d 49 (d := d49) rfl rfl
  obtain ⟨tk_MOST_WEIGHT, g_MOST_WEIGHT⟩ := DH.intB_ok (DH.ex_at c.more 76 (f := t76) rfl)
  obtain ⟨tk_MOST_STEPS, g_MOST_STEPS⟩ := DH.intB_ok (DH.ex_at c.more 77 (f := t77) rfl)
  obtain ⟨cq_Quotient, ci_Quotient⟩ := DH.cls_some (DH.ex_at c.more 82 (f := t82) rfl)
  obtain ⟨nm_Halt, q_Halt, N_Halt, bs_Halt, bm_Halt, sn_Halt, su_Halt, ab_Halt, co_Halt, dd_Halt, k0_Halt, k1_Halt, k2_Halt, k3_Halt, k5_Halt, o_Halt, r_Halt⟩ := DH.oexB_ok (DH.ex_at c.more 103 (f := t103) rfl)
  obtain ⟨cl_Halt, ci_Halt⟩ := DH.cls_some (DH.ex_at c.more 111 (f := t111) rfl)
  obtain ⟨ocI_Halt, odI_Halt, slI_Halt, kVI_Halt, dcI_Halt, pmI_Halt, anI_Halt, cdI_Halt, ctI_Halt, lI_Halt, cI_Halt, kI_Halt⟩ := DH.defN c.t.d 50 (d := d50) rfl rfl
  exact DH.law0 (all_mk KX G hmg
    (of_decide_eq_true (DH.ex_at c.more 0 (f := t0) rfl))
    (of_decide_eq_true (DH.ex_at c.more 1 (f := t1) rfl))
    (of_decide_eq_true (DH.ex_at c.more 2 (f := t2) rfl))
    (of_decide_eq_true (DH.ex_at c.more 3 (f := t3) rfl))
    (l1)
    (c1)
    (k1)
    (of_decide_eq_true (DH.ex_at c.more 4 (f := t4) rfl))
    (l2)
    (c2)
    (k2)
    (of_decide_eq_true (DH.ex_at c.more 5 (f := t5) rfl))
    (l3)
    (c3)
    (k3)
    (of_decide_eq_true (DH.ex_at c.more 6 (f := t6) rfl))
    (l4)
    (c4)
    (k4)
    (of_decide_eq_true (DH.ex_at c.more 7 (f := t7) rfl))
    (l5)
    (c5)
    (k5)
    (of_decide_eq_true (DH.ex_at c.more 8 (f := t8) rfl))
    (l6)
    (c6)
    (k6)
    (of_decide_eq_true (DH.ex_at c.more 9 (f := t9) rfl))
    (l7)
    (c7)
    (k7)
    (of_decide_eq_true (DH.ex_at c.more 10 (f := t10) rfl))
    (l8)
    (c8)
    (k8)
    (of_decide_eq_true (DH.ex_at c.more 11 (f := t11) rfl))
    (l9)
    (c9)
    (k9)
    (of_decide_eq_true (DH.ex_at c.more 12 (f := t12) rfl))
    (l10)
    (c10)
    (k10)
    (of_decide_eq_true (DH.ex_at c.more 13 (f := t13) rfl))
    (l11)
    (c11)
    (k11)
    (of_decide_eq_true (DH.ex_at c.more 14 (f := t14) rfl))
    (l12)
    (c12)
    (k12)
    (of_decide_eq_true (DH.ex_at c.more 15 (f := t15) rfl))
    (l13)
    (c13)
    (k13)
    (w13)
    (of_decide_eq_true (DH.ex_at c.more 16 (f := t16) rfl))
    (l14)
    (c14)
    (k14)
    (of_decide_eq_true (DH.ex_at c.more 17 (f := t17) rfl))
    (l15)
    (c15)
    (k15)
    (of_decide_eq_true (DH.ex_at c.more 18 (f := t18) rfl))
    (l16)
    (c16)
    (k16)
    (of_decide_eq_true (DH.ex_at c.more 19 (f := t19) rfl))
    (l17)
    (c17)
    (k17)
    (of_decide_eq_true (DH.ex_at c.more 20 (f := t20) rfl))
    (l18)
    (c18)
    (k18)
    (of_decide_eq_true (DH.ex_at c.more 21 (f := t21) rfl))
    (l19)
    (c19)
    (k19)
    (of_decide_eq_true (DH.ex_at c.more 22 (f := t22) rfl))
    (l20)
    (c20)
    (k20)
    (of_decide_eq_true (DH.ex_at c.more 23 (f := t23) rfl))
    (l21)
    (c21)
    (k21)
    (of_decide_eq_true (DH.ex_at c.more 24 (f := t24) rfl))
    (l22)
    (c22)
    (k22)
    (of_decide_eq_true (DH.ex_at c.more 25 (f := t25) rfl))
    (l23)
    (c23)
    (k23)
    (of_decide_eq_true (DH.ex_at c.more 26 (f := t26) rfl))
    (l24)
    (c24)
    (k24)
    (of_decide_eq_true (DH.ex_at c.more 27 (f := t27) rfl))
    (l25)
    (c25)
    (k25)
    (of_decide_eq_true (DH.ex_at c.more 28 (f := t28) rfl))
    (l26)
    (c26)
    (k26)
    (of_decide_eq_true (DH.ex_at c.more 29 (f := t29) rfl))
    (l27)
    (c27)
    (k27)
    (of_decide_eq_true (DH.ex_at c.more 30 (f := t30) rfl))
    (l28)
    (c28)
    (k28)
    (of_decide_eq_true (DH.ex_at c.more 31 (f := t31) rfl))
    (l29)
    (c29)
    (k29)
    (of_decide_eq_true (DH.ex_at c.more 32 (f := t32) rfl))
    (l30)
    (c30)
    (k30)
    (of_decide_eq_true (DH.ex_at c.more 33 (f := t33) rfl))
    (l31)
    (c31)
    (k31)
    (of_decide_eq_true (DH.ex_at c.more 34 (f := t34) rfl))
    (l32)
    (c32)
    (k32)
    (of_decide_eq_true (DH.ex_at c.more 35 (f := t35) rfl))
    (l33)
    (c33)
    (k33)
    (of_decide_eq_true (DH.ex_at c.more 36 (f := t36) rfl))
    (l34)
    (c34)
    (k34)
    (of_decide_eq_true (DH.ex_at c.more 37 (f := t37) rfl))
    (l35)
    (c35)
    (k35)
    (of_decide_eq_true (DH.ex_at c.more 38 (f := t38) rfl))
    (l36)
    (c36)
    (k36)
    (of_decide_eq_true (DH.ex_at c.more 39 (f := t39) rfl))
    (l37)
    (c37)
    (k37)
    (of_decide_eq_true (DH.ex_at c.more 40 (f := t40) rfl))
    (l38)
    (c38)
    (k38)
    (of_decide_eq_true (DH.ex_at c.more 41 (f := t41) rfl))
    (l39)
    (c39)
    (k39)
    (of_decide_eq_true (DH.ex_at c.more 42 (f := t42) rfl))
    (l40)
    (c40)
    (k40)
    (of_decide_eq_true (DH.ex_at c.more 43 (f := t43) rfl))
    (of_decide_eq_true (DH.ex_at c.more 44 (f := t44) rfl))
    (l41)
    (c41)
    (k41)
    (of_decide_eq_true (DH.ex_at c.more 45 (f := t45) rfl))
    (of_decide_eq_true (DH.ex_at c.more 46 (f := t46) rfl))
    (l42)
    (c42)
    (k42)
    (of_decide_eq_true (DH.ex_at c.more 47 (f := t47) rfl))
    (of_decide_eq_true (DH.ex_at c.more 48 (f := t48) rfl))
    (l43)
    (c43)
    (k43)
    (of_decide_eq_true (DH.ex_at c.more 49 (f := t49) rfl))
    (of_decide_eq_true (DH.ex_at c.more 50 (f := t50) rfl))
    (l44)
    (c44)
    (k44)
    (of_decide_eq_true (DH.ex_at c.more 51 (f := t51) rfl))
    (of_decide_eq_true (DH.ex_at c.more 52 (f := t52) rfl))
    (l45)
    (c45)
    (k45)
    (of_decide_eq_true (DH.ex_at c.more 53 (f := t53) rfl))
    (of_decide_eq_true (DH.ex_at c.more 54 (f := t54) rfl))
    (l46)
    (c46)
    (k46)
    (of_decide_eq_true (DH.ex_at c.more 55 (f := t55) rfl))
    (of_decide_eq_true (DH.ex_at c.more 56 (f := t56) rfl))
    (l47)
    (c47)
    (k47)
    (of_decide_eq_true (DH.ex_at c.more 57 (f := t57) rfl))
    (of_decide_eq_true (DH.ex_at c.more 58 (f := t58) rfl))
    (l48)
    (c48)
    (k48)
    (of_decide_eq_true (DH.ex_at c.more 59 (f := t59) rfl))
    (of_decide_eq_true (DH.ex_at c.more 60 (f := t60) rfl))
    (l49)
    (c49)
    (k49)
    (of_decide_eq_true (DH.ex_at c.more 61 (f := t61) rfl))
    (of_decide_eq_true (DH.ex_at c.more 62 (f := t62) rfl))
    (l50)
    (c50)
    (k50)
    (of_decide_eq_true (DH.ex_at c.more 63 (f := t63) rfl))
    (of_decide_eq_true (DH.ex_at c.more 64 (f := t64) rfl))
    (of_decide_eq_true (DH.ex_at c.more 65 (f := t65) rfl))
    (of_decide_eq_true (DH.ex_at c.more 66 (f := t66) rfl))
    (of_decide_eq_true (DH.ex_at c.more 67 (f := t67) rfl))
    (of_decide_eq_true (DH.ex_at c.more 68 (f := t68) rfl))
    (of_decide_eq_true (DH.ex_at c.more 69 (f := t69) rfl))
    (of_decide_eq_true (DH.ex_at c.more 70 (f := t70) rfl))
    (of_decide_eq_true (DH.ex_at c.more 71 (f := t71) rfl))
    (of_decide_eq_true (DH.ex_at c.more 72 (f := t72) rfl))
    (of_decide_eq_true (DH.ex_at c.more 73 (f := t73) rfl))
    (of_decide_eq_true (DH.ex_at c.more 74 (f := t74) rfl))
    (of_decide_eq_true (DH.ex_at c.more 75 (f := t75) rfl))
    (g_MOST_WEIGHT)
    (g_MOST_STEPS)
    (of_decide_eq_true (DH.ex_at c.more 78 (f := t78) rfl))
    (DH.dic_ok (c.t.tab 0 rfl) (DH.ex_at c.more 79 (f := t79) rfl) rfl)
    (of_decide_eq_true (DH.ex_at c.more 80 (f := t80) rfl))
    (of_decide_eq_true (DH.ex_at c.more 81 (f := t81) rfl))
    (ci_Quotient)
    (of_decide_eq_true (DH.ex_at c.more 83 (f := t83) rfl))
    (of_decide_eq_true (DH.ex_at c.more 84 (f := t84) rfl))
    (of_decide_eq_true (DH.ex_at c.more 85 (f := t85) rfl))
    (of_decide_eq_true (DH.ex_at c.more 86 (f := t86) rfl))
    (of_decide_eq_true (DH.ex_at c.more 87 (f := t87) rfl))
    (of_decide_eq_true (DH.ex_at c.more 88 (f := t88) rfl))
    (of_decide_eq_true (DH.ex_at c.more 89 (f := t89) rfl))
    (of_decide_eq_true (DH.ex_at c.more 90 (f := t90) rfl))
    (of_decide_eq_true (DH.ex_at c.more 91 (f := t91) rfl))
    (of_decide_eq_true (DH.ex_at c.more 92 (f := t92) rfl))
    (of_decide_eq_true (DH.ex_at c.more 93 (f := t93) rfl))
    (of_decide_eq_true (DH.ex_at c.more 94 (f := t94) rfl))
    (of_decide_eq_true (DH.ex_at c.more 95 (f := t95) rfl))
    (of_decide_eq_true (DH.ex_at c.more 96 (f := t96) rfl))
    (of_decide_eq_true (DH.ex_at c.more 97 (f := t97) rfl))
    (of_decide_eq_true (DH.ex_at c.more 98 (f := t98) rfl))
    (of_decide_eq_true (DH.ex_at c.more 99 (f := t99) rfl))
    (of_decide_eq_true (DH.ex_at c.more 100 (f := t100) rfl))
    (of_decide_eq_true (DH.ex_at c.more 101 (f := t101) rfl))
    (of_decide_eq_true (DH.ex_at c.more 102 (f := t102) rfl))
    (o_Halt)
    (r_Halt)
    (of_decide_eq_true (DH.ex_at c.more 104 (f := t104) rfl))
    (of_decide_eq_true (DH.ex_at c.more 105 (f := t105) rfl))
    (of_decide_eq_true (DH.ex_at c.more 106 (f := t106) rfl))
    (of_decide_eq_true (DH.ex_at c.more 107 (f := t107) rfl))
    (of_decide_eq_true (DH.ex_at c.more 108 (f := t108) rfl))
    (of_decide_eq_true (DH.ex_at c.more 109 (f := t109) rfl))
    (of_decide_eq_true (DH.ex_at c.more 110 (f := t110) rfl))
    (ci_Halt)
    (of_decide_eq_true (DH.ex_at c.more 112 (f := t112) rfl))
    (of_decide_eq_true (DH.ex_at c.more 113 (f := t113) rfl))
    (of_decide_eq_true (DH.ex_at c.more 114 (f := t114) rfl))
    (lI_Halt)
    (cI_Halt)
    (kI_Halt)
    (of_decide_eq_true (DH.ex_at c.more 115 (f := t115) rfl))) (fun ns => ⟨ns, rfl, rfl, fun _ => rfl⟩)
end T27
open PySem PySem.W PySem.Calls PyProof.Rows
set_option maxHeartbeats 0 in
theorem PySem.Challenge.cw_nearspokes_k27_whole_runs_holds : PySem.Challenge.rw_nearspokes_k27_whole_runs.Holds := by
  w_on; o_law
  refine HandSHeadRun.head_imp (r := OpenLaw.row PySem.Challenge.rw_nearspokes_k27_whole_runs) (q := view (OpenLaw.row PySem.Challenge.rw_nearspokes_k27_whole_runs).prog [0, 95]) (H := T27.hk) (ob := T27.ob) (M := 7592) (loose := T27.nms) (d := HandSHeadRun.topDef (OpenLaw.row PySem.Challenge.rw_nearspokes_k27_whole_runs).prog 95) (kwd := []) T27.ob_eq
    T27.run (by kernel_rfl) (by kernel_rfl) (by kernel_rfl) (by rfl) (by first | assumption | decide +kernel) (by decide +kernel) ⟨rfl, rfl, rfl, rfl, rfl, by decide +kernel⟩ ?hw ?hc
  case hw => w_witness2
  case hc =>
    refine LamX.walk_ofTsE (l := PySem.Challenge.rw_nearspokes_k27_whole_runs) (n := 63) (k := 70) (x := "_law_script") (CX := fun w => L2.CX PySem.Challenge.rw_nearspokes_k27_whole_runs.prog w) rfl (by decide) (by kernel_rfl) ⟨rfl, by decide, by decide⟩ ?F (fun _ _ _ _ _ z => by obtain ⟨_, _, _, _, _, _, _, _, _, _, _, _, z⟩ := z; exact z)
    intro w mg fa h Y G hmg0
    obtain ⟨K, KX, c⟩ := Y
    have hmg : mg ("law" : PySem.Str) = some (.ref fa) := by
      have e : (HandSHeadRun.topDef (OpenLaw.row PySem.Challenge.rw_nearspokes_k27_whole_runs).prog 95).name = ("law" : PySem.Str) := by kernel_rfl
      rw [← e]
      exact hmg0
    exact ⟨K, KX, T27.fin KX G hmg c⟩

