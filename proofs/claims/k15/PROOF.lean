import PyProof.Rows.All
import Wide.All
import OpenK.AllK
import Wide.FinOn
import HandS.ForMost
import HandS.ExcInit
import HandS.Head0
import HandS.Head1
import HandS.Head2
import HandS.Head3
import HandS.HeadHook1
import HandS.HeadHook2
import HandS.HeadHook3
import HandS.HeadHook4
import HandS.HeadWalk
import PySem.Challenge.RW_nearspokes_k15_square_roots
import HandS.Exc
import HandS.TryOnly
import HandS.ExcOwn
import HandS.WordsExc
import HandS.CallSlots
import HandS.TryMany
import HandS.EndBits
import HandS.Wide
import HandS.Gcd
import HandS.Zip
import HandS.IsInst
import HandS.Defaults
import HandS.Flow
import HandS.FStr
import HandS.TupAny
import HandS.ExcIs
import HandS.ExcField
import HandS.Lambda
import HandS.Nested
import KE.KDflt
import HandS.HotCalls
import HandS.TupMul
import HandS.More
import HandS.Style
import HandS.New0
import HandS.EndTab
import HandS.Dict
import PyProof.TupleOfStr
import HandS.Iter
import HandS.Conv
import HandS.Finally
import HandS.Property
import HandS.ClsMeth
import HandS.Star
import HandS.DictComp
import KE.KExcInit
import HandS.ExcValue
import HandS.CallLocal
import KE.GoesMore
import HandS.Deep
import HandS.OwnEq
import HandS.RaiseMore
import HandS.StrMore
import KE.KxField
import HandS.ExcCtx
import HandS.SuiteRaise
import HandS.RaiseFrom
import HandS.ExcInitHot
import HandS.DictTup
import HandS.SortRule
import HandS.Rev
import HandS.ListItems
import KE.KDictCopyH
import HandS.TupLen
import HandS.DictEq
import HandS.Small
import PyProof.Rows.Range3
import HandS.SortKw
import HandS.Strs
import KE.DatumOrd
import HandS.List
import HandS.Records
set_option Elab.async false
set_option linter.all false
set_option maxRecDepth 100000
set_option maxHeartbeats 4000000
namespace DL
open PySem L2
def sAt (i : Nat) (l : List Stmt) : Stmt := l.getD i (.Pass ⟨0, 0, 0, 0⟩)
def sBody : Stmt → List Stmt
  | .For _ _ b _ _ => b
  | .If _ b _ _ => b
  | .While _ b _ _ => b
  | .ClassDef _ _ _ b _ _ _ _ _ _ _ => b
  | _ => []
end DL
namespace DH
open PySem PySem.Spec PyProof.Rows L2
abbrev Frag := PySem.W.Frag
def exAll (l : List (Frag → Bool)) (K : Frag) : Bool := l.all fun f => f K
theorem ex_at {l : List (Frag → Bool)} {K : Frag} (h : exAll l K = true) (i : Nat) {f : Frag → Bool} (e : l[i]? = some f) : f K = true := List.all_eq_true.mp h f (List.mem_of_getElem? e)
def obsL (as : List Addr) (fn : List He.DefD) (ts : List He.Tab) (tf : List He.Defn) (ex : Frag → Bool) (g : Addr → Option Obj) : He.AlX := (He.obsT [] fn ts (He.frT g as), ex (He.frT g as) && He.tabsB g tf (He.frT g as))
theorem saysL {as : List Addr} {fn : List He.DefD} {ts : List He.Tab} {tf : List He.Defn} {ex : Frag → Bool} {w : World} {h : Heap} (e : obsL as fn ts tf ex h.get? = He.valX fn ts w) : He.SaysX [] fn ts tf ex w h (He.frT h.get? as) := by
  have e1 : He.obsT [] fn ts (He.frT h.get? as) = He.valT fn ts w := congrArg (fun z : He.AlX => z.1) e
  have e2 : (ex (He.frT h.get? as) && He.tabsB h.get? tf (He.frT h.get? as)) = true := congrArg (fun z : He.AlX => z.2) e
  obtain ⟨e3, e4⟩ := He.ba e2
  have key : ∀ p ∈ tf, PySem.W.codeHdIn (He.frT h.get? as) (He.cT (He.frT h.get? as) p).1 (He.cT (He.frT h.get? as) p).2 = true ∧ ∃ o, h.get? (He.cT (He.frT h.get? as) p).2 = some o ∧ He.emptyTab o = true := fun p hp => by
    obtain ⟨k1, k2⟩ := He.ba (List.all_eq_true.mp e4 p hp)
    refine ⟨k1, ?_⟩
    split at k2
    · rename_i o ho
      exact ⟨o, ho, k2⟩
    · cases k2
  refine ⟨e1, e3, fun p hp => (key p hp).1, fun p hp => ?_, fun p hp => ?_⟩
  · obtain ⟨_, o, ho, he⟩ := key p hp
    exact He.frT_none ho he
  · obtain ⟨_, o, ho, he⟩ := key p hp
    rw [ho, He.emptyTab_eq he]
end DH
namespace DH
open PySem PySem.W PySem.TablesWhole
theorem whole_of {p : Program} (h1 : p.modules = []) (h2 : p.parses = []) (h3 : p.harvested = []) (h4 : noTwice p.main.scope = true) (h5 : wSs gather p.main.scope ⟨p.main.scope, [], [], [], none⟩ p.main.scope p.main.body = [])
    (h6 : wSs holds p.main.scope ⟨p.main.scope, [], [], [], none⟩ p.main.scope p.main.body = true) : p.tablesWhole = true := by
  have e : wModule holds p.main = true := by
    unfold wModule
    rw [h5]
    show (true && (noTwice p.main.scope && (wSs holds p.main.scope ⟨p.main.scope, [], [], [], none⟩ p.main.scope p.main.body && true))) = true
    rw [h4, h6]
    rfl
  unfold Program.tablesWhole wProgram
  rw [h1, h2, h3, e]
  rfl
theorem looks_of {p : Program} {st : Bool} {bare : List Str} (h1 : sreFenced p.main = true) (h2 : ((moduleNames p.main.body).isEmpty || lookedIntoSs (moduleNames p.main.body) p.main.body) = true) (h3 : namesResolve p = true) (h4 : (p.boundNames.all fun n => !worldNames.contains n) = true)
    (h5 : (!(importedModules p.main.body).all cThrough.contains) = st) (h6 : (["vars", "dir", "locals"] : List Str).filter (readsOut p p.main.body) = bare) (h7 : noRoadLSs { strict := st, foot := none, bare := bare } p.main.body = true) (h8 : (namesMeet p p.main.body fun _ n => attrL n) = true) : looksOpen p = true := by
  unfold looksOpen
  rw [h1, h2, h3, h4, h5, h6, h7, h8]
  rfl
theorem out3 {f : Str → Bool} (h1 : f "vars" = false) (h2 : f "dir" = false) (h3 : f "locals" = false) : (["vars", "dir", "locals"] : List Str).filter f = [] := by
  rw [List.filter_cons_of_neg (by rw [h1]; exact Bool.false_ne_true), List.filter_cons_of_neg (by rw [h2]; exact Bool.false_ne_true), List.filter_cons_of_neg (by rw [h3]; exact Bool.false_ne_true)]
  rfl
end DH
noncomputable section
namespace DS
open PySem PySem.W PySem.Calls PyProof.Rows HandSHeadRun
section
variable (st : SharedT → Thread → Option (SharedT × Thread)) (n0 : Nat) (ann : Option Value)
/-- a statement's or block's run -/
def segF : Nat → SharedT → Thread → Option (Flow × SharedT × Code × Pos)
  | 0, _, _ => none
  | m + 1, s, t => match endAt 1 t with
    | some f => some (f, s, t.code, t.pos)
    | none => match stepOk n0 ann t with
      | false => none
      | true => match st s t with
        | some (s', t') => frS s' fun s' => segF m s' t'
        | none => none
/-- so many steps of the top -/
def goK : Nat → SharedT → Thread → Option (SharedT × Thread)
  | 0, s, t => some (s, t)
  | m + 1, s, t => match through t with
    | true => none
    | false => match stepOk n0 ann t with
      | false => none
      | true => match st s t with
        | some (s', t') => frS s' fun s' => goK m s' t'
        | none => none
end
theorem segF_ok {tb : String → Option Builtin} {p : Program} {w : World} {n0 : Nat} {ann : Option Value} : ∀ {m : Nat} {s s' : SharedT} {t : Thread} {f : Flow} {c : Code} {q : Pos}, segF (stepT (denote tb) p w) n0 ann m s t = some (f, s', c, q) → segRun tb p w n0 ann 1 m s.abs t = some (f, s'.abs, c, q)
  | 0, _, _, _, _, _, _, h => by cases h
  | m + 1, s, s', t, f, c, q, h => by
    unfold segF at h
    unfold segRun
    cases he : endAt 1 t with
    | some f' =>
      rw [he] at h
      cases h
      rfl
    | none =>
      rw [he] at h
      cases hk : stepOk n0 ann t with
      | false => rw [hk] at h; cases h
      | true =>
        rw [hk] at h
        have h2 : (match stepT (denote tb) p w s t with
          | some (s', t') => frS s' fun s' => segF (stepT (denote tb) p w) n0 ann m s' t'
          | none => none) = some (f, s', c, q) := h
        cases hs : stepT (denote tb) p w s t with
        | none => rw [hs] at h2; cases h2
        | some r =>
          obtain ⟨s2, t2⟩ := r
          rw [hs] at h2
          have h3 : (frS s2 fun s' => segF (stepT (denote tb) p w) n0 ann m s' t2) = some (f, s', c, q) := h2
          rw [frS_eq] at h3
          have z := segF_ok h3
          show (match step (denote tb) p w s.abs t with
            | .go s' t' => segRun tb p w n0 ann 1 m s' t'
            | .halt _ _ => none) = _
          rw [stepT_spec hs]
          exact z
theorem goK_ok {tb : String → Option Builtin} {p : Program} {w : World} {n0 : Nat} {ann : Option Value} : ∀ {m : Nat} {s s' : SharedT} {t t' : Thread}, goK (stepT (denote tb) p w) n0 ann m s t = some (s', t') → topGo tb p w n0 ann m s.abs t = some (s'.abs, t')
  | 0, _, _, _, _, h => by cases h; rfl
  | m + 1, s, s', t, t', h => by
    unfold goK at h
    unfold topGo
    cases ht : through t with
    | true => rw [ht] at h; cases h
    | false =>
      rw [ht] at h
      cases hk : stepOk n0 ann t with
      | false => rw [hk] at h; cases h
      | true =>
        rw [hk] at h
        have h2 : (match stepT (denote tb) p w s t with
          | some (s', t') => frS s' fun s' => goK (stepT (denote tb) p w) n0 ann m s' t'
          | none => none) = some (s', t') := h
        cases hs : stepT (denote tb) p w s t with
        | none => rw [hs] at h2; cases h2
        | some r =>
          obtain ⟨s2, t2⟩ := r
          rw [hs] at h2
          have h3 : (frS s2 fun s' => goK (stepT (denote tb) p w) n0 ann m s' t2) = some (s', t') := h2
          rw [frS_eq] at h3
          have z := goK_ok h3
          show (match step (denote tb) p w s.abs t with
            | .go s' t' => topGo tb p w n0 ann m s' t'
            | .halt _ _ => none) = _
          rw [stepT_spec hs]
          exact z
/-- the imports, the fences -/
def openF (st : Program → SharedT → Thread → Option (SharedT × Thread)) (fence : Program → Shared → Option Shared) (M : Nat) (p : Program) : Option (SharedT × Option Value) := match impF (st (opening p)) M (startT (opening p)) (start (opening p)).2 with
  | some s => (match fence p s.abs with
    | some s0 => (match s0.heap.isNs mainGlobals && s0.gens.size == 0 with
      | true => (match treeOf s0 with
        | some x => some (x, s0.heap.nsMap mainGlobals "__annotations__")
        | none => none)
      | false => none)
    | none => none)
  | none => none
theorem openF_ok {M : Nat} {p : Program} {w : World} {x : SharedT} {ann : Option Value} (h : openF (fun q => stepT (denote treeTable) q w) fenceModules? M p = some (x, ann)) :
    fencedOpening treeTable p w M = some x.abs ∧ (x.abs.heap.isNs mainGlobals && x.abs.gens.size == 0) = true ∧ x.abs.heap.objs.size = x.n ∧ x.abs.heap.nsMap mainGlobals "__annotations__" = ann := by
  unfold openF at h
  cases e1 : impF (stepT (denote treeTable) (opening p) w) M (startT (opening p)) (start (opening p)).2 with
  | none => rw [e1] at h; cases h
  | some s =>
    rw [e1] at h
    dsimp only at h
    have a1 := impF_ok e1
    rw [startT_eq] at a1
    cases e2 : fenceModules? p s.abs with
    | none => rw [e2] at h; cases h
    | some z =>
      rw [e2] at h
      dsimp only at h
      cases e3 : z.heap.isNs mainGlobals && z.gens.size == 0 with
      | false => rw [e3] at h; cases h
      | true =>
        rw [e3] at h
        dsimp only at h
        cases e4 : treeOf z with
        | none => rw [e4] at h; cases h
        | some y =>
          rw [e4] at h
          cases h
          obtain ⟨ex, en⟩ := treeOf_eq e4
          rw [ex]
          refine ⟨?_, e3, en, rfl⟩
          unfold fencedOpening
          rw [a1]
          exact e2
/-- the twins -/
def execsQ : List Stmt → Env → Sem Flow := PySem.W.Fast.tw12563942051412417395
theorem execsQ_eq : @PySem.execs = execsQ := PySem.W.Fast.te12563942051412417395
def blockQ : List Stmt → Env → Sem Unit := PySem.W.Fast.tw1066825118222455980
theorem blockQ_eq : @PySem.blockStart = blockQ := PySem.W.Fast.te1066825118222455980
abbrev piecesQ (l : List Stmt) (env : Env) (c : Code) (p : Pos) (B : List Frame) : Thread := ⟨(execsQ l env).wrap doneF deadEnd id id, c, p, B⟩
abbrev blockOfQ (b : List Stmt) (env : Env) (c : Code) (p : Pos) (B : List Frame) : Thread := ⟨(blockQ b env).wrap (fun _ => doneF .next) deadEnd id id, c, p, B⟩
theorem seg_of {p : Program} {w : World} {n0 : Nat} {ann : Option Value} {m : Nat} {s s' : SharedT} {l : List Stmt} {env : Env} {c c' : Code} {q q' : Pos} {B : List Frame} {f : Flow} (h : segF (stepQ (denQ tabQ) p w) n0 ann m s (piecesQ l env c q B) = some (f, s', c', q')) :
    segRun treeTable p w n0 ann 1 m s.abs (piecesOf l env c q B) = some (f, s'.abs, c', q') := by
  apply segF_ok
  rw [stepQ_eq, denQ_eq, tabQ_eq]
  unfold piecesOf
  rw [execsQ_eq]
  exact h
theorem blk_of {p : Program} {w : World} {n0 : Nat} {ann : Option Value} {m : Nat} {s s' : SharedT} {l : List Stmt} {env : Env} {c c' : Code} {q q' : Pos} {B : List Frame} {f : Flow} (h : segF (stepQ (denQ tabQ) p w) n0 ann m s (blockOfQ l env c q B) = some (f, s', c', q')) :
    segRun treeTable p w n0 ann 1 m s.abs (blockOf l env c q B) = some (f, s'.abs, c', q') := by
  apply segF_ok
  rw [stepQ_eq, denQ_eq, tabQ_eq]
  unfold blockOf
  rw [blockQ_eq]
  exact h
theorem pre_of {p : Program} {w : World} {n0 : Nat} {ann : Option Value} {m : Nat} {s s' : SharedT} {t : Thread} {c c' : Code} {q : Pos} {B : List Frame} (h : goK (stepQ (denQ tabQ) p w) n0 ann m s t = some (s', ⟨denQ tabQ c, c', q, B⟩)) :
    topGo treeTable p w n0 ann m s.abs t = some (s'.abs, ⟨denote treeTable c, c', q, B⟩) := by
  apply goK_ok
  rw [stepQ_eq, denQ_eq, tabQ_eq]
  exact h
theorem fin_of {p : Program} {w : World} {n0 : Nat} {ann : Option Value} {m : Nat} {s s' : SharedT} {t : Thread} (h : goF (stepQ (denQ tabQ) p w) n0 ann m s t = some s') :
    topRun treeTable p w n0 ann m s.abs t = some s'.abs := by
  apply goF_ok
  rw [stepQ_eq, denQ_eq, tabQ_eq]
  exact h
theorem opn_of {p : Program} {w : World} {M : Nat} {x : SharedT} {ann : Option Value} (h : openF (fun q => stepQ (denQ tabQ) q w) fenceQ M p = some (x, ann)) :
    openF (fun q => stepT (denote treeTable) q w) fenceModules? M p = some (x, ann) := by
  rw [stepQ_eq, denQ_eq, tabQ_eq, fenceQ_eq]
  exact h
/-- the run at a world: the state ahead of the top, the state behind it, what is asked of them -/
def Run (r : OpenRow) (q : Program) (H : Hook) (ob : SharedT → H.α) (N : Nat) (loose : List PySem.Str) (w : World) : Prop :=
  ∃ (x s1 : SharedT), fencedOpening treeTable r.prog w N = some x.abs ∧ (x.abs.heap.isNs mainGlobals && x.abs.gens.size == 0) = true ∧
    topRun treeTable r.prog w x.abs.heap.objs.size (x.abs.heap.nsMap mainGlobals "__annotations__") N x.abs (topStub r.prog) = some s1.abs ∧
    (looksF r.prog x.abs.heap s1.abs, seenQ q loose (importedModules r.prog.main.body) (fun s => xlAt q [] s && recOk r.toRowW.records s) s1.abs, ob s1) = (true, openGood q loose, H.val w)
theorem left_seg {r : OpenRow} {q : Program} {H : Hook} {ob : SharedT → H.α} {N : Nat} {loose : List PySem.Str} (ho : ∀ s : SharedT, ob s = H.obs s.abs) (run : ∀ w, Run r q H ob N loose w) :
    LeftO r.prog q loose (fun s => xlAt q [] s && recOk r.toRowW.records s) H.obs H.val N true := fun w => by
  obtain ⟨x, s1, a, b, c, d⟩ := run w
  obtain ⟨l1, l23⟩ := Prod.mk.inj d
  obtain ⟨l2, l3⟩ := Prod.mk.inj l23
  have l1' : (staticsOk (importedModules r.prog.main.body) x.abs.heap s1.abs.heap && namesBound r.prog s1.abs.heap && gensDone s1.abs && laidKept x.abs.heap s1.abs.heap) = true := l1
  have t : topFrom treeTable r.prog w N x.abs = some s1.abs := by
    unfold topFrom
    rw [b]
    show (topRun treeTable r.prog w x.abs.heap.objs.size (x.abs.heap.nsMap mainGlobals "__annotations__") N x.abs (topStub r.prog)).bind _ = _
    rw [c]
    show (match staticsOk (importedModules r.prog.main.body) x.abs.heap s1.abs.heap && namesBound r.prog s1.abs.heap && gensDone s1.abs && laidKept x.abs.heap s1.abs.heap with | true => some s1.abs | false => none) = _
    rw [l1']
  unfold openEnds
  rw [a]
  show (topFrom treeTable r.prog w N x.abs).map _ = _
  rw [t]
  rw [ho] at l3
  rw [← seenQ_eq] at l2
  exact congrArg some (Prod.ext l2 l3)
theorem head_seg {r : OpenRow} {q : Program} {H : Hook} {ob : SharedT → H.α} {N : Nat} {loose : List PySem.Str} {d : DefRec} {kwd : List (PySem.Str × PySem.Expr)} (ho : ∀ s : SharedT, ob s = H.obs s.abs) (run : ∀ w, Run r q H ob N loose w)
    (hdef : defOf q r.name = some (d, kwd)) (hp : r.prog.theDef r.name = some (d.params, d.body, d.scope)) (hk : kwWritten? d.params.kwonlyargs d.params.kw_defaults = some kwd)
    (hwr : (!r.writes || r.records.isEmpty) = true) (k1 : r.wellSaid = true) (ok : (chainsOk q && opensWell r.prog && (frees r.toRowW && r.within.isEmpty)) = true) (hb : r.prog.bare) (hw : r.toRowW.promised)
    (call : WalkO q loose (XL q []) H.says r.toRowW d kwd fun f vs => PySem.call f vs) : r.Holds :=
  holds_open (r := r) (q := q) (loose := loose) (XP := XL q []) (YP := H.says) (d := d) (kwd := kwd) (left_seg ho run) H.of H.keeps (fun s z => xl_of s (Bool.and_eq_true_iff.mp z).1) XL.keeps hdef hp hk (fun s z => recFacts_of (Bool.and_eq_true_iff.mp z).2) hwr k1 ok hb hw call
def oTup (l : List Value) (n : Nat := 0) : Obj := ⟨.type "tuple", none, .seq l.toArray n, #[]⟩
def oDict (es : List DictEntry) (n : Nat) : Obj := ⟨.type "dict", none, .dict es.toArray n, #[]⟩
def oFld (l : List Value) : Obj := ⟨.none, none, .fields l.toArray, #[]⟩
def oFldT (t : String) (l : List Value) : Obj := ⟨.type t, none, .fields l.toArray, #[]⟩
def en (P : Params) (x : PySem.Str) (t : Tok) (v : Value) : DictEntry := ⟨PyData.keyHash P x, .str x t, v⟩
def insAll : List (Nat × Obj) → BT → BT
  | [], t => t
  | (i, o) :: r, t => insAll r (t.ins i o)
end DS
namespace T15
open PySem L2 DL
def top (i : Nat) : Stmt := PySem.Challenge.pw_nearspokes_k15_square_roots.main.body.getD i (.Pass ⟨0, 0, 0, 0⟩)
abbrev sTrimmed : Stmt := top 8
abbrev sCombined : Stmt := top 9
abbrev sContent : Stmt := top 10
abbrev sPrimitive : Stmt := top 11
abbrev sLightened : Stmt := top 12
abbrev sRemainder : Stmt := top 13
abbrev sCommonList : Stmt := top 14
abbrev sExactList : Stmt := top 15
abbrev sDerived : Stmt := top 16
abbrev sFreeList : Stmt := top 17
abbrev sValueOver : Stmt := top 18
abbrev sIsInteger : Stmt := top 20
abbrev sLowest : Stmt := top 21
abbrev sMinus : Stmt := top 22
abbrev sSign : Stmt := top 23
abbrev sIsLess : Stmt := top 24
abbrev sMiddle : Stmt := top 25
abbrev sRatioText : Stmt := top 26
abbrev sChainOf : Stmt := top 29
abbrev sChanges : Stmt := top 30
abbrev sChangesAt : Stmt := top 31
abbrev sChangesFar : Stmt := top 32
abbrev sCountBetween : Stmt := top 33
abbrev sFarBound : Stmt := top 35
abbrev sIsolated : Stmt := top 36
abbrev sHalved : Stmt := top 37
abbrev sCompareRatio : Stmt := top 39
abbrev sCompareRoots : Stmt := top 40
abbrev sLBag : Stmt := top 42
abbrev sLPull : Stmt := top 43
abbrev sLOf : Stmt := top 44
abbrev sLSame : Stmt := top 45
abbrev sLGcd : Stmt := top 46
abbrev sLLow : Stmt := top 47
abbrev sLSub : Stmt := top 48
abbrev sLSign : Stmt := top 49
abbrev sLOrder : Stmt := top 50
abbrev sLRatioText : Stmt := top 51
abbrev sLTo : Stmt := top 52
abbrev sLFloorRoot : Stmt := top 53
abbrev sLExactRoot : Stmt := top 54
abbrev sLaw : Stmt := top 55
abbrev RR0 : PySem.W.OpenRow := PySem.W.OpenLaw.row PySem.Challenge.rw_nearspokes_k15_square_roots
end T15
namespace T15
open PySem L2 DL
namespace Hd
open PySem PySem.W PySem.Calls PyProof.Rows in
set_option maxHeartbeats 0 in
theorem nres : namesResolve RR0.prog = true := by kernel_rfl
open PySem PySem.W PySem.Calls PyProof.Rows in
set_option maxHeartbeats 0 in
theorem nmA : (namesMeet RR0.prog RR0.prog.main.body fun _ n => attrL n) = true := by kernel_rfl
open PySem PySem.W PySem.Calls PyProof.Rows in
set_option maxHeartbeats 0 in
theorem roV : readsOut RR0.prog RR0.prog.main.body "vars" = false := by kernel_rfl
open PySem PySem.W PySem.Calls PyProof.Rows in
set_option maxHeartbeats 0 in
theorem roD : readsOut RR0.prog RR0.prog.main.body "dir" = false := by kernel_rfl
open PySem PySem.W PySem.Calls PyProof.Rows in
set_option maxHeartbeats 0 in
theorem roL : readsOut RR0.prog RR0.prog.main.body "locals" = false := by kernel_rfl
open PySem PySem.W PySem.Calls PyProof.Rows in
set_option maxHeartbeats 0 in
theorem nr0 : noRoadLSs { strict := false, foot := none, bare := [] } RR0.prog.main.body = true := by kernel_rfl
open PySem PySem.W PySem.Calls PyProof.Rows in
set_option maxHeartbeats 0 in
theorem nrA : noRoadLSs { strict := false, foot := none, bare := [] } RR0.prog.main.body = true := nr0
open PySem PySem.W PySem.Calls PyProof.Rows in
set_option maxHeartbeats 0 in
theorem looks : looksOpen RR0.prog = true := DH.looks_of (by kernel_rfl) (by kernel_rfl) nres (by kernel_rfl) (by kernel_rfl) (DH.out3 roV roD roL) nrA nmA
open PySem PySem.W PySem.Calls PyProof.Rows in
set_option maxHeartbeats 0 in
theorem said : OpenLaw.wellSaid PySem.Challenge.rw_nearspokes_k15_square_roots = true := by
  unfold OpenLaw.wellSaid OpenRow.wellSaid OpenRow.partSaid
  repeat' (with_reducible refine look_both ?_ ?_)
  all_goals first | with_reducible exact looks | decide +kernel
theorem well (h : (PySem.W.OpenLaw.row PySem.Challenge.rw_nearspokes_k15_square_roots).wellSaid = true → PySem.W.OpenRow.Holds (PySem.W.OpenLaw.row PySem.Challenge.rw_nearspokes_k15_square_roots)) : PySem.Challenge.rw_nearspokes_k15_square_roots.Holds := PySem.W.holds_law said h
open PySem PySem.W PySem.Calls PyProof.Rows in
set_option maxHeartbeats 0 in
theorem tw : TablesWhole.wSs TablesWhole.gather RR0.prog.main.scope ⟨RR0.prog.main.scope, [], [], [], none⟩ RR0.prog.main.scope RR0.prog.main.body = [] := by kernel_rfl
open PySem PySem.W PySem.Calls PyProof.Rows in
set_option maxHeartbeats 0 in
theorem ts0 : TablesWhole.wSs TablesWhole.holds RR0.prog.main.scope ⟨RR0.prog.main.scope, [], [], [], none⟩ RR0.prog.main.scope RR0.prog.main.body = true := by kernel_rfl
open PySem PySem.W PySem.Calls PyProof.Rows in
set_option maxHeartbeats 0 in
theorem tsA : TablesWhole.wSs TablesWhole.holds RR0.prog.main.scope ⟨RR0.prog.main.scope, [], [], [], none⟩ RR0.prog.main.scope RR0.prog.main.body = true := ts0
open PySem PySem.W PySem.Calls PyProof.Rows in
set_option maxHeartbeats 0 in
theorem hb : RR0.prog.bare := ⟨rfl, rfl, rfl, rfl, rfl, DH.whole_of rfl rfl rfl (by kernel_rfl) tw tsA⟩
open PySem PySem.W PySem.Calls PyProof.Rows in
set_option maxHeartbeats 0 in
theorem df1 : defOf (PySem.W.view RR0.prog [0, 55]) RR0.name = some (HandSHeadRun.topDef RR0.prog 55, []) := by kernel_rfl
open PySem PySem.W PySem.Calls PyProof.Rows in
set_option maxHeartbeats 0 in
theorem df2 : RR0.prog.theDef RR0.name = some ((HandSHeadRun.topDef RR0.prog 55).params, (HandSHeadRun.topDef RR0.prog 55).body, (HandSHeadRun.topDef RR0.prog 55).scope) := by kernel_rfl
open PySem PySem.W PySem.Calls PyProof.Rows in
set_option maxHeartbeats 0 in
theorem okA : chainsOk (PySem.W.view RR0.prog [0, 55]) = true := by kernel_rfl
open PySem PySem.W PySem.Calls PyProof.Rows in
set_option maxHeartbeats 0 in
theorem okB : opensWell RR0.prog = true := by kernel_rfl
open PySem PySem.W PySem.Calls PyProof.Rows in
set_option maxHeartbeats 0 in
theorem okC : (frees RR0.toRowW && RR0.within.isEmpty) = true := by kernel_rfl
end Hd
end T15
namespace T15
open PySem L2 DL
namespace Seg
section
open PySem.W HandSHeadRun DS
def vi (n : Int) : Value := .int n 0
def vc (t : Tok) : Value := .str "/claim/cut.py" t
def oCd (l : List Value) : Obj := oFldT "code" l
def vr (a : Addr) : Value := .ref a
def oC (n : PySem.Str) (a : Tok) (q : PySem.Str) (b c : Tok) (l i j k m : Int) (r : Addr) (o : Bool) (s : Addr) (w x y z : Value) (u : Int) (d : Tok) : Obj := oCd [.str n a, .str q b, vc c, vi l, vi i, vi j, vi k, vi m, .ref r, .bool o, vi 370, .ref s, w, x, y, z, vi u, vi l, vc d]
def oFn0 (n q : PySem.Str) (s : Stmt) : Obj := ⟨.none, none, (.func ⟨n, q, defArgs s, .stmts (defBody s), defScope s, 0, [], .none, .none, .none, .none, none, .none, .none, 0⟩), [].toArray⟩
def oFn3 (n q : PySem.Str) (s : Stmt) (m : PySem.Str) (t : Tok) (c : Addr) : Obj := ⟨(.type "function"), none, (.func ⟨n, q, defArgs s, .stmts (defBody s), defScope s, 3, [], .none, .none, .none, (.str m t), none, (.ref c), .none, 0⟩), [].toArray⟩
def sts : Nat → List PySem.Str → List Value
  | _, [] => []
  | t, s :: r => .str s t :: sts (t + 1) r
def nu : Nat → List Obj → List (Nat × Obj)
  | _, [] => []
  | n, x :: r => (n, x) :: nu (n + 1) r
def es (P : Params) : List (PySem.Str × Nat × Nat) → List DictEntry
  | [] => []
  | (s, t, a) :: r => en P s t (vr a) :: es P r
def tS (t : Nat) (v : List PySem.Str) : Obj := oTup (sts t v)
def gA (n : Nat) (x q : PySem.Str) (s : Stmt) (l i j k m : Int) (t : Nat) (v : List PySem.Str) (M : PySem.Str) (Mt : Tok) : List (Nat × Obj) := [(n, oTup []), (n + 1, oFld []), (n + 2, tS (t + 3) v), (n + 3, oTup []), (n + 4, oFn0 x q s), (n + 5, oC x t q (t + 1) (t + 2) l i j k m n true (n + 1) .none (vr (n + 2)) (vr (n + 3)) (vr (n + 4)) (.ofNat (t + 3 + v.length)) (t + 4 + v.length)), (n + 6, oFn3 x q s M Mt (n + 5))]
def gB (n : Nat) (x q : PySem.Str) (s : Stmt) (l i j k m : Int) (t : Nat) (M : PySem.Str) (Mt : Tok) : List (Nat × Obj) := [(n, oTup []), (n + 1, oFld []), (n + 2, oFn0 x q s), (n + 3, oC x t q (t + 1) (t + 2) l i j k m n true (n + 1) .none .none .none (vr (n + 2)) (.ofNat (t + 3)) (t + 4)), (n + 4, oFn3 x q s M Mt (n + 3))]
def bdy : List Stmt := behindTheImports RR0.prog
def env0 : Env := { scope := RR0.prog.main.scope, locals := mainNs, globals := mainNs, cells := [], code := (.ref 41), frame := some 42 }
def cd0 : Code := .body bdy env0
def q0 : Pos := ⟨0, 0, 0, 0⟩
def ann0 : Option Value := (some (.ref 6))
def life0 : Life := { registered := [], finalised := [], alive := [], known := 0, ids := [], orphanDicts := [], counting := false, cnt := #[], zero := [], soft := 0, below := false, collecting := false, loading := false, debug := 0, thresholds := [2000, 10, 10], woke := false, asked := 0, gcEnabled := true, old := [], middle := [], young := 0, intoMiddle := false }
def os0 : OsState := (start (opening RR0.prog)).1.os
def c0 (P : Params) : List DictEntry := [en P "__name__" 165 (.str "__main__" 164),en P "__doc__" 166 .none,en P "__package__" 167 .none,en P "__loader__" 168 (.builtin "__main__.__loader__#opaque"),en P "__spec__" 169 .none] ++ es P [("__annotations__",170,6),("__builtins__",171,4)] ++ [en P "__file__" 173 (vc 172),en P "__cached__" 174 .none,en P "gcd" 369 (.builtin "math.gcd")]
def obX_0 (P : Params) : List (Nat × Obj) := nu 0 [oDict ([en P "__name__" 1 (.str "builtins" 160),en P "__doc__" 2 (.builtin "builtins.__doc__:str#opaque"),en P "__package__" 3 (.builtin "builtins.__package__:str#opaque"),en P "__loader__" 4 (.builtin "builtins.__loader__:shared#opaque"),en P "__spec__" 5 (.builtin "builtins.__spec__#opaque"),en P "__build_class__" 6 (.builtin "__build_class__"),en P (PySem.Str.mk #[95, 95, 105, 109, 112, 111, 114, 116, 95, 95]) 7 (.builtin "__import__"),en P "abs" 8 (.builtin "abs"),en P "all" 9 (.builtin "all"),en P "any" 10 (.builtin "any"),en P "ascii" 11 (.builtin "ascii"),en P "bin" 12 (.builtin "bin"),en P "breakpoint" 13 (.builtin "breakpoint"),en P "callable" 14 (.builtin "callable"),en P "chr" 15 (.builtin "chr"),en P "compile" 16 (.builtin "compile"),en P "delattr" 17 (.builtin "delattr"),en P "dir" 18 (.builtin "dir"),en P "divmod" 19 (.builtin "divmod"),en P "eval" 20 (.builtin "eval"),en P "exec" 21 (.builtin "exec"),en P "format" 22 (.builtin "format"),en P "getattr" 23 (.builtin "getattr"),en P "globals" 24 (.builtin "globals"),en P "hasattr" 25 (.builtin "hasattr"),en P "hash" 26 (.builtin "hash"),en P "hex" 27 (.builtin "hex"),en P "id" 28 (.builtin "id"),en P "input" 29 (.builtin "input"),en P "isinstance" 30 (.builtin "isinstance"),en P "issubclass" 31 (.builtin "issubclass"),en P "iter" 32 (.builtin "iter"),en P "aiter" 33 (.builtin "aiter"),en P "len" 34 (.builtin "len"),en P "locals" 35 (.builtin "locals"),en P "max" 36 (.builtin "max"),en P "min" 37 (.builtin "min"),en P "next" 38 (.builtin "next"),en P "anext" 39 (.builtin "anext"),en P "oct" 40 (.builtin "oct"),en P "ord" 41 (.builtin "ord"),en P "pow" 42 (.builtin "pow"),en P "print" 43 (.builtin "print"),en P "repr" 44 (.builtin "repr"),en P "round" 45 (.builtin "round"),en P "setattr" 46 (.builtin "setattr"),en P "sorted" 47 (.builtin "sorted"),en P "sum" 48 (.builtin "sum"),en P "vars" 49 (.builtin "vars"),en P "None" 50 .none,en P "Ellipsis" 51 .ellipsis,en P "NotImplemented" 52 .notImplemented,en P "False" 53 (.bool false),en P "True" 54 (.bool true),en P "bool" 55 (.type "bool"),en P "memoryview" 56 (.type "memoryview"),en P "bytearray" 57 (.type "bytearray"),en P "bytes" 58 (.type "bytes"),en P "classmethod" 59 (.type "classmethod"),en P "complex" 60 (.type "complex"),en P "dict" 61 (.type "dict"),en P "enumerate" 62 (.type "enumerate"),en P "filter" 63 (.type "filter"),en P "float" 64 (.type "float"),en P "frozenset" 65 (.type "frozenset"),en P "property" 66 (.type "property"),en P "int" 67 (.type "int"),en P "list" 68 (.type "list"),en P "map" 69 (.type "map"),en P "object" 70 (.type "object"),en P "range" 71 (.type "range"),en P "reversed" 72 (.type "reversed"),en P "set" 73 (.type "set"),en P "slice" 74 (.type "slice"),en P "staticmethod" 75 (.type "staticmethod"),en P "str" 76 (.type "str"),en P "super" 77 (.type "super"),en P "tuple" 78 (.type "tuple"),en P "type" 79 (.type "type"),en P "zip" 80 (.type "zip"),en P "__debug__" 81 (.bool true),en P "BaseException" 82 (.type "BaseException"),en P "BaseExceptionGroup" 83 (.type "BaseExceptionGroup"),en P "Exception" 84 (.type "Exception"),en P "GeneratorExit" 85 (.type "GeneratorExit"),en P "KeyboardInterrupt" 86 (.type "KeyboardInterrupt"),en P "SystemExit" 87 (.type "SystemExit"),en P "ArithmeticError" 88 (.type "ArithmeticError"),en P "AssertionError" 89 (.type "AssertionError"),en P "AttributeError" 90 (.type "AttributeError"),en P "BufferError" 91 (.type "BufferError"),en P "EOFError" 92 (.type "EOFError"),en P "ImportError" 93 (.type "ImportError"),en P "LookupError" 94 (.type "LookupError"),en P "MemoryError" 95 (.type "MemoryError"),en P "NameError" 96 (.type "NameError"),en P "OSError" 97 (.type "OSError"),en P "ReferenceError" 98 (.type "ReferenceError"),en P "RuntimeError" 99 (.type "RuntimeError"),en P "StopAsyncIteration" 100 (.type "StopAsyncIteration"),en P "StopIteration" 101 (.type "StopIteration"),en P "SyntaxError" 102 (.type "SyntaxError"),en P "SystemError" 103 (.type "SystemError"),en P "TypeError" 104 (.type "TypeError"),en P "ValueError" 105 (.type "ValueError"),en P "Warning" 106 (.type "Warning"),en P "FloatingPointError" 107 (.type "FloatingPointError"),en P "OverflowError" 108 (.type "OverflowError"),en P "ZeroDivisionError" 109 (.type "ZeroDivisionError"),en P "BytesWarning" 110 (.type "BytesWarning"),en P "DeprecationWarning" 111 (.type "DeprecationWarning"),en P "EncodingWarning" 112 (.type "EncodingWarning"),en P "FutureWarning" 113 (.type "FutureWarning"),en P "ImportWarning" 114 (.type "ImportWarning"),en P "PendingDeprecationWarning" 115 (.type "PendingDeprecationWarning"),en P "ResourceWarning" 116 (.type "ResourceWarning"),en P "RuntimeWarning" 117 (.type "RuntimeWarning"),en P "SyntaxWarning" 118 (.type "SyntaxWarning"),en P "UnicodeWarning" 119 (.type "UnicodeWarning"),en P "UserWarning" 120 (.type "UserWarning"),en P "BlockingIOError" 121 (.type "BlockingIOError"),en P "ChildProcessError" 122 (.type "ChildProcessError"),en P "ConnectionError" 123 (.type "ConnectionError"),en P "FileExistsError" 124 (.type "FileExistsError"),en P "FileNotFoundError" 125 (.type "FileNotFoundError"),en P "InterruptedError" 126 (.type "InterruptedError"),en P "IsADirectoryError" 127 (.type "IsADirectoryError"),en P "NotADirectoryError" 128 (.type "NotADirectoryError"),en P "PermissionError" 129 (.type "PermissionError"),en P "ProcessLookupError" 130 (.type "ProcessLookupError"),en P "TimeoutError" 131 (.type "TimeoutError"),en P "IndentationError" 132 (.type "IndentationError"),en P "_IncompleteInputError" 133 (.type "_IncompleteInputError"),en P "IndexError" 134 (.type "IndexError"),en P "KeyError" 135 (.type "KeyError"),en P "ModuleNotFoundError" 136 (.type "ModuleNotFoundError"),en P "NotImplementedError" 137 (.type "NotImplementedError"),en P "PythonFinalizationError" 138 (.type "PythonFinalizationError"),en P "RecursionError" 139 (.type "RecursionError"),en P "UnboundLocalError" 140 (.type "UnboundLocalError"),en P "UnicodeError" 141 (.type "UnicodeError"),en P "BrokenPipeError" 142 (.type "BrokenPipeError"),en P "ConnectionAbortedError" 143 (.type "ConnectionAbortedError"),en P "ConnectionRefusedError" 144 (.type "ConnectionRefusedError"),en P "ConnectionResetError" 145 (.type "ConnectionResetError"),en P "TabError" 146 (.type "TabError"),en P "UnicodeDecodeError" 147 (.type "UnicodeDecodeError"),en P "UnicodeEncodeError" 148 (.type "UnicodeEncodeError"),en P "UnicodeTranslateError" 149 (.type "UnicodeTranslateError"),en P "ExceptionGroup" 150 (.type "ExceptionGroup"),en P "EnvironmentError" 151 (.type "OSError"),en P "IOError" 152 (.type "OSError"),en P "open" 153 (.builtin "open"),en P "quit" 154 (.builtin "builtins.quit#opaque"),en P "exit" 155 (.builtin "builtins.exit#opaque"),en P "copyright" 156 (.builtin "builtins.copyright#opaque"),en P "credits" 157 (.builtin "builtins.credits#opaque"),en P "license" 158 (.builtin "builtins.license#opaque"),en P "help" 159 (.builtin "builtins.help#opaque")]) 159,
oDict (es P [("builtins",162,4),("__main__",163,5),("math",284,13)]) 3,
⟨.none, none, (.dict ([en P (PySem.Str.mk #[105, 109, 112, 111, 114, 116, 46, 108, 111, 97, 100, 101, 100, 46, 109, 97, 116, 104]) 185 (.bool true), en P (PySem.Str.mk #[99, 108, 97, 115, 115, 46, 95, 102, 114, 111, 122, 101, 110, 95, 105, 109, 112, 111, 114, 116, 108, 105, 98, 95, 101, 120, 116, 101, 114, 110, 97, 108, 46, 95, 76, 111, 97, 100, 101, 114, 66, 97, 115, 105, 99, 115]) 190 (vr 16), en P (PySem.Str.mk #[119, 97, 116, 99, 104, 101, 100, 46, 105, 109, 112, 111, 114, 116]) 206 (vr 20), en P (PySem.Str.mk #[99, 108, 97, 115, 115, 46, 95, 102, 114, 111, 122, 101, 110, 95, 105, 109, 112, 111, 114, 116, 108, 105, 98, 95, 101, 120, 116, 101, 114, 110, 97, 108, 46, 70, 105, 108, 101, 76, 111, 97, 100, 101, 114]) 207 (vr 22), en P (PySem.Str.mk #[99, 108, 97, 115, 115, 46, 95, 102, 114, 111, 122, 101, 110, 95, 105, 109, 112, 111, 114, 116, 108, 105, 98, 95, 101, 120, 116, 101, 114, 110, 97, 108, 46, 69, 120, 116, 101, 110, 115, 105, 111, 110, 70, 105, 108, 101, 76, 111, 97, 100, 101, 114]) 228 (vr 27), en P (PySem.Str.mk #[99, 108, 97, 115, 115, 46, 95, 102, 114, 111, 122, 101, 110, 95, 105, 109, 112, 111, 114, 116, 108, 105, 98, 46, 77, 111, 100, 117, 108, 101, 83, 112, 101, 99]) 256 (vr 33), en P "sys.modules.booked-epoch" 285 (vi 3), en P (PySem.Str.mk #[105, 109, 112, 111, 114, 116, 46, 108, 97, 116, 101, 114, 45, 108, 97, 105, 100, 46, 109, 97, 116, 104]) 361 (.bool true), en P "watched.library" 363 (vr 38), en P "watched.library-objects" 0 (.str (PySem.Str.mk #[13]) 0)] : List DictEntry).toArray 10), [].toArray⟩,
oDict (c0 P) 10,
⟨(.type "module"), (some 0), .plain, [].toArray⟩,
⟨(.type "module"), (some 3), .plain, [].toArray⟩,
oDict ([]) 0,
oTup [],
oFld [],
oCd [(.str "<module>" 176), (.str "<module>" 177), (vc 178), (vi 1), (vi 0), (vi 0), (vi 0), (vi 0), (vr 7), (.bool false), (vi 175), (vr 8), .none, .none, .none, .none, (vi 179), (vi 1), (vc 180)],
⟨(.type "frame"), none, .plain, [(some (vr 9)), (some (vr 3)), (some (vr 3)), none, (some (.str "__main__" 164)), none, (some (vr 0))].toArray⟩,
tS 182 ["gcd"],
oDict ([en P "__name__" 287 (.str "math" 286),en P "__doc__" 288 (.builtin "off-the-table:math.__doc__:shared#opaque"),en P "__package__" 290 (.str "" 289),en P "__loader__" 291 (.builtin "off-the-table:math.__loader__:shared#opaque"),en P "__spec__" 292 (.builtin "off-the-table:math.__spec__:shared#opaque"),en P "acos" 293 (.builtin "off-the-table:math.acos:shared#opaque"),en P "acosh" 294 (.builtin "off-the-table:math.acosh:shared#opaque"),en P "asin" 295 (.builtin "off-the-table:math.asin:shared#opaque"),en P "asinh" 296 (.builtin "off-the-table:math.asinh:shared#opaque"),en P "atan" 297 (.builtin "off-the-table:math.atan:shared#opaque"),en P "atan2" 298 (.builtin "off-the-table:math.atan2:shared#opaque"),en P "atanh" 299 (.builtin "off-the-table:math.atanh:shared#opaque"),en P "cbrt" 300 (.builtin "off-the-table:math.cbrt:shared#opaque"),en P "ceil" 301 (.builtin "math.ceil"),en P "copysign" 302 (.builtin "math.copysign"),en P "cos" 303 (.builtin "off-the-table:math.cos:shared#opaque"),en P "cosh" 304 (.builtin "off-the-table:math.cosh:shared#opaque"),en P "degrees" 305 (.builtin "math.degrees"),en P "dist" 306 (.builtin "math.dist"),en P "erf" 307 (.builtin "off-the-table:math.erf:shared#opaque"),en P "erfc" 308 (.builtin "off-the-table:math.erfc:shared#opaque"),en P "exp" 309 (.builtin "off-the-table:math.exp:shared#opaque"),en P "exp2" 310 (.builtin "off-the-table:math.exp2:shared#opaque"),en P "expm1" 311 (.builtin "off-the-table:math.expm1:shared#opaque"),en P "fabs" 312 (.builtin "math.fabs"),en P "factorial" 313 (.builtin "math.factorial"),en P "floor" 314 (.builtin "math.floor"),en P "fma" 315 (.builtin "math.fma"),en P "fmod" 316 (.builtin "math.fmod"),en P "frexp" 317 (.builtin "math.frexp"),en P "fsum" 318 (.builtin "math.fsum"),en P "gamma" 319 (.builtin "off-the-table:math.gamma:shared#opaque"),en P "gcd" 320 (.builtin "math.gcd"),en P "hypot" 321 (.builtin "math.hypot"),en P "isclose" 322 (.builtin "math.isclose"),en P "isfinite" 323 (.builtin "math.isfinite"),en P "isinf" 324 (.builtin "math.isinf"),en P "isnan" 325 (.builtin "math.isnan"),en P "isqrt" 326 (.builtin "math.isqrt"),en P "lcm" 327 (.builtin "math.lcm"),en P "ldexp" 328 (.builtin "math.ldexp"),en P "lgamma" 329 (.builtin "off-the-table:math.lgamma:shared#opaque"),en P "log" 330 (.builtin "off-the-table:math.log:shared#opaque"),en P "log1p" 331 (.builtin "off-the-table:math.log1p:shared#opaque"),en P "log10" 332 (.builtin "off-the-table:math.log10:shared#opaque"),en P "log2" 333 (.builtin "off-the-table:math.log2:shared#opaque"),en P "modf" 334 (.builtin "math.modf"),en P "pow" 335 (.builtin "off-the-table:math.pow:shared#opaque"),en P "radians" 336 (.builtin "math.radians"),en P "remainder" 337 (.builtin "math.remainder"),en P "sin" 338 (.builtin "off-the-table:math.sin:shared#opaque"),en P "sinh" 339 (.builtin "off-the-table:math.sinh:shared#opaque"),en P "sqrt" 340 (.builtin "math.sqrt"),en P "tan" 341 (.builtin "off-the-table:math.tan:shared#opaque"),en P "tanh" 342 (.builtin "off-the-table:math.tanh:shared#opaque"),en P "sumprod" 343 (.builtin "math.sumprod"),en P "trunc" 344 (.builtin "math.trunc"),en P "prod" 345 (.builtin "math.prod"),en P "perm" 346 (.builtin "math.perm"),en P "comb" 347 (.builtin "math.comb"),en P "nextafter" 348 (.builtin "math.nextafter"),en P "ulp" 349 (.builtin "math.ulp"),en P "__file__" 350 (.str "/nix/store/wj1f56qky4pmjc7l0r6b6l7whnnw7hp6-python3-3.13.15/lib/python3.13/lib-dynload/math.cpython-313-x86_64-linux-gnu.so" 186),en P "pi" 352 (.float 4614256656552045848 351),en P "e" 354 (.float 4613303445314885481 353),en P "tau" 356 (.float 4618760256179416344 355),en P "inf" 358 (.float 9218868437227405312 357),en P "nan" 360 (.float 9221120237041090560 359)]) 68,
⟨(.type "module"), (some 12), .plain, [].toArray⟩,
oDict ([en P "name" 188 (.str "math" 187),en P "path" 189 (.str "/nix/store/wj1f56qky4pmjc7l0r6b6l7whnnw7hp6-python3-3.13.15/lib/python3.13/lib-dynload/math.cpython-313-x86_64-linux-gnu.so" 186)]) 2,
oDict ([en P "__module__" 193 (.str (PySem.Str.mk #[95, 102, 114, 111, 122, 101, 110, 95, 105, 109, 112, 111, 114, 116, 108, 105, 98, 95, 101, 120, 116, 101, 114, 110, 97, 108]) 191),en P "__firstlineno__" 194 (.int 1001 192),en P "__doc__" 195 (.builtin "_frozen_importlib_external._LoaderBasics.__doc__:str#opaque"),en P "is_package" 196 (.builtin "_frozen_importlib_external._LoaderBasics.is_package#opaque"),en P "create_module" 197 (.builtin "_frozen_importlib_external._LoaderBasics.create_module#opaque"),en P "exec_module" 198 (.builtin "_frozen_importlib_external._LoaderBasics.exec_module#opaque"),en P "load_module" 199 (.builtin "_frozen_importlib_external._LoaderBasics.load_module#opaque")] ++ es P [("__static_attributes__",200,17),("__dict__",202,18),("__weakref__",204,19)]) 10,
⟨(.type "type"), none, (.cls ⟨"_LoaderBasics", [(.type "object")], [(vr 16), (.type "object")], 15, "_LoaderBasics", true, [], [(vr 27)], false, none, false⟩), [].toArray⟩,
oTup [],
oFldT "getset_descriptor" [(.str "__dict__" 201), (vr 16), (.builtin "function.__dict__"), (.builtin "function.__dict__#set")],
oFldT "getset_descriptor" [(.str "__weakref__" 203), (vr 16), (.builtin "ExceptionGroup.__weakref__"), .none],
⟨.none, none, (.seq [(vi 15), (.str (PySem.Str.mk #[6, 193, 10, 95, 95, 109, 111, 100, 117, 108, 101, 95, 95, 6, 191, 26, 95, 102, 114, 111, 122, 101, 110, 95, 105, 109, 112, 111, 114, 116, 108, 105, 98, 95, 101, 120, 116, 101, 114, 110, 97, 108, 6, 194, 15, 95, 95, 102, 105, 114, 115, 116, 108, 105, 110, 101, 110, 111, 95, 95, 4, 192, 0, 1001, 6, 195, 7, 95, 95, 100, 111, 99, 95, 95, 9, 59, 95, 102, 114, 111, 122, 101, 110, 95, 105, 109, 112, 111, 114, 116, 108, 105, 98, 95, 101, 120, 116, 101, 114, 110, 97, 108, 46, 95, 76, 111, 97, 100, 101, 114, 66, 97, 115, 105, 99, 115, 46, 95, 95, 100, 111, 99, 95, 95, 58, 115, 116, 114, 35, 111, 112, 97, 113, 117, 101, 6, 196, 10, 105, 115, 95, 112, 97, 99, 107, 97, 103, 101, 9, 58, 95, 102, 114, 111, 122, 101, 110, 95, 105, 109, 112, 111, 114, 116, 108, 105, 98, 95, 101, 120, 116, 101, 114, 110, 97, 108, 46, 95, 76, 111, 97, 100, 101, 114, 66, 97, 115, 105, 99, 115, 46, 105, 115, 95, 112, 97, 99, 107, 97, 103, 101, 35, 111, 112, 97, 113, 117, 101, 6, 197, 13, 99, 114, 101, 97, 116, 101, 95, 109, 111, 100, 117, 108, 101, 9, 61, 95, 102, 114, 111, 122, 101, 110, 95, 105, 109, 112, 111, 114, 116, 108, 105, 98, 95, 101, 120, 116, 101, 114, 110, 97, 108, 46, 95, 76, 111, 97, 100, 101, 114, 66, 97, 115, 105, 99, 115, 46, 99, 114, 101, 97, 116, 101, 95, 109, 111, 100, 117, 108, 101, 35, 111, 112, 97, 113, 117, 101, 6, 198, 11, 101, 120, 101, 99, 95, 109, 111, 100, 117, 108, 101, 9, 59, 95, 102, 114, 111, 122, 101, 110, 95, 105, 109, 112, 111, 114, 116, 108, 105, 98, 95, 101, 120, 116, 101, 114, 110, 97, 108, 46, 95, 76, 111, 97, 100, 101, 114, 66, 97, 115, 105, 99, 115, 46, 101, 120, 101, 99, 95, 109, 111, 100, 117, 108, 101, 35, 111, 112, 97, 113, 117, 101, 6, 199, 11, 108, 111, 97, 100, 95, 109, 111, 100, 117, 108, 101, 9, 59, 95, 102, 114, 111, 122, 101, 110, 95, 105, 109, 112, 111, 114, 116, 108, 105, 98, 95, 101, 120, 116, 101, 114, 110, 97, 108, 46, 95, 76, 111, 97, 100, 101, 114, 66, 97, 115, 105, 99, 115, 46, 108, 111, 97, 100, 95, 109, 111, 100, 117, 108, 101, 35, 111, 112, 97, 113, 117, 101, 6, 200, 21, 95, 95, 115, 116, 97, 116, 105, 99, 95, 97, 116, 116, 114, 105, 98, 117, 116, 101, 115, 95, 95, 4, 0, 0, 17, 6, 202, 8, 95, 95, 100, 105, 99, 116, 95, 95, 4, 0, 0, 18, 6, 204, 11, 95, 95, 119, 101, 97, 107, 114, 101, 102, 95, 95, 4, 0, 0, 19]) 0), (.bool true), (.bool true), (.str "" 205), (vi 21), (.str (PySem.Str.mk #[6, 212, 10, 95, 95, 109, 111, 100, 117, 108, 101, 95, 95, 6, 208, 26, 95, 102, 114, 111, 122, 101, 110, 95, 105, 109, 112, 111, 114, 116, 108, 105, 98, 95, 101, 120, 116, 101, 114, 110, 97, 108, 6, 213, 15, 95, 95, 102, 105, 114, 115, 116, 108, 105, 110, 101, 110, 111, 95, 95, 4, 209, 0, 1176, 6, 214, 7, 95, 95, 100, 111, 99, 95, 95, 9, 56, 95, 102, 114, 111, 122, 101, 110, 95, 105, 109, 112, 111, 114, 116, 108, 105, 98, 95, 101, 120, 116, 101, 114, 110, 97, 108, 46, 70, 105, 108, 101, 76, 111, 97, 100, 101, 114, 46, 95, 95, 100, 111, 99, 95, 95, 58, 115, 116, 114, 35, 111, 112, 97, 113, 117, 101, 6, 215, 8, 95, 95, 105, 110, 105, 116, 95, 95, 9, 53, 95, 102, 114, 111, 122, 101, 110, 95, 105, 109, 112, 111, 114, 116, 108, 105, 98, 95, 101, 120, 116, 101, 114, 110, 97, 108, 46, 70, 105, 108, 101, 76, 111, 97, 100, 101, 114, 46, 95, 95, 105, 110, 105, 116, 95, 95, 35, 111, 112, 97, 113, 117, 101, 6, 216, 6, 95, 95, 101, 113, 95, 95, 9, 51, 95, 102, 114, 111, 122, 101, 110, 95, 105, 109, 112, 111, 114, 116, 108, 105, 98, 95, 101, 120, 116, 101, 114, 110, 97, 108, 46, 70, 105, 108, 101, 76, 111, 97, 100, 101, 114, 46, 95, 95, 101, 113, 95, 95, 35, 111, 112, 97, 113, 117, 101, 6, 217, 8, 95, 95, 104, 97, 115, 104, 95, 95, 9, 53, 95, 102, 114, 111, 122, 101, 110, 95, 105, 109, 112, 111, 114, 116, 108, 105, 98, 95, 101, 120, 116, 101, 114, 110, 97, 108, 46, 70, 105, 108, 101, 76, 111, 97, 100, 101, 114, 46, 95, 95, 104, 97, 115, 104, 95, 95, 35, 111, 112, 97, 113, 117, 101, 6, 218, 11, 108, 111, 97, 100, 95, 109, 111, 100, 117, 108, 101, 9, 56, 95, 102, 114, 111, 122, 101, 110, 95, 105, 109, 112, 111, 114, 116, 108, 105, 98, 95, 101, 120, 116, 101, 114, 110, 97, 108, 46, 70, 105, 108, 101, 76, 111, 97, 100, 101, 114, 46, 108, 111, 97, 100, 95, 109, 111, 100, 117, 108, 101, 35, 111, 112, 97, 113, 117, 101, 6, 219, 12, 103, 101, 116, 95, 102, 105, 108, 101, 110, 97, 109, 101, 9, 57, 95, 102, 114, 111, 122, 101, 110, 95, 105, 109, 112, 111, 114, 116, 108, 105, 98, 95, 101, 120, 116, 101, 114, 110, 97, 108, 46, 70, 105, 108, 101, 76, 111, 97, 100, 101, 114, 46, 103, 101, 116, 95, 102, 105, 108, 101, 110, 97, 109, 101, 35, 111, 112, 97, 113, 117, 101, 6, 220, 8, 103, 101, 116, 95, 100, 97, 116, 97, 9, 53, 95, 102, 114, 111, 122, 101, 110, 95, 105, 109, 112, 111, 114, 116, 108, 105, 98, 95, 101, 120, 116, 101, 114, 110, 97, 108, 46, 70, 105, 108, 101, 76, 111, 97, 100, 101, 114, 46, 103, 101, 116, 95, 100, 97, 116, 97, 35, 111, 112, 97, 113, 117, 101, 6, 221, 19, 103, 101, 116, 95, 114, 101, 115, 111, 117, 114, 99, 101, 95, 114, 101, 97, 100, 101, 114, 9, 64, 95, 102, 114, 111, 122, 101, 110, 95, 105, 109, 112, 111, 114, 116, 108, 105, 98, 95, 101, 120, 116, 101, 114, 110, 97, 108, 46, 70, 105, 108, 101, 76, 111, 97, 100, 101, 114, 46, 103, 101, 116, 95, 114, 101, 115, 111, 117, 114, 99, 101, 95, 114, 101, 97, 100, 101, 114, 35, 111, 112, 97, 113, 117, 101, 6, 222, 21, 95, 95, 115, 116, 97, 116, 105, 99, 95, 97, 116, 116, 114, 105, 98, 117, 116, 101, 115, 95, 95, 4, 0, 0, 23, 6, 224, 8, 95, 95, 100, 105, 99, 116, 95, 95, 4, 0, 0, 24, 6, 226, 11, 95, 95, 119, 101, 97, 107, 114, 101, 102, 95, 95, 4, 0, 0, 25]) 0), (.bool true), (.bool true), (.str "" 227), (vi 26), (.str (PySem.Str.mk #[6, 233, 10, 95, 95, 109, 111, 100, 117, 108, 101, 95, 95, 6, 229, 26, 95, 102, 114, 111, 122, 101, 110, 95, 105, 109, 112, 111, 114, 116, 108, 105, 98, 95, 101, 120, 116, 101, 114, 110, 97, 108, 6, 234, 15, 95, 95, 102, 105, 114, 115, 116, 108, 105, 110, 101, 110, 111, 95, 95, 4, 230, 0, 1296, 6, 235, 7, 95, 95, 100, 111, 99, 95, 95, 9, 65, 95, 102, 114, 111, 122, 101, 110, 95, 105, 109, 112, 111, 114, 116, 108, 105, 98, 95, 101, 120, 116, 101, 114, 110, 97, 108, 46, 69, 120, 116, 101, 110, 115, 105, 111, 110, 70, 105, 108, 101, 76, 111, 97, 100, 101, 114, 46, 95, 95, 100, 111, 99, 95, 95, 58, 115, 116, 114, 35, 111, 112, 97, 113, 117, 101, 6, 236, 8, 95, 95, 105, 110, 105, 116, 95, 95, 9, 62, 95, 102, 114, 111, 122, 101, 110, 95, 105, 109, 112, 111, 114, 116, 108, 105, 98, 95, 101, 120, 116, 101, 114, 110, 97, 108, 46, 69, 120, 116, 101, 110, 115, 105, 111, 110, 70, 105, 108, 101, 76, 111, 97, 100, 101, 114, 46, 95, 95, 105, 110, 105, 116, 95, 95, 35, 111, 112, 97, 113, 117, 101, 6, 237, 6, 95, 95, 101, 113, 95, 95, 9, 60, 95, 102, 114, 111, 122, 101, 110, 95, 105, 109, 112, 111, 114, 116, 108, 105, 98, 95, 101, 120, 116, 101, 114, 110, 97, 108, 46, 69, 120, 116, 101, 110, 115, 105, 111, 110, 70, 105, 108, 101, 76, 111, 97, 100, 101, 114, 46, 95, 95, 101, 113, 95, 95, 35, 111, 112, 97, 113, 117, 101, 6, 238, 8, 95, 95, 104, 97, 115, 104, 95, 95, 9, 62, 95, 102, 114, 111, 122, 101, 110, 95, 105, 109, 112, 111, 114, 116, 108, 105, 98, 95, 101, 120, 116, 101, 114, 110, 97, 108, 46, 69, 120, 116, 101, 110, 115, 105, 111, 110, 70, 105, 108, 101, 76, 111, 97, 100, 101, 114, 46, 95, 95, 104, 97, 115, 104, 95, 95, 35, 111, 112, 97, 113, 117, 101, 6, 239, 13, 99, 114, 101, 97, 116, 101, 95, 109, 111, 100, 117, 108, 101, 9, 67, 95, 102, 114, 111, 122, 101, 110, 95, 105, 109, 112, 111, 114, 116, 108, 105, 98, 95, 101, 120, 116, 101, 114, 110, 97, 108, 46, 69, 120, 116, 101, 110, 115, 105, 111, 110, 70, 105, 108, 101, 76, 111, 97, 100, 101, 114, 46, 99, 114, 101, 97, 116, 101, 95, 109, 111, 100, 117, 108, 101, 35, 111, 112, 97, 113, 117, 101, 6, 240, 11, 101, 120, 101, 99, 95, 109, 111, 100, 117, 108, 101, 9, 65, 95, 102, 114, 111, 122, 101, 110, 95, 105, 109, 112, 111, 114, 116, 108, 105, 98, 95, 101, 120, 116, 101, 114, 110, 97, 108, 46, 69, 120, 116, 101, 110, 115, 105, 111, 110, 70, 105, 108, 101, 76, 111, 97, 100, 101, 114, 46, 101, 120, 101, 99, 95, 109, 111, 100, 117, 108, 101, 35, 111, 112, 97, 113, 117, 101, 6, 241, 10, 105, 115, 95, 112, 97, 99, 107, 97, 103, 101, 9, 64, 95, 102, 114, 111, 122, 101, 110, 95, 105, 109, 112, 111, 114, 116, 108, 105, 98, 95, 101, 120, 116, 101, 114, 110, 97, 108, 46, 69, 120, 116, 101, 110, 115, 105, 111, 110, 70, 105, 108, 101, 76, 111, 97, 100, 101, 114, 46, 105, 115, 95, 112, 97, 99, 107, 97, 103, 101, 35, 111, 112, 97, 113, 117, 101, 6, 242, 8, 103, 101, 116, 95, 99, 111, 100, 101, 9, 62, 95, 102, 114, 111, 122, 101, 110, 95, 105, 109, 112, 111, 114, 116, 108, 105, 98, 95, 101, 120, 116, 101, 114, 110, 97, 108, 46, 69, 120, 116, 101, 110, 115, 105, 111, 110, 70, 105, 108, 101, 76, 111, 97, 100, 101, 114, 46, 103, 101, 116, 95, 99, 111, 100, 101, 35, 111, 112, 97, 113, 117, 101, 6, 243, 10, 103, 101, 116, 95, 115, 111, 117, 114, 99, 101, 9, 64, 95, 102, 114, 111, 122, 101, 110, 95, 105, 109, 112, 111, 114, 116, 108, 105, 98, 95, 101, 120, 116, 101, 114, 110, 97, 108, 46, 69, 120, 116, 101, 110, 115, 105, 111, 110, 70, 105, 108, 101, 76, 111, 97, 100, 101, 114, 46, 103, 101, 116, 95, 115, 111, 117, 114, 99, 101, 35, 111, 112, 97, 113, 117, 101, 6, 244, 12, 103, 101, 116, 95, 102, 105, 108, 101, 110, 97, 109, 101, 9, 66, 95, 102, 114, 111, 122, 101, 110, 95, 105, 109, 112, 111, 114, 116, 108, 105, 98, 95, 101, 120, 116, 101, 114, 110, 97, 108, 46, 69, 120, 116, 101, 110, 115, 105, 111, 110, 70, 105, 108, 101, 76, 111, 97, 100, 101, 114, 46, 103, 101, 116, 95, 102, 105, 108, 101, 110, 97, 109, 101, 35, 111, 112, 97, 113, 117, 101, 6, 245, 21, 95, 95, 115, 116, 97, 116, 105, 99, 95, 97, 116, 116, 114, 105, 98, 117, 116, 101, 115, 95, 95, 4, 0, 0, 28]) 0), (.bool true), (.bool true), (.str "" 246), (vi 32), (.str (PySem.Str.mk #[6, 267, 10, 95, 95, 109, 111, 100, 117, 108, 101, 95, 95, 6, 257, 17, 95, 102, 114, 111, 122, 101, 110, 95, 105, 109, 112, 111, 114, 116, 108, 105, 98, 6, 268, 15, 95, 95, 102, 105, 114, 115, 116, 108, 105, 110, 101, 110, 111, 95, 95, 4, 258, 0, 562, 6, 269, 7, 95, 95, 100, 111, 99, 95, 95, 9, 47, 95, 102, 114, 111, 122, 101, 110, 95, 105, 109, 112, 111, 114, 116, 108, 105, 98, 46, 77, 111, 100, 117, 108, 101, 83, 112, 101, 99, 46, 95, 95, 100, 111, 99, 95, 95, 58, 115, 116, 114, 35, 111, 112, 97, 113, 117, 101, 6, 270, 8, 95, 95, 105, 110, 105, 116, 95, 95, 9, 44, 95, 102, 114, 111, 122, 101, 110, 95, 105, 109, 112, 111, 114, 116, 108, 105, 98, 46, 77, 111, 100, 117, 108, 101, 83, 112, 101, 99, 46, 95, 95, 105, 110, 105, 116, 95, 95, 35, 111, 112, 97, 113, 117, 101, 6, 271, 8, 95, 95, 114, 101, 112, 114, 95, 95, 9, 44, 95, 102, 114, 111, 122, 101, 110, 95, 105, 109, 112, 111, 114, 116, 108, 105, 98, 46, 77, 111, 100, 117, 108, 101, 83, 112, 101, 99, 46, 95, 95, 114, 101, 112, 114, 95, 95, 35, 111, 112, 97, 113, 117, 101, 6, 272, 6, 95, 95, 101, 113, 95, 95, 9, 42, 95, 102, 114, 111, 122, 101, 110, 95, 105, 109, 112, 111, 114, 116, 108, 105, 98, 46, 77, 111, 100, 117, 108, 101, 83, 112, 101, 99, 46, 95, 95, 101, 113, 95, 95, 35, 111, 112, 97, 113, 117, 101, 6, 273, 6, 99, 97, 99, 104, 101, 100, 9, 42, 95, 102, 114, 111, 122, 101, 110, 95, 105, 109, 112, 111, 114, 116, 108, 105, 98, 46, 77, 111, 100, 117, 108, 101, 83, 112, 101, 99, 46, 99, 97, 99, 104, 101, 100, 35, 111, 112, 97, 113, 117, 101, 6, 274, 6, 112, 97, 114, 101, 110, 116, 9, 42, 95, 102, 114, 111, 122, 101, 110, 95, 105, 109, 112, 111, 114, 116, 108, 105, 98, 46, 77, 111, 100, 117, 108, 101, 83, 112, 101, 99, 46, 112, 97, 114, 101, 110, 116, 35, 111, 112, 97, 113, 117, 101, 6, 275, 12, 104, 97, 115, 95, 108, 111, 99, 97, 116, 105, 111, 110, 9, 48, 95, 102, 114, 111, 122, 101, 110, 95, 105, 109, 112, 111, 114, 116, 108, 105, 98, 46, 77, 111, 100, 117, 108, 101, 83, 112, 101, 99, 46, 104, 97, 115, 95, 108, 111, 99, 97, 116, 105, 111, 110, 35, 111, 112, 97, 113, 117, 101, 6, 276, 21, 95, 95, 115, 116, 97, 116, 105, 99, 95, 97, 116, 116, 114, 105, 98, 117, 116, 101, 115, 95, 95, 4, 0, 0, 34, 6, 278, 8, 95, 95, 100, 105, 99, 116, 95, 95, 4, 0, 0, 35, 6, 280, 11, 95, 95, 119, 101, 97, 107, 114, 101, 102, 95, 95, 4, 0, 0, 36, 6, 281, 8, 95, 95, 104, 97, 115, 104, 95, 95, 0]) 0), (.bool true), (.bool true), (.str "" 282)].toArray 3), [].toArray⟩,
oDict ([en P "__module__" 212 (.str (PySem.Str.mk #[95, 102, 114, 111, 122, 101, 110, 95, 105, 109, 112, 111, 114, 116, 108, 105, 98, 95, 101, 120, 116, 101, 114, 110, 97, 108]) 208),en P "__firstlineno__" 213 (.int 1176 209),en P "__doc__" 214 (.builtin "_frozen_importlib_external.FileLoader.__doc__:str#opaque"),en P "__init__" 215 (.builtin "_frozen_importlib_external.FileLoader.__init__#opaque"),en P "__eq__" 216 (.builtin "_frozen_importlib_external.FileLoader.__eq__#opaque"),en P "__hash__" 217 (.builtin "_frozen_importlib_external.FileLoader.__hash__#opaque"),en P "load_module" 218 (.builtin "_frozen_importlib_external.FileLoader.load_module#opaque"),en P "get_filename" 219 (.builtin "_frozen_importlib_external.FileLoader.get_filename#opaque"),en P "get_data" 220 (.builtin "_frozen_importlib_external.FileLoader.get_data#opaque"),en P "get_resource_reader" 221 (.builtin "_frozen_importlib_external.FileLoader.get_resource_reader#opaque")] ++ es P [("__static_attributes__",222,23),("__dict__",224,24),("__weakref__",226,25)]) 13,
⟨(.type "type"), none, (.cls ⟨"FileLoader", [(.type "object")], [(vr 22), (.type "object")], 21, "FileLoader", true, [], [(vr 27)], false, none, false⟩), [].toArray⟩,
tS 210 ["name","path"],
oFldT "getset_descriptor" [(.str "__dict__" 223), (vr 22), (.builtin "function.__dict__"), (.builtin "function.__dict__#set")],
oFldT "getset_descriptor" [(.str "__weakref__" 225), (vr 22), (.builtin "ExceptionGroup.__weakref__"), .none],
oDict ([en P "__module__" 233 (.str (PySem.Str.mk #[95, 102, 114, 111, 122, 101, 110, 95, 105, 109, 112, 111, 114, 116, 108, 105, 98, 95, 101, 120, 116, 101, 114, 110, 97, 108]) 229),en P "__firstlineno__" 234 (.int 1296 230),en P "__doc__" 235 (.builtin "_frozen_importlib_external.ExtensionFileLoader.__doc__:str#opaque"),en P "__init__" 236 (.builtin "_frozen_importlib_external.ExtensionFileLoader.__init__#opaque"),en P "__eq__" 237 (.builtin "_frozen_importlib_external.ExtensionFileLoader.__eq__#opaque"),en P "__hash__" 238 (.builtin "_frozen_importlib_external.ExtensionFileLoader.__hash__#opaque"),en P "create_module" 239 (.builtin "_frozen_importlib_external.ExtensionFileLoader.create_module#opaque"),en P "exec_module" 240 (.builtin "_frozen_importlib_external.ExtensionFileLoader.exec_module#opaque"),en P "is_package" 241 (.builtin "_frozen_importlib_external.ExtensionFileLoader.is_package#opaque"),en P "get_code" 242 (.builtin "_frozen_importlib_external.ExtensionFileLoader.get_code#opaque"),en P "get_source" 243 (.builtin "_frozen_importlib_external.ExtensionFileLoader.get_source#opaque"),en P "get_filename" 244 (.builtin "_frozen_importlib_external.ExtensionFileLoader.get_filename#opaque"),en P "__static_attributes__" 245 (vr 28)]) 13,
⟨(.type "type"), none, (.cls ⟨"ExtensionFileLoader", [(vr 22), (vr 16)], [(vr 27), (vr 22), (vr 16), (.type "object")], 26, "ExtensionFileLoader", true, [], [], false, none, false⟩), [].toArray⟩,
tS 231 ["name","path"],
⟨(vr 27), (some 14), .plain, [].toArray⟩,
⟨(.type "list"), none, (.seq [].toArray 0), [].toArray⟩,
oDict ([en P "name" 248 (.str "math" 247),en P "loader" 249 (vr 29),en P "origin" 250 (.str "/nix/store/wj1f56qky4pmjc7l0r6b6l7whnnw7hp6-python3-3.13.15/lib/python3.13/lib-dynload/math.cpython-313-x86_64-linux-gnu.so" 186),en P "loader_state" 251 .none,en P "submodule_search_locations" 252 .none,en P "_uninitialized_submodules" 253 (vr 30),en P "_set_fileattr" 254 (.bool true),en P "_cached" 255 .none,en P "_initializing" 283 (.bool false)]) 9,
oDict ([en P "__module__" 267 (.str (PySem.Str.mk #[95, 102, 114, 111, 122, 101, 110, 95, 105, 109, 112, 111, 114, 116, 108, 105, 98]) 257),en P "__firstlineno__" 268 (.int 562 258),en P "__doc__" 269 (.builtin "_frozen_importlib.ModuleSpec.__doc__:str#opaque"),en P "__init__" 270 (.builtin "_frozen_importlib.ModuleSpec.__init__#opaque"),en P "__repr__" 271 (.builtin "_frozen_importlib.ModuleSpec.__repr__#opaque"),en P "__eq__" 272 (.builtin "_frozen_importlib.ModuleSpec.__eq__#opaque"),en P "cached" 273 (.builtin "_frozen_importlib.ModuleSpec.cached#opaque"),en P "parent" 274 (.builtin "_frozen_importlib.ModuleSpec.parent#opaque"),en P "has_location" 275 (.builtin "_frozen_importlib.ModuleSpec.has_location#opaque")] ++ es P [("__static_attributes__",276,34),("__dict__",278,35),("__weakref__",280,36)] ++ [en P "__hash__" 281 .none]) 13,
⟨(.type "type"), none, (.cls ⟨"ModuleSpec", [(.type "object")], [(vr 33), (.type "object")], 32, "ModuleSpec", true, [], [], false, none, false⟩), [].toArray⟩,
tS 259 ["_cached","_set_fileattr","_uninitialized_submodules","loader","loader_state","name","origin","submodule_search_locations"],
oFldT "getset_descriptor" [(.str "__dict__" 277), (vr 33), (.builtin "function.__dict__"), (.builtin "function.__dict__#set")],
oFldT "getset_descriptor" [(.str "__weakref__" 279), (vr 33), (.builtin "ExceptionGroup.__weakref__"), .none],
⟨(vr 33), (some 31), .plain, [].toArray⟩,
⟨.none, none, (.seq [(vi 12), (.str (PySem.Str.mk #[6, 287, 8, 95, 95, 110, 97, 109, 101, 95, 95, 6, 286, 4, 109, 97, 116, 104, 6, 288, 7, 95, 95, 100, 111, 99, 95, 95, 9, 23, 109, 97, 116, 104, 46, 95, 95, 100, 111, 99, 95, 95, 58, 115, 116, 114, 35, 111, 112, 97, 113, 117, 101, 6, 290, 11, 95, 95, 112, 97, 99, 107, 97, 103, 101, 95, 95, 6, 289, 0, 6, 291, 10, 95, 95, 108, 111, 97, 100, 101, 114, 95, 95, 4, 0, 0, 29, 6, 292, 8, 95, 95, 115, 112, 101, 99, 95, 95, 4, 0, 0, 37, 6, 293, 4, 97, 99, 111, 115, 9, 9, 109, 97, 116, 104, 46, 97, 99, 111, 115, 6, 294, 5, 97, 99, 111, 115, 104, 9, 10, 109, 97, 116, 104, 46, 97, 99, 111, 115, 104, 6, 295, 4, 97, 115, 105, 110, 9, 9, 109, 97, 116, 104, 46, 97, 115, 105, 110, 6, 296, 5, 97, 115, 105, 110, 104, 9, 10, 109, 97, 116, 104, 46, 97, 115, 105, 110, 104, 6, 297, 4, 97, 116, 97, 110, 9, 9, 109, 97, 116, 104, 46, 97, 116, 97, 110, 6, 298, 5, 97, 116, 97, 110, 50, 9, 10, 109, 97, 116, 104, 46, 97, 116, 97, 110, 50, 6, 299, 5, 97, 116, 97, 110, 104, 9, 10, 109, 97, 116, 104, 46, 97, 116, 97, 110, 104, 6, 300, 4, 99, 98, 114, 116, 9, 9, 109, 97, 116, 104, 46, 99, 98, 114, 116, 6, 301, 4, 99, 101, 105, 108, 9, 9, 109, 97, 116, 104, 46, 99, 101, 105, 108, 6, 302, 8, 99, 111, 112, 121, 115, 105, 103, 110, 9, 13, 109, 97, 116, 104, 46, 99, 111, 112, 121, 115, 105, 103, 110, 6, 303, 3, 99, 111, 115, 9, 8, 109, 97, 116, 104, 46, 99, 111, 115, 6, 304, 4, 99, 111, 115, 104, 9, 9, 109, 97, 116, 104, 46, 99, 111, 115, 104, 6, 305, 7, 100, 101, 103, 114, 101, 101, 115, 9, 12, 109, 97, 116, 104, 46, 100, 101, 103, 114, 101, 101, 115, 6, 306, 4, 100, 105, 115, 116, 9, 9, 109, 97, 116, 104, 46, 100, 105, 115, 116, 6, 307, 3, 101, 114, 102, 9, 8, 109, 97, 116, 104, 46, 101, 114, 102, 6, 308, 4, 101, 114, 102, 99, 9, 9, 109, 97, 116, 104, 46, 101, 114, 102, 99, 6, 309, 3, 101, 120, 112, 9, 8, 109, 97, 116, 104, 46, 101, 120, 112, 6, 310, 4, 101, 120, 112, 50, 9, 9, 109, 97, 116, 104, 46, 101, 120, 112, 50, 6, 311, 5, 101, 120, 112, 109, 49, 9, 10, 109, 97, 116, 104, 46, 101, 120, 112, 109, 49, 6, 312, 4, 102, 97, 98, 115, 9, 9, 109, 97, 116, 104, 46, 102, 97, 98, 115, 6, 313, 9, 102, 97, 99, 116, 111, 114, 105, 97, 108, 9, 14, 109, 97, 116, 104, 46, 102, 97, 99, 116, 111, 114, 105, 97, 108, 6, 314, 5, 102, 108, 111, 111, 114, 9, 10, 109, 97, 116, 104, 46, 102, 108, 111, 111, 114, 6, 315, 3, 102, 109, 97, 9, 8, 109, 97, 116, 104, 46, 102, 109, 97, 6, 316, 4, 102, 109, 111, 100, 9, 9, 109, 97, 116, 104, 46, 102, 109, 111, 100, 6, 317, 5, 102, 114, 101, 120, 112, 9, 10, 109, 97, 116, 104, 46, 102, 114, 101, 120, 112, 6, 318, 4, 102, 115, 117, 109, 9, 9, 109, 97, 116, 104, 46, 102, 115, 117, 109, 6, 319, 5, 103, 97, 109, 109, 97, 9, 10, 109, 97, 116, 104, 46, 103, 97, 109, 109, 97, 6, 320, 3, 103, 99, 100, 9, 8, 109, 97, 116, 104, 46, 103, 99, 100, 6, 321, 5, 104, 121, 112, 111, 116, 9, 10, 109, 97, 116, 104, 46, 104, 121, 112, 111, 116, 6, 322, 7, 105, 115, 99, 108, 111, 115, 101, 9, 12, 109, 97, 116, 104, 46, 105, 115, 99, 108, 111, 115, 101, 6, 323, 8, 105, 115, 102, 105, 110, 105, 116, 101, 9, 13, 109, 97, 116, 104, 46, 105, 115, 102, 105, 110, 105, 116, 101, 6, 324, 5, 105, 115, 105, 110, 102, 9, 10, 109, 97, 116, 104, 46, 105, 115, 105, 110, 102, 6, 325, 5, 105, 115, 110, 97, 110, 9, 10, 109, 97, 116, 104, 46, 105, 115, 110, 97, 110, 6, 326, 5, 105, 115, 113, 114, 116, 9, 10, 109, 97, 116, 104, 46, 105, 115, 113, 114, 116, 6, 327, 3, 108, 99, 109, 9, 8, 109, 97, 116, 104, 46, 108, 99, 109, 6, 328, 5, 108, 100, 101, 120, 112, 9, 10, 109, 97, 116, 104, 46, 108, 100, 101, 120, 112, 6, 329, 6, 108, 103, 97, 109, 109, 97, 9, 11, 109, 97, 116, 104, 46, 108, 103, 97, 109, 109, 97, 6, 330, 3, 108, 111, 103, 9, 8, 109, 97, 116, 104, 46, 108, 111, 103, 6, 331, 5, 108, 111, 103, 49, 112, 9, 10, 109, 97, 116, 104, 46, 108, 111, 103, 49, 112, 6, 332, 5, 108, 111, 103, 49, 48, 9, 10, 109, 97, 116, 104, 46, 108, 111, 103, 49, 48, 6, 333, 4, 108, 111, 103, 50, 9, 9, 109, 97, 116, 104, 46, 108, 111, 103, 50, 6, 334, 4, 109, 111, 100, 102, 9, 9, 109, 97, 116, 104, 46, 109, 111, 100, 102, 6, 335, 3, 112, 111, 119, 9, 8, 109, 97, 116, 104, 46, 112, 111, 119, 6, 336, 7, 114, 97, 100, 105, 97, 110, 115, 9, 12, 109, 97, 116, 104, 46, 114, 97, 100, 105, 97, 110, 115, 6, 337, 9, 114, 101, 109, 97, 105, 110, 100, 101, 114, 9, 14, 109, 97, 116, 104, 46, 114, 101, 109, 97, 105, 110, 100, 101, 114, 6, 338, 3, 115, 105, 110, 9, 8, 109, 97, 116, 104, 46, 115, 105, 110, 6, 339, 4, 115, 105, 110, 104, 9, 9, 109, 97, 116, 104, 46, 115, 105, 110, 104, 6, 340, 4, 115, 113, 114, 116, 9, 9, 109, 97, 116, 104, 46, 115, 113, 114, 116, 6, 341, 3, 116, 97, 110, 9, 8, 109, 97, 116, 104, 46, 116, 97, 110, 6, 342, 4, 116, 97, 110, 104, 9, 9, 109, 97, 116, 104, 46, 116, 97, 110, 104, 6, 343, 7, 115, 117, 109, 112, 114, 111, 100, 9, 12, 109, 97, 116, 104, 46, 115, 117, 109, 112, 114, 111, 100, 6, 344, 5, 116, 114, 117, 110, 99, 9, 10, 109, 97, 116, 104, 46, 116, 114, 117, 110, 99, 6, 345, 4, 112, 114, 111, 100, 9, 9, 109, 97, 116, 104, 46, 112, 114, 111, 100, 6, 346, 4, 112, 101, 114, 109, 9, 9, 109, 97, 116, 104, 46, 112, 101, 114, 109, 6, 347, 4, 99, 111, 109, 98, 9, 9, 109, 97, 116, 104, 46, 99, 111, 109, 98, 6, 348, 9, 110, 101, 120, 116, 97, 102, 116, 101, 114, 9, 14, 109, 97, 116, 104, 46, 110, 101, 120, 116, 97, 102, 116, 101, 114, 6, 349, 3, 117, 108, 112, 9, 8, 109, 97, 116, 104, 46, 117, 108, 112, 6, 350, 8, 95, 95, 102, 105, 108, 101, 95, 95, 6, 186, 123, 47, 110, 105, 120, 47, 115, 116, 111, 114, 101, 47, 119, 106, 49, 102, 53, 54, 113, 107, 121, 52, 112, 109, 106, 99, 55, 108, 48, 114, 54, 98, 54, 108, 55, 119, 104, 110, 110, 119, 55, 104, 112, 54, 45, 112, 121, 116, 104, 111, 110, 51, 45, 51, 46, 49, 51, 46, 49, 53, 47, 108, 105, 98, 47, 112, 121, 116, 104, 111, 110, 51, 46, 49, 51, 47, 108, 105, 98, 45, 100, 121, 110, 108, 111, 97, 100, 47, 109, 97, 116, 104, 46, 99, 112, 121, 116, 104, 111, 110, 45, 51, 49, 51, 45, 120, 56, 54, 95, 54, 52, 45, 108, 105, 110, 117, 120, 45, 103, 110, 117, 46, 115, 111, 6, 352, 2, 112, 105, 5, 351, 4614256656552045848, 6, 354, 1, 101, 5, 353, 4613303445314885481, 6, 356, 3, 116, 97, 117, 5, 355, 4618760256179416344, 6, 358, 3, 105, 110, 102, 5, 357, 9218868437227405312, 6, 360, 3, 110, 97, 110, 5, 359, 9221120237041090560]) 0), (.bool true), (.bool false), (.str "math" 362)].toArray 0), [].toArray⟩]
def trX (P : Params) : BT := insAll (obX_0 P) (.nil)
def stX (w : World) : SharedT := ⟨trX w.params, 39, life0, #[], ⟨0, 0, 0, 0⟩, 370, os0⟩
def obA_0 (P : Params) : List (Nat × Obj) := nu 39 [oTup [],
oFld [],
oC "<module>" 371 "<module>" 372 373 1 0 0 0 0 39 false 40 .none .none .none .none 374 375,
⟨(.type "frame"), none, .plain, [(some (vr 41)), (some (vr 3)), (some (vr 3)), none, (some (.str "__main__" 164)), none, (some (vr 0))].toArray⟩]
def trA (P : Params) : BT := insAll (obA_0 P) (trX P)
def stA (w : World) : SharedT := ⟨trA w.params, 43, life0, #[], ⟨0, 0, 0, 0⟩, 376, os0⟩
def stB (w : World) : SharedT := ⟨trA w.params, 43, life0, #[], ⟨0, 0, 0, 0⟩, 376, os0⟩
def c1 : List Value := [(vi 2),(vi 0),(vr 48),(vi 6),(vi 0),(vr 55),(vi 8),(vi 0),(vr 68),(vi 13),(vi 0),(vr 87),(vi 17),(vi 0),(vr 106),(vi 23),(vi 0),(vr 125),(vi 28),(vi 0),(vr 130),(vi 33),(vi 0),(vr 137),(vi 38),(vi 0),(vr 142),(vi 45),(vi 0),(vr 147),(vi 48),(vi 0),(vr 154),(vi 55),(vi 0),(vr 161),(vi 59),(vi 0),(vr 168),(vi 69),(vi 0),(vr 173),(vi 71),(vi 0),(vr 180),(vi 73),(vi 0),(vr 187),(vi 81),(vi 0),(vr 194),(vi 83),(vi 0),(vr 201),(vi 88),(vi 0),(vr 208),(vi 90),(vi 0),(vr 215),(vi 92),(vi 0),(vr 222),(vi 94),(vi 0),(vr 229),(vi 96),(vi 0),(vr 236),(vi 99),(vi 0),(vr 243),(vi 132),(vi 0),(vr 315),(vi 137),(vi 0),(vr 320),(vi 140),(vi 0),(vr 325),(vi 142),(vi 0),(vr 330),(vi 144),(vi 0),(vr 337),(vi 150),(vi 0),(vr 342),(vi 152),(vi 0),(vr 349),(vi 163),(vi 0),(vr 356),(vi 168),(vi 0),(vr 363),(vi 214),(vi 0),(vr 426),(vi 223),(vi 0),(vr 433),(vi 234),(vi 0),(vr 440),(vi 239),(vi 0),(vr 447),(vi 255),(vi 0),(vr 454),(vi 257),(vi 0),(vr 459),(vi 267),(vi 0),(vr 466),(vi 274),(vi 0),(vr 473),(vi 279),(vi 0),(vr 480),(vi 281),(vi 0),(vr 487),(vi 283),(vi 0),(vr 494),(vi 285),(vi 0),(vr 501),(vi 287),(vi 0),(vr 508),(vi 292),(vi 0),(vr 515),(vi 298),(vi 0),(vr 520),(vi 303),(vi 0),(vr 527)]
def obS1_0 (P : Params) : List (Nat × Obj) := nu 3 [oDict ([en P "__name__" 165 (.str "law_nearspokes_k15_square_roots" 910),en P "__doc__" 166 .none,en P "__package__" 167 .none,en P "__loader__" 168 (.builtin "__main__.__loader__#opaque"),en P "__spec__" 169 .none] ++ es P [("__annotations__",170,6),("__builtins__",171,4)] ++ [en P "__file__" 173 (vc 172),en P "__cached__" 174 .none,en P "gcd" 369 (.builtin "math.gcd")] ++ es P [("_wall",382,49),("PlaneError",402,59),("InvalidTerm",428,79),("ZeroPolynomial",452,98),("NoRoot",478,117),("trimmed",488,126),("combined",494,131),("content",503,138),("primitive",509,143),("lightened",515,148),("remainder",525,155),("common_list",533,162),("exact_list",544,169),("derived",550,174),("free_list",557,181),("value_over",570,188),("is_integer",579,195),("lowest",588,202),("minus",596,209),("sign",603,216),("is_less",611,223),("middle",619,230),("ratio_text",626,237),("Row",725,305),("chain_of",733,316),("changes",739,321),("changes_at",745,326),("changes_far",751,331),("count_between",763,338),("far_bound",771,343)] ++ es P [("isolated",784,350),("halved",794,357),("Root",886,416),("compare_ratio",896,427),("compare_roots",909,434),("_law_bag",920,441),("_law_pull",931,448),("_law_of",939,455),("_law_same",945,460),("_law_gcd",954,467),("_law_low",963,474),("_law_sub",971,481),("_law_sign",978,488),("_law_order",986,495),("_law_ratio_text",993,502),("_law_to",1003,509),("_law_floor_root",1013,516),("_law_exact_root",1019,521),("law",1049,528)]) 59] ++
nu 40 [oFld (c1)] ++
gA 43 "_wall" "_wall" (top 1) 2 1 0 0 3 376 ["k"] "__main__" 164 ++
nu 50 [oTup [(.type "ValueError")],
oFldT "builtin_function_or_method" [(.builtin "type.__prepare__"), (.type "type")],
oDict ([en P "__module__" 392 (.str "nearspokes.errors" 383),en P "__qualname__" 394 (.str "PlaneError" 393),en P "__firstlineno__" 396 (.int 6 395),en P "__static_attributes__" 397 (vr 57)]) 4,
oTup [],
oFld [],
oC "PlaneError" 387 "PlaneError" 388 389 6 0 0 0 0 53 false 54 .none .none .none .none 390 391,
⟨(.type "frame"), none, .plain, [(some (vr 55)), (some (vr 3)), (some (vr 52)), none, (some (.str "nearspokes.errors" 383)), none, (some (vr 0))].toArray⟩,
oTup [],
oDict ([en P "__module__" 392 (.str "nearspokes.errors" 383),en P "__firstlineno__" 396 (.int 6 395)] ++ es P [("__static_attributes__",397,57),("__weakref__",399,60)] ++ [en P "__doc__" 400 .none]) 3,
⟨(.type "type"), none, (.cls ⟨"PlaneError", [(.type "ValueError")], [(vr 59), (.type "ValueError"), (.type "Exception"), (.type "BaseException"), (.type "object")], 58, "PlaneError", true, [], [(vr 79), (vr 98), (vr 117)], false, none, false⟩), [(some (vr 50)), none, (some (.str "PlaneError" 385)), (some (.str "PlaneError" 393)), (some (.builtin "ValueError.__new__")), (some (.bool true))].toArray⟩,
oFldT "getset_descriptor" [(.str "__weakref__" 398), (vr 59), (.builtin "ExceptionGroup.__weakref__"), .none],
oFldT "super" [(vr 59), (vr 59), (vr 59)],
oFldT "builtin_function_or_method" [(.builtin "object.__init_subclass__"), (vr 59)],
oTup [(vr 59)],
oFldT "builtin_function_or_method" [(.builtin "type.__prepare__"), (.type "type")],
oDict ([en P "__module__" 410 (.str "nearspokes.errors" 383),en P "__qualname__" 412 (.str "InvalidTerm" 411),en P "__firstlineno__" 414 (.int 8 413)] ++ es P [("__init__",422,76),("__static_attributes__",425,77)]) 5,
oTup [],
oFld [(vi 10), (vi 4), (vr 75)],
oC "InvalidTerm" 405 "InvalidTerm" 406 407 8 0 0 0 0 66 false 67 .none .none .none .none 408 409,
⟨(.type "frame"), none, .plain, [(some (vr 68)), (some (vr 3)), (some (vr 65)), none, (some (.str "nearspokes.errors" 383)), none, (some (vr 0))].toArray⟩] ++
gA 70 "__init__" "InvalidTerm.__init__" (sAt 0 (sBody (top 4))) 10 2 0 0 3 415 ["self","at"] "nearspokes.errors" 383 ++
nu 77 [tS 423 ["at","code"],
oDict ([en P "__module__" 410 (.str "nearspokes.errors" 383),en P "__firstlineno__" 414 (.int 8 413)] ++ es P [("__init__",422,76),("__static_attributes__",425,77)] ++ [en P "__doc__" 426 .none]) 2,
⟨(.type "type"), none, (.cls ⟨"InvalidTerm", [(vr 59)], [(vr 79), (vr 59), (.type "ValueError"), (.type "Exception"), (.type "BaseException"), (.type "object")], 78, "InvalidTerm", true, [], [], false, none, false⟩), [(some (vr 63)), none, (some (.str "InvalidTerm" 403)), (some (.str "InvalidTerm" 411)), (some (.builtin "ValueError.__new__")), (some (.bool true))].toArray⟩,
oFldT "super" [(vr 79), (vr 79), (vr 79)]]
def obS1_1 (P : Params) : List (Nat × Obj) := nu 81 [oFldT "builtin_function_or_method" [(.builtin "object.__init_subclass__"), (vr 79)],
oTup [(vr 59)],
oFldT "builtin_function_or_method" [(.builtin "type.__prepare__"), (.type "type")],
oDict ([en P "__module__" 436 (.str "nearspokes.errors" 383),en P "__qualname__" 438 (.str "ZeroPolynomial" 437),en P "__firstlineno__" 440 (.int 13 439)] ++ es P [("__init__",447,95),("__static_attributes__",449,96)]) 5,
oTup [],
oFld [(vi 15), (vi 4), (vr 94)],
oC "ZeroPolynomial" 431 "ZeroPolynomial" 432 433 13 0 0 0 0 85 false 86 .none .none .none .none 434 435,
⟨(.type "frame"), none, .plain, [(some (vr 87)), (some (vr 3)), (some (vr 84)), none, (some (.str "nearspokes.errors" 383)), none, (some (vr 0))].toArray⟩] ++
gA 89 "__init__" "ZeroPolynomial.__init__" (sAt 0 (sBody (top 5))) 15 1 0 0 3 441 ["self"] "nearspokes.errors" 383 ++
nu 96 [tS 448 ["code"],
oDict ([en P "__module__" 436 (.str "nearspokes.errors" 383),en P "__firstlineno__" 440 (.int 13 439)] ++ es P [("__init__",447,95),("__static_attributes__",449,96)] ++ [en P "__doc__" 450 .none]) 2,
⟨(.type "type"), none, (.cls ⟨"ZeroPolynomial", [(vr 59)], [(vr 98), (vr 59), (.type "ValueError"), (.type "Exception"), (.type "BaseException"), (.type "object")], 97, "ZeroPolynomial", true, [], [], false, none, false⟩), [(some (vr 82)), none, (some (.str "ZeroPolynomial" 429)), (some (.str "ZeroPolynomial" 437)), (some (.builtin "ValueError.__new__")), (some (.bool true))].toArray⟩,
oFldT "super" [(vr 98), (vr 98), (vr 98)],
oFldT "builtin_function_or_method" [(.builtin "object.__init_subclass__"), (vr 98)],
oTup [(vr 59)],
oFldT "builtin_function_or_method" [(.builtin "type.__prepare__"), (.type "type")],
oDict ([en P "__module__" 460 (.str "nearspokes.errors" 383),en P "__qualname__" 462 (.str "NoRoot" 461),en P "__firstlineno__" 464 (.int 17 463)] ++ es P [("__init__",472,114),("__static_attributes__",475,115)]) 5,
oTup [],
oFld [(vi 19), (vi 4), (vr 113)],
oC "NoRoot" 455 "NoRoot" 456 457 17 0 0 0 0 104 false 105 .none .none .none .none 458 459,
⟨(.type "frame"), none, .plain, [(some (vr 106)), (some (vr 3)), (some (vr 103)), none, (some (.str "nearspokes.errors" 383)), none, (some (vr 0))].toArray⟩] ++
gA 108 "__init__" "NoRoot.__init__" (sAt 0 (sBody (top 6))) 19 2 0 0 3 465 ["self","index"] "nearspokes.errors" 383 ++
nu 115 [tS 473 ["code","index"],
oDict ([en P "__module__" 460 (.str "nearspokes.errors" 383),en P "__firstlineno__" 464 (.int 17 463)] ++ es P [("__init__",472,114),("__static_attributes__",475,115)] ++ [en P "__doc__" 476 .none]) 2,
⟨(.type "type"), none, (.cls ⟨"NoRoot", [(vr 59)], [(vr 117), (vr 59), (.type "ValueError"), (.type "Exception"), (.type "BaseException"), (.type "object")], 116, "NoRoot", true, [], [], false, none, false⟩), [(some (vr 101)), none, (some (.str "NoRoot" 453)), (some (.str "NoRoot" 461)), (some (.builtin "ValueError.__new__")), (some (.bool true))].toArray⟩,
oFldT "super" [(vr 117), (vr 117), (vr 117)],
oFldT "builtin_function_or_method" [(.builtin "object.__init_subclass__"), (vr 117)]] ++
gA 120 "trimmed" "trimmed" (top 8) 23 1 0 0 3 481 ["items","many"] "nearspokes.lists" 479
def obS1_2 (P : Params) : List (Nat × Obj) := gB 127 "combined" "combined" (top 9) 28 5 0 0 3 489 "nearspokes.lists" 479 ++
gA 132 "content" "content" (top 10) 33 1 0 0 3 495 ["items","found","value"] "nearspokes.lists" 479 ++
gB 139 "primitive" "primitive" (top 11) 38 1 0 0 3 504 "nearspokes.lists" 479 ++
gB 144 "lightened" "lightened" (top 12) 45 1 0 0 3 510 "nearspokes.lists" 479 ++
gA 149 "remainder" "remainder" (top 13) 48 2 0 0 3 516 ["one","other","lead","turn"] "nearspokes.lists" 479 ++
gA 156 "common_list" "common_list" (top 14) 55 2 0 0 3 526 ["one","other"] "nearspokes.lists" 479 ++
gA 163 "exact_list" "exact_list" (top 15) 59 2 0 0 3 534 ["one","other","found","rest","shift"] "nearspokes.lists" 479
def obS1_3 (P : Params) : List (Nat × Obj) := gB 170 "derived" "derived" (top 16) 69 1 0 0 3 545 "nearspokes.lists" 479 ++
gA 175 "free_list" "free_list" (top 17) 71 1 0 0 3 551 ["items"] "nearspokes.lists" 479 ++
gA 182 "value_over" "value_over" (top 18) 73 2 0 0 3 558 ["items","value","top","bottom","total","power","item"] "nearspokes.lists" 479 ++
gA 189 "is_integer" "is_integer" (top 20) 81 1 0 0 3 573 ["value"] "nearspokes.ratios" 571 ++
gA 196 "lowest" "lowest" (top 21) 83 2 0 0 3 580 ["top","bottom","divisor"] "nearspokes.ratios" 571 ++
gA 203 "minus" "minus" (top 22) 88 2 0 0 3 589 ["one","other"] "nearspokes.ratios" 571
def obS1_4 (P : Params) : List (Nat × Obj) := gA 210 "sign" "sign" (top 23) 90 1 0 0 3 597 ["number"] "nearspokes.ratios" 571 ++
gA 217 "is_less" "is_less" (top 24) 92 2 0 0 3 604 ["one","other"] "nearspokes.ratios" 571 ++
gA 224 "middle" "middle" (top 25) 94 2 0 0 3 612 ["one","other"] "nearspokes.ratios" 571 ++
gA 231 "ratio_text" "ratio_text" (top 26) 96 1 0 0 3 620 ["one"] "nearspokes.ratios" 571 ++
nu 238 [oTup [],
oFldT "builtin_function_or_method" [(.builtin "type.__prepare__"), (.type "type")],
oDict ([en P "__module__" 636 (.str "nearspokes.rows" 627),en P "__qualname__" 638 (.str "Row" 637),en P "__firstlineno__" 640 (.int 99 639)] ++ es P [("__init__",650,251),("degree",658,259),("coefs",665,266),("value_at",673,273),("along",694,282),("__eq__",702,290),("__bool__",709,297),("__repr__",715,302),("__static_attributes__",717,303)]) 12,
oTup [],
oFld [(vi 101), (vi 4), (vr 250), (vi 110), (vi 4), (vr 257), (vi 113), (vi 4), (vr 265), (vi 116), (vi 4), (vr 272), (vi 120), (vi 4), (vr 279), (vi 123), (vi 4), (vr 289), (vi 126), (vi 4), (vr 296), (vi 129), (vi 4), (vr 301)],
oC "Row" 631 "Row" 632 633 99 0 0 0 0 241 false 242 .none .none .none .none 634 635,
⟨(.type "frame"), none, .plain, [(some (vr 243)), (some (vr 3)), (some (vr 240)), none, (some (.str "nearspokes.rows" 627)), none, (some (vr 0))].toArray⟩] ++
gA 245 "__init__" "Row.__init__" (sAt 0 (sBody (top 28))) 101 2 0 0 3 641 ["self","coefs","at","value"] "nearspokes.rows" 627
def obS1_5 (P : Params) : List (Nat × Obj) := gA 252 "degree" "Row.degree" (sAt 1 (sBody (top 28))) 109 1 0 0 3 651 ["self"] "nearspokes.rows" 627 ++
nu 259 [oFldT "property" [(vr 258), .none, .none, .none, (.str "degree" 658), (.bool false)]] ++
gA 260 "coefs" "Row.coefs" (sAt 2 (sBody (top 28))) 113 1 0 0 3 659 ["self"] "nearspokes.rows" 627 ++
gA 267 "value_at" "Row.value_at" (sAt 3 (sBody (top 28))) 116 2 0 0 3 666 ["self","value"] "nearspokes.rows" 627 ++
nu 274 [oTup [],
oFld [],
tS 677 ["poly","letter","value"],
oTup [],
oFn0 "along" "Row.along" (sAt 4 (sBody (top 28))),
oC "along" 674 "Row.along" 675 676 119 3 0 0 3 274 true 275 .none (vr 276) (vr 277) (vr 278) 680 681,
⟨(.type "function"), none, (.func ⟨"along", "Row.along", defArgs (sAt 4 (sBody (top 28))), .stmts (defBody (sAt 4 (sBody (top 28)))), defScope (sAt 4 (sBody (top 28))), 3, [], .none, .none, .none, (.str "nearspokes.rows" 627), (some 283), (vr 279), .none, 0⟩), [].toArray⟩,
oDict ([en P "__module__" 683 (.str "nearspokes.rows" 627),en P "__name__" 686 (.str "along" 685),en P "__qualname__" 689 (.str "Row.along" 688),en P "__doc__" 691 .none,en P "__annotations__" 693 (vr 283)]) 5,
⟨(.type "staticmethod"), (some 281), (.fields [(vr 280), (.bool false)].toArray), [].toArray⟩,
oDict ([]) 0] ++
gA 284 "__eq__" "Row.__eq__" (sAt 5 (sBody (top 28))) 123 2 0 0 3 695 ["self","other"] "nearspokes.rows" 627 ++
gA 291 "__bool__" "Row.__bool__" (sAt 6 (sBody (top 28))) 126 1 0 0 3 703 ["self"] "nearspokes.rows" 627
def obS1_6 (P : Params) : List (Nat × Obj) := gB 298 "__repr__" "Row.__repr__" (sAt 7 (sBody (top 28))) 129 1 0 0 3 710 "nearspokes.rows" 627 ++
nu 303 [tS 716 ["numbers"],
oDict ([en P "__module__" 636 (.str "nearspokes.rows" 627),en P "__firstlineno__" 640 (.int 99 639)] ++ es P [("__init__",650,251),("degree",658,259),("coefs",665,266),("value_at",673,273),("along",694,282),("__eq__",702,290),("__bool__",709,297),("__repr__",715,302),("__static_attributes__",717,303),("__dict__",719,306),("__weakref__",721,307)] ++ [en P "__doc__" 722 .none,en P "__hash__" 723 .none]) 5,
⟨(.type "type"), none, (.cls ⟨"Row", [(.type "object")], [(vr 305), (.type "object")], 304, "Row", true, [], [], false, none, false⟩), [none, none, (some (.str "Row" 629)), (some (.str "Row" 637)), (some (.builtin "object.__new__")), (some (.bool true))].toArray⟩,
oFldT "getset_descriptor" [(.str "__dict__" 718), (vr 305), (.builtin "function.__dict__"), (.builtin "function.__dict__#set")],
oFldT "getset_descriptor" [(.str "__weakref__" 720), (vr 305), (.builtin "ExceptionGroup.__weakref__"), .none],
oFldT "super" [(vr 305), (vr 305), (vr 305)],
oFldT "builtin_function_or_method" [(.builtin "object.__init_subclass__"), (vr 305)]] ++
gA 310 "chain_of" "chain_of" (top 29) 132 1 0 0 3 726 ["items","chain"] "nearspokes.rows" 627 ++
gB 317 "changes" "changes" (top 30) 137 1 0 0 3 734 "nearspokes.rows" 627 ++
gB 322 "changes_at" "changes_at" (top 31) 140 2 0 0 3 740 "nearspokes.rows" 627 ++
gB 327 "changes_far" "changes_far" (top 32) 142 2 0 0 3 746 "nearspokes.rows" 627 ++
gA 332 "count_between" "count_between" (top 33) 144 3 0 0 3 752 ["items","low","high","chain","first","last"] "nearspokes.rows" 627
def obS1_7 (P : Params) : List (Nat × Obj) := gB 339 "far_bound" "far_bound" (top 35) 150 1 0 0 3 766 "nearspokes.roots" 764 ++
gA 344 "isolated" "isolated" (top 36) 152 2 0 0 3 772 ["items","index","bound","low","high","start","between"] "nearspokes.roots" 764 ++
gA 351 "halved" "halved" (top 37) 163 3 0 0 3 785 ["items","low","high","between"] "nearspokes.roots" 764 ++
nu 358 [oTup [],
oFldT "builtin_function_or_method" [(.builtin "type.__prepare__"), (.type "type")],
oDict ([en P "__module__" 802 (.str "nearspokes.roots" 764),en P "__qualname__" 804 (.str "Root" 803),en P "__firstlineno__" 806 (.int 168 805)] ++ es P [("__init__",816,371),("compare",824,378),("sign_of",836,385),("within",846,392),("ratio",858,399),("floor",868,406),("written",876,413),("__static_attributes__",879,414)]) 11,
oTup [],
oFld [(vi 170), (vi 4), (vr 370), (vi 179), (vi 4), (vr 377), (vi 182), (vi 4), (vr 384), (vi 193), (vi 4), (vr 391), (vi 199), (vi 4), (vr 398), (vi 206), (vi 4), (vr 405), (vi 211), (vi 4), (vr 412)],
oC "Root" 797 "Root" 798 799 168 0 0 0 0 361 false 362 .none .none .none .none 800 801,
⟨(.type "frame"), none, .plain, [(some (vr 363)), (some (vr 3)), (some (vr 360)), none, (some (.str "nearspokes.roots" 764)), none, (some (vr 0))].toArray⟩] ++
gA 365 "__init__" "Root.__init__" (sAt 0 (sBody (top 38))) 170 3 0 0 3 807 ["self","row","index","items"] "nearspokes.roots" 764 ++
gA 372 "compare" "Root.compare" (sAt 1 (sBody (top 38))) 179 2 0 0 3 817 ["self","other"] "nearspokes.roots" 764
def obS1_8 (P : Params) : List (Nat × Obj) := gA 379 "sign_of" "Root.sign_of" (sAt 2 (sBody (top 38))) 182 2 0 0 3 825 ["self","row","items","low","high","shared"] "nearspokes.roots" 764 ++
gA 386 "within" "Root.within" (sAt 3 (sBody (top 38))) 193 2 0 0 3 837 ["self","width","low","high"] "nearspokes.roots" 764 ++
gA 393 "ratio" "Root.ratio" (sAt 4 (sBody (top 38))) 199 1 0 0 3 847 ["self","lead","low","high","number","found"] "nearspokes.roots" 764 ++
gA 400 "floor" "Root.floor" (sAt 5 (sBody (top 38))) 206 1 0 0 3 859 ["self","low","high","number"] "nearspokes.roots" 764 ++
gA 407 "written" "Root.written" (sAt 6 (sBody (top 38))) 211 1 0 0 3 869 ["self","found"] "nearspokes.roots" 764 ++
nu 414 [tS 877 ["numbers","spot"],
oDict ([en P "__module__" 802 (.str "nearspokes.roots" 764),en P "__firstlineno__" 806 (.int 168 805)] ++ es P [("__init__",816,371),("compare",824,378),("sign_of",836,385),("within",846,392),("ratio",858,399),("floor",868,406),("written",876,413),("__static_attributes__",879,414),("__dict__",881,417),("__weakref__",883,418)] ++ [en P "__doc__" 884 .none]) 4,
⟨(.type "type"), none, (.cls ⟨"Root", [(.type "object")], [(vr 416), (.type "object")], 415, "Root", true, [], [], false, none, false⟩), [none, none, (some (.str "Root" 795)), (some (.str "Root" 803)), (some (.builtin "object.__new__")), (some (.bool true))].toArray⟩,
oFldT "getset_descriptor" [(.str "__dict__" 880), (vr 416), (.builtin "function.__dict__"), (.builtin "function.__dict__#set")],
oFldT "getset_descriptor" [(.str "__weakref__" 882), (vr 416), (.builtin "ExceptionGroup.__weakref__"), .none]]
def obS1_9 (P : Params) : List (Nat × Obj) := nu 419 [oFldT "super" [(vr 416), (vr 416), (vr 416)],
oFldT "builtin_function_or_method" [(.builtin "object.__init_subclass__"), (vr 416)]] ++
gA 421 "compare_ratio" "compare_ratio" (top 39) 214 2 0 0 3 887 ["root","value","low","high"] "nearspokes.roots" 764 ++
gA 428 "compare_roots" "compare_roots" (top 40) 223 2 0 0 3 897 ["one","other","shared","low","high","first","last"] "nearspokes.roots" 764 ++
gA 435 "_law_bag" "_law_bag" (top 42) 234 1 0 0 3 912 ["_law_script","_law_mixed","_law_cell"] "law_nearspokes_k15_square_roots" 910 ++
gA 442 "_law_pull" "_law_pull" (top 43) 239 2 0 0 3 921 ["_law_bag_here","_law_many","_law_cell","_law_digit","_law_seed"] "law_nearspokes_k15_square_roots" 910 ++
gA 449 "_law_of" "_law_of" (top 44) 255 2 0 0 3 932 ["_law_bag_here","_law_some"] "law_nearspokes_k15_square_roots" 910 ++
gB 456 "_law_same" "_law_same" (top 45) 257 2 0 0 3 940 "law_nearspokes_k15_square_roots" 910
def obS1_10 (P : Params) : List (Nat × Obj) := gA 461 "_law_gcd" "_law_gcd" (top 46) 267 2 0 0 3 946 ["_law_one","_law_two","_law_k"] "law_nearspokes_k15_square_roots" 910 ++
gA 468 "_law_low" "_law_low" (top 47) 274 2 0 0 3 955 ["_law_top","_law_under","_law_shared"] "law_nearspokes_k15_square_roots" 910 ++
gA 475 "_law_sub" "_law_sub" (top 48) 279 2 0 0 3 964 ["_law_one","_law_two"] "law_nearspokes_k15_square_roots" 910 ++
gA 482 "_law_sign" "_law_sign" (top 49) 281 1 0 0 3 972 ["_law_number"] "law_nearspokes_k15_square_roots" 910 ++
gA 489 "_law_order" "_law_order" (top 50) 283 2 0 0 3 979 ["_law_one","_law_two"] "law_nearspokes_k15_square_roots" 910 ++
gA 496 "_law_ratio_text" "_law_ratio_text" (top 51) 285 1 0 0 3 987 ["_law_one"] "law_nearspokes_k15_square_roots" 910
def obS1_11 (P : Params) : List (Nat × Obj) := gA 503 "_law_to" "_law_to" (top 52) 287 2 0 0 3 994 ["_law_base","_law_often_z","_law_found","_law_k"] "law_nearspokes_k15_square_roots" 910 ++
gA 510 "_law_floor_root" "_law_floor_root" (top 53) 292 2 0 0 3 1004 ["_law_top","_law_under","_law_found","_law_k"] "law_nearspokes_k15_square_roots" 910 ++
gB 517 "_law_exact_root" "_law_exact_root" (top 54) 298 2 0 0 3 1014 "law_nearspokes_k15_square_roots" 910 ++
gA 522 "law" "law" (top 55) 303 1 0 0 3 1020 ["_law_script","_law_bag_here","_law_turn","_law_t","_law_u","_law_v","_law_w","_law_row_z","_law_late","_law_high","_law_low_z","_law_beside","_law_turn_z","_law_found","_law_far","_law_order_here","_law_back","_law_exact_z","_law_floor_z","_law_words","_law_a","_law_b","_law_sign_z","_law_ends"] "law_nearspokes_k15_square_roots" 910
def trS1 (P : Params) : BT := insAll (obS1_11 P) (insAll (obS1_10 P) (insAll (obS1_9 P) (insAll (obS1_8 P) (insAll (obS1_7 P) (insAll (obS1_6 P) (insAll (obS1_5 P) (insAll (obS1_4 P) (insAll (obS1_3 P) (insAll (obS1_2 P) (insAll (obS1_1 P) (insAll (obS1_0 P) (trA P))))))))))))
def stS1 (w : World) : SharedT := ⟨trS1 w.params, 529, life0, #[], ⟨0, 0, 0, 0⟩, 1050, os0⟩
def stF (w : World) : SharedT := ⟨trS1 w.params, 529, life0, #[], ⟨0, 0, 0, 0⟩, 1050, os0⟩
def l1 : List Stmt := (bdy.drop 0).take 55
def Opn (w : World) : Prop := openF (fun q => stepQ (denQ tabQ) q w) fenceQ 40000 RR0.prog = some (stX w, ann0)
set_option maxHeartbeats 0 in
theorem Opn_0 (w : World) : Opn w := by
  unfold Opn
  kernel_rfl
def Pre (w : World) : Prop := goK (stepQ (denQ tabQ) RR0.prog w) 39 ann0 12 (stX w) (topStub RR0.prog) = some (stA w, ⟨denQ tabQ cd0, cd0, ⟨0, 0, 0, 0⟩, [topFrame q0]⟩)
set_option maxHeartbeats 0 in
theorem Pre_0 (w : World) : Pre w := by
  unfold Pre
  kernel_rfl
def Blk (w : World) : Prop := segF (stepQ (denQ tabQ) RR0.prog w) 39 ann0 1 (stA w) (blockOfQ bdy env0 cd0 ⟨0, 0, 0, 0⟩ [topFrame q0]) = some (.next, stB w, cd0, ⟨0, 0, 0, 0⟩)
set_option maxHeartbeats 0 in
theorem Blk_0 (w : World) : Blk w := by
  unfold Blk
  kernel_rfl
def Sg1 (w : World) : Prop := segF (stepQ (denQ tabQ) RR0.prog w) 39 ann0 3349 (stB w) (piecesQ l1 env0 cd0 ⟨0, 0, 0, 0⟩ [topFrame q0]) = some (.next, stS1 w, cd0, ⟨303, 0, 336, 15⟩)
set_option maxHeartbeats 0 in
theorem Sg1_0 (w : World) : Sg1 w := by
  unfold Sg1
  kernel_rfl
def Fin (w : World) : Prop := goF (stepQ (denQ tabQ) RR0.prog w) 39 ann0 5 (stS1 w) ⟨doneF .next, cd0, ⟨303, 0, 336, 15⟩, [topFrame q0]⟩ = some (stF w)
set_option maxHeartbeats 0 in
theorem Fin_0 (w : World) : Fin w := by
  unfold Fin
  kernel_rfl
theorem bdy_eq : bdy = l1 ++ [] := by kernel_rfl
def Ran (w : World) : Prop := fencedOpening treeTable RR0.prog w 40000 = some (stX w).abs ∧ ((stX w).abs.heap.isNs mainGlobals && (stX w).abs.gens.size == 0) = true ∧ topRun treeTable RR0.prog w (stX w).abs.heap.objs.size ((stX w).abs.heap.nsMap mainGlobals "__annotations__") 40000 (stX w).abs (topStub RR0.prog) = some (stF w).abs
theorem run_of (w : World) (hX : Opn w) (hA : Pre w) (hB : Blk w) (h1 : Sg1 w) (hF : Fin w) : Ran w := by
  obtain ⟨a, b, c, d⟩ := openF_ok (opn_of hX)
  refine ⟨a, b, ?_⟩
  rw [c, d]
  have z0 : topRun treeTable RR0.prog w 39 ann0 ((3349 + 5)) (stB w).abs (restOf (l1 ++ []) env0 cd0 ⟨0, 0, 0, 0⟩ [topFrame q0]) = some (stF w).abs := (piece_app (seg_of h1) (piece_nil (fin_of hF)))
  have z : topRun treeTable RR0.prog w 39 ann0 (12 + (1 + (3349 + 5))) (stX w).abs (topStub RR0.prog) = some (stF w).abs := go_top (pre_of hA) (piece_block (blk_of hB) (by rw [bdy_eq] ; exact z0))
  exact topRun_mono 36633 _ _ _ _ z
theorem ran_0 (w : World) : Ran w := run_of w (Opn_0 w) (Pre_0 w) (Blk_0 w) (Sg1_0 w) (Fin_0 w)
end
end Seg
end T15
namespace DL
open PySem L2
/-- a lambda without parameters, or with one whose default is 0: its words, its parameters, the names that it captures -/
structure LamF where
  params : Arguments
  body : Expr
  scope : Scope
  qual : Str
  ps : List Str
  fr : List Str
/-- a value as a whole: what can be seen of it; fnv: a lambda of the running def, cl its cells; clo: a lambda and what its cells hold; tab: a table of code objects; ptr: a thing of the ledger, a def, a class; kt: a tuple of ints and texts that may be a dict's key -/
inductive D where
  | non | bl (b : Bool) | int (i : Int) | str (x : Str)
  | lst (xs : List D) | tup (xs : List D) | ro (xs : List D)
  | dk (ks : List Key) (vs : List D) | dt (ks : List (List Key)) (vs : List D)
  | obj (C : Addr) (ns : List Str) (vs : List D)
  | exc (C : Addr) (ns : List Str) (vs : List D)
  | fnv (F : LamF) (cl : List (Str × Addr))
  | clo (F : LamF) (ds : List D)
  | tab (q : Str)
  | ptr (a : Addr) | ty (n : String) | kt (ks : List Key)
/-- mutable things, by address -/
abbrev Led := List (Addr × D)
def inL (L : Led) (a : Addr) : Prop := a ∈ L.map (·.1)
def SqL' (L : Led) (K : PySem.W.Frag) (H : Hp) (a : Addr) (xs : List V) : Prop :=
  (¬ inL L a ∧ Rd H a (.lst xs)) ∨
    ∃ (o : Obj) (its : Array Value) (n : Nat), K.lookup a = some o ∧ o.cls = .type "list" ∧ o.dict = none ∧ o.data = .seq its n ∧ its.size ≤ sizeLine ∧ Vals xs its.toList
def SqT' (L : Led) (K : PySem.W.Frag) (H : Hp) (a : Addr) (xs : List V) : Prop :=
  (¬ inL L a ∧ Rd H a (.tup xs)) ∨
    ∃ (o : Obj) (its : Array Value) (n : Nat), K.lookup a = some o ∧ o.cls = .type "tuple" ∧ o.data = .seq its n ∧ its.size ≤ sizeLine ∧ Vals xs its.toList
theorem SqL'.sq {L K H a xs} (h : SqL' L K H a xs) : SqL K H a xs := h.elim (fun z => .inl z.2) .inr
theorem SqT'.sq {L K H a xs} (h : SqT' L K H a xs) : SqT K H a xs := h.elim (fun z => .inl z.2) .inr
/-- an error of the class at C stands at a, its own dict at d -/
def ExcAt (h : Heap) (a C d : Addr) : Prop := ∃ (oe : Obj) (vs : Array Value), h.get? a = some oe ∧ oe.cls = .ref C ∧ oe.dict = some d ∧ oe.data = .fields vs
def XDict (H : Hp) (d : Addr) (fs : List (Str × V)) : Prop := H d = some (.xd fs) ∨ H d = some (exd d fs)
/-- the object at f is the lambda F with the cells cl, the defaults dV, the code object at c -/
def LamO (f : Addr) (F : LamF) (cl : List (Str × Addr)) (dV : Value) (c : Addr) : HO := .ext fun h => ∃ (od : Option Addr) (sl : Array (Option Value)) (doc pm ctv : Value), h.get? f = some (⟨.type "function", od, .func (PySem.W.kdv_fn "<lambda>" F.qual F.params (.expr F.body) F.scope cl dV doc pm (.ref c) ctv), sl⟩ : Obj)
def DvAt (L : Led) (H : Hp) (n : Nat) (dV : Value) : Prop := (n = 0 ∧ dV = .none) ∨ (n ≠ 0 ∧ ∃ t, dV = .ref t ∧ ¬ inL L t ∧ H t = some (.tup (List.replicate n (.int 0))))
structure FnvAt (L : Led) (H : Hp) (f : Addr) (F : LamF) (cl : List (Str × Addr)) : Prop where
  nf : ¬ inL L f
  ex : ∃ (c : Addr) (dV : Value), H f = some (LamO f F cl dV c) ∧ ¬ inL L c ∧ H c = some (LamX.CodeO c F.qual) ∧ DvAt L H F.ps.length dV
/-- a cell that is known to the object -/
abbrev celO (o : Obj) : HO := .frz o (.own 0)
/-- .. and its cells are known: they hold vs -/
structure CloAt (L : Led) (H : Hp) (f : Addr) (F : LamF) (vs : List V) : Prop where
  ex : ∃ cl : List (Str × Addr), FnvAt L H f F cl ∧ vs.length = F.fr.length ∧ (∀ x y c, cl.lookup x = some c → cl.lookup y = some c → x = y) ∧ (∀ y c, cl.lookup y = some c → y ∈ F.fr) ∧
    ∀ (i : Nat) (y : Str), F.fr[i]? = some y → ∃ (cc : Addr) (oc : Obj) (u : Value) (v : V), cl.lookup y = some cc ∧ ¬ inL L cc ∧ H cc = some (celO oc) ∧ oc.data = .cell (some u) ∧ vs[i]? = some v ∧ RelV v u
mutual
inductive Rp (L : Led) (K : PySem.W.Frag) (H : Hp) : V → D → Prop
  | non : Rp L K H .non .non
  | bl (b : Bool) : Rp L K H (.bl b) (.bl b)
  | int (i : Int) : Rp L K H (.int i) (.int i)
  | str (x : Str) : Rp L K H (.str x) (.str x)
  | ty (n : String) : Rp L K H (.ty n) (.ty n)
  | ptr (a : Addr) : Rp L K H (.ref a) (.ptr a)
  | lst {a : Addr} {xs : List V} {ds : List D} : ¬ inL L a → H a = some (.lst xs) → RpAll L K H xs ds → Rp L K H (.ref a) (.lst ds)
  | ro {a : Addr} {xs : List V} {ds : List D} : SqL' L K H a xs → RpAll L K H xs ds → Rp L K H (.ref a) (.ro ds)
  | tup {a : Addr} {xs : List V} {ds : List D} : SqT' L K H a xs → RpAll L K H xs ds → Rp L K H (.ref a) (.tup ds)
  | dk {a : Addr} {ks : List Key} {xs : List V} {ds : List D} : ¬ inL L a → Rd H a (.dK (ks.zip xs)) → ks.length = xs.length → RpAll L K H xs ds → Rp L K H (.ref a) (.dk ks ds)
  | dt {a : Addr} {ks : List (List Key)} {xs : List V} {ds : List D} : ¬ inL L a → Rd H a (.dT (ks.zip xs)) → ks.length = xs.length → RpAll L K H xs ds → Rp L K H (.ref a) (.dt ks ds)
  | obj {a C dx : Addr} {ns : List Str} {xs : List V} {ds : List D} : ¬ inL L a → H a = some (.ins C dx (ns.zip xs)) → ns.length = xs.length → RpAll L K H xs ds → Rp L K H (.ref a) (.obj C ns ds)
  | exc {a C d : Addr} {φ : Heap → Prop} {ns : List Str} {xs : List V} {ds : List D} : ¬ inL L a → ¬ inL L d → H a = some (.ext φ) → (∀ h, φ h → ExcAt h a C d) → XDict H d (ns.zip xs) → ns.length = xs.length → RpAll L K H xs ds → Rp L K H (.ref a) (.exc C ns ds)
  | fnv {f : Addr} {F : LamF} {cl : List (Str × Addr)} : FnvAt L H f F cl → Rp L K H (.ref f) (.fnv F cl)
  | clo {f : Addr} {F : LamF} {xs : List V} {ds : List D} : CloAt L H f F xs → RpAll L K H xs ds → Rp L K H (.ref f) (.clo F ds)
  | kt {a : Addr} {ks : List Key} : ¬ inL L a → H a = some (.tup (ks.map kV)) → Rp L K H (.ref a) (.kt ks)
inductive RpAll (L : Led) (K : PySem.W.Frag) (H : Hp) : List V → List D → Prop
  | nil : RpAll L K H [] []
  | cons {v : V} {vs : List V} {d : D} {ds : List D} : Rp L K H v d → RpAll L K H vs ds → RpAll L K H (v :: vs) (d :: ds)
end
/-- a dict's content -/
def dicO : HO → Bool
  | .dK _ => true
  | .dT _ => true
  | _ => false
/-- o stands there, or o locked, if it is a dict -/
def GoO (o : HO) (r : Option HO) : Prop := r = some o ∨ (dicO o = true ∧ ∃ ob, r = some (.frz ob o))
theorem GoO.ex {o : HO} {r : Option HO} (g : GoO o r) (h : dicO o = false) : r = some o := g.elim id fun z => by rw [h] at z; cases z.1
/-- from (L, H) to (L', H'): what is not of the ledger stands (a dict may be locked meanwhile) -/
def Go (L L' : Led) (H H' : Hp) : Prop := ∀ a o, ¬ inL L a → H a = some o → ¬ inL L' a ∧ GoO o (H' a)
theorem Go.refl (L : Led) (H : Hp) : Go L L H H := fun _ _ n h => ⟨n, .inl h⟩
theorem Go.mk' {L L' : Led} {H H' : Hp} (h : ∀ a o, ¬ inL L a → H a = some o → ¬ inL L' a ∧ H' a = some o) : Go L L' H H' := fun a o n e => ⟨(h a o n e).1, .inl (h a o n e).2⟩
theorem Go.at' {L L' : Led} {H H' : Hp} (g : Go L L' H H') {a : Addr} {o : HO} (n : ¬ inL L a) (h : H a = some o) (hd : dicO o = false := by rfl) : ¬ inL L' a ∧ H' a = some o := ⟨(g a o n h).1, (g a o n h).2.ex hd⟩
theorem Go.trans {L L1 L2 : Led} {H H1 H2 : Hp} (a : Go L L1 H H1) (b : Go L1 L2 H1 H2) : Go L L2 H H2 := fun x o n h => by
  obtain ⟨n1, h1⟩ := a x o n h
  rcases h1 with h1 | ⟨hd, ob, h1⟩
  · exact b x o n1 h1
  · obtain ⟨n2, h2⟩ := b.at' n1 h1
    exact ⟨n2, .inr ⟨hd, ob, h2⟩⟩
theorem Go.same {L : Led} {H H' : Hp} (s : Same H H') : Go L L H H' := .mk' fun a o n h => ⟨n, s a o h⟩
theorem Go.rd {L L' : Led} {H H' : Hp} {a : Addr} {u : HO} (g : Go L L' H H') (n : ¬ inL L a) (h : Rd H a u) : ¬ inL L' a ∧ Rd H' a u := by
  rcases h with h | ⟨o, h⟩
  · exact ⟨(g a _ n h).1, (g a _ n h).2.elim .inl fun z => .inr z.2⟩
  · exact ⟨(g a _ n h).1, .inr ⟨o, (g.at' n h).2⟩⟩
theorem Go.sqL {L L' K H H' a xs} (g : Go L L' H H') (h : SqL' L K H a xs) : SqL' L' K H' a xs := h.elim (fun z => .inl (g.rd z.1 z.2)) .inr
theorem Go.sqT {L L' K H H' a xs} (g : Go L L' H H') (h : SqT' L K H a xs) : SqT' L' K H' a xs := h.elim (fun z => .inl (g.rd z.1 z.2)) .inr
theorem Go.xdict {L L' : Led} {H H' : Hp} {d : Addr} {fs : List (Str × V)} (g : Go L L' H H') (n : ¬ inL L d) (h : XDict H d fs) : ¬ inL L' d ∧ XDict H' d fs := by
  rcases h with h | h
  · exact ⟨(g d _ n h).1, .inl (g.at' n h).2⟩
  · exact ⟨(g d _ n h).1, .inr (g.at' n h).2⟩
theorem Go.fnv {L L' : Led} {H H' : Hp} {f : Addr} {F : LamF} {cl : List (Str × Addr)} (g : Go L L' H H') (h : FnvAt L H f F cl) : FnvAt L' H' f F cl := by
  obtain ⟨nf, c, dV, h1, n2, h2, h3⟩ := h
  refine ⟨(g _ _ nf h1).1, c, dV, (g.at' nf h1).2, (g _ _ n2 h2).1, (g.at' n2 h2).2, ?_⟩
  rcases h3 with h3 | ⟨z, t, e, n, h3⟩
  · exact .inl h3
  · exact .inr ⟨z, t, e, (g _ _ n h3).1, (g.at' n h3).2⟩
theorem Go.clo {L L' : Led} {H H' : Hp} {f : Addr} {F : LamF} {vs : List V} (g : Go L L' H H') (h : CloAt L H f F vs) : CloAt L' H' f F vs := by
  obtain ⟨cl, h1, h2, h3, h4, h5⟩ := h
  refine ⟨cl, g.fnv h1, h2, h3, h4, fun i y e => ?_⟩
  obtain ⟨cc, oc, u, v, q1, n, q2, q3⟩ := h5 i y e
  exact ⟨cc, oc, u, v, q1, (g _ _ n q2).1, (g.at' n q2).2, q3⟩
mutual
theorem Rp.go {L L' : Led} {K : PySem.W.Frag} {H H' : Hp} (g : Go L L' H H') : ∀ {v : V} {d : D}, Rp L K H v d → Rp L' K H' v d
  | _, _, .non => .non
  | _, _, .bl b => .bl b
  | _, _, .int i => .int i
  | _, _, .str x => .str x
  | _, _, .ty n => .ty n
  | _, _, .ptr a => .ptr a
  | _, _, .lst n h r => .lst (g _ _ n h).1 (g.at' n h).2 (RpAll.go g r)
  | _, _, .ro s r => .ro (g.sqL s) (RpAll.go g r)
  | _, _, .tup s r => .tup (g.sqT s) (RpAll.go g r)
  | _, _, .dk n h e r => .dk (g.rd n h).1 (g.rd n h).2 e (RpAll.go g r)
  | _, _, .dt n h e r => .dt (g.rd n h).1 (g.rd n h).2 e (RpAll.go g r)
  | _, _, .obj n h e r => .obj (g _ _ n h).1 (g.at' n h).2 e (RpAll.go g r)
  | _, _, .exc n m h p x e r => .exc (g _ _ n h).1 (g.xdict m x).1 (g.at' n h).2 p (g.xdict m x).2 e (RpAll.go g r)
  | _, _, .fnv h => .fnv (g.fnv h)
  | _, _, .clo h r => .clo (g.clo h) (RpAll.go g r)
  | _, _, .kt n h => .kt (g _ _ n h).1 (g.at' n h).2
theorem RpAll.go {L L' : Led} {K : PySem.W.Frag} {H H' : Hp} (g : Go L L' H H') : ∀ {vs : List V} {ds : List D}, RpAll L K H vs ds → RpAll L' K H' vs ds
  | _, _, .nil => .nil
  | _, _, .cons h r => .cons (Rp.go g h) (RpAll.go g r)
end
section
variable {L : Led} {K : PySem.W.Frag} {H : Hp}
theorem RpAll.length : ∀ {vs : List V} {ds : List D}, RpAll L K H vs ds → vs.length = ds.length
  | _, _, .nil => rfl
  | _, _, .cons _ r => by rw [List.length_cons, List.length_cons, RpAll.length r]
theorem RpAll.get : ∀ {vs : List V} {ds : List D} {i : Nat} {d : D}, RpAll L K H vs ds → ds[i]? = some d → ∃ v, vs[i]? = some v ∧ Rp L K H v d
  | _, _, _, _, .nil, e => by simp at e
  | _, _, 0, _, .cons h _, e => by simp at e; subst e; exact ⟨_, rfl, h⟩
  | _, _, i + 1, d, .cons _ r, e => by
    obtain ⟨v, e1, h⟩ := RpAll.get (i := i) (d := d) r (by simpa using e)
    exact ⟨v, by simpa using e1, h⟩
theorem RpAll.append : ∀ {vs ws : List V} {ds es : List D}, RpAll L K H vs ds → RpAll L K H ws es → RpAll L K H (vs ++ ws) (ds ++ es)
  | _, _, _, _, .nil, s => s
  | _, _, _, _, .cons h r, s => .cons h (RpAll.append r s)
theorem RpAll.take : ∀ {vs : List V} {ds : List D} (n : Nat), RpAll L K H vs ds → RpAll L K H (vs.take n) (ds.take n)
  | _, _, 0, _ => .nil
  | _, _, _ + 1, .nil => .nil
  | _, _, n + 1, .cons h r => .cons h (RpAll.take n r)
theorem RpAll.drop : ∀ {vs : List V} {ds : List D} (n : Nat), RpAll L K H vs ds → RpAll L K H (vs.drop n) (ds.drop n)
  | _, _, 0, h => h
  | _, _, _ + 1, .nil => .nil
  | _, _, n + 1, .cons _ r => RpAll.drop n r
theorem RpAll.set {v : V} {d : D} (h : Rp L K H v d) : ∀ {vs : List V} {ds : List D} (i : Nat), RpAll L K H vs ds → RpAll L K H (vs.set i v) (ds.set i d)
  | _, _, _, .nil => .nil
  | _, _, 0, .cons _ r => .cons h r
  | _, _, i + 1, .cons a r => .cons a (RpAll.set h i r)
theorem RpAll.ints : ∀ (ns : List Int), RpAll L K H (ns.map V.int) (ns.map D.int)
  | [] => .nil
  | n :: r => .cons (.int n) (RpAll.ints r)
theorem RpAll.ofInts : ∀ {vs : List V} (ns : List Int), RpAll L K H vs (ns.map D.int) → vs = ns.map V.int
  | _, [], .nil => rfl
  | _, _ :: r, .cons h t => by cases h; rw [RpAll.ofInts r t]; rfl
theorem RpAll.ofBls : ∀ {vs : List V} (ns : List Bool), RpAll L K H vs (ns.map D.bl) → vs = ns.map V.bl
  | _, [], .nil => rfl
  | _, _ :: r, .cons h t => by cases h; rw [RpAll.ofBls r t]; rfl
end
/-- what stands at a, of the ledger -/
def Own (L : Led) (K : PySem.W.Frag) (H : Hp) (a : Addr) : D → Prop
  | .lst ds => ∃ vs, H a = some (.lst vs) ∧ RpAll L K H vs ds
  | .dk ks ds => ∃ vs, H a = some (.dK (ks.zip vs)) ∧ ks.length = vs.length ∧ RpAll L K H vs ds
  | .dt ks ds => ∃ vs, H a = some (.dT (ks.zip vs)) ∧ ks.length = vs.length ∧ RpAll L K H vs ds
  | .obj C ns ds => ∃ dx vs, H a = some (.ins C dx (ns.zip vs)) ∧ ns.length = vs.length ∧ RpAll L K H vs ds
  | .tab q => ∃ ps : Array Value, H a = some (.tbl ps) ∧ TriplesOk ps.toList ∧ ∀ (pos : Pos) (cv : Value), codeAmong pos ps.toList = some cv → ∃ c, cv = .ref c ∧ ¬ inL L c ∧ H c = some (LamX.CodeO c q)
  | _ => False
structure JL (K : PySem.W.Frag) (L : Led) (H : Hp) : Prop where
  nd : (L.map (·.1)).Nodup
  own : ∀ a d, (a, d) ∈ L → Own L K H a d
section
variable {L L' : Led} {K : PySem.W.Frag} {H H' : Hp} {a p : Addr} {d : D}
theorem Own.there (h : Own L K H a d) : ∃ o, H a = some o := by
  cases d with
  | lst ds => exact ⟨_, h.choose_spec.1⟩
  | dk ks ds => exact ⟨_, h.choose_spec.1⟩
  | dt ks ds => exact ⟨_, h.choose_spec.1⟩
  | obj C ns ds => obtain ⟨dx, vs, e, _⟩ := h; exact ⟨_, e⟩
  | tab q => obtain ⟨ps, e, _⟩ := h; exact ⟨_, e⟩
  | _ => exact h.elim
theorem Own.move (h : Own L K H a d) (g : Go L L' H H') (e : ∀ o, H a = some o → H' a = some o) : Own L' K H' a d := by
  cases d with
  | lst ds => obtain ⟨vs, h1, h2⟩ := h; exact ⟨vs, e _ h1, h2.go g⟩
  | dk ks ds => obtain ⟨vs, h1, h3, h2⟩ := h; exact ⟨vs, e _ h1, h3, h2.go g⟩
  | dt ks ds => obtain ⟨vs, h1, h3, h2⟩ := h; exact ⟨vs, e _ h1, h3, h2.go g⟩
  | obj C ns ds => obtain ⟨dx, vs, h1, h3, h2⟩ := h; exact ⟨dx, vs, e _ h1, h3, h2.go g⟩
  | tab q =>
    obtain ⟨ps, h1, h2, h3⟩ := h
    refine ⟨ps, e _ h1, h2, fun pos cv hc => ?_⟩
    obtain ⟨c, q1, n, q2⟩ := h3 pos cv hc
    exact ⟨c, q1, (g _ _ n q2).1, (g.at' n q2).2⟩
  | _ => exact h.elim
theorem JL.same (j : JL K L H) (s : Same H H') : JL K L H' := ⟨j.nd, fun a d m => Own.move (j.own a d m) (Go.same s) fun o e => s a o e⟩
theorem JL.notIn (j : JL K L H) (h : H p = none) : ¬ inL L p := fun m => by
  obtain ⟨q, hq, e⟩ := List.mem_map.mp m
  obtain ⟨o, ho⟩ := Own.there (j.own q.1 q.2 hq)
  rw [e, h] at ho
  cases ho
theorem mem_of_lookup : ∀ {L : Led} {a : Addr} {d : D}, L.lookup a = some d → (a, d) ∈ L
  | [], _, _, h => by simp at h
  | (b, e) :: r, a, d, h => by
    by_cases hb : a = b
    · subst hb
      rw [List.lookup_cons_self] at h
      cases h
      exact List.mem_cons_self
    · have q : (a == b) = false := by simpa using hb
      rw [List.lookup_cons, q] at h
      exact List.mem_cons_of_mem _ (mem_of_lookup h)
theorem JL.look (j : JL K L H) (h : L.lookup a = some d) : Own L K H a d := j.own a d (mem_of_lookup h)
/-- what a datum holds, through the ledger -/
def kD : Key → D
  | .inl i => .int i
  | .inr x => .str x
def con (L : Led) : D → D
  | .ptr a => (L.lookup a).getD (.ptr a)
  | .kt ks => .tup (ks.map kD)
  | d => d
theorem con_lst {v : V} {ds : List D} (j : JL K L H) (r : Rp L K H v d) (e : con L d = .lst ds) : ∃ a vs, v = .ref a ∧ H a = some (.lst vs) ∧ RpAll L K H vs ds := by
  cases d with
  | ptr a =>
    cases r
    have e : (L.lookup a).getD (.ptr a) = _ := e
    cases h : L.lookup a with
    | none => rw [h] at e; cases e
    | some c =>
      rw [h] at e
      have e2 : c = .lst ds := e
      subst e2
      obtain ⟨vs, h1, h2⟩ := j.look h
      exact ⟨a, vs, rfl, h1, h2⟩
  | lst xs =>
    have e2 : xs = ds := by unfold con at e; injection e
    subst e2
    cases r with
    | lst n h r => exact ⟨_, _, rfl, h, r⟩
  | _ => cases e
theorem RpAll.keys : ∀ ks : List Key, RpAll L K H (ks.map kV) (ks.map kD)
  | [] => .nil
  | .inl i :: r => .cons (.int i) (RpAll.keys r)
  | .inr x :: r => .cons (.str x) (RpAll.keys r)
theorem con_tup {v : V} {ds : List D} (j : JL K L H) (r : Rp L K H v d) (e : con L d = .tup ds) : ∃ a vs, v = .ref a ∧ SqT K H a vs ∧ RpAll L K H vs ds := by
  cases d with
  | ptr a =>
    cases r
    have e : (L.lookup a).getD (.ptr a) = _ := e
    cases h : L.lookup a with
    | none => rw [h] at e; cases e
    | some c =>
      rw [h] at e
      have e2 : c = .tup ds := e
      subst e2
      exact (j.look h).elim
  | tup xs =>
    have e2 : xs = ds := by unfold con at e; injection e
    subst e2
    cases r with
    | tup s r => exact ⟨_, _, rfl, s.sq, r⟩
  | kt ks =>
    have e2 : ks.map kD = ds := by unfold con at e; injection e
    subst e2
    cases r with
    | kt n h => exact ⟨_, _, rfl, .inl (.inl h), RpAll.keys ks⟩
  | _ => cases e
/-- .. as a tuple -/
theorem con_tupR {v : V} {ds : List D} (j : JL K L H) (r : Rp L K H v d) (e : con L d = .tup ds) : Rp L K H v (.tup ds) := by
  cases d with
  | ptr a =>
    have e : (L.lookup a).getD (.ptr a) = _ := e
    cases h : L.lookup a with
    | none => rw [h] at e; cases e
    | some c =>
      rw [h] at e
      have e2 : c = .tup ds := e
      subst e2
      exact (j.look h).elim
  | kt ks =>
    have e2 : ks.map kD = ds := by unfold con at e; injection e
    subst e2
    cases r with
    | kt n h => exact .tup (.inl ⟨n, .inl h⟩) (RpAll.keys ks)
  | tup xs =>
    have e2 : xs = ds := by unfold con at e; injection e
    subst e2
    exact r
  | _ => cases e
/-- the items of a list or tuple that may be read -/
def seqs : D → Option (List D)
  | .lst ds => some ds
  | .ro ds => some ds
  | .tup ds => some ds
  | _ => none
theorem con_ro {v : V} {ds : List D} (j : JL K L H) (r : Rp L K H v d) (e : con L d = .ro ds) : ∃ a vs, v = .ref a ∧ SqL K H a vs ∧ RpAll L K H vs ds := by
  cases d with
  | ptr a =>
    cases r
    have e : (L.lookup a).getD (.ptr a) = _ := e
    cases h : L.lookup a with
    | none => rw [h] at e; cases e
    | some c =>
      rw [h] at e
      have e2 : c = .ro ds := e
      subst e2
      exact (j.look h).elim
  | ro xs =>
    have e2 : xs = ds := by unfold con at e; injection e
    subst e2
    cases r with
    | ro s r => exact ⟨_, _, rfl, s.sq, r⟩
  | _ => cases e
theorem con_seq {v : V} {ds : List D} (j : JL K L H) (r : Rp L K H v d) (e : seqs (con L d) = some ds) : ∃ a vs, v = .ref a ∧ (SqL K H a vs ∨ SqT K H a vs) ∧ RpAll L K H vs ds := by
  cases h : con L d with
  | lst xs =>
    rw [h] at e; cases e
    obtain ⟨a, vs, h1, h2, h3⟩ := con_lst j r h
    exact ⟨a, vs, h1, .inl (SqL.of h2), h3⟩
  | ro xs =>
    rw [h] at e; cases e
    obtain ⟨a, vs, h1, h2, h3⟩ := con_ro j r h
    exact ⟨a, vs, h1, .inl h2, h3⟩
  | tup xs =>
    rw [h] at e; cases e
    obtain ⟨a, vs, h1, h2, h3⟩ := con_tup j r h
    exact ⟨a, vs, h1, .inr h2, h3⟩
  | _ => rw [h] at e; cases e
theorem same_new (h : H p = none) (o : HO) : Same H (upd H p o) := fun b u q => by rw [upd_ne (ne_of_none q h)]; exact q
/-- a new thing onto the ledger -/
theorem JL.push (j : JL K L H) (hp : H p = none) {o : HO} (ow : Own ((p, d) :: L) K (upd H p o) p d) : JL K ((p, d) :: L) (upd H p o) ∧ Go L ((p, d) :: L) H (upd H p o) := by
  have np := j.notIn hp
  have g : Go L ((p, d) :: L) H (upd H p o) := .mk' fun a u n h => by
    have ne : a ≠ p := ne_of_none h hp
    exact ⟨fun m => by
      rcases List.mem_cons.mp m with e | e
      · exact ne e
      · exact n e, by rw [upd_ne ne]; exact h⟩
  refine ⟨⟨List.nodup_cons.mpr ⟨np, j.nd⟩, fun a e m => ?_⟩, g⟩
  rcases List.mem_cons.mp m with q | q
  · cases q
    exact ow
  · exact Own.move (j.own a e q) g fun u h => by rw [upd_ne (ne_of_none h hp)]; exact h
end
abbrev DEnv := List (Option D)
inductive Sto (L : Led) (K : PySem.W.Frag) (H : Hp) : St → DEnv → Prop
  | nil : Sto L K H [] []
  | sm {v d σ e} : Rp L K H v d → Sto L K H σ e → Sto L K H (some v :: σ) (some d :: e)
  | no {o σ e} : Sto L K H σ e → Sto L K H (o :: σ) (none :: e)
section
variable {L L' : Led} {K : PySem.W.Frag} {H H' : Hp}
theorem Sto.go (g : Go L L' H H') : ∀ {σ : St} {e : DEnv}, Sto L K H σ e → Sto L' K H' σ e
  | _, _, .nil => .nil
  | _, _, .sm h r => .sm (h.go g) (Sto.go g r)
  | _, _, .no r => .no (Sto.go g r)
theorem Sto.get : ∀ {σ : St} {e : DEnv} {i : Nat} {d : D}, Sto L K H σ e → e[i]? = some (some d) → ∃ v, σ[i]? = some (some v) ∧ Rp L K H v d
  | _, _, _, _, .nil, h => by simp at h
  | _, _, 0, _, .sm h _, q => by simp at q; subst q; exact ⟨_, rfl, h⟩
  | _, _, 0, _, .no _, q => by simp at q
  | _, _, i + 1, d, .sm _ r, q => by
    obtain ⟨v, e1, h⟩ := Sto.get (i := i) (d := d) r (by simpa using q)
    exact ⟨v, by simpa using e1, h⟩
  | _, _, i + 1, d, .no r, q => by
    obtain ⟨v, e1, h⟩ := Sto.get (i := i) (d := d) r (by simpa using q)
    exact ⟨v, by simpa using e1, h⟩
theorem Sto.set {v : V} {d : D} (h : Rp L K H v d) : ∀ {σ : St} {e : DEnv} (i : Nat), Sto L K H σ e → Sto L K H (σ.set i (some v)) (e.set i (some d))
  | _, _, _, .nil => .nil
  | _, _, 0, .sm _ r => .sm h r
  | _, _, 0, .no r => .sm h r
  | _, _, i + 1, .sm q r => .sm q (Sto.set h i r)
  | _, _, i + 1, .no r => .no (Sto.set h i r)
theorem Sto.wipe1 {o : Option V} : ∀ {σ : St} {e : DEnv} (i : Nat), Sto L K H σ e → Sto L K H (σ.set i o) (e.set i none)
  | _, _, _, .nil => .nil
  | _, _, 0, .sm _ r => .no r
  | _, _, 0, .no r => .no r
  | _, _, i + 1, .sm q r => .sm q (Sto.wipe1 i r)
  | _, _, i + 1, .no r => .no (Sto.wipe1 i r)
theorem Sto.start : ∀ {vs : List V} {ds : List D} {n : Nat}, RpAll L K H vs ds → Sto L K H (vs.map some ++ List.replicate n none) (ds.map some ++ List.replicate n none)
  | _, _, 0, .nil => .nil
  | _, _, n + 1, .nil => .no (Sto.start (n := n) .nil)
  | _, _, n, .cons h r => .sm h (Sto.start r)
end
end DL
namespace DL
open PySem L2
/-- an error: its class, what its own dict holds -/
structure Exn where
  cls : Value
  ns : List Str
  vs : List D
def ExR (L : Led) (K : PySem.W.Frag) (H : Hp) (a : Addr) (n : Exn) : Prop :=
  ¬ inL L a ∧ ∃ vs, H a = some (.xd (n.ns.zip vs)) ∧ n.ns.length = vs.length ∧ RpAll L K H vs n.vs
abbrev DK := D → Led → Prop
abbrev DX := Exn → DEnv → Led → Prop
abbrev DE := DEnv → Led → DK → DX → Prop
abbrev DT := DEnv → Led → (Bool → Led → Prop) → DX → Prop
abbrev DA := DEnv → Led → (List D → Led → Prop) → DX → Prop
structure DEnds where
  nx : DEnv → Led → Prop
  rt : DK
  ex : DX
  bk : DEnv → Led → Prop
  ct : DEnv → Led → Prop
abbrev DS := DEnds → DEnv → Led → Prop
def StL (K : PySem.W.Frag) (σ : St) (H : Hp) (env : DEnv) (L : Led) : Prop := Sto L K H σ env ∧ JL K L H
theorem StL.go {K : PySem.W.Frag} {σ : St} {H H' : Hp} {env : DEnv} {L L' : Led} (s : StL K σ H env L) (g : Go L L' H H') (j : JL K L' H') : StL K σ H' env L' := ⟨s.1.go g, j⟩
def KOk (K : PySem.W.Frag) (L : Led) (H : Hp) (k : DK) (Q : VK) : Prop := ∀ d L' v H', k d L' → Go L L' H H' → JL K L' H' → Rp L' K H' v d → Q v H'
def XOk (K : PySem.W.Frag) (Wx : WX) (L : Led) (H : Hp) (x : DX) : Prop := ∀ n env' L' a H' σ', x n env' L' → Go L L' H H' → StL K σ' H' env' L' → ExR L' K H' a n → Wx n.cls (some a) σ' H'
structure EOk (K : PySem.W.Frag) (Wx : WX) (L : Led) (H : Hp) (D' : DEnds) (D : Ends) : Prop where
  nx : ∀ env' L' σ' H', D'.nx env' L' → Go L L' H H' → StL K σ' H' env' L' → D.nx σ' H'
  rt : KOk K L H D'.rt D.rt
  ex : XOk K Wx L H D'.ex
  bk : ∀ env' L' σ' H', D'.bk env' L' → Go L L' H H' → StL K σ' H' env' L' → D.bk σ' H'
  ct : ∀ env' L' σ' H', D'.ct env' L' → Go L L' H H' → StL K σ' H' env' L' → D.ct σ' H'
section
variable {K : PySem.W.Frag} {Wx : WX} {L L1 : Led} {H H1 : Hp} {k : DK} {Q : VK} {x : DX} {D' : DEnds} {D : Ends}
theorem KOk.go (h : KOk K L H k Q) (g : Go L L1 H H1) : KOk K L1 H1 k Q := fun d L' v H' q g' j r => h d L' v H' q (g.trans g') j r
theorem XOk.go (h : XOk K Wx L H x) (g : Go L L1 H H1) : XOk K Wx L1 H1 x := fun n e L' a H' σ' q g' s r => h n e L' a H' σ' q (g.trans g') s r
theorem EOk.go (h : EOk K Wx L H D' D) (g : Go L L1 H H1) : EOk K Wx L1 H1 D' D :=
  ⟨fun e L' σ' H' q g' s => h.nx e L' σ' H' q (g.trans g') s, h.rt.go g, h.ex.go g, fun e L' σ' H' q g' s => h.bk e L' σ' H' q (g.trans g') s, fun e L' σ' H' q g' s => h.ct e L' σ' H' q (g.trans g') s⟩
end
def SimE (K : PySem.W.Frag) (Wx : WX) (te : TE) (de : DE) : Prop := ∀ σ H env L k x Q, StL K σ H env L → de env L k x → KOk K L H k Q → XOk K Wx L H x → te σ H Q
def SimT (K : PySem.W.Frag) (Wx : WX) (te : TT) (de : DT) : Prop := ∀ σ H env L k x Q, StL K σ H env L → de env L k x → (∀ b L' H', k b L' → Go L L' H H' → JL K L' H' → Q b H') → XOk K Wx L H x → te σ H Q
def SimA (K : PySem.W.Frag) (Wx : WX) (ta : TA) (da : DA) : Prop := ∀ σ H env L k x Q, StL K σ H env L → da env L k x → (∀ ds L' vs H', k ds L' → Go L L' H H' → JL K L' H' → RpAll L' K H' vs ds → Q vs H') → XOk K Wx L H x → ta σ H Q
def SimS (K : PySem.W.Frag) (Wx : WX) (ts : TS) (ds : DS) : Prop := ∀ σ H env L D' D, StL K σ H env L → ds D' env L → EOk K Wx L H D' D → ts D σ H
structure QE (X : Cx) (Wx : WX) (e : Expr) (de : DE) : Prop where
  ex : ∃ te, PE X e te ∧ SimE X.K Wx te de
structure QT (X : Cx) (Wx : WX) (e : Expr) (dt : DT) : Prop where
  ex : ∃ te, PT X e te ∧ SimT X.K Wx te dt
structure QW (X : Cx) (Wx : WX) (e : Expr) (dt : DT) : Prop where
  ex : ∃ te, PW X e te ∧ SimT X.K Wx te dt
structure QA (X : Cx) (Wx : WX) (es : List Expr) (da : DA) : Prop where
  ex : ∃ ta, PA X es ta ∧ SimA X.K Wx ta da
structure QS (X : Cx) (Wx : WX) (st : Stmt) (ds : DS) : Prop where
  ex : ∃ ts, PS X st ts ∧ SimS X.K Wx ts ds
structure QSs (X : Cx) (Wx : WX) (st : List Stmt) (ds : DS) : Prop where
  ex : ∃ ts, PSs X st ts ∧ SimS X.K Wx ts ds
section
variable {X : Cx} {Wx : WX} {a b c e : Expr} {es : List Expr} {da db dc de : DE} {pos : Pos}
def dVar (i : Nat) : DE := fun env L k _ => match env[i]? with
  | some (some d) => k d L
  | _ => False
theorem qv (i : Nat) {x : Str} {pos : Pos} (hN : X.N[i]? = some x := by rfl) (hv : Vis X.env.scope x := by first | exact Or.inl rfl | exact Or.inr (Or.inl rfl) | exact Or.inr (Or.inr rfl)) (hd : (x == ("__debug__" : Str)) = false := by decide)
    (hcd : (x == ("__classdict__" : Str)) = false := by decide) : QE X Wx (.Name x pos) (dVar i) := by
  refine ⟨tVar i, pv i hN hv hd hcd, fun σ H env L k x Q st h hk _ => ?_⟩
  unfold dVar at h
  split at h
  · rename_i d hd
    obtain ⟨v, e1, r⟩ := st.1.get hd
    exact ⟨v, e1, hk d L v H h (Go.refl L H) st.2 r⟩
  · exact h.elim
def dC (d : D) : DE := fun _ L k _ => k d L
theorem sim_c {K : PySem.W.Frag} {v : V} {d : D} (r : ∀ L H, Rp L K H v d) : SimE K Wx (tC v) (dC d) := fun _ H _ L _ _ _ st h hk _ => hk d L v H h (Go.refl L H) st.2 (r L H)
theorem q_int {i j pos} : QE X Wx (.Constant (.int i) j pos) (dC (.int i)) := ⟨_, pe_int, sim_c fun _ _ => .int i⟩
theorem q_bl {b j pos} : QE X Wx (.Constant (.bool b) j pos) (dC (.bl b)) := ⟨_, pe_bl, sim_c fun _ _ => .bl b⟩
theorem q_non {j pos} : QE X Wx (.Constant .none j pos) (dC .non) := ⟨_, pe_non, sim_c fun _ _ => .non⟩
theorem q_str {x j pos} : QE X Wx (.Constant (.str x) j pos) (dC (.str x)) := ⟨_, pe_str, sim_c fun _ _ => .str x⟩
theorem q_glob {x : Str} {v : V} {d : D} {u : Value} {pos : Pos} (hg : Gl X x) (hm : X.mg x = some u) (r : RelV v u) (rd : ∀ L H, Rp L X.K H v d) (hd : (x == ("__debug__" : Str)) = false := by decide) : QE X Wx (.Name x pos) (dC d) :=
  ⟨_, pe_glob hg hm r hd, sim_c rd⟩
theorem q_bltn {x : Str} {v : V} {d : D} {u : Value} {pos : Pos} (hg : Gl X x) (hm : X.mg x = none) (hv : bootBuiltins x = some u) (r : RelV v u) (rd : ∀ L H, Rp L X.K H v d) (hn : x ≠ "__name__" := by decide) (hd : (x == ("__debug__" : Str)) = false := by decide) : QE X Wx (.Name x pos) (dC d) :=
  ⟨_, pe_bltn hg hm hv r hn hd, sim_c rd⟩
/-- g: two data, the ledger, what is wanted of the answer -/
abbrev G2 := D → D → Led → (D → Prop) → Prop
def ROk (K : PySem.W.Frag) (L : Led) (H : Hp) (k : D → Prop) (Q : VK) : Prop := ∀ d v H', k d → Same H H' → Rp L K H' v d → Q v H'
def Sim2 (K : PySem.W.Frag) (r : R2) (g : G2) : Prop := ∀ H L va vb a b k Q, JL K L H → Rp L K H va a → Rp L K H vb b → g a b L k → ROk K L H k Q → r va vb H Q
def OQ (X : Cx) (f : Value → Value → Sem Value) (g : G2) : Prop := ∃ r, OpR X f r ∧ Sim2 X.K r g
def dOp (g : G2) (da db : DE) : DE := fun env L k x => da env L (fun a L1 => db env L1 (fun b L2 => g a b L2 fun d => k d L2) x) x
theorem sim_op {K : PySem.W.Frag} {ta tb : TE} {r : R2} {g : G2} (sa : SimE K Wx ta da) (sb : SimE K Wx tb db) (sr : Sim2 K r g) : SimE K Wx (tOp r ta tb) (dOp g da db) := by
  intro σ H env L k x Q st h hk hx
  refine sa σ H env L _ x _ st h (fun a L1 va H1 h1 g1 j1 r1 => ?_) hx
  refine sb σ H1 env L1 _ x _ (st.go g1 j1) h1 (fun b L2 vb H2 h2 g2 j2 r2 => ?_) (hx.go g1)
  exact sr H2 L2 va vb a b _ Q j2 (r1.go g2) r2 h2 fun d v H' q s rp => hk d L2 v H' q ((g1.trans g2).trans (Go.same s)) (j2.same s) rp
theorem q_op {op : Operator} {g : G2} (ho : OQ X (binaryOp op) g) (ha : QE X Wx a da) (hb : QE X Wx b db) : QE X Wx (.BinOp a op b pos) (dOp g da db) := by
  obtain ⟨ta, pa, sa⟩ := ha.ex
  obtain ⟨tb, pb, sb⟩ := hb.ex
  obtain ⟨r, hr, sr⟩ := ho
  exact ⟨_, pe_op hr pa pb, sim_op sa sb sr⟩
theorem q_cmp {op : CmpOp} {g : G2} (ho : OQ X (compareOp op) g) (ha : QE X Wx a da) (hb : QE X Wx b db) (hm : behindInMarks op b = false := by rfl) : QE X Wx (.Compare a [op] [b] pos) (dOp g da db) := by
  obtain ⟨ta, pa, sa⟩ := ha.ex
  obtain ⟨tb, pb, sb⟩ := hb.ex
  obtain ⟨r, hr, sr⟩ := ho
  exact ⟨_, pe_cmpR hr pa pb hm, sim_op sa sb sr⟩
/-- two rules for one operator -/
theorem opr_or {f : Value → Value → Sem Value} {r1 r2 : R2} (h1 : OpR X f r1) (h2 : OpR X f r2) : OpR X f (fun x y H Q => r1 x y H Q ∨ r2 x y H Q) := fun pins s σ H x y u v Q I rx ry h =>
  h.elim (fun q => h1 pins s σ H x y u v Q I rx ry q) (fun q => h2 pins s σ H x y u v Q I rx ry q)
theorem OQ.or {f : Value → Value → Sem Value} {g1 g2 g : G2} (h1 : OQ X f g1) (h2 : OQ X f g2) (hg : ∀ a b L k, g a b L k → g1 a b L k ∨ g2 a b L k) : OQ X f g := by
  obtain ⟨r1, o1, s1⟩ := h1
  obtain ⟨r2, o2, s2⟩ := h2
  exact ⟨_, opr_or o1 o2, fun H L va vb a b k Q j ra rb h hk => (hg a b L k h).elim (fun q => .inl (s1 H L va vb a b k Q j ra rb q hk)) (fun q => .inr (s2 H L va vb a b k Q j ra rb q hk))⟩
/-- two ints -/
def gI (C : Int → Int → Prop) (f : Int → Int → D) : G2 := fun a b _ k => match a, b with
  | .int i, .int j => C i j ∧ k (f i j)
  | _, _ => False
def gI0 (f : Int → Int → D) : G2 := fun a b _ k => match a, b with
  | .int i, .int j => k (f i j)
  | _, _ => False
theorem sim2_I {K : PySem.W.Frag} {C : Int → Int → Prop} {f : Int → Int → V} {f' : Int → Int → D} (hf : ∀ i j L H, Rp L K H (f i j) (f' i j)) : Sim2 K (rI C f) (gI C f') := by
  intro H L va vb a b k Q j ra rb h hk
  cases ra <;> cases rb <;> first | exact h.elim | skip
  exact ⟨_, _, rfl, rfl, h.1, hk _ _ H h.2 (Same.refl H) (hf _ _ L H)⟩
theorem sim2_I0 {K : PySem.W.Frag} {f : Int → Int → V} {f' : Int → Int → D} (hf : ∀ i j L H, Rp L K H (f i j) (f' i j)) : Sim2 K (rI0 f) (gI0 f') := by
  intro H L va vb a b k Q j ra rb h hk
  cases ra <;> cases rb <;> first | exact h.elim | skip
  exact ⟨_, _, rfl, rfl, hk _ _ H h (Same.refl H) (hf _ _ L H)⟩
abbrev gAddI : G2 := gI0 fun i j => .int (i + j)
abbrev gSubI : G2 := gI0 fun i j => .int (i - j)
def CDivA (_ j : Int) : Prop := j ≠ 0 ∧ j.natAbs.log2 < 9000
abbrev gFdiv : G2 := gI CDivA fun i j => .int (i.fdiv j)
abbrev gMod : G2 := gI (fun _ j => j ≠ 0) fun i j => .int (i.fmod j)
abbrev gPow : G2 := gI CPow fun i j => .int (i ^ j.toNat)
theorem oq_addI : OQ X (binaryOp .Add) gAddI := ⟨_, op_add, sim2_I0 fun _ _ _ _ => .int _⟩
theorem oq_sub : OQ X (binaryOp .Sub) gSubI := ⟨_, op_sub, sim2_I0 fun _ _ _ _ => .int _⟩
theorem op_fdivA : OpR X (binaryOp .FloorDiv) (rI CDivA fun i j => .int (i.fdiv j)) := opI fun i j _ _ _ _ _ hc q =>
  PyProof.Rows.floordiv_int hc.1 q (.inl (PyProof.noPylong_of_log2 hc.2))
theorem oq_fdiv : OQ X (binaryOp .FloorDiv) gFdiv := ⟨_, op_fdivA, sim2_I fun _ _ _ _ => .int _⟩
theorem oq_mod : OQ X (binaryOp .Mod) gMod := ⟨_, op_modN, sim2_I fun _ _ _ _ => .int _⟩
theorem oq_pow : OQ X (binaryOp .Pow) gPow := ⟨_, op_pow, sim2_I fun _ _ _ _ => .int _⟩
abbrev gLt : G2 := gI0 fun i j => .bl (decide (i < j))
abbrev gLe : G2 := gI0 fun i j => .bl (decide (i ≤ j))
abbrev gGt : G2 := gI0 fun i j => .bl (decide (j < i))
abbrev gGe : G2 := gI0 fun i j => .bl (decide (j ≤ i))
theorem oq_lt : OQ X (compareOp .Lt) gLt := ⟨_, op_lt, sim2_I0 fun _ _ _ _ => .bl _⟩
theorem oq_le : OQ X (compareOp .LtE) gLe := ⟨_, op_le, sim2_I0 fun _ _ _ _ => .bl _⟩
theorem oq_gt : OQ X (compareOp .Gt) gGt := ⟨_, op_gt, sim2_I0 fun _ _ _ _ => .bl _⟩
theorem oq_ge : OQ X (compareOp .GtE) gGe := ⟨_, op_ge, sim2_I0 fun _ _ _ _ => .bl _⟩
end
end DL
namespace DL
open PySem L2
mutual
def toPy : D → PyData
  | .non => .none
  | .bl b => .bool b
  | .int i => .int i
  | .str x => .str x
  | .lst xs => .list (toPys xs)
  | .tup xs => .tuple (toPys xs)
  | .ro _ => .dict [] | .dk _ _ => .dict [] | .dt _ _ => .dict [] | .obj _ _ _ => .dict [] | .exc _ _ _ => .dict [] | .fnv _ _ => .dict [] | .clo _ _ => .dict [] | .tab _ => .dict [] | .ptr _ => .dict [] | .ty _ => .dict [] | .kt _ => .dict []
def toPys : List D → List PyData
  | [] => []
  | d :: r => toPy d :: toPys r
end
/-- whether a datum is of None, bools, ints, texts, lists, tuples -/
def shp (d : D) : Bool := SeqAt.shaped (toPy d)
def eqD (a b : D) : Bool := PyData.eqv (toPy a) (toPy b)
mutual
theorem Rp.dp {L : Led} {K : PySem.W.Frag} {H : Hp} : ∀ {v : V} {d : D}, Rp L K H v d → PyData.canLay0 (toPy d) = true → Dp K H v (toPy d)
  | _, _, .non, _ => .non
  | _, _, .bl b, _ => .bl b
  | _, _, .int i, _ => .int i
  | _, _, .str x, _ => .str x
  | _, _, .lst n h r, c => .lst (SqL.of h) (RpAll.dp r (by simpa only [toPy, PyData.canLay0] using c))
  | _, _, .tup s r, c => .tup s.sq (RpAll.dp r (by simpa only [toPy, PyData.canLay0] using c))
  | _, _, .ro _ _, c => by simp [toPy, PyData.canLay0] at c
  | _, _, .ty _, c => by simp [toPy, PyData.canLay0] at c
  | _, _, .kt _ _, c => by simp [toPy, PyData.canLay0] at c
  | _, _, .ptr _, c => by simp [toPy, PyData.canLay0] at c
  | _, _, .dk _ _ _ _, c => by simp [toPy, PyData.canLay0] at c
  | _, _, .dt _ _ _ _, c => by simp [toPy, PyData.canLay0] at c
  | _, _, .obj _ _ _ _, c => by simp [toPy, PyData.canLay0] at c
  | _, _, .exc _ _ _ _ _ _ _, c => by simp [toPy, PyData.canLay0] at c
  | _, _, .fnv _, c => by simp [toPy, PyData.canLay0] at c
  | _, _, .clo _ _, c => by simp [toPy, PyData.canLay0] at c
theorem RpAll.dp {L : Led} {K : PySem.W.Frag} {H : Hp} : ∀ {vs : List V} {ds : List D}, RpAll L K H vs ds → PyData.canLayAll0 (toPys ds) = true → DpAll K H vs (toPys ds)
  | _, _, .nil, _ => .nil
  | _, _, .cons (d := d) (ds := ds) h r, c => by
    have c' : PyData.canLay0 (toPy d) = true ∧ PyData.canLayAll0 (toPys ds) = true := by simpa only [toPys, PyData.canLayAll0, Bool.and_eq_true] using c
    exact .cons (Rp.dp h c'.1) (RpAll.dp r c'.2)
end
def gEq : G2 := fun a b _ k => shp a = true ∧ shp b = true ∧ k (.bl (eqD a b))
def gNe : G2 := fun a b _ k => shp a = true ∧ shp b = true ∧ k (.bl (!eqD a b))
section
variable {X : Cx} {Wx : WX} {a b c e : Expr} {es : List Expr} {da db dc de : DE} {pos : Pos}
theorem oq_eq (hu : X.A.units + 64 < cLine) : OQ X (compareOp .Eq) gEq := ⟨_, op_eqD hu, fun H L va vb a b k Q j ra rb h hk => by
  obtain ⟨h1, h2, h3⟩ := h
  exact ⟨_, _, ra.dp (SeqAt.canLay_of_shaped h1), rb.dp (SeqAt.canLay_of_shaped h2), h1, h2, hk _ _ H h3 (Same.refl H) (.bl _)⟩⟩
theorem oq_ne (hu : X.A.units + 64 < cLine) : OQ X (compareOp .NotEq) gNe := ⟨_, op_neD hu, fun H L va vb a b k Q j ra rb h hk => by
  obtain ⟨h1, h2, h3⟩ := h
  exact ⟨_, _, ra.dp (SeqAt.canLay_of_shaped h1), rb.dp (SeqAt.canLay_of_shaped h2), h1, h2, hk _ _ H h3 (Same.refl H) (.bl _)⟩⟩
/-- flat things: None, bools, ints, texts -/
def scD : D → D → Bool
  | .non, .non => true
  | .bl _, .bl _ => true
  | .int _, .int _ => true
  | .str _, .str _ => true
  | _, _ => false
def flEq : D → D → Bool
  | .non, .non => true
  | .bl a, .bl b => decide (a = b)
  | .int a, .int b => decide (a = b)
  | .str a, .str b => decide (a = b)
  | _, _ => false
def gEqF : G2 := fun a b _ k => scD a b = true ∧ k (.bl (flEq a b))
def gNeF : G2 := fun a b _ k => scD a b = true ∧ k (.bl (!flEq a b))
theorem flEq_of {L : Led} {K : PySem.W.Frag} {H : Hp} {va vb : V} {a b : D} (ra : Rp L K H va a) (rb : Rp L K H vb b) (h : scD a b = true) : scal va vb = true ∧ decide (va = vb) = flEq a b := by
  cases ra <;> cases rb <;> first | exact absurd h Bool.false_ne_true | skip
  · exact ⟨rfl, by simp [flEq]⟩
  · exact ⟨rfl, by simp [flEq]⟩
  · exact ⟨rfl, by simp [flEq]⟩
  · exact ⟨rfl, by simp [flEq]⟩
theorem oq_eqF : OQ X (compareOp .Eq) gEqF := ⟨_, op_eq, fun H L va vb a b k Q j ra rb h hk => by
  obtain ⟨h1, h2⟩ := flEq_of ra rb h.1
  exact ⟨h1, by rw [h2]; exact hk _ _ H h.2 (Same.refl H) (.bl _)⟩⟩
theorem oq_neF : OQ X (compareOp .NotEq) gNeF := ⟨_, op_ne, fun H L va vb a b k Q j ra rb h hk => by
  obtain ⟨h1, h2⟩ := flEq_of ra rb h.1
  exact ⟨h1, by rw [h2]; exact hk _ _ H h.2 (Same.refl H) (.bl _)⟩⟩
def isNon : D → Bool
  | .non => true
  | _ => false
def gIsN : G2 := fun a b _ k => match b with
  | .non => k (.bl (isNon a))
  | _ => False
def gNotN : G2 := fun a b _ k => match b with
  | .non => k (.bl (!isNon a))
  | _ => False
theorem isNon_of {L : Led} {K : PySem.W.Frag} {H : Hp} {va : V} {a : D} (ra : Rp L K H va a) : decide (va = .non) = isNon a := by
  cases ra <;> first | rfl | (exact decide_eq_false (fun h => nomatch h))
theorem oq_isN : OQ X (compareOp .Is) gIsN := ⟨_, op_isN, fun H L va vb a b k Q j ra rb h hk => by
  cases rb <;> first | exact h.elim | skip
  exact ⟨rfl, by rw [isNon_of ra]; exact hk _ _ H h (Same.refl H) (.bl _)⟩⟩
theorem oq_notN : OQ X (compareOp .IsNot) gNotN := ⟨_, op_notN, fun H L va vb a b k Q j ra rb h hk => by
  cases rb <;> first | exact h.elim | skip
  exact ⟨rfl, by rw [isNon_of ra]; exact hk _ _ H h (Same.refl H) (.bl _)⟩⟩
theorem atI_of {L : Led} {K : PySem.W.Frag} {H : Hp} {vs : List V} {ds : List D} {i : Int} {d : D} (r : RpAll L K H vs ds) (h : atI ds i = some d) : ∃ v, atI vs i = some v ∧ Rp L K H v d := by
  unfold atI at h ⊢
  rw [r.length]
  cases e : ixN ds.length i with
  | none => rw [e] at h; cases h
  | some j =>
    rw [e] at h
    exact r.get h
/-- a list, a tuple at a place -/
def gIx : G2 := fun a b L k => match b with
  | .int i => match seqs (con L a) with
    | some ds => match atI ds i with
      | some d => k d
      | none => False
    | none => False
  | _ => False
def rIxQ (K : PySem.W.Frag) : R2 := fun x y H Q => rIxL K x y H Q ∨ rIxT K x y H Q
theorem ix_or {r1 r2 : R2} (h1 : IxR X r1) (h2 : IxR X r2) : IxR X (fun x y H Q => r1 x y H Q ∨ r2 x y H Q) := fun value slice pins s σ H x y v u Q I rx ry h hs =>
  h.elim (fun q => h1 value slice pins s σ H x y v u Q I rx ry q hs) (fun q => h2 value slice pins s σ H x y v u Q I rx ry q hs)
theorem sim_ix {K : PySem.W.Frag} : Sim2 K (rIxQ K) gIx := by
  intro H L va vb a b k Q j ra rb h hk
  cases rb <;> first | exact h.elim | skip
  unfold gIx at h
  simp only at h
  split at h
  · rename_i ds hd
    split at h
    · rename_i d hi
      obtain ⟨p, vs, rfl, hs, r⟩ := con_seq j ra hd
      obtain ⟨v, hv, rv⟩ := atI_of r hi
      rcases hs with hs | hs
      · exact .inl ⟨p, vs, _, v, rfl, rfl, hs, hv, hk _ _ H h (Same.refl H) rv⟩
      · exact .inr ⟨p, vs, _, v, rfl, rfl, hs, hv, hk _ _ H h (Same.refl H) rv⟩
    · exact h.elim
  · exact h.elim
theorem q_ix (ha : QE X Wx a da) (hb : QE X Wx b db) (hs : PlainIx b := by intro _ _; rfl) : QE X Wx (.Subscript a b pos) (dOp gIx da db) := by
  obtain ⟨ta, pa, sa⟩ := ha.ex
  obtain ⟨tb, pb, sb⟩ := hb.ex
  exact ⟨_, pe_ix (ix_or ix_list ix_tup) pa pb hs, sim_op sa sb sim_ix⟩
/-- a text's sign at a place -/
def gIxS : G2 := fun a b _ k => match a, b with
  | .str z, .int i => z.length ≤ sizeLine ∧ match atI z.cps.toList i with
    | some c => k (.str ⟨#[c]⟩)
    | none => False
  | _, _ => False
theorem sim_ixS {K : PySem.W.Frag} : Sim2 K rIxS gIxS := by
  intro H L va vb a b k Q j ra rb h hk
  cases ra <;> cases rb <;> first | exact h.elim | skip
  obtain ⟨hz, h⟩ := h
  split at h
  · rename_i c hc
    exact ⟨_, _, c, rfl, rfl, hz, hc, hk _ _ H h (Same.refl H) (.str _)⟩
  · exact h.elim
end
end DL
namespace DL
open PySem L2
section
variable {X : Cx} {Wx : WX} {a b c e : Expr} {es rest : List Expr} {da db dc de : DE} {dt du : DT} {dl : DA} {pos : Pos}
abbrev G1 := D → Led → (D → Prop) → Prop
def dUn (g : G1) (da : DE) : DE := fun env L k x => da env L (fun a L1 => g a L1 fun d => k d L1) x
def Sim1 (K : PySem.W.Frag) (r : V → Hp → VK → Prop) (g : G1) : Prop := ∀ H L va a k Q, JL K L H → Rp L K H va a → g a L k → ROk K L H k Q → r va H Q
theorem sim_un {K : PySem.W.Frag} {ta : TE} {r : V → Hp → VK → Prop} {g : G1} (sa : SimE K Wx ta da) (sr : Sim1 K r g) : SimE K Wx (tUn r ta) (dUn g da) := by
  intro σ H env L k x Q st h hk hx
  refine sa σ H env L _ x _ st h (fun a L1 va H1 h1 g1 j1 r1 => ?_) hx
  exact sr H1 L1 va a _ Q j1 r1 h1 fun d v H' q s rp => hk d L1 v H' q (g1.trans (Go.same s)) (j1.same s) rp
def gNeg : G1 := fun a _ k => match a with
  | .int i => k (.int (-i))
  | _ => False
theorem q_neg (ha : QE X Wx a da) : QE X Wx (.UnaryOp .USub a pos) (dUn gNeg da) := by
  obtain ⟨ta, pa, sa⟩ := ha.ex
  refine ⟨_, pe_un un_neg pa, sim_un sa fun H L va a k Q j ra h hk => ?_⟩
  cases ra <;> first | exact h.elim | skip
  exact ⟨_, rfl, hk _ _ H h (Same.refl H) (.int _)⟩
def dAndV (da db : DE) : DE := fun env L k x => da env L (fun a L1 => match a with
  | .bl true => db env L1 k x
  | .bl false => k (.bl false) L1
  | _ => False) x
def dNotV (da : DE) : DE := fun env L k x => da env L (fun a L1 => match a with
  | .bl b => k (.bl (!b)) L1
  | _ => False) x
theorem q_one {op} (h : QE X Wx a da) : QE X Wx (.BoolOp op [a] pos) da := by
  obtain ⟨ta, pa, sa⟩ := h.ex
  exact ⟨_, pe_one pa, sa⟩
theorem q_and (ha : QE X Wx a da) (hb : QE X Wx (.BoolOp .And (b :: rest) pos) db) : QE X Wx (.BoolOp .And (a :: b :: rest) pos) (dAndV da db) := by
  obtain ⟨ta, pa, sa⟩ := ha.ex
  obtain ⟨tb, pb, sb⟩ := hb.ex
  refine ⟨_, pe_and pa pb, fun σ H env L k x Q st h hk hx => ?_⟩
  refine sa σ H env L _ x _ st h (fun a L1 va H1 h1 g1 j1 r1 => ?_) hx
  cases r1 <;> first | exact h1.elim | skip
  rename_i b
  refine ⟨b, rfl, ?_⟩
  cases b with
  | true => exact iteT (sb σ H1 env L1 k x Q (st.go g1 j1) h1 (hk.go g1) (hx.go g1))
  | false => exact iteF (hk _ L1 _ H1 h1 g1 j1 (.bl false))
theorem q_not (ha : QE X Wx a da) : QE X Wx (.UnaryOp .Not a pos) (dNotV da) := by
  obtain ⟨ta, pa, sa⟩ := ha.ex
  refine ⟨_, pe_not pa, fun σ H env L k x Q st h hk hx => ?_⟩
  refine sa σ H env L _ x _ st h (fun a L1 va H1 h1 g1 j1 r1 => ?_) hx
  cases r1 <;> first | exact h1.elim | skip
  exact ⟨_, rfl, hk _ L1 _ H1 h1 g1 j1 (.bl _)⟩
def dB (da : DE) : DT := fun env L k x => da env L (fun a L1 => match a with
  | .bl b => k b L1
  | _ => False) x
theorem sim_B {K : PySem.W.Frag} {ta : TE} (sa : SimE K Wx ta da) : SimT K Wx (tB ta) (dB da) := by
  intro σ H env L k x Q st h hk hx
  refine sa σ H env L _ x _ st h (fun a L1 va H1 h1 g1 j1 r1 => ?_) hx
  cases r1 <;> first | exact h1.elim | skip
  exact ⟨_, rfl, hk _ L1 H1 h1 g1 j1⟩
theorem t_val (h : QE X Wx e da) (he : ∀ whole, isTrue e X.env whole = (do let v ← whole; standAt e.pos; holding [v] (truthy v)) := by intro _; rfl) : QT X Wx e (dB da) := by
  obtain ⟨ta, pa, sa⟩ := h.ex
  exact ⟨_, pt_val pa he, sim_B sa⟩
theorem t_cmp {op : CmpOp} {g : G2} (ho : OQ X (compareOp op) g) (ha : QE X Wx a da) (hb : QE X Wx b db) (hm : behindInMarks op b = false := by rfl) : QT X Wx (.Compare a [op] [b] pos) (dB (dOp g da db)) := by
  obtain ⟨ta, pa, sa⟩ := ha.ex
  obtain ⟨tb, pb, sb⟩ := hb.ex
  obtain ⟨r, hr, sr⟩ := ho
  refine ⟨_, pt_cmpR hr pa pb hm, fun σ H env L k x Q st h hk hx => ?_⟩
  exact sim_B (sim_op sa sb sr) σ H env L k x Q st h hk hx
def dTAnd (dt du : DT) : DT := fun env L k x => dt env L (fun b L1 => match b with
  | true => du env L1 k x
  | false => k false L1) x
def dTOr (dt du : DT) : DT := fun env L k x => dt env L (fun b L1 => match b with
  | true => k true L1
  | false => du env L1 k x) x
def dTNot (dt : DT) : DT := fun env L k x => dt env L (fun b L1 => k (!b) L1) x
theorem w_and1 (h : QT X Wx a dt) : QW X Wx (.BoolOp .And [a] pos) dt := by
  obtain ⟨ta, pa, sa⟩ := h.ex
  exact ⟨_, pw_and1 pa, sa⟩
theorem w_or1 (h : QT X Wx a dt) : QW X Wx (.BoolOp .Or [a] pos) dt := by
  obtain ⟨ta, pa, sa⟩ := h.ex
  exact ⟨_, pw_or1 pa, sa⟩
theorem w_and (ha : QT X Wx a dt) (hb : QW X Wx (.BoolOp .And (b :: rest) pos) du) : QW X Wx (.BoolOp .And (a :: b :: rest) pos) (dTAnd dt du) := by
  obtain ⟨ta, pa, sa⟩ := ha.ex
  obtain ⟨tb, pb, sb⟩ := hb.ex
  refine ⟨_, pw_and pa pb, fun σ H env L k x Q st h hk hx => ?_⟩
  refine sa σ H env L _ x _ st h (fun b L1 H1 h1 g1 j1 => ?_) hx
  cases b with
  | true => exact iteT (sb σ H1 env L1 k x Q (st.go g1 j1) h1 (fun b L2 H2 q g j => hk b L2 H2 q (g1.trans g) j) (hx.go g1))
  | false => exact iteF (hk _ L1 H1 h1 g1 j1)
theorem w_or (ha : QT X Wx a dt) (hb : QW X Wx (.BoolOp .Or (b :: rest) pos) du) : QW X Wx (.BoolOp .Or (a :: b :: rest) pos) (dTOr dt du) := by
  obtain ⟨ta, pa, sa⟩ := ha.ex
  obtain ⟨tb, pb, sb⟩ := hb.ex
  refine ⟨_, pw_or pa pb, fun σ H env L k x Q st h hk hx => ?_⟩
  refine sa σ H env L _ x _ st h (fun b L1 H1 h1 g1 j1 => ?_) hx
  cases b with
  | true => exact iteT (hk _ L1 H1 h1 g1 j1)
  | false => exact iteF (sb σ H1 env L1 k x Q (st.go g1 j1) h1 (fun b L2 H2 q g j => hk b L2 H2 q (g1.trans g) j) (hx.go g1))
theorem QW.t (h : QW X Wx e dt) : QT X Wx e dt := by
  obtain ⟨ta, pa, sa⟩ := h.ex
  exact ⟨_, pa.pt, sa⟩
theorem t_not (h : QT X Wx a dt) : QT X Wx (.UnaryOp .Not a pos) (dTNot dt) := by
  obtain ⟨ta, pa, sa⟩ := h.ex
  refine ⟨_, pt_not pa, fun σ H env L k x Q st h hk hx => ?_⟩
  exact sa σ H env L _ x _ st h (fun b L1 H1 h1 g1 j1 => hk _ L1 H1 h1 g1 j1) hx
/-- a if t else b -/
def dIf (dt : DT) (da db : DE) : DE := fun env L k x => dt env L (fun b L1 => match b with
  | true => da env L1 k x
  | false => db env L1 k x) x
theorem q_if (hc : QT X Wx c dt) (ha : QE X Wx a da) (hb : QE X Wx b db) : QE X Wx (.IfExp c a b pos) (dIf dt da db) := by
  obtain ⟨tc, pc, sc⟩ := hc.ex
  obtain ⟨ta, pa, sa⟩ := ha.ex
  obtain ⟨tb, pb, sb⟩ := hb.ex
  refine ⟨_, pe_ifExp pc pa pb, fun σ H env L k x Q st h hk hx => ?_⟩
  refine sc σ H env L _ x _ st h (fun b L1 H1 h1 g1 j1 => ?_) hx
  cases b with
  | true => exact iteT (sa σ H1 env L1 k x Q (st.go g1 j1) h1 (hk.go g1) (hx.go g1))
  | false => exact iteF (sb σ H1 env L1 k x Q (st.go g1 j1) h1 (hk.go g1) (hx.go g1))
/-- a < b < c -/
def dChain (g g' : G2) (da db dc : DE) : DE := fun env L k x => da env L (fun a L1 => db env L1 (fun b L2 => g a b L2 fun z => match z with
  | .bl true => dc env L2 (fun c L3 => g' b c L3 fun d => k d L3) x
  | .bl false => k (.bl false) L2
  | _ => False) x) x
theorem sim_chain {K : PySem.W.Frag} {ta tb tc : TE} {r r' : R2} {g g' : G2} (sa : SimE K Wx ta da) (sb : SimE K Wx tb db) (sc : SimE K Wx tc dc) (sr : Sim2 K r g) (sr' : Sim2 K r' g') : SimE K Wx (tChain r r' ta tb tc) (dChain g g' da db dc) := by
  intro σ H env L k x Q st h hk hx
  refine sa σ H env L _ x _ st h (fun a L1 va H1 h1 g1 j1 r1 => ?_) hx
  refine sb σ H1 env L1 _ x _ (st.go g1 j1) h1 (fun b L2 vb H2 h2 g2 j2 r2 => ?_) (hx.go g1)
  refine sr H2 L2 va vb a b _ _ j2 (r1.go g2) r2 h2 fun z v H' q s rp => ?_
  have g3 : Go L L2 H H' := (g1.trans g2).trans (Go.same s)
  cases rp <;> first | exact q.elim | skip
  rename_i bb
  refine ⟨bb, rfl, ?_⟩
  cases bb with
  | true =>
    refine iteT (sc σ H' env L2 _ x _ (st.go g3 (j2.same s)) q (fun c L3 vc H3 h3 g4 j3 r3 => ?_) (hx.go g3))
    exact sr' H3 L3 vb vc b c _ Q j3 ((r2.go (Go.same s)).go g4) r3 h3 fun d v' H4 q4 s4 rp4 => hk d L3 v' H4 q4 ((g3.trans g4).trans (Go.same s4)) (j3.same s4) rp4
  | false => exact iteF (hk _ L2 _ H' q g3 (j2.same s) (.bl false))
theorem t_chain {op op' : CmpOp} {g g' : G2} (ho : OQ X (compareOp op) g) (ho' : OQ X (compareOp op') g') (ha : QE X Wx a da) (hb : QE X Wx b db) (hc : QE X Wx c dc) (hm : lastMarks [op, op'] [b, c] = false := by rfl) :
    QT X Wx (.Compare a [op, op'] [b, c] pos) (dB (dChain g g' da db dc)) := by
  obtain ⟨ta, pa, sa⟩ := ha.ex
  obtain ⟨tb, pb, sb⟩ := hb.ex
  obtain ⟨tc, pc, sc⟩ := hc.ex
  obtain ⟨r, hr, sr⟩ := ho
  obtain ⟨r', hr', sr'⟩ := ho'
  refine ⟨_, pt_chain hr hr' pa pb pc hm, fun σ H env L k x Q st h hk hx => ?_⟩
  exact sim_B (sim_chain sa sb sc sr sr') σ H env L k x Q st h hk hx
def dNil : DA := fun _ L k _ => k [] L
def dCons (de : DE) (dl : DA) : DA := fun env L k x => de env L (fun d L1 => dl env L1 (fun ds L2 => k (d :: ds) L2) x) x
theorem a_nil : QA X Wx [] dNil := ⟨_, pa_nil, fun σ H env L k x Q st h hk hx => hk [] L [] H h (Go.refl L H) st.2 .nil⟩
theorem a_cons (ha : QE X Wx e de) (hr : QA X Wx es dl) (hs : starEach (e :: es) X.env = (false, eval e X.env) :: starEach es X.env := by rfl) : QA X Wx (e :: es) (dCons de dl) := by
  obtain ⟨te, pe, se⟩ := ha.ex
  obtain ⟨ta, pa, sa⟩ := hr.ex
  refine ⟨_, pa_cons pe pa hs, fun σ H env L k x Q st h hk hx => ?_⟩
  refine se σ H env L _ x _ st h (fun d L1 v H1 h1 g1 j1 r1 => ?_) hx
  refine sa σ H1 env L1 _ x _ (st.go g1 j1) h1 (fun ds L2 vs H2 h2 g2 j2 r2 => ?_) (hx.go g1)
  exact hk _ L2 _ H2 h2 (g1.trans g2) j2 (.cons (r1.go g2) r2)
def dTup (dl : DA) : DE := fun env L k x => dl env L (fun ds L1 => ds.length ≤ sizeLine ∧ k (.tup ds) L1) x
def dLst (dl : DA) : DE := fun env L k x => dl env L (fun ds L1 => ds.length ≤ sizeLine ∧ k (.lst ds) L1) x
/-- a list that will change: onto the ledger -/
def dLstM (dl : DA) : DE := fun env L k x => dl env L (fun ds L1 => ds.length ≤ sizeLine ∧ ∀ p, ¬ inL L1 p → k (.ptr p) ((p, .lst ds) :: L1)) x
theorem q_tup {x1} (h : QA X Wx es dl) : QE X Wx (.Tuple es x1 pos) (dTup dl) := by
  obtain ⟨ta, pa, sa⟩ := h.ex
  refine ⟨_, pe_tup pa, fun σ H env L k x Q st h hk hx => ?_⟩
  refine sa σ H env L _ x _ st h (fun ds L1 vs H1 h1 g1 j1 r1 => ?_) hx
  refine ⟨by rw [r1.length]; exact h1.1, fun p hp => ?_⟩
  have s := same_new hp (.tup vs)
  exact hk _ L1 _ _ h1.2 (g1.trans (Go.same s)) (j1.same s) (.tup (.inl ⟨j1.notIn hp, .inl upd_same⟩) (r1.go (Go.same s)))
theorem q_lst (h : QA X Wx es dl) : QE X Wx (.List es pos) (dLst dl) := by
  obtain ⟨ta, pa, sa⟩ := h.ex
  refine ⟨_, pe_lst pa, fun σ H env L k x Q st h hk hx => ?_⟩
  refine sa σ H env L _ x _ st h (fun ds L1 vs H1 h1 g1 j1 r1 => ?_) hx
  refine ⟨by rw [r1.length]; exact h1.1, fun p hp => ?_⟩
  have s := same_new hp (.lst vs)
  exact hk _ L1 _ _ h1.2 (g1.trans (Go.same s)) (j1.same s) (.lst (j1.notIn hp) upd_same (r1.go (Go.same s)))
theorem q_lstM (h : QA X Wx es dl) : QE X Wx (.List es pos) (dLstM dl) := by
  obtain ⟨ta, pa, sa⟩ := h.ex
  refine ⟨_, pe_lst pa, fun σ H env L k x Q st h hk hx => ?_⟩
  refine sa σ H env L _ x _ st h (fun ds L1 vs H1 h1 g1 j1 r1 => ?_) hx
  refine ⟨by rw [r1.length]; exact h1.1, fun p hp => ?_⟩
  have gg : Go L1 ((p, .lst ds) :: L1) H1 (upd H1 p (.lst vs)) := .mk' fun a u n hh => by
    have ne : a ≠ p := ne_of_none hh hp
    exact ⟨fun m => (List.mem_cons.mp m).elim ne n, by rw [upd_ne ne]; exact hh⟩
  obtain ⟨j2, g2⟩ := j1.push (d := .lst ds) hp (o := .lst vs) ⟨vs, upd_same, r1.go gg⟩
  exact hk _ _ _ _ (h1.2 p (j1.notIn hp)) (g1.trans g2) j2 (.ptr p)
end
end DL
namespace DL
open PySem L2
section
variable {X : Cx} {Wx : WX} {a b c e o : Expr} {es rest : List Expr} {da db dc de do' di : DE} {dt du : DT} {dl dk : DA} {pos : Pos}
abbrev DSp := List D → Led → DK → (Exn → Led → Prop) → Prop
def spD (K : PySem.W.Frag) (f : DSp) : Sp := fun vs H Q E => ∃ ds L k x, JL K L H ∧ RpAll L K H vs ds ∧ f ds L k x ∧ KOk K L H k Q ∧ ∀ n L' a H', x n L' → Go L L' H H' → JL K L' H' → ExR L' K H' a n → E n.cls (some a) H'
def dCall (g : DSp) (dd : List D) (dl : DA) : DE := fun env L k x => dl env L (fun ds L1 => g (ds ++ dd) L1 k fun n L' => x n env L') x
theorem q_call {x : Str} {p : Pos} {k : Nat} {f : Addr} {fd : FuncData} {ps : List Str} {g : DSp} {us : List Value} {dvs : List V} {dd : List D} (F : FnOk X.prog X.w X.K X.mg X.base (L2.CX X.prog X.w) k f fd ps (spD X.K g)) (hr : Room k X.A) (hg : Gl X x) (hm : X.mg x = some (.ref f))
    (hk : PySem.W.keepIn X.K (.ref f) = true) (hb : Binds X.K fd ps us) (hd : Vals dvs us) (hdd : ∀ L H, RpAll L X.K H dvs dd) (tk : Takes X Wx) (ha : QA X Wx (e :: es) dl) (hdb : (x == ("__debug__" : Str)) = false := by decide)
    (he : starEach (e :: es) X.env = (false, eval e X.env) :: starEach es X.env := by rfl) (hpl : (backTo pos (starEach es X.env)).any (·.1) = false := by rfl) : QE X Wx (.Call (.Name x p) (e :: es) [] pos) (dCall g dd dl) := by
  obtain ⟨ta, pa, sa⟩ := ha.ex
  refine ⟨_, pe_callSD F hr hg hm hk hb hd (fun σ => passAt tk σ) pa hdb he hpl, fun σ H env L k x Q st h hk hx => ?_⟩
  refine sa σ H env L _ x _ st h (fun ds L1 vs H1 h1 g1 j1 r1 => ?_) hx
  exact ⟨ds ++ dd, L1, k, fun n L' => x n env L', j1, r1.append (hdd L1 H1), h1, hk.go g1, fun n L' a H' q g' j' r => hx n env L' a H' σ q (g1.trans g') (st.go (g1.trans g') j') r⟩
abbrev GC := List D → Led → (D → Prop) → Prop
def CQ (X : Cx) (f : Value) (g : GC) : Prop := ∃ r, CallR X f r ∧ ∀ H L vs ds k Q, JL X.K L H → RpAll L X.K H vs ds → g ds L k → ROk X.K L H k Q → r vs H Q
def dCB (g : GC) (dl : DA) : DE := fun env L k x => dl env L (fun ds L1 => g ds L1 fun d => k d L1) x
theorem sim_cb {K : PySem.W.Frag} {ta : TA} {r : List V → Hp → VK → Prop} {g : GC} (sa : SimA K Wx ta dl) (sr : ∀ H L vs ds k Q, JL K L H → RpAll L K H vs ds → g ds L k → ROk K L H k Q → r vs H Q) : SimE K Wx (tCB r ta) (dCB g dl) := by
  intro σ H env L k x Q st h hk hx
  refine sa σ H env L _ x _ st h (fun ds L1 vs H1 h1 g1 j1 r1 => ?_) hx
  exact sr H1 L1 vs ds _ Q j1 r1 h1 fun d v H' q s rp => hk d L1 v H' q (g1.trans (Go.same s)) (j1.same s) rp
theorem q_callB {x : Str} {p : Pos} {id : String} {g : GC} (hc : CQ X (.builtin id) g) (hg : Gl X x) (hm : X.mg x = none) (hv : bootBuiltins x = some (.builtin id)) (ha : QA X Wx (e :: es) dl) (hn : x ≠ "__name__" := by decide) (hdb : (x == ("__debug__" : Str)) = false := by decide)
    (he : starEach (e :: es) X.env = (false, eval e X.env) :: starEach es X.env := by rfl) (hpl : (backTo pos (starEach es X.env)).any (·.1) = false := by rfl) : QE X Wx (.Call (.Name x p) (e :: es) [] pos) (dCB g dl) := by
  obtain ⟨ta, pa, sa⟩ := ha.ex
  obtain ⟨r, hr, sr⟩ := hc
  exact ⟨_, pe_callB hr hg hm hv pa hn hdb he hpl, sim_cb sa sr⟩
theorem q_callTy {x : Str} {p : Pos} {T : String} {g : GC} (hc : CQ X (.type T) g) (hg : Gl X x) (hm : X.mg x = none) (hv : bootBuiltins x = some (.type T)) (ha : QA X Wx (e :: es) dl) (hn : x ≠ "__name__" := by decide) (hdb : (x == ("__debug__" : Str)) = false := by decide)
    (he : starEach (e :: es) X.env = (false, eval e X.env) :: starEach es X.env := by rfl) (hpl : (backTo pos (starEach es X.env)).any (·.1) = false := by rfl) : QE X Wx (.Call (.Name x p) (e :: es) [] pos) (dCB g dl) := by
  obtain ⟨ta, pa, sa⟩ := ha.ex
  obtain ⟨r, hr, sr⟩ := hc
  exact ⟨_, pe_callTy hr hg hm hv pa hn hdb he hpl, sim_cb sa sr⟩
/-- a module's name for a built-in (gcd) -/
theorem q_callF {x : Str} {p : Pos} {id : String} {g : GC} (hc : CQ X (.builtin id) g) (hg : Gl X x) (hm : X.mg x = some (.builtin id)) (ha : QA X Wx (e :: es) dl) (hdb : (x == ("__debug__" : Str)) = false := by decide)
    (he : starEach (e :: es) X.env = (false, eval e X.env) :: starEach es X.env := by rfl) (hpl : (backTo pos (starEach es X.env)).any (·.1) = false := by rfl) : QE X Wx (.Call (.Name x p) (e :: es) [] pos) (dCB g dl) := by
  obtain ⟨ta, pa, sa⟩ := ha.ex
  obtain ⟨r, hr, sr⟩ := hc
  exact ⟨_, pe_callBfun hr hg hm pa hdb he hpl, sim_cb sa sr⟩
end
abbrev DG := D → DEnv → Led → (DEnv → Prop) → Prop
abbrev DGs := List D → DEnv → Led → (DEnv → Prop) → Prop
section
variable {X : Cx} {Wx : WX} {a b c e o : Expr} {es rest : List Expr} {da db dc de : DE} {dt du : DT} {dl : DA} {pos : Pos}
/-- slots that a target stores -/
def Only' (sl : List Nat) (σ σ' : St) : Prop := ∀ vs : List Nat, (∀ i ∈ sl, i ∈ vs) → wipe σ' vs = wipe σ vs
def SimG (K : PySem.W.Frag) (sl : List Nat) (g : TG) (dg : DG) : Prop := ∀ v d σ H env L k Q, StL K σ H env L → Rp L K H v d → dg d env L k → (∀ σ' env', k env' → StL K σ' H env' L → Only' sl σ σ' → Q σ' H) → g v σ H Q
structure QG (X : Cx) (tg : Expr) (sl : List Nat) (dg : DG) : Prop where
  ex : ∃ g, PG X tg g ∧ SimG X.K sl g dg
structure QGs (X : Cx) (ts : List Expr) (sl : List Nat) (dg : DGs) : Prop where
  ex : ∃ g, PGs X ts g ∧ ∀ vs ds σ H env L k Q, StL X.K σ H env L → RpAll L X.K H vs ds → dg ds env L k → (∀ σ' env', k env' → StL X.K σ' H env' L → Only' sl σ σ' → Q σ' H) → g vs σ H Q
theorem wipe_set {σ : St} {o : Option V} {i : Nat} : ∀ {vs : List Nat}, i ∈ vs → wipe (σ.set i o) vs = wipe σ vs
  | [], h => by cases h
  | v :: vs, h => by
    by_cases e : i ∈ vs
    · unfold wipe
      rw [wipe_set e]
    · have e2 : i = v := by
        rcases List.mem_cons.mp h with q | q
        · exact q
        · exact absurd q e
      subst e2
      unfold wipe
      have key : ∀ (ws : List Nat), i ∉ ws → wipe (σ.set i o) ws = (wipe σ ws).set i o := by
        intro ws
        induction ws with
        | nil => intro _; rfl
        | cons w ws ih =>
          intro hn
          have h1 : i ≠ w := fun z => hn (by rw [z]; exact List.mem_cons_self)
          have h2 : i ∉ ws := fun z => hn (List.mem_cons_of_mem _ z)
          unfold wipe
          rw [ih h2, List.set_comm _ _ h1]
      rw [key vs e, List.set_set]
theorem only_set {σ : St} {o : Option V} {i : Nat} : Only' [i] σ (σ.set i o) := fun vs h => wipe_set (h i (by simp))
def dgName (i : Nat) : DG := fun d env _ k => k (env.set i (some d))
theorem g_name (i : Nat) {x : Str} (hN : X.N.Nodup) (hi : X.N[i]? = some x := by rfl) (hx : Loc X.env.scope x := by first | exact Or.inl rfl | exact Or.inr rfl) (hf : X.fn x = true ∨ X.env.scope.names.lookup x = some .local := by first | exact .inl rfl | exact .inr rfl | assumption) : QG X (.Name x pos) [i] (dgName i) :=
  ⟨_, pg_name hN hi hx hf, fun v d σ H env L k Q st r h hk => hk _ _ h ⟨st.1.set r i, st.2⟩ only_set⟩
def dgNil : DGs := fun ds env _ k => match ds with
  | [] => k env
  | _ => False
def dgCons (dg : DG) (dgs : DGs) : DGs := fun ds env L k => match ds with
  | d :: r => dg d env L fun env' => dgs r env' L k
  | [] => False
theorem gs_nil : QGs X [] [] dgNil := ⟨_, pgs_nil, fun vs ds σ H env L k Q st r h hk => by
  cases r with
  | nil => exact ⟨rfl, hk _ _ h st fun _ _ => rfl⟩
  | cons _ _ => exact h.elim⟩
theorem gs_cons {dg : DG} {dgs : DGs} {sl sl' : List Nat} (h1 : QG X e sl dg) (h2 : QGs X es sl' dgs) (hs : (assignEach (e :: es) X.env).map (·.2) = assign e X.env :: (assignEach es X.env).map (·.2) := by rfl) : QGs X (e :: es) (sl ++ sl') (dgCons dg dgs) := by
  obtain ⟨g, pg, sg⟩ := h1.ex
  obtain ⟨gs, pgs, sgs⟩ := h2.ex
  refine ⟨_, pgs_cons pg pgs hs, fun vs ds σ H env L k Q st r h hk => ?_⟩
  cases r with
  | nil => exact h.elim
  | cons r1 r2 =>
    refine ⟨_, _, rfl, sg _ _ σ H env L _ _ st r1 h fun σ' env' h' st' o1 => ?_⟩
    exact sgs _ _ σ' H env' L _ _ st' r2 h' fun σ2 env2 h2 st2 o2 => hk σ2 env2 h2 st2 fun vs hv => (o2 vs fun i hi => hv i (List.mem_append_right _ hi)).trans (o1 vs fun i hi => hv i (List.mem_append_left _ hi))
def dgTup (n : Nat) (dgs : DGs) : DG := fun d env L k => match d with
  | .tup ds => ds.length = n ∧ dgs ds env L k
  | _ => False
theorem g_tup {kk : Nat} {dgs : DGs} {n : Nat} {sl : List Nat} (hc : X.calm = true) (h : QGs X es sl dgs) (hn : (assignEach es X.env).length = n := by rfl) (hst : (assignEach es X.env).findIdx? (·.1) = none := by rfl) : QG X (.Tuple es kk pos) sl (dgTup n dgs) := by
  obtain ⟨gs, pgs, sgs⟩ := h.ex
  refine ⟨_, pg_tup hc pgs hn hst, fun v d σ H env L k Q st r h hk => ?_⟩
  cases r <;> first | exact h.elim | skip
  rename_i s r
  exact ⟨_, _, rfl, s.sq, by rw [r.length]; exact h.1, sgs _ _ σ H env L k Q st r h.2 hk⟩
def dNext : DS := fun D env L => D.nx env L
def dSeq (t u : DS) : DS := fun D env L => t { D with nx := u D } env L
theorem ss_nil : QSs X Wx [] dNext := ⟨_, pss_nil, fun σ H env L D' D st h ok => ok.nx env L σ H h (Go.refl L H) st⟩
theorem sim_seq {K : PySem.W.Frag} {t u : TS} {dt du : DS} (s1 : SimS K Wx t dt) (s2 : SimS K Wx u du) : SimS K Wx (tSeq t u) (dSeq dt du) := by
  intro σ H env L D' D st h ok
  refine s1 σ H env L _ _ st h ⟨fun env' L' σ' H' h' g' st' => ?_, ok.rt, ok.ex, ok.bk, ok.ct⟩
  exact s2 σ' H' env' L' D' D st' h' (ok.go g')
theorem ss_cons {st : Stmt} {rest : List Stmt} {dt du : DS} (h1 : QS X Wx st dt) (h2 : QSs X Wx rest du) : QSs X Wx (st :: rest) (dSeq dt du) := by
  obtain ⟨t, pt, st1⟩ := h1.ex
  obtain ⟨u, pu, su⟩ := h2.ex
  exact ⟨_, pss_cons pt pu, sim_seq st1 su⟩
theorem ss_one {st : Stmt} {dt : DS} (h1 : QS X Wx st dt) : QSs X Wx [st] dt := by
  obtain ⟨t, pt, st1⟩ := h1.ex
  exact ⟨_, pss_one pt, st1⟩
/-- a word between a statement and what follows -/
def dCut (t u : DS) : DS := fun D env L => ∃ M : DEnv → Led → Prop, t { D with nx := M } env L ∧ ∀ env' L', M env' L' → u D env' L'
theorem ss_cut {st : Stmt} {rest : List Stmt} {dt du : DS} (h1 : QS X Wx st dt) (h2 : QSs X Wx rest du) : QSs X Wx (st :: rest) (dCut dt du) := by
  obtain ⟨t, pt, st1⟩ := h1.ex
  obtain ⟨u, pu, su⟩ := h2.ex
  refine ⟨_, pss_cons pt pu, fun σ H env L D' D st h ok => ?_⟩
  obtain ⟨M, hm, hu⟩ := h
  refine st1 σ H env L _ _ st hm ⟨fun env' L' σ' H' h' g' st' => ?_, ok.rt, ok.ex, ok.bk, ok.ct⟩
  exact su σ' H' env' L' D' D st' (hu env' L' h') (ok.go g')
def dAsg (de : DE) (dg : DG) : DS := fun D env L => de env L (fun d L1 => dg d env L1 fun env' => D.nx env' L1) D.ex
theorem sim_asg {te : TE} {g : TG} {dg : DG} {sl : List Nat} (se : SimE X.K Wx te de) (sg : SimG X.K sl g dg) : SimS X.K Wx (tAsg te g) (dAsg de dg) := by
  intro σ H env L D' D st h ok
  refine se σ H env L _ _ _ st h (fun d L1 v H1 h1 g1 j1 r1 => ?_) ok.ex
  exact sg v d σ H1 env L1 _ _ (st.go g1 j1) r1 h1 fun σ' env' h' st' _ => ok.nx env' L1 σ' H1 h' g1 st'
theorem s_set (i : Nat) {x : Str} {pos' : Pos} (hN : X.N.Nodup) (he : QE X Wx e de) (hi : X.N[i]? = some x := by rfl) (hx : Loc X.env.scope x := by first | exact Or.inl rfl | exact Or.inr rfl) (hs : swapsWith e (some (.Name x pos')) pos.line X.env = pure false := by rfl) (hf : X.fn x = true ∨ X.env.scope.names.lookup x = some .local := by first | exact .inl rfl | exact .inr rfl | assumption) :
    QS X Wx (.Assign [.Name x pos'] e pos) (dAsg de (dgName i)) := by
  obtain ⟨te, pe, se⟩ := he.ex
  exact ⟨_, ps_set hN hi hx pe hs hf, sim_asg (sl := [i]) se fun v d σ H env L k Q st r h hk => hk _ _ h ⟨st.1.set r i, st.2⟩ only_set⟩
theorem s_asg {tg : Expr} {dg : DG} {sl : List Nat} (he : QE X Wx e de) (hg : QG X tg sl dg) (hs : swapsWithSole [tg] e pos.line X.env = pure false := by rfl) (hw : swappedStores [tg] e X.env = pure none := by rfl) (h1 : (assignEach [tg] X.env).map (·.2) = [assign tg X.env] := by rfl) : QS X Wx (.Assign [tg] e pos) (dAsg de dg) := by
  obtain ⟨te, pe, se⟩ := he.ex
  obtain ⟨g, pg, sg⟩ := hg.ex
  exact ⟨_, ps_asg pe pg hs hw h1, sim_asg se sg⟩
/-- a, b = x, y -/
def dPar (i j : Nat) (dl : DA) : DS := fun D env L => dl env L (fun ds L1 => match ds with
  | [d, e] => D.nx ((env.set i (some d)).set j (some e)) L1
  | _ => False) D.ex
theorem s_par (i j : Nat) {x y : Str} {px py pt : Pos} {kt k2 pt2} (hc : X.calm = true) (hN : X.N.Nodup) (ha : QA X Wx [a, b] dl) (hi : X.N[i]? = some x := by rfl) (hj : X.N[j]? = some y := by rfl) (hij : i ≠ j := by decide)
    (hx : X.env.scope.names.lookup x = some .local := by rfl) (hy : X.env.scope.names.lookup y = some .local := by rfl)
    (hw : swappedStores [.Tuple [.Name x px, .Name y py] kt pt] (.Tuple [a, b] k2 pt2) X.env = pure (some [x, y]) := by rfl)
    (hs : swapsWithSole [.Tuple [.Name x px, .Name y py] kt pt] (.Tuple [a, b] k2 pt2) pos.line X.env = pure false := by rfl) :
    QS X Wx (.Assign [.Tuple [.Name x px, .Name y py] kt pt] (.Tuple [a, b] k2 pt2) pos) (dPar i j dl) := by
  obtain ⟨ta, pa, sa⟩ := ha.ex
  refine ⟨_, ps_par hc hN hi hj hij hx hy pa hw hs, fun σ H env L D' D st h ok => ?_⟩
  refine sa σ H env L _ _ _ st h (fun ds L1 vs H1 h1 g1 j1 r1 => ?_) ok.ex
  split at h1
  · rename_i d e
    cases r1 with
    | cons r1 r2 => cases r2 with
      | cons r2 r3 => cases r3 with
        | nil => exact ⟨_, _, rfl, ok.nx _ L1 _ H1 h1 g1 ⟨((st.1.go g1).set r1 i).set r2 j, j1⟩⟩
  · exact h1.elim
def dDrop (de : DE) : DS := fun D env L => de env L (fun _ L1 => D.nx env L1) D.ex
theorem s_expr (he : QE X Wx e de) (hs : swapsWith e none pos.line X.env = pure false := by rfl) : QS X Wx (.Expr e pos) (dDrop de) := by
  obtain ⟨te, pe, se⟩ := he.ex
  refine ⟨_, ps_expr pe hs, fun σ H env L D' D st h ok => ?_⟩
  exact se σ H env L _ _ _ st h (fun d L1 v H1 h1 g1 j1 r1 => ok.nx env L1 σ H1 h1 g1 (st.go g1 j1)) ok.ex
def dRet (de : DE) : DS := fun D env L => de env L D.rt D.ex
theorem s_ret (he : QE X Wx e de) : QS X Wx (.Return (some e) pos) (dRet de) := by
  obtain ⟨te, pe, se⟩ := he.ex
  exact ⟨_, ps_ret pe, fun σ H env L D' D st h ok => se σ H env L _ _ _ st h ok.rt ok.ex⟩
def dIfS (dt : DT) (t u : DS) : DS := fun D env L => dt env L (fun b L1 => match b with
  | true => t D env L1
  | false => u D env L1) D.ex
theorem s_if {as bs : List Stmt} {t u : DS} (hc : QT X Wx c dt) (ha : QSs X Wx as t) (hb : QSs X Wx bs u) : QS X Wx (.If c as bs pos) (dIfS dt t u) := by
  obtain ⟨tc, pc, sc⟩ := hc.ex
  obtain ⟨ta, pa, sa⟩ := ha.ex
  obtain ⟨tb, pb, sb⟩ := hb.ex
  refine ⟨_, ps_if pc pa pb, fun σ H env L D' D st h ok => ?_⟩
  refine sc σ H env L _ _ _ st h (fun b L1 H1 h1 g1 j1 => ?_) ok.ex
  cases b with
  | true => exact iteT (sa σ H1 env L1 D' D (st.go g1 j1) h1 (ok.go g1))
  | false => exact iteF (sb σ H1 env L1 D' D (st.go g1 j1) h1 (ok.go g1))
abbrev DI := DEnv → Led → (List D → Led → Prop) → DX → Prop
def ItD (K : PySem.W.Frag) (L : Led) (H : Hp) (J : It) (ds : List D) : Prop := ∀ L' H', Go L L' H H' → JL K L' H' → ∀ i, (∀ d, ds[i]? = some d → J.go i H' ∧ ∀ x H'', J.yld i H' x H'' → Same H' H'' ∧ Rp L' K H'' x d) ∧ (ds.length ≤ i → J.stop i H')
structure QI (X : Cx) (Wx : WX) (tg iter : Expr) (di : DI) : Prop where
  ex : ∃ wi, PI X tg iter wi ∧ ∀ σ H env L k x R, StL X.K σ H env L → di env L k x → (∀ ds L' J H', k ds L' → Go L L' H H' → JL X.K L' H' → ItD X.K L' H' J ds → R J H') → XOk X.K Wx L H x → wi σ H R
@[irreducible] def forD (dg : DG) (db : DS) (En : DEnds) : List D → DEnv → Led → Prop
  | [], env, L => En.nx env L
  | d :: ds, env, L => dg d env L fun env1 => db { En with nx := forD dg db En ds, ct := forD dg db En ds, bk := En.nx } env1 L
theorem forD_nil {dg : DG} {db : DS} {En : DEnds} {env : DEnv} {L : Led} : forD dg db En [] env L = En.nx env L := by with_unfolding_all rfl
theorem forD_cons {dg : DG} {db : DS} {En : DEnds} {d : D} {ds : List D} {env : DEnv} {L : Led} : forD dg db En (d :: ds) env L = dg d env L fun env1 => db { En with nx := forD dg db En ds, ct := forD dg db En ds, bk := En.nx } env1 L := by with_unfolding_all rfl
def dFor (di : DI) (dg : DG) (db : DS) : DS := fun D env L => di env L (fun ds L1 => forD dg db D ds env L1) D.ex
theorem s_for {tg iter : Expr} {body : List Stmt} {di : DI} {dg : DG} {db : DS} {sl : List Nat} (hp : PassesOwn (model X.prog X.w) X.A X.env X.xe) (hc : X.calm = true) (hi : QI X Wx tg iter di) (hg : QG X tg sl dg) (hb : QSs X Wx body db)
    (hs : ∀ x, foldedSetIterable iter X.env x = pure x := by intro _; rfl) : QS X Wx (.For tg iter body [] pos) (dFor di dg db) := by
  obtain ⟨wi, pi, si⟩ := hi.ex
  obtain ⟨g, pg, sg⟩ := hg.ex
  obtain ⟨tb, pb, sb⟩ := hb.ex
  refine ⟨_, ps_for hp hc pi pg pb hs, fun σ H env L D' D st h ok => ?_⟩
  refine si σ H env L _ _ _ st h (fun ds L1 J H1 h1 g1 j1 it => ?_) ok.ex
  refine ⟨fun i m σ' H' => m = ds.length - i ∧ i ≤ ds.length ∧ ∃ env' L', StL X.K σ' H' env' L' ∧ Go L1 L' H1 H' ∧ forD dg db D' (ds.drop i) env' L', ⟨ds.length, by omega, by omega, env, L1, st.go g1 j1, Go.refl L1 H1, h1⟩, ?_⟩
  rintro i m σ2 H2 ⟨rfl, hi, env2, L2, st2, g2, h2⟩
  obtain ⟨i1, i2⟩ := it L2 H2 g2 st2.2 i
  by_cases hlt : i < ds.length
  · have e : ds[i]? = some ds[i] := List.getElem?_eq_getElem hlt
    obtain ⟨go, yl⟩ := i1 _ e
    rw [List.drop_eq_getElem_cons hlt, forD_cons] at h2
    refine .inr ⟨go, fun σ' H' => ∃ env' L', StL X.K σ' H' env' L' ∧ Go L1 L' H1 H' ∧ forD dg db D' (ds.drop (i + 1)) env' L', fun σ' H' n => ⟨ds.length - (i + 1), by omega, rfl, hlt, n⟩, fun x H' y => ?_⟩
    obtain ⟨s, rx⟩ := yl x H' y
    have g3 : Go L2 L2 H2 H' := Go.same s
    refine sg x _ σ2 H' env2 L2 _ _ (st2.go g3 (st2.2.same s)) rx h2 fun σ3 env3 h3 st3 _ => ?_
    have g4 : Go L1 L2 H1 H' := g2.trans g3
    refine sb σ3 H' env3 L2 _ _ st3 h3 ⟨fun env' L' σ' H'' q g' st' => ⟨env', L', st', g4.trans g', q⟩, (ok.go (g1.trans g4)).rt, (ok.go (g1.trans g4)).ex, (ok.go (g1.trans g4)).nx, fun env' L' σ' H'' q g' st' => ⟨env', L', st', g4.trans g', q⟩⟩
  · have e : i = ds.length := by omega
    subst e
    rw [List.drop_length, forD_nil] at h2
    exact .inl ⟨i2 (Nat.le_refl _), ok.nx env2 L2 σ2 H2 h2 (g1.trans g2) st2⟩
/-- for x in range(n), range(a, b) -/
def rngD (lo : Int) : Nat → List D
  | 0 => []
  | n + 1 => .int lo :: rngD (lo + 1) n
theorem rngD_len : ∀ (n : Nat) (lo : Int), (rngD lo n).length = n
  | 0, _ => rfl
  | n + 1, lo => by show (rngD (lo + 1) n).length + 1 = n + 1; rw [rngD_len n]
theorem rngD_get : ∀ (n : Nat) (lo : Int) (i : Nat) (d : D), (rngD lo n)[i]? = some d → i < n ∧ d = .int (lo + i)
  | 0, _, _, _, h => by simp [rngD] at h
  | n + 1, lo, 0, d, h => by
    simp [rngD] at h
    exact ⟨by omega, by rw [← h]; simp⟩
  | n + 1, lo, i + 1, d, h => by
    obtain ⟨h1, h2⟩ := rngD_get n (lo + 1) i d (by simpa [rngD] using h)
    refine ⟨by omega, ?_⟩
    rw [h2]
    congr 1
    omega
theorem it_rng {K : PySem.W.Frag} {L : Led} {H : Hp} {lo : Int} {n : Nat} : ItD K L H (Itr lo n) (rngD lo n) := fun L' H' g j i => by
  refine ⟨fun d hd => ?_, fun h => ?_⟩
  · obtain ⟨h1, h2⟩ := rngD_get n lo i d hd
    subst h2
    exact ⟨h1, fun x H'' y => by
      obtain ⟨e1, e2⟩ := y
      subst e1 e2
      exact ⟨Same.refl _, .int _⟩⟩
  · rw [rngD_len] at h
    exact h
def diRange (dl : DA) : DI := fun env L k x => dl env L (fun ds L1 => match ds with
  | [.int n] => (-(2 ^ 62) ≤ n ∧ n < 2 ^ 62) ∧ k (rngD 0 n.toNat) L1
  | _ => False) x
theorem i_range1 {tg : Expr} {p : Pos} (hg : Gl X "range") (hm : X.mg "range" = none) (ha : QA X Wx [e] dl) (hs : starEach [e] X.env = [(false, eval e X.env)] := by rfl) : QI X Wx tg (.Call (.Name "range" p) [e] [] pos) (diRange dl) := by
  obtain ⟨ta, pa, sa⟩ := ha.ex
  refine ⟨_, pi_range1 hg hm pa hs, fun σ H env L k x R st h hk hx => ?_⟩
  refine sa σ H env L _ _ _ st h (fun ds L1 vs H1 h1 g1 j1 r1 => ?_) hx
  split at h1
  · rename_i n
    obtain ⟨⟨q1, q2⟩, h1⟩ := h1
    cases r1 with
    | cons r1 r2 =>
      cases r2
      cases r1
      exact ⟨n, rfl, q1, q2, hk _ L1 _ H1 h1 g1 j1 it_rng⟩
  · exact h1.elim
def diRange2 (dl : DA) : DI := fun env L k x => dl env L (fun ds L1 => match ds with
  | [.int a, .int b] => (-(2 ^ 62) ≤ a ∧ a < 2 ^ 62 ∧ -(2 ^ 62) ≤ b ∧ b < 2 ^ 62) ∧ k (rngD a (b - a).toNat) L1
  | _ => False) x
theorem i_range2 {tg e2 : Expr} {p : Pos} (hg : Gl X "range") (hm : X.mg "range" = none) (ha : QA X Wx [e, e2] dl) (hs : starEach [e, e2] X.env = [(false, eval e X.env), (false, eval e2 X.env)] := by rfl) (hs2 : starEach [e2] X.env = [(false, eval e2 X.env)] := by rfl) : QI X Wx tg (.Call (.Name "range" p) [e, e2] [] pos) (diRange2 dl) := by
  obtain ⟨ta, pa, sa⟩ := ha.ex
  refine ⟨_, pi_range2 hg hm pa hs hs2, fun σ H env L k x R st h hk hx => ?_⟩
  refine sa σ H env L _ _ _ st h (fun ds L1 vs H1 h1 g1 j1 r1 => ?_) hx
  split at h1
  · rename_i a b
    obtain ⟨q1, h1⟩ := h1
    cases r1 with
    | cons r1 r2 =>
      cases r2 with
      | cons r2 r3 =>
      cases r3
      cases r1
      cases r2
      exact ⟨a, b, rfl, q1, hk _ L1 _ H1 h1 g1 j1 it_rng⟩
  · exact h1.elim
theorem it_list {K : PySem.W.Frag} {L : Led} {H : Hp} {a : Addr} {vs : List V} {ds : List D} (h : SqL' L K H a vs) (r : RpAll L K H vs ds) : ItD K L H (Itl K a) ds := fun L' H' g j i => by
  have h' := (g.sqL h).sq
  have r' := r.go g
  refine ⟨fun d hd => ?_, fun hi => ⟨vs, h', by rw [r.length]; exact hi⟩⟩
  obtain ⟨v, hv, rv⟩ := r'.get hd
  exact ⟨⟨vs, v, h', hv⟩, fun x H'' y => by
    obtain ⟨e1, e2⟩ := y
    subst e1
    have e3 := e2 vs h'
    rw [hv] at e3
    cases e3
    exact ⟨Same.refl _, rv⟩⟩
def diL (da : DE) : DI := fun env L k x => da env L (fun d L1 => match d with
  | .lst ds => k ds L1
  | .ro ds => k ds L1
  | _ => False) x
theorem i_list {tg : Expr} (ha : QE X Wx e da) : QI X Wx tg e (diL da) := by
  obtain ⟨ta, pa, sa⟩ := ha.ex
  refine ⟨_, pi_list pa, fun σ H env L k x R st h hk hx => ?_⟩
  refine sa σ H env L _ _ _ st h (fun d L1 v H1 h1 g1 j1 r1 => ?_) hx
  cases r1 <;> first | exact h1.elim | skip
  · rename_i n s r
    exact ⟨_, rfl, ⟨_, SqL.of s⟩, hk _ L1 _ H1 h1 g1 j1 (it_list (.inl ⟨n, .inl s⟩) r)⟩
  · rename_i s r
    exact ⟨_, rfl, ⟨_, s.sq⟩, hk _ L1 _ H1 h1 g1 j1 (it_list s r)⟩
@[irreducible] def whD (dt : DT) (db : DS) (En : DEnds) : Nat → DEnv → Led → Prop
  | 0, _, _ => False
  | n + 1, env, L => dt env L (fun b L1 => match b with
    | true => db { En with nx := whD dt db En n, ct := whD dt db En n, bk := En.nx } env L1
    | false => En.nx env L1) En.ex
theorem whD_zero {dt : DT} {db : DS} {En : DEnds} {env : DEnv} {L : Led} : whD dt db En 0 env L = False := by with_unfolding_all rfl
theorem whD_succ {dt : DT} {db : DS} {En : DEnds} {n : Nat} {env : DEnv} {L : Led} : whD dt db En (n + 1) env L = dt env L (fun b L1 => match b with
    | true => db { En with nx := whD dt db En n, ct := whD dt db En n, bk := En.nx } env L1
    | false => En.nx env L1) En.ex := by with_unfolding_all rfl
def dWhile (dt : DT) (db : DS) : DS := fun En env L => ∃ n, whD dt db En n env L
theorem s_while {body : List Stmt} {db : DS} (hp : PassesOwn (model X.prog X.w) X.A X.env X.xe) (hc : QT X Wx c dt) (hb : QSs X Wx body db) : QS X Wx (.While c body [] pos) (dWhile dt db) := by
  obtain ⟨tc, pc, sc⟩ := hc.ex
  obtain ⟨tb, pb, sb⟩ := hb.ex
  refine ⟨_, ps_while hp pc pb, fun σ H env L D' D st h ok => ?_⟩
  obtain ⟨n, h⟩ := h
  refine ⟨fun m σ' H' => ∃ env' L', StL X.K σ' H' env' L' ∧ Go L L' H H' ∧ whD dt db D' m env' L', ⟨n, env, L, st, Go.refl L H, h⟩, ?_⟩
  rintro m σ2 H2 ⟨env2, L2, st2, g2, h2⟩
  cases m with
  | zero => rw [whD_zero] at h2; exact h2.elim
  | succ m =>
    rw [whD_succ] at h2
    refine sc σ2 H2 env2 L2 _ _ _ st2 h2 (fun b L3 H3 h3 g3 j3 => ?_) (ok.ex.go g2)
    have g4 := g2.trans g3
    cases b with
    | true =>
      refine iteT ⟨fun σ' H' => ∃ env' L', StL X.K σ' H' env' L' ∧ Go L L' H H' ∧ whD dt db D' m env' L', fun σ' H' q => ⟨m, Nat.lt_succ_self m, q⟩, ?_⟩
      exact sb σ2 H3 env2 L3 _ _ (st2.go g3 j3) h3 ⟨fun env' L' σ' H' q g' st' => ⟨env', L', st', g4.trans g', q⟩, (ok.go g4).rt, (ok.go g4).ex, (ok.go g4).nx, fun env' L' σ' H' q g' st' => ⟨env', L', st', g4.trans g', q⟩⟩
    | false => exact iteF (ok.nx env2 L3 σ2 H3 h3 g4 (st2.go g3 j3))
end
section
open PySem.Spec PyProof.Rows
variable {P : Program} {w : World} {K : PySem.W.Frag} {mg : Str → Option Value} {base : Heap}
def endsD (k : DK) (x : Exn → Led → Prop) : DEnds := { nx := fun _ L => k .non L, rt := k, ex := fun n _ L => x n L, bk := fun _ _ => False, ct := fun _ _ => False }
def startD (N : List Str) (ds : List D) : DEnv := ds.map some ++ List.replicate (N.length - ds.length) none
abbrev wxOf (E : XK) : WX := fun cls d _ H => E cls d H
theorem fn_ok {x qual : Str} {st : Stmt} {f : Addr} {fd : FuncData} {N ps : List Str} {k : Nat} {g : DSp} (F : Fun K x qual st f fd) (S : FnScope N ps (defScope st)) (len : ∀ ds L k x, g ds L k x → ds.length = ps.length)
    (body : ∀ (cdv : Value) (A : Around) (outer : List Env) (s : Shared) (H : Hp) (E : XK), Room k (A.deeper (envOfC qual (defScope st) s.heap.objs.size f cdv)) →
      ∃ t, QSs (cxOf (L2.CX P w) P w K mg base N qual (defScope st) f cdv A outer s H E) (wxOf E) (defBody st) t ∧ ∀ ds L k x, g ds L k x → t (endsD k x) (startD N ds) L) : FnOk P w K mg base (L2.CX P w) (k + 1) f fd ps (spD K g) := by
  refine F.okX S (fun vs H Q E h => ?_) (fun cdv A outer s H vs Q E hr h => ?_)
  · obtain ⟨ds, L, k, x, j, r, h, _⟩ := h
    rw [r.length]
    exact len ds L k x h
  · obtain ⟨ds, L, k, x, j, r, h, hk, hx⟩ := h
    obtain ⟨t, q, ht⟩ := body cdv A outer s H E hr
    obtain ⟨ts, pts, sts⟩ := q.ex
    refine ⟨ts, pts, sts _ H (startD N ds) L (endsD k x) _ ⟨?_, j⟩ (ht ds L k x h) ?_⟩
    · unfold L2.start startD
      rw [r.length]
      exact Sto.start r
    · exact ⟨fun env' L' σ' H' q g' st' => hk .non L' .non H' q g' st'.2 .non, hk, fun n env' L' a H' σ' q g' st' r' => hx n L' a H' q g' st'.2 r', fun _ _ _ _ q => q.elim, fun _ _ _ _ q => q.elim⟩
end
end DL
namespace DL
open PySem L2
def setL (L : Led) (p : Addr) (d : D) : Led := L.map fun q => if q.1 = p then (p, d) else q
def remL (L : Led) (p : Addr) : Led := L.filter fun q => decide (q.1 ≠ p)
theorem setL_keys (L : Led) (p : Addr) (d : D) : (setL L p d).map (·.1) = L.map (·.1) := by
  unfold setL
  rw [List.map_map]
  refine List.map_congr_left fun q _ => ?_
  show (if q.1 = p then (p, d) else q).1 = q.1
  split
  · rename_i h; exact h.symm
  · rfl
theorem inL_setL {L : Led} {p a : Addr} {d : D} : inL (setL L p d) a ↔ inL L a := by unfold inL; rw [setL_keys]
theorem setL_out {L : Led} {p : Addr} {d : D} (h : ¬ inL L p) : setL L p d = L := by
  unfold setL
  have : ∀ q ∈ L, (if q.1 = p then (p, d) else q) = id q := fun q hq => by
    rw [if_neg fun e => h (List.mem_map.mpr ⟨q, hq, e⟩)]; rfl
  rw [List.map_congr_left this, List.map_id]
theorem setL_top {L : Led} {p : Addr} {c d : D} (h : ¬ inL L p) : setL ((p, c) :: L) p d = (p, d) :: L := by
  show (if p = p then (p, d) else (p, c)) :: setL L p d = _
  rw [if_pos rfl, setL_out h]
theorem setL_ne {L : Led} {p q : Addr} {c d : D} (h : q ≠ p) : setL ((q, c) :: L) p d = (q, c) :: setL L p d := by
  show (if q = p then (p, d) else (q, c)) :: setL L p d = _
  rw [if_neg h]
theorem remL_out {L : Led} {p : Addr} (h : ¬ inL L p) : remL L p = L := by
  unfold remL
  refine List.filter_eq_self.mpr fun q hq => decide_eq_true fun e => h (List.mem_map.mpr ⟨q, hq, e⟩)
theorem remL_top {L : Led} {p : Addr} {c : D} (h : ¬ inL L p) : remL ((p, c) :: L) p = L := by
  unfold remL
  rw [List.filter_cons, if_neg (by simp)]
  exact remL_out h
theorem inL_remL {L : Led} {p a : Addr} : inL (remL L p) a ↔ inL L a ∧ a ≠ p := by
  unfold inL remL
  constructor
  · intro h
    obtain ⟨q, hq, e⟩ := List.mem_map.mp h
    obtain ⟨h1, h2⟩ := List.mem_filter.mp hq
    subst e
    exact ⟨List.mem_map.mpr ⟨q, h1, rfl⟩, of_decide_eq_true h2⟩
  · rintro ⟨h, hn⟩
    obtain ⟨q, hq, e⟩ := List.mem_map.mp h
    subst e
    exact List.mem_map.mpr ⟨q, List.mem_filter.mpr ⟨hq, decide_eq_true hn⟩, rfl⟩
theorem lookup_top {L : Led} {p : Addr} {c : D} : List.lookup p ((p, c) :: L) = some c := List.lookup_cons_self
theorem lookup_ne {L : Led} {p q : Addr} {c : D} (h : p ≠ q) : List.lookup p ((q, c) :: L) = List.lookup p L := by
  have e : (p == q) = false := by simpa using h
  rw [List.lookup_cons, e]
theorem inL_of_lookup {L : Led} {p : Addr} {c : D} (h : L.lookup p = some c) : inL L p := List.mem_map.mpr ⟨_, mem_of_lookup h, rfl⟩
theorem inL_cons {L : Led} {p a : Addr} {c : D} : inL ((p, c) :: L) a ↔ a = p ∨ inL L a := by unfold inL; simp
section
variable {L L' : Led} {K : PySem.W.Frag} {H H' : Hp} {a p : Addr} {d : D} {o : HO}
theorem go_set (h : inL L p) : Go L (setL L p d) H (upd H p o) := .mk' fun a u n e => by
  have ne : a ≠ p := fun z => n (z ▸ h)
  exact ⟨fun m => n (inL_setL.mp m), by rw [upd_ne ne]; exact e⟩
theorem JL.put (j : JL K L H) (h : inL L p) (ow : Own (setL L p d) K (upd H p o) p d) : JL K (setL L p d) (upd H p o) := by
  refine ⟨by rw [setL_keys]; exact j.nd, fun a e m => ?_⟩
  obtain ⟨q, hq, eq⟩ := List.mem_map.mp m
  by_cases hp : q.1 = p
  · rw [if_pos hp] at eq
    cases eq
    exact ow
  · rw [if_neg hp] at eq
    subst eq
    exact Own.move (j.own _ _ hq) (go_set h) fun u e => by rw [upd_ne hp]; exact e
theorem go_rem : Go L (remL L p) H H := .mk' fun a u n e => ⟨fun m => n (inL_remL.mp m).1, e⟩
theorem JL.rem (j : JL K L H) : JL K (remL L p) H := by
  refine ⟨?_, fun a e m => ?_⟩
  · have : ((remL L p).map (·.1)).Sublist (L.map (·.1)) := (List.filter_sublist).map _
    exact j.nd.sublist this
  · exact Own.move (j.own _ _ (List.mem_filter.mp m).1) go_rem fun u e => e
end
section
variable {X : Cx} {Wx : WX} {a b c e o : Expr} {es rest : List Expr} {da db dc de do' di : DE} {dt du : DT} {dl dk : DA} {pos : Pos}
theorem QE.w (h : QE X Wx e de) {de' : DE} (hw : ∀ env L k x, de' env L k x → de env L k x) : QE X Wx e de' := by
  obtain ⟨te, pe, se⟩ := h.ex
  exact ⟨te, pe, fun σ H env L k x Q st h hk hx => se σ H env L k x Q st (hw env L k x h) hk hx⟩
/-- the reading by data, as a reading of the layer -/
def teOf (K : PySem.W.Frag) (Wx : WX) (de : DE) : TE := fun σ H Q => ∃ env L k x, StL K σ H env L ∧ de env L k x ∧ KOk K L H k Q ∧ XOk K Wx L H x
theorem QE.pe (h : QE X Wx e de) : PE X e (teOf X.K Wx de) := by
  obtain ⟨te, pe, se⟩ := h.ex
  refine ⟨fun pins s σ H Q I hw => ?_⟩
  obtain ⟨env, L, k, x, st, h, hk, hx⟩ := hw
  exact pe.run pins s σ H Q I (se σ H env L k x Q st h hk hx)
def ttOf (K : PySem.W.Frag) (Wx : WX) (dt : DT) : TT := fun σ H Q => ∃ env L k x, StL K σ H env L ∧ dt env L k x ∧ (∀ b L' H', k b L' → Go L L' H H' → JL K L' H' → Q b H') ∧ XOk K Wx L H x
theorem QT.pt (h : QT X Wx e dt) : PT X e (ttOf X.K Wx dt) := by
  obtain ⟨te, pe, se⟩ := h.ex
  refine ⟨fun pins s σ H Q I hw => ?_⟩
  obtain ⟨env, L, k, x, st, h, hk, hx⟩ := hw
  exact pe.run pins s σ H Q I (se σ H env L k x Q st h hk hx)
def tgOf (K : PySem.W.Frag) (sl : List Nat) (dg : DG) : TG := fun v σ H Q => ∃ d env L k, StL K σ H env L ∧ Rp L K H v d ∧ dg d env L k ∧ ∀ σ' env', k env' → StL K σ' H env' L → Only' sl σ σ' → Q σ' H
theorem QG.pg {tg : Expr} {sl : List Nat} {dg : DG} (h : QG X tg sl dg) : PG X tg (tgOf X.K sl dg) := by
  obtain ⟨g, pg, sg⟩ := h.ex
  refine ⟨fun pins s σ H v u Q I r hw => ?_⟩
  obtain ⟨d, env, L, k, st, rd, h, hk⟩ := hw
  exact pg.run pins s σ H v u Q I r (sg v d σ H env L k Q st rd h hk)
def dStore (de do' di : DE) : DS := fun D env L => de env L (fun v L1 => do' env L1 (fun o L2 => di env L2 (fun i L3 => match o, i with
  | .ptr p, .int z => match L3.lookup p with
    | some (.lst ds) => match ixN ds.length z with
      | some j => D.nx env (setL L3 p (.lst (ds.set j v)))
      | none => False
    | _ => False
  | _, _ => False) D.ex) D.ex) D.ex
theorem s_store {i : Expr} {ip : Pos} (he : QE X Wx e de) (ho : QE X Wx o do') (hi : QE X Wx i di) (hix : ∀ h0 : PE X o (teOf X.K Wx do'), ∀ h1 : PE X i (teOf X.K Wx di), PG X (.Subscript o i ip) (L2.gSub (teOf X.K Wx do') (teOf X.K Wx di) rSetL) := by exact fun h0 h1 => pg_sub h0 h1 set_list)
    (hs : swapsWithSole [.Subscript o i ip] e pos.line X.env = pure false := by rfl) (hw : swappedStores [.Subscript o i ip] e X.env = pure none := by rfl) (h1 : (assignEach [.Subscript o i ip] X.env).map (·.2) = [assign (.Subscript o i ip) X.env] := by rfl) : QS X Wx (.Assign [.Subscript o i ip] e pos) (dStore de do' di) := by
  obtain ⟨te, pe, se⟩ := he.ex
  refine ⟨_, ps_asg pe (hix ho.pe hi.pe) hs hw h1, fun σ H env L D' D st h ok => ?_⟩
  refine se σ H env L _ _ _ st h (fun v L1 vv H1 h1 g1 j1 r1 => ?_) ok.ex
  refine ⟨env, L1, _, D'.ex, st.go g1 j1, h1, fun o L2 vo H2 h2 g2 j2 r2 => ?_, ok.ex.go g1⟩
  refine ⟨env, L2, _, D'.ex, (st.go g1 j1).go g2 j2, h2, fun i L3 vi H3 h3 g3 j3 r3 => ?_, (ok.ex.go g1).go g2⟩
  have r2 := r2.go g3
  have r1 := (r1.go g2).go g3
  dsimp only at h3 ⊢
  split at h3
  · cases r2 with
    | ptr p =>
    cases r3 with
    | int z =>
    split at h3
    · rename_i ds hl
      split at h3
      · rename_i j hj
        obtain ⟨vs, e1, rv⟩ := j3.look hl
        have hp := inL_of_lookup hl
        refine ⟨_, vs, _, j, rfl, rfl, e1, by rw [rv.length]; exact hj, ?_⟩
        have g4 : Go L3 (setL L3 _ (.lst (ds.set j v))) H3 (upd H3 _ (.lst (vs.set j vv))) := go_set hp
        have j4 : JL X.K (setL L3 _ (.lst (ds.set j v))) (upd H3 _ (.lst (vs.set j vv))) := j3.put hp ⟨_, upd_same, (rv.go g4).set (r1.go g4) j⟩
        exact ok.nx env _ σ _ h3 (((g1.trans g2).trans g3).trans g4) (st.go (((g1.trans g2).trans g3).trans g4) j4)
      · exact h3.elim
    · exact h3.elim
  · exact h3.elim
end
end DL
namespace DL
open PySem L2
section
variable {X : Cx} {Wx : WX} {a b c e o : Expr} {es rest : List Expr} {da db dc de do' di : DE} {dt du : DT} {dl dk : DA} {pos : Pos}
def lenD (L : Led) (d : D) : Option Nat := match seqs (con L d) with
  | some ds => some ds.length
  | none => none
def gLen : GC := fun ds L k => match ds with
  | [.str z] => z.length ≤ sizeLine ∧ k (.int z.length)
  | [d] => match lenD L d with
    | some n => k (.int n)
    | none => False
  | _ => False
theorem cq_len : CQ X (.builtin "len") gLen := ⟨_, call_len, fun H L vs ds k Q j r h hk => by
  unfold gLen at h
  split at h
  · cases r with
    | cons r1 r2 =>
      cases r2
      cases r1
      exact ⟨_, _, rfl, ⟨h.1, rfl⟩, hk _ _ H h.2 (Same.refl H) (.int _)⟩
  · rename_i d _
    cases r with
    | cons r1 r2 =>
      cases r2
      split at h
      · rename_i n hn
        unfold lenD at hn
        split at hn
        · rename_i ds' hd
          cases hn
          obtain ⟨a, vs, rfl, hs, rv⟩ := con_seq j r1 hd
          refine ⟨_, ds'.length, rfl, ?_, hk _ _ H h (Same.refl H) (.int _)⟩
          rcases hs with hs | hs
          · exact .inl ⟨vs, hs, rv.length.symm⟩
          · exact .inr ⟨vs, hs, rv.length.symm⟩
        · cases hn
      · exact h.elim
  · exact h.elim⟩
def gAbs : GC := fun ds _ k => match ds with
  | [.int i] => k (.int (if i < 0 then -i else i))
  | _ => False
theorem cq_abs : CQ X (.builtin "abs") gAbs := ⟨_, call_abs, fun H L vs ds k Q j r h hk => by
  unfold gAbs at h
  split at h
  · cases r with
    | cons r1 r2 =>
      cases r2
      cases r1
      exact ⟨_, rfl, hk _ _ H h (Same.refl H) (.int _)⟩
  · exact h.elim⟩
def gInt : GC := fun ds _ k => match ds with
  | [.int i] => k (.int i)
  | [.bl b] => k (.int (if b then 1 else 0))
  | _ => False
theorem cq_int : CQ X (.type "int") gInt := ⟨_, call_int1, fun H L vs ds k Q j r h hk => by
  unfold gInt at h
  split at h
  · cases r with
    | cons r1 r2 =>
      cases r2
      cases r1
      exact .inl ⟨_, rfl, hk _ _ H h (Same.refl H) (.int _)⟩
  · cases r with
    | cons r1 r2 =>
      cases r2
      cases r1
      exact .inr ⟨_, rfl, hk _ _ H h (Same.refl H) (.int _)⟩
  · exact h.elim⟩
def gStr : GC := fun ds _ k => match ds with
  | [.int i] => i.natAbs.log2 < 1920 ∧ k (.str (toString i))
  | _ => False
theorem cq_str : CQ X (.type "str") gStr := ⟨_, call_str_int, fun H L vs ds k Q j r h hk => by
  unfold gStr at h
  split at h
  · cases r with
    | cons r1 r2 =>
      cases r2
      cases r1
      exact ⟨_, rfl, h.1, hk _ _ H h.2 (Same.refl H) (.str _)⟩
  · exact h.elim⟩
def gList : GC := fun ds L k => match ds with
  | [d] => match seqs (con L d) with
    | some xs => k (.lst xs)
    | none => False
  | _ => False
theorem cq_list : CQ X (.type "list") gList := ⟨_, call_list_of, fun H L vs ds k Q j r h hk => by
  unfold gList at h
  split at h
  · cases r with
    | cons r1 r2 =>
      cases r2
      split at h
      · rename_i xs hd
        obtain ⟨a, vs, rfl, hs, rv⟩ := con_seq j r1 hd
        refine ⟨a, vs, rfl, hs, fun l hl => ?_⟩
        have s := same_new hl (.lst vs)
        exact hk _ _ _ h s (.lst (j.notIn hl) upd_same (rv.go (Go.same s)))
      · exact h.elim
  · exact h.elim⟩
def gGcd : GC := fun ds _ k => match ds with
  | [.int a, .int b] => k (.int ((Nat.gcd a.natAbs b.natAbs : Nat) : Int))
  | _ => False
theorem cq_gcd : CQ X (.builtin "math.gcd") gGcd := ⟨_, cr_gcd, fun H L vs ds k Q j r h hk => by
  unfold gGcd at h
  split at h
  · cases r with
    | cons r1 r2 => cases r2 with
      | cons r2 r3 =>
      cases r3
      cases r1
      cases r2
      exact ⟨_, _, rfl, hk _ _ H h (Same.refl H) (.int _)⟩
  · exact h.elim⟩
def gMax2 : GC := fun ds _ k => match ds with
  | [.int i, .int j] => k (.int (if j > i then j else i))
  | _ => False
theorem cq_max2 (hc : X.calm = true) : CQ X (.builtin "max") gMax2 := ⟨_, call_max2 hc, fun H L vs ds k Q j r h hk => by
  unfold gMax2 at h
  split at h
  · cases r with
    | cons r1 r2 => cases r2 with
      | cons r2 r3 =>
      cases r3
      cases r1
      cases r2
      exact ⟨_, _, rfl, hk _ _ H h (Same.refl H) (.int _)⟩
  · exact h.elim⟩
def blsOf : List D → Option (List Bool)
  | [] => some []
  | .bl b :: r => match blsOf r with
    | some bs => some (b :: bs)
    | none => none
  | _ => none
theorem blsOf_eq : ∀ {ds : List D} {bs : List Bool}, blsOf ds = some bs → ds = bs.map D.bl
  | [], bs, h => by cases h; rfl
  | d :: r, bs, h => by
    cases d <;> first | (cases h; done) | skip
    unfold blsOf at h
    split at h
    · rename_i bs' hb
      cases h
      rw [blsOf_eq hb]; rfl
    · cases h
theorem blsOf_map : ∀ (bs : List Bool), blsOf (bs.map D.bl) = some bs
  | [] => rfl
  | b :: r => by show (match blsOf (r.map D.bl) with | some bs => some (b :: bs) | none => none) = _; rw [blsOf_map r]
def gAll : GC := fun ds L k => match ds with
  | [d] => match con L d with
    | .lst xs => match blsOf xs with
      | some bs => k (.bl (bs.all id))
      | none => False
    | _ => False
  | _ => False
theorem cq_all (hc : X.calm = true) : CQ X (.builtin "all") gAll := ⟨_, cr_all hc, fun H L vs ds k Q j r h hk => by
  unfold gAll at h
  split at h
  · cases r with
    | cons r1 r2 =>
      cases r2
      split at h
      · rename_i xs hd
        split at h
        · rename_i bs hb
          obtain ⟨a, vs, rfl, hs, rv⟩ := con_lst j r1 hd
          rw [blsOf_eq hb] at rv
          have e := rv.ofBls
          subst e
          exact ⟨a, bs, rfl, SqL.of hs, hk _ _ H h (Same.refl H) (.bl _)⟩
        · exact h.elim
      · exact h.elim
  · exact h.elim⟩
inductive Ty where
  | non | bl | int | str | lst | tup | dct
  deriving DecidableEq
def Ty.nm : Ty → String
  | .non => "NoneType" | .bl => "bool" | .int => "int" | .str => "str" | .lst => "list" | .tup => "tuple" | .dct => "dict"
def tyD : D → Option Ty
  | .non => some .non
  | .bl _ => some .bl
  | .int _ => some .int
  | .str _ => some .str
  | .lst _ => some .lst
  | .ro _ => some .lst
  | .tup _ => some .tup
  | .dk _ _ => some .dct
  | .kt _ => some .tup
  | _ => none
def isTy : Ty → Ty → Bool
  | .bl, .int => true
  | .bl, .bl => true
  | .int, .int => true
  | .str, .str => true
  | .lst, .lst => true
  | .tup, .tup => true
  | .dct, .dct => true
  | .non, .non => true
  | _, _ => false
theorem kit_isTy (t c : Ty) (h : c ≠ .non) : kitB t.nm c.nm = some (isTy t c) := by
  cases t <;> cases c <;> first | exact absurd rfl h | decide +kernel
theorem ty_of {L : Led} {K : PySem.W.Frag} {H : Hp} {v : V} {d : D} {t : Ty} (r : Rp L K H v d) (h : tyD d = some t) : TyX K H v (.type t.nm) := by
  cases r <;> first | (cases h; done) | skip
  all_goals cases h
  · exact .base .non
  · exact .base (.bl _)
  · exact .base (.int _)
  · exact .base (.str _)
  · rename_i n e r
    exact .base (.lst e)
  · rename_i s r
    rcases s with ⟨_, s | ⟨o, s⟩⟩ | ⟨o, its, n, h1, h2, _⟩
    · exact .base (.lst s)
    · exact .base (.frz s)
    · exact .kList h1 h2
  · rename_i s r
    rcases s with ⟨_, s | ⟨o, s⟩⟩ | ⟨o, its, n, h1, h2, _⟩
    · exact .base (.tup s)
    · exact .fTuple s
    · exact .kTuple h1 h2
  · rename_i n s _ _
    rcases s with s | ⟨o, s⟩
    · exact .base (.dK s)
    · exact .fDict s
  · rename_i n s
    exact .base (.tup s)
end
end DL
namespace DL
open PySem L2
section
variable {X : Cx} {Wx : WX} {a b c e o : Expr} {es rest : List Expr} {da db dc de do' di : DE} {dt du : DT} {dl dk : DA} {pos : Pos}
/-- isinstance(x, T) -/
def gIsi (c : Ty) : G1 := fun a L k => match tyD (con L a) with
  | some t => k (.bl (isTy t c))
  | none => False
def gIsi2 (c c' : Ty) : G1 := fun a L k => match tyD (con L a) with
  | some t => k (.bl (isTy t c || isTy t c'))
  | none => False
theorem tyX_con {L : Led} {K : PySem.W.Frag} {H : Hp} {v : V} {d : D} {t : Ty} (j : JL K L H) (r : Rp L K H v d) (h : tyD (con L d) = some t) : TyX K H v (.type t.nm) := by
  cases d with
  | ptr a =>
    cases r
    have h : tyD ((L.lookup a).getD (.ptr a)) = some t := h
    cases q : L.lookup a with
    | none => rw [q] at h; cases h
    | some c =>
      rw [q] at h
      have h : tyD c = some t := h
      have ow := j.look q
      cases c with
      | lst ds => cases h; obtain ⟨vs, e, _⟩ := ow; exact .base (.lst e)
      | dk ks ds => cases h; obtain ⟨vs, e, _⟩ := ow; exact .base (.dK e)
      | _ => first | exact ow.elim | cases h
  | _ => exact ty_of r h
def gcIsi (c : Ty) : GC := fun ds L k => match ds with
  | [d, .ty n] => n = c.nm ∧ gIsi c d L k
  | _ => False
theorem cq_isi {c : Ty} (hc : c ≠ .non) : CQ X (.builtin "isinstance") (gcIsi c) := ⟨_, call_isi, fun H L vs ds k Q j r h hk => by
  unfold gcIsi at h
  split at h
  · rename_i d n
    obtain ⟨rfl, h⟩ := h
    unfold gIsi at h
    split at h
    · rename_i t ht
      cases r with
      | cons r1 r2 => cases r2 with
        | cons r2 r3 =>
        cases r3
        cases r2
        exact ⟨_, _, _, _, _, rfl, .ty _, tyX_con j r1 ht, kit_ty (kit_isTy t c hc), hk _ _ H h (Same.refl H) (.bl _)⟩
    · exact h.elim
  · exact h.elim⟩
theorem q_isi {p p2 : Pos} {T : Str} (c : Ty) (ha : QE X Wx e da) (hg : Gl X "isinstance") (hm : X.mg "isinstance" = none) (hgT : Gl X T) (hmT : X.mg T = none) (hv : bootBuiltins T = some (.type c.nm)) (hc : c ≠ .non := by decide)
    (hn : T ≠ "__name__" := by decide) (hd : (T == ("__debug__" : Str)) = false := by decide) (hs : starEach (e :: [.Name T p2]) X.env = (false, eval e X.env) :: starEach [.Name T p2] X.env := by rfl) (hv0 : bootBuiltins "isinstance" = some (.builtin "isinstance") := by decide +kernel) :
    QE X Wx (.Call (.Name "isinstance" p) [e, .Name T p2] [] pos) (dUn (gIsi c) da) := by
  refine (q_callB (g := gcIsi c) (cq_isi hc) hg hm hv0 (a_cons ha (a_cons (q_bltn (v := .ty c.nm) (d := .ty c.nm) hgT hmT hv rfl (fun _ _ => .ty _) hn hd) a_nil (by rfl)) hs) (by decide) (by decide) hs (by rfl)).w ?_
  intro env L k x h
  exact (show dCB (gcIsi c) (dCons da (dCons (dC (.ty c.nm)) dNil)) env L k x from by
    unfold dCB dCons dC dNil
    unfold dUn at h
    refine cast ?_ h
    congr 1
    funext a L1
    show _ = (c.nm = c.nm ∧ _)
    simp)
/-- isinstance(x, (T, T')): the tuple is made on the spot -/
theorem q_isi2 {p p2 p3 p4 : Pos} {kk : Nat} {T T' : Str} (c c' : Ty) (ha : QE X Wx e da) (hg : Gl X "isinstance") (hm : X.mg "isinstance" = none) (hgT : Gl X T) (hmT : X.mg T = none) (hv : bootBuiltins T = some (.type c.nm)) (hgT' : Gl X T') (hmT' : X.mg T' = none) (hv' : bootBuiltins T' = some (.type c'.nm)) (hc : c ≠ .non := by decide) (hc' : c' ≠ .non := by decide)
    (hn : T ≠ "__name__" := by decide) (hd : (T == ("__debug__" : Str)) = false := by decide) (hn' : T' ≠ "__name__" := by decide) (hd' : (T' == ("__debug__" : Str)) = false := by decide) (hs : starEach (e :: [.Tuple [.Name T p2, .Name T' p3] kk p4]) X.env = (false, eval e X.env) :: starEach [.Tuple [.Name T p2, .Name T' p3] kk p4] X.env := by rfl) (hv0 : bootBuiltins "isinstance" = some (.builtin "isinstance") := by decide +kernel) :
    QE X Wx (.Call (.Name "isinstance" p) [e, .Tuple [.Name T p2, .Name T' p3] kk p4] [] pos) (dUn (gIsi2 c c') da) := by
  obtain ⟨ta, pa, sa⟩ := ha.ex
  refine ⟨_, pe_callB call_isiT hg hm hv0 (pa_cons pa (pa_cons (pe_tup (pa_cons (pe_bltn (v := .ty c.nm) hgT hmT hv rfl hn hd) (pa_cons (pe_bltn (v := .ty c'.nm) hgT' hmT' hv' rfl hn' hd') pa_nil (by rfl)) (by rfl))) pa_nil (by rfl)) hs) (by decide) (by decide) hs (by rfl), fun σ H env L k x Q st h hk hx => ?_⟩
  refine sa σ H env L _ x _ st h (fun d L1 v H1 h1 g1 j1 r1 => ?_) hx
  refine ⟨show 2 ≤ sizeLine by decide, fun t ht => ?_⟩
  have s := same_new ht (.tup [.ty c.nm, .ty c'.nm])
  unfold gIsi2 at h1
  split at h1
  · rename_i ty hty
    refine ⟨v, t, _, _, [.type c.nm, .type c'.nm], (isTy ty c || isTy ty c'), rfl, upd_same, .cons (.ty _) (.cons (.ty _) .nil), tyX_con (j1.same s) (r1.go (Go.same s)) hty, ?_, hk _ L1 _ _ h1 (g1.trans (Go.same s)) (j1.same s) (.bl _)⟩
    refine kitAny_cons (kit_ty (kit_isTy ty c hc)) (fun h0 => ?_) (fun h0 => by rw [h0, Bool.true_or])
    rw [h0, Bool.false_or]
    exact kitAny_cons (r := isTy ty c') (kit_ty (kit_isTy ty c' hc')) (fun h1 => by rw [h1]; exact kitAny_nil) (fun h1 => h1)
  · exact h1.elim
def gAdd : G2 := fun a b L k => match con L a, con L b with
  | .int i, .int j => k (.int (i + j))
  | .str x, .str y => x.length + y.length ≤ sizeLine ∧ k (.str (x ++ y))
  | .lst xs, .lst ys => xs.length + ys.length ≤ sizeLine ∧ k (.lst (xs ++ ys))
  | .tup xs, .tup ys => xs.length + ys.length ≤ sizeLine ∧ k (.tup (xs ++ ys))
  | _, _ => False
theorem con_flat {L : Led} {K : PySem.W.Frag} {H : Hp} {v : V} {d c : D} (j : JL K L H) (r : Rp L K H v d) (e : con L d = c) (hc : match c with | .int _ => True | .str _ => True | .bl _ => True | .non => True | _ => False) : d = c := by
  cases d with
  | ptr a =>
    have e : (L.lookup a).getD (.ptr a) = c := e
    cases q : L.lookup a with
    | none => rw [q] at e; subst e; exact hc.elim
    | some c' =>
      rw [q] at e
      have e : c' = c := e
      subst e
      have ow := j.look q
      cases c' <;> first | exact ow.elim | exact hc.elim
  | kt ks =>
    have e : D.tup (ks.map kD) = c := e
    subst e
    exact hc.elim
  | _ => exact e
theorem oq_addL : OQ X (binaryOp .Add) (fun a b L k => match con L a, con L b with
    | .lst xs, .lst ys => xs.length + ys.length ≤ sizeLine ∧ k (.lst (xs ++ ys))
    | _, _ => False) := ⟨_, op_cat, fun H L va vb a b k Q j ra rb h hk => by
  dsimp only at h
  split at h
  · rename_i xs ys ea eb
    obtain ⟨p, vs, rfl, hp, rv⟩ := con_lst j ra ea
    obtain ⟨q, ws, rfl, hq, rw'⟩ := con_lst j rb eb
    refine ⟨p, q, vs, ws, rfl, rfl, hp, hq, by rw [rv.length, rw'.length]; exact h.1, fun l hl => ?_⟩
    have s := same_new hl (.lst (vs ++ ws))
    exact hk _ _ _ h.2 s (.lst (j.notIn hl) upd_same ((rv.append rw').go (Go.same s)))
  · exact h.elim⟩
theorem oq_addT : OQ X (binaryOp .Add) (fun a b L k => match con L a, con L b with
    | .tup xs, .tup ys => xs.length + ys.length ≤ sizeLine ∧ k (.tup (xs ++ ys))
    | _, _ => False) := ⟨_, op_catA, fun H L va vb a b k Q j ra rb h hk => by
  dsimp only at h
  split at h
  · rename_i xs ys ea eb
    obtain ⟨p, vs, ep, hp, rv⟩ := con_tup j ra ea
    obtain ⟨q, ws, eq, hq, rw'⟩ := con_tup j rb eb
    have ra' := con_tupR j ra ea
    have rb' := con_tupR j rb eb
    subst ep eq
    refine ⟨p, q, vs, ws, rfl, rfl, hp, hq, by rw [rv.length, rw'.length]; exact h.1, fun e0 => ?_, fun _ e0 => ?_, fun _ _ l hl => ?_⟩
    · subst e0
      cases rv
      exact hk _ _ H h.2 (Same.refl H) rb'
    · subst e0
      cases rw'
      have h2 := h.2
      rw [List.append_nil] at h2
      exact hk _ _ H h2 (Same.refl H) ra'
    · have s := same_new hl (.tup (vs ++ ws))
      exact hk _ _ _ h.2 s (.tup (.inl ⟨j.notIn hl, .inl upd_same⟩) ((rv.append rw').go (Go.same s)))
  · exact h.elim⟩
theorem oq_addS : OQ X (binaryOp .Add) (fun a b L k => match a, b with
    | .str x, .str y => x.length + y.length ≤ sizeLine ∧ k (.str (x ++ y))
    | _, _ => False) := ⟨_, op_add_str, fun H L va vb a b k Q j ra rb h hk => by
  dsimp only at h
  split at h
  · cases ra
    cases rb
    exact ⟨_, _, rfl, rfl, h.1, hk _ _ H h.2 (Same.refl H) (.str _)⟩
  · exact h.elim⟩
theorem oq_add : OQ X (binaryOp .Add) gAdd := by
  obtain ⟨r1, o1, s1⟩ := oq_addI (X := X)
  obtain ⟨r2, o2, s2⟩ := oq_addS (X := X)
  obtain ⟨r3, o3, s3⟩ := oq_addL (X := X)
  obtain ⟨r4, o4, s4⟩ := oq_addT (X := X)
  refine ⟨_, opr_or o1 (opr_or o2 (opr_or o3 o4)), fun H L va vb a b k Q j ra rb h hk => ?_⟩
  unfold gAdd at h
  split at h
  · rename_i i i' ea eb
    have e1 := con_flat j ra ea trivial
    have e2 := con_flat j rb eb trivial
    subst e1 e2
    exact .inl (s1 H L va vb _ _ k Q j ra rb h hk)
  · rename_i i i' ea eb
    have e1 := con_flat j ra ea trivial
    have e2 := con_flat j rb eb trivial
    subst e1 e2
    exact .inr (.inl (s2 H L va vb _ _ k Q j ra rb h hk))
  · rename_i xs ys ea eb
    exact .inr (.inr (.inl (s3 H L va vb _ _ k Q j ra rb (by dsimp only; rw [ea, eb]; exact h) hk)))
  · rename_i xs ys ea eb
    exact .inr (.inr (.inr (s4 H L va vb _ _ k Q j ra rb (by dsimp only; rw [ea, eb]; exact h) hk)))
  · exact h.elim
/-- a list times a number -/
def gRep : G2 := fun a b L k => match con L a, b with
  | .lst xs, .int n => -(2 ^ 63) ≤ n ∧ n < 2 ^ 63 ∧ xs.length * n.toNat ≤ sizeLine ∧ k (.lst (List.replicate n.toNat xs).flatten)
  | _, _ => False
theorem rep_all {L : Led} {K : PySem.W.Frag} {H : Hp} {vs : List V} {ds : List D} (r : RpAll L K H vs ds) : ∀ n : Nat, RpAll L K H (List.replicate n vs).flatten (List.replicate n ds).flatten
  | 0 => .nil
  | n + 1 => by
    rw [List.replicate_succ, List.replicate_succ, List.flatten_cons, List.flatten_cons]
    exact r.append (rep_all r n)
theorem oq_rep : OQ X (binaryOp .Mult) gRep := ⟨_, op_rep, fun H L va vb a b k Q j ra rb h hk => by
  unfold gRep at h
  split at h
  · rename_i xs n ea
    obtain ⟨p, vs, rfl, hp, rv⟩ := con_lst j ra ea
    cases rb
    obtain ⟨h1, h2, h3, h4⟩ := h
    refine ⟨p, n, vs, rfl, rfl, hp, h1, h2, by rw [rv.length]; exact h3, fun l hl => ?_⟩
    have s := same_new hl (.lst (List.replicate n.toNat vs).flatten)
    exact hk _ _ _ h4 s (.lst (j.notIn hl) upd_same ((rep_all rv _).go (Go.same s)))
  · exact h.elim⟩
abbrev DO := DEnv → Led → (Option Int → Led → Prop) → DX → Prop
structure QO (X : Cx) (Wx : WX) (e : Option Expr) (do' : DO) : Prop where
  ex : ∃ to, PO X e to ∧ ∀ σ H env L k x Q, StL X.K σ H env L → do' env L k x → (∀ i L' H', k i L' → Go L L' H H' → JL X.K L' H' → Q i H') → XOk X.K Wx L H x → to σ H Q
def dNo : DO := fun _ L k _ => k none L
def dPart (da : DE) : DO := fun env L k x => da env L (fun d L1 => match d with
  | .int i => k (some i) L1
  | _ => False) x
theorem o_none : QO X Wx none dNo := ⟨_, po_none, fun σ H env L k x Q st h hk hx => hk none L H h (Go.refl L H) st.2⟩
theorem o_some (h : QE X Wx e da) : QO X Wx (some e) (dPart da) := by
  obtain ⟨ta, pa, sa⟩ := h.ex
  refine ⟨_, po_some pa, fun σ H env L k x Q st h hk hx => ?_⟩
  refine sa σ H env L _ x _ st h (fun d L1 v H1 h1 g1 j1 r1 => ?_) hx
  cases r1 <;> first | exact h1.elim | skip
  exact ⟨_, rfl, hk _ L1 H1 h1 g1 j1⟩
def cutD (xs : List D) (lo hi : Option Int) : List D := (xs.drop (HT.sIx xs.length 0 lo)).take (HT.sIx xs.length xs.length hi - HT.sIx xs.length 0 lo)
def gSl (a : D) (lo hi : Option Int) (L : Led) (k : D → Prop) : Prop := match con L a with
  | .lst xs => k (.lst (cutD xs lo hi))
  | .ro xs => k (.lst (cutD xs lo hi))
  | .tup xs => k (.tup (cutD xs lo hi))
  | .str z => z.length ≤ sizeLine ∧ k (.str (cutS z lo hi))
  | _ => False
def dSl (da : DE) (dl dh : DO) : DE := fun env L k x => da env L (fun a L1 => dl env L1 (fun lo L2 => dh env L2 (fun hi L3 => gSl a lo hi L3 fun d => k d L3) x) x) x
theorem cut_all {L : Led} {K : PySem.W.Frag} {H : Hp} {vs : List V} {ds : List D} (r : RpAll L K H vs ds) (lo hi : Option Int) : RpAll L K H (cutV vs lo hi) (cutD ds lo hi) := by
  unfold cutV cutD
  rw [r.length]
  exact (r.drop _).take _
theorem q_slice {lo hi : Option Expr} {p2 : Pos} {dl dh : DO} (he : QE X Wx e da) (hl : QO X Wx lo dl) (hh : QO X Wx hi dh) : QE X Wx (.Subscript e (.Slice lo hi none p2) pos) (dSl da dl dh) := by
  obtain ⟨ta, pa, sa⟩ := he.ex
  obtain ⟨tl, pl, sl⟩ := hl.ex
  obtain ⟨th, ph, sh⟩ := hh.ex
  refine ⟨_, pe_slice (SlR.or sl_list (SlR.or sl_tupA sl_str)) pa pl ph, fun σ H env L k x Q st h hk hx => ?_⟩
  refine sa σ H env L _ x _ st h (fun a L1 va H1 h1 g1 j1 r1 => ?_) hx
  refine sl σ H1 env L1 _ x _ (st.go g1 j1) h1 (fun lo L2 H2 h2 g2 j2 => ?_) (hx.go g1)
  refine sh σ H2 env L2 _ x _ ((st.go g1 j1).go g2 j2) h2 (fun hi L3 H3 h3 g3 j3 => ?_) ((hx.go g1).go g2)
  have gg := (g1.trans g2).trans g3
  have r1 := (r1.go g2).go g3
  unfold gSl at h3
  split at h3
  · rename_i xs ea
    obtain ⟨p, vs, rfl, hp, rv⟩ := con_lst j3 r1 ea
    refine .inl ⟨p, vs, rfl, SqL.of hp, fun l hl => ?_⟩
    have s := same_new hl (.lst (cutV vs lo hi))
    exact hk _ _ _ _ h3 (gg.trans (Go.same s)) (j3.same s) (.lst (j3.notIn hl) upd_same ((cut_all rv lo hi).go (Go.same s)))
  · rename_i xs ea
    obtain ⟨p, vs, rfl, hp, rv⟩ := con_ro j3 r1 ea
    refine .inl ⟨p, vs, rfl, hp, fun l hl => ?_⟩
    have s := same_new hl (.lst (cutV vs lo hi))
    exact hk _ _ _ _ h3 (gg.trans (Go.same s)) (j3.same s) (.lst (j3.notIn hl) upd_same ((cut_all rv lo hi).go (Go.same s)))
  · rename_i xs ea
    have r1' := con_tupR j3 r1 ea
    obtain ⟨p, vs, ep, hp, rv⟩ := con_tup j3 r1 ea
    subst ep
    refine .inr (.inl ⟨p, vs, rfl, hp, fun hw => ?_, fun _ l hl => ?_⟩)
    · have e : cutD xs lo hi = xs := by
        unfold cutD
        rw [← rv.length, hw.1, hw.2, List.drop_zero, Nat.sub_zero, rv.length]
        exact List.take_length
      rw [e] at h3
      exact hk _ _ _ H3 h3 gg j3 r1'
    · have s := same_new hl (.tup (cutV vs lo hi))
      exact hk _ _ _ _ h3 (gg.trans (Go.same s)) (j3.same s) (.tup (.inl ⟨j3.notIn hl, .inl upd_same⟩) ((cut_all rv lo hi).go (Go.same s)))
  · rename_i z ea
    have e1 := con_flat j3 r1 ea trivial
    subst e1
    cases r1
    exact .inr (.inr ⟨_, rfl, h3.1, hk _ _ _ H3 h3.2 gg j3 (.str _)⟩)
  · exact h3.elim
end
end DL
namespace DL
open PySem L2 RZ
section
variable {X : Cx} {Wx : WX} {a b c e o : Expr} {es rest : List Expr} {da db dc de do' : DE} {dt du : DT} {dl dk : DA} {pos : Pos}
def wipeD (env : DEnv) : List Nat → DEnv
  | [] => env
  | v :: vs => (wipeD env vs).set v none
theorem Sto.wipes {L : Led} {K : PySem.W.Frag} {H : Hp} {σ : St} {env : DEnv} (h : Sto L K H σ env) : ∀ vs : List Nat, Sto L K H (wipe σ vs) (wipeD env vs)
  | [] => h
  | v :: vs => (Sto.wipes h vs).wipe1 v
structure QTs (X : Cx) (Wx : WX) (ifs : List Expr) (dt : DT) : Prop where
  pt : PTs X ifs (ttOf X.K Wx dt)
def dYes : DT := fun _ L k _ => k true L
theorem ts_nil : QTs X Wx [] dYes := ⟨⟨fun pins s σ H Q I hw => by
  obtain ⟨env, L, k, x, st, h, hk, hx⟩ := hw
  exact pts_nil.run pins s σ H Q I (hk true L H h (Go.refl L H) st.2)⟩⟩
theorem ts_one (h : QT X Wx c dt) : QTs X Wx [c] dt := ⟨pts_one h.pt⟩
abbrev Wx0 : WX := fun _ _ _ _ => False
@[irreducible] def lcD (dg : DG) (dt : DT) (de : DE) (env0 : DEnv) (p : Addr) (k : DK) : List D → List D → Led → Prop
  | [], acc, L => k (.lst acc) (remL L p)
  | d :: ds, acc, L => dg d env0 L fun env1 => dt env1 L (fun b L2 => match b with
    | true => de env1 L2 (fun y L3 => L3.lookup p = some (.lst acc) ∧ acc.length < sizeLine ∧ lcD dg dt de env0 p k ds (acc ++ [y]) (setL L3 p (.lst (acc ++ [y])))) (fun _ _ _ => False)
    | false => L2.lookup p = some (.lst acc) ∧ lcD dg dt de env0 p k ds acc L2) (fun _ _ _ => False)
theorem lcD_nil {dg : DG} {dt : DT} {de : DE} {env0 : DEnv} {p : Addr} {k : DK} {acc : List D} {L : Led} : lcD dg dt de env0 p k [] acc L = k (.lst acc) (remL L p) := by with_unfolding_all rfl
theorem lcD_cons {dg : DG} {dt : DT} {de : DE} {env0 : DEnv} {p : Addr} {k : DK} {d : D} {ds acc : List D} {L : Led} : lcD dg dt de env0 p k (d :: ds) acc L = dg d env0 L fun env1 => dt env1 L (fun b L2 => match b with
    | true => de env1 L2 (fun y L3 => L3.lookup p = some (.lst acc) ∧ acc.length < sizeLine ∧ lcD dg dt de env0 p k ds (acc ++ [y]) (setL L3 p (.lst (acc ++ [y])))) (fun _ _ _ => False)
    | false => L2.lookup p = some (.lst acc) ∧ lcD dg dt de env0 p k ds acc L2) (fun _ _ _ => False) := by with_unfolding_all rfl
def dLc (di : DI) (dg : DG) (dt : DT) (de : DE) (vs : List Nat) : DE := fun env L k x => di env L (fun ds L1 => ∀ p, ¬ inL L1 p → lcD dg dt de (wipeD env vs) p k ds [] ((p, .lst []) :: L1)) x
theorem sim_lc {K : PySem.W.Frag} {wi : TI} {di : DI} {dg : DG} {sl vs : List Nat} (hsl : ∀ i ∈ sl, i ∈ vs)
    (si : ∀ σ H env L k x R, StL K σ H env L → di env L k x → (∀ ds L' J H', k ds L' → Go L L' H H' → JL K L' H' → ItD K L' H' J ds → R J H') → XOk K Wx L H x → wi σ H R) :
    SimE K Wx (tLc wi (tgOf K sl dg) (ttOf K Wx0 dt) (teOf K Wx0 de) vs) (dLc di dg dt de vs) := by
  intro σ H env L k x Q st h hk hx
  refine si σ H env L _ x _ st h (fun ds L1 J H1 h1 g1 j1 it => ?_) hx
  intro p hp
  have s0 := same_new hp (.lst [])
  obtain ⟨j2, g2⟩ := j1.push (d := .lst []) hp (o := .lst []) ⟨[], upd_same, .nil⟩
  refine ⟨fun i m H2 => m = ds.length - i ∧ i ≤ ds.length ∧ ∃ acc L2, StL K (wipe σ vs) H2 (wipeD env vs) L2 ∧ Go L1 L2 H1 H2 ∧ L2.lookup p = some (.lst acc) ∧ lcD dg dt de (wipeD env vs) p k (ds.drop i) acc L2, ⟨ds.length, by omega, by omega, [], _, ⟨((st.go g1 j1).go g2 j2).1.wipes vs, j2⟩, g2, lookup_top, h1 p (j1.notIn hp)⟩, ?_⟩
  rintro i m H2 ⟨rfl, hi, acc, L2, st2, g3, hl, h2⟩
  obtain ⟨i1, i2⟩ := it L2 H2 g3 st2.2 i
  by_cases hlt : i < ds.length
  · have e : ds[i]? = some ds[i] := List.getElem?_eq_getElem hlt
    obtain ⟨go, yl⟩ := i1 _ e
    rw [List.drop_eq_getElem_cons hlt, lcD_cons] at h2
    refine .inr ⟨go, fun H' => ∃ acc L2, StL K (wipe σ vs) H' (wipeD env vs) L2 ∧ Go L1 L2 H1 H' ∧ L2.lookup p = some (.lst acc) ∧ lcD dg dt de (wipeD env vs) p k (ds.drop (i + 1)) acc L2, fun H' n => ⟨ds.length - (i + 1), by omega, rfl, hlt, n⟩, fun x H' y => ?_⟩
    obtain ⟨s, rx⟩ := yl x H' y
    have g4 : Go L2 L2 H2 H' := Go.same s
    have st3 := st2.go g4 (st2.2.same s)
    refine ⟨_, _, L2, _, st3, rx, h2, fun σ3 env3 h3 st4 on => ⟨?_, ?_⟩⟩
    · have := on vs hsl
      rw [this]
      clear this
      have w2 : ∀ (ws us : List Nat), (∀ i ∈ us, i ∈ ws) → ∀ σ : St, wipe (wipe σ us) ws = wipe σ ws := by
        intro ws us
        induction us with
        | nil => intro _ σ; rfl
        | cons u us ih =>
          intro hu σ
          show wipe ((wipe σ us).set u none) ws = _
          rw [wipe_set (hu u List.mem_cons_self), ih (fun i hi => hu i (List.mem_cons_of_mem _ hi))]
      exact w2 vs vs (fun _ h => h) σ
    · refine ⟨env3, L2, _, _, st4, h3, fun b L5 H5 h5 g5 j5 => ?_, fun _ _ _ _ _ _ q => q.elim⟩
      have gA : Go L1 L5 H1 H5 := (g3.trans g4).trans g5
      cases b with
      | false => exact iteF ⟨acc, L5, ⟨(st3.1.go g5), j5⟩, gA, h5.1, h5.2⟩
      | true =>
        refine iteT ⟨env3, L5, _, _, st4.go g5 j5, h5, fun y L6 vy H6 h6 g6 j6 r6 => ?_, fun _ _ _ _ _ _ q => q.elim⟩
        obtain ⟨q1, q2, q3⟩ := h6
        obtain ⟨ws, e1, rv⟩ := j6.look q1
        have hp6 := inL_of_lookup q1
        refine ⟨ws, e1, by rw [rv.length]; exact q2, acc ++ [y], _, ?_, ?_, ?_, q3⟩
        · have g7 : Go L6 (setL L6 p (.lst (acc ++ [y]))) H6 (upd H6 p (.lst (ws ++ [vy]))) := go_set hp6
          have j7 : JL K (setL L6 p (.lst (acc ++ [y]))) (upd H6 p (.lst (ws ++ [vy]))) := j6.put hp6 ⟨_, upd_same, (rv.append (.cons r6 .nil)).go g7⟩
          exact ⟨((st3.1.go g5).go g6).go g7, j7⟩
        · exact (gA.trans g6).trans (go_set hp6)
        · have hm := mem_of_lookup q1
          clear q3 h5 h3 h2
          have key : ∀ (M : Led), inL M p → List.lookup p (setL M p (.lst (acc ++ [y]))) = some (.lst (acc ++ [y])) := by
            intro M
            induction M with
            | nil => intro h; simp [inL] at h
            | cons q M ih =>
              intro h
              by_cases hq : q.1 = p
              · obtain ⟨z1, z2⟩ := q
                have hq : z1 = p := hq
                show List.lookup p ((if z1 = p then (p, D.lst (acc ++ [y])) else (z1, z2)) :: setL M p _) = _
                rw [if_pos hq]
                exact lookup_top
              · obtain ⟨z1, z2⟩ := q
                have hq : z1 ≠ p := hq
                rw [setL_ne hq, lookup_ne (Ne.symm hq)]
                exact ih ((inL_cons.mp h).resolve_left (Ne.symm hq))
          exact key L6 hp6
  · have e : i = ds.length := by omega
    subst e
    rw [List.drop_length, lcD_nil] at h2
    obtain ⟨ws, e1, rv⟩ := st2.2.look hl
    refine .inl ⟨i2 (Nat.le_refl _), hk _ _ _ H2 h2 ((g1.trans g3).trans go_rem) st2.2.rem (.lst (fun m => (inL_remL.mp m).2 rfl) e1 (rv.go go_rem))⟩
theorem q_lc {elt tg iter : Expr} {ifs : List Expr} {scope : Scope} {own : List (Str × Nat)} {di : DI} {dg : DG} {sl : List Nat} (hc : X.calm = true) (hN : X.N.Nodup) (hi : QI X Wx tg iter di) (ok : BlkOk X.N X.env.scope scope own)
    (hg : ∀ (s : Shared) (H : Hp) (C : Addr) (cl : List (Str × Addr)) (fp : List Addr), QG (X.blk s H scope (compEnvC scope cl C X.env) fp) tg sl dg) (ht : ∀ (s : Shared) (H : Hp) (C : Addr) (cl : List (Str × Addr)) (fp : List Addr), QTs (X.blk s H scope (compEnvC scope cl C X.env) fp) Wx0 ifs dt)
    (he : ∀ (s : Shared) (H : Hp) (C : Addr) (cl : List (Str × Addr)) (fp : List Addr), QE (X.blk s H scope (compEnvC scope cl C X.env) fp) Wx0 elt de) (hsl : ∀ i ∈ sl, i ∈ own.map (·.2) := by decide) (hs : ∀ x, foldedSetIterable iter X.env x = pure x := by intro _; rfl) :
    QE X Wx (.ListComp elt [⟨tg, iter, ifs, 0⟩] scope pos) (dLc di dg dt de (own.map (·.2))) := by
  obtain ⟨wi, pi, si⟩ := hi.ex
  exact ⟨_, pe_lc hc hN pi ok (fun s H C cl fp => (hg s H C cl fp).pg) (fun s H C cl fp => (ht s H C cl fp).pt) (fun s H C cl fp => (he s H C cl fp).pe) hs, sim_lc hsl si⟩
theorem s_setLc (i : Nat) {y : Str} {py spos : Pos} {elt tg iter : Expr} {ifs : List Expr} {scope : Scope} {own : List (Str × Nat)} {di : DI} {dg : DG} {sl : List Nat} (hc : X.calm = true) (hN : X.N.Nodup) (hi : QI X Wx tg iter di) (ok : BlkOk X.N X.env.scope scope own)
    (hg : ∀ (s : Shared) (H : Hp) (C : Addr) (cl : List (Str × Addr)) (fp : List Addr), QG (X.blk s H scope (compEnvC scope cl C X.env) fp) tg sl dg) (ht : ∀ (s : Shared) (H : Hp) (C : Addr) (cl : List (Str × Addr)) (fp : List Addr), QTs (X.blk s H scope (compEnvC scope cl C X.env) fp) Wx0 ifs dt)
    (he : ∀ (s : Shared) (H : Hp) (C : Addr) (cl : List (Str × Addr)) (fp : List Addr), QE (X.blk s H scope (compEnvC scope cl C X.env) fp) Wx0 elt de)
    (hsw : swapsWith (.ListComp elt [⟨tg, iter, ifs, 0⟩] scope pos) (some (.Name y py)) spos.line X.env = pure true) (hy : X.N[i]? = some y := by rfl) (hyl : X.env.scope.names.lookup y = some .local := by rfl) (hsl : ∀ i ∈ sl, i ∈ own.map (·.2) := by decide) (hs : ∀ x, foldedSetIterable iter X.env x = pure x := by intro _; rfl) :
    QS X Wx (.Assign [.Name y py] (.ListComp elt [⟨tg, iter, ifs, 0⟩] scope pos) spos) (dAsg (dLc di dg dt de (own.map (·.2))) (dgName i)) := by
  obtain ⟨wi, pi, si⟩ := hi.ex
  exact ⟨_, ps_setLc hc hN hy hyl hsw pi ok (fun s H C cl fp => (hg s H C cl fp).pg) (fun s H C cl fp => (ht s H C cl fp).pt) (fun s H C cl fp => (he s H C cl fp).pe) hs, sim_asg (sl := [i]) (sim_lc hsl si) fun v d σ H env L k Q st r h hk => hk _ _ h ⟨st.1.set r i, st.2⟩ only_set⟩
def zipD : List D → List D → List D
  | a :: as, b :: bs => .tup [a, b] :: zipD as bs
  | _, _ => []
theorem zipD_get : ∀ (as bs : List D) (i : Nat) (d : D), (zipD as bs)[i]? = some d → ∃ x y, as[i]? = some x ∧ bs[i]? = some y ∧ d = .tup [x, y]
  | [], _, _, _, h => by simp [zipD] at h
  | _ :: _, [], _, _, h => by simp [zipD] at h
  | a :: as, b :: bs, 0, d, h => by
    simp [zipD] at h
    exact ⟨a, b, rfl, rfl, h.symm⟩
  | a :: as, b :: bs, i + 1, d, h => by
    obtain ⟨x, y, h1, h2, h3⟩ := zipD_get as bs i d (by simpa [zipD] using h)
    exact ⟨x, y, by simpa using h1, by simpa using h2, h3⟩
theorem zipD_len : ∀ (as bs : List D), (zipD as bs).length = min as.length bs.length
  | [], _ => by simp [zipD]
  | _ :: _, [] => by simp [zipD]
  | a :: as, b :: bs => by simp [zipD, zipD_len as bs]
def diZip (dl : DA) : DI := fun env L k x => dl env L (fun ds L1 => match ds with
  | [.lst as, .lst bs] => k (zipD as bs) L1
  | [.tup as, .tup bs] => k (zipD as bs) L1
  | _ => False) x
theorem it_zip {K : PySem.W.Frag} {L : Led} {H : Hp} {a b : Addr} {vs ws : List V} {as bs : List D} (h : SqL' L K H a vs) (r : RpAll L K H vs as) (h' : SqL' L K H b ws) (r' : RpAll L K H ws bs) : ItD K L H (Itz K a b) (zipD as bs) := fun L' H' g j i => by
  have e1 := (g.sqL h).sq
  have e2 := (g.sqL h').sq
  refine ⟨fun d hd => ?_, fun hi => ⟨vs, ws, e1, e2, by rw [zipD_len] at hi; rw [r.length, r'.length]; omega⟩⟩
  obtain ⟨x, y, q1, q2, rfl⟩ := zipD_get as bs i d hd
  obtain ⟨vx, hx, rx⟩ := (r.go g).get q1
  obtain ⟨vy, hy, ry⟩ := (r'.go g).get q2
  refine ⟨⟨vs, ws, vx, vy, e1, e2, hx, hy⟩, fun z H'' yl => ?_⟩
  obtain ⟨T, x', y', rfl, nT, rfl, f1, f2⟩ := yl
  have k1 := f1 vs e1
  rw [hx] at k1
  cases k1
  have k2 := f2 ws e2
  rw [hy] at k2
  cases k2
  have s := same_new nT (.tup [vx, vy])
  exact ⟨s, .tup (.inl ⟨j.notIn nT, .inl upd_same⟩) (.cons (rx.go (Go.same s)) (.cons (ry.go (Go.same s)) .nil))⟩
theorem it_zipT {K : PySem.W.Frag} {L : Led} {H : Hp} {a b : Addr} {vs ws : List V} {as bs : List D} (h : SqT' L K H a vs) (r : RpAll L K H vs as) (h' : SqT' L K H b ws) (r' : RpAll L K H ws bs) : ItD K L H (ItzT K a b) (zipD as bs) := fun L' H' g j i => by
  have e1 := (g.sqT h).sq
  have e2 := (g.sqT h').sq
  refine ⟨fun d hd => ?_, fun hi => ⟨vs, ws, e1, e2, by rw [zipD_len] at hi; rw [r.length, r'.length]; omega⟩⟩
  obtain ⟨x, y, q1, q2, rfl⟩ := zipD_get as bs i d hd
  obtain ⟨vx, hx, rx⟩ := (r.go g).get q1
  obtain ⟨vy, hy, ry⟩ := (r'.go g).get q2
  refine ⟨⟨vs, ws, vx, vy, e1, e2, hx, hy⟩, fun z H'' yl => ?_⟩
  obtain ⟨T, x', y', rfl, nT, rfl, f1, f2⟩ := yl
  have k1 := f1 vs e1
  rw [hx] at k1
  cases k1
  have k2 := f2 ws e2
  rw [hy] at k2
  cases k2
  have s := same_new nT (.tup [vx, vy])
  exact ⟨s, .tup (.inl ⟨j.notIn nT, .inl upd_same⟩) (.cons (rx.go (Go.same s)) (.cons (ry.go (Go.same s)) .nil))⟩
theorem i_zip {e2 : Expr} {p tpos : Pos} {elts : List Expr} {kk : Nat} (hg : Gl X "zip") (hm : X.mg "zip" = none) (ha : QA X Wx [e, e2] dl)
    (hs : starEach [e, e2] X.env = (false, eval e X.env) :: starEach [e2] X.env := by rfl) (hpl : (backTo pos (starEach [e2] X.env)).any (·.1) = false := by rfl) : QI X Wx (.Tuple elts kk tpos) (.Call (.Name "zip" p) [e, e2] [] pos) (diZip dl) := by
  obtain ⟨ta, pa, sa⟩ := ha.ex
  refine ⟨_, pi_zipA hg hm pa hs hpl, fun σ H env L k x R st h hk hx => ?_⟩
  refine sa σ H env L _ x _ st h (fun ds L1 vs H1 h1 g1 j1 r1 => ?_) hx
  split at h1
  · cases r1 with
    | cons r1 r2 => cases r2 with
      | cons r2 r3 =>
      cases r3
      cases r1 with
      | lst n1 s1 q1 => cases r2 with
        | lst n2 s2 q2 => exact ⟨_, _, _, _, rfl, .inl ⟨SqL.of s1, SqL.of s2, hk _ L1 _ H1 h1 g1 j1 (it_zip (.inl ⟨n1, .inl s1⟩) q1 (.inl ⟨n2, .inl s2⟩) q2)⟩⟩
  · cases r1 with
    | cons r1 r2 => cases r2 with
      | cons r2 r3 =>
      cases r3
      cases r1 with
      | tup s1 q1 => cases r2 with
        | tup s2 q2 => exact ⟨_, _, _, _, rfl, .inr ⟨s1.sq, s2.sq, hk _ L1 _ H1 h1 g1 j1 (it_zipT s1 q1 s2 q2)⟩⟩
  · exact h1.elim
end
end DL
namespace DL
open PySem L2
section
end
end DL
namespace DL
open PySem L2
section
variable {X : Cx} {Wx : WX} {a b c e o : Expr} {es rest : List Expr} {da db dc de do' : DE} {dt du : DT} {dl dk : DA} {pos : Pos}
def gEqU : G2 := fun a b _ k => match scD a b with
  | true => k (.bl (flEq a b))
  | false => shp a = true ∧ shp b = true ∧ k (.bl (eqD a b))
def gNeU : G2 := fun a b _ k => match scD a b with
  | true => k (.bl (!flEq a b))
  | false => shp a = true ∧ shp b = true ∧ k (.bl (!eqD a b))
theorem oq_eqU (hu : X.A.units + 64 < cLine) : OQ X (compareOp .Eq) gEqU := OQ.or oq_eqF (oq_eq hu) fun a b L k h => by
  unfold gEqU at h
  split at h
  · rename_i hs; exact .inl ⟨hs, h⟩
  · exact .inr h
theorem oq_neU (hu : X.A.units + 64 < cLine) : OQ X (compareOp .NotEq) gNeU := OQ.or oq_neF (oq_ne hu) fun a b L k h => by
  unfold gNeU at h
  split at h
  · rename_i hs; exact .inl ⟨hs, h⟩
  · exact .inr h
def MulOk (i j : Int) : Prop := (i.natAbs < 2 ^ 63 ∨ j.natAbs < 2 ^ 63) ∨ CMulW i j
theorem MulOk.ok {i j : Int} (h : MulOk i j) : IntMulOk i j := by
  have key : ∀ z : Int, z.natAbs < 2 ^ 63 → Builtin.Int.intBits z ≤ 64 := fun z hz => intBits_le_64 (by omega) (by omega)
  rcases h with (h | h) | h
  · exact .of_left (key i h)
  · exact .of_right (key j h)
  · exact h.ok
theorem op_mulU : OpR X (binaryOp .Mult) (rI MulOk fun i j => .int (i * j)) := opI fun _ _ _ _ _ _ _ hc q => PyProof.Rows.mul_int q (MulOk.ok hc)
abbrev gMulU : G2 := gI MulOk fun i j => .int (i * j)
theorem oq_mulU : OQ X (binaryOp .Mult) gMulU := ⟨_, op_mulU, sim2_I fun _ _ _ _ => .int _⟩
structure Cal (P : Program) (w : World) (K : PySem.W.Frag) (mg : Str → Option Value) (base : Heap) (n : Nat) (x : Str) (ps : List Str) (dd : List D) (g : DSp) : Prop where
  ex : ∃ (f : Addr) (fd : FuncData) (us : List Value) (dvs : List V), FnOk P w K mg base (L2.CX P w) n f fd ps (spD K g) ∧ mg x = some (.ref f) ∧ PySem.W.keepIn K (.ref f) = true ∧ Binds K fd ps us ∧ Vals dvs us ∧ ∀ L H, RpAll L K H dvs dd
theorem q_cal {x : Str} {p : Pos} {n k : Nat} {ps : List Str} {g : DSp} {dd : List D} (F : Cal X.prog X.w X.K X.mg X.base n x ps dd g) (hn : n ≤ k) (hr : Room k X.A) (tk : Takes X Wx) (hg : Gl X x) (ha : QA X Wx (e :: es) dl) (hdb : (x == ("__debug__" : Str)) = false := by decide)
    (he : starEach (e :: es) X.env = (false, eval e X.env) :: starEach es X.env := by rfl) (hpl : (backTo pos (starEach es X.env)).any (·.1) = false := by rfl) : QE X Wx (.Call (.Name x p) (e :: es) [] pos) (dCall g dd dl) := by
  obtain ⟨f, fd, us, dvs, F, hm, hk, hb, hd, hdd⟩ := F.ex
  exact q_call F (hr.mono hn) hg hm hk hb hd hdd tk ha hdb he hpl
end
theorem bb_len : bootBuiltins "len" = some (.builtin "len") := by decide +kernel
theorem bb_abs : bootBuiltins "abs" = some (.builtin "abs") := by decide +kernel
theorem bb_max : bootBuiltins "max" = some (.builtin "max") := by decide +kernel
theorem bb_all : bootBuiltins "all" = some (.builtin "all") := by decide +kernel
theorem bb_int : bootBuiltins "int" = some (.type "int") := by decide +kernel
theorem bb_str : bootBuiltins "str" = some (.type "str") := by decide +kernel
theorem bb_list : bootBuiltins "list" = some (.type "list") := by decide +kernel
theorem bb_tuple : bootBuiltins "tuple" = some (.type "tuple") := by decide +kernel
theorem bb_bool : bootBuiltins "bool" = some (.type "bool") := by decide +kernel
end DL
namespace DL
open PySem PySem.Spec PyProof.Rows L2
section
variable {X : Cx} {Wx : WX} {a b c e o : Expr} {es rest : List Expr} {da db dc de do' : DE} {dt du : DT} {dl dk : DA} {pos : Pos}
theorem lookup_rp {L : Led} {K : PySem.W.Frag} {H : Hp} {f : Str} : ∀ {ns : List Str} {xs : List V} {ds : List D} {d : D}, RpAll L K H xs ds → (ns.zip ds).lookup f = some d → ∃ v, (ns.zip xs).lookup f = some v ∧ Rp L K H v d
  | [], _, _, _, _, h => by simp at h
  | _ :: _, _, _, _, .nil, h => by simp at h
  | n :: ns, _, _, d, .cons (v := v) (vs := vs) (d := e) (ds := ds) r t, h => by
    by_cases hf : f = n
    · subst hf
      have h' : List.lookup f ((f, e) :: ns.zip ds) = some d := h
      rw [List.lookup_cons_self] at h'
      cases h'
      exact ⟨v, List.lookup_cons_self, r⟩
    · have q : (f == n) = false := by simpa using hf
      have h' : List.lookup f ((n, e) :: ns.zip ds) = some d := h
      rw [List.lookup_cons, q] at h'
      obtain ⟨w, h1, h2⟩ := lookup_rp t h'
      refine ⟨w, ?_, h2⟩
      show List.lookup f ((n, v) :: ns.zip vs) = some w
      rw [List.lookup_cons, q]
      exact h1
end
end DL
namespace DL
open PySem PySem.Spec PyProof.Rows L2
section
end
section
end
end DL
namespace DL
open PySem PySem.Spec PyProof.Rows L2
section
section
end
end
structure CloOk (P : Program) (w : World) (K : PySem.W.Frag) (mg : Str → Option Value) (base : Heap) (n : Nat) (G : LamF → DSp) : Prop where
  run : ∀ (A : Around) (outer : List Env) (s : Shared) (H : Hp) (f : Addr) (F : LamF) (vs : List V) (ds : List D) (L : Led) (k : DK) (x : Exn → Led → Prop) (Q : VK) (E : XK), Room n A → Env0 P w K mg base A outer s H → CloAt L H f F vs → JL K L H → RpAll L K H vs ds → G F ds L k x →
    KOk K L H k Q → (∀ n L' a H', x n L' → Go L L' H H' → JL K L' H' → ExR L' K H' a n → E n.cls (some a) H') → codeAny (model P w) A (.call (.ref f) ⟨[], []⟩) (CR (L2.CX P w) outer P w H s Q E) s
theorem CloOk.mono {P : Program} {w : World} {K : PySem.W.Frag} {mg : Str → Option Value} {base : Heap} {n m : Nat} {G : LamF → DSp} (c : CloOk P w K mg base n G) (h : n ≤ m) : CloOk P w K mg base m G :=
  ⟨fun A outer s H f F vs ds L k x Q E hr => c.run A outer s H f F vs ds L k x Q E (hr.mono h)⟩
theorem CloOk.or {P : Program} {w : World} {K : PySem.W.Frag} {mg : Str → Option Value} {base : Heap} {n : Nat} {G G' : LamF → DSp} (c : CloOk P w K mg base n G) (c' : CloOk P w K mg base n G') : CloOk P w K mg base n (fun F ds L k x => G F ds L k x ∨ G' F ds L k x) :=
  ⟨fun A outer s H f F vs ds L k x Q E hr e0 ca j r g hk hx => g.elim (fun g => c.run A outer s H f F vs ds L k x Q E hr e0 ca j r g hk hx) (fun g => c'.run A outer s H f F vs ds L k x Q E hr e0 ca j r g hk hx)⟩
section
end
end DL
namespace DL
open PySem PySem.Spec PyProof.Rows L2
section
section
end
end
end DL
namespace DL
open PySem PySem.Spec PyProof.Rows L2
section
end
section
end
end DL
namespace DL
open PySem PySem.Spec PyProof.Rows L2
section
end
section
end
section
end
end DL
namespace DL
open PySem PySem.Spec PyProof.Rows L2
section
variable {X : Cx} {Wx : WX} {a b c e o : Expr} {es rest : List Expr} {da db dc de do' : DE} {dt du : DT} {dl dk : DA} {pos : Pos}
def dNever : DS := fun _ _ _ => False
theorem s_never {st : Stmt} : QS X Wx st dNever := ⟨_, ps_never, fun _ _ _ _ _ _ _ h _ => h.elim⟩
end
section
end
section
end
end DL
namespace DL
open PySem L2
section
variable {X : Cx} {Wx : WX} {a b c e o : Expr} {es : List Expr} {da db dc de do' : DE} {dl : DA} {pos : Pos}
def dAppend (do' de : DE) : DE := fun env L k x => do' env L (fun o L1 => match o with
  | .ptr p => match L1.lookup p with
    | some (.lst _) => de env L1 (fun d L2 => match L2.lookup p with
      | some (.lst ds) => ds.length < sizeLine ∧ k .non (setL L2 p (.lst (ds ++ [d])))
      | _ => False) x
    | _ => False
  | _ => False) x
theorem q_append {apos : Pos} (ho : QE X Wx o do') (he : QE X Wx e de)
    (hbase : attributeBase o "append" X.env (eval o X.env) = eval o X.env := by rfl)
    (hfew : ((backTo pos (starEach (e :: []) X.env)).all (fun x => !x.1) && (backToKw pos (keywordEach [] X.env)).all (fun x => x.1.isSome)
      && decide ((e :: []).length + ([] : List Keyword).length + (if ([] : List Keyword).isEmpty then 0 else 1) < 30)) = true := by rfl)
    (hline : (apos.endLine == pos.line) = true := by rfl) (hs : starEach (e :: []) X.env = (false, eval e X.env) :: starEach [] X.env := by rfl) (hplain : (backTo pos (starEach [] X.env)).any (·.1) = false := by rfl) :
    QE X Wx (.Call (.Attribute o "append" apos) [e] [] pos) (dAppend do' de) := by
  obtain ⟨to, po, so⟩ := ho.ex
  obtain ⟨ta, pa, sa⟩ := (a_cons he a_nil hs).ex
  refine ⟨_, pe_bm PySem.F.plainAttrs_list PySem.F.slot_list_append PySem.F.type_list_append mt_append po pa hbase hfew hline hs hplain, fun σ H env L k x Q st h hk hx => ?_⟩
  refine so σ H env L _ x _ st h (fun o L1 vo H1 h1 g1 j1 r1 => ?_) hx
  split at h1
  · rename_i p
    cases r1
    split at h1
    · rename_i ds0 hl
      obtain ⟨vs0, e0, rv0⟩ := j1.look hl
      refine ⟨.inl ⟨rfl, _, SqL.of e0⟩, ?_⟩
      refine sa σ H1 env L1 (fun ds L2 => match ds with
        | [d] => (match L2.lookup p with
          | some (.lst ds) => ds.length < sizeLine ∧ k .non (setL L2 p (.lst (ds ++ [d])))
          | _ => False)
        | _ => False) x _ (st.go g1 j1) h1 (fun ds L2 vs H2 h2 g2 j2 r2 => ?_) (hx.go g1)
      split at h2
      · rename_i d
        cases r2 with
        | @cons vd _ _ _ rd r0 =>
        cases r0
        split at h2
        · rename_i ds1 hl2
          obtain ⟨vs1, e1, rv1⟩ := j2.look hl2
          have hp := inL_of_lookup hl2
          refine ⟨p, vs1, _, rfl, rfl, e1, by rw [rv1.length]; exact h2.1, ?_⟩
          have g4 : Go L2 (setL L2 p (.lst (ds1 ++ [d]))) H2 (upd H2 p (.lst (vs1 ++ [vd]))) := go_set hp
          have j4 : JL X.K (setL L2 p (.lst (ds1 ++ [d]))) (upd H2 p (.lst (vs1 ++ [vd]))) := j2.put hp ⟨_, upd_same, (rv1.go g4).append (.cons (rd.go g4) .nil)⟩
          exact hk _ _ _ _ h2.2 ((g1.trans g2).trans g4) j4 .non
        · exact h2.elim
      · exact h2.elim
    · exact h1.elim
  · exact h1.elim
/-- a list of the ledger, read for the last time: from now on a plain datum -/
def dSeal (i : Nat) : DE := fun env L k _ => match env[i]? with
  | some (some (.ptr p)) => match L.lookup p with
    | some (.lst ds) => k (.lst ds) (remL L p)
    | _ => False
  | _ => False
theorem q_seal (i : Nat) {x : Str} {pos : Pos} (hN : X.N[i]? = some x := by rfl) (hv : Vis X.env.scope x := by first | exact Or.inl rfl | exact Or.inr (Or.inl rfl) | exact Or.inr (Or.inr rfl)) (hd : (x == ("__debug__" : Str)) = false := by decide)
    (hcd : (x == ("__classdict__" : Str)) = false := by decide) : QE X Wx (.Name x pos) (dSeal i) := by
  refine ⟨tVar i, pv i hN hv hd hcd, fun σ H env L k x Q st h hk _ => ?_⟩
  unfold dSeal at h
  split at h
  · rename_i p hd
    split at h
    · rename_i ds hl
      obtain ⟨v, e1, r⟩ := st.1.get hd
      cases r
      obtain ⟨vs, e2, rv⟩ := st.2.look hl
      exact ⟨_, e1, hk _ _ _ H h go_rem st.2.rem (.lst (fun m => (inL_remL.mp m).2 rfl) e2 (rv.go go_rem))⟩
    · exact h.elim
  · exact h.elim
/-- the signs of a text, one by one -/
def sgD (l : List Nat) : List D := l.map fun c => .str ⟨#[c]⟩
end
end DL
namespace DL
open PySem L2
section
variable {X : Cx} {Wx : WX} {a b c e o : Expr} {es : List Expr} {da db dc de do' : DE} {dl : DA} {pos : Pos}
def gIxA : G2 := fun a b L k => match b with
  | .int i => match a with
    | .str z => z.length ≤ sizeLine ∧ match atI z.cps.toList i with
      | some c => k (.str ⟨#[c]⟩)
      | none => False
    | _ => match seqs (con L a) with
      | some ds => match atI ds i with
        | some d => k d
        | none => False
      | none => False
  | _ => False
theorem sim_ixA {K : PySem.W.Frag} : Sim2 K (fun x y H Q => rIxQ K x y H Q ∨ rIxS x y H Q) gIxA := by
  intro H L va vb a b k Q j ra rb h hk
  cases rb <;> first | exact h.elim | skip
  rename_i i
  by_cases ha : ∃ z, a = .str z
  · obtain ⟨z, rfl⟩ := ha
    exact .inr (sim_ixS H L va _ (.str z) (.int i) k Q j ra (.int i) h hk)
  · refine .inl (sim_ix H L va _ a (.int i) k Q j ra (.int i) ?_ hk)
    cases a <;> first | exact h | exact absurd ⟨_, rfl⟩ ha
theorem q_ixA (ha : QE X Wx a da) (hb : QE X Wx b db) (hs : PlainIx b := by intro _ _; rfl) : QE X Wx (.Subscript a b pos) (dOp gIxA da db) := by
  obtain ⟨ta, pa, sa⟩ := ha.ex
  obtain ⟨tb, pb, sb⟩ := hb.ex
  exact ⟨_, pe_ix (ix_or (ix_or ix_list ix_tup) ix_str) pa pb hs, sim_op sa sb sim_ixA⟩
/-- one piece of a text: a constant, a value -/
def gFmt : G1 := fun a _ k => match a with
  | .str y => y.length ≤ sizeLine ∧ k (.str y)
  | .int i => i.natAbs.log2 < 1920 ∧ k (.str (toString i))
  | _ => False
theorem q_fmt (ha : QE X Wx e da) : QE X Wx (.FormattedValue e (-1) none pos) (dUn gFmt da) := by
  obtain ⟨ta, pa, sa⟩ := ha.ex
  refine ⟨_, pe_fmt pa, fun σ H env L k x Q st h hk hx => ?_⟩
  refine sa σ H env L _ x _ st h (fun a L1 va H1 h1 g1 j1 r1 => ?_) hx
  unfold gFmt at h1
  split at h1
  · cases r1
    exact .inl ⟨_, rfl, h1.1, hk _ L1 _ H1 h1.2 g1 j1 (.str _)⟩
  · cases r1
    exact .inr ⟨_, rfl, h1.1, hk _ L1 _ H1 h1.2 g1 j1 (.str _)⟩
  · exact h1.elim
structure QJ (X : Cx) (Wx : WX) (es : List Expr) (dj : DEnv → Led → Str → (Str → Led → Prop) → DX → Prop) : Prop where
  ex : ∃ ts, PJ X es ts ∧ ∀ σ H env L acc k x (Q : Str → Hp → Prop), StL X.K σ H env L → dj env L acc k x → (∀ z L' H', k z L' → Go L L' H H' → JL X.K L' H' → Q z H') → XOk X.K Wx L H x → tJs ts acc σ H Q
def djNil : DEnv → Led → Str → (Str → Led → Prop) → DX → Prop := fun _ L acc k _ => k acc L
def djCons (de : DE) (dj : DEnv → Led → Str → (Str → Led → Prop) → DX → Prop) : DEnv → Led → Str → (Str → Led → Prop) → DX → Prop := fun env L acc k x => de env L (fun d L1 => match d with
  | .str y => (acc ++ y).length ≤ sizeLine ∧ dj env L1 (acc ++ y) k x
  | _ => False) x
theorem j_nil : QJ X Wx [] djNil := ⟨[], .nil, fun σ H env L acc k x Q st h hk hx => hk acc L H h (Go.refl L H) st.2⟩
theorem j_cons {dj : DEnv → Led → Str → (Str → Led → Prop) → DX → Prop} (he : QE X Wx e de) (hr : QJ X Wx es dj) : QJ X Wx (e :: es) (djCons de dj) := by
  obtain ⟨te, pe, se⟩ := he.ex
  obtain ⟨ts, ps, ss⟩ := hr.ex
  refine ⟨te :: ts, .cons pe ps, fun σ H env L acc k x Q st h hk hx => ?_⟩
  refine se σ H env L _ x _ st h (fun d L1 v H1 h1 g1 j1 r1 => ?_) hx
  cases r1 <;> first | exact h1.elim | skip
  exact ⟨_, rfl, h1.1, ss σ H1 env L1 _ k x Q (st.go g1 j1) h1.2 (fun z L' H' q g j => hk z L' H' q (g1.trans g) j) (hx.go g1)⟩
def dJoined (dj : DEnv → Led → Str → (Str → Led → Prop) → DX → Prop) : DE := fun env L k x => dj env L Str.empty (fun z L' => k (.str z) L') x
theorem q_joined {v1 v2 : Expr} {dj : DEnv → Led → Str → (Str → Led → Prop) → DX → Prop} (h : QJ X Wx (v1 :: v2 :: es) dj) : QE X Wx (.JoinedStr (v1 :: v2 :: es) pos) (dJoined dj) := by
  obtain ⟨ts, ps, ss⟩ := h.ex
  refine ⟨_, pe_joined ps, fun σ H env L k x Q st h hk hx => ?_⟩
  exact ss σ H env L _ _ x _ st h (fun z L' H' q g j => hk _ L' _ H' q g j (.str z)) hx
end
end DL
namespace DL
open PySem L2
section
variable {X : Cx} {Wx : WX} {a b c e o : Expr} {es : List Expr} {da db dc de do' : DE} {dl : DA} {pos : Pos}
abbrev G2L := D → D → Led → (D → Led → Prop) → Prop
def Sim2L (K : PySem.W.Frag) (r : R2) (g : G2L) : Prop := ∀ H L va vb a b k Q, JL K L H → Rp L K H va a → Rp L K H vb b → g a b L k → KOk K L H k Q → r va vb H Q
def OQL (X : Cx) (op : Operator) (g : G2L) : Prop := ∃ r, PIp X op r ∧ Sim2L X.K r g
def dAug (i : Nat) (g : G2L) (de : DE) : DS := fun D env L => match env[i]? with
  | some (some a) => de env L (fun b L1 => g a b L1 fun d L2 => D.nx (env.set i (some d)) L2) D.ex
  | _ => False
theorem s_aug (i : Nat) {x : Str} {op : Operator} {pos' : Pos} {g : G2L} (hN : X.N.Nodup) (he : QE X Wx e de) (ho : OQL X op g) (hi : X.N[i]? = some x := by rfl) (hx : Loc X.env.scope x := by first | exact Or.inl rfl | exact Or.inr rfl) (hf : X.fn x = true ∨ X.env.scope.names.lookup x = some .local := by first | exact .inl rfl | exact .inr rfl | assumption) :
    QS X Wx (.AugAssign (.Name x pos') op e pos) (dAug i g de) := by
  obtain ⟨te, pe, se⟩ := he.ex
  obtain ⟨r, hr, sr⟩ := ho
  refine ⟨_, ps_aug hN hi hx pe hr hf, fun σ H env L D' D st h ok => ?_⟩
  unfold dAug at h
  split at h
  · rename_i a hd
    obtain ⟨v, e1, rv⟩ := st.1.get hd
    refine ⟨v, e1, ?_⟩
    refine se σ H env L _ _ _ st h (fun b L1 vb H1 h1 g1 j1 r1 => ?_) ok.ex
    refine sr H1 L1 v vb a b _ _ j1 (rv.go g1) r1 h1 fun d L2 vd H2 h2 g2 j2 r2 => ?_
    exact ok.nx _ L2 _ H2 h2 (g1.trans g2) ⟨(st.1.go (g1.trans g2)).set r2 i, j2⟩
  · exact h.elim
def gAugSub : G2L := fun a b L k => match a, b with
  | .int i, .int j => k (.int (i - j)) L
  | _, _ => False
theorem ip_subQ : OQL X .Sub gAugSub := ⟨_, ip_sub, fun H L va vb a b k Q j ra rb h hk => by
  unfold gAugSub at h
  split at h
  · cases ra
    cases rb
    exact ⟨_, _, rfl, rfl, hk _ L _ H h (Go.refl L H) j (.int _)⟩
  · exact h.elim⟩
end
end DL
namespace DL
open PySem L2 TL
section
end
end DL
namespace DL
open PySem PySem.Spec PyProof.Rows L2
theorem con_obj {L : Led} {K : PySem.W.Frag} {H : Hp} {v : V} {d : D} {C : Addr} {ns : List Str} {ds : List D} (j : JL K L H) (r : Rp L K H v d) (e : con L d = .obj C ns ds) : ∃ a dx vs, v = .ref a ∧ H a = some (.ins C dx (ns.zip vs)) ∧ ns.length = vs.length ∧ RpAll L K H vs ds := by
  cases d with
  | ptr a =>
    cases r
    have e : (L.lookup a).getD (.ptr a) = _ := e
    cases h : L.lookup a with
    | none => rw [h] at e; cases e
    | some c =>
      rw [h] at e
      have e2 : c = .obj C ns ds := e
      subst e2
      obtain ⟨dx, vs, h1, h2, h3⟩ := j.look h
      exact ⟨a, dx, vs, rfl, h1, h2, h3⟩
  | obj C' ns' ds' =>
    have e2 : D.obj C' ns' ds' = .obj C ns ds := e
    cases e2
    cases r with
    | obj n h e r => exact ⟨_, _, _, rfl, h, e, r⟩
  | _ => cases e
def putNs (f : Str) : List Str → List Str
  | [] => [f]
  | g :: r => if g = f then g :: r else g :: putNs f r
def putVs {α : Type} (f : Str) (v : α) : List Str → List α → List α
  | [], _ => [v]
  | g :: r, x :: xs => if g = f then v :: xs else x :: putVs f v r xs
  | _ :: _, [] => []
theorem put_zip (f : Str) (v : V) : ∀ (ns : List Str) (xs : List V), ns.length = xs.length → putF f v (ns.zip xs) = (putNs f ns).zip (putVs f v ns xs) ∧ (putNs f ns).length = (putVs f v ns xs).length
  | [], [], _ => ⟨rfl, rfl⟩
  | [], _ :: _, h => by cases h
  | _ :: _, [], h => by cases h
  | g :: r, x :: xs, h => by
    obtain ⟨h1, h2⟩ := put_zip f v r xs (by simpa using h)
    show (if g = f then (g, v) :: r.zip xs else (g, x) :: putF f v (r.zip xs)) = (if g = f then g :: r else g :: putNs f r).zip (if g = f then v :: xs else x :: putVs f v r xs) ∧ (if g = f then g :: r else g :: putNs f r).length = (if g = f then v :: xs else x :: putVs f v r xs).length
    by_cases e : g = f
    · rw [if_pos e, if_pos e, if_pos e]
      exact ⟨rfl, h⟩
    · rw [if_neg e, if_neg e, if_neg e, h1]
      exact ⟨rfl, by rw [List.length_cons, List.length_cons, h2]⟩
theorem put_rp {L : Led} {K : PySem.W.Frag} {H : Hp} {f : Str} {v : V} {d : D} (r : Rp L K H v d) : ∀ (ns : List Str) {xs : List V} {ds : List D}, RpAll L K H xs ds → RpAll L K H (putVs f v ns xs) (putVs f d ns ds)
  | [], _, _, _ => .cons r .nil
  | g :: ns, _, _, .nil => .nil
  | g :: ns, _, _, .cons (v := x) (d := y) h t => by
    unfold putVs
    by_cases e : g = f
    · rw [if_pos e, if_pos e]; exact .cons r t
    · rw [if_neg e, if_neg e]; exact .cons h (put_rp r ns t)
section
variable {X : Cx} {Wx : WX} {a b c e o : Expr} {es : List Expr} {da db dc de do' : DE} {dl : DA} {pos apos : Pos}
/-- e.f -/
def dFld (K : PySem.W.Frag) (f : Str) (da : DE) : DE := fun env L k x => da env L (fun a L1 => match con L1 a with
  | .obj C ns ds => (Cls K C ∧ NoAttr K C f) ∧ match (ns.zip ds).lookup f with
    | some d => k d L1
    | none => False
  | _ => False) x
theorem q_fld {K : PySem.W.Frag} {f : Str} (hK : X.K = K) (he : QE X Wx e da) (hb : attributeBase e f X.env (eval e X.env) = eval e X.env := by rfl) : QE X Wx (.Attribute e f pos) (dFld K f da) := by
  subst hK
  obtain ⟨ta, pa, sa⟩ := he.ex
  refine ⟨_, pe_fld pa hb, fun σ H env L k x Q st h hk hx => ?_⟩
  refine sa σ H env L _ x _ st h (fun a L1 va H1 h1 g1 j1 r1 => ?_) hx
  split at h1
  · rename_i C ns ds hc
    obtain ⟨q, dx, vs, rfl, hq, hl, rv⟩ := con_obj j1 r1 hc
    obtain ⟨⟨h2, h3⟩, h1⟩ := h1
    split at h1
    · rename_i d hd
      obtain ⟨v, e1, r⟩ := lookup_rp rv hd
      exact ⟨q, C, dx, _, v, rfl, hq, h2, h3, e1, hk d L1 v H1 h1 g1 j1 r⟩
    · exact h1.elim
  · exact h1.elim
/-- o.f = e, o of the ledger -/
def dFldS (K : PySem.W.Frag) (f : Str) (de do' : DE) : DS := fun D env L => de env L (fun v L1 => do' env L1 (fun o L2 => match o with
  | .ptr p => match L2.lookup p with
    | some (.obj C ns ds) => (Cls K C ∧ NoAttr K C f ∧ ns.length < 1000) ∧ D.nx env (setL L2 p (.obj C (putNs f ns) (putVs f v ns ds)))
    | _ => False
  | _ => False) D.ex) D.ex
theorem s_fld {K : PySem.W.Frag} {f : Str} {p' : Pos} (hK : X.K = K) (he : QE X Wx e de) (ho : QE X Wx o do') (hs : swapsWith e (some (.Attribute o f p')) pos.line X.env = pure false := by rfl) : QS X Wx (.Assign [.Attribute o f p'] e pos) (dFldS K f de do') := by
  subst hK
  obtain ⟨te, pe, se⟩ := he.ex
  obtain ⟨to, po, so⟩ := ho.ex
  refine ⟨_, ps_fld po pe hs, fun σ H env L D' D st h ok => ?_⟩
  refine se σ H env L _ _ _ st h (fun v L1 vv H1 h1 g1 j1 r1 => ?_) ok.ex
  refine so σ H1 env L1 _ _ _ (st.go g1 j1) h1 (fun o L2 vo H2 h2 g2 j2 r2 => ?_) (ok.ex.go g1)
  split at h2
  · rename_i p
    cases r2
    split at h2
    · rename_i C ns ds hl
      obtain ⟨dx, vs, e1, e2, rv⟩ := j2.look hl
      obtain ⟨⟨c1, c2, c3⟩, h2⟩ := h2
      have hp := inL_of_lookup hl
      obtain ⟨z1, z2⟩ := put_zip f vv ns vs e2
      refine ⟨p, C, dx, _, rfl, e1, c1, c2, by rw [List.length_zip]; omega, ?_⟩
      rw [z1]
      have g4 : Go L2 (setL L2 p (.obj C (putNs f ns) (putVs f v ns ds))) H2 (upd H2 p (.ins C dx ((putNs f ns).zip (putVs f vv ns vs)))) := go_set hp
      have j4 : JL X.K (setL L2 p (.obj C (putNs f ns) (putVs f v ns ds))) (upd H2 p (.ins C dx ((putNs f ns).zip (putVs f vv ns vs)))) := j2.put hp ⟨dx, _, upd_same, z2, put_rp ((r1.go g2).go g4) ns (rv.go g4)⟩
      exact ok.nx env _ σ _ h2 ((g1.trans g2).trans g4) (st.go ((g1.trans g2).trans g4) j4)
    · exact h2.elim
  · exact h2.elim
section
variable {CX : CXT} {k : Nat} {C f : Addr} {m : Str} {fd : FuncData} {ps : List Str} {sp : Sp} {E : L2.St → XK} {ds : List Value} {dvs : List V} {ta : TE} {t : TA} {pl : Sem Bool}
def tMethE (C : Addr) (m : Str) (sp : Sp) (dvs : List V) (E : L2.St → XK) (ta : TE) (t : TA) : TE := fun σ H Q => ta σ H fun x H1 => ∃ a dx fs, x = .ref a ∧ H1 a = some (.ins C dx fs) ∧ fs.lookup m = none ∧ t σ H1 fun vs H2 => sp (x :: (vs ++ dvs)) H2 Q (E σ)
theorem pe_methE (hO : PE X o ta) (hC : Cls X.K C) (hM : Meth X.K C m f) (F : FnOk X.prog X.w X.K X.mg X.base CX k f fd ps sp) (hr : Room k X.A) (hb : Binds X.K fd ps ds) (hd : Vals dvs ds) (hx : ∀ σ, PassesAt CX X σ (E σ)) (hA : PA X (e :: es) t)
    (h1 : starEach (e :: es) X.env = (false, eval e X.env) :: starEach es X.env := by rfl) (h2 : (backTo pos (starEach es X.env)).any (·.1) = false := by rfl)
    (h3 : eval (.Call (.Attribute o m apos) (e :: es) [] pos) X.env = (do let ov ← eval o X.env; standAt apos.atName; let (f, first) ← holding [ov] (getMethod ov m pl); callWith pos f first (backTo pos (starEach (e :: es) X.env)) (backToKw pos (keywordEach [] X.env))) := by rfl) :
    PE X (.Call (.Attribute o m apos) (e :: es) [] pos) (tMethE C m sp dvs E ta t) := ⟨fun pins s σ H Q I h => by
  refine PySem.W.methodCall_KW (pl := pl) (thn (hO.run pins s σ H _ I h) fun u s1 ⟨_, H1, I1, rx, a, _, _, ez, ea, l, q⟩ => ?_) h3
  subst ez
  cases rx
  refine getmeth_ok I1 ea hC hM l (PySem.W.callWith_K (first := [.ref a]) (h₀ := X.base) I.ok.mod.kin hM.kp (thn (hA.run pos pins s1 σ H1 _ I1 q) fun us _ ⟨vs, _, I2, r, q2⟩ => ⟨I2.kIn, ?_⟩) h1 h2)
  exact run_fnSD (us := .ref a :: us) (vs := .ref a :: vs) F hr hb hd (hx σ) I2 (.cons rfl r) q2⟩
theorem pe_meth0E (hO : PE X o ta) (hC : Cls X.K C) (hM : Meth X.K C m f) (F : FnOk X.prog X.w X.K X.mg X.base CX k f fd ps sp) (hr : Room k X.A) (hb : Binds X.K fd ps ds) (hd : Vals dvs ds) (hx : ∀ σ, PassesAt CX X σ (E σ))
    (h3 : eval (.Call (.Attribute o m apos) [] [] pos) X.env = (do let ov ← eval o X.env; standAt apos.atName; let (f, first) ← holding [ov] (getMethod ov m pl); callWith pos f first (backTo pos (starEach [] X.env)) (backToKw pos (keywordEach [] X.env))) := by rfl) :
    PE X (.Call (.Attribute o m apos) [] [] pos) (tMethE C m sp dvs E ta tNil) := ⟨fun pins s σ H Q I h => by
  refine PySem.W.methodCall_KW (pl := pl) (thn (hO.run pins s σ H _ I h) fun u s1 ⟨_, H1, I1, rx, a, _, _, ez, ea, l, q⟩ => ?_) h3
  subst ez
  cases rx
  exact getmeth_ok I1 ea hC hM l (PySem.W.callWith_K0 (first := [.ref a]) I1.kIn hM.kp (run_fnSD (us := [.ref a]) (vs := [.ref a]) F hr hb hd (hx σ) I1 (.cons rfl .nil) q))⟩
end
/-- a method by its class and name -/
structure MCal (P : Program) (w : World) (K : PySem.W.Frag) (mg : Str → Option Value) (base : Heap) (n : Nat) (C : Addr) (m : Str) (ps : List Str) (dd : List D) (g : DSp) : Prop where
  ex : ∃ f fd us dvs, FnOk P w K mg base (L2.CX P w) n f fd ps (spD K g) ∧ Cls K C ∧ Meth K C m f ∧ Binds K fd ps us ∧ Vals dvs us ∧ ∀ L H, RpAll L K H dvs dd
def dMeth (C : Addr) (m : Str) (g : DSp) (dd : List D) (da : DE) (dl : DA) : DE := fun env L k x => da env L (fun a L1 => match con L1 a with
  | .obj C' ns vs => (C' = C ∧ (ns.zip vs).lookup m = none) ∧ dl env L1 (fun ds L2 => g (a :: (ds ++ dd)) L2 k fun n L' => x n env L') x
  | _ => False) x
theorem lookup_none {f : Str} : ∀ {ns : List Str} {xs : List V} {ds : List D}, xs.length = ds.length → (ns.zip ds).lookup f = none → (ns.zip xs).lookup f = none
  | [], _, _, _, _ => rfl
  | _ :: _, [], [], _, _ => rfl
  | _ :: _, [], _ :: _, h, _ => by cases h
  | _ :: _, _ :: _, [], h, _ => by cases h
  | n :: ns, x :: xs, d :: ds, h, e => by
    rw [List.zip_cons_cons, List.lookup_cons] at e ⊢
    cases hb : f == n with
    | true => rw [hb] at e; cases e
    | false => rw [hb] at e; exact lookup_none (by simpa using h) e
theorem q_meth {C : Addr} {m : Str} {n k : Nat} {ps : List Str} {g : DSp} {dd : List D} {pl : Sem Bool} (F : MCal X.prog X.w X.K X.mg X.base n C m ps dd g) (hn : n ≤ k) (hr : Room k X.A) (tk : Takes X Wx) (ho : QE X Wx o do') (ha : QA X Wx (e :: es) dl)
    (h1 : starEach (e :: es) X.env = (false, eval e X.env) :: starEach es X.env := by rfl) (h2 : (backTo pos (starEach es X.env)).any (·.1) = false := by rfl)
    (h3 : eval (.Call (.Attribute o m apos) (e :: es) [] pos) X.env = (do let ov ← eval o X.env; standAt apos.atName; let (f, first) ← holding [ov] (getMethod ov m pl); callWith pos f first (backTo pos (starEach (e :: es) X.env)) (backToKw pos (keywordEach [] X.env))) := by rfl) :
    QE X Wx (.Call (.Attribute o m apos) (e :: es) [] pos) (dMeth C m g dd do' dl) := by
  obtain ⟨f, fd, us, dvs, F, hC, hM, hb, hd, hdd⟩ := F.ex
  obtain ⟨to, po, so⟩ := ho.ex
  obtain ⟨ta, pa, sa⟩ := ha.ex
  refine ⟨_, pe_methE po hC hM F (hr.mono hn) hb hd (fun σ => passAt tk σ) pa h1 h2 h3, fun σ H env L k x Q st h hk hx => ?_⟩
  refine so σ H env L _ x _ st h (fun a L1 va H1 h1 g1 j1 r1 => ?_) hx
  split at h1
  · rename_i C' ns ds hc
    obtain ⟨⟨rfl, h2⟩, h1⟩ := h1
    obtain ⟨q, dx, vs, rfl, hq, hl, rv⟩ := con_obj j1 r1 hc
    refine ⟨q, dx, _, rfl, hq, lookup_none rv.length h2, ?_⟩
    refine sa σ H1 env L1 _ x _ (st.go g1 j1) h1 (fun ds L2 vs H2 h2 g2 j2 r2 => ?_) (hx.go g1)
    exact ⟨a :: (ds ++ dd), L2, k, fun n L' => x n env L', j2, .cons (r1.go g2) (r2.append (hdd L2 H2)), h2, (hk.go g1).go g2, fun n L' a H' q g' j' r => hx n env L' a H' σ q ((g1.trans g2).trans g') (st.go ((g1.trans g2).trans g') j') r⟩
  · exact h1.elim
def dMeth0 (C : Addr) (m : Str) (g : DSp) (dd : List D) (da : DE) : DE := fun env L k x => da env L (fun a L1 => match con L1 a with
  | .obj C' ns vs => (C' = C ∧ (ns.zip vs).lookup m = none) ∧ g (a :: dd) L1 k fun n L' => x n env L'
  | _ => False) x
theorem q_meth0 {C : Addr} {m : Str} {n k : Nat} {ps : List Str} {g : DSp} {dd : List D} {pl : Sem Bool} (F : MCal X.prog X.w X.K X.mg X.base n C m ps dd g) (hn : n ≤ k) (hr : Room k X.A) (tk : Takes X Wx) (ho : QE X Wx o do')
    (h3 : eval (.Call (.Attribute o m apos) [] [] pos) X.env = (do let ov ← eval o X.env; standAt apos.atName; let (f, first) ← holding [ov] (getMethod ov m pl); callWith pos f first (backTo pos (starEach [] X.env)) (backToKw pos (keywordEach [] X.env))) := by rfl) :
    QE X Wx (.Call (.Attribute o m apos) [] [] pos) (dMeth0 C m g dd do') := by
  obtain ⟨f, fd, us, dvs, F, hC, hM, hb, hd, hdd⟩ := F.ex
  obtain ⟨to, po, so⟩ := ho.ex
  refine ⟨_, pe_meth0E po hC hM F (hr.mono hn) hb hd (fun σ => passAt tk σ) h3, fun σ H env L k x Q st h hk hx => ?_⟩
  refine so σ H env L _ x _ st h (fun a L1 va H1 h1 g1 j1 r1 => ?_) hx
  split at h1
  · rename_i C' ns ds hc
    obtain ⟨⟨rfl, h2⟩, h1⟩ := h1
    obtain ⟨q, dx, vs, rfl, hq, hl, rv⟩ := con_obj j1 r1 hc
    refine ⟨q, dx, _, rfl, hq, lookup_none rv.length h2, ?_⟩
    exact ⟨a :: dd, L1, k, fun n L' => x n env L', j1, .cons r1 (hdd L1 H1), h1, hk.go g1, fun n L' a H' q g' j' r => hx n env L' a H' σ q (g1.trans g') (st.go (g1.trans g') j') r⟩
  · exact h1.elim
end
end DL
namespace DL
open PySem PySem.Spec PyProof.Rows L2
section
variable {X : Cx} {Wx : WX} {a b c e o : Expr} {es : List Expr} {da db dc de do' : DE} {dl : DA} {pos apos : Pos}
section
variable {CX : CXT} {k : Nat} {C f : Addr} {x : Str} {p : Pos} {fd : FuncData} {ps : List Str} {sp : Sp} {E : L2.St → XK} {ds : List Value} {dvs : List V} {t : TA}
def tMakeE (C : Addr) (sp : Sp) (dvs : List V) (E : L2.St → XK) (t : TA) : TE := fun σ H Q => t σ H fun vs H1 => ∀ x dx, H1 x = none → H1 dx = none → dx ≠ x → sp (.ref x :: (vs ++ dvs)) (upd (upd H1 dx (.own x)) x (.ins C dx [])) (fun v H2 => v = .non ∧ Q (.ref x) H2) (E σ)
theorem run_makeE {pins : List (Addr × Obj)} {σ : L2.St} {H : Hp} {s : Shared} {Q : VK} {us : List Value} {vs : List V} (M : Mk X.K C f) (F : FnOk X.prog X.w X.K X.mg X.base CX k f fd ps sp) (hr : Room (k + 1) X.A) (hb : Binds X.K fd ps ds) (hd : Vals dvs ds) (hx : PassesAt CX X σ (E σ)) (I : Inv X pins σ H s) (r : Vals vs us)
    (h : ∀ x dx, H x = none → H dx = none → dx ≠ x → sp (.ref x :: (vs ++ dvs)) (upd (upd H dx (.own x)) x (.ins C dx [])) (fun v H2 => v = .non ∧ Q (.ref x) H2) (E σ)) : wpAny (model X.prog X.w) X.A (call (.ref C) us) (EP X pins σ Q) X.xe s := by
  have q0 := h (s.heap.objs.size + 1) s.heap.objs.size (I.hok.fresh (Nat.le_succ _)) (I.hok.fresh (Nat.le_refl _)) (Nat.ne_of_lt (Nat.lt_succ_self _))
  have I2 := Inv.made (C := C) I
  have rr : Vals (V.ref (s.heap.objs.size + 1) :: (vs ++ dvs)) (.ref (s.heap.objs.size + 1) :: (us ++ ds)) := .cons rfl (r.append hd)
  have ll : (Value.ref (s.heap.objs.size + 1) :: us ++ ds).length = ps.length := rr.length.symm.trans (F.len _ _ _ _ q0)
  have run := F.run _ X.stack _ _ ⟨.ref (s.heap.objs.size + 1) :: us, []⟩ (.ref (s.heap.objs.size + 1) :: (us ++ ds)) _ _ (E σ) (hr.make C us []) (I2.env0.make C us []) (hb _ (.ref (s.heap.objs.size + 1) :: us) I2.kIn ll) rr q0
  refine wpAny_call (make_map (f := f) I.kIn M.makes M.init (beq_iff_eq.mp M.fn) (codeAny_mono run fun w s' hw => ?_))
  cases w with
  | error er => exact hx pins _ _ er s' I2 hw
  | ok fl =>
  cases fl with
  | brk => exact hw.elim
  | cont => exact hw.elim
  | next => exact hw.elim
  | ret u =>
  obtain ⟨_, H3, I3, rv, ev, q3⟩ := I2.after hw
  subst ev
  exact ⟨rv, ⟨.ref (s.heap.objs.size + 1), H3, I3, rfl, q3⟩⟩
theorem pe_makeE (M : Mk X.K C f) (F : FnOk X.prog X.w X.K X.mg X.base CX k f fd ps sp) (hr : Room (k + 1) X.A) (hg : Gl X x) (hm : X.mg x = some (.ref C)) (hb : Binds X.K fd ps ds) (hd : Vals dvs ds) (hx : ∀ σ, PassesAt CX X σ (E σ)) (hA : PA X (e :: es) t)
    (h0 : (x == ("__debug__" : Str)) = false := by decide) (h1 : starEach (e :: es) X.env = (false, eval e X.env) :: starEach es X.env := by rfl) (h2 : (backTo pos (starEach es X.env)).any (·.1) = false := by rfl) : PE X (.Call (.Name x p) (e :: es) [] pos) (tMakeE C sp dvs E t) :=
  ⟨fun pins s σ H Q I h => wpAny_Call_Name_kw (ld_glob I hg hm (PySem.W.callWith_K (h₀ := X.base) I.ok.mod.kin M.kp (thn (hA.run pos pins s σ H _ I h) fun us _ ⟨vs, _, I1, r, q⟩ => ⟨I1.kIn, run_makeE M F hr hb hd (hx σ) I1 r q⟩) h1 h2) h0)⟩
end
/-- a class by name: what its __init__ promises of the new thing of the ledger -/
structure KCal (P : Program) (w : World) (K : PySem.W.Frag) (mg : Str → Option Value) (base : Heap) (n : Nat) (x : Str) (C : Addr) (ps : List Str) (dd : List D) (g : DSp) : Prop where
  ex : ∃ f fd us dvs, FnOk P w K mg base (L2.CX P w) n f fd ps (spD K g) ∧ Mk K C f ∧ mg x = some (.ref C) ∧ Binds K fd ps us ∧ Vals dvs us ∧ ∀ L H, RpAll L K H dvs dd
/-- .. it is from then on a plain datum -/
def dMakeD (C : Addr) (g : DSp) (dd : List D) (dl : DA) : DE := fun env L k x => dl env L (fun ds L1 => ∀ q, ¬ inL L1 q → g (.ptr q :: (ds ++ dd)) ((q, .obj C [] []) :: L1) (fun v L2 => v = .non ∧ match L2.lookup q with
  | some (.obj C' ns vs) => k (.obj C' ns vs) (remL L2 q)
  | _ => False) fun n L' => x n env (remL L' q)) x
theorem made_jl {K : PySem.W.Frag} {L : Led} {H : Hp} {q dx C : Addr} (j : JL K L H) (hq : H q = none) (hd : H dx = none) (hne : dx ≠ q) : ¬ inL L q ∧ JL K ((q, .obj C [] []) :: L) (upd (upd H dx (.own q)) q (.ins C dx [])) ∧ Go L ((q, .obj C [] []) :: L) H (upd (upd H dx (.own q)) q (.ins C dx [])) := by
  have s := same_new hd (.own q)
  have hq' : (upd H dx (.own q)) q = none := by rw [upd_ne (Ne.symm hne)]; exact hq
  obtain ⟨j2, g2⟩ := (j.same s).push (d := .obj C [] []) hq' (o := .ins C dx []) ⟨dx, [], upd_same, rfl, .nil⟩
  exact ⟨j.notIn hq, j2, (Go.same s).trans g2⟩
theorem exR_go {L L' : Led} {K : PySem.W.Frag} {H H' : Hp} {a : Addr} {n : Exn} (g : Go L L' H H') (h : ExR L K H a n) : ExR L' K H' a n := by
  obtain ⟨na, vs, e1, e2, e3⟩ := h
  exact ⟨(g _ _ na e1).1, vs, (g.at' na e1).2, e2, e3.go g⟩
theorem q_makeD {x : Str} {p : Pos} {n k : Nat} {C : Addr} {ps : List Str} {g : DSp} {dd : List D} (F : KCal X.prog X.w X.K X.mg X.base n x C ps dd g) (hn : n + 1 ≤ k) (hr : Room k X.A) (tk : Takes X Wx) (hg : Gl X x) (ha : QA X Wx (e :: es) dl)
    (h0 : (x == ("__debug__" : Str)) = false := by decide) (h1 : starEach (e :: es) X.env = (false, eval e X.env) :: starEach es X.env := by rfl) (h2 : (backTo pos (starEach es X.env)).any (·.1) = false := by rfl) : QE X Wx (.Call (.Name x p) (e :: es) [] pos) (dMakeD C g dd dl) := by
  obtain ⟨f, fd, us, dvs, F, hM, hm, hb, hd, hdd⟩ := F.ex
  obtain ⟨ta, pa, sa⟩ := ha.ex
  refine ⟨_, pe_makeE hM F (hr.mono hn) hg hm hb hd (fun σ => passAt tk σ) pa h0 h1 h2, fun σ H env L k x Q st h hk hx => ?_⟩
  refine sa σ H env L _ x _ st h (fun ds L1 vs H1 h1 g1 j1 r1 q dx hq hdx hne => ?_) hx
  obtain ⟨nq, j2, g2⟩ := made_jl (C := C) j1 hq hdx hne
  refine ⟨_, _, _, _, j2, .cons (.ptr q) ((r1.go g2).append (hdd _ _)), h1 q nq, fun d L' v H' ⟨ed, hkq⟩ g' j' r' => ?_, fun n L' a H' hxq g' j' r => ?_⟩
  · subst ed
    cases r'
    refine ⟨rfl, ?_⟩
    split at hkq
    · rename_i C' ns vs' hl
      obtain ⟨dx', ws, e1, e2, rv⟩ := j'.look hl
      exact hk _ _ _ H' hkq (((g1.trans g2).trans g').trans go_rem) j'.rem (.obj (fun m => (inL_remL.mp m).2 rfl) e1 e2 (rv.go go_rem))
    · exact hkq.elim
  · exact hx n env _ a H' σ hxq (((g1.trans g2).trans g').trans go_rem) (st.go (((g1.trans g2).trans g').trans go_rem) j'.rem) (exR_go go_rem r)
end
end DL
namespace DL
open PySem PySem.Spec PyProof.Rows PySem.W L2
section
end
end DL
namespace DL
open PySem L2
def lookK {α : Type} : List Key → List α → Key → Option α
  | a :: ks, d :: ds, k => if a = k then some d else lookK ks ds k
  | _, _, _ => none
section
end
end DL
namespace DL
open PySem L2
def keepL (L L' : Led) : Led := L'.filter fun q => decide (q.1 ∈ L.map (·.1))
theorem inL_keep {L L' : Led} {a : Addr} : inL (keepL L L') a ↔ inL L' a ∧ inL L a := by
  unfold inL keepL
  constructor
  · intro h
    obtain ⟨q, hq, rfl⟩ := List.mem_map.mp h
    obtain ⟨h1, h2⟩ := List.mem_filter.mp hq
    exact ⟨List.mem_map.mpr ⟨q, h1, rfl⟩, of_decide_eq_true h2⟩
  · rintro ⟨h1, h2⟩
    obtain ⟨q, hq, rfl⟩ := List.mem_map.mp h1
    exact List.mem_map.mpr ⟨q, List.mem_filter.mpr ⟨hq, decide_eq_true h2⟩, rfl⟩
theorem go_keep {L L' : Led} {H : Hp} : Go L' (keepL L L') H H := .mk' fun a o n h => ⟨fun m => n (inL_keep.mp m).1, h⟩
theorem JL.keep {K : PySem.W.Frag} {L L' : Led} {H : Hp} (j : JL K L' H) : JL K (keepL L L') H := by
  refine ⟨?_, fun a d m => ?_⟩
  · exact List.Nodup.sublist (List.Sublist.map _ List.filter_sublist) j.nd
  · exact Own.move (j.own a d (List.mem_filter.mp m).1) go_keep fun o e => e
theorem keep_out {L L' : Led} {p : Addr} {d : D} (h : ¬ inL L p) : keepL L ((p, d) :: L') = keepL L L' := by
  unfold keepL
  rw [List.filter_cons, decide_eq_false (show ¬ p ∈ L.map (·.1) from h)]
  rfl
theorem keep_same {L L' : Led} (h : L'.map (·.1) = L.map (·.1)) : keepL L L' = L' := by
  unfold keepL
  refine List.filter_eq_self.mpr fun q hq => decide_eq_true ?_
  rw [← h]
  exact List.mem_map.mpr ⟨q, hq, rfl⟩
end DL
namespace DL
open PySem L2
def isInt : D → Bool
  | .int _ => true
  | _ => false
def okT (d : D) : Bool := (tyD d).isSome
structure Bag where
  cells : List Int
  at_ : Int
  rest : Int
  mix : Int
  cnt : Int
def bagC (b : Bag) : D := .lst [.lst (b.cells.map .int), .int b.at_, .int b.rest, .int b.mix, .int b.cnt]
structure BagOk (b : Bag) : Prop where
  a0 : 0 ≤ b.at_
  a1 : b.at_ ≤ b.cells.length
  r0 : 0 ≤ b.rest
  m0 : 0 ≤ b.mix
  m1 : b.mix < 2147483497
def bagS : DSp := fun ds L k _ => ∃ ns : List Int, ds = [.ro (ns.map .int)] ∧ ∀ p b, ¬ inL L p → BagOk b → k (.ptr p) ((p, bagC b) :: L)
def pullS : DSp := fun ds L k _ => ∃ (p : Addr) (b : Bag) (m : Int), ds = [.ptr p, .int m] ∧ L.lookup p = some (bagC b) ∧ BagOk b ∧ 0 < m ∧ m.natAbs.log2 < 9000 ∧ ∀ r b', 0 ≤ r → r < m → BagOk b' → k (.int r) (setL L p (bagC b'))
theorem con_ptr {L : Led} {p : Addr} {c : D} (h : L.lookup p = some c) : con L (.ptr p) = c := by
  show (L.lookup p).getD (.ptr p) = c
  rw [h]; rfl
theorem setL_setL (L : Led) (p : Addr) (c d : D) : setL (setL L p c) p d = setL L p d := by
  unfold setL
  rw [List.map_map]
  refine List.map_congr_left fun q _ => ?_
  show (if (if q.1 = p then (p, c) else q).1 = p then (p, d) else (if q.1 = p then (p, c) else q)) = _
  by_cases h : q.1 = p
  · simp [h]
  · simp [h]
theorem lookup_setL : ∀ {L : Led} {p : Addr} {c d : D}, L.lookup p = some c → (setL L p d).lookup p = some d
  | [], _, _, _, h => by simp at h
  | (q, e) :: L, p, c, d, h => by
    by_cases hq : q = p
    · subst hq
      show List.lookup q ((if q = q then (q, d) else (q, e)) :: setL L q d) = _
      rw [if_pos rfl]
      exact lookup_top
    · rw [setL_ne hq, lookup_ne (Ne.symm hq)]
      rw [lookup_ne (Ne.symm hq)] at h
      exact lookup_setL h
mutual
def okP : D → Bool
  | .non => true | .bl _ => true | .int _ => true | .str _ => true
  | .lst xs => decide (xs.length < 100000) && okPs xs
  | .tup xs => decide (xs.length < 100000) && okPs xs
  | .ro _ => false | .dk _ _ => false | .dt _ _ => false | .obj _ _ _ => false | .exc _ _ _ => false | .fnv _ _ => false | .clo _ _ => false | .tab _ => false | .ptr _ => false | .ty _ => false | .kt _ => false
def okPs : List D → Bool
  | [] => true
  | d :: r => okP d && okPs r
end
mutual
def dep : D → Nat
  | .lst xs => deps xs + 1
  | .tup xs => deps xs + 1
  | .non => 0 | .bl _ => 0 | .int _ => 0 | .str _ => 0 | .ro _ => 0 | .dk _ _ => 0 | .dt _ _ => 0 | .obj _ _ _ => 0 | .exc _ _ _ => 0 | .fnv _ _ => 0 | .clo _ _ => 0 | .tab _ => 0 | .ptr _ => 0 | .ty _ => 0 | .kt _ => 0
def deps : List D → Nat
  | [] => 0
  | d :: r => max (dep d) (deps r)
end
mutual
def sameD : D → D → Bool
  | .lst xs, .lst ys => sameL xs ys
  | .tup xs, .tup ys => sameL xs ys
  | .non, .non => true
  | .bl a, .bl b => decide (a = b)
  | .int a, .int b => decide (a = b)
  | .str a, .str b => decide (a = b)
  | _, _ => false
def sameL : List D → List D → Bool
  | [], [] => true
  | x :: xs, y :: ys => sameD x y && sameL xs ys
  | _, _ => false
end
mutual
theorem sameD_refl : ∀ d : D, okP d = true → sameD d d = true
  | .non, _ => by unfold sameD; rfl
  | .bl _, _ => by unfold sameD; simp
  | .int _, _ => by unfold sameD; simp
  | .str _, _ => by unfold sameD; simp
  | .lst xs, h => by unfold sameD; exact sameL_refl xs (by unfold okP at h; rw [Bool.and_eq_true] at h; exact h.2)
  | .tup xs, h => by unfold sameD; exact sameL_refl xs (by unfold okP at h; rw [Bool.and_eq_true] at h; exact h.2)
  | .ro _, h => by simp [okP] at h
  | .dk _ _, h => by simp [okP] at h
  | .dt _ _, h => by simp [okP] at h
  | .obj _ _ _, h => by simp [okP] at h
  | .exc _ _ _, h => by simp [okP] at h
  | .fnv _ _, h => by simp [okP] at h
  | .clo _ _, h => by simp [okP] at h
  | .tab _, h => by simp [okP] at h
  | .ptr _, h => by simp [okP] at h
  | .ty _, h => by simp [okP] at h
  | .kt _, h => by simp [okP] at h
theorem sameL_refl : ∀ ds : List D, okPs ds = true → sameL ds ds = true
  | [], _ => by unfold sameL; rfl
  | d :: r, h => by
    unfold okPs at h
    rw [Bool.and_eq_true] at h
    unfold sameL
    rw [sameD_refl d h.1, sameL_refl r h.2]; rfl
end
theorem sameL_len : ∀ {xs ys : List D}, xs.length ≠ ys.length → sameL xs ys = false
  | [], [], h => absurd rfl h
  | [], _ :: _, _ => by simp [sameL]
  | _ :: _, [], _ => by simp [sameL]
  | x :: xs, y :: ys, h => by
    unfold sameL
    rw [sameL_len (xs := xs) (ys := ys) (fun e => h (by simp [e])), Bool.and_false]
def sameS (n : Nat) : DSp := fun ds L k _ => ∃ a b, ds = [a, b] ∧ okP a = true ∧ okP b = true ∧ dep b < n ∧ k (.bl (sameD a b)) L
def gcdI (a b : Int) : Int := ((Nat.gcd a.natAbs b.natAbs : Nat) : Int)
def gcdS : DSp := fun ds L k _ => ∃ a b : Int, ds = [.int a, .int b] ∧ a.natAbs < 2 ^ 1990 ∧ b.natAbs < 2 ^ 1990 ∧ k (.int (gcdI a b)) L
theorem gcdI_step {x y : Int} (hx : 0 ≤ x) (hy : 0 < y) : gcdI y (x.fmod y) = gcdI x y := by
  unfold gcdI
  rw [Int.fmod_eq_emod_of_nonneg x (Int.le_of_lt hy)]
  have h1 : (x % y).natAbs = x.natAbs % y.natAbs := by
    obtain ⟨a, rfl⟩ := Int.eq_ofNat_of_zero_le hx
    obtain ⟨b, rfl⟩ := Int.eq_ofNat_of_zero_le (Int.le_of_lt hy)
    rfl
  rw [h1, Nat.gcd_comm x.natAbs y.natAbs, Nat.gcd_rec y.natAbs x.natAbs, Nat.gcd_comm]
theorem gcdI_zero {x : Int} (hx : 0 ≤ x) : gcdI x 0 = x := by
  unfold gcdI
  rw [show (0 : Int).natAbs = 0 from rfl, Nat.gcd_zero_right]
  omega
theorem gcdI_abs (a b : Int) : gcdI (if a < 0 then -a else a) (if b < 0 then -b else b) = gcdI a b := by
  unfold gcdI
  have h : ∀ z : Int, (if z < 0 then -z else z).natAbs = z.natAbs := fun z => by split <;> omega
  rw [h, h]
theorem fmod_bounds {x y : Int} (hx : 0 ≤ x) (hy : 0 < y) : 0 ≤ x.fmod y ∧ x.fmod y < y ∧ x.fmod y ≤ x := by
  rw [Int.fmod_eq_emod_of_nonneg x (Int.le_of_lt hy)]
  have e : x = y * (x / y) + x % y := (Int.mul_ediv_add_emod x y).symm
  have q : 0 ≤ y * (x / y) := Int.mul_nonneg (Int.le_of_lt hy) (Int.ediv_nonneg hx (Int.le_of_lt hy))
  exact ⟨Int.emod_nonneg _ (by omega), Int.emod_lt_of_pos _ hy, by omega⟩
/-- Euclid's steps: the product falls by half -/
theorem half_step {x y : Int} (hy : 0 < y) (h : y ≤ x) : 2 * (y * x.fmod y) ≤ x * y := by
  obtain ⟨h0, h1, _⟩ := fmod_bounds (x := x) (y := y) (by omega) hy
  have e : x = y * (x / y) + x % y := (Int.mul_ediv_add_emod x y).symm
  have e2 : x.fmod y = x % y := Int.fmod_eq_emod_of_nonneg x (Int.le_of_lt hy)
  have q1 : 1 ≤ x / y := by
    have := Int.ediv_le_ediv hy h
    rw [Int.ediv_self (by omega)] at this
    exact this
  have q2 : y * 1 ≤ y * (x / y) := Int.mul_le_mul_of_nonneg_left q1 (Int.le_of_lt hy)
  have q3 : 2 * x.fmod y ≤ x := by rw [e2]; rw [e2] at h1; omega
  have q4 : y * (2 * x.fmod y) ≤ y * x := Int.mul_le_mul_of_nonneg_left q3 (Int.le_of_lt hy)
  rw [Int.mul_comm x y, ← Int.mul_assoc, Int.mul_comm 2 y, Int.mul_assoc]
  exact q4
def lowI (t u : Int) : Int × Int := let g := if u < 0 then 0 - gcdI t u else gcdI t u; (t.fdiv g, u.fdiv g)
def lowS : DSp := fun ds L k _ => ∃ t u : Int, ds = [.int t, .int u] ∧ u ≠ 0 ∧ t.natAbs < 2 ^ 1990 ∧ u.natAbs < 2 ^ 1990 ∧ k (.tup [.int (lowI t u).1, .int (lowI t u).2]) L
theorem gcdI_nonneg (a b : Int) : 0 ≤ gcdI a b := Int.natCast_nonneg _
theorem gcdI_pos {a b : Int} (h : b ≠ 0) : 0 < gcdI a b := by
  unfold gcdI
  have : 0 < Nat.gcd a.natAbs b.natAbs := Nat.gcd_pos_of_pos_right _ (by omega)
  omega
theorem gcdI_dvd_left (a b : Int) : gcdI a b ∣ a := Int.natAbs_dvd_natAbs.mp (by unfold gcdI; rw [Int.natAbs_natCast]; exact Nat.gcd_dvd_left _ _)
theorem gcdI_dvd_right (a b : Int) : gcdI a b ∣ b := Int.natAbs_dvd_natAbs.mp (by unfold gcdI; rw [Int.natAbs_natCast]; exact Nat.gcd_dvd_right _ _)
theorem gcdI_le {a b : Int} (h : b ≠ 0) : gcdI a b ≤ b.natAbs := by
  unfold gcdI
  have : Nat.gcd a.natAbs b.natAbs ≤ b.natAbs := Nat.gcd_le_right _ (by omega)
  omega
theorem fdiv_exact {a g : Int} (hg : g ≠ 0) (h : g ∣ a) : a.fdiv g * g = a := by
  obtain ⟨c, rfl⟩ := h
  rw [Int.mul_comm g c, Int.mul_fdiv_cancel _ hg]
/-- what lowest terms are: t / u = p / q, q above 0, no common divisor -/
theorem lowI_spec {t u : Int} (hu : u ≠ 0) : 0 < (lowI t u).2 ∧ gcdI (lowI t u).1 (lowI t u).2 = 1 ∧ (lowI t u).1 * u = t * (lowI t u).2 := by
  have hg := gcdI_pos (a := t) hu
  have hs : ∃ s : Int, s ≠ 0 ∧ (s = gcdI t u ∨ s = - gcdI t u) ∧ lowI t u = (t.fdiv s, u.fdiv s) ∧ (0 < u → 0 < s) ∧ (u < 0 → s < 0) := by
    unfold lowI
    by_cases h : u < 0
    · exact ⟨0 - gcdI t u, by omega, by omega, by simp only [if_pos h], by omega, by omega⟩
    · exact ⟨gcdI t u, by omega, by omega, by simp only [if_neg h], by omega, by omega⟩
  obtain ⟨s, s0, s1, e, sp, sn⟩ := hs
  have d1 : s ∣ t := by
    rcases s1 with h | h
    · rw [h]; exact gcdI_dvd_left t u
    · rw [h]; exact Int.neg_dvd.mpr (gcdI_dvd_left t u)
  have d2 : s ∣ u := by
    rcases s1 with h | h
    · rw [h]; exact gcdI_dvd_right t u
    · rw [h]; exact Int.neg_dvd.mpr (gcdI_dvd_right t u)
  have e1 := fdiv_exact s0 d1
  have e2 := fdiv_exact s0 d2
  rw [e]
  dsimp only
  generalize t.fdiv s = p at *
  generalize u.fdiv s = q at *
  have hq : 0 < q := by
    rcases Int.lt_or_lt_of_ne hu with h | h
    · have := sn h
      rcases Int.lt_trichotomy q 0 with z | z | z
      · have := Int.mul_pos_of_neg_of_neg z this; omega
      · rw [z] at e2; omega
      · exact z
    · have := sp h
      rcases Int.lt_trichotomy q 0 with z | z | z
      · have := Int.mul_neg_of_neg_of_pos z this; omega
      · rw [z] at e2; omega
      · exact z
  refine ⟨hq, ?_, ?_⟩
  · have sa : s.natAbs = Nat.gcd t.natAbs u.natAbs := by
      have : (gcdI t u).natAbs = Nat.gcd t.natAbs u.natAbs := by unfold gcdI; rw [Int.natAbs_natCast]
      rcases s1 with h | h
      · rw [h, this]
      · rw [h, Int.natAbs_neg, this]
    have ta : t.natAbs = p.natAbs * s.natAbs := by rw [← e1, Int.natAbs_mul]
    have ua : u.natAbs = q.natAbs * s.natAbs := by rw [← e2, Int.natAbs_mul]
    have hs0 : 0 < s.natAbs := by omega
    have k : Nat.gcd p.natAbs q.natAbs * s.natAbs = 1 * s.natAbs := by
      rw [← Nat.gcd_mul_right, ← ta, ← ua, ← sa, Nat.one_mul]
    unfold gcdI
    rw [Nat.eq_of_mul_eq_mul_right hs0 k]
    rfl
  · have e1' : t = p * s := e1.symm
    have e2' : u = q * s := e2.symm
    rw [e1', e2', Int.mul_assoc, Int.mul_comm s q]
theorem lowI_small {t u : Int} (hu : u ≠ 0) : (lowI t u).1.natAbs ≤ t.natAbs ∧ (lowI t u).2.natAbs ≤ u.natAbs := by
  have key : ∀ a s : Int, s ≠ 0 → s ∣ a → (a.fdiv s).natAbs ≤ a.natAbs := fun a s h0 h => by
    have e := congrArg Int.natAbs (fdiv_exact h0 h)
    rw [Int.natAbs_mul] at e
    have : 1 ≤ s.natAbs := by omega
    calc (a.fdiv s).natAbs = (a.fdiv s).natAbs * 1 := (Nat.mul_one _).symm
      _ ≤ (a.fdiv s).natAbs * s.natAbs := Nat.mul_le_mul_left _ this
      _ = a.natAbs := e
  have hg := gcdI_pos (a := t) hu
  unfold lowI
  by_cases h : u < 0
  · simp only [if_pos h]
    have z : (0 : Int) - gcdI t u = - gcdI t u := by omega
    rw [z]
    exact ⟨key t _ (by omega) (Int.neg_dvd.mpr (gcdI_dvd_left t u)), key u _ (by omega) (Int.neg_dvd.mpr (gcdI_dvd_right t u))⟩
  · simp only [if_neg h]
    exact ⟨key t _ (by omega) (gcdI_dvd_left t u), key u _ (by omega) (gcdI_dvd_right t u)⟩
theorem setL_one {p : Addr} {c d : D} : setL [(p, c)] p d = [(p, d)] := setL_top (by simp [inL])
theorem sz_ok {n : Nat} (h : Nat.ble n 1000 = true) : n ≤ sizeLine := Nat.le_trans (Nat.le_of_ble_eq_true h) (by decide)
end DL
namespace DL
open PySem PySem.Spec PyProof.Rows L2
end DL
namespace DL
open PySem PySem.Spec PyProof.Rows L2
section
end
end DL
namespace DL
open PySem L2
end DL
namespace L2H
theorem RoomH.units {k : Nat} {A : PySem.Around} (r : RoomH k A) : A.units + 64 < PySem.cLine := by have := r.un; omega
end L2H
namespace DL
open PySem L2
/-- a contract for weaker ends -/
def upG (G : LamF → DSp) : LamF → DSp := fun F ds L k x => ∃ k0 x0, G F ds L k0 x0 ∧ (∀ d L', k0 d L' → k d L') ∧ ∀ n L', x0 n L' → x n L'
theorem CloOk.up {P : Program} {w : World} {K : PySem.W.Frag} {mg : Str → Option Value} {base : Heap} {n : Nat} {G : LamF → DSp} (c : CloOk P w K mg base n G) : CloOk P w K mg base n (upG G) :=
  ⟨fun A outer s H f F vs ds L k x Q E hr e0 ca j r g hk hx => by
    obtain ⟨k0, x0, g, h1, h2⟩ := g
    exact c.run A outer s H f F vs ds L k0 x0 Q E hr e0 ca j r g (fun d L' v H' q => hk d L' v H' (h1 d L' q)) fun n L' a H' q => hx n L' a H' (h2 n L' q)⟩
end DL
namespace DL
open PySem PySem.Spec PyProof.Rows L2
end DL
namespace DL
open PySem PySem.Spec PyProof.Rows L2
section
end
section
end
end DL
namespace DL
open PySem L2
/-- what a class must be known for, that its instances are asked for their class -/
structure InsC (K : PySem.W.Frag) (C : Addr) : Prop where
  cl : Cls K C
  ha : PySem.W.findIn K (.ref C) "__class__" = some (some (.builtin "object.__class__"))
  hn : PySem.W.specialIn K (.builtin "object.__class__") "__get__" = some (some (.builtin "getset_descriptor.__get__"))
  htk : PySem.W.takesIn K (.builtin "object.__class__") = some true
  hm : PySem.W.mroIn K C (.type "object") = some true
section
variable {X : Cx} {Wx : WX} {a b c e o : Expr} {es rest : List Expr} {da db dc de do' di : DE} {dt du : DT} {dl dk : DA} {pos : Pos}
def gIsC (K : PySem.W.Frag) (C : Addr) : G1 := fun a L k => match con L a with
  | .obj C' _ _ => ∃ b, (InsC K C' ∧ PySem.W.kitOne K (.ref C') (.ref C) = some b) ∧ k (.bl b)
  | c => match tyD c with
    | some t => ∃ b, PySem.W.kitOne K (.type t.nm) (.ref C) = some b ∧ k (.bl b)
    | none => False
def gcIsC (K : PySem.W.Frag) (C : Addr) : GC := fun ds L k => match ds with
  | [d, .ptr C'] => C' = C ∧ gIsC K C d L k
  | _ => False
theorem tyX_obj {L : Led} {K : PySem.W.Frag} {H : Hp} {v : V} {d : D} {C : Addr} {ns : List Str} {ds : List D} (j : JL K L H) (r : Rp L K H v d) (h : con L d = .obj C ns ds) (hI : InsC K C) : TyX K H v (.ref C) := by
  obtain ⟨a, dx, vs, rfl, e, _⟩ := con_obj j r h
  exact .base (.ins e hI.cl hI.ha hI.hn hI.htk hI.hm)
theorem cq_isC {K : PySem.W.Frag} (hK : X.K = K) {C : Addr} : CQ X (.builtin "isinstance") (gcIsC K C) := ⟨_, call_isi, fun H L vs ds k Q j r h hk => by
  subst hK
  unfold gcIsC at h
  split at h
  · rename_i d C'
    obtain ⟨rfl, h⟩ := h
    cases r with
    | cons r1 r2 => cases r2 with
      | cons r2 r3 =>
      cases r3
      cases r2
      unfold gIsC at h
      split at h
      · rename_i hc
        obtain ⟨b, ⟨hI, hb⟩, h⟩ := h
        exact ⟨_, _, _, _, _, rfl, .own _, tyX_obj j r1 hc hI, hb, hk _ _ H h (Same.refl H) (.bl _)⟩
      · split at h
        · rename_i t ht
          obtain ⟨b, hb, h⟩ := h
          exact ⟨_, _, _, _, _, rfl, .own _, tyX_con j r1 ht, hb, hk _ _ H h (Same.refl H) (.bl _)⟩
        · exact h.elim
  · exact h.elim⟩
theorem q_isC {K : PySem.W.Frag} {p p2 : Pos} {T : Str} {C : Addr} (hK : X.K = K) (ha : QE X Wx e da) (hmT : X.mg T = some (.ref C)) (hg : Gl X "isinstance") (hm : X.mg "isinstance" = none) (hgT : Gl X T)
    (hd : (T == ("__debug__" : Str)) = false := by decide) (hs : starEach (e :: [.Name T p2]) X.env = (false, eval e X.env) :: starEach [.Name T p2] X.env := by rfl) (hv0 : bootBuiltins "isinstance" = some (.builtin "isinstance") := by decide +kernel) :
    QE X Wx (.Call (.Name "isinstance" p) [e, .Name T p2] [] pos) (dUn (gIsC K C) da) := by
  refine (q_callB (g := gcIsC K C) (cq_isC hK) hg hm hv0 (a_cons ha (a_cons (q_glob (v := .ref C) (d := .ptr C) hgT hmT rfl (fun _ _ => .ptr _) hd) a_nil (by rfl)) hs) (by decide) (by decide) hs (by rfl)).w ?_
  intro env L k x h
  exact (show dCB (gcIsC K C) (dCons da (dCons (dC (.ptr C)) dNil)) env L k x from by
    unfold dCB dCons dC dNil
    unfold dUn at h
    refine cast ?_ h
    congr 1
    funext a L1
    show _ = (C = C ∧ _)
    simp)
end
end DL
namespace DH
open PySem PySem.Spec PyProof.Rows L2 DL
section
variable {fa : List He.Fa} {fn : List He.DefD} {K : Frag}
/-- a def without defaults -/
theorem defN (c : He.SaysD fa fn K) (i : Nat) {d : He.DefD} (h : fn[i]? = some d) (h0 : d.dfl = []) : ∃ oc od osl kV doc pm an cdv ct, K.lookup (He.fAd K d.at_) = some ⟨oc, od, .func (PySem.W.fnOf d.name d.qual d.params d.body d.scope .none kV doc pm an cdv ct), osl⟩ ∧ PySem.W.codeIn K cdv d.qual = true ∧ PySem.W.keepIn K (.ref (He.fAd K d.at_)) = true := by
  obtain ⟨fd, F⟩ := c.def_ i h
  obtain ⟨⟨oc, od, dV, kV, doc, pm, an, cdv, ct, osl, rfl, lk, hc, hd, hk⟩, kp⟩ := F
  have e : d.dvs K = [] := by unfold He.DefD.dvs; rw [h0]; rfl
  rw [e] at hd
  rcases hd with ⟨_, rfl⟩ | ⟨hne, _⟩
  · exact ⟨oc, od, osl, kV, doc, pm, an, cdv, ct, lk, hc, kp⟩
  · exact absurd rfl hne
end
/-- a law without lambdas -/
theorem law0 {l : PySem.W.OpenLaw} {w : World} {K : Frag} {CX : CXT} {k n : Nat} {x : Str} {mg : Str → Option Value} {fa : Addr} {h : Heap} {lawS : DSp}
    (A : ∃ fd : FuncData, (∀ (s : Shared) (v : Value), BindsTo s fd ⟨[v], []⟩ [(x, v)]) ∧ ∀ base : Heap, K.In base → base.Ns mainGlobals mg → FnOk l.prog w K mg base CX k fa fd [x] (spD K lawS))
    (hL : ∀ (ns : List Int), lawS [.ro (ns.map .int)] [] (fun d _ => d = .bl true) fun _ _ => False) : LamX.LawAtS l w K CX k n x mg fa h := by
  obtain ⟨fd, hb, hF⟩ := A
  refine ⟨fd, [], spD K lawS, (fun p hp => nomatch hp), (fun p hp => nomatch hp), (fun p hp => nomatch hp), hb, fun H a ns hlen _ hT hS => ?_, fun base b1 b2 _ => hF base b1 b2⟩
  refine ⟨[.ro (ns.map .int)], [], fun d _ => d = .bl true, fun _ _ => False, ⟨List.nodup_nil, fun a d m => absurd m (by simp)⟩, .cons (.ro ?_ (RpAll.ints ns)) .nil, hL ns, fun d L' v H' hd _ _ r => ?_, fun n L' a H' h => h.elim⟩
  · rcases hS with h | h
    · exact .inl ⟨by simp [inL], h⟩
    · exact .inr h
  · subst hd
    cases r
    rfl
end DH
namespace DL
open PySem PySem.Spec PyProof.Rows L2
section
section
end
end
end DL
namespace DL
open PySem PySem.Spec PyProof.Rows L2
theorem mul_one (l : Addr) (items : Array Value) (n : Nat) (dd : Option Addr) (sl : Array (Option Value)) (u : Tok) :
    Meets (Builtin.«tuple.__mul__» ⟨[.ref l, .int 1 u], []⟩) (fun _ R s => s.heap.get? l = some { cls := .type "tuple", dict := dd, data := .seq items n, slots := sl } ∧ R (.ok (.ret (Value.ref l))) s) :=
  .of_wp fun prog w A R s h => by
    obtain ⟨hp, g, d, tk, os⟩ := s
    obtain ⟨hl, h⟩ := h
    have f1 := AutoSeq1.idx_int
    wp_walk using wpAny_loadPart' hl
    exact ⟨_, rfl, h⟩
theorem mul_zero (l : Addr) (items : Array Value) (n : Nat) (dd : Option Addr) (sl : Array (Option Value)) (u : Tok) (hn : items.isEmpty = false) :
    Meets (Builtin.«tuple.__mul__» ⟨[.ref l, .int 0 u], []⟩) (fun _ R s => s.heap.get? l = some { cls := .type "tuple", dict := dd, data := .seq items n, slots := sl } ∧
      R (.ok (.ret (Value.ref s.heap.objs.size))) { s with heap := s.heap.push { cls := Value.type "tuple", data := Data.seq #[] }, toks := s.toks }) :=
  .of_wp fun prog w A R s h => by
    obtain ⟨hp, g, d, tk, os⟩ := s
    obtain ⟨hl, h⟩ := h
    have f1 := AutoSeq1.idx_int
    wp_walk using wpAny_loadPart' hl
    exact ⟨_, rfl, h⟩
section
end
end DL
namespace DL
open PySem L2
/-- a while by a measure -/
theorem whD_inv {dt : DT} {db : DS} {En : DEnds} (I : Nat → DEnv → Led → Prop)
    (step : ∀ (E' : DEnds) (m : Nat) (env : DEnv) (L : Led), E'.rt = En.rt → E'.ex = En.ex → E'.bk = En.nx → E'.ct = E'.nx → I m env L → (∀ m' env' L', m' < m → I m' env' L' → E'.nx env' L') →
      dt env L (fun b L1 => match b with | true => db E' env L1 | false => En.nx env L1) En.ex) {m : Nat} {env : DEnv} {L : Led} (h : I m env L) : ∃ n, whD dt db En n env L := by
  have key : ∀ (n m : Nat) (env : DEnv) (L : Led), m < n → I m env L → whD dt db En n env L := fun n => by
    induction n with
    | zero => intro m env L h; exact absurd h (Nat.not_lt_zero _)
    | succ n ih =>
      intro m env L hm hi
      rw [whD_succ]
      exact step { En with nx := whD dt db En n, ct := whD dt db En n, bk := En.nx } m env L rfl rfl rfl rfl hi fun m' env' L' h1 h2 => ih m' env' L' (by omega) h2
  exact ⟨m + 1, key _ _ _ _ (Nat.lt_succ_self m) h⟩
section
variable {X : Cx} {Wx : WX} {a b c e o : Expr} {es : List Expr} {da db dc de do' di : DE} {dl : DA} {pos apos : Pos}
def dOpL (g : G2L) (da db : DE) : DE := fun env L k x => da env L (fun a L1 => db env L1 (fun b L2 => g a b L2 k) x) x
theorem q_opL {op : Operator} {r : R2} {g : G2L} (ho : OpR X (binaryOp op) r) (hs : Sim2L X.K r g) (ha : QE X Wx a da) (hb : QE X Wx b db) : QE X Wx (.BinOp a op b pos) (dOpL g da db) := by
  obtain ⟨ta, pa, sa⟩ := ha.ex
  obtain ⟨tb, pb, sb⟩ := hb.ex
  refine ⟨_, pe_op ho pa pb, fun σ H env L k x Q st h hk hx => ?_⟩
  refine sa σ H env L _ x _ st h (fun d1 L1 v1 H1 h1 g1 j1 r1 => ?_) hx
  refine sb σ H1 env L1 _ x _ (st.go g1 j1) h1 (fun d2 L2 v2 H2 h2 g2 j2 r2 => ?_) (hx.go g1)
  exact hs H2 L2 v1 v2 d1 d2 k Q j2 (r1.go g2) r2 h2 (hk.go (g1.trans g2))
def gAddM : G2L := fun a b L k => match con L a, con L b with
  | .lst xs, .lst ys => xs.length + ys.length ≤ sizeLine ∧ ∀ p, ¬ inL L p → k (.ptr p) ((p, .lst (xs ++ ys)) :: L)
  | _, _ => False
theorem sim_addM {K : PySem.W.Frag} : Sim2L K rCat gAddM := fun H L va vb a b k Q j ra rb h hk => by
  unfold gAddM at h
  split at h
  · rename_i xs ys hc hd
    obtain ⟨p, vs, rfl, e1, r1⟩ := con_lst j ra hc
    obtain ⟨q, ws, rfl, e2, r2⟩ := con_lst j rb hd
    refine ⟨p, q, vs, ws, rfl, rfl, e1, e2, by rw [r1.length, r2.length]; exact h.1, fun l hl => ?_⟩
    have nl := j.notIn hl
    have g4 : Go L ((l, .lst (xs ++ ys)) :: L) H (upd H l (.lst (vs ++ ws))) := .mk' fun b u n e => ⟨fun m => (inL_cons.mp m).elim (fun z => ne_of_none e hl z) n, by rw [upd_ne (ne_of_none e hl)]; exact e⟩
    obtain ⟨j4, g5⟩ := j.push (d := .lst (xs ++ ys)) hl (o := .lst (vs ++ ws)) ⟨_, upd_same, (r1.go g4).append (r2.go g4)⟩
    exact hk _ _ _ _ (h.2 l nl) g5 j4 (.ptr l)
  · exact h.elim
theorem q_addM (ha : QE X Wx a da) (hb : QE X Wx b db) : QE X Wx (.BinOp a .Add b pos) (dOpL gAddM da db) := q_opL op_cat sim_addM ha hb
def enumD : Nat → List D → List D
  | _, [] => []
  | n, d :: r => .tup [.int n, d] :: enumD (n + 1) r
theorem enumD_get : ∀ (ds : List D) (n i : Nat) (d : D), (enumD n ds)[i]? = some d → ∃ y, ds[i]? = some y ∧ d = .tup [.int ((n + i : Nat) : Int), y]
  | [], n, i, d, h => by cases h
  | x :: r, n, 0, d, h => by cases h; exact ⟨x, rfl, rfl⟩
  | x :: r, n, i + 1, d, h => by
    obtain ⟨y, h1, h2⟩ := enumD_get r (n + 1) i d h
    exact ⟨y, h1, by rw [h2, show n + 1 + i = n + (i + 1) by omega]⟩
theorem enumD_len : ∀ (ds : List D) (n : Nat), (enumD n ds).length = ds.length
  | [], _ => rfl
  | _ :: r, n => by show (enumD (n + 1) r).length + 1 = _; rw [enumD_len r]; rfl
theorem it_enum {K : PySem.W.Frag} {L : Led} {H : Hp} {a : Addr} {vs : List V} {as : List D} (h : SqL' L K H a vs) (r : RpAll L K H vs as) : ItD K L H (Ite K a) (enumD 0 as) := fun L' H' g j i => by
  have e1 := (g.sqL h).sq
  refine ⟨fun d hd => ?_, fun hi => ⟨vs, e1, by rw [enumD_len] at hi; rw [r.length]; omega⟩⟩
  obtain ⟨x, q1, rfl⟩ := enumD_get as 0 i d hd
  obtain ⟨vx, hx, rx⟩ := (r.go g).get q1
  refine ⟨⟨vs, vx, e1, hx⟩, fun z H'' yl => ?_⟩
  obtain ⟨T, x', rfl, nT, rfl, f1⟩ := yl
  have k1 := f1 vs e1
  rw [hx] at k1
  cases k1
  have s := same_new nT (.tup [.int ((i : Nat) : Int), vx])
  refine ⟨s, .tup (.inl ⟨j.notIn nT, .inl upd_same⟩) (.cons ?_ (.cons (rx.go (Go.same s)) .nil))⟩
  rw [Nat.zero_add]
  exact .int _
def diEnum (dl : DA) : DI := fun env L k x => dl env L (fun ds L1 => match ds with
  | [.lst as] => k (enumD 0 as) L1
  | [.ro as] => k (enumD 0 as) L1
  | _ => False) x
theorem i_enum {p tpos : Pos} {elts : List Expr} {kk : Nat} (hg : Gl X "enumerate") (hm : X.mg "enumerate" = none) (ha : QA X Wx [e] dl) (hs : starEach [e] X.env = [(false, eval e X.env)] := by rfl) : QI X Wx (.Tuple elts kk tpos) (.Call (.Name "enumerate" p) [e] [] pos) (diEnum dl) := by
  obtain ⟨ta, pa, sa⟩ := ha.ex
  refine ⟨_, pi_enum hg hm pa hs, fun σ H env L k x R st h hk hx => ?_⟩
  refine sa σ H env L _ x _ st h (fun ds L1 vs H1 h1 g1 j1 r1 => ?_) hx
  split at h1
  · cases r1 with
    | cons r1 r2 =>
      cases r2
      cases r1 with
      | lst n1 s1 q1 => exact ⟨_, _, rfl, SqL.of s1, hk _ L1 _ H1 h1 g1 j1 (it_enum (.inl ⟨n1, .inl s1⟩) q1)⟩
  · cases r1 with
    | cons r1 r2 =>
      cases r2
      cases r1 with
      | ro s1 q1 => exact ⟨_, _, rfl, s1.sq, hk _ L1 _ H1 h1 g1 j1 (it_enum s1 q1)⟩
  · exact h1.elim
def intsOf : List D → Option (List Int)
  | [] => some []
  | .int z :: r => match intsOf r with
    | some l => some (z :: l)
    | none => none
  | _ => none
theorem intsOf_eq : ∀ {ds : List D} {l : List Int}, intsOf ds = some l → ds = l.map D.int
  | [], l, h => by cases h; rfl
  | d :: r, l, h => by
    cases d <;> first | (cases h; done) | skip
    unfold intsOf at h
    cases e : intsOf r with
    | none => rw [e] at h; cases h
    | some m => rw [e] at h; cases h; rw [intsOf_eq e]; rfl
theorem intsOf_map : ∀ l : List Int, intsOf (l.map D.int) = some l
  | [] => rfl
  | z :: r => by show (match intsOf (r.map D.int) with | some l => some (z :: l) | none => none) = _; rw [intsOf_map r]
def gMaxL : GC := fun ds L k => match ds with
  | [d] => match con L d with
    | .lst xs => match intsOf xs with
      | some ns => 0 < ns.length ∧ ∀ m, m ∈ ns → (∀ y, y ∈ ns → y ≤ m) → k (.int m)
      | none => False
    | _ => False
  | _ => False
theorem cq_maxL (hc : X.calm = true) : CQ X (.builtin "max") gMaxL := ⟨_, cr_max hc, fun H L vs ds k Q j r h hk => by
  unfold gMaxL at h
  split at h
  · rename_i d
    cases r with
    | cons r1 r2 =>
      cases r2
      split at h
      · rename_i xs hcd
        split at h
        · rename_i ns hn
          obtain ⟨p, ws, rfl, e1, rw⟩ := con_lst j r1 hcd
          rw [intsOf_eq hn] at rw
          cases RpAll.ofInts ns rw
          exact ⟨p, ns, rfl, SqL.of e1, h.1, fun m h1 h2 => hk _ _ H (h.2 m h1 h2) (Same.refl H) (.int _)⟩
        · exact h.elim
      · exact h.elim
  · exact h.elim⟩
end
end DL
namespace DL
open PySem PySem.Spec PyProof.Rows L2
section
end
section
section
end
end
end DL
namespace PySem
namespace GEX
open Builtin Builtin.ObjectAttr PySem.Spec PyProof.Rows PySem.HandSPX
section
end
end GEX
end PySem
namespace DL
open PySem PySem.Spec PyProof.Rows L2
/-- a built-in error class: its order of classes, its __new__ -/
structure BaseF (t : List Value) (newId : String) : Prop where
  ex : ∃ B initId, ExcBaseFacts B newId initId t
  ob : t.contains (.type "object") = true
  go : ∀ self : Value, refuseLoop self "__setattr__" t = pure ()
section
end
end DL
namespace PySem
namespace GEX
open Builtin Builtin.ObjectAttr PySem.Spec PyProof.Rows PySem.HandSPX
section
end
section
end
end GEX
end PySem
namespace PySem.GEX
open PySem PySem.Spec PySem.Calls PyProof.Rows PySem.W
section
end
end PySem.GEX
namespace DL
open PySem PySem.Spec PyProof.Rows L2
section
end
end DL
namespace DL
open PySem PySem.Spec PyProof.Rows L2
section
end
end DL
namespace DL
open PySem PySem.Spec PyProof.Rows L2
section
end
section
end
end DL
namespace DL
open PySem PySem.Spec PyProof.Rows L2
section
end
structure EC (K : PySem.W.Frag) (C : Addr) (rs : List Addr) (t : List Value) (fs : List Str) : Prop where
  cls : ∃ nm q N bs sn sub ab col dd k0 k1 k2 k3 k5 newId, K.lookup C = some (excClassObj nm q C N bs (rs.map Value.ref ++ t) true sn sub ab col dd k0 k1 k2 k3 k5 newId) ∧ BaseF t newId
  sa : PySem.W.findIn K (.ref C) "__setattr__" = some (some (.builtin "object.__setattr__"))
  exC : PySem.W.subIn K (.ref C) (.type "BaseException") = some true
  tyC : PySem.W.typeIn K (.ref C) = some (.type "type")
  kC : PySem.W.keepIn K (.ref C) = true
  ga : PySem.W.findIn K (.ref C) "__getattribute__" = some (some (.builtin "BaseException.__getattribute__"))
  gg : PySem.W.findIn K (.ref C) "__getattr__" = some none
  hd : PySem.W.hasDictIn K C = true
  ca : PySem.W.findIn K (.ref C) "__class__" = some (some (.builtin "object.__class__"))
  no : ∀ f ∈ fs, PySem.W.findIn K (.ref C) f = some none
section
variable {K : PySem.W.Frag} {C : Addr} {rs : List Addr} {t : List Value} {fs : List Str}
theorem EC.clsIn (e : EC K C rs t fs) : ∃ cd, PySem.W.clsIn K C = some cd ∧ cd.mro = .ref C :: (rs.map Value.ref ++ t) := by
  obtain ⟨nm, q, N, bs, sn, sub, ab, col, dd, k0, k1, k2, k3, k5, ni, h, b⟩ := e.cls
  refine ⟨{ name := nm, bases := bs, mro := .ref C :: (rs.map Value.ref ++ t), ns := N, qualname := q, hasDict := true, slotNames := sn, subclasses := sub, abstract := ab, collection := col, hasDel := false }, ?_, rfl⟩
  unfold PySem.W.clsIn
  rw [h] <;> rfl
theorem EC.sub (e : EC K C rs t fs) (b : Value) : PySem.W.subIn K (.ref C) b = some ((Value.ref C :: (rs.map Value.ref ++ t)).contains b) := by
  obtain ⟨cd, h, m⟩ := e.clsIn
  show PySem.W.mroIn K C b = _
  unfold PySem.W.mroIn
  rw [h, Option.bind_some, m]
  rfl
end
section
end
end DL
namespace DL
open PySem PySem.Spec PyProof.Rows L2
section
end
section
section
end
end
end DL
namespace DL
open PySem PySem.Spec PyProof.Rows L2
section
end
end DL
namespace DL
open PySem PySem.Spec PyProof.Rows L2
set_option maxHeartbeats 4000000 in
theorem meets_enumT {v : Value} {o : Obj} {H : Heap → Prop} (B : Begins v o H) :
    Meets (Builtin.«enumerate.__new__» ⟨[.type "enumerate", v], []⟩) (fun _ R s => H s.heap ∧
      R (.ok (.ret (.ref (s.heap.push o).objs.size))) { s with heap := (s.heap.push o).push { cls := .type "enumerate", data := .fields #[.none, .bool false, .ref s.heap.objs.size, rawInt 0, .none, .none] } }) :=
  .of_wp fun prog w A R s h => by
    obtain ⟨hp, g, d, tk, os⟩ := s; obtain ⟨h1, h⟩ := h
    have hsub := sub_enumerate
    have q1 : ∀ {A' : Around} {E : Value → Shared → Prop} {Q : Value → Shared → Prop}, Q (.ref hp.objs.size) ⟨hp.push o, g, d, tk, os⟩ → wpAny (model prog w) A' (pyIter v) Q E ⟨hp, g, d, tk, os⟩ :=
      fun q => B.iter prog w _ _ ⟨hp, g, d, tk, os⟩ _ h1 q
    wp_walk using q1
    refine wpAny_stack_any fun st => wpAny_pure ?_
    split
    · rename_i c _ _ _ _ _
      cases (c == Value.type "enumerate")
      · wp_walk using q1
        exact ⟨_, rfl, h⟩
      · wp_walk using q1
        exact ⟨_, rfl, h⟩
    · wp_walk using q1
      exact ⟨_, rfl, h⟩
theorem call_enumT {prog : Program} {w : World} {A : Around} {E : Value → Shared → Prop} {s : Shared} {v : Value} {o : Obj} {H : Heap → Prop} {Q : Value → Shared → Prop} (B : Begins v o H) (h1 : H s.heap)
    (h : ∀ h', IsEnum h' (s.heap.objs.size + 1) s.heap.objs.size 0 .none → h'.get? s.heap.objs.size = some o → h'.objs.size = s.heap.objs.size + 2 →
      (∀ b o, s.heap.get? b = some o → h'.get? b = some o) → Q (.ref (s.heap.objs.size + 1)) { s with heap := h' }) :
    wpAny (model prog w) A (call (.type "enumerate") [v]) Q E s := by
  refine callType_new F.called_enumerate (by decide) (F.typeCall_enumerate_1 _) (F.newCall_enumerate_1 _) (fun obj => F.args_object_init_2 obj _) F.entry_enumerate_new
    (meets_enumT B) ⟨h1, ?_⟩
  have hz : (s.heap.push o).objs.size = s.heap.objs.size + 1 := Heap.size_push ..
  show _ ∧ _
  rw [hz]
  have he : IsEnum ((s.heap.push o).push { cls := .type "enumerate", data := .fields #[.none, .bool false, .ref s.heap.objs.size, rawInt 0, .none, .none] }) (s.heap.objs.size + 1) s.heap.objs.size 0 .none := by
    have := Heap.get?_push_size (s.heap.push o) (o := { cls := .type "enumerate", data := .fields #[.none, .bool false, .ref s.heap.objs.size, rawInt 0, .none, .none] }) rfl
    rw [hz] at this; exact this
  refine ⟨⟨_, he, rfl⟩, h _ he (Heap.get?_push_of_some _ (Heap.get?_push_size _ B.free)) (by rw [Heap.size_push, hz]) fun b o x => Heap.get?_push_of_some _ (Heap.get?_push_of_some _ x)⟩
def IteT (K : PySem.W.Frag) (a : Addr) : L2.It :=
  ⟨fun i H => ∃ (xs : List V) (x : V), SqT K H a xs ∧ xs[i]? = some x, fun i H v H' => ∃ T x, v = .ref T ∧ H T = none ∧ H' = upd H T (.tup [.int (i : Nat), x]) ∧ ∀ xs, SqT K H a xs → xs[i]? = some x, fun i H => ∃ xs : List V, SqT K H a xs ∧ xs.length ≤ i⟩
theorem turn_enumT {P : Program} {w : World} {K : PySem.W.Frag} {elts : List Expr} {kk : Nat} {tpos : Pos} (a e it : Addr) :
    Turn P w K (.Tuple elts kk tpos) (IteT K a) [e, it] e (fun i h => (∃ old, IsEnum h e it ((i : Nat) : Int) old) ∧ h.IsTupleIter it a i ∧ e ≠ it ∧ a ≠ it ∧ a ≠ e) where
  mem := by simp
  obj := fun i h st b hb => by
    obtain ⟨⟨old, he⟩, ⟨o, ho, hc, hd⟩, _⟩ := st
    have e' : b = e ∨ b = it := by simpa using hb
    rcases e' with z | z
    · rw [z]; exact ⟨_, he, fun v q => nomatch q⟩
    · rw [z]; exact ⟨o, ho, fun v q => by rw [hd] at q; cases q⟩
  keep := fun i h h' st k => let ⟨⟨old, he⟩, hi, hne⟩ := st; ⟨⟨old, k e (by simp) _ he⟩, hi.at fun o q => k it (by simp) o q, hne⟩
  item := by
    intro X hP hw hK hc i pins s σ H E I hf st hg
    subst hP hw hK
    obtain ⟨⟨old, he⟩, hit, hne, hai, hae⟩ := st
    obtain ⟨xs, x, hq, hx⟩ := hg
    obtain ⟨its, rv, p, hz⟩ := I.tuple hq
    obtain ⟨u, hu, ru⟩ := rv.get hx
    have hel : e < s.heap.objs.size := Heap.lt_size he
    have hil : it < s.heap.objs.size := by obtain ⟨_, q, _⟩ := hit; exact Heap.lt_size q
    have hlt : i < its.toArray.size := by
      have := (List.getElem?_eq_some_iff.mp hu).1
      simpa using this
    refine wpAny_pyNext_enum_itemD (Draws.tuple (A := X.A.in1) (show X.A.in1.handled = none from I.ok.hd hc) it a hai its.toArray) he ⟨hit, p⟩ hlt hne (by simp; exact ⟨hne, fun q => hae q.symm⟩) fun y h' tk hy ho hst hT hsz hk => ?_
    have hyu : y = u := by
      have : its[i]? = some y := by simpa using hy
      rw [hu] at this
      exact (Option.some.inj this).symm
    subst hyu
    have hit' := hst.1
    refine ⟨_, rfl, wpAny_letOwnedTupleGo_enum (s := { s with heap := h', toks := tk + 1 }) ho fun h'' he' sb => ?_⟩
    have hT2 : h''.get? s.heap.objs.size = some { cls := .type "tuple", data := .seq #[.int i tk, y] } := (sb.2 _ (Nat.ne_of_gt hel)).trans hT
    have new : ObjOk X.prog X.w (upd H s.heap.objs.size (.tup [.int (i : Nat), x])) h'' s.heap.objs.size (.tup [.int (i : Nat), x]) :=
      ⟨by show 2 ≤ sizeLine; decide, [.int i tk, y], .cons ⟨_, rfl⟩ (.cons ru .nil), ⟨_, hT2, rfl, _, rfl⟩⟩
    have I1 : Inv X pins σ (upd H s.heap.objs.size (.tup [.int (i : Nat), x])) { s with heap := h'', toks := tk + 1 } :=
      I.turnedNew (ch := [e, it]) (fun b ob hb q => (sb.2 b (fun z => hb (by simp [z]))).trans (hk b ob (fun z => hb (by simp [z])) (fun z => hb (by simp [z])) q)) hf (Nat.le_refl _) new
    refine ⟨.ref s.heap.objs.size, _, I1, rfl, ⟨_, x, rfl, I.hok.fresh (Nat.le_refl _), rfl, fun ys hy => by rw [I.tuple_inj hy hq]; exact hx⟩, ⟨⟨y, ?_⟩, hit'.at fun o q => (sb.2 it (Ne.symm hne)).trans q, hne, hai, hae⟩, fun b hb => ?_⟩
    · have e1 : ((i + 1 : Nat) : Int) = (i : Int) + 1 := by omega
      rw [e1]; exact he'
    · have hb' : b < s.heap.objs.size := by
        have e' : b = e ∨ b = it := by simpa using hb
        rcases e' with z | z
        · rw [z]; exact hel
        · rw [z]; exact hil
      rw [upd_ne (Nat.ne_of_lt hb')]
      exact (hf b hb).1
  done := by
    intro X hP hw hK hc i pins s σ H E I hf st hg
    subst hP hw hK
    obtain ⟨⟨old, he⟩, hit, hne, hai, hae⟩ := st
    obtain ⟨xs, hq, hx⟩ := hg
    obtain ⟨its, rv, p, hz⟩ := I.tuple hq
    obtain ⟨f0, f1, f2, f3, f4, f5⟩ := hf it (by simp)
    have hl := rv.length
    have hno : its.toArray[i]? = none := by simp; omega
    have D : Draws X.prog X.w X.A.in1 it [it, a] i (fun _ _ => True) (fun j h => h.IsTupleIter it a j ∧ h.IsTuple a its.toArray ∧ i ≤ j) :=
      { live := fun _ _ st => let ⟨o, ho, _⟩ := st.1; ⟨o, ho⟩
        frame := fun _ _ _ st hk => ⟨st.1.at fun o e => hk it (by simp) o e, st.2.1.at fun o e => hk a (by simp) o e, st.2.2⟩
        item := fun j s Q E hi st hQ => absurd hi (Nat.not_lt_of_le st.2.2)
        done := fun s Q E st hE => wpAny_nextOf_tuple_end (show X.A.in1.handled = none from I.ok.hd hc) st.1 st.2.1 hno hE }
    exact wpAny_pyNext_enum_endD D he ⟨hit, p, Nat.le_refl _⟩ fun h' eb => ⟨rfl, I.turned (t' := s.toks) (fun b o hb q => eb b o hb q) f0 f1 f3 f4 f5⟩
  self := fun A i s Q E st h => let ⟨⟨_, he⟩, _⟩ := st; wpAny_pyIter_enum he h
def iEnumT (K : PySem.W.Frag) (ta : TA) : TI := fun σ H R => ta σ H fun vs H1 => ∃ a xs, vs = [.ref a] ∧ SqT K H1 a xs ∧ R (IteT K a) H1
theorem pi_enumT {X : Cx} {e : Expr} {ta : TA} {p pos tpos : Pos} {elts : List Expr} {kk : Nat} (hg : Gl X "enumerate") (hm : X.mg "enumerate" = none) (ha : PA X [e] ta) (hs : starEach [e] X.env = [(false, eval e X.env)] := by rfl) :
    PI X (.Tuple elts kk tpos) (.Call (.Name "enumerate" p) [e] [] pos) (iEnumT X.K ta) := by
  refine ⟨fun pins s σ H R I h => ?_⟩
  refine Call_ (ld_blt I hg hm boot_enumerate (PyProof.Rows.callWith_type1 (thn (ha.run pos pins s σ H _ I h) fun us s1 ⟨vs, H1, I1, r1, q1⟩ => ?_) hs rfl))
  obtain ⟨a, xs, ex, hq, q⟩ := q1
  subst ex
  cases r1 with
  | cons r rr =>
    cases rr
    cases r
    obtain ⟨its, rv, p', hz⟩ := I1.tuple hq
    have hal : a < s1.heap.objs.size := by obtain ⟨_, q, _⟩ := p'; exact Heap.lt_size q
    refine call_enumT (begins_tuple a its.toArray) p' fun h' he hit hsz hk => wpAny_pyIter_enum he ?_
    have I2 : Inv X pins σ H1 { s1 with heap := h' } := I1.kept (t' := s1.toks) hk
    refine ⟨s1.heap.objs.size + 1, [s1.heap.objs.size + 1, s1.heap.objs.size], _, _, H1, rfl, I2, turn_enumT a (s1.heap.objs.size + 1) s1.heap.objs.size, ⟨⟨.none, he⟩, ⟨_, hit, rfl, rfl⟩, Nat.succ_ne_self _, Nat.ne_of_lt hal, Nat.ne_of_lt (Nat.lt_succ_of_lt hal)⟩, fun b hb => ?_, q⟩
    have e' : b = s1.heap.objs.size + 1 ∨ b = s1.heap.objs.size := by simpa using hb
    have hle : s1.heap.objs.size ≤ b := by
      rcases e' with z | z
      · rw [z]; exact Nat.le_add_right _ _
      · rw [z]; exact Nat.le_refl _
    exact I1.fpOk hle (I1.hok.fresh hle)
theorem it_enumT {K : PySem.W.Frag} {L : Led} {H : Hp} {a : Addr} {vs : List V} {as : List D} (h : SqT' L K H a vs) (r : RpAll L K H vs as) : ItD K L H (IteT K a) (enumD 0 as) := fun L' H' g j i => by
  have e1 := (g.sqT h).sq
  refine ⟨fun d hd => ?_, fun hi => ⟨vs, e1, by rw [enumD_len] at hi; rw [r.length]; omega⟩⟩
  obtain ⟨x, q1, rfl⟩ := enumD_get as 0 i d hd
  obtain ⟨vx, hx, rx⟩ := (r.go g).get q1
  refine ⟨⟨vs, vx, e1, hx⟩, fun z H'' yl => ?_⟩
  obtain ⟨T, x', rfl, nT, rfl, f1⟩ := yl
  have k1 := f1 vs e1
  rw [hx] at k1
  cases k1
  have s := same_new nT (.tup [.int ((i : Nat) : Int), vx])
  refine ⟨s, .tup (.inl ⟨j.notIn nT, .inl upd_same⟩) (.cons ?_ (.cons (rx.go (Go.same s)) .nil))⟩
  rw [Nat.zero_add]
  exact .int _
section
variable {X : Cx} {Wx : WX} {e : Expr} {es : List Expr} {de do' df : DE} {dl : DA} {pos : Pos} {ta : TA} {p : Pos}
def diEnumT (dl : DA) : DI := fun env L k x => dl env L (fun ds L1 => match ds with
  | [.tup as] => k (enumD 0 as) L1
  | _ => False) x
theorem i_enumT {p tpos : Pos} {elts : List Expr} {kk : Nat} (hg : Gl X "enumerate") (hm : X.mg "enumerate" = none) (ha : QA X Wx [e] dl) (hs : starEach [e] X.env = [(false, eval e X.env)] := by rfl) : QI X Wx (.Tuple elts kk tpos) (.Call (.Name "enumerate" p) [e] [] pos) (diEnumT dl) := by
  obtain ⟨ta, pa, sa⟩ := ha.ex
  refine ⟨_, pi_enumT hg hm pa hs, fun σ H env L k x R st h hk hx => ?_⟩
  refine sa σ H env L _ x _ st h (fun ds L1 vs H1 h1 g1 j1 r1 => ?_) hx
  split at h1
  · cases r1 with
    | cons r1 r2 =>
      cases r2
      cases r1 with
      | tup s1 q1 => exact ⟨_, _, rfl, s1.sq, hk _ L1 _ H1 h1 g1 j1 (it_enumT s1 q1)⟩
  · exact h1.elim
end
end DL
namespace DH
open PySem PySem.Spec PyProof.Rows L2 DL
def fnWa (K : Frag) (a : Addr) : He.FnW := match K.lookup a with
  | some ⟨_, _, .func fd, _⟩ => some (fd.name, fd.qualname, fd.params, fd.body, fd.scope, fd.globals, fd.closure, fd.builtins)
  | _ => none
def fnPl (K : Frag) (a : Addr) (q : Str) : Bool := match K.lookup a with
  | some ⟨_, _, .func fd, _⟩ => PySem.W.codeIn K fd.code q && decide (fd.defaults = .none)
  | _ => false
theorem fnWa_ok {K : Frag} {a : Addr} {name qual : Str} {params : Arguments} {body : List Stmt} {scope : Scope} (e : fnWa K a = some (name, qual, params, .stmts body, scope, mainGlobals, [], builtinsNs)) (c : fnPl K a qual = true) :
    ∃ oc od osl kV doc pm an cdv ct, K.lookup a = some ⟨oc, od, .func (PySem.W.fnOf name qual params body scope .none kV doc pm an cdv ct), osl⟩ ∧ PySem.W.codeIn K cdv qual = true := by
  unfold fnWa at e
  unfold fnPl at c
  cases q : K.lookup a with
  | none => rw [q] at c; cases c
  | some o =>
    obtain ⟨oc, od, dt, osl⟩ := o
    rw [q] at c e
    cases dt with
    | func fd =>
      obtain ⟨n1, n2, n3, n4, n5, n6, n7, n8, n9, n10, n11, n12, n13, n14, n15⟩ := fd
      have e2 : (some (n1, n2, n3, n4, n5, n6, n7, n15) : He.FnW) = some (name, qual, params, .stmts body, scope, mainGlobals, [], builtinsNs) := e
      simp only [Option.some.injEq, Prod.mk.injEq] at e2
      obtain ⟨h1, h2, h3, h4, h5, h6, h7, h8⟩ := e2
      subst h1 h2 h3 h4 h5 h6 h7 h8
      obtain ⟨k1, k2⟩ := He.ba c
      have k2 := of_decide_eq_true k2
      subst k2
      exact ⟨oc, od, osl, n9, n10, n11, n12, n13, n14, rfl, k1⟩
    | _ => cases c
def proG (K : Frag) (p : Addr) : Addr := match PySem.W.recIn K p "property" with
  | some (.ref g :: _) => g
  | _ => 0
def proB (K : Frag) (C : Addr) (f : Str) : Bool := decide (PySem.W.findIn K (.ref C) f = some (some (.ref (He.ma K C f)))) && (decide (PySem.W.specialIn K (.ref (He.ma K C f)) "__get__" = some (some (.builtin "property.__get__"))) && (decide (PySem.W.takesIn K (.ref (He.ma K C f)) = some true) && (match PySem.W.recIn K (He.ma K C f) "property" with
  | some (.ref _ :: _) => true
  | _ => false)))
theorem proB_ok {K : Frag} {C : Addr} {f : Str} (h : proB K C f = true) : PropOf K C f (He.ma K C f) (proG K (He.ma K C f)) := by
  obtain ⟨h1, h⟩ := He.ba h
  obtain ⟨h2, h⟩ := He.ba h
  obtain ⟨h3, h⟩ := He.ba h
  refine ⟨of_decide_eq_true h1, of_decide_eq_true h2, of_decide_eq_true h3, ?_⟩
  unfold proG
  cases e : PySem.W.recIn K (He.ma K C f) "property" with
  | none => rw [e] at h; cases h
  | some l =>
    rw [e] at h
    cases l with
    | nil => cases h
    | cons v r =>
      cases v with
      | ref g => exact ⟨r, rfl⟩
      | _ => cases h
theorem defF {K : Frag} {fa : List He.Fa} {fn : List He.DefD} (c : He.SaysD fa fn K) (i : Nat) {d : He.DefD} (h : fn[i]? = some d) {st : Stmt} {x qual : Str} {at_ : Str × Option Str} (e : d = ⟨at_, x, qual, defArgs st, defBody st, defScope st, [], []⟩) : ∃ fd, Fun K x qual st (He.fAd K at_) fd := by
  subst e
  obtain ⟨_, _, _, _, _, _, _, _, _, l, q, k⟩ := defN c i h rfl
  exact ⟨_, fun_mk l q k⟩
theorem tq {Q : Prop} {K : Frag} {l : List (Frag → Bool)} [Decidable Q] {f : Frag → Bool} (m : exAll l K = true) (i : Nat) (hf : l[i]? = some f) (e : f K = decide Q) : Q := of_decide_eq_true (e.symm.trans (ex_at m i hf))
end DH
namespace DH
open PySem PySem.Spec PyProof.Rows L2 DL
def hookM (as : List Addr) (fn : List He.DefD) (ts : List He.Tab) (tf : List He.Defn) (ex : Frag → Bool) (ga : List (Frag → Addr)) (gv : List He.FnW) : PySem.W.Hook where
  α := He.AlX × List He.FnW
  obs := fun s => (obsL as fn ts tf ex s.heap.get?, ga.map fun a => fnWa (He.frT s.heap.get? as) (a (He.frT s.heap.get? as)))
  val := fun w => (He.valX fn ts w, gv)
  says := fun w h => ∃ K : Frag, K.In h ∧ He.SaysX [] fn ts tf ex w h K ∧ (ga.map fun a => fnWa K (a K)) = gv
  of := fun _ _ e => ⟨_, He.frT_in, saysL (congrArg (fun z : He.AlX × List He.FnW => z.1) e), congrArg (fun z : He.AlX × List He.FnW => z.2) e⟩
  keeps := fun _ _ _ ⟨K, hK, c, e⟩ k => ⟨K, PySem.W.Frag.In.keeps hK k, ⟨c.t, c.more, c.hd, c.out, fun p hp => k _ _ (c.empty p hp)⟩, e⟩
def obsM (as : List Addr) (fn : List He.DefD) (ts : List He.Tab) (tf : List He.Defn) (ex : Frag → Bool) (ga : List (Frag → Addr)) (g : Addr → Option Obj) : He.AlX × List He.FnW := (obsL as fn ts tf ex g, ga.map fun a => fnWa (He.frT g as) (a (He.frT g as)))
theorem obsM_eq {as : List Addr} {fn : List He.DefD} {ts : List He.Tab} {tf : List He.Defn} {ex : Frag → Bool} {ga : List (Frag → Addr)} {gv : List He.FnW} {g : Addr → Option Obj} {s : Shared} (h : ∀ a, g a = s.heap.get? a) : obsM as fn ts tf ex ga g = (hookM as fn ts tf ex ga gv).obs s := by
  have e : g = s.heap.get? := funext h
  rw [e] <;> rfl
theorem eg_at {K : Frag} {ga : List (Frag → Addr)} {gv : List He.FnW} (e : (ga.map fun a => fnWa K (a K)) = gv) (i : Nat) {a : Frag → Addr} {v : He.FnW} (h1 : ga[i]? = some a) (h2 : gv[i]? = some v) : fnWa K (a K) = v := by
  have q := congrArg (fun l => l[i]?) e
  simp only [List.getElem?_map, h1, h2, Option.map_some] at q
  exact Option.some.inj q
end DH
namespace T15
open PySem L2 DL
abbrev sRowInit : Stmt := sAt 0 (sBody (top 28))
abbrev sRowCoefs : Stmt := sAt 2 (sBody (top 28))
abbrev sRowBool : Stmt := sAt 6 (sBody (top 28))
abbrev sRootInit : Stmt := sAt 0 (sBody (top 38))
abbrev sRootCompare : Stmt := sAt 1 (sBody (top 38))
abbrev sRootSignOf : Stmt := sAt 2 (sBody (top 38))
abbrev sRootWithin : Stmt := sAt 3 (sBody (top 38))
abbrev sRootRatio : Stmt := sAt 4 (sBody (top 38))
abbrev sRootFloor : Stmt := sAt 5 (sBody (top 38))
abbrev sRootWritten : Stmt := sAt 6 (sBody (top 38))
end T15
namespace T15
open PySem L2 DL TL NumText
abbrev sGet0 : Stmt := sAt 1 (sBody (top 28))
namespace Hd
def t0 : PySem.W.Frag → Bool := fun K => decide (PySem.W.nsIn K mainGlobals "Row" = some (some (.ref (He.ga K "Row"))))
def t1 : PySem.W.Frag → Bool := fun K => decide (PySem.W.nsIn K mainGlobals "Root" = some (some (.ref (He.ga K "Root"))))
def t2 : PySem.W.Frag → Bool := fun K => decide (PySem.W.nsIn K mainGlobals "trimmed" = some (some (.ref (He.fAd K ("trimmed", none)))))
def t3 : PySem.W.Frag → Bool := fun K => decide (PySem.W.nsIn K mainGlobals "combined" = some (some (.ref (He.fAd K ("combined", none)))))
def t4 : PySem.W.Frag → Bool := fun K => decide (PySem.W.nsIn K mainGlobals "content" = some (some (.ref (He.fAd K ("content", none)))))
def t5 : PySem.W.Frag → Bool := fun K => decide (PySem.W.nsIn K mainGlobals "primitive" = some (some (.ref (He.fAd K ("primitive", none)))))
def t6 : PySem.W.Frag → Bool := fun K => decide (PySem.W.nsIn K mainGlobals "lightened" = some (some (.ref (He.fAd K ("lightened", none)))))
def t7 : PySem.W.Frag → Bool := fun K => decide (PySem.W.nsIn K mainGlobals "remainder" = some (some (.ref (He.fAd K ("remainder", none)))))
def t8 : PySem.W.Frag → Bool := fun K => decide (PySem.W.nsIn K mainGlobals "common_list" = some (some (.ref (He.fAd K ("common_list", none)))))
def t9 : PySem.W.Frag → Bool := fun K => decide (PySem.W.nsIn K mainGlobals "exact_list" = some (some (.ref (He.fAd K ("exact_list", none)))))
def t10 : PySem.W.Frag → Bool := fun K => decide (PySem.W.nsIn K mainGlobals "derived" = some (some (.ref (He.fAd K ("derived", none)))))
def t11 : PySem.W.Frag → Bool := fun K => decide (PySem.W.nsIn K mainGlobals "free_list" = some (some (.ref (He.fAd K ("free_list", none)))))
def t12 : PySem.W.Frag → Bool := fun K => decide (PySem.W.nsIn K mainGlobals "value_over" = some (some (.ref (He.fAd K ("value_over", none)))))
def t13 : PySem.W.Frag → Bool := fun K => decide (PySem.W.nsIn K mainGlobals "is_integer" = some (some (.ref (He.fAd K ("is_integer", none)))))
def t14 : PySem.W.Frag → Bool := fun K => decide (PySem.W.nsIn K mainGlobals "lowest" = some (some (.ref (He.fAd K ("lowest", none)))))
def t15 : PySem.W.Frag → Bool := fun K => decide (PySem.W.nsIn K mainGlobals "minus" = some (some (.ref (He.fAd K ("minus", none)))))
def t16 : PySem.W.Frag → Bool := fun K => decide (PySem.W.nsIn K mainGlobals "sign" = some (some (.ref (He.fAd K ("sign", none)))))
def t17 : PySem.W.Frag → Bool := fun K => decide (PySem.W.nsIn K mainGlobals "is_less" = some (some (.ref (He.fAd K ("is_less", none)))))
def t18 : PySem.W.Frag → Bool := fun K => decide (PySem.W.nsIn K mainGlobals "middle" = some (some (.ref (He.fAd K ("middle", none)))))
def t19 : PySem.W.Frag → Bool := fun K => decide (PySem.W.nsIn K mainGlobals "ratio_text" = some (some (.ref (He.fAd K ("ratio_text", none)))))
def t20 : PySem.W.Frag → Bool := fun K => decide (PySem.W.nsIn K mainGlobals "chain_of" = some (some (.ref (He.fAd K ("chain_of", none)))))
def t21 : PySem.W.Frag → Bool := fun K => decide (PySem.W.nsIn K mainGlobals "changes" = some (some (.ref (He.fAd K ("changes", none)))))
def t22 : PySem.W.Frag → Bool := fun K => decide (PySem.W.nsIn K mainGlobals "changes_at" = some (some (.ref (He.fAd K ("changes_at", none)))))
def t23 : PySem.W.Frag → Bool := fun K => decide (PySem.W.nsIn K mainGlobals "changes_far" = some (some (.ref (He.fAd K ("changes_far", none)))))
def t24 : PySem.W.Frag → Bool := fun K => decide (PySem.W.nsIn K mainGlobals "count_between" = some (some (.ref (He.fAd K ("count_between", none)))))
def t25 : PySem.W.Frag → Bool := fun K => decide (PySem.W.nsIn K mainGlobals "far_bound" = some (some (.ref (He.fAd K ("far_bound", none)))))
def t26 : PySem.W.Frag → Bool := fun K => decide (PySem.W.nsIn K mainGlobals "isolated" = some (some (.ref (He.fAd K ("isolated", none)))))
def t27 : PySem.W.Frag → Bool := fun K => decide (PySem.W.nsIn K mainGlobals "halved" = some (some (.ref (He.fAd K ("halved", none)))))
def t28 : PySem.W.Frag → Bool := fun K => decide (PySem.W.nsIn K mainGlobals "compare_ratio" = some (some (.ref (He.fAd K ("compare_ratio", none)))))
def t29 : PySem.W.Frag → Bool := fun K => decide (PySem.W.nsIn K mainGlobals "compare_roots" = some (some (.ref (He.fAd K ("compare_roots", none)))))
def t30 : PySem.W.Frag → Bool := fun K => decide (PySem.W.nsIn K mainGlobals "_law_bag" = some (some (.ref (He.fAd K ("_law_bag", none)))))
def t31 : PySem.W.Frag → Bool := fun K => decide (PySem.W.nsIn K mainGlobals "_law_pull" = some (some (.ref (He.fAd K ("_law_pull", none)))))
def t32 : PySem.W.Frag → Bool := fun K => decide (PySem.W.nsIn K mainGlobals "_law_of" = some (some (.ref (He.fAd K ("_law_of", none)))))
def t33 : PySem.W.Frag → Bool := fun K => decide (PySem.W.nsIn K mainGlobals "_law_same" = some (some (.ref (He.fAd K ("_law_same", none)))))
def t34 : PySem.W.Frag → Bool := fun K => decide (PySem.W.nsIn K mainGlobals "_law_gcd" = some (some (.ref (He.fAd K ("_law_gcd", none)))))
def t35 : PySem.W.Frag → Bool := fun K => decide (PySem.W.nsIn K mainGlobals "_law_low" = some (some (.ref (He.fAd K ("_law_low", none)))))
def t36 : PySem.W.Frag → Bool := fun K => decide (PySem.W.nsIn K mainGlobals "_law_sub" = some (some (.ref (He.fAd K ("_law_sub", none)))))
def t37 : PySem.W.Frag → Bool := fun K => decide (PySem.W.nsIn K mainGlobals "_law_sign" = some (some (.ref (He.fAd K ("_law_sign", none)))))
def t38 : PySem.W.Frag → Bool := fun K => decide (PySem.W.nsIn K mainGlobals "_law_order" = some (some (.ref (He.fAd K ("_law_order", none)))))
def t39 : PySem.W.Frag → Bool := fun K => decide (PySem.W.nsIn K mainGlobals "_law_ratio_text" = some (some (.ref (He.fAd K ("_law_ratio_text", none)))))
def t40 : PySem.W.Frag → Bool := fun K => decide (PySem.W.nsIn K mainGlobals "_law_to" = some (some (.ref (He.fAd K ("_law_to", none)))))
def t41 : PySem.W.Frag → Bool := fun K => decide (PySem.W.nsIn K mainGlobals "_law_floor_root" = some (some (.ref (He.fAd K ("_law_floor_root", none)))))
def t42 : PySem.W.Frag → Bool := fun K => decide (PySem.W.nsIn K mainGlobals "_law_exact_root" = some (some (.ref (He.fAd K ("_law_exact_root", none)))))
def t43 : PySem.W.Frag → Bool := fun K => decide (PySem.W.nsIn K mainGlobals "law" = some (some (.ref (He.fAd K ("law", none)))))
def t44 : PySem.W.Frag → Bool := fun K => decide (PySem.W.findIn K (.ref (He.ga K "Row")) "__init__" = some (some (.ref (He.fAd K ("Row", some "__init__")))))
def t45 : PySem.W.Frag → Bool := fun K => decide (PySem.W.isFn K (.ref (He.fAd K ("Row", some "__init__"))) = true)
def t46 : PySem.W.Frag → Bool := fun K => decide (PySem.W.findIn K (.ref (He.ga K "Row")) "coefs" = some (some (.ref (He.fAd K ("Row", some "coefs")))))
def t47 : PySem.W.Frag → Bool := fun K => decide (PySem.W.isFn K (.ref (He.fAd K ("Row", some "coefs"))) = true)
def t48 : PySem.W.Frag → Bool := fun K => decide (PySem.W.findIn K (.ref (He.ga K "Row")) "__bool__" = some (some (.ref (He.fAd K ("Row", some "__bool__")))))
def t49 : PySem.W.Frag → Bool := fun K => decide (PySem.W.isFn K (.ref (He.fAd K ("Row", some "__bool__"))) = true)
def t50 : PySem.W.Frag → Bool := fun K => decide (PySem.W.findIn K (.ref (He.ga K "Root")) "__init__" = some (some (.ref (He.fAd K ("Root", some "__init__")))))
def t51 : PySem.W.Frag → Bool := fun K => decide (PySem.W.isFn K (.ref (He.fAd K ("Root", some "__init__"))) = true)
def t52 : PySem.W.Frag → Bool := fun K => decide (PySem.W.findIn K (.ref (He.ga K "Root")) "compare" = some (some (.ref (He.fAd K ("Root", some "compare")))))
def t53 : PySem.W.Frag → Bool := fun K => decide (PySem.W.isFn K (.ref (He.fAd K ("Root", some "compare"))) = true)
def t54 : PySem.W.Frag → Bool := fun K => decide (PySem.W.findIn K (.ref (He.ga K "Root")) "sign_of" = some (some (.ref (He.fAd K ("Root", some "sign_of")))))
def t55 : PySem.W.Frag → Bool := fun K => decide (PySem.W.isFn K (.ref (He.fAd K ("Root", some "sign_of"))) = true)
def t56 : PySem.W.Frag → Bool := fun K => decide (PySem.W.findIn K (.ref (He.ga K "Root")) "within" = some (some (.ref (He.fAd K ("Root", some "within")))))
def t57 : PySem.W.Frag → Bool := fun K => decide (PySem.W.isFn K (.ref (He.fAd K ("Root", some "within"))) = true)
def t58 : PySem.W.Frag → Bool := fun K => decide (PySem.W.findIn K (.ref (He.ga K "Root")) "ratio" = some (some (.ref (He.fAd K ("Root", some "ratio")))))
def t59 : PySem.W.Frag → Bool := fun K => decide (PySem.W.isFn K (.ref (He.fAd K ("Root", some "ratio"))) = true)
def t60 : PySem.W.Frag → Bool := fun K => decide (PySem.W.findIn K (.ref (He.ga K "Root")) "floor" = some (some (.ref (He.fAd K ("Root", some "floor")))))
def t61 : PySem.W.Frag → Bool := fun K => decide (PySem.W.isFn K (.ref (He.fAd K ("Root", some "floor"))) = true)
def t62 : PySem.W.Frag → Bool := fun K => decide (PySem.W.findIn K (.ref (He.ga K "Root")) "written" = some (some (.ref (He.fAd K ("Root", some "written")))))
def t63 : PySem.W.Frag → Bool := fun K => decide (PySem.W.isFn K (.ref (He.fAd K ("Root", some "written"))) = true)
def t64 : PySem.W.Frag → Bool := fun K => decide (PySem.W.nsIn K mainGlobals "isinstance" = some none)
def t65 : PySem.W.Frag → Bool := fun K => decide (PySem.W.nsIn K mainGlobals "int" = some none)
def t66 : PySem.W.Frag → Bool := fun K => decide (PySem.W.nsIn K mainGlobals "bool" = some none)
def t67 : PySem.W.Frag → Bool := fun K => decide (PySem.W.nsIn K mainGlobals "str" = some none)
def t68 : PySem.W.Frag → Bool := fun K => decide (PySem.W.nsIn K mainGlobals "list" = some none)
def t69 : PySem.W.Frag → Bool := fun K => decide (PySem.W.nsIn K mainGlobals "tuple" = some none)
def t70 : PySem.W.Frag → Bool := fun K => decide (PySem.W.nsIn K mainGlobals "len" = some none)
def t71 : PySem.W.Frag → Bool := fun K => decide (PySem.W.nsIn K mainGlobals "abs" = some none)
def t72 : PySem.W.Frag → Bool := fun K => decide (PySem.W.nsIn K mainGlobals "all" = some none)
def t73 : PySem.W.Frag → Bool := fun K => decide (PySem.W.nsIn K mainGlobals "range" = some none)
def t74 : PySem.W.Frag → Bool := fun K => decide (PySem.W.nsIn K mainGlobals "zip" = some none)
def t75 : PySem.W.Frag → Bool := fun K => decide (PySem.W.nsIn K mainGlobals "enumerate" = some none)
def t76 : PySem.W.Frag → Bool := fun K => decide (PySem.W.nsIn K mainGlobals "reversed" = some none)
def t77 : PySem.W.Frag → Bool := fun K => decide (PySem.W.nsIn K mainGlobals "max" = some none)
def t78 : PySem.W.Frag → Bool := fun K => decide (PySem.W.nsIn K mainGlobals "gcd" = some (some (.builtin "math.gcd")))
def t79 : PySem.W.Frag → Bool := fun K => decide (PySem.W.plainGet K (He.ga K "Row") Str.empty = true)
def t80 : PySem.W.Frag → Bool := fun K => decide (PySem.W.hasDictIn K (He.ga K "Row") = true)
def t81 : PySem.W.Frag → Bool := fun K => decide (PySem.W.plainOver K (He.ga K "Row") = true)
def t82 : PySem.W.Frag → Bool := fun K => decide (PySem.W.findIn K (.ref (He.ga K "Row")) "__setattr__" = some (some (.builtin "object.__setattr__")))
def t83 : PySem.W.Frag → Bool := fun K => decide (PySem.W.makesIn K (He.ga K "Row") = true)
def t84 : PySem.W.Frag → Bool := fun K => decide (PySem.W.keepIn K (.ref (He.ga K "Row")) = true)
def t85 : PySem.W.Frag → Bool := fun K => decide (PySem.W.findIn K (.ref (He.ga K "Row")) "numbers" = some none)
def t86 : PySem.W.Frag → Bool := fun K => decide (PySem.W.plainGet K (He.ga K "Root") Str.empty = true)
def t87 : PySem.W.Frag → Bool := fun K => decide (PySem.W.hasDictIn K (He.ga K "Root") = true)
def t88 : PySem.W.Frag → Bool := fun K => decide (PySem.W.plainOver K (He.ga K "Root") = true)
def t89 : PySem.W.Frag → Bool := fun K => decide (PySem.W.findIn K (.ref (He.ga K "Root")) "__setattr__" = some (some (.builtin "object.__setattr__")))
def t90 : PySem.W.Frag → Bool := fun K => decide (PySem.W.makesIn K (He.ga K "Root") = true)
def t91 : PySem.W.Frag → Bool := fun K => decide (PySem.W.keepIn K (.ref (He.ga K "Root")) = true)
def t92 : PySem.W.Frag → Bool := fun K => decide (PySem.W.findIn K (.ref (He.ga K "Root")) "numbers" = some none)
def t93 : PySem.W.Frag → Bool := fun K => decide (PySem.W.findIn K (.ref (He.ga K "Root")) "spot" = some none)
def t94 : PySem.W.Frag → Bool := fun K => decide (PySem.W.findIn K (.ref (He.ga K "Root")) "__class__" = some (some (.builtin "object.__class__")))
def t95 : PySem.W.Frag → Bool := fun K => decide (PySem.W.specialIn K (.builtin "object.__class__") "__get__" = some (some (.builtin "getset_descriptor.__get__")))
def t96 : PySem.W.Frag → Bool := fun K => decide (PySem.W.takesIn K (.builtin "object.__class__") = some true)
def t97 : PySem.W.Frag → Bool := fun K => decide (PySem.W.mroIn K (He.ga K "Root") (.type "object") = some true)
def t98 : PySem.W.Frag → Bool := fun K => decide (PySem.W.kitOne K (.ref (He.ga K "Root")) (.ref (He.ga K "Root")) = some true)
def t99 : PySem.W.Frag → Bool := fun K => decide (PySem.W.kitOne K (.type "tuple") (.ref (He.ga K "Root")) = some false)
def t100 : PySem.W.Frag → Bool := fun K => DH.proB K (He.ga K "Row") "degree"
def t101 : PySem.W.Frag → Bool := fun K => DH.fnPl K (DH.proG K (He.ma K (He.ga K "Row") "degree")) "Row.degree"
def t102 : PySem.W.Frag → Bool := fun K => decide (PySem.W.keepIn K (.ref (DH.proG K (He.ma K (He.ga K "Row") "degree"))) = true)
def tsts : List (PySem.W.Frag → Bool) := [t0, t1, t2, t3, t4, t5, t6, t7, t8, t9, t10, t11, t12, t13, t14, t15, t16, t17, t18, t19, t20, t21, t22, t23, t24, t25, t26, t27, t28, t29, t30, t31, t32, t33, t34, t35, t36, t37, t38, t39, t40, t41, t42, t43, t44, t45, t46, t47, t48, t49, t50, t51, t52, t53, t54, t55, t56, t57, t58, t59, t60, t61, t62, t63, t64, t65, t66, t67, t68, t69, t70, t71, t72, t73, t74, t75, t76, t77, t78, t79, t80, t81, t82, t83, t84, t85, t86, t87, t88, t89, t90, t91, t92, t93, t94, t95, t96, t97, t98, t99, t100, t101, t102]
def d0 : He.DefD := ⟨("trimmed", none), "trimmed", "trimmed", defArgs sTrimmed, defBody sTrimmed, defScope sTrimmed, [], []⟩
def d1 : He.DefD := ⟨("combined", none), "combined", "combined", defArgs sCombined, defBody sCombined, defScope sCombined, [], []⟩
def d2 : He.DefD := ⟨("content", none), "content", "content", defArgs sContent, defBody sContent, defScope sContent, [], []⟩
def d3 : He.DefD := ⟨("primitive", none), "primitive", "primitive", defArgs sPrimitive, defBody sPrimitive, defScope sPrimitive, [], []⟩
def d4 : He.DefD := ⟨("lightened", none), "lightened", "lightened", defArgs sLightened, defBody sLightened, defScope sLightened, [], []⟩
def d5 : He.DefD := ⟨("remainder", none), "remainder", "remainder", defArgs sRemainder, defBody sRemainder, defScope sRemainder, [], []⟩
def d6 : He.DefD := ⟨("common_list", none), "common_list", "common_list", defArgs sCommonList, defBody sCommonList, defScope sCommonList, [], []⟩
def d7 : He.DefD := ⟨("exact_list", none), "exact_list", "exact_list", defArgs sExactList, defBody sExactList, defScope sExactList, [], []⟩
def d8 : He.DefD := ⟨("derived", none), "derived", "derived", defArgs sDerived, defBody sDerived, defScope sDerived, [], []⟩
def d9 : He.DefD := ⟨("free_list", none), "free_list", "free_list", defArgs sFreeList, defBody sFreeList, defScope sFreeList, [], []⟩
def d10 : He.DefD := ⟨("value_over", none), "value_over", "value_over", defArgs sValueOver, defBody sValueOver, defScope sValueOver, [], []⟩
def d11 : He.DefD := ⟨("is_integer", none), "is_integer", "is_integer", defArgs sIsInteger, defBody sIsInteger, defScope sIsInteger, [], []⟩
def d12 : He.DefD := ⟨("lowest", none), "lowest", "lowest", defArgs sLowest, defBody sLowest, defScope sLowest, [], []⟩
def d13 : He.DefD := ⟨("minus", none), "minus", "minus", defArgs sMinus, defBody sMinus, defScope sMinus, [], []⟩
def d14 : He.DefD := ⟨("sign", none), "sign", "sign", defArgs sSign, defBody sSign, defScope sSign, [], []⟩
def d15 : He.DefD := ⟨("is_less", none), "is_less", "is_less", defArgs sIsLess, defBody sIsLess, defScope sIsLess, [], []⟩
def d16 : He.DefD := ⟨("middle", none), "middle", "middle", defArgs sMiddle, defBody sMiddle, defScope sMiddle, [], []⟩
def d17 : He.DefD := ⟨("ratio_text", none), "ratio_text", "ratio_text", defArgs sRatioText, defBody sRatioText, defScope sRatioText, [], []⟩
def d18 : He.DefD := ⟨("chain_of", none), "chain_of", "chain_of", defArgs sChainOf, defBody sChainOf, defScope sChainOf, [], []⟩
def d19 : He.DefD := ⟨("changes", none), "changes", "changes", defArgs sChanges, defBody sChanges, defScope sChanges, [], []⟩
def d20 : He.DefD := ⟨("changes_at", none), "changes_at", "changes_at", defArgs sChangesAt, defBody sChangesAt, defScope sChangesAt, [], []⟩
def d21 : He.DefD := ⟨("changes_far", none), "changes_far", "changes_far", defArgs sChangesFar, defBody sChangesFar, defScope sChangesFar, [], []⟩
def d22 : He.DefD := ⟨("count_between", none), "count_between", "count_between", defArgs sCountBetween, defBody sCountBetween, defScope sCountBetween, [], []⟩
def d23 : He.DefD := ⟨("far_bound", none), "far_bound", "far_bound", defArgs sFarBound, defBody sFarBound, defScope sFarBound, [], []⟩
def d24 : He.DefD := ⟨("isolated", none), "isolated", "isolated", defArgs sIsolated, defBody sIsolated, defScope sIsolated, [], []⟩
def d25 : He.DefD := ⟨("halved", none), "halved", "halved", defArgs sHalved, defBody sHalved, defScope sHalved, [], []⟩
def d26 : He.DefD := ⟨("compare_ratio", none), "compare_ratio", "compare_ratio", defArgs sCompareRatio, defBody sCompareRatio, defScope sCompareRatio, [], []⟩
def d27 : He.DefD := ⟨("compare_roots", none), "compare_roots", "compare_roots", defArgs sCompareRoots, defBody sCompareRoots, defScope sCompareRoots, [], []⟩
def d28 : He.DefD := ⟨("_law_bag", none), "_law_bag", "_law_bag", defArgs sLBag, defBody sLBag, defScope sLBag, [], []⟩
def d29 : He.DefD := ⟨("_law_pull", none), "_law_pull", "_law_pull", defArgs sLPull, defBody sLPull, defScope sLPull, [], []⟩
def d30 : He.DefD := ⟨("_law_of", none), "_law_of", "_law_of", defArgs sLOf, defBody sLOf, defScope sLOf, [], []⟩
def d31 : He.DefD := ⟨("_law_same", none), "_law_same", "_law_same", defArgs sLSame, defBody sLSame, defScope sLSame, [], []⟩
def d32 : He.DefD := ⟨("_law_gcd", none), "_law_gcd", "_law_gcd", defArgs sLGcd, defBody sLGcd, defScope sLGcd, [], []⟩
def d33 : He.DefD := ⟨("_law_low", none), "_law_low", "_law_low", defArgs sLLow, defBody sLLow, defScope sLLow, [], []⟩
def d34 : He.DefD := ⟨("_law_sub", none), "_law_sub", "_law_sub", defArgs sLSub, defBody sLSub, defScope sLSub, [], []⟩
def d35 : He.DefD := ⟨("_law_sign", none), "_law_sign", "_law_sign", defArgs sLSign, defBody sLSign, defScope sLSign, [], []⟩
def d36 : He.DefD := ⟨("_law_order", none), "_law_order", "_law_order", defArgs sLOrder, defBody sLOrder, defScope sLOrder, [], []⟩
def d37 : He.DefD := ⟨("_law_ratio_text", none), "_law_ratio_text", "_law_ratio_text", defArgs sLRatioText, defBody sLRatioText, defScope sLRatioText, [], []⟩
def d38 : He.DefD := ⟨("_law_to", none), "_law_to", "_law_to", defArgs sLTo, defBody sLTo, defScope sLTo, [], []⟩
def d39 : He.DefD := ⟨("_law_floor_root", none), "_law_floor_root", "_law_floor_root", defArgs sLFloorRoot, defBody sLFloorRoot, defScope sLFloorRoot, [], []⟩
def d40 : He.DefD := ⟨("_law_exact_root", none), "_law_exact_root", "_law_exact_root", defArgs sLExactRoot, defBody sLExactRoot, defScope sLExactRoot, [], []⟩
def d41 : He.DefD := ⟨("law", none), "law", "law", defArgs sLaw, defBody sLaw, defScope sLaw, [], []⟩
def d42 : He.DefD := ⟨("Row", some "__init__"), "__init__", "Row.__init__", defArgs sRowInit, defBody sRowInit, defScope sRowInit, [], []⟩
def d43 : He.DefD := ⟨("Row", some "coefs"), "coefs", "Row.coefs", defArgs sRowCoefs, defBody sRowCoefs, defScope sRowCoefs, [], []⟩
def d44 : He.DefD := ⟨("Row", some "__bool__"), "__bool__", "Row.__bool__", defArgs sRowBool, defBody sRowBool, defScope sRowBool, [], []⟩
def d45 : He.DefD := ⟨("Root", some "__init__"), "__init__", "Root.__init__", defArgs sRootInit, defBody sRootInit, defScope sRootInit, [], []⟩
def d46 : He.DefD := ⟨("Root", some "compare"), "compare", "Root.compare", defArgs sRootCompare, defBody sRootCompare, defScope sRootCompare, [], []⟩
def d47 : He.DefD := ⟨("Root", some "sign_of"), "sign_of", "Root.sign_of", defArgs sRootSignOf, defBody sRootSignOf, defScope sRootSignOf, [], []⟩
def d48 : He.DefD := ⟨("Root", some "within"), "within", "Root.within", defArgs sRootWithin, defBody sRootWithin, defScope sRootWithin, [], []⟩
def d49 : He.DefD := ⟨("Root", some "ratio"), "ratio", "Root.ratio", defArgs sRootRatio, defBody sRootRatio, defScope sRootRatio, [], []⟩
def d50 : He.DefD := ⟨("Root", some "floor"), "floor", "Root.floor", defArgs sRootFloor, defBody sRootFloor, defScope sRootFloor, [], []⟩
def d51 : He.DefD := ⟨("Root", some "written"), "written", "Root.written", defArgs sRootWritten, defBody sRootWritten, defScope sRootWritten, [], []⟩
def fnL : List He.DefD := [d0, d1, d2, d3, d4, d5, d6, d7, d8, d9, d10, d11, d12, d13, d14, d15, d16, d17, d18, d19, d20, d21, d22, d23, d24, d25, d26, d27, d28, d29, d30, d31, d32, d33, d34, d35, d36, d37, d38, d39, d40, d41, d42, d43, d44, d45, d46, d47, d48, d49, d50, d51]
def tabL : List He.Tab := []
def nm0 : List PySem.Str := ["_wall", "PlaneError", "InvalidTerm", "ZeroPolynomial", "NoRoot", "trimmed", "combined", "content", "primitive", "lightened", "remainder", "common_list", "exact_list", "derived", "free_list", "value_over", "is_integer", "lowest", "minus", "sign", "is_less", "middle", "ratio_text", "Row", "chain_of", "changes", "changes_at", "changes_far", "count_between", "far_bound"]
def nm1 : List PySem.Str := ["isolated", "halved", "Root", "compare_ratio", "compare_roots", "_law_bag", "_law_pull", "_law_of", "_law_same", "_law_gcd", "_law_low", "_law_sub", "_law_sign", "_law_order", "_law_ratio_text", "_law_to", "_law_floor_root", "_law_exact_root"]
def nms : List PySem.Str := nm0 ++ nm1
def asL : List Addr := ([3, 126, 131, 138, 143, 148, 155, 162, 169, 174, 181, 188, 195, 202, 209, 216, 223, 230, 237, 305, 316, 321, 326, 331, 338, 343, 350, 357, 416, 427, 434, 441, 448, 455, 460, 467, 474, 481, 488, 495] : List Addr) ++ ([502, 509, 516, 521, 528, 125, 130, 137, 142, 147, 154, 161, 168, 173, 180, 187, 194, 201, 208, 215, 222, 229, 236, 304, 315, 320, 325, 330, 337, 342, 349, 356, 415, 426, 433, 440, 447, 454, 459, 466] : List Addr) ++ ([473, 480, 487, 494, 501, 508, 515, 520, 527, 251, 259, 266, 297, 371, 378, 385, 392, 399, 406, 413, 250, 258, 265, 296, 370, 377, 384, 391, 398, 405, 412, 257] : List Addr)
def tf : List He.Defn := []
def gA : List (PySem.W.Frag → Addr) := [fun K => DH.proG K (He.ma K (He.ga K "Row") "degree")]
def gV : List He.FnW := [some ("degree", "Row.degree", defArgs sGet0, .stmts (defBody sGet0), defScope sGet0, mainGlobals, [], builtinsNs)]
abbrev hk : PySem.W.Hook := DH.hookM asL fnL tabL tf (DH.exAll tsts) gA gV
def ob (s : PySem.W.SharedT) : He.AlX × List He.FnW := DH.obsM asL fnL tabL tf (DH.exAll tsts) gA (HandSHeadRun.getT s)
theorem ob_eq (s : PySem.W.SharedT) : ob s = hk.obs s.abs := DH.obsM_eq (HandSHeadRun.getT_eq s)
set_option maxHeartbeats 0 in
theorem LkA (w : World) : HandSHeadRun.looksF RR0.prog (Seg.stX w).abs.heap (Seg.stF w).abs = true := by
  kernel_rfl
set_option maxHeartbeats 0 in
theorem LkB (w : World) : HandSHeadRun.seenQ (PySem.W.view RR0.prog [0, 55]) nms (PySem.importedModules RR0.prog.main.body) (fun s => PySem.W.xlAt (PySem.W.view RR0.prog [0, 55]) [] s && PySem.W.recOk RR0.toRowW.records s) (Seg.stF w).abs = PySem.W.openGood (PySem.W.view RR0.prog [0, 55]) nms := by
  kernel_rfl
set_option maxHeartbeats 0 in
theorem LkC (w : World) : ob (Seg.stF w) = hk.val w := by
  kernel_rfl
theorem run0 (w : World) : DS.Run RR0 (PySem.W.view RR0.prog [0, 55]) hk ob 40000 nms w := by
  obtain ⟨a, b, c⟩ := Seg.ran_0 w
  exact ⟨_, _, a, b, c, by rw [LkA, LkB, LkC]⟩
theorem run (w : World) : DS.Run RR0 (PySem.W.view RR0.prog [0, 55]) hk ob 40000 nms w := run0 w
end Hd
end T15
namespace DL
open PySem PySem.Spec PyProof.Rows L2
section
variable {X : Cx} {Wx : WX} {a b c e o f : Expr} {da db dc de do' df : DE} {dt : DT} {pos : Pos}
theorem nox_cx {P : Program} {w : World} {Y : Cx} : Passes (L2.CX P w) Y (fun _ _ _ => False) := fun _ _ _ _ _ _ _ z => by
  obtain ⟨_, _, _, _, _, _, _, _, _, _, _, _, z⟩ := z
  exact z.elim
end
end DL
namespace DL
open PySem PySem.Spec PyProof.Rows L2 RZ
section
end
end DL
namespace DL
open PySem PySem.Spec PyProof.Rows L2
section
variable {X : Cx} {Wx : WX} {a b c e o f : Expr} {es : List Expr} {da db' dc de do' df : DE} {pos apos : Pos}
section
end
def dPar3 (i j l : Nat) (dl : DA) : DS := fun D env L => dl env L (fun ds L1 => match ds with
  | [d, e, f] => D.nx (((env.set i (some d)).set j (some e)).set l (some f)) L1
  | _ => False) D.ex
theorem s_par3 (i j l : Nat) {x y z : Str} {px py pz pt : Pos} {kt k2 pt2} {dl : DA} (hc : X.calm = true) (hN : X.N.Nodup) (ha : QA X Wx [a, b, c] dl) (hi : X.N[i]? = some x := by rfl) (hj : X.N[j]? = some y := by rfl) (hl : X.N[l]? = some z := by rfl) (hij : i ≠ j := by decide) (hil : i ≠ l := by decide) (hjl : j ≠ l := by decide)
    (hx : X.env.scope.names.lookup x = some .local := by rfl) (hy : X.env.scope.names.lookup y = some .local := by rfl) (hz : X.env.scope.names.lookup z = some .local := by rfl)
    (hw : swappedStores [.Tuple [.Name x px, .Name y py, .Name z pz] kt pt] (.Tuple [a, b, c] k2 pt2) X.env = pure (some [x, y, z]) := by rfl)
    (hs : swapsWithSole [.Tuple [.Name x px, .Name y py, .Name z pz] kt pt] (.Tuple [a, b, c] k2 pt2) pos.line X.env = pure false := by rfl) :
    QS X Wx (.Assign [.Tuple [.Name x px, .Name y py, .Name z pz] kt pt] (.Tuple [a, b, c] k2 pt2) pos) (dPar3 i j l dl) := by
  obtain ⟨ta, pa, sa⟩ := ha.ex
  refine ⟨_, ps_par3 hc hN hi hj hl hij hil hjl hx hy hz pa hw hs, fun σ H env L D' D st h ok => ?_⟩
  refine sa σ H env L _ _ _ st h (fun ds L1 vs H1 h1 g1 j1 r1 => ?_) ok.ex
  split at h1
  · rename_i d e f
    cases r1 with
    | cons r1 r2 => cases r2 with
      | cons r2 r3 => cases r3 with
        | cons r3 r4 => cases r4 with
          | nil => exact ⟨_, _, _, rfl, ok.nx _ L1 _ H1 h1 g1 ⟨(((st.1.go g1).set r1 i).set r2 j).set r3 l, j1⟩⟩
  · exact h1.elim
end
end DL
namespace DL
open PySem L2
def itemsD : D → Option (List D)
  | .lst xs => some xs
  | .str z => some (sgD z.cps.toList)
  | _ => none
def ofA : DSp := fun ds L k _ => ∃ (p : Addr) (b : Bag) (s : D) (xs : List D), ds = [.ptr p, s] ∧ itemsD s = some xs ∧ L.lookup p = some (bagC b) ∧ BagOk b ∧ 0 < xs.length ∧ xs.length < 1000 ∧ ∀ d b', d ∈ xs → BagOk b' → k d (setL L p (bagC b'))
mutual
def okW : D → Bool
  | .non => true | .bl _ => true | .int _ => true
  | .str z => decide (z.length ≤ 100000)
  | .lst xs => decide (xs.length < 100000) && okWs xs
  | .tup xs => decide (xs.length < 100000) && okWs xs
  | .ro _ => false | .dk _ _ => false | .dt _ _ => false | .obj _ _ _ => false | .exc _ _ _ => false | .fnv _ _ => false | .clo _ _ => false | .tab _ => false | .ptr _ => false | .ty _ => false | .kt _ => false
def okWs : List D → Bool
  | [] => true
  | d :: r => okW d && okWs r
end
theorem okWs_mk {d : D} {l : List D} (h1 : okW d = true) (h2 : okWs l = true) : okWs (d :: l) = true := by
  unfold okWs
  rw [h1, h2]; rfl
theorem okW_mk {l : List D} (h1 : l.length < 100000) (h2 : okWs l = true) : okW (.tup l) = true := by
  unfold okW
  rw [decide_eq_true h1, h2]; rfl
/-- a for by what is left of its items -/
theorem forD_rec {dg : DG} {db : DS} {En : DEnds} (I : List D → DEnv → Led → Prop) (step : ∀ (E' : DEnds) (d : D) (ds : List D) (env : DEnv) (L : Led), E'.rt = En.rt → E'.ex = En.ex → E'.bk = En.nx → E'.ct = E'.nx → I (d :: ds) env L → (∀ env' L', I ds env' L' → E'.nx env' L') → dg d env L fun env1 => db E' env1 L)
    (stop : ∀ env L, I [] env L → En.nx env L) : ∀ (ds : List D) (env : DEnv) (L : Led), I ds env L → forD dg db En ds env L
  | [], env, L, h => by rw [forD_nil]; exact stop env L h
  | d :: ds, env, L, h => by
    rw [forD_cons]
    exact step _ d ds env L rfl rfl rfl rfl h fun env' L' h' => forD_rec I step stop ds env' L' h'
def reserved : List Str := ["x", "y", "let", "if", "else", "end", "repeat", "stop"]
def letters : Str := "abcdefghijklmnopqrstuvwxyz"
def nameOk (z : Str) : Bool := decide (1 ≤ z.length) && (decide (z.length ≤ 6) && (!decide (z ∈ reserved) && z.cps.toList.all fun c => decide (c ∈ letters.cps.toList)))
def isNameD : D → Bool
  | .str z => nameOk z
  | _ => false
def numIn (lo hi : Int) : D → Bool
  | .int i => decide (lo ≤ i) && decide (i ≤ hi)
  | _ => false
def signsT : List (Str × D) := [("add", .str "+"), ("sub", .str "-"), ("mul", .str "*"), ("div", .str "/")]
def testsT : List (Str × D) := [("less", .str "<"), ("equal", .str "="), ("upto", .str "<=")]
def isTestD : D → Bool
  | .str z => (testsT.lookup z).isSome
  | _ => false
def exprOk : Nat → D → Bool
  | 0, _ => false
  | n + 1, v => match v with
    | .tup (.str w :: r) =>
      if w = "x" ∨ w = "y" then r.isEmpty
      else if w = "num" then (match r with | [a] => numIn (-999) 999 a | _ => false)
      else if w = "name" then (match r with | [a] => isNameD a | _ => false)
      else if w = "call" then (match r with | [f, a, b] => isNameD f && (exprOk n a && exprOk n b) | _ => false)
      else if (signsT.lookup w).isSome then (match r with | [a, b] => exprOk n a && exprOk n b | _ => false)
      else false
    | _ => false
/-- how many are counted, or the number of the first wrong one -/
inductive Vis where
  | ok (c : Nat)
  | bad (c : Nat)
deriving DecidableEq
inductive Ex where
  | num (i : Int) | lx | ly | nm (z : Str) | call (f : Str) (a b : Ex) | bin (o : Str) (a b : Ex)
def Ex.d : Ex → D
  | .num i => .tup [.str "num", .int i]
  | .lx => .tup [.str "x"]
  | .ly => .tup [.str "y"]
  | .nm z => .tup [.str "name", .str z]
  | .call f a b => .tup [.str "call", .str f, a.d, b.d]
  | .bin o a b => .tup [.str o, a.d, b.d]
def Ex.dp : Ex → Nat
  | .call _ a b => max a.dp b.dp + 1
  | .bin _ a b => max a.dp b.dp + 1
  | _ => 1
inductive Ex.Wf (ns ks : List Str) : Ex → Prop
  | num {i : Int} : -999 ≤ i → i ≤ 999 → Ex.Wf ns ks (.num i)
  | lx : Ex.Wf ns ks .lx
  | ly : Ex.Wf ns ks .ly
  | nm {z : Str} : z ∈ ns → Ex.Wf ns ks (.nm z)
  | call {f : Str} {a b : Ex} : f ∈ ks → Ex.Wf ns ks a → Ex.Wf ns ks b → Ex.Wf ns ks (.call f a b)
  | bin {o : Str} {a b : Ex} : o ∈ (["add", "sub", "mul", "div"] : List Str) → Ex.Wf ns ks a → Ex.Wf ns ks b → Ex.Wf ns ks (.bin o a b)
theorem Ex.Wf.ok {ns ks : List Str} (hn : ∀ z ∈ ns, nameOk z = true) (hk : ∀ z ∈ ks, nameOk z = true) {e : Ex} (h : e.Wf ns ks) : ∀ n, e.dp ≤ n → exprOk n e.d = true := by
  induction h with
  | num h1 h2 =>
    intro n hn
    cases n with
    | zero => exact absurd hn (by show ¬ 1 ≤ 0; decide)
    | succ n =>
      show (decide (_ ≤ _) && decide (_ ≤ _)) = true
      rw [decide_eq_true h1, decide_eq_true h2]; rfl
  | lx => intro n hn; cases n with
    | zero => exact absurd hn (by show ¬ 1 ≤ 0; decide)
    | succ n => rfl
  | ly => intro n hn; cases n with
    | zero => exact absurd hn (by show ¬ 1 ≤ 0; decide)
    | succ n => rfl
  | nm h => intro n hn'; cases n with
    | zero => exact absurd hn' (by show ¬ 1 ≤ 0; decide)
    | succ n => exact hn _ h
  | call hf ha hb iha ihb => intro n hn'; cases n with
    | zero => exact absurd hn' (Nat.not_succ_le_zero _)
    | succ n =>
      have h := Nat.le_of_succ_le_succ hn'
      show (nameOk _ && (exprOk n _ && exprOk n _)) = true
      rw [hk _ hf, iha n (Nat.le_trans (Nat.le_max_left _ _) h), ihb n (Nat.le_trans (Nat.le_max_right _ _) h)]; rfl
  | bin ho ha hb iha ihb => intro n hn'; cases n with
    | zero => exact absurd hn' (Nat.not_succ_le_zero _)
    | succ n =>
      have h := Nat.le_of_succ_le_succ hn'
      have e1 := iha n (Nat.le_trans (Nat.le_max_left _ _) h)
      have e2 := ihb n (Nat.le_trans (Nat.le_max_right _ _) h)
      simp only [List.mem_cons, List.not_mem_nil, or_false] at ho
      rcases ho with e | e | e | e <;> subst e <;> (show (exprOk n _ && exprOk n _) = true; rw [e1, e2]; rfl)
end DL
namespace DL
open PySem L2 TL
/-- the bag stands at p, once -/
structure BagAt (L : Led) (p : Addr) (b : Bag) : Prop where
  lk : L.lookup p = some (bagC b)
  self : setL L p (bagC b) = L
  ok : BagOk b
theorem BagAt.set {L : Led} {p : Addr} {b b' : Bag} (h : BagAt L p b) (ok : BagOk b') : BagAt (setL L p (bagC b')) p b' := ⟨lookup_setL h.lk, setL_setL _ _ _ _, ok⟩
theorem BagAt.top {L : Led} {p : Addr} {b : Bag} (h : ¬ inL L p) (ok : BagOk b) : BagAt ((p, bagC b) :: L) p b := ⟨lookup_top, setL_top h, ok⟩
theorem tl_len (z : Str) : z.length = (tl z).length := len_tl z
theorem nameOk_len {z : Str} (h : nameOk z = true) : z.length ≤ 6 := by
  unfold nameOk at h
  simp only [Bool.and_eq_true] at h
  exact of_decide_eq_true h.2.1
end DL
namespace DL
open PySem L2
abbrev VAL := (Int × Int) × Int
/-- ends without a value -/
inductive EE where
  | unset (z : Str) | heavy | zero | long | none
def EE.l : EE → List Str
  | .unset z => ["unset", z]
  | .heavy => ["heavy"]
  | .zero => ["zero"]
  | .long => ["long"]
  | .none => ["none"]
def EE.d (e : EE) : D := .tup (e.l.map D.str)
structure RSt where
  outs : List Str
  steps : Nat
inductive R1 where
  | ok (v : VAL) | halt (e : EE)
def rAddL (a b : Int × Int) : Int × Int := lowI (a.1 * b.2 + b.1 * a.2) (a.2 * b.2)
def rSubL (a b : Int × Int) : Int × Int := lowI (a.1 * b.2 - b.1 * a.2) (a.2 * b.2)
def rMulL (a b : Int × Int) : Int × Int := lowI (a.1 * b.1) (a.2 * b.2)
def rDivL (a b : Int × Int) : Int × Int := lowI (a.1 * b.2) (a.2 * b.1)
def joinR (o : Str) (a b : Int × Int) : Int × Int := if o = "add" then rAddL a b else if o = "sub" then rSubL a b else if o = "mul" then rMulL a b else rDivL a b
abbrev FUN := Str → VAL → VAL → RSt → R1 × RSt
inductive Sm where
  | letS (z : Str) (e : Ex) | stop (e : Ex) | rep (n : Nat) (b : List Sm) | ifS (t : Str) (a b : Ex) (p q : List Sm)
mutual
def Sm.d : Sm → D
  | .letS z e => .tup [.str "let", .str z, e.d]
  | .stop e => .tup [.str "stop", e.d]
  | .rep n b => .tup [.str "repeat", .int n, .tup (Sm.ds b)]
  | .ifS t a b p q => .tup [.str "if", .str t, a.d, b.d, .tup (Sm.ds p), .tup (Sm.ds q)]
def Sm.ds : List Sm → List D
  | [] => []
  | s :: r => s.d :: Sm.ds r
end
def sgnS (t : Int) : Str := if t = 0 then "=" else if t = 1 then ">" else "<"
structure VOk (v : VAL) : Prop where
  w1 : 1 ≤ v.2
  w2 : v.2 ≤ 10
  pos : 0 < v.1.2
  low : gcdI v.1.1 v.1.2 = 1
  top : v.1.1.natAbs < 2 ^ (64 * v.2.toNat - 1)
  bot : v.1.2.natAbs < 2 ^ (64 * v.2.toNat - 1)
theorem mul_lt {a b : Int} {n m : Nat} (ha : a.natAbs < 2 ^ n) (hb : b.natAbs < 2 ^ m) : (a * b).natAbs < 2 ^ (n + m) := by
  rw [Int.natAbs_mul, Nat.pow_add]
  exact Nat.mul_lt_mul'' ha hb
theorem VOk.join {v w : VAL} (hv : VOk v) (hw : VOk w) (o : Str) (h10 : ¬ 10 < v.2 + w.2) (hz : ¬ (o = "div" ∧ w.1.1 = 0)) (ho : o ∈ (["add", "sub", "mul", "div"] : List Str)) : VOk (joinR o v.1 w.1, v.2 + w.2) := by
  have e : (64 * v.2.toNat - 1) + (64 * w.2.toNat - 1) + 1 = 64 * (v.2 + w.2).toNat - 1 := by have := hv.w1; have := hw.w1; omega
  have p1 := mul_lt hv.top hw.bot
  have p2 := mul_lt hw.top hv.bot
  have p3 := mul_lt hv.bot hw.bot
  have p4 := mul_lt hv.top hw.top
  have p5 := mul_lt hv.bot hw.top
  have e2 : (2 : Nat) ^ (64 * (v.2 + w.2).toNat - 1) = 2 ^ ((64 * v.2.toNat - 1) + (64 * w.2.toNat - 1)) + 2 ^ ((64 * v.2.toNat - 1) + (64 * w.2.toNat - 1)) := by rw [← e, Nat.pow_succ]; omega
  rw [Nat.add_comm (64 * w.2.toNat - 1)] at p2
  have mk : ∀ t u : Int, u ≠ 0 → t.natAbs < 2 ^ (64 * (v.2 + w.2).toNat - 1) → u.natAbs < 2 ^ (64 * (v.2 + w.2).toNat - 1) → VOk (lowI t u, v.2 + w.2) := fun t u hu ht hb => by
    obtain ⟨s1, s2⟩ := lowI_small (t := t) hu
    obtain ⟨l1, l2, _⟩ := lowI_spec (t := t) hu
    exact ⟨by show 1 ≤ v.2 + w.2; have := hv.w1; have := hw.w1; omega, by show v.2 + w.2 ≤ 10; omega, l1, l2, Nat.lt_of_le_of_lt s1 ht, Nat.lt_of_le_of_lt s2 hb⟩
  have nz : v.1.2 * w.1.2 ≠ 0 := Int.mul_ne_zero (by have := hv.pos; omega) (by have := hw.pos; omega)
  unfold joinR
  simp only [List.mem_cons, List.not_mem_nil, or_false] at ho
  rcases ho with q | q | q | q <;> subst q
  · rw [if_pos rfl]
    exact mk _ _ nz (by omega) (by omega)
  · rw [if_neg (by decide), if_pos rfl]
    exact mk _ _ nz (by omega) (by omega)
  · rw [if_neg (by decide), if_neg (by decide), if_pos rfl]
    exact mk _ _ nz (by omega) (by omega)
  · rw [if_neg (by decide), if_neg (by decide), if_neg (by decide)]
    exact mk _ _ (Int.mul_ne_zero (by have := hv.pos; omega) fun z => hz ⟨rfl, z⟩) (by omega) (by omega)
end DL
namespace DL
open PySem L2
theorem setL_comm {p q : Addr} (h : p ≠ q) (c d : D) (L : Led) : setL (setL L p c) q d = setL (setL L q d) p c := by
  unfold setL
  rw [List.map_map, List.map_map]
  refine List.map_congr_left fun a _ => ?_
  show (if (if a.1 = p then (p, c) else a).1 = q then (q, d) else (if a.1 = p then (p, c) else a)) = (if (if a.1 = q then (q, d) else a).1 = p then (p, c) else (if a.1 = q then (q, d) else a))
  by_cases e : a.1 = p
  · rw [if_pos e, if_neg (show ¬ (p, c).1 = q from h), if_neg (show ¬ a.1 = q from fun z => h (e.symm.trans z)), if_pos e]
  · rw [if_neg e]
    by_cases e2 : a.1 = q
    · rw [if_pos e2, if_neg (show ¬ (q, d).1 = p from Ne.symm h)]
    · rw [if_neg e2, if_neg e]
def fldsR : List Str := ["arithmetic", "programs", "outcomes", "steps"]
def runD (cP cR : Addr) (tb : D) (o : Addr) (n : Nat) : D := .obj cR fldsR [.obj cP [] [], tb, .ptr o, .int n]
structure RR where
  cP : Addr
  cR : Addr
  r : Addr
  o : Addr
  tb : D
@[irreducible] def st2 (R : RR) (L : Led) (s : RSt) : Led := setL (setL L R.r (runD R.cP R.cR R.tb R.o s.steps)) R.o (.lst (s.outs.map D.str))
structure B2 (R : RR) (L : Led) : Prop where
  r : inL L R.r
  o : inL L R.o
  ne : R.r ≠ R.o
section
variable {R : RR} {L : Led} {s : RSt}
theorem B2.set (b : B2 R L) (q : Addr) (d : D) : B2 R (setL L q d) := ⟨inL_setL.mpr b.r, inL_setL.mpr b.o, b.ne⟩
theorem B2.cons (b : B2 R L) (q : Addr) (d : D) : B2 R ((q, d) :: L) := ⟨inL_cons.mpr (.inr b.r), inL_cons.mpr (.inr b.o), b.ne⟩
end
end DL
namespace DL
open PySem L2
inductive XpOk (ks : Str → Prop) : Nat → Ex → Prop
  | num {m : Nat} {i : Int} : -999 ≤ i → i ≤ 999 → XpOk ks m (.num i)
  | lx {m : Nat} : XpOk ks m .lx
  | ly {m : Nat} : XpOk ks m .ly
  | nm {m : Nat} {z : Str} : XpOk ks m (.nm z)
  | call {m : Nat} {f : Str} {a b : Ex} : ks f → XpOk ks m a → XpOk ks m b → XpOk ks (m + 1) (.call f a b)
  | bin {m : Nat} {o : Str} {a b : Ex} : o ∈ (["add", "sub", "mul", "div"] : List Str) → XpOk ks m a → XpOk ks m b → XpOk ks (m + 1) (.bin o a b)
def tests : List Str := ["less", "equal", "upto"]
theorem XpOk.mono {ks : Str → Prop} {m : Nat} {e : Ex} (h : XpOk ks m e) : ∀ {m' : Nat}, m ≤ m' → XpOk ks m' e := by
  induction h with
  | num h1 h2 => intro _ _; exact .num h1 h2
  | lx => intro _ _; exact .lx
  | ly => intro _ _; exact .ly
  | nm => intro _ _; exact .nm
  | call hf _ _ ia ib =>
    intro m' hm
    obtain ⟨k, rfl⟩ : ∃ k, m' = k + 1 := ⟨m' - 1, by omega⟩
    exact .call hf (ia (by omega)) (ib (by omega))
  | bin ho _ _ ia ib =>
    intro m' hm
    obtain ⟨k, rfl⟩ : ∃ k, m' = k + 1 := ⟨m' - 1, by omega⟩
    exact .bin ho (ia (by omega)) (ib (by omega))
structure Gd (s : RSt) (r : R1 × RSt) : Prop where
  lim : r.2.steps ≤ 60
  mono : s.steps ≤ r.2.steps
  grow : r.2.outs.length + s.steps ≤ s.outs.length + r.2.steps
  v : ∀ v, r.1 = .ok v → VOk v
theorem Gd.refl {s : RSt} {r : R1} (h : s.steps ≤ 60) (hv : ∀ v, r = .ok v → VOk v) : Gd s (r, s) := ⟨h, Nat.le_refl _, Nat.le_refl _, hv⟩
theorem Gd.halt {s s1 : RSt} {r1 : R1} {e : EE} (a : Gd s (r1, s1)) : Gd s (.halt e, s1) := ⟨a.lim, a.mono, a.grow, fun v e => by cases e⟩
def FOk (F : FUN) : Prop := ∀ f x y s, VOk x → VOk y → s.steps ≤ 60 → Gd s (F f x y s)
theorem VOk.num {i : Int} (h1 : -999 ≤ i) (h2 : i ≤ 999) : VOk ((i, 1), 1) := by
  have e : (2 : Nat) ^ (64 * (1 : Int).toNat - 1) = 9223372036854775808 := by decide
  refine ⟨Int.le_refl _, by show (1 : Int) ≤ 10; decide, by show (0 : Int) < 1; decide, ?_, ?_, ?_⟩
  · show gcdI i 1 = 1
    unfold gcdI
    rw [show (1 : Int).natAbs = 1 from rfl, Nat.gcd_one_right]
    rfl
  · show i.natAbs < 2 ^ (64 * (1 : Int).toNat - 1)
    rw [e]; omega
  · show (1 : Int).natAbs < 2 ^ (64 * (1 : Int).toNat - 1)
    rw [e]; decide
end DL
namespace DL
open PySem L2 TL
mutual
def cntS : Sm → Nat
  | .letS _ _ => 1
  | .stop _ => 1
  | .rep _ b => cntB b + 1
  | .ifS _ _ _ p q => cntB p + cntB q + 1
def cntB : List Sm → Nat
  | [] => 0
  | s :: r => cntS s + cntB r
end
def pst (L : Led) (p q : Addr) (b : Bag) (m : Nat) : Led := setL (setL L p (bagC b)) q (.lst [.int m])
structure PB (L : Led) (p q : Addr) : Prop where
  ip : inL L p
  iq : inL L q
  ne : p ≠ q
theorem lookup_inL {L : Led} {p : Addr} {d : D} (h : inL L p) : (setL L p d).lookup p = some d := by
  have : ∃ c, L.lookup p = some c := by
    clear d
    induction L with
    | nil => unfold inL at h; simp at h
    | cons z r ih =>
      by_cases e : p = z.1
      · subst e; exact ⟨_, List.lookup_cons_self⟩
      · have hr : inL r p := by
          unfold inL at h ⊢
          rw [List.map_cons] at h
          exact (List.mem_cons.mp h).resolve_left e
        obtain ⟨c, hc⟩ := ih hr
        exact ⟨c, by rw [show z = (z.1, z.2) from rfl, lookup_ne e]; exact hc⟩
  exact lookup_setL this.choose_spec
theorem lookup_set_ne {L : Led} {p q : Addr} {d : D} (h : q ≠ p) : (setL L p d).lookup q = L.lookup q := by
  induction L with
  | nil => rfl
  | cons z r ih =>
    by_cases e : z.1 = p
    · show List.lookup q ((if z.1 = p then (p, d) else z) :: setL r p d) = _
      rw [if_pos e, lookup_ne h, ih, show z = (z.1, z.2) from rfl, lookup_ne (by rw [e]; exact h)]
    · show List.lookup q ((if z.1 = p then (p, d) else z) :: setL r p d) = _
      rw [if_neg e]
      by_cases e2 : q = z.1
      · subst e2; rw [show z = (z.1, z.2) from rfl, List.lookup_cons_self, List.lookup_cons_self]
      · rw [show z = (z.1, z.2) from rfl, lookup_ne e2, lookup_ne e2, ih]
section
variable {L : Led} {p q : Addr} {b b' : Bag} {m m' : Nat}
theorem PB.lp (h : PB L p q) : (pst L p q b m).lookup p = some (bagC b) := by
  unfold pst
  rw [lookup_set_ne h.ne, lookup_inL h.ip]
theorem pst_bag (h : PB L p q) : setL (pst L p q b m) p (bagC b') = pst L p q b' m := by
  unfold pst
  rw [← setL_comm h.ne, setL_setL]
theorem PB.at (h : PB L p q) (ok : BagOk b) : BagAt (pst L p q b m) p b := ⟨h.lp, pst_bag h, ok⟩
theorem PB.cons (h : PB L p q) (f : Addr) (d : D) : PB ((f, d) :: L) p q := ⟨inL_cons.mpr (.inr h.ip), inL_cons.mpr (.inr h.iq), h.ne⟩
end
end DL
namespace DL
open PySem L2 TL NumText
def figs : Str := "0123456789"
def topVal : List Nat → Int
  | 45 :: cs => -((digitsVal cs : Nat) : Int)
  | l => ((digitsVal l : Nat) : Int)
/-- the signs of an int -/
def intL (i : Int) : List Nat := if i < 0 then 45 :: numL i.natAbs else numL i.natAbs
theorem tl_int (i : Int) : tl (Str.ofString (toString i)) = intL i := by
  unfold intL
  cases i with
  | ofNat n =>
    rw [if_neg (by show ¬ (Int.ofNat n < 0); exact Int.not_lt.mpr (Int.natCast_nonneg n))]
    exact tl_num n
  | negSucc n =>
    rw [if_pos (Int.negSucc_lt_zero n)]
    have e : toString (Int.negSucc n) = "-" ++ toString ((n + 1 : Nat) : Int) := rfl
    rw [e, tl_ofString, String.toList_append, List.map_append]
    show 45 :: ((toString ((n + 1 : Nat) : Int)).toList.map Char.toNat) = _
    rw [← tl_ofString, tl_num]
    rfl
def textL (t u : Int) : List Nat := if u = 1 then intL t else intL t ++ (47 :: intL u)
end DL
namespace DL
open PySem PySem.Spec PyProof.Rows L2 TL NumText
section
end
inductive It where
  | ex (e : Ex) | bl (b : List Sm) | st (z : Str) | nu (n : Nat)
def It.d : It → D
  | .ex e => e.d
  | .bl b => .tup (Sm.ds b)
  | .st z => .str z
  | .nu n => .int n
theorem nameOk_w {z : Str} (h : nameOk z = true) : okW (.str z) = true := by unfold okW; exact decide_eq_true (Nat.le_trans (nameOk_len h) (by decide))
theorem test_w {t : Str} (h : t ∈ tests) : okW (.str t) = true ∧ isTestD (.str t) = true := by
  simp only [tests, List.mem_cons, List.not_mem_nil, or_false] at h
  rcases h with rfl | rfl | rfl <;> exact ⟨by decide +kernel, by decide +kernel⟩
def sgnW (o : Str) : Str := if o = "add" then " + " else if o = "sub" then " - " else if o = "mul" then " * " else " / "
def exT : Ex → Str
  | .num i => toString i
  | .lx => "x"
  | .ly => "y"
  | .nm z => z
  | .call f a b => f ++ "(" ++ exT a ++ ", " ++ exT b ++ ")"
  | .bin o a b => "(" ++ exT a ++ sgnW o ++ exT b ++ ")"
end DL
namespace DL
open PySem PySem.Spec PyProof.Rows L2 TL NumText
abbrev mkS (l : List Nat) : Str := ⟨l.toArray⟩
theorem mkS_inj {l : List Nat} {z : Str} : (mkS l = z) ↔ (l = tl z) := ⟨fun h => by rw [← h], fun h => by rw [h]⟩
def figB (c : Nat) : Bool := decide (c ∈ tl figs)
def letB (c : Nat) : Bool := decide (c ∈ tl letters)
inductive Fx where
  | deep | num (i : Int) | lx | ly | nm (z : Str) | call (f : Str) (a b : Fx) | bin (o : Str) (a b : Fx)
def Fx.d : Fx → D
  | .deep => .tup [.str "deep"]
  | .num i => .tup [.str "num", .int i]
  | .lx => .tup [.str "x"]
  | .ly => .tup [.str "y"]
  | .nm z => .tup [.str "name", .str z]
  | .call f a b => .tup [.str "call", .str f, a.d, b.d]
  | .bin o a b => .tup [.str o, a.d, b.d]
def Fx.dp : Fx → Nat
  | .deep => 7
  | .call _ a b => max a.dp b.dp + 1
  | .bin _ a b => max a.dp b.dp + 1
  | _ => 1
inductive Fx.W : Fx → Prop
  | deep : Fx.W .deep
  | num {i : Int} : i.natAbs < 1000 → Fx.W (.num i)
  | lx : Fx.W .lx
  | ly : Fx.W .ly
  | nm {z : Str} : nameOk z = true → Fx.W (.nm z)
  | call {f : Str} {a b : Fx} : nameOk f = true → Fx.W a → Fx.W b → Fx.W (.call f a b)
  | bin {o : Str} {a b : Fx} : o ∈ (["add", "sub", "mul", "div"] : List Str) → Fx.W a → Fx.W b → Fx.W (.bin o a b)
/-- what a frame or an answer holds -/
def Fx.sm (v : Fx) : Prop := v.W ∧ (v = .deep ∨ v.dp ≤ 6)
def numF (cs : List Nat) : Fx := if (topVal cs).natAbs < 1000 then .num (topVal cs) else .deep
def figOk (w : List Nat) : Bool := decide (w ≠ []) && (decide (w = [48]) || decide (w.head? ≠ some 48))
def leafT (l : List Nat) : Option (Fx × List Nat) :=
  let w := l.takeWhile letB
  if w = [120] then some (.lx, l.drop w.length) else if w = [121] then some (.ly, l.drop w.length) else if nameOk (mkS w) = true then some (.nm (mkS w), l.drop w.length) else none
def leafL : List Nat → Option (Fx × List Nat)
  | [] => leafT []
  | c :: r =>
    if c = 45 then
      let w := r.takeWhile figB
      if (figOk w && !decide (w = [48])) = true then some (numF (45 :: w), r.drop w.length) else none
    else if figB c = true then
      let w := (c :: r).takeWhile figB
      if figOk w = true then some (numF w, (c :: r).drop w.length) else none
    else leafT (c :: r)
structure Frm where
  w : Str
  n : Str
  v : Option Fx
def Frm.d (f : Frm) : D := .lst [.str f.w, .str f.n, match f.v with
  | some v => v.d
  | none => .non]
def joinT (f : Frm) (a v : Fx) : Fx := if f.w = "call" then .call f.n a v else .bin f.w a v
def joinF (f : Frm) (a v : Fx) : Fx := if (joinT f a v).dp ≤ 6 then joinT f a v else .deep
def openL (l : List Nat) : Option (Frm × List Nat) :=
  if l.head? = some 40 then some (⟨"", "", none⟩, l.drop 1) else
  let w := l.takeWhile letB
  if nameOk (mkS w) = true ∧ (l.drop w.length).head? = some 40 then some (⟨"call", mkS w, none⟩, l.drop (w.length + 1)) else none
def wordsT : List (Str × D) := [("+", .str "add"), ("-", .str "sub"), ("*", .str "mul"), ("/", .str "div")]
def wordOf (c : Nat) : Option Str := if c = 43 then some "add" else if c = 45 then some "sub" else if c = 42 then some "mul" else if c = 47 then some "div" else none
def contL (f : Frm) (v : Fx) (l : List Nat) : Option (Frm × List Nat) :=
  if f.w = "call" then (if l.take 2 = [44, 32] then some (⟨f.w, f.n, some v⟩, l.drop 2) else none)
  else match l with
    | 32 :: c :: 32 :: r => (match wordOf c with
      | some o => some (⟨o, f.n, some v⟩, r)
      | none => none)
    | _ => none
def closeL : List Frm → Fx → List Nat → Option (List Frm × Fx × List Nat)
  | [], v, l => some ([], v, l)
  | f :: fs, v, l => match f.v with
    | none => some (f :: fs, v, l)
    | some a => if l.head? = some 41 then closeL fs (joinF f a v) (l.drop 1) else none
def rdL : Nat → List Frm → List Nat → Option (Fx × List Nat)
  | 0, _, _ => none
  | n + 1, fs, l => match openL l with
    | some (f, r) => rdL n (f :: fs) r
    | none => match leafL l with
      | none => none
      | some (v, r) => match closeL fs v r with
        | none => none
        | some ([], v', r') => some (v', r')
        | some (f :: fs', v', r') => match contL f v' r' with
          | none => none
          | some (f', r2) => rdL n (f' :: fs') r2
theorem Fx.W.okw {v : Fx} (h : v.W) : okW v.d = true := by
  induction h with
  | deep => decide +kernel
  | num _ => unfold Fx.d; exact okW_mk (by show 2 < 100000; decide) (okWs_mk (by decide +kernel) (okWs_mk (by unfold okW; rfl) (by unfold okWs; rfl)))
  | lx => decide +kernel
  | ly => decide +kernel
  | nm h => unfold Fx.d; exact okW_mk (by show 2 < 100000; decide) (okWs_mk (by decide +kernel) (okWs_mk (nameOk_w h) (by unfold okWs; rfl)))
  | call h _ _ h1 h2 => unfold Fx.d; exact okW_mk (by show 4 < 100000; decide) (okWs_mk (by decide +kernel) (okWs_mk (nameOk_w h) (okWs_mk h1 (okWs_mk h2 (by unfold okWs; rfl)))))
  | bin h _ _ h1 h2 =>
    unfold Fx.d
    refine okW_mk (by show 3 < 100000; decide) (okWs_mk ?_ (okWs_mk h1 (okWs_mk h2 (by unfold okWs; rfl))))
    revert h
    rename_i o _ _ _ _
    intro h
    simp only [List.mem_cons, List.not_mem_nil, or_false] at h
    rcases h with rfl | rfl | rfl | rfl <;> decide +kernel
end DL
namespace DL
open PySem PySem.Spec PyProof.Rows L2 TL NumText
section
open PySem.Calls PySem.W PySem.W.KIN
end
section
end
end DL
namespace DL
open PySem PySem.Spec PyProof.Rows L2 TL NumText
theorem flS {l : List Nat} {w : Str} (v : List Nat) (h : tl w = v) : flEq (.str (mkS l)) (.str w) = decide (l = v) := by
  show decide (mkS l = w) = _
  rw [← h]
  exact decide_eq_decide.mpr mkS_inj
/-- a text that may be read -/
structure OkZ (z : Str) : Prop where
  len : z.length ≤ 90000
  run : ∀ a : Nat, (((tl z).drop a).takeWhile figB).length ≤ 4200
theorem OkZ.sz {z : Str} (h : OkZ z) : z.length ≤ sizeLine := Nat.le_trans h.len (by decide)
end DL
namespace DL
open PySem PySem.Spec PyProof.Rows L2 TL NumText
theorem keep_set {L L' : Led} {p : Addr} {d : D} (h : ¬ inL L p) : keepL L (setL L' p d) = keepL L L' := by
  unfold keepL setL
  induction L' with
  | nil => rfl
  | cons q r ih =>
    rw [List.map_cons, List.filter_cons, List.filter_cons, ih]
    by_cases e : q.1 = p
    · rw [if_pos e]
      rw [decide_eq_false (show ¬ p ∈ L.map (·.1) from h), decide_eq_false (show ¬ q.1 ∈ L.map (·.1) by rw [e]; exact h)]
      rfl
    · rw [if_neg e]
structure FsL (L L' : Led) (P : Addr) (ps : List Addr) (fs : List Frm) : Prop where
  keep : keepL L L' = L
  np : ¬ inL L P
  top : L'.lookup P = some (.lst (ps.reverse.map D.ptr))
  all : Paired (fun p f => L'.lookup p = some f.d ∧ ¬ inL L p ∧ p ≠ P) ps fs
  nd : ps.Nodup
theorem paired_mono {α β : Type} {R R' : α → β → Prop} : ∀ {xs : List α} {ys : List β}, (∀ x ∈ xs, ∀ y, R x y → R' x y) → Paired R xs ys → Paired R' xs ys
  | _, _, _, .nil => .nil
  | _, _, h, .cons r t => .cons (h _ List.mem_cons_self _ r) (paired_mono (fun x m y => h x (List.mem_cons_of_mem _ m) y) t)
section
variable {L L' : Led} {P p : Addr} {ps : List Addr} {f f' : Frm} {fs : List Frm}
theorem FsL.start {Q : Addr} (h : ¬ inL L Q) : FsL L ((Q, .lst []) :: L) Q [] [] := ⟨by rw [keep_out h]; exact keep_same rfl, h, lookup_top, .nil, List.nodup_nil⟩
theorem mem_in {ps : List Addr} {fs : List Frm} (h : Paired (fun p f => L'.lookup p = some f.d ∧ ¬ inL L p ∧ p ≠ P) ps fs) : ∀ q ∈ ps, inL L' q ∧ q ≠ P := by
  induction h with
  | nil => intro q m; cases m
  | cons r _ ih =>
    intro q m
    rcases List.mem_cons.mp m with e | m
    · subst e; exact ⟨inL_of_lookup r.1, r.2.2⟩
    · exact ih q m
theorem FsL.push (h : FsL L L' P ps fs) (hp : ¬ inL L' p) (hL : ∀ a, inL L a → inL L' a) : FsL L (setL ((p, f.d) :: L') P (.lst ((ps.reverse.map D.ptr) ++ [.ptr p]))) P (p :: ps) (f :: fs) := by
  have pP : p ≠ P := fun e => hp (by rw [e]; exact inL_of_lookup h.top)
  have npl : ¬ inL L p := fun m => hp (hL _ m)
  refine ⟨?_, h.np, ?_, ?_, ?_⟩
  · rw [keep_set h.np, keep_out npl]; exact h.keep
  · rw [List.reverse_cons, List.map_append]
    exact lookup_setL (by rw [lookup_ne (Ne.symm pP)]; exact h.top)
  · refine .cons ⟨?_, npl, pP⟩ (paired_mono (fun q m g r => ⟨?_, r.2.1, r.2.2⟩) h.all)
    · rw [lookup_set_ne pP]; exact lookup_top
    · rw [lookup_set_ne r.2.2, lookup_ne (fun e => hp (by rw [← e]; exact (mem_in h.all q m).1))]
      exact r.1
  · exact List.nodup_cons.mpr ⟨fun m => hp (mem_in h.all p m).1, h.nd⟩
theorem FsL.put (h : FsL L L' P (p :: ps) (f :: fs)) : FsL L (setL L' p f'.d) P (p :: ps) (f' :: fs) := by
  obtain ⟨hk, hn, ht, ha, hd⟩ := h
  cases ha with
  | cons r ha =>
    have hd' := List.nodup_cons.mp hd
    refine ⟨by rw [keep_set r.2.1]; exact hk, hn, by rw [lookup_set_ne (Ne.symm r.2.2)]; exact ht, .cons ⟨lookup_setL r.1, r.2.1, r.2.2⟩ (paired_mono (fun q m g r' => ⟨?_, r'.2.1, r'.2.2⟩) ha), hd⟩
    rw [lookup_set_ne (fun e => hd'.1 (by rw [← e]; exact m))]
    exact r'.1
theorem FsL.look (h : FsL L L' P (p :: ps) (f :: fs)) : L'.lookup p = some f.d := by
  cases h.all with
  | cons r _ => exact r.1
end
theorem keep_keys {L L' : Led} (h : keepL L L' = L) : ∀ a, inL L a → inL L' a := fun a m => by
  rw [← h] at m
  exact (inL_keep.mp m).1
end DL
namespace DL
open PySem PySem.Spec PyProof.Rows L2 TL NumText
def rdA (l : List Nat) : Option (Fx × List Nat) := rdL (l.length + 1) [] l
def wholeL (l : List Nat) : Option Fx := match rdA l with
  | some (v, []) => some v
  | _ => none
inductive Itm where
  | aLet (z : Str) (v : Fx) | aIf (w : Str) (a b : Fx) | aRep (n : Int) | aStop (v : Fx)
def Itm.d : Itm → List D
  | .aLet z v => [.str "let", .str z, v.d]
  | .aIf w a b => [.str "if", .str w, a.d, b.d]
  | .aRep n => [.str "repeat", .int n]
  | .aStop v => [.str "stop", v.d]
def testR (v : Fx) (r : List Nat) : Option Itm :=
  if pre [32, 60, 61, 32] r = true then (wholeL (r.drop 4)).map (.aIf "upto" v) else if pre [32, 60, 32] r = true then (wholeL (r.drop 3)).map (.aIf "less" v) else if pre [32, 61, 32] r = true then (wholeL (r.drop 3)).map (.aIf "equal" v) else none
def testL (l : List Nat) : Option Itm := match rdA (l.drop 3) with
  | none => none
  | some (v, r) => testR v r
def letL (l : List Nat) : Option Itm :=
  let w := (l.drop 4).takeWhile letB
  let r := (l.drop 4).drop w.length
  match (if r.take 3 = [32, 61, 32] then wholeL (r.drop 3) else none) with
  | none => none
  | some v => if nameOk (mkS w) = true then some (.aLet (mkS w) v) else none
def repL (l : List Nat) : Option Itm := match leafL (l.drop 7) with
  | some (.num n, []) => some (.aRep n)
  | some (.deep, []) => some (.aRep (-1))
  | _ => none
def ifP : List Nat := [105, 102, 32]
def stopP : List Nat := [115, 116, 111, 112, 32]
def letP : List Nat := [108, 101, 116, 32]
def repP : List Nat := [114, 101, 112, 101, 97, 116, 32]
def lineL (l : List Nat) : Option Itm :=
  if pre ifP l = true then testL l else if pre stopP l = true then (wholeL (l.drop 5)).map .aStop else if pre letP l = true then letL l else if pre repP l = true then repL l else none
def Itm.ok : Itm → Prop
  | .aLet z v => nameOk z = true ∧ v.sm
  | .aIf w a b => w ∈ tests ∧ a.sm ∧ b.sm
  | .aRep n => n.natAbs < 1000
  | .aStop v => v.sm
theorem map_some {α β : Type} {f : α → β} {o : Option α} {y : β} (h : o.map f = some y) : ∃ x, o = some x ∧ y = f x := by
  cases o with
  | none => cases h
  | some x => exact ⟨x, rfl, by cases h; rfl⟩
structure Blk where
  items : List D
  blk : List D
  els : Option (List D)
def opens : Itm → Bool
  | .aIf _ _ _ => true
  | .aRep _ => true
  | _ => false
inductive Rd where
  | bad (n : Nat)
  | ok (l : List D)
def prog0 : Blk := ⟨[.str "program"], [], none⟩
end DL
namespace DL
open PySem PySem.Spec PyProof.Rows L2 TL NumText
structure FA where
  q : Addr
  b : Addr
  c : Option Addr
def FA.adr (fa : FA) : List Addr := fa.q :: fa.b :: fa.c.toList
def FA.d (fa : FA) (m : Blk) : D := .lst [.lst m.items, .ptr fa.b, match fa.c with
  | some c => .ptr c
  | none => .non]
structure BlkAt (L L' : Led) (fa : FA) (m : Blk) : Prop where
  q : L'.lookup fa.q = some (fa.d m)
  b : L'.lookup fa.b = some (.lst m.blk)
  c : match fa.c, m.els with
    | none, none => True
    | some c, some e => L'.lookup c = some (.lst e)
    | _, _ => False
  out : ∀ a ∈ fa.adr, ¬ inL L a
def adrs (fas : List FA) : List Addr := fas.flatMap FA.adr
structure BsL (L L' : Led) (P : Addr) (fas : List FA) (ms : List Blk) : Prop where
  keep : keepL L L' = L
  np : ¬ inL L P
  top : L'.lookup P = some (.lst (fas.reverse.map fun fa => D.ptr fa.q))
  all : Paired (BlkAt L L') fas ms
  nd : (P :: adrs fas).Nodup
section
variable {L L' L2 : Led} {P p : Addr} {fa fa' : FA} {fas : List FA} {m m' : Blk} {ms : List Blk}
theorem BlkAt.inl (h : BlkAt L L' fa m) : ∀ a ∈ fa.adr, inL L' a := fun a ha => by
  unfold FA.adr at ha
  rcases List.mem_cons.mp ha with e | ha
  · subst e; exact inL_of_lookup h.q
  · rcases List.mem_cons.mp ha with e | ha
    · subst e; exact inL_of_lookup h.b
    · have hc := h.c
      cases e : fa.c with
      | none => rw [e] at ha; cases ha
      | some c =>
        rw [e] at ha hc
        cases List.mem_singleton.mp ha
        cases e2 : m.els with
        | none => rw [e2] at hc; exact hc.elim
        | some x => rw [e2] at hc; exact inL_of_lookup hc
theorem BlkAt.eqv (h : BlkAt L L' fa m) (e : ∀ a ∈ fa.adr, L2.lookup a = L'.lookup a) : BlkAt L L2 fa m := by
  refine ⟨by rw [e _ List.mem_cons_self]; exact h.q, by rw [e _ (List.mem_cons_of_mem _ List.mem_cons_self)]; exact h.b, ?_, h.out⟩
  have hc := h.c
  cases e1 : fa.c with
  | none =>
    rw [e1] at hc
    cases e2 : m.els with
    | none => trivial
    | some x => rw [e2] at hc; exact hc.elim
  | some c =>
    rw [e1] at hc
    cases e2 : m.els with
    | none => rw [e2] at hc; exact hc.elim
    | some x =>
      rw [e2] at hc
      have : c ∈ fa.adr := by unfold FA.adr; rw [e1]; simp
      show L2.lookup c = _
      rw [e c this]
      exact hc
theorem mem_adrs {a : Addr} : a ∈ adrs (fa :: fas) ↔ a ∈ fa.adr ∨ a ∈ adrs fas := by unfold adrs; rw [List.flatMap_cons, List.mem_append]
theorem all_inl (h : Paired (BlkAt L L') fas ms) : ∀ a ∈ adrs fas, inL L' a := by
  induction h with
  | nil => intro a ha; cases ha
  | cons r _ ih =>
    intro a ha
    rcases mem_adrs.mp ha with e | e
    · exact r.inl a e
    · exact ih a e
theorem BsL.inl (h : BsL L L' P fas ms) : ∀ a ∈ P :: adrs fas, inL L' a := fun a ha => by
  rcases List.mem_cons.mp ha with e | e
  · subst e; exact inL_of_lookup h.top
  · exact all_inl h.all a e
theorem all_eqv (h : Paired (BlkAt L L') fas ms) (e : ∀ a ∈ adrs fas, L2.lookup a = L'.lookup a) : Paired (BlkAt L L2) fas ms := by
  induction h with
  | nil => exact .nil
  | cons r _ ih => exact .cons (r.eqv fun a ha => e a (mem_adrs.mpr (.inl ha))) (ih fun a ha => e a (mem_adrs.mpr (.inr ha)))
/-- the top one changed -/
theorem BsL.mod (h : BsL L L' P (fa :: fas) (m :: ms)) (hb : BlkAt L L2 fa' m') (hk : keepL L L2 = L) (ho : ∀ a, a = P ∨ a ∈ adrs fas → L2.lookup a = L'.lookup a) (hq : fa'.q = fa.q) (nd : (P :: adrs (fa' :: fas)).Nodup) : BsL L L2 P (fa' :: fas) (m' :: ms) := by
  refine ⟨hk, h.np, ?_, ?_, nd⟩
  · rw [ho P (.inl rfl), h.top, List.reverse_cons, List.reverse_cons, List.map_append, List.map_append, List.map_singleton, List.map_singleton, hq]
  · cases h.all with
    | cons r t => exact .cons hb (all_eqv t fun a ha => ho a (.inr ha))
theorem BsL.push {items : List D} {b q : Addr} (h : BsL L L' P fas ms) (hb : ¬ inL L' b) (hq : ¬ inL ((b, .lst []) :: L') q) :
    BsL L (setL ((q, FA.d ⟨q, b, none⟩ ⟨items, [], none⟩) :: (b, .lst []) :: L') P (.lst ((fas.reverse.map fun fa => D.ptr fa.q) ++ [.ptr q]))) P (⟨q, b, none⟩ :: fas) (⟨items, [], none⟩ :: ms) := by
  have hin := h.inl
  have qb : q ≠ b := fun e => hq (by rw [e]; exact inL_cons.mpr (.inl rfl))
  have hq' : ¬ inL L' q := fun m => hq (inL_cons.mpr (.inr m))
  have bP : b ≠ P := fun e => hb (by rw [e]; exact hin P List.mem_cons_self)
  have qP : q ≠ P := fun e => hq' (by rw [e]; exact hin P List.mem_cons_self)
  have bl : ¬ inL L b := fun m => hb (keep_keys h.keep _ m)
  have ql : ¬ inL L q := fun m => hq' (keep_keys h.keep _ m)
  refine ⟨?_, h.np, ?_, .cons ⟨?_, ?_, trivial, ?_⟩ (all_eqv h.all fun a ha => ?_), ?_⟩
  · rw [keep_set h.np, keep_out ql, keep_out bl]; exact h.keep
  · rw [List.reverse_cons, List.map_append]
    exact lookup_setL (by rw [lookup_ne (Ne.symm qP), lookup_ne (Ne.symm bP)]; exact h.top)
  · rw [lookup_set_ne qP]; exact lookup_top
  · rw [lookup_set_ne bP, lookup_ne (Ne.symm qb)]; exact lookup_top
  · intro a ha
    unfold FA.adr at ha
    simp only [Option.toList_none, List.mem_cons, List.not_mem_nil, or_false] at ha
    rcases ha with e | e <;> subst e <;> assumption
  · have aP : a ≠ P := fun e => (List.nodup_cons.mp h.nd).1 (e ▸ ha)
    have ai := hin a (List.mem_cons_of_mem _ ha)
    rw [lookup_set_ne aP, lookup_ne (fun e => hq' (by rw [← e]; exact ai)), lookup_ne (fun e => hb (by rw [← e]; exact ai))]
  · have nd := List.nodup_cons.mp h.nd
    show (P :: q :: b :: adrs fas).Nodup
    have qn : q ∉ adrs fas := fun m => hq' (hin q (List.mem_cons_of_mem _ m))
    have bn : b ∉ adrs fas := fun m => hb (hin b (List.mem_cons_of_mem _ m))
    refine List.nodup_cons.mpr ⟨?_, List.nodup_cons.mpr ⟨?_, List.nodup_cons.mpr ⟨bn, nd.2⟩⟩⟩
    · intro m
      rcases List.mem_cons.mp m with e | m
      · exact qP e.symm
      · rcases List.mem_cons.mp m with e | m
        · exact bP e.symm
        · exact nd.1 m
    · intro m
      rcases List.mem_cons.mp m with e | m
      · exact qb e
      · exact qn m
theorem BsL.start {b q P : Addr} (hb : ¬ inL L b) (hq : ¬ inL ((b, .lst []) :: L) q) (hP : ¬ inL ((q, FA.d ⟨q, b, none⟩ prog0) :: (b, .lst []) :: L) P) :
    BsL L ((P, .lst [.ptr q]) :: (q, FA.d ⟨q, b, none⟩ prog0) :: (b, .lst []) :: L) P [⟨q, b, none⟩] [prog0] := by
  have qb : q ≠ b := fun e => hq (by rw [e]; exact inL_cons.mpr (.inl rfl))
  have hq' : ¬ inL L q := fun m => hq (inL_cons.mpr (.inr m))
  have Pq : P ≠ q := fun e => hP (by rw [e]; exact inL_cons.mpr (.inl rfl))
  have Pb : P ≠ b := fun e => hP (by rw [e]; exact inL_cons.mpr (.inr (inL_cons.mpr (.inl rfl))))
  have hP' : ¬ inL L P := fun m => hP (inL_cons.mpr (.inr (inL_cons.mpr (.inr m))))
  refine ⟨?_, hP', lookup_top, .cons ⟨?_, ?_, trivial, ?_⟩ .nil, ?_⟩
  · rw [keep_out hP', keep_out hq', keep_out hb]; exact keep_same rfl
  · rw [lookup_ne (Ne.symm Pq)]; exact lookup_top
  · rw [lookup_ne (Ne.symm Pb), lookup_ne (Ne.symm qb)]; exact lookup_top
  · intro a ha
    unfold FA.adr at ha
    simp only [Option.toList_none, List.mem_cons, List.not_mem_nil, or_false] at ha
    rcases ha with e | e <;> subst e <;> assumption
  · show [P, q, b].Nodup
    simp [Pq, Pb, qb]
/-- else: -/
theorem BsL.els {c : Addr} (h : BsL L L' P (fa :: fas) (m :: ms)) (hc : ¬ inL L' c) (hn : m.els = none) :
    ∃ fa', FA.d fa' m = .lst [.lst m.items, .ptr fa.b, .ptr c] ∧ BsL L (setL ((c, .lst []) :: L') fa.q (.lst [.lst m.items, .ptr fa.b, .ptr c])) P (fa' :: fas) ({ m with els := some [] } :: ms) := by
  have hin := h.inl
  have nd := h.nd
  have cl : ¬ inL L c := fun m => hc (keep_keys h.keep _ m)
  have hr : BlkAt L L' fa m := by cases h.all with | cons r _ => exact r
  have hfc : fa.c = none := by
    have := hr.c
    rw [hn] at this
    cases e : fa.c with
    | none => rfl
    | some x => rw [e] at this; exact this.elim
  have hadr : fa.adr = [fa.q, fa.b] := by unfold FA.adr; rw [hfc]; rfl
  have hnd : (P :: fa.q :: fa.b :: adrs fas).Nodup := by
    have : adrs (fa :: fas) = fa.q :: fa.b :: adrs fas := by unfold adrs; rw [List.flatMap_cons, hadr]; rfl
    rw [this] at nd; exact nd
  have hm : ∀ a, a = P ∨ a = fa.q ∨ a = fa.b ∨ a ∈ adrs fas → inL L' a := fun a ha => by
    rcases ha with e | e | e | e
    · subst e; exact hin _ List.mem_cons_self
    · subst e; exact inL_of_lookup hr.q
    · subst e; exact inL_of_lookup hr.b
    · exact hin a (List.mem_cons_of_mem _ (mem_adrs.mpr (.inr e)))
  have hcn : ∀ a, a = P ∨ a = fa.q ∨ a = fa.b ∨ a ∈ adrs fas → a ≠ c := fun a ha e => hc (by rw [← e]; exact hm a ha)
  have n1 := List.nodup_cons.mp hnd
  have n2 := List.nodup_cons.mp n1.2
  have n3 := List.nodup_cons.mp n2.2
  have qc : fa.q ≠ c := hcn _ (.inr (.inl rfl))
  have bq : fa.b ≠ fa.q := fun e => n2.1 (by rw [← e]; exact List.mem_cons_self)
  refine ⟨⟨fa.q, fa.b, some c⟩, rfl, h.mod (fa' := ⟨fa.q, fa.b, some c⟩) ⟨lookup_setL (by rw [lookup_ne qc]; exact hr.q), ?_, ?_, ?_⟩ ?_ (fun a ha => ?_) rfl ?_⟩
  · show List.lookup fa.b _ = _
    rw [lookup_set_ne bq, lookup_ne (hcn _ (.inr (.inr (.inl rfl))))]; exact hr.b
  · show List.lookup c _ = _
    rw [lookup_set_ne (Ne.symm qc)]; exact lookup_top
  · intro a ha
    unfold FA.adr at ha
    simp only [Option.toList_some, List.mem_cons, List.not_mem_nil, or_false] at ha
    have ho := hr.out
    rw [hadr] at ho
    rcases ha with e | e | e
    · subst e; exact ho _ List.mem_cons_self
    · subst e; exact ho _ (List.mem_cons_of_mem _ List.mem_cons_self)
    · subst e; exact cl
  · rw [keep_set (hr.out _ List.mem_cons_self), keep_out cl]; exact h.keep
  · have aq : a ≠ fa.q := by
      rcases ha with e | e
      · subst e; intro e; exact n1.1 (by rw [e]; exact List.mem_cons_self)
      · intro e2; exact n2.1 (by rw [← e2]; exact List.mem_cons_of_mem _ e)
    rw [lookup_set_ne aq, lookup_ne (hcn a (ha.elim .inl fun e => .inr (.inr (.inr e))))]
  · show (P :: fa.q :: fa.b :: c :: adrs fas).Nodup
    refine List.nodup_cons.mpr ⟨?_, List.nodup_cons.mpr ⟨?_, List.nodup_cons.mpr ⟨?_, List.nodup_cons.mpr ⟨fun m => hcn c (.inr (.inr (.inr m))) rfl, n3.2⟩⟩⟩⟩
    · intro m
      rcases List.mem_cons.mp m with e | m
      · exact n1.1 (by rw [e]; exact List.mem_cons_self)
      · rcases List.mem_cons.mp m with e | m
        · exact n1.1 (by rw [e]; exact List.mem_cons_of_mem _ List.mem_cons_self)
        · rcases List.mem_cons.mp m with e | m
          · exact hcn P (.inl rfl) e
          · exact n1.1 (List.mem_cons_of_mem _ (List.mem_cons_of_mem _ m))
    · intro m
      rcases List.mem_cons.mp m with e | m
      · exact bq e.symm
      · rcases List.mem_cons.mp m with e | m
        · exact qc e
        · exact n2.1 (List.mem_cons_of_mem _ m)
    · intro m
      rcases List.mem_cons.mp m with e | m
      · exact hcn _ (.inr (.inr (.inl rfl))) e
      · exact n3.1 m
end
theorem Itm.ok.w {i : Itm} (h : i.ok) : okWs i.d = true ∧ ∃ z r, i.d = .str z :: r ∧ r.length ≤ 3 := by
  have nil : okWs [] = true := by unfold okWs; rfl
  cases i with
  | aLet z v => exact ⟨okWs_mk (by decide +kernel) (okWs_mk (nameOk_w h.1) (okWs_mk h.2.1.okw nil)), _, _, rfl, by show 2 ≤ 3; decide⟩
  | aIf w a b =>
    exact ⟨okWs_mk (by decide +kernel) (okWs_mk (test_w h.1).1 (okWs_mk h.2.1.1.okw (okWs_mk h.2.2.1.okw nil))), _, _, rfl, by show 3 ≤ 3; decide⟩
  | aRep n => exact ⟨okWs_mk (by decide +kernel) (okWs_mk (by unfold okW; rfl) nil), _, _, rfl, by show 1 ≤ 3; decide⟩
  | aStop v => exact ⟨okWs_mk (by decide +kernel) (okWs_mk h.1.okw nil), _, _, rfl, by show 1 ≤ 3; decide⟩
end DL
namespace DL
open PySem PySem.Spec PyProof.Rows L2 TL NumText
end DL
namespace DL
open PySem PySem.Spec PyProof.Rows L2 TL NumText
end DL
namespace DL
open PySem PySem.Spec PyProof.Rows L2 TL NumText
end DL
namespace DL
open PySem PySem.Spec PyProof.Rows L2 TL NumText
end DL
namespace DL
open PySem PySem.Spec PyProof.Rows L2 TL NumText
end DL
namespace DL
open PySem PySem.Spec PyProof.Rows L2 TL NumText
/-- the expression that is read -/
def Fx.ex : Fx → Ex
  | .deep => .lx
  | .num i => .num i
  | .lx => .lx
  | .ly => .ly
  | .nm z => .nm z
  | .call f a b => .call f a.ex b.ex
  | .bin o a b => .bin o a.ex b.ex
def fT (v : Fx) : List Nat := tl (exT v.ex)
/-- the text of a frame that is open -/
def frT (f : Frm) : List Nat := match f.v with
  | none => if f.w = "call" then tl f.n ++ [40] else [40]
  | some a => if f.w = "call" then tl f.n ++ 40 :: (fT a ++ [44, 32]) else 40 :: (fT a ++ tl (sgnW f.w))
def Fx.nms : Fx → List Str
  | .nm z => [z]
  | .call _ a b => a.nms ++ b.nms
  | .bin _ a b => a.nms ++ b.nms
  | _ => []
def Fx.cls : Fx → List Str
  | .call f a b => f :: (a.cls ++ b.cls)
  | .bin _ a b => a.cls ++ b.cls
  | _ => []
theorem Fx.names {v : Fx} (h : v.W) : (∀ z ∈ v.nms, nameOk z = true) ∧ ∀ z ∈ v.cls, nameOk z = true := by
  induction h with
  | nm hz => exact ⟨fun z m => by rw [List.mem_singleton.mp m]; exact hz, fun z m => absurd m (by simp [Fx.cls])⟩
  | @call f a b hf _ _ ia ib => exact ⟨fun z m => (List.mem_append.mp m).elim (ia.1 z) (ib.1 z), fun z m => (List.mem_cons.mp m).elim (fun e => e ▸ hf) fun m => (List.mem_append.mp m).elim (ia.2 z) (ib.2 z)⟩
  | @bin o a b ho _ _ ia ib => exact ⟨fun z m => (List.mem_append.mp m).elim (ia.1 z) (ib.1 z), fun z m => (List.mem_append.mp m).elim (ia.2 z) (ib.2 z)⟩
  | _ => exact ⟨fun z m => absurd m (by simp [Fx.nms]), fun z m => absurd m (by simp [Fx.cls])⟩
end DL
namespace DL
open PySem PySem.Spec PyProof.Rows L2 TL NumText
inductive Rs where
  | flat (l : List Nat) (i : Itm) | blk (l : List Nat) (i : Itm) (p q : List Rs)
def isIfI : Itm → Bool
  | .aIf _ _ _ => true
  | _ => false
mutual
def Rs.d : Rs → D
  | .flat _ i => .tup i.d
  | .blk _ i p q => .tup (i.d ++ [.tup (rsD p)] ++ if isIfI i = true then [.tup (rsD q)] else [])
def rsD : List Rs → List D
  | [] => []
  | s :: r => s.d :: rsD r
end
mutual
def Rs.Ok : Rs → Prop
  | .flat l i => lineL l = some i ∧ opens i = false
  | .blk l i p q => lineL l = some i ∧ opens i = true ∧ rsO p ∧ rsO q ∧ (isIfI i = false → q = [])
def rsO : List Rs → Prop
  | [] => True
  | s :: r => s.Ok ∧ rsO r
end
structure TB where
  hd : Option (List Nat × Itm)
  p : List Rs
  e : Option (List Rs)
def hdD : Option (List Nat × Itm) → List D
  | none => [.str "program"]
  | some (_, i) => i.d
def TB.blk (t : TB) : Blk := ⟨hdD t.hd, rsD t.p, t.e.map rsD⟩
structure TBOk (t : TB) : Prop where
  p : rsO t.p
  e : ∀ q, t.e = some q → rsO q
  hd : ∀ l i, t.hd = some (l, i) → lineL l = some i ∧ opens i = true ∧ (t.e ≠ none → isIfI i = true)
def StOk : List TB → Prop
  | [] => False
  | [t] => t.hd = none ∧ t.e = none ∧ TBOk t
  | t :: u :: r => t.hd ≠ none ∧ TBOk t ∧ StOk (u :: r)
theorem StOk.top {t : TB} {r : List TB} (h : StOk (t :: r)) : TBOk t := by
  cases r with
  | nil => exact h.2.2
  | cons u r => exact h.2.1
end DL
namespace DL
open PySem PySem.Spec PyProof.Rows L2 TL NumText
end DL
namespace NumText
open PySem L2 DL
theorem shp_of {d : D} (h : PyData.canLay0 (toPy d) = true ∧ PyData.depth (toPy d) ≤ 60) : shp d = true := by
  show (PyData.canLay0 (toPy d) && decide (PyData.depth (toPy d) ≤ 64)) = true
  rw [h.1, decide_eq_true (by have := h.2; omega)]
  rfl
theorem lay_all {α : Type} (f : α → D) {n : Nat} : ∀ {l : List α}, (∀ a ∈ l, PyData.canLay0 (toPy (f a)) = true ∧ PyData.depth (toPy (f a)) ≤ n) → PyData.canLayAll0 (toPys (l.map f)) = true ∧ PyData.depthAll (toPys (l.map f)) ≤ n
  | [], _ => ⟨rfl, Nat.zero_le _⟩
  | a :: r, h => by
    obtain ⟨h1, h2⟩ := h a List.mem_cons_self
    obtain ⟨h3, h4⟩ := lay_all f (l := r) (fun b hb => h b (List.mem_cons_of_mem _ hb))
    constructor
    · show (PyData.canLay0 (toPy (f a)) && PyData.canLayAll0 (toPys (r.map f))) = true
      rw [h1, h3]
      rfl
    · show max (PyData.depth (toPy (f a))) (PyData.depthAll (toPys (r.map f))) ≤ n
      omega
theorem shp_all {α : Type} (f : α → D) {l : List α} (h : ∀ a ∈ l, PyData.canLay0 (toPy (f a)) = true ∧ PyData.depth (toPy (f a)) ≤ 50) : shp (.lst (l.map f)) = true := by
  obtain ⟨h1, h2⟩ := lay_all f h
  exact shp_of ⟨h1, by show PyData.depthAll (toPys (l.map f)) + 1 ≤ 60; omega⟩
end NumText
namespace DL
open PySem PySem.Spec PyProof.Rows L2 RZ
section
end
end DL
namespace DL
open PySem PySem.Spec PyProof.Rows L2 RZ
section
end
/-- one def, two contracts -/
theorem fn_or {P : Program} {w : World} {K : PySem.W.Frag} {mg : Str → Option Value} {base : Heap} {CX : CXT} {n : Nat} {f : Addr} {fd : FuncData} {ps : List Str} {g1 g2 : DSp} (F1 : FnOk P w K mg base CX n f fd ps (spD K g1)) (F2 : FnOk P w K mg base CX n f fd ps (spD K g2)) : FnOk P w K mg base CX n f fd ps (spD K fun ds L k x => g1 ds L k x ∨ g2 ds L k x) := by
  refine ⟨fun vs H Q E h => ?_, fun A outer s H args us vs Q E r e0 b rv h => ?_⟩
  · obtain ⟨ds, L, k, x, j, r, h, hk, hx⟩ := h
    rcases h with h | h
    · exact F1.len vs H Q E ⟨ds, L, k, x, j, r, h, hk, hx⟩
    · exact F2.len vs H Q E ⟨ds, L, k, x, j, r, h, hk, hx⟩
  · obtain ⟨ds, L, k, x, j, r2, h, hk, hx⟩ := h
    rcases h with h | h
    · exact F1.run A outer s H args us vs Q E r e0 b rv ⟨ds, L, k, x, j, r2, h, hk, hx⟩
    · exact F2.run A outer s H args us vs Q E r e0 b rv ⟨ds, L, k, x, j, r2, h, hk, hx⟩
end DL
namespace HNe
open PySem PySem.Spec PyProof.Rows PySem.SeqAt
section
end
end HNe
namespace DL
open PySem PySem.Spec PyProof.Rows L2 RZ
section
end
end DL
namespace DL
open PySem PySem.Spec PyProof.Rows L2 RZ
section
end
section
open PySem.W PySem.Builtin PySem.Builtin.Str PySem.Builtin.Float
variable {prog : Program} {w : World} {A : Around} {E : Value → Shared → Prop} {s : Shared} {t : Tok} {x : Str}
abbrev f6 : FormatSpec := { fill := 32, align := 60, width := some 6 }
end
section
end
end DL
namespace DL
open PySem PySem.Spec PyProof.Rows L2 RZ
section
end
end DL
namespace DL
open PySem PySem.Spec PyProof.Rows L2
section
end
section
end
section
end
end DL
namespace DL
open PySem PySem.Spec PyProof.Rows L2
section
end
end DL
namespace DL
open PySem PySem.Spec PyProof.Rows L2
section
end
section
end
end DL
namespace DL
open PySem PySem.Spec PyProof.Rows L2
section
end
section
end
end DL
namespace DL
open PySem PySem.Spec PyProof.Rows L2
section
end
section
end
end DL
namespace DL
open PySem PySem.Spec PyProof.Rows L2
section
end
section
end
section
end
end DL
namespace DL
open PySem PySem.Spec PyProof.Rows L2
section
variable {X : Cx} {Wx : WX} {a b c e o f : Expr} {es : List Expr} {da db dc de do' df : DE} {dl : DA} {pos apos cpos p : Pos}
def diRev (da : DE) : DI := fun env L k x => da env L (fun d L1 => match d with
  | .lst ds => k ds.reverse L1
  | _ => False) x
theorem it_rev {K : PySem.W.Frag} {L : Led} {H : Hp} {q : Addr} {vs : List V} {ds : List D} (h : SqL' L K H q vs) (r : RpAll L K H vs ds) : ItD K L H (Itv K q vs.length) ds.reverse := fun L2 H2 g j i => by
  have h' := (g.sqL h).sq
  have r' := r.go g
  have hl := r.length
  refine ⟨fun d hd => ?_, fun hi => by rw [List.length_reverse] at hi; exact (by omega : vs.length ≤ i)⟩
  have hi : i < ds.length := by
    have := (List.getElem?_eq_some_iff.mp hd).1
    rwa [List.length_reverse] at this
  rw [List.getElem?_reverse hi] at hd
  obtain ⟨v, hv, rv⟩ := r'.get hd
  have hv2 : vs[vs.length - 1 - i]? = some v := by rw [hl]; exact hv
  refine ⟨⟨by omega, vs, v, h', hv2⟩, fun x H3 y => ?_⟩
  obtain ⟨e1, e2⟩ := y
  subst e1
  have e3 := e2 vs h'
  rw [hv2] at e3
  cases e3
  exact ⟨Same.refl _, rv⟩
theorem i_rev {tg : Expr} (hg : Gl X "reversed") (hm : X.mg "reversed" = none) (ha : QE X Wx e da) (hs : starEach [e] X.env = (false, eval e X.env) :: starEach [] X.env := by rfl) : QI X Wx tg (.Call (.Name "reversed" p) [e] [] pos) (diRev da) := by
  obtain ⟨ta, pa, sa⟩ := ha.ex
  refine ⟨_, RT.pi_revA hg hm pa hs, fun σ H env L k x R st h hk hx => ?_⟩
  refine sa σ H env L _ _ _ st h (fun d L1 v H1 h1 g1 j1 r1 => ?_) hx
  cases r1 <;> first | exact h1.elim | skip
  rename_i n s r
  exact ⟨_, _, rfl, .inl ⟨SqL.of s, hk _ L1 _ H1 h1 g1 j1 (it_rev (.inl ⟨n, .inl s⟩) r)⟩⟩
end
end DL
namespace DL
open PySem PySem.Spec PyProof.Rows L2
section
end
end DL
namespace DL
open PySem PySem.Spec PyProof.Rows L2
section
end
end DL
namespace DL
open PySem PySem.Spec PyProof.Rows L2
section
end
end DL
namespace DL
open PySem PySem.Spec PyProof.Rows L2
section
end
end DL
namespace HBool
open PySem PySem.Spec PyProof.Rows
section
end
end HBool
namespace DL
open PySem PySem.Spec PyProof.Rows L2
section
end
end DL
namespace DL
open PySem PySem.Spec PyProof.Rows L2 RZ
section
variable {X : Cx} {Wx : WX} {a b c e o f : Expr} {es : List Expr} {da db dc de do' df : DE} {dl dk : DA} {pos apos : Pos}
section
end
/-- one of two walks -/
def diOr (d1 d2 : DI) : DI := fun env L k x => d1 env L k x ∨ d2 env L k x
theorem i_or {tg iter : Expr} {d1 d2 : DI} (h1 : QI X Wx tg iter d1) (h2 : QI X Wx tg iter d2) : QI X Wx tg iter (diOr d1 d2) := by
  obtain ⟨w1, p1, s1⟩ := h1.ex
  obtain ⟨w2, p2, s2⟩ := h2.ex
  refine ⟨fun σ H R => w1 σ H R ∨ w2 σ H R, ⟨fun pp s σ H R I h => h.elim (p1.run pp s σ H R I) (p2.run pp s σ H R I)⟩, fun σ H env L k x R st h hk hx => ?_⟩
  rcases h with h | h
  · exact .inl (s1 σ H env L k x R st h hk hx)
  · exact .inr (s2 σ H env L k x R st h hk hx)
end
end DL
namespace DL
open PySem L2 TL NumText
end DL
namespace PO
open PySem L2 DL
abbrev T3 := Int × Int × Int
abbrev ky (t : T3) : Int × Int := (t.1, t.2.1)
abbrev kk (p : Int × Int) : List Key := [.inl p.1, .inl p.2]
abbrev vsI (es : List T3) : List Int := es.map fun t => t.2.2
def look (es : List T3) (p : Int × Int) : Option Int := match es with
  | [] => none
  | t :: r => if ky t = p then some t.2.2 else look r p
def has (es : List T3) (p : Int × Int) : Bool := es.any fun t => decide (ky t = p)
def put (es : List T3) (p : Int × Int) (v : Int) : List T3 := if has es p = true then es.map (fun t => if ky t = p then (p.1, p.2, v) else t) else es ++ [(p.1, p.2, v)]
def NK (es : List T3) : Prop := (es.map ky).Nodup
theorem look_none {p : Int × Int} : ∀ {es : List T3}, p ∉ es.map ky → look es p = none
  | [], _ => rfl
  | t :: r, h => by
    show (if ky t = p then some t.2.2 else look r p) = none
    rw [if_neg (fun e => h (by rw [List.map_cons, e]; exact List.mem_cons_self))]
    exact look_none fun m => h (by rw [List.map_cons]; exact List.mem_cons_of_mem _ m)
theorem look_of {t : T3} : ∀ {es : List T3}, NK es → t ∈ es → look es (ky t) = some t.2.2
  | [], _, h => by cases h
  | u :: r, n, h => by
    have n : (ky u :: r.map ky).Nodup := n
    rw [List.nodup_cons] at n
    show (if ky u = ky t then some u.2.2 else look r (ky t)) = _
    rcases List.mem_cons.mp h with e | h
    · rw [if_pos (by rw [e]), e]
    · rw [if_neg (fun e => n.1 (by rw [e]; exact List.mem_map.mpr ⟨t, h, rfl⟩))]
      exact look_of n.2 h
def Asc (ps : List (Int × Int)) : Prop := ps.Pairwise fun x y => SrtO.lexB y x = false
/-- the terms that are told: keys ascending, no zeros -/
structure Can (es : List T3) : Prop where
  asc : (es.map ky).Pairwise fun x y => SrtO.lexB x y = true
  nz : ∀ t ∈ es, t.2.2 ≠ 0
def val (es : List T3) (p : Int × Int) : Int := (look es p).getD 0
theorem lex_asym {x y : Int × Int} (h1 : SrtO.lexB x y = true) : SrtO.lexB y x = false := by
  have a := SrtO.lexB_iff.mp h1
  refine SrtO.lexB_no.mpr ?_
  omega
theorem lex_irr {x y : Int × Int} (h1 : SrtO.lexB x y = true) : x ≠ y := fun e => by
  have a := SrtO.lexB_iff.mp h1
  rw [e] at a
  omega
theorem strict_asc {qs : List (Int × Int)} (h : qs.Pairwise fun x y => SrtO.lexB x y = true) : Asc qs := h.imp lex_asym
theorem strict_nodup {qs : List (Int × Int)} (h : qs.Pairwise fun x y => SrtO.lexB x y = true) : qs.Nodup := h.imp lex_irr
theorem Can.nk {es : List T3} (h : Can es) : NK es := strict_nodup h.asc
/-- there is just one sorted list of the same keys -/
theorem asc_one {ps qs : List (Int × Int)} (h : qs.Perm ps) (n : ps.Nodup) (hp : Asc ps) (hq : Asc qs) : qs = ps := by
  refine List.Perm.eq_of_pairwise (le := fun x y => SrtO.lexB y x = false) (fun x y _ _ h1 h2 => ?_) hq hp h
  have a := SrtO.lexB_no.mp h1
  have b := SrtO.lexB_no.mp h2
  obtain ⟨x1, x2⟩ := x
  obtain ⟨y1, y2⟩ := y
  simp only at a b
  have e1 : x1 = y1 := by omega
  have e2 : x2 = y2 := by omega
  rw [e1, e2]
end PO
namespace PO
open PySem L2 DL TL
abbrev nS (i : Int) : Str := Str.ofString (toString i)
def letT (l : Str) (p : Int) : List Str := if p = 0 then [] else if p = 1 then [l] else [l ++ "^" ++ nS p]
def wordsT (i j : Int) : List Str := letT "x" i ++ letT "y" j
def termW (i j s : Int) : List Str := if wordsT i j = [] ∨ s ≠ 1 then nS s :: wordsT i j else wordsT i j
def termT (i j s : Int) : Str := Txt.join "*" (termW i j s)
theorem nS_len {i : Int} (h1 : -10 ^ 30 < i) (h2 : i < 10 ^ 30) : (nS i).length ≤ 31 := by
  rw [len_tl, tl_int]
  unfold intL
  have h3 : i.natAbs < 10 ^ 30 := by omega
  have h4 := numL_len (n := i.natAbs) (k := 30) (by decide) h3
  split
  · rw [List.length_cons]; omega
  · omega
theorem emp_app (l : Str) : Str.empty ++ l = l := ext_tl (by rw [tl_append]; rfl)
theorem app_len (a b : Str) : (a ++ b).length = a.length + b.length := by
  rw [len_tl, len_tl, len_tl, tl_append, List.length_append]
theorem letT_len {l : Str} (hl : l.length ≤ 10) {p : Int} (h0 : 0 ≤ p) (h1 : p ≤ 1000) : ∀ z ∈ letT l p, z.length ≤ 50 := by
  intro z hz
  unfold letT at hz
  split at hz
  · cases hz
  · split at hz
    · rw [List.mem_singleton.mp hz]; omega
    · rw [List.mem_singleton.mp hz, app_len, app_len]
      have h3 : -(10 : Int) ^ 30 < p := by
        have : (0 : Int) < 10 ^ 30 := by decide +kernel
        omega
      have h4 : p < (10 : Int) ^ 30 := by
        have : (1000 : Int) < 10 ^ 30 := by decide +kernel
        omega
      have h5 := nS_len h3 h4
      have h6 : (Str.ofString "^").length = 1 := by decide +kernel
      omega
theorem letT_few (l : Str) (p : Int) : (letT l p).length ≤ 1 := by
  unfold letT
  split
  · exact Nat.zero_le _
  · split <;> exact Nat.le_refl _
theorem x_len : ("x" : Str).length ≤ 10 := by decide +kernel
theorem y_len : ("y" : Str).length ≤ 10 := by decide +kernel
/-- what the parts of a term keep -/
structure TermOk (i j s : Int) : Prop where
  i0 : 0 ≤ i
  i1 : i ≤ 1000
  j0 : 0 ≤ j
  j1 : j ≤ 1000
  s0 : -10 ^ 30 < s
  s1 : s < 10 ^ 30
theorem words_few (i j : Int) : (wordsT i j).length ≤ 2 := by
  unfold wordsT
  rw [List.length_append]
  have := letT_few "x" i
  have := letT_few "y" j
  omega
theorem words_len {i j s : Int} (o : TermOk i j s) : ∀ z ∈ wordsT i j, z.length ≤ 50 := by
  intro z hz
  rcases List.mem_append.mp hz with h | h
  · exact letT_len x_len o.i0 o.i1 z h
  · exact letT_len y_len o.j0 o.j1 z h
theorem term_few (i j s : Int) : (termW i j s).length ≤ 3 := by
  unfold termW
  have := words_few i j
  split
  · rw [List.length_cons]; omega
  · omega
theorem term_len {i j s : Int} (o : TermOk i j s) : ∀ z ∈ termW i j s, z.length ≤ 50 := by
  intro z hz
  unfold termW at hz
  split at hz
  · rcases List.mem_cons.mp hz with e | h
    · rw [e]
      have := nS_len o.s0 o.s1
      omega
    · exact words_len o z h
  · exact words_len o z hz
theorem sum_le {n : Nat} : ∀ {l : List Nat}, (∀ x ∈ l, x ≤ n) → l.sum ≤ l.length * n
  | [], _ => Nat.zero_le _
  | x :: r, h => by
    rw [List.sum_cons, List.length_cons, Nat.add_mul]
    have := h x List.mem_cons_self
    have := sum_le (l := r) fun y hy => h y (List.mem_cons_of_mem _ hy)
    omega
theorem map_sum {n : Nat} {l : List Str} (h : ∀ z ∈ l, z.length ≤ n) : (l.map (·.length)).sum ≤ l.length * n := by
  have := sum_le (n := n) (l := l.map (·.length)) fun x hx => by
    obtain ⟨z, hz, rfl⟩ := List.mem_map.mp hx
    exact h z hz
  rw [List.length_map] at this
  exact this
theorem join_len (y : Str) (l : List Str) : (Txt.join y l).length ≤ (l.map (·.length)).sum + l.length * y.length := by
  rw [join_eq]
  exact StrLaws.join_length_le y l
theorem termT_len {i j s : Int} (o : TermOk i j s) : (termT i j s).length ≤ 153 := by
  have h1 := join_len "*" (termW i j s)
  have h2 := map_sum (term_len o)
  have h3 := term_few i j s
  have h4 : ("*" : Str).length = 1 := by decide +kernel
  rw [h4] at h1
  unfold termT
  have h5 : (termW i j s).length * 50 ≤ 150 := by omega
  omega
/-- the sign ahead of a term -/
def sgT (first : Bool) (v : Int) : Str := if first = true then (if v < 0 then "-" else "") else (if v < 0 then " - " else " + ")
def absI (v : Int) : Int := if v < 0 then -v else v
def stepT (f : Str) (t : T3) : Str := f ++ sgT (decide (f = "")) t.2.2 ++ termT t.1 t.2.1 (absI t.2.2)
/-- of a whole poly -/
structure PolyOk (es : List T3) : Prop where
  few : es.length ≤ 1000
  all : ∀ t ∈ es, TermOk t.1 t.2.1 t.2.2
theorem abs_ok {i j v : Int} (o : TermOk i j v) : TermOk i j (absI v) := by
  have h := o.s0
  have h' := o.s1
  refine ⟨o.i0, o.i1, o.j0, o.j1, ?_, ?_⟩ <;> unfold absI <;> split <;> omega
theorem sg_len (b : Bool) (v : Int) : (sgT b v).length ≤ 3 := by
  unfold sgT
  split <;> split <;> decide +kernel
theorem step_len {f : Str} {t : T3} (o : TermOk t.1 t.2.1 t.2.2) : (stepT f t).length ≤ f.length + 156 := by
  unfold stepT
  rw [app_len, app_len]
  have := sg_len (decide (f = "")) t.2.2
  have := termT_len (abs_ok o)
  omega
def gcds (a : Int) (vs : List Int) : Int := vs.foldl gcdI a
def cont (es : List T3) : Int := gcds 0 (vsI es)
theorem gcds_dvd : ∀ (vs : List Int) (a : Int), gcds a vs ∣ a ∧ ∀ v ∈ vs, gcds a vs ∣ v
  | [], a => ⟨Int.dvd_refl a, fun v h => nomatch h⟩
  | v :: vs, a => by
    obtain ⟨h1, h2⟩ := gcds_dvd vs (gcdI a v)
    refine ⟨Int.dvd_trans h1 (gcdI_dvd_left a v), fun u hu => ?_⟩
    rcases List.mem_cons.mp hu with e | hu
    · subst e
      exact Int.dvd_trans h1 (gcdI_dvd_right a u)
    · exact h2 u hu
theorem gcds_nonneg : ∀ (vs : List Int) (a : Int), 0 ≤ a → 0 ≤ gcds a vs
  | [], _, h => h
  | v :: vs, a, _ => gcds_nonneg vs (gcdI a v) (gcdI_nonneg a v)
theorem gcds_pos {vs : List Int} (hn : vs ≠ []) (nz : ∀ v ∈ vs, v ≠ 0) : 0 < gcds 0 vs := by
  have h0 := gcds_nonneg vs 0 (Int.le_refl 0)
  rcases Int.lt_or_eq_of_le h0 with h | h
  · exact h
  · cases vs with
    | nil => exact absurd rfl hn
    | cons v r =>
      have := (gcds_dvd (v :: r) 0).2 v List.mem_cons_self
      rw [← h] at this
      exact absurd (Int.zero_dvd.mp this) (nz v List.mem_cons_self)
end PO
namespace PO
open PySem L2 DL TL
def lastV (es : List T3) : Int := (vsI es).getLastD 0
def dvs (es : List T3) : Int := if lastV es < 0 then -cont es else cont es
theorem vs_ne {es : List T3} (h : Can es) : ∀ v ∈ vsI es, v ≠ 0 := fun v hv => by
  obtain ⟨t, ht, rfl⟩ := List.mem_map.mp hv
  exact h.nz t ht
theorem cont_pos {es : List T3} (h : Can es) (hn : es ≠ []) : 0 < cont es :=
  gcds_pos (vs := vsI es) (by cases es with | nil => exact absurd rfl hn | cons t r => simp) (vs_ne h)
end PO
namespace DL
open PySem PySem.Spec PyProof.Rows L2 RZ
section
end
section
end
end DL
namespace PO
open PySem L2 DL TL
def contS : DSp := fun ds L k _ => ∃ vs : List Int, ds = [.lst (vs.map .int)] ∧ k (.int (gcds 0 vs)) L
/-- a list comprehension with a test -/
theorem lcD_pick {α : Type} {dg : DG} {dt : DT} {de : DE} {env0 : DEnv} {p : Addr} {k : DK} {L : Led} (f g : α → D) (P : α → Bool) (hp : ¬ inL L p) : ∀ (l : List α) (acc : List D), acc.length + l.length ≤ 200000 →
    (∀ a ∈ l, ∀ (acc : List D) (T F : Led → Prop) (KK : DK), (P a = true → KK (g a) ((p, .lst acc) :: L)) → (P a = false → F ((p, .lst acc) :: L)) → dg (f a) env0 ((p, .lst acc) :: L) fun env1 => dt env1 ((p, .lst acc) :: L) (fun b L2 => match b with
      | true => de env1 L2 KK (fun _ _ _ => False)
      | false => F L2) (fun _ _ _ => False)) →
    k (.lst (acc ++ (l.filter P).map g)) L → lcD dg dt de env0 p k (l.map f) acc ((p, .lst acc) :: L)
  | [], acc, _, _, h => by
    rw [List.map_nil, lcD_nil, remL_top hp]
    have h : k (.lst (acc ++ [])) L := h
    rw [List.append_nil] at h
    exact h
  | a :: l, acc, hz, hs, h => by
    rw [List.map_cons, lcD_cons]
    rw [List.length_cons] at hz
    have hlt : acc.length < sizeLine := Nat.lt_of_lt_of_le (show acc.length < 200000 by omega) (by decide)
    refine hs a List.mem_cons_self acc (fun _ => True) (fun L2 => L2.lookup p = some (.lst acc) ∧ lcD dg dt de env0 p k (l.map f) acc L2) _ (fun hP => ⟨lookup_top, hlt, ?_⟩) fun hP => ⟨lookup_top, ?_⟩
    · rw [setL_top hp]
      refine lcD_pick f g P hp l (acc ++ [g a]) (by rw [List.length_append, List.length_singleton]; omega) (fun b hb => hs b (List.mem_cons_of_mem _ hb)) ?_
      rw [List.append_assoc]
      rw [List.filter_cons_of_pos hP] at h
      exact h
    · refine lcD_pick f g P hp l acc (by omega) (fun b hb => hs b (List.mem_cons_of_mem _ hb)) ?_
      rw [List.filter_cons_of_neg (by rw [hP]; exact Bool.false_ne_true)] at h
      exact h
theorem lcD_as {dg : DG} {dt : DT} {de : DE} {env0 : DEnv} {p : Addr} {k : DK} {ds ds' acc : List D} {L : Led} (e : ds = ds') (h : lcD dg dt de env0 p k ds' acc L) : lcD dg dt de env0 p k ds acc L := by rw [e]; exact h
theorem filt_true {α : Type} (l : List α) : l.filter (fun _ => true) = l := List.filter_eq_self.mpr fun _ _ => rfl
/-- every item, none left out -/
theorem lcD_each {α : Type} {dg : DG} {dt : DT} {de : DE} {env0 : DEnv} {p : Addr} {k : DK} {L : Led} (f g : α → D) (hp : ¬ inL L p) (l : List α) (hz : l.length ≤ 200000)
    (hs : ∀ a ∈ l, ∀ (acc : List D) (F : Led → Prop) (KK : DK), KK (g a) ((p, .lst acc) :: L) → dg (f a) env0 ((p, .lst acc) :: L) fun env1 => dt env1 ((p, .lst acc) :: L) (fun b L2 => match b with
      | true => de env1 L2 KK (fun _ _ _ => False)
      | false => F L2) (fun _ _ _ => False))
    (h : k (.lst (l.map g)) L) : lcD dg dt de env0 p k (l.map f) [] ((p, .lst []) :: L) := by
  refine lcD_pick f g (fun _ => true) hp l [] (by show 0 + _ ≤ _; omega) (fun a ha acc T F KK h1 _ => hs a ha acc F KK (h1 rfl)) ?_
  rw [filt_true, List.nil_append]
  exact h
end PO
namespace PO
open PySem L2 DL TL
/-- the sum of what stands at a pair of powers -/
def cf : List T3 → Int × Int → Int
  | [], _ => 0
  | t :: r, q => (if ky t = q then t.2.2 else 0) + cf r q
theorem look_app (q : Int × Int) : ∀ a b : List T3, look (a ++ b) q = (look a q).or (look b q)
  | [], b => rfl
  | t :: a, b => by
    show (if ky t = q then some t.2.2 else look (a ++ b) q) = (if ky t = q then some t.2.2 else look a q).or (look b q)
    by_cases e : ky t = q
    · rw [if_pos e, if_pos e]; rfl
    · rw [if_neg e, if_neg e, look_app q a b]
theorem val_of {es : List T3} (nk : NK es) {t : T3} (h : t ∈ es) : val es (ky t) = t.2.2 := by
  unfold val
  rw [look_of nk h]
  rfl
theorem val_no {es : List T3} {q : Int × Int} (h : q ∉ es.map ky) : val es q = 0 := by
  unfold val
  rw [look_none h]
  rfl
/-- es is what the terms ts tell -/
structure Told (ts es : List T3) : Prop where
  can : Can es
  at_ : ∀ q, val es q = cf ts q
theorem can_mem {es : List T3} (h : Can es) (q : Int × Int) : q ∈ es.map ky ↔ val es q ≠ 0 := by
  constructor
  · intro m
    obtain ⟨t, ht, rfl⟩ := List.mem_map.mp m
    rw [val_of h.nk ht]
    exact h.nz t ht
  · intro z
    by_cases m : q ∈ es.map ky
    · exact m
    · exact absurd (val_no m) z
theorem es_keys {es : List T3} (h : NK es) : es = (es.map ky).map fun q => ((q.1, q.2, val es q) : T3) := by
  rw [List.map_map]
  have : ∀ t ∈ es, ((fun q : Int × Int => ((q.1, q.2, val es q) : T3)) ∘ ky) t = id t := fun t ht => by
    show ((t.1, t.2.1, val es (ky t)) : T3) = t
    rw [val_of h ht]
  rw [List.map_congr_left this, List.map_id]
theorem can_ext {es fs : List T3} (h : Can es) (h' : Can fs) (e : ∀ q, val es q = val fs q) : es = fs := by
  have pm : (es.map ky).Perm (fs.map ky) := (List.perm_ext_iff_of_nodup h.nk h'.nk).mpr fun q => by rw [can_mem h, can_mem h', e]
  have ek : es.map ky = fs.map ky := asc_one pm h'.nk (strict_asc h'.asc) (strict_asc h.asc)
  rw [es_keys h.nk, es_keys h'.nk, ek]
  exact List.map_congr_left fun q _ => by rw [e]
theorem Told.one {ts us es fs : List T3} (a : Told ts es) (b : Told us fs) (e : ∀ q, cf ts q = cf us q) : es = fs :=
  can_ext a.can b.can fun q => by rw [a.at_, b.at_, e]
theorem len_sub : ∀ {l m : List (Int × Int)}, l.Nodup → (∀ x ∈ l, x ∈ m) → l.length ≤ m.length
  | [], _, _, _ => Nat.zero_le _
  | a :: l, m, n, h => by
    have n := List.nodup_cons.mp n
    have ha := h a List.mem_cons_self
    have := len_sub (m := m.erase a) n.2 fun x hx => (List.mem_erase_of_ne (fun (e : x = a) => n.1 (by rw [← e]; exact hx))).mpr (h x (List.mem_cons_of_mem _ hx))
    rw [List.length_erase_of_mem ha] at this
    have hp := List.length_pos_of_mem ha
    rw [List.length_cons]
    omega
theorem cf_ne {q : Int × Int} : ∀ {ts : List T3}, cf ts q ≠ 0 → q ∈ ts.map ky
  | [], h => absurd rfl h
  | t :: r, h => by
    rw [List.map_cons]
    by_cases e : ky t = q
    · rw [e]; exact List.mem_cons_self
    · have h : (if ky t = q then t.2.2 else 0) + cf r q ≠ 0 := h
      rw [if_neg e] at h
      exact List.mem_cons_of_mem _ (cf_ne (by omega))
theorem cf_le {b : Nat} (q : Int × Int) : ∀ {ts : List T3}, (∀ t ∈ ts, t.2.2.natAbs ≤ b) → (cf ts q).natAbs ≤ ts.length * b
  | [], _ => Nat.zero_le _
  | t :: r, h => by
    have h1 := h t List.mem_cons_self
    have h2 := cf_le q (ts := r) fun u hu => h u (List.mem_cons_of_mem _ hu)
    show ((if ky t = q then t.2.2 else 0) + cf r q).natAbs ≤ (r.length + 1) * b
    rw [Nat.succ_mul]
    split <;> omega
theorem Told.sub {ts es : List T3} (a : Told ts es) : ∀ t ∈ es, ky t ∈ ts.map ky ∧ t.2.2 = cf ts (ky t) := fun t ht => by
  have e : t.2.2 = cf ts (ky t) := by rw [← a.at_, val_of a.can.nk ht]
  exact ⟨cf_ne (by rw [← e]; exact a.can.nz t ht), e⟩
theorem Told.few {ts es : List T3} (a : Told ts es) : es.length ≤ ts.length := by
  have := len_sub (l := es.map ky) (m := ts.map ky) a.can.nk fun x hx => by
    obtain ⟨t, ht, rfl⟩ := List.mem_map.mp hx
    exact (a.sub t ht).1
  rwa [List.length_map, List.length_map] at this
theorem Told.ok {ts es : List T3} (a : Told ts es) {b : Nat} (hl : ts.length ≤ 1000) (hp : ∀ t ∈ ts, (0 ≤ t.1 ∧ t.1 ≤ 1000) ∧ (0 ≤ t.2.1 ∧ t.2.1 ≤ 1000)) (hb : ∀ t ∈ ts, t.2.2.natAbs ≤ b) (h30 : 1000 * b < 10 ^ 30) : PolyOk es := by
  refine ⟨Nat.le_trans a.few hl, fun t ht => ?_⟩
  obtain ⟨m, e⟩ := a.sub t ht
  obtain ⟨u, hu, eu⟩ := List.mem_map.mp m
  obtain ⟨⟨u0, u1⟩, u2, u3⟩ := hp u hu
  have e1 : u.1 = t.1 := congrArg (fun z : Int × Int => z.1) eu
  have e2 : u.2.1 = t.2.1 := congrArg (fun z : Int × Int => z.2) eu
  have hc := cf_le (ky t) hb
  rw [← e] at hc
  have h1 : ts.length * b ≤ 1000 * b := Nat.mul_le_mul_right b hl
  have h2 : t.2.2.natAbs < 10 ^ 30 := by omega
  rw [e1] at u0 u1
  rw [e2] at u2 u3
  exact ⟨u0, u1, u2, u3, by omega, by omega⟩
theorem Told.nil {ts : List T3} (a : Told ts []) (q : Int × Int) : cf ts q = 0 := (a.at_ q).symm
end PO
namespace PO
open PySem L2 DL TL
/-- all products of the terms -/
def mulT (a b : List T3) : List T3 := a.flatMap fun t => b.map fun u => (t.1 + u.1, t.2.1 + u.2.1, t.2.2 * u.2.2)
theorem mulT_cons (t : T3) (a b : List T3) : mulT (t :: a) b = (b.map fun u => ((t.1 + u.1, t.2.1 + u.2.1, t.2.2 * u.2.2) : T3)) ++ mulT a b := rfl
/-- what a list of terms and a function of pairs make of a pair -/
def cv (b : List T3) (f : Int × Int → Int) (q : Int × Int) : Int := match b with
  | [] => 0
  | u :: r => u.2.2 * f (q.1 - u.1, q.2 - u.2.1) + cv r f q
theorem Told.cf {ts es : List T3} (a : Told ts es) (q : Int × Int) : cf es q = cf ts q := by
  have h : ∀ es : List T3, NK es → PO.cf es q = val es q := fun es => by
    induction es with
    | nil => intro _; rfl
    | cons t r ih =>
      intro n
      have n : (ky t :: r.map ky).Nodup := n
      rw [List.nodup_cons] at n
      show (if ky t = q then t.2.2 else 0) + PO.cf r q = ((if ky t = q then some t.2.2 else look r q).getD 0)
      rw [ih n.2]
      by_cases e : ky t = q
      · rw [if_pos e, if_pos e, val_no (by rw [← e]; exact n.1)]
        show t.2.2 + 0 = t.2.2
        omega
      · rw [if_neg e, if_neg e]
        show 0 + val r q = val r q
        omega
  rw [h es a.can.nk, a.at_]
theorem Told.congr {ts us es : List T3} (a : Told ts es) (h : ∀ q, PO.cf ts q = PO.cf us q) : Told us es := ⟨a.can, fun q => by rw [a.at_, h]⟩
theorem mem_mulT {a b : List T3} {w : T3} (h : w ∈ mulT a b) : ∃ t ∈ a, ∃ u ∈ b, w = (t.1 + u.1, t.2.1 + u.2.1, t.2.2 * u.2.2) := by
  unfold mulT at h
  obtain ⟨t, ht, h⟩ := List.mem_flatMap.mp h
  obtain ⟨u, hu, rfl⟩ := List.mem_map.mp h
  exact ⟨t, ht, u, hu, rfl⟩
/-- all powers are within -/
def Pw (n : Int) (ts : List T3) : Prop := ∀ t ∈ ts, (0 ≤ t.1 ∧ t.1 ≤ n) ∧ (0 ≤ t.2.1 ∧ t.2.1 ≤ n)
theorem Pw.mul {n m : Int} {a b : List T3} (ha : Pw n a) (hb : Pw m b) : Pw (n + m) (mulT a b) := fun w hw => by
  obtain ⟨t, ht, u, hu, rfl⟩ := mem_mulT hw
  have h1 := ha t ht
  have h2 := hb u hu
  exact ⟨⟨by show 0 ≤ t.1 + u.1; omega, by show t.1 + u.1 ≤ n + m; omega⟩, by show 0 ≤ t.2.1 + u.2.1; omega, by show t.2.1 + u.2.1 ≤ n + m; omega⟩
theorem Pw.mono {n m : Int} {a : List T3} (h : Pw n a) (hm : n ≤ m) : Pw m a := fun t ht => by have := h t ht; omega
theorem Told.pw {n : Int} {ts es : List T3} (a : Told ts es) (h : Pw n ts) : Pw n es := fun t ht => by
  obtain ⟨m, _⟩ := a.sub t ht
  obtain ⟨u, hu, eu⟩ := List.mem_map.mp m
  have e1 : u.1 = t.1 := congrArg (fun z : Int × Int => z.1) eu
  have e2 : u.2.1 = t.2.1 := congrArg (fun z : Int × Int => z.2) eu
  have := h u hu
  rw [e1, e2] at this
  exact this
/-- all numbers are at most b -/
def Sz (b : Nat) (ts : List T3) : Prop := ∀ t ∈ ts, t.2.2.natAbs ≤ b
theorem Sz.mul {b c : Nat} {x y : List T3} (hx : Sz b x) (hy : Sz c y) : Sz (b * c) (mulT x y) := fun w hw => by
  obtain ⟨t, ht, u, hu, rfl⟩ := mem_mulT hw
  show (t.2.2 * u.2.2).natAbs ≤ b * c
  rw [Int.natAbs_mul]
  exact Nat.mul_le_mul (hx t ht) (hy u hu)
theorem Sz.mono {b c : Nat} {ts : List T3} (h : Sz b ts) (hc : b ≤ c) : Sz c ts := fun t ht => Nat.le_trans (h t ht) hc
theorem gcd_of_gcdI {p q : Int} (h : gcdI p q = 1) : p.natAbs.gcd q.natAbs = 1 := by
  unfold gcdI at h
  omega
theorem lowI_rat {t u : Int} (hu : u ≠ 0) : lowI t u = (((t : Rat) / (u : Rat)).num, ((((t : Rat) / (u : Rat)).den : Nat) : Int)) := by
  obtain ⟨h1, h2, h3⟩ := lowI_spec (t := t) hu
  generalize lowI t u = pq at h1 h2 h3 ⊢
  obtain ⟨p, q⟩ := pq
  simp only at h1 h2 h3
  have hq : q.toNat ≠ 0 := by omega
  have eq : ((q.toNat : Nat) : Int) = q := by omega
  have cop : p.natAbs.Coprime q.toNat := by
    have := gcd_of_gcdI h2
    have e : q.natAbs = q.toNat := by omega
    rw [e] at this
    exact this
  have e : (⟨p, q.toNat, hq, cop⟩ : Rat) = (t : Rat) / (u : Rat) := by
    rw [Rat.mk_eq_divInt, ← Rat.divInt_eq_div, eq, Rat.divInt_eq_divInt_iff (by omega) hu]
    exact h3
  rw [← e]
  show (p, q) = (p, ((q.toNat : Nat) : Int))
  rw [eq]
/-- a ratio in lowest terms -/
def ratD (r : Rat) : D := .tup [.int r.num, .int (r.den : Nat)]
theorem low_ratD {t u : Int} (hu : u ≠ 0) : D.tup [.int (lowI t u).1, .int (lowI t u).2] = ratD ((t : Rat) / (u : Rat)) := by
  rw [lowI_rat hu]
  rfl
def lin (m : Int × Int → Rat) : List T3 → Rat
  | [] => 0
  | t :: r => (t.2.2 : Rat) * m (ky t) + lin m r
theorem lin_app (m : Int × Int → Rat) : ∀ a b : List T3, lin m (a ++ b) = lin m a + lin m b
  | [], b => by show lin m b = 0 + lin m b; grind
  | t :: a, b => by
    show _ + lin m (a ++ b) = _ + lin m a + lin m b
    rw [lin_app m a b]
    grind
def mon (x y : Rat) (k : Int × Int) : Rat := x ^ k.1.toNat * y ^ k.2.toNat
abbrev ev (x y : Rat) (ts : List T3) : Rat := lin (mon x y) ts
theorem mon_add (x y : Rat) {t u : T3} {n m : Int} (h1 : (0 ≤ t.1 ∧ t.1 ≤ n) ∧ (0 ≤ t.2.1 ∧ t.2.1 ≤ n)) (h2 : (0 ≤ u.1 ∧ u.1 ≤ m) ∧ (0 ≤ u.2.1 ∧ u.2.1 ≤ m)) : mon x y (t.1 + u.1, t.2.1 + u.2.1) = mon x y (ky t) * mon x y (ky u) := by
  unfold mon
  have e1 : (t.1 + u.1).toNat = t.1.toNat + u.1.toNat := by omega
  have e2 : (t.2.1 + u.2.1).toNat = t.2.1.toNat + u.2.1.toNat := by omega
  show x ^ (t.1 + u.1).toNat * y ^ (t.2.1 + u.2.1).toNat = x ^ t.1.toNat * y ^ t.2.1.toNat * (x ^ u.1.toNat * y ^ u.2.1.toNat)
  rw [e1, e2]
  grind
theorem ev_one (x y : Rat) {t : T3} {n m : Int} (ht : (0 ≤ t.1 ∧ t.1 ≤ n) ∧ (0 ≤ t.2.1 ∧ t.2.1 ≤ n)) : ∀ b : List T3, Pw m b → ev x y (b.map fun u => ((t.1 + u.1, t.2.1 + u.2.1, t.2.2 * u.2.2) : T3)) = (t.2.2 : Rat) * mon x y (ky t) * ev x y b
  | [], _ => by show (0 : Rat) = _ * 0; grind
  | u :: b, h => by
    show ((t.2.2 * u.2.2 : Int) : Rat) * mon x y (t.1 + u.1, t.2.1 + u.2.1) + ev x y (b.map _) = (t.2.2 : Rat) * mon x y (ky t) * ((u.2.2 : Rat) * mon x y (ky u) + ev x y b)
    rw [ev_one x y ht b fun z hz => h z (List.mem_cons_of_mem _ hz), mon_add x y ht (h u List.mem_cons_self), Rat.intCast_mul]
    grind
theorem ev_mul (x y : Rat) {n m : Int} {b : List T3} (hb : Pw m b) : ∀ a : List T3, Pw n a → ev x y (mulT a b) = ev x y a * ev x y b
  | [], _ => by show (0 : Rat) = 0 * _; grind
  | t :: a, h => by
    rw [mulT_cons]
    show lin _ (_ ++ _) = _
    rw [lin_app]
    have e1 := ev_one x y (h t List.mem_cons_self) b hb
    have e2 := ev_mul x y hb a fun z hz => h z (List.mem_cons_of_mem _ hz)
    show ev x y _ + ev x y (mulT a b) = ((t.2.2 : Rat) * mon x y (ky t) + ev x y a) * ev x y b
    rw [e1, e2]
    grind
end PO
namespace PO
open PySem L2 DL TL
theorem pow_le {b : Int} {M : Nat} (h : b.natAbs ≤ M) (n : Nat) : (b ^ n).natAbs ≤ M ^ n := by
  rw [Int.natAbs_pow]
  exact Nat.pow_le_pow_left h n
theorem cast_ne {b : Int} (h : b ≠ 0) : (b : Rat) ≠ 0 := fun e => h (Rat.intCast_inj.mp (by rw [e]; rfl))
theorem rat_small {t u : Int} (hu : u ≠ 0) : ((t : Rat) / (u : Rat)).num.natAbs ≤ t.natAbs ∧ ((t : Rat) / (u : Rat)).den ≤ u.natAbs := by
  have h := lowI_small (t := t) hu
  rw [lowI_rat hu] at h
  exact ⟨h.1, h.2⟩
end PO
namespace RO
open PySem L2 DL TL PO
def trimI (xs : List Int) : List Int := (xs.reverse.dropWhile fun z => decide (z = 0)).reverse
theorem trim_zero (a : List Int) : trimI (a ++ [0]) = trimI a := by
  unfold trimI
  rw [List.reverse_append, List.reverse_singleton, List.singleton_append, List.dropWhile_cons, if_pos (by decide)]
theorem trim_last (a : List Int) {z : Int} (h : z ≠ 0) : trimI (a ++ [z]) = a ++ [z] := by
  unfold trimI
  rw [List.reverse_append, List.reverse_singleton, List.singleton_append, List.dropWhile_cons, if_neg (by simp [h]), List.reverse_cons, List.reverse_reverse]
theorem take_last {xs : List Int} {m : Nat} (h : m < xs.length) : xs.take (m + 1) = xs.take m ++ [xs[m]] := by
  rw [List.take_succ, List.getElem?_eq_getElem h]
  rfl
theorem trim_step {xs : List Int} {m : Nat} (h : m < xs.length) (z : xs[m] = 0) : trimI (xs.take (m + 1)) = trimI (xs.take m) := by
  rw [take_last h, z, trim_zero]
theorem trim_stop {xs : List Int} {m : Nat} (h : m < xs.length) (z : xs[m] ≠ 0) : trimI (xs.take (m + 1)) = xs.take (m + 1) := by
  rw [take_last h, trim_last _ z]
theorem trim_len (xs : List Int) : (trimI xs).length ≤ xs.length := by
  unfold trimI
  rw [List.length_reverse]
  have h : ∀ l : List Int, (l.dropWhile fun z => decide (z = 0)).length ≤ l.length := fun l => by
    induction l with
    | nil => exact Nat.le_refl _
    | cons x r ih =>
      rw [List.dropWhile_cons]
      split
      · rw [List.length_cons]; omega
      · exact Nat.le_refl _
  have := h xs.reverse
  rwa [List.length_reverse] at this
theorem drop_sub {x : Int} : ∀ {l : List Int}, x ∈ l.dropWhile (fun z => decide (z = 0)) → x ∈ l
  | y :: r, h => by
    rw [List.dropWhile_cons] at h
    split at h
    · exact List.mem_cons_of_mem _ (drop_sub h)
    · exact h
theorem trim_mem {xs : List Int} {x : Int} (h : x ∈ trimI xs) : x ∈ xs := by
  unfold trimI at h
  exact List.mem_reverse.mp (drop_sub (List.mem_reverse.mp h))
/-- the sum and the power of a walk from the end -/
def voI (t b : Int) : List Int → Int × Int
  | [] => (0, 1)
  | x :: r => ((voI t b r).1 * t + x * (voI t b r).2, (voI t b r).2 * b)
theorem vo_pow (t b : Int) : ∀ xs : List Int, (voI t b xs).2 = b ^ xs.length
  | [] => by show (1 : Int) = b ^ 0; rw [Int.pow_zero]
  | x :: r => by
    show (voI t b r).2 * b = b ^ (r.length + 1)
    rw [vo_pow t b r, Int.pow_succ]
def rv (r : Rat) : List Int → Rat
  | [] => 0
  | x :: l => (x : Rat) + r * rv r l
theorem vo_rv {t b : Int} (hb : b ≠ 0) : ∀ xs : List Int, ((voI t b xs).1 : Rat) * (b : Rat) = rv ((t : Rat) / b) xs * (b : Rat) ^ xs.length
  | [] => by show ((0 : Int) : Rat) * _ = 0 * _; grind
  | x :: r => by
    have ih := vo_rv (t := t) hb r
    have hb' := cast_ne hb
    show (((voI t b r).1 * t + x * (voI t b r).2 : Int) : Rat) * (b : Rat) = ((x : Rat) + (t : Rat) / b * rv _ r) * (b : Rat) ^ (r.length + 1)
    rw [vo_pow]
    simp only [Rat.intCast_add, Rat.intCast_mul, Rat.intCast_pow]
    have e : (t : Rat) = (t : Rat) / b * b := by grind
    calc (((voI t b r).1 : Rat) * (t : Rat) + (x : Rat) * (b : Rat) ^ r.length) * (b : Rat)
        = ((voI t b r).1 : Rat) * (b : Rat) * (t : Rat) + (x : Rat) * (b : Rat) ^ (r.length + 1) := by grind
      _ = rv ((t : Rat) / b) r * (b : Rat) ^ r.length * ((t : Rat) / b * b) + (x : Rat) * (b : Rat) ^ (r.length + 1) := by rw [ih, ← e]
      _ = _ := by grind
theorem vo_le {t b : Int} {M V : Nat} (hM : 1 ≤ M) (ht : t.natAbs ≤ M) (hb : b.natAbs ≤ M) : ∀ xs : List Int, (∀ x ∈ xs, x.natAbs ≤ V) → (voI t b xs).1.natAbs ≤ xs.length * (V * M ^ xs.length)
  | [], _ => Nat.zero_le _
  | x :: r, h => by
    have ih := vo_le hM ht hb r fun y hy => h y (List.mem_cons_of_mem _ hy)
    have hx := h x List.mem_cons_self
    show ((voI t b r).1 * t + x * (voI t b r).2).natAbs ≤ (r.length + 1) * (V * M ^ (r.length + 1))
    rw [vo_pow]
    have e1 : ((voI t b r).1 * t).natAbs ≤ r.length * (V * M ^ (r.length + 1)) := by
      rw [Int.natAbs_mul]
      calc _ ≤ r.length * (V * M ^ r.length) * M := Nat.mul_le_mul ih ht
        _ = r.length * (V * M ^ (r.length + 1)) := by rw [Nat.mul_assoc, Nat.mul_assoc V, Nat.pow_succ]
    have e2 : (x * b ^ r.length).natAbs ≤ V * M ^ (r.length + 1) := by
      rw [Int.natAbs_mul]
      refine Nat.mul_le_mul hx (Nat.le_trans (pow_le hb _) ?_)
      exact Nat.pow_le_pow_right hM (Nat.le_succ _)
    rw [Nat.succ_mul]
    omega
def prim (xs : List Int) : List Int := xs.map fun v => v.fdiv (gcds 0 xs)
theorem gcds_ne {vs : List Int} (h : ∃ v ∈ vs, v ≠ 0) : gcds 0 vs ≠ 0 := by
  obtain ⟨v, hv, nz⟩ := h
  intro e
  obtain ⟨x, hx⟩ := (gcds_dvd vs 0).2 v hv
  rw [e, Int.zero_mul] at hx
  exact nz hx
end RO
namespace ST
def ev : List Rat → Rat → Rat
  | [], _ => 0
  | a :: r, x => a + x * ev r x
def addq : List Rat → List Rat → List Rat
  | [], q => q
  | a :: p, [] => a :: p
  | a :: p, b :: q => (a + b) :: addq p q
def smulq (a : Rat) (q : List Rat) : List Rat := q.map (a * ·)
def mulq : List Rat → List Rat → List Rat
  | [], _ => []
  | a :: p, q => addq (smulq a q) (0 :: mulq p q)
def dq : List Rat → List Rat
  | [] => []
  | _ :: p => addq p (0 :: dq p)
theorem ev_nil (x : Rat) : ev [] x = 0 := rfl
theorem ev_cons (a : Rat) (p : List Rat) (x : Rat) : ev (a :: p) x = a + x * ev p x := rfl
theorem ev_add : ∀ (p q : List Rat) (x : Rat), ev (addq p q) x = ev p x + ev q x
  | [], q, x => by rw [addq, ev_nil]; grind
  | a :: p, [], x => by rw [addq, ev_nil]; grind
  | a :: p, b :: q, x => by rw [addq, ev_cons, ev_cons, ev_cons, ev_add p q x]; grind
theorem ev_smul (a : Rat) : ∀ (q : List Rat) (x : Rat), ev (smulq a q) x = a * ev q x
  | [], x => by show (0 : Rat) = a * 0; grind
  | b :: q, x => by
    show a * b + x * ev (smulq a q) x = a * (b + x * ev q x)
    rw [ev_smul a q x]; grind
theorem ev_mul : ∀ (p q : List Rat) (x : Rat), ev (mulq p q) x = ev p x * ev q x
  | [], q, x => by show (0 : Rat) = 0 * _; grind
  | a :: p, q, x => by
    rw [mulq, ev_add, ev_smul, ev_cons, ev_cons, ev_mul p q x]; grind
theorem ev_dcons (a : Rat) (p : List Rat) (x : Rat) : ev (dq (a :: p)) x = ev p x + x * ev (dq p) x := by
  rw [dq, ev_add, ev_cons]; grind
theorem ev_dadd : ∀ (p q : List Rat) (x : Rat), ev (dq (addq p q)) x = ev (dq p) x + ev (dq q) x
  | [], q, x => by rw [addq]; show _ = (0 : Rat) + _; grind
  | a :: p, [], x => by rw [addq]; show _ = _ + (0 : Rat); grind
  | a :: p, b :: q, x => by rw [addq, ev_dcons, ev_dcons, ev_dcons, ev_add, ev_dadd p q x]; grind
theorem ev_dsmul (a : Rat) : ∀ (q : List Rat) (x : Rat), ev (dq (smulq a q)) x = a * ev (dq q) x
  | [], x => by show (0 : Rat) = a * 0; grind
  | b :: q, x => by
    show ev (dq (a * b :: smulq a q)) x = _
    rw [ev_dcons, ev_dcons, ev_smul, ev_dsmul a q x]; grind
theorem ev_dmul : ∀ (p q : List Rat) (x : Rat), ev (dq (mulq p q)) x = ev (dq p) x * ev q x + ev p x * ev (dq q) x
  | [], q, x => by show (0 : Rat) = 0 * _ + 0 * _; grind
  | a :: p, q, x => by
    rw [mulq, ev_dadd, ev_dsmul, ev_dcons, ev_dcons, ev_mul, ev_dmul p q x, ev_cons]; grind
def Bd (x M : Rat) : Prop := -M ≤ x ∧ x ≤ M
theorem Bd.nn {x M : Rat} (h : Bd x M) : 0 ≤ M := by have := h.1; have := h.2; grind
theorem Bd.add {x y M N : Rat} (h : Bd x M) (k : Bd y N) : Bd (x + y) (M + N) := ⟨by have := h.1; have := k.1; grind, by have := h.2; have := k.2; grind⟩
theorem Bd.neg {x M : Rat} (h : Bd x M) : Bd (-x) M := ⟨by have := h.2; grind, by have := h.1; grind⟩
theorem Bd.sub {x y M N : Rat} (h : Bd x M) (k : Bd y N) : Bd (x - y) (M + N) := ⟨by have := h.1; have := k.2; grind, by have := h.2; have := k.1; grind⟩
theorem Bd.le {x M N : Rat} (h : Bd x M) (k : M ≤ N) : Bd x N := ⟨by have := h.1; grind, by have := h.2; grind⟩
theorem Bd.mul {x y M N : Rat} (h : Bd x M) (k : Bd y N) : Bd (x * y) (M * N) := by
  obtain ⟨h1, h2⟩ := h
  obtain ⟨k1, k2⟩ := k
  have a1 : 0 ≤ (M - x) * (N - y) := Rat.mul_nonneg (by grind) (by grind)
  have a2 : 0 ≤ (M + x) * (N + y) := Rat.mul_nonneg (by grind) (by grind)
  have a3 : 0 ≤ (M - x) * (N + y) := Rat.mul_nonneg (by grind) (by grind)
  have a4 : 0 ≤ (M + x) * (N - y) := Rat.mul_nonneg (by grind) (by grind)
  exact ⟨by grind, by grind⟩
theorem bd_ex (x : Rat) : ∃ M, Bd x M := by
  by_cases h : 0 ≤ x
  · exact ⟨x, by grind, by grind⟩
  · exact ⟨-x, by grind, by grind⟩
theorem Bd.of0 {M : Rat} (h : 0 ≤ M) : Bd 0 M := ⟨by grind, h⟩
/-- a polynomial's values on a bounded interval -/
theorem ev_bd (M : Rat) (hM : 0 ≤ M) : ∀ p : List Rat, ∃ C, 0 ≤ C ∧ ∀ x, Bd x M → Bd (ev p x) C
  | [] => ⟨0, by decide, fun x _ => ⟨by show -(0 : Rat) ≤ 0; grind, by show (0 : Rat) ≤ 0; grind⟩⟩
  | a :: p => by
    obtain ⟨C, c0, hC⟩ := ev_bd M hM p
    obtain ⟨A, hA⟩ := bd_ex a
    exact ⟨A + M * C, by have := Rat.mul_nonneg hM c0; have := hA.nn; grind, fun x hx => hA.add (hx.mul (hC x hx))⟩
theorem ev_lip (M : Rat) (hM : 0 ≤ M) : ∀ p : List Rat, ∃ C, 0 ≤ C ∧ ∀ x y d, Bd x M → Bd y M → Bd (x - y) d → Bd (ev p x - ev p y) (C * d)
  | [] => ⟨0, by decide, fun x y d _ _ _ => by
    show Bd ((0 : Rat) - 0) (0 * d)
    exact ⟨by grind, by grind⟩⟩
  | a :: p => by
    obtain ⟨C, c0, hC⟩ := ev_lip M hM p
    obtain ⟨B, b0, hB⟩ := ev_bd M hM p
    refine ⟨M * C + B, by have := Rat.mul_nonneg hM c0; grind, fun x y d hx hy hd => ?_⟩
    have h1 := hx.mul (hC x y d hx hy hd)
    have h2 := hd.mul (hB y hy)
    have := h1.add h2
    rw [ev_cons, ev_cons]
    rw [show a + x * ev p x - (a + y * ev p y) = x * (ev p x - ev p y) + (x - y) * ev p y from by grind]
    rw [show (M * C + B) * d = M * (C * d) + d * B from by grind]
    exact this
theorem ev_tay (M : Rat) (hM : 0 ≤ M) : ∀ p : List Rat, ∃ C, 0 ≤ C ∧ ∀ x y d, Bd x M → Bd y M → Bd (y - x) d → Bd (ev p y - ev p x - (y - x) * ev (dq p) x) (C * d * d)
  | [] => ⟨0, by decide, fun x y d _ _ _ => by
    show Bd ((0 : Rat) - 0 - (y - x) * 0) (0 * d * d)
    exact ⟨by grind, by grind⟩⟩
  | a :: p => by
    obtain ⟨C, c0, hC⟩ := ev_tay M hM p
    obtain ⟨B, b0, hB⟩ := ev_lip M hM p
    refine ⟨M * C + B, by have := Rat.mul_nonneg hM c0; grind, fun x y d hx hy hd => ?_⟩
    have h1 := hx.mul (hC x y d hx hy hd)
    have h2 := hd.mul (hB y x d hy hx hd)
    have := h1.add h2
    rw [ev_cons, ev_cons, ev_dcons]
    rw [show a + y * ev p y - (a + x * ev p x) - (y - x) * (ev p x + x * ev (dq p) x) = x * (ev p y - ev p x - (y - x) * ev (dq p) x) + (y - x) * (ev p y - ev p x) from by grind]
    rw [show (M * C + B) * d * d = M * (C * d * d) + d * (B * d) from by grind]
    exact this
theorem arch {x : Rat} (hx : 0 < x) (y : Rat) : ∃ n : Nat, y < n * x := by
  refine ⟨((y / x).floor + 1).toNat, ?_⟩
  have h1 : y / x - 1 < ((y / x).floor : Rat) := Rat.lt_floor
  have h2 : ((y / x).floor : Rat) + 1 ≤ (((y / x).floor + 1).toNat : Rat) := by
    have : (y / x).floor + 1 ≤ (((y / x).floor + 1).toNat : Int) := Int.self_le_toNat _
    have h := Rat.intCast_le_intCast.mpr this
    rw [Rat.intCast_add] at h
    exact h
  have h3 : y / x < (((y / x).floor + 1).toNat : Rat) := by grind
  have h4 : y / x * x = y := by grind
  have := Rat.mul_lt_mul_of_pos_right h3 hx
  grind
theorem ev_far : ∀ (p : List Rat) (v : Rat), 0 < v → ∃ M δ : Rat, 0 < M ∧ 0 < δ ∧ ∀ x, M ≤ x → δ ≤ ev (p ++ [v]) x
  | [], v, h => ⟨1, v, by decide, h, fun x _ => by show v ≤ v + x * 0; grind⟩
  | a :: p, v, h => by
    obtain ⟨M, δ, hM, hd, hx⟩ := ev_far p v h
    obtain ⟨A, hA⟩ := bd_ex a
    have ha := hA.nn
    have h1 : 0 ≤ A / δ := by
      rw [Rat.div_def]
      exact Rat.mul_nonneg ha (Rat.le_of_lt (Rat.inv_pos.mpr hd))
    refine ⟨M + A / δ + 1, δ, by grind, hd, fun x h => ?_⟩
    have h2 := hx x (by grind)
    show δ ≤ a + x * ev (p ++ [v]) x
    have h3 : A / δ * δ = A := by grind
    have h4 : 0 ≤ (x - (A / δ + 1)) * δ := Rat.mul_nonneg (by grind) (by grind)
    have h5 : 0 ≤ x * (ev (p ++ [v]) x - δ) := Rat.mul_nonneg (by grind) (by grind)
    have := hA.1
    grind
theorem smul_app (a : Rat) (p : List Rat) (v : Rat) : smulq a (p ++ [v]) = smulq a p ++ [a * v] := by
  unfold smulq; rw [List.map_append]; rfl
/-- a polynomial with a last number that is not 0 does not vanish far above -/
theorem far_ne (p : List Rat) {v : Rat} (h : v ≠ 0) : ∃ M : Rat, 0 < M ∧ ∀ x, M ≤ x → ev (p ++ [v]) x ≠ 0 := by
  by_cases hv : 0 < v
  · obtain ⟨M, δ, hM, hd, hx⟩ := ev_far p v hv
    exact ⟨M, hM, fun x h e => by have := hx x h; rw [e] at this; grind⟩
  · obtain ⟨M, δ, hM, hd, hx⟩ := ev_far (smulq (-1) p) ((-1) * v) (by grind)
    refine ⟨M, hM, fun x h e => ?_⟩
    have := hx x h
    rw [← smul_app, ev_smul, e] at this
    grind
def Nul (p : List Rat) : Prop := ∀ a ∈ p, a = 0
theorem nul_ev {p : List Rat} (h : Nul p) (x : Rat) : ev p x = 0 := by
  induction p with
  | nil => rfl
  | cons a p ih =>
    rw [ev_cons, ih fun b hb => h b (List.mem_cons_of_mem _ hb), h a List.mem_cons_self]; grind
theorem nul_dq {p : List Rat} (h : Nul p) (x : Rat) : ev (dq p) x = 0 := by
  induction p with
  | nil => rfl
  | cons a p ih =>
    have hp : Nul p := fun b hb => h b (List.mem_cons_of_mem _ hb)
    rw [ev_dcons, ih hp, nul_ev hp]; grind
/-- a list is zeros alone, or it has a last number that is not 0, with zeros behind -/
theorem last_or (p : List Rat) : Nul p ∨ ∃ q v z, v ≠ 0 ∧ Nul z ∧ p = q ++ v :: z := by
  induction p with
  | nil => exact .inl fun _ h => by cases h
  | cons a p ih =>
    rcases ih with h | ⟨q, v, z, hv, hz, rfl⟩
    · by_cases e : a = 0
      · exact .inl fun b hb => by
          cases hb with
          | head => exact e
          | tail _ hb => exact h b hb
      · exact .inr ⟨[], a, p, e, h, rfl⟩
    · exact .inr ⟨a :: q, v, z, hv, hz, rfl⟩
theorem ev_app_nul {z : List Rat} (h : Nul z) : ∀ (q : List Rat) (x : Rat), ev (q ++ z) x = ev q x
  | [], x => nul_ev h x
  | a :: q, x => by rw [List.cons_append, ev_cons, ev_cons, ev_app_nul h q x]
theorem nul_of {p : List Rat} (h : ∃ M : Rat, ∀ x, M ≤ x → ev p x = 0) : Nul p := by
  rcases last_or p with n | ⟨q, v, z, hv, hz, rfl⟩
  · exact n
  · obtain ⟨M, hM⟩ := h
    obtain ⟨N, _, hN⟩ := far_ne q hv
    have e : ∀ x, ev (q ++ v :: z) x = ev (q ++ [v]) x := fun x => by
      rw [show q ++ v :: z = (q ++ [v]) ++ z from by simp, ev_app_nul hz]
    by_cases c : M ≤ N
    · exact absurd ((e N).symm.trans (hM N c)) (hN N (by grind))
    · exact absurd ((e M).symm.trans (hM M (by grind))) (hN M (by grind))
/-- equal values, equal derivatives -/
theorem d_congr {p q : List Rat} (h : ∀ x, ev p x = ev q x) (x : Rat) : ev (dq p) x = ev (dq q) x := by
  have n : Nul (addq p (smulq (-1) q)) := nul_of ⟨0, fun y _ => by rw [ev_add, ev_smul, h y]; grind⟩
  have := nul_dq n x
  rw [ev_dadd, ev_dsmul] at this
  grind
end ST
namespace ST
structure Cut where
  lo : Rat → Prop
  hi : Rat → Prop
  lo_ex : ∃ x, lo x
  hi_ex : ∃ x, hi x
  lo_dn : ∀ {x y}, x ≤ y → lo y → lo x
  hi_up : ∀ {x y}, x ≤ y → hi x → hi y
  dis : ∀ {x y}, lo x → hi y → x < y
  loc : ∀ {x y}, x < y → lo x ∨ hi y
  lo_op : ∀ {x}, lo x → ∃ y, x < y ∧ lo y
  hi_op : ∀ {x}, hi x → ∃ y, y < x ∧ hi y
def Cut.near (c : Cut) (δ x : Rat) : Prop := c.lo (x - δ) ∧ c.hi (x + δ)
theorem Cut.near_mid {c : Cut} {δ x y z : Rat} (h : c.near δ x) (k : c.near δ z) (h1 : x ≤ y) (h2 : y ≤ z) : c.near δ y :=
  ⟨c.lo_dn (by grind) k.1, c.hi_up (by grind) h.2⟩
theorem Cut.near_le {c : Cut} {δ ε x : Rat} (h : c.near δ x) (k : δ ≤ ε) : c.near ε x := ⟨c.lo_dn (by grind) h.1, c.hi_up (by grind) h.2⟩
theorem Cut.near_dist {c : Cut} {δ ε x y : Rat} (h : c.near δ x) (k : c.near ε y) : Bd (x - y) (δ + ε) :=
  ⟨by have := c.dis k.1 h.2; grind, by have := c.dis h.1 k.2; grind⟩
def ratCut (r : Rat) : Cut where
  lo x := x < r
  hi x := r < x
  lo_ex := ⟨r - 1, by grind⟩
  hi_ex := ⟨r + 1, by grind⟩
  lo_dn h k := by grind
  hi_up h k := by grind
  dis h k := by grind
  loc {x y} h := by by_cases c : x < r; exact .inl c; exact .inr (by grind)
  lo_op {x} h := ⟨(x + r) / 2, by grind, by grind⟩
  hi_op {x} h := ⟨(x + r) / 2, by grind, by grind⟩
/-- points on both sides, as close as one likes -/
theorem Cut.close (c : Cut) {δ : Rat} (hd : 0 < δ) : ∃ u v, c.lo u ∧ c.hi v ∧ v - u < δ := by
  apply Classical.byContradiction
  intro hn
  obtain ⟨u0, hu⟩ := c.lo_ex
  obtain ⟨v0, hv⟩ := c.hi_ex
  have step : ∀ u, c.lo u → c.lo (u + δ / 3) := fun u h => by
    rcases c.loc (show u + δ / 3 < u + 2 * δ / 3 from by grind) with q | q
    · exact q
    · exact absurd ⟨u, _, h, q, by grind⟩ hn
  have all : ∀ n : Nat, c.lo (u0 + n * (δ / 3)) := fun n => by
    induction n with
    | zero => rw [show u0 + ((0 : Nat) : Rat) * (δ / 3) = u0 from by grind]; exact hu
    | succ n ih =>
      have := step _ ih
      rwa [show u0 + ((n + 1 : Nat) : Rat) * (δ / 3) = u0 + (n : Rat) * (δ / 3) + δ / 3 from by
        rw [show ((n + 1 : Nat) : Rat) = (n : Rat) + 1 from by grind]
        grind]
  obtain ⟨n, hn'⟩ := arch (show 0 < δ / 3 from by grind) (v0 - u0)
  have := c.dis (all n) hv
  grind
theorem Cut.lo_near {c : Cut} {u v δ : Rat} (hu : c.lo u) (hv : c.hi v) (h : v - u < δ) : c.near δ u ∧ c.near δ v :=
  ⟨⟨c.lo_dn (show u - δ ≤ u from by have := c.dis hu hv; grind) hu, c.hi_up (by grind) hv⟩, c.lo_dn (by grind) hu, c.hi_up (by have := c.dis hu hv; grind) hv⟩
theorem Cut.near_ex (c : Cut) {δ : Rat} (hd : 0 < δ) : ∃ u v, c.lo u ∧ c.hi v ∧ c.near δ u ∧ c.near δ v := by
  obtain ⟨u, v, h1, h2, h3⟩ := c.close hd
  exact ⟨u, v, h1, h2, c.lo_near h1 h2 h3⟩
/-- a point that is neither below nor above: the cut is this ratio -/
theorem Cut.mid_eq {c : Cut} {x : Rat} (h1 : ¬ c.lo x) (h2 : ¬ c.hi x) {δ : Rat} (hd : 0 < δ) : c.near δ x :=
  ⟨(c.loc (show x - δ < x from by grind)).resolve_right h2, (c.loc (show x < x + δ from by grind)).resolve_left h1⟩
theorem Cut.bdd (c : Cut) : ∃ M, 0 ≤ M ∧ ∀ x, c.near 1 x → Bd x M := by
  obtain ⟨u, hu⟩ := c.lo_ex
  obtain ⟨v, hv⟩ := c.hi_ex
  obtain ⟨A, hA⟩ := bd_ex u
  obtain ⟨B, hB⟩ := bd_ex v
  have := hA.nn
  have := hB.nn
  refine ⟨A + B + 1, by grind, fun x hx => ?_⟩
  have h1 := c.dis hx.1 hv
  have h2 := c.dis hu hx.2
  have := hA.1
  have := hB.2
  exact ⟨by grind, by grind⟩
theorem const_of {α : Type} {V : Rat → α} (h : ∀ c : Cut, ∃ δ, 0 < δ ∧ ∀ x y, c.near δ x → c.near δ y → V x = V y) {a b : Rat} (hab : a ≤ b) : V a = V b := by
  apply Classical.byContradiction
  intro hne
  let G : Rat → Prop := fun y => ∀ z, a ≤ z → z ≤ y → V z = V a
  have gdn : ∀ {x y}, x ≤ y → G y → G x := fun h g z h1 h2 => g z h1 (by grind)
  have ga : G a := fun z h1 h2 => by rw [show z = a from by grind]
  have gb : ¬ G b := fun g => hne (g b hab (by grind)).symm
  let c : Cut := {
    lo := fun x => ∃ y, x < y ∧ G y
    hi := fun x => ∃ y, y < x ∧ ¬ G y
    lo_ex := ⟨a - 1, a, by grind, ga⟩
    hi_ex := ⟨b + 1, b, by grind, gb⟩
    lo_dn := fun h ⟨y, h1, h2⟩ => ⟨y, by grind, h2⟩
    hi_up := fun h ⟨y, h1, h2⟩ => ⟨y, by grind, h2⟩
    dis := fun {x y} ⟨p, h1, h2⟩ ⟨q, k1, k2⟩ => by
      by_cases e : q ≤ p
      · exact absurd (gdn e h2) k2
      · grind
    loc := fun {x y} h => by
      by_cases g : G ((x + y) / 2)
      · exact .inl ⟨_, by grind, g⟩
      · exact .inr ⟨_, by grind, g⟩
    lo_op := fun {x} ⟨y, h1, h2⟩ => ⟨(x + y) / 2, by grind, y, by grind, h2⟩
    hi_op := fun {x} ⟨y, h1, h2⟩ => ⟨(x + y) / 2, by grind, y, by grind, h2⟩ }
  obtain ⟨δ, hd, hc⟩ := h c
  obtain ⟨u, v, ⟨u', hu1, hu2⟩, ⟨v', hv1, hv2⟩, nu, nv⟩ := c.near_ex hd
  apply hv2
  intro z z1 z2
  by_cases e : z ≤ u
  · exact gdn (show z ≤ u' from by grind) hu2 z z1 (by grind)
  · have nz : c.near δ z := Cut.near_mid nu nv (by grind) (by grind)
    by_cases k : a ≤ u
    · rw [← hc u z nu nz]
      exact hu2 u k (by grind)
    · rw [← hc a z (Cut.near_mid nu nz (by grind) z1) nz]
def Z (c : Cut) (F : Rat → Rat) : Prop := ∀ ε, 0 < ε → ∃ δ, 0 < δ ∧ ∀ x, c.near δ x → Bd (F x) ε
def Pos (c : Cut) (F : Rat → Rat) : Prop := ∃ ε δ, 0 < ε ∧ 0 < δ ∧ ∀ x, c.near δ x → ε ≤ F x
def Neg (c : Cut) (F : Rat → Rat) : Prop := ∃ ε δ, 0 < ε ∧ 0 < δ ∧ ∀ x, c.near δ x → F x ≤ -ε
theorem min_le (a b : Rat) : ∃ m, m ≤ a ∧ m ≤ b ∧ (m = a ∨ m = b) := by
  by_cases h : a ≤ b
  · exact ⟨a, by grind, h, .inl rfl⟩
  · exact ⟨b, by grind, by grind, .inr rfl⟩
theorem min_pos {a b : Rat} (ha : 0 < a) (hb : 0 < b) : ∃ m, 0 < m ∧ m ≤ a ∧ m ≤ b := by
  obtain ⟨m, h1, h2, h3⟩ := min_le a b
  exact ⟨m, by rcases h3 with rfl | rfl <;> assumption, h1, h2⟩
theorem tri (c : Cut) (p : List Rat) : Z c (ev p) ∨ Pos c (ev p) ∨ Neg c (ev p) := by
  by_cases hz : Z c (ev p)
  · exact .inl hz
  · right
    obtain ⟨ε, hε⟩ := Classical.not_forall.mp hz
    obtain ⟨e0, hn⟩ := Classical.not_imp.mp hε
    obtain ⟨M, hM, hb⟩ := c.bdd
    obtain ⟨C, hC, hL⟩ := ev_lip M hM p
    obtain ⟨δ, d0, d1, d2⟩ := min_pos (show (0 : Rat) < 1 from by decide) (show (0 : Rat) < ε / (4 * (C + 1)) from by
      rw [Rat.div_def]
      exact Rat.mul_pos e0 (Rat.inv_pos.mpr (by grind)))
    have hn' : ¬ ∀ x, c.near δ x → Bd (ev p x) ε := fun q => hn ⟨δ, d0, q⟩
    obtain ⟨x, hx⟩ := Classical.not_forall.mp hn'
    obtain ⟨nx, bx⟩ := Classical.not_imp.mp hx
    have key : ∀ y, c.near δ y → Bd (ev p y - ev p x) (ε / 2) := fun y ny => by
      refine Bd.le (hL y x (δ + δ) (hb y (Cut.near_le ny d1)) (hb x (Cut.near_le nx d1)) (Cut.near_dist ny nx)) ?_
      have h1 : 0 ≤ (C + 1) * (ε / (4 * (C + 1)) - δ) := Rat.mul_nonneg (by grind) (by grind)
      have h2 : (C + 1) * (ε / (4 * (C + 1))) = ε / 4 := by grind
      grind
    by_cases s : ε < ev p x
    · exact .inl ⟨ε / 2, δ, by grind, d0, fun y ny => by have := (key y ny).1; grind⟩
    · have s2 : ev p x < -ε := by
        apply Classical.byContradiction
        intro q
        exact bx ⟨by grind, by grind⟩
      exact .inr ⟨ε / 2, δ, by grind, d0, fun y ny => by have := (key y ny).2; grind⟩
theorem Z.not_pos {c : Cut} {F : Rat → Rat} (h : Z c F) : ¬ Pos c F := fun ⟨ε, δ, e0, d0, k⟩ => by
  obtain ⟨δ', d1, k1⟩ := h (ε / 2) (by grind)
  obtain ⟨m, m0, m1, m2⟩ := min_pos d0 d1
  obtain ⟨u, _, _, _, nu, _⟩ := c.near_ex m0
  have := k u (Cut.near_le nu m1)
  have := (k1 u (Cut.near_le nu m2)).2
  grind
theorem Z.not_neg {c : Cut} {F : Rat → Rat} (h : Z c F) : ¬ Neg c F := fun ⟨ε, δ, e0, d0, k⟩ => by
  obtain ⟨δ', d1, k1⟩ := h (ε / 2) (by grind)
  obtain ⟨m, m0, m1, m2⟩ := min_pos d0 d1
  obtain ⟨u, _, _, _, nu, _⟩ := c.near_ex m0
  have := k u (Cut.near_le nu m1)
  have := (k1 u (Cut.near_le nu m2)).1
  grind
theorem Z.add {c : Cut} {F G : Rat → Rat} (h : Z c F) (k : Z c G) : Z c fun x => F x + G x := fun ε e => by
  obtain ⟨a, a0, ha⟩ := h (ε / 2) (by grind)
  obtain ⟨b, b0, hb⟩ := k (ε / 2) (by grind)
  obtain ⟨m, m0, m1, m2⟩ := min_pos a0 b0
  refine ⟨m, m0, fun x nx => ?_⟩
  have := (ha x (Cut.near_le nx m1)).add (hb x (Cut.near_le nx m2))
  rwa [show ε / 2 + ε / 2 = ε from by grind] at this
/-- a bounded factor -/
theorem Z.mulp {c : Cut} {F : Rat → Rat} (h : Z c F) (p : List Rat) : Z c fun x => ev p x * F x := fun ε e => by
  obtain ⟨M, hM, hb⟩ := c.bdd
  obtain ⟨C, hC, hB⟩ := ev_bd M hM p
  obtain ⟨a, a0, ha⟩ := h (ε / (C + 1)) (by rw [Rat.div_def]; exact Rat.mul_pos e (Rat.inv_pos.mpr (by grind)))
  obtain ⟨m, m0, m1, m2⟩ := min_pos a0 (show (0 : Rat) < 1 from by decide)
  refine ⟨m, m0, fun x nx => ?_⟩
  refine Bd.le ((hB x (hb x (Cut.near_le nx m2))).mul (ha x (Cut.near_le nx m1))) ?_
  have h1 : (C + 1) * (ε / (C + 1)) = ε := by grind
  have h2 : 0 ≤ ε / (C + 1) := by rw [Rat.div_def]; exact Rat.mul_nonneg (by grind) (Rat.le_of_lt (Rat.inv_pos.mpr (by grind)))
  grind
theorem Z.congr {c : Cut} {F G : Rat → Rat} (h : Z c F) (e : ∀ x, F x = G x) : Z c G := by
  have : F = G := funext e
  exact this ▸ h
theorem Z.smul {c : Cut} {F : Rat → Rat} (h : Z c F) (a : Rat) : Z c fun x => a * F x := (h.mulp [a]).congr fun x => by
  show (a + x * 0) * F x = a * F x
  grind
theorem Pos.mul {c : Cut} {F G : Rat → Rat} (h : Pos c F) (k : Pos c G) : Pos c fun x => F x * G x := by
  obtain ⟨ε, δ, e0, d0, h⟩ := h
  obtain ⟨ε', δ', e1, d1, k⟩ := k
  obtain ⟨m, m0, m1, m2⟩ := min_pos d0 d1
  refine ⟨ε * ε', m, Rat.mul_pos e0 e1, m0, fun x nx => ?_⟩
  have a := h x (Cut.near_le nx m1)
  have b := k x (Cut.near_le nx m2)
  have h1 : 0 ≤ (F x - ε) * G x := Rat.mul_nonneg (by grind) (by grind)
  have h2 : 0 ≤ ε * (G x - ε') := Rat.mul_nonneg (by grind) (by grind)
  grind
theorem Neg.neg {c : Cut} {F : Rat → Rat} (h : Neg c F) : Pos c fun x => -F x := by
  obtain ⟨ε, δ, e0, d0, h⟩ := h
  exact ⟨ε, δ, e0, d0, fun x nx => by have := h x nx; grind⟩
theorem Pos.neg {c : Cut} {F : Rat → Rat} (h : Pos c F) : Neg c fun x => -F x := by
  obtain ⟨ε, δ, e0, d0, h⟩ := h
  exact ⟨ε, δ, e0, d0, fun x nx => by have := h x nx; grind⟩
theorem Pos.congr {c : Cut} {F G : Rat → Rat} (h : Pos c F) (e : ∀ x, F x = G x) : Pos c G := by
  have : F = G := funext e
  exact this ▸ h
theorem Neg.congr {c : Cut} {F G : Rat → Rat} (h : Neg c F) (e : ∀ x, F x = G x) : Neg c G := by
  have : F = G := funext e
  exact this ▸ h
/-- a product vanishes where a factor does -/
theorem Z.of_mul {c : Cut} {p q : List Rat} (h : Z c fun x => ev p x * ev q x) : Z c (ev p) ∨ Z c (ev q) := by
  rcases tri c p with hp | hp | hp
  · exact .inl hp
  · rcases tri c q with hq | hq | hq
    · exact .inr hq
    · exact absurd (hp.mul hq) h.not_pos
    · have := (hp.mul hq.neg).neg
      exact absurd (this.congr fun x => by grind) h.not_neg
  · rcases tri c q with hq | hq | hq
    · exact .inr hq
    · have := (hp.neg.mul hq).neg
      exact absurd (this.congr fun x => by grind) h.not_neg
    · have := hp.neg.mul hq.neg
      exact absurd (this.congr fun x => by grind) h.not_pos
/-- at a ratio: the value -/
theorem Z.rat {r : Rat} {p : List Rat} : Z (ratCut r) (ev p) ↔ ev p r = 0 := by
  constructor
  · intro h
    apply Classical.byContradiction
    intro n
    have self : ∀ δ, 0 < δ → (ratCut r).near δ r := fun δ hd => ⟨show r - δ < r by grind, show r < r + δ by grind⟩
    by_cases s : 0 < ev p r
    · obtain ⟨δ, d0, k⟩ := h (ev p r / 2) (by grind)
      have := (k r (self δ d0)).2
      grind
    · obtain ⟨δ, d0, k⟩ := h (-ev p r / 2) (by grind)
      have := (k r (self δ d0)).1
      grind
  · intro h ε e0
    obtain ⟨M, hM, hb⟩ := (ratCut r).bdd
    obtain ⟨C, hC, hL⟩ := ev_lip M hM p
    obtain ⟨δ, d0, d1, d2⟩ := min_pos (show (0 : Rat) < 1 from by decide) (show (0 : Rat) < ε / (C + 1) from by
      rw [Rat.div_def]
      exact Rat.mul_pos e0 (Rat.inv_pos.mpr (by grind)))
    refine ⟨δ, d0, fun x nx => ?_⟩
    have b := hL x r δ (hb x (Cut.near_le nx d1)) (hb r ⟨show r - 1 < r by grind, show r < r + 1 by grind⟩) ⟨by have : r < x + δ := nx.2; grind, by have : x - δ < r := nx.1; grind⟩
    rw [h] at b
    rw [show ev p x - 0 = ev p x from by grind] at b
    refine b.le ?_
    have h1 : 0 ≤ (C + 1) * (ε / (C + 1) - δ) := Rat.mul_nonneg (by grind) (by grind)
    have h2 : (C + 1) * (ε / (C + 1)) = ε := by grind
    grind
end ST
namespace ST
def sg (x : Rat) : Int := if 0 < x then 1 else if x < 0 then -1 else 0
theorem sg_pos {x : Rat} (h : 0 < x) : sg x = 1 := if_pos h
theorem sg_neg {x : Rat} (h : x < 0) : sg x = -1 := by unfold sg; rw [if_neg (by grind), if_pos h]
theorem sg_zero : sg 0 = 0 := by decide
theorem sg_or (x : Rat) : sg x = 0 ∨ sg x = 1 ∨ sg x = -1 := by
  unfold sg
  split
  · exact .inr (.inl rfl)
  · split
    · exact .inr (.inr rfl)
    · exact .inl rfl
def chgP (s : Int) : List Int → Nat
  | [] => 0
  | t :: l => if t = 0 then chgP s l else (if t = s then 0 else 1) + chgP t l
def chg : List Int → Nat
  | [] => 0
  | t :: l => if t = 0 then chg l else chgP t l
def sgs (l : List (List Rat)) (x : Rat) : List Int := l.map fun p => sg (ev p x)
def VV (l : List (List Rat)) (x : Rat) : Nat := chg (sgs l x)
def Rel (p q r : List Rat) : Prop := ∃ a b : Rat, 0 < a ∧ 0 < b ∧ ∃ m : List Rat, ∀ x, a * ev p x = ev m x * ev q x - b * ev r x
def Ch : List (List Rat) → Prop
  | p :: q :: r :: l => Rel p q r ∧ Ch (q :: r :: l)
  | _ => True
def LastNZ (c : Cut) : List (List Rat) → Prop
  | [] => False
  | [p] => ¬ Z c (ev p)
  | _ :: q :: l => LastNZ c (q :: l)
def HasS (c : Cut) (F : Rat → Rat) (s : Int) : Prop := (s = 1 ∧ Pos c F) ∨ (s = -1 ∧ Neg c F)
theorem HasS.sg {c : Cut} {F : Rat → Rat} {s : Int} (h : HasS c F s) : ∃ δ, 0 < δ ∧ ∀ x, c.near δ x → ST.sg (F x) = s := by
  rcases h with ⟨rfl, ε, δ, e0, d0, k⟩ | ⟨rfl, ε, δ, e0, d0, k⟩
  · exact ⟨δ, d0, fun x nx => sg_pos (by have := k x nx; grind)⟩
  · exact ⟨δ, d0, fun x nx => sg_neg (by have := k x nx; grind)⟩
theorem tri' (c : Cut) (p : List Rat) : Z c (ev p) ∨ ∃ s, HasS c (ev p) s := by
  rcases tri c p with h | h | h
  · exact .inl h
  · exact .inr ⟨1, .inl ⟨rfl, h⟩⟩
  · exact .inr ⟨-1, .inr ⟨rfl, h⟩⟩
theorem HasS.nz {c : Cut} {F : Rat → Rat} {s : Int} (h : HasS c F s) : ¬ Z c F := fun z => by
  rcases h with ⟨_, k⟩ | ⟨_, k⟩
  · exact z.not_pos k
  · exact z.not_neg k
theorem HasS.pm {c : Cut} {F : Rat → Rat} {s : Int} (h : HasS c F s) : s = 1 ∨ s = -1 := h.elim (fun q => .inl q.1) fun q => .inr q.1
theorem Pos.add {c : Cut} {F G : Rat → Rat} (h : Pos c F) (k : Pos c G) : Pos c fun x => F x + G x := by
  obtain ⟨ε, δ, e0, d0, h⟩ := h
  obtain ⟨ε', δ', e1, d1, k⟩ := k
  obtain ⟨m, m0, m1, m2⟩ := min_pos d0 d1
  exact ⟨ε + ε', m, by grind, m0, fun x nx => by
    have := h x (Cut.near_le nx m1)
    have := k x (Cut.near_le nx m2)
    grind⟩
theorem Pos.smul {c : Cut} {F : Rat → Rat} (h : Pos c F) {a : Rat} (ha : 0 < a) : Pos c fun x => a * F x := by
  obtain ⟨ε, δ, e0, d0, h⟩ := h
  exact ⟨a * ε, δ, Rat.mul_pos ha e0, d0, fun x nx => by
    have := Rat.mul_nonneg (Rat.le_of_lt ha) (show 0 ≤ F x - ε from by have := h x nx; grind)
    grind⟩
/-- behind one that vanishes stands one of the other sign -/
theorem Rel.opp {c : Cut} {p q r : List Rat} (h : Rel p q r) (hq : Z c (ev q)) {s : Int} (hp : HasS c (ev p) s) : HasS c (ev r) (-s) := by
  obtain ⟨a, b, a0, b0, m, e⟩ := h
  have zs : Z c fun x => a * ev p x + b * ev r x := (hq.mulp m).congr fun x => by have := e x; grind
  rcases tri c r with hr | hr | hr
  · refine absurd (?_ : Z c (ev p)) hp.nz
    have h1 : Z c fun x => (1 / a) * ((a * ev p x + b * ev r x) + (-b) * ev r x) := (zs.add (hr.smul (-b))).smul (1 / a)
    exact h1.congr fun x => by
      have : 1 / a * a = 1 := by grind
      grind
  · rcases hp with ⟨rfl, k⟩ | ⟨rfl, k⟩
    · exact absurd ((k.smul a0).add (hr.smul b0)) zs.not_pos
    · exact .inl ⟨rfl, hr⟩
  · rcases hp with ⟨rfl, k⟩ | ⟨rfl, k⟩
    · exact .inr ⟨rfl, hr⟩
    · exact absurd ((((k.neg.smul a0).add (hr.neg.smul b0)).neg).congr fun x => by grind) zs.not_neg
theorem chgP_pass {s t : Int} (hs : s = 1 ∨ s = -1) (ht : t = 0 ∨ t = 1 ∨ t = -1) (l : List Int) : chgP s (t :: -s :: l) = 1 + chgP (-s) l := by
  rcases hs with rfl | rfl <;> rcases ht with rfl | rfl | rfl <;> simp [chgP]
theorem loc_const {c : Cut} : ∀ (l : List (List Rat)) (p : List Rat) (s : Int), HasS c (ev p) s → Ch (p :: l) → LastNZ c (p :: l) →
    ∃ n δ, 0 < δ ∧ ∀ x, c.near δ x → chgP s (sgs l x) = n
  | [], p, s, _, _, _ => ⟨0, 1, by decide, fun _ _ => rfl⟩
  | q :: l, p, s, hp, hc, hl => by
    rcases tri' c q with hq | ⟨t, hq⟩
    · cases l with
      | nil => exact absurd hq hl
      | cons r l =>
        have hr := hc.1.opp hq hp
        have hc2 : Ch (r :: l) := by
          cases l with
          | nil => trivial
          | cons r2 l => exact hc.2.2
        obtain ⟨n, δ, d0, k⟩ := loc_const l r (-s) hr hc2 hl
        obtain ⟨δ', d1, k'⟩ := hr.sg
        obtain ⟨m, m0, m1, m2⟩ := min_pos d0 d1
        refine ⟨1 + n, m, m0, fun x nx => ?_⟩
        show chgP s (sg (ev q x) :: sg (ev r x) :: sgs l x) = 1 + n
        rw [k' x (Cut.near_le nx m2), chgP_pass hp.pm (sg_or _), k x (Cut.near_le nx m1)]
    · have hc2 : Ch (q :: l) := by
        cases l with
        | nil => trivial
        | cons r l => exact hc.2
      obtain ⟨n, δ, d0, k⟩ := loc_const l q t hq hc2 hl
      obtain ⟨δ', d1, k'⟩ := hq.sg
      obtain ⟨m, m0, m1, m2⟩ := min_pos d0 d1
      refine ⟨(if t = s then 0 else 1) + n, m, m0, fun x nx => ?_⟩
      show chgP s (sg (ev q x) :: sgs l x) = _
      rw [k' x (Cut.near_le nx m2), chgP, k x (Cut.near_le nx m1), if_neg (by rcases hq.pm with rfl | rfl <;> decide)]
/-- all vanish behind two neighbours that do -/
theorem all_z {c : Cut} : ∀ (l : List (List Rat)) (p q : List Rat), Z c (ev p) → Z c (ev q) → Ch (p :: q :: l) → ¬ LastNZ c (p :: q :: l)
  | [], p, q, _, hq, _ => fun h => h hq
  | r :: l, p, q, hp, hq, hc => fun h => by
    obtain ⟨a, b, a0, b0, m, e⟩ := hc.1
    have hr : Z c (ev r) := by
      have h1 : Z c fun x => (1 / b) * (ev m x * ev q x + (-a) * ev p x) := ((hq.mulp m).add (hp.smul (-a))).smul (1 / b)
      exact h1.congr fun x => by
        have := e x
        have : 1 / b * b = 1 := by grind
        grind
    exact all_z l q r hq hr hc.2 h
/-- where a list vanishes and its derivative is positive -/
theorem cross_pos {c : Cut} {p : List Rat} (hz : Z c (ev p)) (hp : Pos c (ev (dq p))) :
    ∃ δ, 0 < δ ∧ ∀ x, c.near δ x → (c.lo x → ev p x < 0) ∧ (c.hi x → 0 < ev p x) ∧ (¬ c.lo x → ¬ c.hi x → ev p x = 0) := by
  obtain ⟨ε, δ1, e0, d1, k⟩ := hp
  obtain ⟨M, hM, hb⟩ := c.bdd
  obtain ⟨C, hC, hT⟩ := ev_tay M hM p
  obtain ⟨δ2, d2, a1, a2⟩ := min_pos d1 (show (0 : Rat) < 1 from by decide)
  obtain ⟨δ, d0, a3, a4⟩ := min_pos d2 (show (0 : Rat) < ε / (4 * (C + 1)) from by
    rw [Rat.div_def]
    exact Rat.mul_pos e0 (Rat.inv_pos.mpr (by grind)))
  have h2 : (C + 1) * (ε / (4 * (C + 1))) = ε / 4 := by grind
  have up : ∀ x y, c.near δ x → c.near δ y → x ≤ y → (y - x) * (ε / 2) ≤ ev p y - ev p x := fun x y nx ny hxy => by
    have nx1 := Cut.near_le nx a3
    have ny1 := Cut.near_le ny a3
    have dd : Bd (y - x) (y - x) := ⟨by grind, by grind⟩
    have t := (hT x y (y - x) (hb x (Cut.near_le nx1 a2)) (hb y (Cut.near_le ny1 a2)) dd).1
    have kx := k x (Cut.near_le nx1 a1)
    have w := (Cut.near_dist ny nx).2
    have w0 : 0 ≤ y - x := by grind
    generalize y - x = W at t w w0 ⊢
    generalize ev p y - ev p x = R at t ⊢
    generalize ev (dq p) x = D at t kx
    have c1 : C * W ≤ C * (δ + δ) := Rat.mul_le_mul_of_nonneg_left w hC
    have c2 : (C + 1) * δ ≤ (C + 1) * (ε / (4 * (C + 1))) := Rat.mul_le_mul_of_nonneg_left a4 (by grind)
    rw [h2] at c2
    have c3 : C * W ≤ ε / 2 := by grind
    have z1 : W * ε ≤ W * D := Rat.mul_le_mul_of_nonneg_left kx w0
    have z2 : W * (C * W) ≤ W * (ε / 2) := Rat.mul_le_mul_of_nonneg_left c3 w0
    have z3 : C * W * W = W * (C * W) := by grind
    rw [z3] at t
    generalize W * (C * W) = A at t z2
    grind
  refine ⟨δ, d0, fun x nx => ⟨fun lx => ?_, fun hx => ?_, fun n1 n2 => ?_⟩⟩
  · obtain ⟨y, xy, ly⟩ := c.lo_op lx
    have g0 : 0 < (y - x) * (ε / 2) := Rat.mul_pos (by grind) (by grind)
    obtain ⟨δ', d', kz⟩ := hz ((y - x) * (ε / 2) / 2) (by grind)
    obtain ⟨m, m0, m1, m2⟩ := min_pos d0 d'
    obtain ⟨u, v, lu, hv, nu, nv⟩ := c.near_ex m0
    have yv := c.dis ly hv
    have ny : c.near δ y := Cut.near_mid nx (Cut.near_le nv m1) (by grind) (by grind)
    have u1 := up x y nx ny (by grind)
    have u2 := up y v ny (Cut.near_le nv m1) (by grind)
    have u3 := (kz v (Cut.near_le nv m2)).2
    have : 0 ≤ (v - y) * (ε / 2) := Rat.mul_nonneg (by grind) (by grind)
    grind
  · obtain ⟨y, yx, hy⟩ := c.hi_op hx
    have g0 : 0 < (x - y) * (ε / 2) := Rat.mul_pos (by grind) (by grind)
    obtain ⟨δ', d', kz⟩ := hz ((x - y) * (ε / 2) / 2) (by grind)
    obtain ⟨m, m0, m1, m2⟩ := min_pos d0 d'
    obtain ⟨u, v, lu, hv, nu, nv⟩ := c.near_ex m0
    have uy := c.dis lu hy
    have ny : c.near δ y := Cut.near_mid (Cut.near_le nu m1) nx (by grind) (by grind)
    have u1 := up y x ny nx (by grind)
    have u2 := up u y (Cut.near_le nu m1) ny (by grind)
    have u3 := (kz u (Cut.near_le nu m2)).1
    have : 0 ≤ (y - u) * (ε / 2) := Rat.mul_nonneg (by grind) (by grind)
    grind
  · apply Classical.byContradiction
    intro ne
    by_cases s : 0 < ev p x
    · obtain ⟨δ', d', kz⟩ := hz (ev p x / 2) (by grind)
      have := (kz x (c.mid_eq n1 n2 d')).2
      grind
    · obtain ⟨δ', d', kz⟩ := hz (-ev p x / 2) (by grind)
      have := (kz x (c.mid_eq n1 n2 d')).1
      grind
/-- signs beside a cut at which a list vanishes and its derivative does not -/
theorem cross {c : Cut} {p : List Rat} (hz : Z c (ev p)) {s : Int} (hp : HasS c (ev (dq p)) s) :
    ∃ δ, 0 < δ ∧ ∀ x, c.near δ x → (c.lo x → sg (ev p x) = -s) ∧ (c.hi x → sg (ev p x) = s) ∧ (¬ c.lo x → ¬ c.hi x → sg (ev p x) = 0) := by
  rcases hp with ⟨rfl, h⟩ | ⟨rfl, h⟩
  · obtain ⟨δ, d0, k⟩ := cross_pos hz h
    exact ⟨δ, d0, fun x nx => ⟨fun q => sg_neg ((k x nx).1 q), fun q => sg_pos ((k x nx).2.1 q), fun q1 q2 => by rw [(k x nx).2.2 q1 q2]; rfl⟩⟩
  · have hz' : Z c (ev (smulq (-1) p)) := (hz.smul (-1)).congr fun x => (ev_smul _ _ _).symm
    have h' : Pos c (ev (dq (smulq (-1) p))) := h.neg.congr fun x => by rw [ev_dsmul]; grind
    obtain ⟨δ, d0, k⟩ := cross_pos hz' h'
    refine ⟨δ, d0, fun x nx => ?_⟩
    have kk := k x nx
    rw [ev_smul] at kk
    exact ⟨fun q => sg_pos (by have := kk.1 q; grind), fun q => sg_neg (by have := kk.2.1 q; grind), fun q1 q2 => by rw [show ev p x = 0 from by have := kk.2.2 q1 q2; grind]; rfl⟩
open Classical in
noncomputable def NN : List Cut → Rat → Nat
  | [], _ => 0
  | c :: l, x => (if c.lo x then 0 else 1) + NN l x
/-- c and d are the same cut -/
def Eqv (c d : Cut) : Prop := ∀ x, (c.lo x ↔ d.lo x) ∧ (c.hi x ↔ d.hi x)
def Lt (c d : Cut) : Prop := ∃ x, c.hi x ∧ d.lo x
theorem cut_tri (c d : Cut) : Lt c d ∨ Lt d c ∨ Eqv c d := by
  by_cases h1 : Lt c d
  · exact .inl h1
  · by_cases h2 : Lt d c
    · exact .inr (.inl h2)
    · refine .inr (.inr fun x => ⟨⟨fun h => ?_, fun h => ?_⟩, fun h => ?_, fun h => ?_⟩)
      · obtain ⟨y, xy, ly⟩ := c.lo_op h
        exact (d.loc xy).resolve_right fun q => h2 ⟨y, q, ly⟩
      · obtain ⟨y, xy, ly⟩ := d.lo_op h
        exact (c.loc xy).resolve_right fun q => h1 ⟨y, q, ly⟩
      · obtain ⟨y, xy, ly⟩ := c.hi_op h
        exact (d.loc xy).resolve_left fun q => h1 ⟨y, ly, q⟩
      · obtain ⟨y, xy, ly⟩ := d.hi_op h
        exact (c.loc xy).resolve_left fun q => h2 ⟨y, ly, q⟩
theorem Eqv.symm {c d : Cut} (h : Eqv c d) : Eqv d c := fun x => ⟨(h x).1.symm, (h x).2.symm⟩
theorem Eqv.trans {c d e : Cut} (h : Eqv c d) (k : Eqv d e) : Eqv c e := fun x => ⟨(h x).1.trans (k x).1, (h x).2.trans (k x).2⟩
theorem Eqv.z {c d : Cut} (h : Eqv c d) {F : Rat → Rat} (z : Z c F) : Z d F := fun ε e => by
  obtain ⟨δ, d0, k⟩ := z ε e
  exact ⟨δ, d0, fun x nx => k x ⟨(h _).1.mpr nx.1, (h _).2.mpr nx.2⟩⟩
open Classical in
theorem one_far {c d : Cut} (h : ¬ Eqv d c) : ∃ n δ, 0 < δ ∧ ∀ x, c.near δ x → (if d.lo x then 0 else 1) = (n : Nat) := by
  rcases cut_tri d c with ⟨x0, h1, h2⟩ | ⟨x0, h1, h2⟩ | q
  · obtain ⟨y, xy, ly⟩ := c.lo_op h2
    refine ⟨1, y - x0, by grind, fun x nx => if_neg fun q => ?_⟩
    have := c.dis ly nx.2
    have := d.dis q h1
    grind
  · obtain ⟨y, yx, hy⟩ := c.hi_op h1
    refine ⟨0, x0 - y, by grind, fun x nx => if_pos ?_⟩
    have := c.dis nx.1 hy
    exact d.lo_dn (by grind) h2
  · exact absurd q h
open Classical in
theorem NN_far {c : Cut} : ∀ (cs : List Cut), (∀ d ∈ cs, ¬ Eqv d c) → ∃ n δ, 0 < δ ∧ ∀ x, c.near δ x → NN cs x = n
  | [], _ => ⟨0, 1, by decide, fun _ _ => rfl⟩
  | d :: cs, h => by
    obtain ⟨n, δ, d0, k⟩ := NN_far cs fun e he => h e (List.mem_cons_of_mem _ he)
    obtain ⟨n', δ', d1, k'⟩ := one_far (h d List.mem_cons_self)
    obtain ⟨m, m0, m1, m2⟩ := min_pos d0 d1
    exact ⟨n' + n, m, m0, fun x nx => by rw [NN, k x (Cut.near_le nx m1), k' x (Cut.near_le nx m2)]⟩
open Classical in
theorem NN_at {c : Cut} : ∀ (cs : List Cut), cs.Pairwise (fun a b => ¬ Eqv a b) → (∃ d ∈ cs, Eqv d c) →
    ∃ n δ, 0 < δ ∧ ∀ x, c.near δ x → NN cs x = n + (if c.lo x then 0 else 1)
  | [], _, h => by obtain ⟨_, h, _⟩ := h; cases h
  | d :: cs, hp, h => by
    rw [List.pairwise_cons] at hp
    by_cases e : Eqv d c
    · obtain ⟨n, δ, d0, k⟩ := NN_far (c := c) cs fun f hf q => hp.1 f hf (e.trans q.symm)
      refine ⟨n, δ, d0, fun x nx => ?_⟩
      have : (if d.lo x then 0 else 1) = (if c.lo x then 0 else 1 : Nat) := by
        by_cases q : d.lo x
        · rw [if_pos q, if_pos ((e x).1.mp q)]
        · rw [if_neg q, if_neg fun w => q ((e x).1.mpr w)]
      rw [NN, k x nx, this, Nat.add_comm]
    · have h' : ∃ f ∈ cs, Eqv f c := by
        obtain ⟨f, hf, q⟩ := h
        cases hf with
        | head => exact absurd q e
        | tail _ hf => exact ⟨f, hf, q⟩
      obtain ⟨n, δ, d0, k⟩ := NN_at cs hp.2 h'
      obtain ⟨n', δ', d1, k'⟩ := one_far e
      obtain ⟨m, m0, m1, m2⟩ := min_pos d0 d1
      exact ⟨n' + n, m, m0, fun x nx => by rw [NN, k x (Cut.near_le nx m1), k' x (Cut.near_le nx m2), Nat.add_assoc]⟩
/-- cs are the cuts at which p vanishes, each once -/
structure Cuts (p : List Rat) (cs : List Cut) : Prop where
  z : ∀ d ∈ cs, Z d (ev p)
  all : ∀ c, Z c (ev p) → ∃ d ∈ cs, Eqv d c
  one : cs.Pairwise fun a b => ¬ Eqv a b
/-- what a chain has -/
structure Sturm (p : List Rat) (l : List (List Rat)) : Prop where
  ch : Ch (p :: l)
  last : ∀ c, LastNZ c (p :: l)
  der : ∀ q, l.head? = some q → ∃ k : Rat, 0 < k ∧ ∀ x, ev q x = k * ev (dq p) x
open Classical in
theorem sturm {p : List Rat} {l : List (List Rat)} (S : Sturm p l) {cs : List Cut} (C : Cuts p cs) {a b : Rat} (hab : a ≤ b) :
    VV (p :: l) a + NN cs a = VV (p :: l) b + NN cs b := by
  refine const_of (V := fun x => VV (p :: l) x + NN cs x) (fun c => ?_) hab
  rcases tri' c p with hz | ⟨s, hs⟩
  · cases l with
    | nil => exact absurd hz (S.last c)
    | cons q l =>
      obtain ⟨k, k0, hk⟩ := S.der q rfl
      rcases tri' c q with hq | ⟨t, hq⟩
      · exact absurd (S.last c) (all_z l p q hz hq S.ch)
      · have hd : HasS c (ev (dq p)) t := by
          have e : ∀ x, (1 / k) * ev q x = ev (dq p) x := fun x => by
            rw [hk x]
            have : 1 / k * k = 1 := by grind
            grind
          have i0 : 0 < 1 / k := by rw [Rat.div_def]; exact Rat.mul_pos (by decide) (Rat.inv_pos.mpr k0)
          rcases hq with ⟨rfl, h⟩ | ⟨rfl, h⟩
          · exact .inl ⟨rfl, (h.smul i0).congr e⟩
          · exact .inr ⟨rfl, ((h.neg.smul i0).neg).congr fun x => by have := e x; grind⟩
        obtain ⟨δ1, d1, k1⟩ := cross hz hd
        have hc2 : Ch (q :: l) := by
          have := S.ch
          cases l with
          | nil => trivial
          | cons r l => exact this.2
        obtain ⟨n, δ2, d2, k2⟩ := loc_const l q t hq hc2 (S.last c)
        obtain ⟨δ3, d3, k3⟩ := hq.sg
        obtain ⟨n', δ4, d4, k4⟩ := NN_at cs C.one (C.all c hz)
        obtain ⟨m1, p1, q1, q2⟩ := min_pos d1 d2
        obtain ⟨m2, p2, q3, q4⟩ := min_pos d3 d4
        obtain ⟨m, m0, r1, r2⟩ := min_pos p1 p2
        have key : ∀ x, c.near m x → VV (p :: q :: l) x + NN cs x = n + n' + 1 := fun x nx => by
          have nx1 := Cut.near_le nx r1
          have nx2 := Cut.near_le nx r2
          have e1 := k1 x (Cut.near_le nx1 q1)
          have e2 := k2 x (Cut.near_le nx1 q2)
          have e3 := k3 x (Cut.near_le nx2 q3)
          have e4 := k4 x (Cut.near_le nx2 q4)
          rw [e4]
          have ev1 : VV (p :: q :: l) x = chg (sg (ev p x) :: t :: sgs l x) := by rw [← e3]; rfl
          rw [ev1]
          have tn : t ≠ 0 := by rcases hq.pm with rfl | rfl <;> decide
          by_cases c1 : c.lo x
          · rw [if_pos c1, e1.1 c1, chg, if_neg (by omega), chgP, if_neg tn, if_neg (by omega), e2]
            omega
          · rw [if_neg c1]
            by_cases c2 : c.hi x
            · rw [e1.2.1 c2, chg, if_neg tn, chgP, if_neg tn, if_pos rfl, e2]
              omega
            · rw [e1.2.2 c1 c2, chg, if_pos rfl, chg, if_neg tn, e2]
              omega
        exact ⟨m, m0, fun x y nx ny => (key x nx).trans (key y ny).symm⟩
  · obtain ⟨n, δ1, d1, k1⟩ := loc_const l p s hs S.ch (S.last c)
    obtain ⟨δ2, d2, k2⟩ := hs.sg
    obtain ⟨n', δ3, d3, k3⟩ := NN_far (c := c) cs fun d hd q => hs.nz (q.z (C.z d hd))
    obtain ⟨m1, p1, q1, q2⟩ := min_pos d1 d2
    obtain ⟨m, m0, r1, r2⟩ := min_pos p1 d3
    have key : ∀ x, c.near m x → VV (p :: l) x + NN cs x = n + n' := fun x nx => by
      have nx1 := Cut.near_le nx r1
      have e1 := k1 x (Cut.near_le nx1 q1)
      have e2 := k2 x (Cut.near_le nx1 q2)
      rw [k3 x (Cut.near_le nx r2)]
      have sn : s ≠ 0 := by rcases hs.pm with rfl | rfl <;> decide
      show chg (sg (ev p x) :: sgs l x) + n' = n + n'
      rw [e2, chg, if_neg sn, e1]
    exact ⟨m, m0, fun x y nx ny => (key x nx).trans (key y ny).symm⟩
end ST
namespace ST
def pwq (d : List Rat) : Nat → List Rat
  | 0 => [1]
  | n + 1 => mulq d (pwq d n)
theorem ev_one (x : Rat) : ev [1] x = 1 := by show (1 : Rat) + x * 0 = 1; grind
/-- F is the function of a list of n + 1 numbers, the last one not 0 -/
def Dg (F : Rat → Rat) (n : Nat) : Prop := ∃ q v, v ≠ 0 ∧ q.length = n ∧ ∀ x, F x = ev (q ++ [v]) x
theorem Dg.far {F : Rat → Rat} {n : Nat} (h : Dg F n) : ∃ M, ∀ x, M ≤ x → F x ≠ 0 := by
  obtain ⟨q, v, hv, _, e⟩ := h
  obtain ⟨M, _, k⟩ := far_ne q hv
  exact ⟨M, fun x hx => by rw [e]; exact k x hx⟩
theorem dg_or (p : List Rat) : Nul p ∨ ∃ n, Dg (ev p) n := by
  rcases last_or p with h | ⟨q, v, z, hv, hz, rfl⟩
  · exact .inl h
  · exact .inr ⟨_, q, v, hv, rfl, fun x => by rw [show q ++ v :: z = (q ++ [v]) ++ z from by simp, ev_app_nul hz]⟩
theorem ev_app (q : List Rat) (r : List Rat) (x : Rat) : ev (q ++ r) x = ev q x + x ^ q.length * ev r x := by
  induction q with
  | nil => rw [List.nil_append, ev_nil, List.length_nil]; grind
  | cons a q ih => rw [List.cons_append, ev_cons, ev_cons, ih, List.length_cons]; grind
theorem addq_last : ∀ (p q : List Rat) (v : Rat), p.length ≤ q.length → ∃ r, addq p (q ++ [v]) = r ++ [v] ∧ r.length = q.length
  | [], q, v, _ => ⟨q, by rw [addq], rfl⟩
  | a :: p, [], v, h => by simp at h
  | a :: p, b :: q, v, h => by
    obtain ⟨r, e, l⟩ := addq_last p q v (by simp at h; omega)
    exact ⟨(a + b) :: r, by rw [List.cons_append, addq, e]; rfl, by rw [List.length_cons, l, List.length_cons]⟩
theorem mulq_last : ∀ (p q : List Rat) (u v : Rat), ∃ r, mulq (p ++ [u]) (q ++ [v]) = r ++ [u * v] ∧ r.length = p.length + q.length
  | [], q, u, v => by
    cases q with
    | nil => exact ⟨[], by show [u * v + 0] = _; rw [show u * v + 0 = u * v from by grind]; rfl, rfl⟩
    | cons b q =>
      refine ⟨(u * b + 0) :: smulq u q, ?_, ?_⟩
      · show addq (smulq u (b :: q ++ [v])) [0] = _
        rw [smul_app]
        show (u * b + 0) :: addq (smulq u q ++ [u * v]) [] = _
        cases hq : smulq u q ++ [u * v] with
        | nil => simp at hq
        | cons c r => rw [addq, ← hq]; rfl
      · show (smulq u q).length + 1 = _
        unfold smulq; rw [List.length_map]; simp
  | a :: p, q, u, v => by
    obtain ⟨r, e, l⟩ := mulq_last p q u v
    show ∃ r, addq (smulq a (q ++ [v])) (0 :: mulq (p ++ [u]) (q ++ [v])) = _ ∧ _
    rw [e]
    obtain ⟨r', e', l'⟩ := addq_last (smulq a (q ++ [v])) (0 :: r) (u * v) (by unfold smulq; rw [List.length_map]; simp; omega)
    exact ⟨r', e', by rw [l']; simp; omega⟩
theorem Dg.mul {F G : Rat → Rat} {n m : Nat} (h : Dg F n) (k : Dg G m) : Dg (fun x => F x * G x) (n + m) := by
  obtain ⟨p, u, hu, rfl, ep⟩ := h
  obtain ⟨q, v, hv, rfl, eq⟩ := k
  obtain ⟨r, e, l⟩ := mulq_last p q u v
  exact ⟨r, u * v, by intro z; rcases Rat.mul_eq_zero.mp z with z | z <;> contradiction, l, fun x => by show F x * G x = _; rw [← e, ev_mul, ep, eq]⟩
theorem Dg.lt_false {F : Rat → Rat} {n m : Nat} (h : Dg F n) (k : Dg F m) (l : n < m) : False := by
  obtain ⟨p, u, hu, rfl, ep⟩ := h
  obtain ⟨q, v, hv, rfl, eq⟩ := k
  obtain ⟨r, e, _⟩ := addq_last (smulq (-1) (p ++ [u])) q v (by unfold smulq; rw [List.length_map]; simp; omega)
  have n : Nul (addq (smulq (-1) (p ++ [u])) (q ++ [v])) := nul_of ⟨0, fun x _ => by rw [ev_add, ev_smul, ← ep, ← eq]; grind⟩
  exact hv (n v (by rw [e]; simp))
theorem Dg.uniq {F : Rat → Rat} {n m : Nat} (h : Dg F n) (k : Dg F m) : n = m := by
  rcases Nat.lt_trichotomy n m with l | l | l
  · exact (h.lt_false k l).elim
  · exact l
  · exact (k.lt_false h l).elim
theorem Dg.congr {F G : Rat → Rat} {n : Nat} (h : Dg F n) (e : ∀ x, F x = G x) : Dg G n := by
  have : F = G := funext e
  exact this ▸ h
theorem cancel {a b c : List Rat} {n : Nat} (ha : Dg (ev a) n) (h : ∀ x, ev a x * ev b x = ev a x * ev c x) (x : Rat) : ev b x = ev c x := by
  obtain ⟨M, hM⟩ := ha.far
  have nl : Nul (addq b (smulq (-1) c)) := nul_of ⟨M, fun y hy => by
    have := hM y hy
    have := h y
    rw [ev_add, ev_smul]
    grind⟩
  have := nul_ev nl x
  rw [ev_add, ev_smul] at this
  grind
def Dv (d h : List Rat) : Prop := ∃ q, ∀ x, ev h x = ev d x * ev q x
theorem pw_d (d : List Rat) (x : Rat) : ∀ n : Nat, ev d x * ev (dq (pwq d n)) x = n * (ev (pwq d n) x * ev (dq d) x)
  | 0 => by
    show ev d x * ev (addq [] [0]) x = _
    rw [addq]
    show ev d x * (0 + x * 0) = _
    grind
  | n + 1 => by
    rw [pwq, ev_dmul, ev_mul]
    have ih := pw_d d x n
    rw [show ((n + 1 : Nat) : Rat) = (n : Rat) + 1 from by grind]
    calc ev d x * (ev (dq d) x * ev (pwq d n) x + ev d x * ev (dq (pwq d n)) x)
        = ev d x * (ev (dq d) x * ev (pwq d n) x) + ev d x * (ev d x * ev (dq (pwq d n)) x) := by grind
      _ = _ := by rw [ih]; grind
theorem Dg.pw {d : List Rat} {m : Nat} (h : Dg (ev d) m) : ∀ n : Nat, Dg (ev (pwq d n)) (n * m)
  | 0 => ⟨[], 1, by decide, by simp, fun x => rfl⟩
  | n + 1 => by
    have := h.mul (h.pw n)
    rw [show (n + 1) * m = m + n * m from by rw [Nat.succ_mul, Nat.add_comm]]
    exact this.congr fun x => (ev_mul _ _ _).symm
/-- g = h f, g' = h k, u f + v k = 1, d in f and in f': d is a number -/
theorem free_const {g h f k u v d : List Rat} {nh : Nat} (hh : Dg (ev h) nh) (eg : ∀ x, ev g x = ev h x * ev f x) (ek : ∀ x, ev (dq g) x = ev h x * ev k x)
    (bz : ∀ x, ev u x * ev f x + ev v x * ev k x = 1) (df : Dv d f) (df' : Dv d (dq f)) {m : Nat} (hd : Dg (ev d) m) : m = 0 := by
  obtain ⟨f1, ef⟩ := df
  obtain ⟨f2, ef'⟩ := df'
  have edf : ∀ x, ev (dq f) x = ev (dq d) x * ev f1 x + ev d x * ev (dq f1) x := fun x => by
    rw [← ev_dmul]
    exact d_congr (fun y => by rw [ev_mul]; exact ef y) x
  have all : ∀ n : Nat, Dv (pwq d n) h := fun n => by
    induction n with
    | zero => exact ⟨h, fun x => by show _ = ev [1] x * _; rw [ev_one]; grind⟩
    | succ n ih =>
      obtain ⟨q, eq⟩ := ih
      have ehd : ∀ x, ev (dq h) x = ev (dq (pwq d n)) x * ev q x + ev (pwq d n) x * ev (dq q) x := fun x => by
        rw [← ev_dmul]
        exact d_congr (fun y => by rw [ev_mul]; exact eq y) x
      have egd : ∀ x, ev (dq g) x = ev (dq h) x * ev f x + ev h x * ev (dq f) x := fun x => by
        rw [← ev_dmul]
        exact d_congr (fun y => by rw [ev_mul]; exact eg y) x
      let R := addq (mulq q f2) (addq (mulq (dq q) f1) (smulq n (mulq q (addq f2 (smulq (-1) (dq f1))))))
      have key : ∀ x, ev (mulq q k) x = ev (mulq d R) x := cancel (hd.pw n) fun x => by
        show ev (pwq d n) x * ev (mulq q k) x = ev (pwq d n) x * ev (mulq d (addq (mulq q f2) (addq (mulq (dq q) f1) (smulq n (mulq q (addq f2 (smulq (-1) (dq f1)))))))) x
        simp only [ev_mul, ev_add, ev_smul]
        have h1 := pw_d d x n
        have h2 := ek x
        rw [egd x, ehd x, eq x, ef x, ef' x] at h2
        have h3 := edf x
        rw [ef' x] at h3
        generalize ev (pwq d n) x = P at *
        generalize ev (dq (pwq d n)) x = P' at *
        generalize ev d x = D at *
        generalize ev (dq d) x = D' at *
        generalize ev q x = q0 at *
        generalize ev (dq q) x = q1 at *
        generalize ev f1 x = a at *
        generalize ev f2 x = b at *
        generalize ev (dq f1) x = a' at *
        generalize ev k x = kk at *
        generalize (n : Rat) = N at *
        have h4 : D' * a = D * b - D * a' := by grind
        have h5 : P' * q0 * (D * a) = N * P * q0 * (D * b - D * a') := by
          calc P' * q0 * (D * a) = (D * P') * (q0 * a) := by grind
            _ = N * (P * D') * (q0 * a) := by rw [h1]
            _ = N * P * q0 * (D' * a) := by grind
            _ = _ := by rw [h4]
        grind
      have dm : Dv d q := ⟨addq (mulq u (mulq f1 q)) (mulq v R), fun x => by
        rw [ev_add, ev_mul, ev_mul, ev_mul]
        have h1 := bz x
        have h2 := key x
        rw [ev_mul, ev_mul] at h2
        rw [ef x] at h1
        calc ev q x = ev q x * (ev u x * (ev d x * ev f1 x) + ev v x * ev k x) := by rw [h1]; grind
          _ = ev u x * (ev d x * ev f1 x) * ev q x + ev v x * (ev q x * ev k x) := by grind
          _ = _ := by rw [h2]; grind⟩
      obtain ⟨q', eq'⟩ := dm
      exact ⟨q', fun x => by rw [pwq, ev_mul, eq x, eq' x]; grind⟩
  apply Classical.byContradiction
  intro hm
  obtain ⟨q, eq⟩ := all (nh + 1)
  rcases dg_or q with z | ⟨t, ht⟩
  · obtain ⟨M, hM⟩ := hh.far
    exact hM M (by grind) (by rw [eq, nul_ev z]; grind)
  · have := hh.uniq (((hd.pw (nh + 1)).mul ht).congr fun x => (eq x).symm)
    have : nh + 1 ≤ (nh + 1) * m := Nat.le_mul_of_pos_right _ (by omega)
    omega
end ST
namespace ST
open RO PO
def iq (l : List Int) : List Rat := l.map fun z : Int => (z : Rat)
def ei (l : List Int) (x : Rat) : Rat := ev (iq l) x
theorem ei_nil (x : Rat) : ei [] x = 0 := rfl
theorem ei_cons (a : Int) (l : List Int) (x : Rat) : ei (a :: l) x = (a : Rat) + x * ei l x := rfl
theorem ei_rv : ∀ (l : List Int) (x : Rat), ei l x = rv x l
  | [], _ => rfl
  | a :: l, x => by rw [ei_cons, ei_rv l x]; rfl
theorem ei_app : ∀ (a b : List Int) (x : Rat), ei (a ++ b) x = ei a x + x ^ a.length * ei b x
  | [], b, x => by rw [List.nil_append, ei_nil, List.length_nil]; grind
  | c :: a, b, x => by rw [List.cons_append, ei_cons, ei_cons, ei_app a b x, List.length_cons]; grind
theorem ei_zero : ∀ (n : Nat) (x : Rat), ei (List.replicate n 0) x = 0
  | 0, x => rfl
  | n + 1, x => by rw [List.replicate_succ, ei_cons, ei_zero n x]; grind
theorem ei_trim : ∀ (l : List Int) (x : Rat), ei (trimI l) x = ei l x := fun l x => by
  rcases List.eq_nil_or_concat l with h | ⟨a, z, h⟩
  · subst h; rfl
  · rw [List.concat_eq_append] at h
    by_cases e : z = 0
    · subst h; subst e
      rw [trim_zero, ei_trim a x, ei_app, ei_cons, ei_nil]
      grind
    · rw [h, trim_last _ e]
termination_by l => l.length
decreasing_by simp_all
theorem ei_map (f : Int) : ∀ (l : List Int) (x : Rat), ei (l.map fun v => f * v) x = (f : Rat) * ei l x
  | [], x => by show (0 : Rat) = _ * 0; grind
  | a :: l, x => by
    show ((f * a : Int) : Rat) + x * ei (l.map fun v => f * v) x = _
    rw [ei_map f l x, ei_cons, Rat.intCast_mul]; grind
def addAt (xs : List Int) (s : Nat) : List Int → List Int
  | [] => xs
  | y :: ys => addAt (xs.set s (xs.getD s 0 + y)) (s + 1) ys
theorem addAt_len : ∀ (ys xs : List Int) (s : Nat), (addAt xs s ys).length = xs.length
  | [], _, _ => rfl
  | y :: ys, xs, s => by rw [addAt, addAt_len ys, List.length_set]
theorem ei_set : ∀ (xs : List Int) (s : Nat) (y : Int) (x : Rat), s < xs.length → ei (xs.set s (xs.getD s 0 + y)) x = ei xs x + x ^ s * (y : Rat)
  | [], s, y, x, h => by simp at h
  | a :: xs, 0, y, x, _ => by
    show ei ((a + y) :: xs) x = _
    rw [ei_cons, ei_cons, Rat.intCast_add]; grind
  | a :: xs, s + 1, y, x, h => by
    show ei (a :: xs.set s (xs.getD s 0 + y)) x = _
    rw [ei_cons, ei_cons, ei_set xs s y x (by simpa using h)]; grind
theorem ei_addAt : ∀ (ys xs : List Int) (s : Nat) (x : Rat), s + ys.length ≤ xs.length → ei (addAt xs s ys) x = ei xs x + x ^ s * ei ys x
  | [], xs, s, x, _ => by rw [addAt, ei_nil]; grind
  | y :: ys, xs, s, x, h => by
    rw [List.length_cons] at h
    rw [addAt, ei_addAt ys _ (s + 1) x (by rw [List.length_set]; omega), ei_set xs s y x (by omega), ei_cons]; grind
theorem addAt_get : ∀ (ys xs : List Int) (s j : Nat), s + ys.length ≤ xs.length → (addAt xs s ys).getD j 0 = xs.getD j 0 + (if s ≤ j then ys.getD (j - s) 0 else 0)
  | [], xs, s, j, _ => by rw [addAt]; simp
  | y :: ys, xs, s, j, h => by
    rw [List.length_cons] at h
    rw [addAt, addAt_get ys _ (s + 1) j (by rw [List.length_set]; omega)]
    rcases Nat.lt_trichotomy s j with l | l | l
    · rw [if_pos (by omega), if_pos (by omega)]
      rw [show j - s = (j - (s + 1)) + 1 from by omega]
      have : (xs.set s (xs.getD s 0 + y)).getD j 0 = xs.getD j 0 := by
        simp only [List.getD_eq_getElem?_getD]
        rw [List.getElem?_set_ne (by omega)]
      rw [this]
      simp
    · subst l
      rw [if_neg (by omega), if_pos (by omega), Nat.sub_self]
      have : (xs.set s (xs.getD s 0 + y)).getD s 0 = xs.getD s 0 + y := by
        simp only [List.getD_eq_getElem?_getD]
        rw [List.getElem?_set_self (by omega)]
        rfl
      rw [this]
      simp
    · rw [if_neg (by omega), if_neg (by omega)]
      have : (xs.set s (xs.getD s 0 + y)).getD j 0 = xs.getD j 0 := by
        simp only [List.getD_eq_getElem?_getD]
        rw [List.getElem?_set_ne (by omega)]
      rw [this]
def pad (one other : List Int) (s : Nat) : List Int := List.replicate (other.length + s - one.length) 0
def combU (one : List Int) (f : Int) (other : List Int) (t : Int) (s : Nat) : List Int :=
  addAt ((one.map fun v => f * v) ++ pad one other s) s (other.map fun v => t * v)
def combI (one : List Int) (f : Int) (other : List Int) (t : Int) (s : Nat) : List Int := trimI (combU one f other t s)
theorem combU_len (one : List Int) (f : Int) (other : List Int) (t : Int) (s : Nat) : (combU one f other t s).length = max one.length (other.length + s) := by
  unfold combU pad
  rw [addAt_len]
  simp
  omega
theorem ei_comb (one : List Int) (f : Int) (other : List Int) (t : Int) (s : Nat) (x : Rat) : ei (combI one f other t s) x = (f : Rat) * ei one x + (t : Rat) * (x ^ s * ei other x) := by
  unfold combI combU
  rw [ei_trim, ei_addAt _ _ _ _ (by unfold pad; simp; omega), ei_app, ei_map, ei_map, pad, ei_zero]
  grind
/-- no zero at the end -/
def Tr (l : List Int) : Prop := ∀ a z, l = a ++ [z] → z ≠ 0
theorem tr_nil : Tr [] := fun a z h => by simp at h
theorem trim_tr (l : List Int) : Tr (trimI l) := by
  intro a z h
  unfold trimI at h
  generalize l.reverse = r at h
  induction r with
  | nil => simp at h
  | cons x r ih =>
    rw [List.dropWhile_cons] at h
    by_cases e : x = 0
    · rw [if_pos (decide_eq_true e)] at h
      exact ih h
    · rw [if_neg (by simp [e]), List.reverse_cons] at h
      have := List.append_inj_right' h rfl
      simp at this
      rw [← this]; exact e
def lst (l : List Int) : Int := l.getLastD 0
theorem lst_app (a : List Int) (z : Int) : lst (a ++ [z]) = z := by unfold lst; simp
theorem tr_form {l : List Int} (h : Tr l) (n : l ≠ []) : ∃ a, l = a ++ [lst l] ∧ lst l ≠ 0 := by
  rcases List.eq_nil_or_concat l with e | ⟨a, z, e⟩
  · exact absurd e n
  · rw [List.concat_eq_append] at e
    subst e
    rw [lst_app]
    exact ⟨a, rfl, h a z rfl⟩
theorem iq_app (a b : List Int) : iq (a ++ b) = iq a ++ iq b := by unfold iq; rw [List.map_append]
theorem cast0 {z : Int} (h : z ≠ 0) : (z : Rat) ≠ 0 := cast_ne h
theorem tr_dg {l : List Int} (h : Tr l) (n : l ≠ []) : Dg (ei l) (l.length - 1) := by
  obtain ⟨a, e, z⟩ := tr_form h n
  refine ⟨iq a, (lst l : Rat), cast0 z, ?_, fun x => ?_⟩
  · unfold iq
    rw [List.length_map]
    have := congrArg List.length e
    rw [List.length_append, List.length_singleton] at this
    omega
  · show ev (iq l) x = _
    rw [e, iq_app, lst_app]
    rfl
/-- equal functions, equal lists -/
theorem ei_inj {a b : List Int} (ha : Tr a) (hb : Tr b) (h : ∀ x, ei a x = ei b x) : a = b := by
  have nul0 : ∀ {l : List Int}, Tr l → (∀ x, ei l x = 0) → l = [] := fun {l} hl hz => by
    apply Classical.byContradiction
    intro n
    obtain ⟨M, hM⟩ := (tr_dg hl n).far
    exact hM M (by grind) (hz M)
  by_cases na : a = []
  · subst na
    exact (nul0 hb fun x => (h x).symm).symm
  · by_cases nb : b = []
    · subst nb
      exact nul0 ha h
    · have hl : a.length = b.length := by
        have := (tr_dg ha na).uniq ((tr_dg hb nb).congr fun x => (h x).symm)
        have := List.length_pos_iff.mpr na
        have := List.length_pos_iff.mpr nb
        omega
      have hn : Nul (addq (iq a) (smulq (-1) (iq b))) := nul_of ⟨0, fun x _ => by
        rw [ev_add, ev_smul]
        have := h x
        unfold ei at this
        grind⟩
      have go : ∀ (a b : List Int), a.length = b.length → Nul (addq (iq a) (smulq (-1) (iq b))) → a = b := fun a => by
        induction a with
        | nil => intro b hl _; cases b with
          | nil => rfl
          | cons _ _ => simp at hl
        | cons x a ih => intro b hl hn; cases b with
          | nil => simp at hl
          | cons y b =>
            have hn : Nul (((x : Rat) + (-1) * (y : Rat)) :: addq (iq a) (smulq (-1) (iq b))) := hn
            have h1 := hn _ List.mem_cons_self
            have h2 := ih b (by simpa using hl) fun c hc => hn c (List.mem_cons_of_mem _ hc)
            have : (x : Rat) = (y : Rat) := by grind
            rw [h2, Rat.intCast_inj.mp this]
      exact go a b hl hn
end ST
namespace ST
open RO PO L2 DL
def Sz (b : Nat) (l : List Int) : Prop := ∀ v ∈ l, v.natAbs < 2 ^ b
theorem Sz.mono {b c : Nat} {l : List Int} (h : Sz b l) (k : b ≤ c) : Sz c l := fun v hv => Nat.lt_of_lt_of_le (h v hv) (Nat.pow_le_pow_right (by decide) k)
theorem Sz.nil (b : Nat) : Sz b [] := fun _ h => by cases h
theorem Sz.trim {b : Nat} {l : List Int} (h : Sz b l) : Sz b (trimI l) := fun v hv => h v (trim_mem hv)
theorem Sz.getD {b : Nat} {l : List Int} (h : Sz b l) (j : Nat) : (l.getD j 0).natAbs < 2 ^ b := by
  rw [List.getD_eq_getElem?_getD]
  cases e : l[j]? with
  | none => exact Nat.two_pow_pos b
  | some v => exact h v (List.mem_of_getElem? e)
theorem Sz.of_getD {b : Nat} {l : List Int} (h : ∀ j, (l.getD j 0).natAbs < 2 ^ b) : Sz b l := fun v hv => by
  obtain ⟨j, hj, rfl⟩ := List.getElem_of_mem hv
  have := h j
  rwa [List.getD_eq_getElem?_getD, List.getElem?_eq_getElem hj] at this
theorem Sz.lst {b : Nat} {l : List Int} (h : Sz b l) : (lst l).natAbs < 2 ^ b := by
  rcases List.eq_nil_or_concat l with e | ⟨a, z, e⟩
  · subst e; exact Nat.two_pow_pos b
  · rw [List.concat_eq_append] at e
    subst e
    rw [lst_app]
    exact h z (by simp)
theorem pad_getD {one : List Int} {f : Int} {other : List Int} {s : Nat} (j : Nat) : ((one.map fun v => f * v) ++ pad one other s).getD j 0 = f * one.getD j 0 := by
  simp only [List.getD_eq_getElem?_getD, List.getElem?_append, List.length_map, List.getElem?_map]
  split
  · rename_i h
    rw [List.getElem?_eq_getElem h]; rfl
  · rename_i h
    rw [List.getElem?_eq_none (show one.length ≤ j by omega)]
    unfold pad
    rw [List.getElem?_replicate]
    split <;> simp
theorem combU_getD (one : List Int) (f : Int) (other : List Int) (t : Int) (s j : Nat) : (combU one f other t s).getD j 0 = f * one.getD j 0 + (if s ≤ j then t * other.getD (j - s) 0 else 0) := by
  unfold combU
  rw [addAt_get _ _ _ _ (by unfold pad; simp; omega), pad_getD]
  congr 1
  split
  · simp only [List.getD_eq_getElem?_getD, List.getElem?_map]
    cases other[j - s]? <;> simp
  · rfl
theorem mul_bits {x y : Int} {a b : Nat} (hx : x.natAbs < 2 ^ a) (hy : y.natAbs < 2 ^ b) : (x * y).natAbs < 2 ^ (a + b) := by
  rw [Int.natAbs_mul, Nat.pow_add]
  exact Nat.mul_lt_mul'' hx hy
theorem add_bits {x y : Int} {a : Nat} (hx : x.natAbs < 2 ^ a) (hy : y.natAbs < 2 ^ a) : (x + y).natAbs < 2 ^ (a + 1) := by
  have := Int.natAbs_add_le x y
  rw [Nat.pow_succ]; omega
theorem bits_le {x : Int} {a b : Nat} (hx : x.natAbs < 2 ^ a) (h : a ≤ b) : x.natAbs < 2 ^ b := Nat.lt_of_lt_of_le hx (Nat.pow_le_pow_right (by decide) h)
theorem comb_sz {one other : List Int} {f t : Int} {s a b c d : Nat} (h1 : Sz a one) (h2 : Sz b other) (h3 : f.natAbs < 2 ^ c) (h4 : t.natAbs < 2 ^ d) {n : Nat} (n1 : c + a ≤ n) (n2 : d + b ≤ n) : Sz (n + 1) (combI one f other t s) := by
  refine Sz.trim (Sz.of_getD fun j => ?_)
  rw [combU_getD]
  refine add_bits (bits_le (mul_bits h3 (h1.getD j)) n1) ?_
  split
  · exact bits_le (mul_bits h4 (h2.getD _)) n2
  · exact Nat.two_pow_pos n
theorem lst_mem {l : List Int} (n : l ≠ []) : lst l ∈ l := by
  rcases List.eq_nil_or_concat l with e | ⟨a, z, e⟩
  · exact absurd e n
  · rw [List.concat_eq_append] at e
    subst e
    rw [lst_app]; simp
theorem gcds_some {l : List Int} (h : Tr l) (n : l ≠ []) : ∃ v ∈ l, v ≠ 0 := by
  obtain ⟨a, e, z⟩ := tr_form h n
  exact ⟨lst l, lst_mem n, z⟩
theorem cont_pos {l : List Int} (h : Tr l) (n : l ≠ []) : 0 < gcds 0 l := by
  have h0 := gcds_nonneg l 0 (Int.le_refl 0)
  have := gcds_ne (gcds_some h n)
  omega
theorem fdiv_mul {g v : Int} (h0 : g ≠ 0) (h : g ∣ v) : g * v.fdiv g = v := by
  obtain ⟨x, rfl⟩ := h
  rw [Int.mul_fdiv_cancel_left _ h0]
theorem ei_fdiv {g : Int} (h0 : g ≠ 0) : ∀ {l : List Int}, (∀ v ∈ l, g ∣ v) → ∀ x, ei l x = (g : Rat) * ei (l.map fun v => v.fdiv g) x
  | [], _, x => by rw [ei_nil]; show (0 : Rat) = _ * 0; grind
  | a :: l, h, x => by
    have e := fdiv_mul h0 (h a List.mem_cons_self)
    have ih := ei_fdiv h0 (fun v hv => h v (List.mem_cons_of_mem _ hv)) x
    rw [List.map_cons, ei_cons, ei_cons, ih, ← e, Rat.intCast_mul, Int.mul_fdiv_cancel_left _ h0]
    grind
theorem tr_fdiv {g : Int} (h0 : g ≠ 0) {l : List Int} (h : Tr l) (hd : ∀ v ∈ l, g ∣ v) : Tr (l.map fun v => v.fdiv g) := by
  intro a z e
  rcases List.eq_nil_or_concat l with el | ⟨b, w, el⟩
  · subst el; simp at e
  · rw [List.concat_eq_append] at el
    subst el
    rw [List.map_append] at e
    have := List.append_inj_right' e rfl
    simp at this
    rw [← this]
    intro q
    have := fdiv_mul h0 (hd w (by simp))
    rw [q, Int.mul_zero] at this
    exact h b w rfl this.symm
theorem sz_fdiv {g : Int} {b : Nat} {l : List Int} (h : Sz b l) (hd : ∀ v ∈ l, g ∣ v) (h0 : g ≠ 0) : Sz b (l.map fun v => v.fdiv g) := by
  intro w hw
  obtain ⟨v, hv, rfl⟩ := List.mem_map.mp hw
  have e := fdiv_mul h0 (hd v hv)
  have e2 := congrArg Int.natAbs e
  rw [Int.natAbs_mul] at e2
  have : (v.fdiv g).natAbs ≤ v.natAbs := by
    rw [← e2]
    exact Nat.le_mul_of_pos_left _ (by omega)
  have := h v hv
  show (v.fdiv g).natAbs < 2 ^ b
  omega
theorem prim_ei {l : List Int} (h : Tr l) (n : l ≠ []) (x : Rat) : ei l x = ((gcds 0 l : Int) : Rat) * ei (prim l) x := by
  have := cont_pos h n
  exact ei_fdiv (by omega) (fun v hv => (gcds_dvd l 0).2 v hv) x
theorem prim_tr {l : List Int} (h : Tr l) : Tr (prim l) := by
  by_cases n : l = []
  · subst n; exact h
  · have := cont_pos h n
    exact tr_fdiv (by omega) h fun v hv => (gcds_dvd l 0).2 v hv
theorem prim_len (l : List Int) : (prim l).length = l.length := by unfold prim; rw [List.length_map]
theorem prim_sz {b : Nat} {l : List Int} (h : Tr l) (hs : Sz b l) : Sz b (prim l) := by
  by_cases n : l = []
  · subst n; exact hs
  · have := cont_pos h n
    exact sz_fdiv hs (fun v hv => (gcds_dvd l 0).2 v hv) (by omega)
def Lim : Nat := 3900
def turn (z : Int) : Int := if 0 < z then 1 else -1
theorem turn_abs {z : Int} (h : z ≠ 0) : turn z * z = (z.natAbs : Int) := by unfold turn; split <;> omega
theorem turn_bit (z : Int) : (turn z).natAbs = 1 := by unfold turn; split <;> rfl
def stepI (one other : List Int) : List Int :=
  prim (combI one ((lst other).natAbs : Int) other (-(turn (lst other)) * lst one) (one.length - other.length))
theorem lst_getD {l : List Int} : lst l = l.getD (l.length - 1) 0 := by
  rcases List.eq_nil_or_concat l with e | ⟨a, z, e⟩
  · subst e; rfl
  · rw [List.concat_eq_append] at e
    subst e
    rw [lst_app, List.getD_eq_getElem?_getD]
    simp
theorem comb_len {one other : List Int} {f t : Int} (h : other.length ≤ one.length) (h0 : other ≠ []) (z : f * lst one + t * lst other = 0) : (combI one f other t (one.length - other.length)).length < one.length := by
  have l0 := List.length_pos_iff.mpr h0
  have ln : (combU one f other t (one.length - other.length)).length = one.length := by rw [combU_len]; omega
  rcases List.eq_nil_or_concat (combU one f other t (one.length - other.length)) with e | ⟨a, w, e⟩
  · unfold combI; rw [e]; show 0 < _; omega
  · rw [List.concat_eq_append] at e
    have hw : w = 0 := by
      have h1 : lst (combU one f other t (one.length - other.length)) = w := by rw [e, lst_app]
      rw [lst_getD, combU_getD, ln, if_pos (by omega), show one.length - 1 - (one.length - other.length) = other.length - 1 from by omega, ← lst_getD, ← lst_getD] at h1
      omega
    unfold combI
    rw [e, hw, trim_zero]
    have := trim_len a
    have h2 := congrArg List.length e
    rw [ln, List.length_append, List.length_singleton] at h2
    omega
theorem step_len {one other : List Int} (h : other.length ≤ one.length) (h0 : other ≠ []) (ho : Tr other) : (stepI one other).length < one.length := by
  obtain ⟨a, e, z⟩ := tr_form ho h0
  unfold stepI
  rw [prim_len]
  refine comb_len h h0 ?_
  have := turn_abs z
  rw [Int.mul_assoc, Int.mul_comm (lst one), ← Int.mul_assoc, Int.neg_mul, this]
  rw [Int.neg_mul]; omega
theorem step_tr (one other : List Int) : Tr (stepI one other) := prim_tr (trim_tr _)
def xpw : Nat → List Rat
  | 0 => [1]
  | n + 1 => 0 :: xpw n
theorem ev_xpw (x : Rat) : ∀ n, ev (xpw n) x = x ^ n
  | 0 => by rw [xpw, ev_one]; grind
  | n + 1 => by rw [xpw, ev_cons, ev_xpw x n]; grind
theorem step_ei {one other : List Int} (h0 : other ≠ []) (ho : Tr other) : ∃ a : Rat, 0 < a ∧ ∃ m : List Rat, ∀ x, a * ei one x = ev m x * ei other x + ei (stepI one other) x := by
  obtain ⟨_, _, z⟩ := tr_form ho h0
  let c := combI one ((lst other).natAbs : Int) other (-(turn (lst other)) * lst one) (one.length - other.length)
  have hb : (0 : Rat) < (((lst other).natAbs : Int) : Rat) := by
    have : 0 < ((lst other).natAbs : Int) := by omega
    exact Rat.intCast_pos.mpr this
  have hc : ∀ x, ei c x = (((lst other).natAbs : Int) : Rat) * ei one x + ((-(turn (lst other)) * lst one : Int) : Rat) * (x ^ (one.length - other.length) * ei other x) := fun x => ei_comb _ _ _ _ _ x
  by_cases n : c = []
  · refine ⟨_, hb, smulq (-((-(turn (lst other)) * lst one : Int) : Rat)) (xpw (one.length - other.length)), fun x => ?_⟩
    have := hc x
    have e : ei (stepI one other) x = 0 := by
      show ei (prim c) x = 0
      rw [n]; rfl
    rw [n, ei_nil] at this
    rw [ev_smul, ev_xpw, e]
    grind
  · have g0 := cont_pos (trim_tr _ : Tr c) n
    have gq : (0 : Rat) < ((gcds 0 c : Int) : Rat) := Rat.intCast_pos.mpr g0
    have hp : ∀ x, ei c x = ((gcds 0 c : Int) : Rat) * ei (stepI one other) x := prim_ei (trim_tr _) n
    refine ⟨(((lst other).natAbs : Int) : Rat) * ((gcds 0 c : Int) : Rat)⁻¹, Rat.mul_pos hb (Rat.inv_pos.mpr gq), smulq (-(((-(turn (lst other)) * lst one : Int) : Rat) * ((gcds 0 c : Int) : Rat)⁻¹)) (xpw (one.length - other.length)), fun x => ?_⟩
    have h1 := hc x
    rw [hp x] at h1
    rw [ev_smul, ev_xpw]
    generalize ((gcds 0 c : Int) : Rat) = G at gq h1 ⊢
    have : G⁻¹ * G = 1 := by grind
    generalize G⁻¹ = J at this ⊢
    generalize ei (stepI one other) x = S at h1 ⊢
    generalize (((lst other).natAbs : Int) : Rat) = B at h1 ⊢
    generalize ((-(turn (lst other)) * lst one : Int) : Rat) = T at h1 ⊢
    generalize ei one x = O at h1 ⊢
    generalize x ^ (one.length - other.length) = X at h1 ⊢
    generalize ei other x = E at h1 ⊢
    clear hp hc hb
    have h2 : J * (G * S) = J * (B * O + T * (X * E)) := by rw [h1]
    have h3 : J * (G * S) = S := by rw [← Rat.mul_assoc, this]; grind
    rw [h3] at h2
    rw [h2]; grind
/-- sizes of a step -/
def StepOk (one other : List Int) : Prop := ∃ B, B ≤ Lim ∧ Sz B one ∧ Sz B other ∧ one.length < 1000
inductive RemR (other : List Int) : List Int → List Int → Prop
  | done {one} : one.length < other.length → RemR other one one
  | step {one r} : other.length ≤ one.length → StepOk one other → RemR other (stepI one other) r → RemR other one r
theorem step_sz {one other : List Int} {a b : Nat} (h1 : Sz a one) (h2 : Sz b other) : Sz (a + b + 1) (stepI one other) := by
  refine prim_sz (trim_tr _) (comb_sz (c := b) (d := a) h1 h2 (by have := h2.lst; rw [Int.natAbs_natCast]; exact this) ?_ (by omega) (by omega))
  rw [Int.natAbs_mul, Int.natAbs_neg, turn_bit, Nat.one_mul]
  exact h1.lst
theorem rem_ex {other : List Int} (h0 : other ≠ []) (ho : Tr other) {b : Nat} (hb : Sz b other) : ∀ (n : Nat) {one : List Int} {a : Nat}, Tr one → Sz a one → one.length + 1 ≤ n + other.length → a + n * (b + 1) ≤ Lim → b ≤ Lim → one.length < 1000 →
    ∃ r, RemR other one r ∧ Tr r ∧ r.length < other.length ∧ Sz (a + n * (b + 1)) r ∧ ∃ c : Rat, 0 < c ∧ ∃ m : List Rat, ∀ x, c * ei one x = ev m x * ei other x + ei r x
  | n, one, a, t1, s1, hl, hB, hb', h9 => by
    by_cases l : one.length < other.length
    · exact ⟨one, .done l, t1, l, s1.mono (by omega), 1, by decide, [], fun x => by rw [ev_nil]; grind⟩
    · cases n with
      | zero => omega
      | succ n =>
        have e : a + (n + 1) * (b + 1) = a + b + 1 + n * (b + 1) := by rw [Nat.succ_mul]; omega
        obtain ⟨r, h1, h2, h3, h4, c, c0, m, h5⟩ := rem_ex h0 ho hb n (one := stepI one other) (a := a + b + 1) (step_tr _ _) (step_sz s1 hb) (by have := step_len (show other.length ≤ one.length by omega) h0 ho; omega) (by omega) hb' (by have := step_len (show other.length ≤ one.length by omega) h0 ho; omega)
        obtain ⟨a', a0, m', h6⟩ := step_ei (one := one) h0 ho
        refine ⟨r, .step (by omega) ⟨a + b, by omega, s1.mono (by omega), hb.mono (by omega), h9⟩ h1, h2, h3, by rw [e]; exact h4, c * a', Rat.mul_pos c0 a0, addq (smulq c m') m, fun x => ?_⟩
        rw [ev_add, ev_smul]
        have := h5 x
        have := h6 x
        grind
def signed (l : List Int) : Int := if lst l < 0 then -(gcds 0 l) else gcds 0 l
def primI (l : List Int) : List Int := l.map fun v => v.fdiv (signed l)
theorem signed_ne {l : List Int} (h : Tr l) (n : l ≠ []) : signed l ≠ 0 := by
  have := cont_pos h n
  unfold signed; split <;> omega
theorem signed_dvd (l : List Int) : ∀ v ∈ l, signed l ∣ v := fun v hv => by
  have := (gcds_dvd l 0).2 v hv
  unfold signed
  split
  · exact Int.neg_dvd.mpr this
  · exact this
theorem primI_ei {l : List Int} (h : Tr l) (n : l ≠ []) (x : Rat) : ei l x = ((signed l : Int) : Rat) * ei (primI l) x := ei_fdiv (signed_ne h n) (signed_dvd l) x
theorem primI_tr {l : List Int} (h : Tr l) : Tr (primI l) := by
  by_cases n : l = []
  · subst n; exact h
  · exact tr_fdiv (signed_ne h n) h (signed_dvd l)
theorem primI_len (l : List Int) : (primI l).length = l.length := by unfold primI; rw [List.length_map]
theorem primI_sz {b : Nat} {l : List Int} (h : Tr l) (hs : Sz b l) : Sz b (primI l) := by
  by_cases n : l = []
  · subst n; exact hs
  · exact sz_fdiv hs (signed_dvd l) (signed_ne h n)
theorem lst_map (f : Int → Int) {l : List Int} (n : l ≠ []) : lst (l.map f) = f (lst l) := by
  rcases List.eq_nil_or_concat l with e | ⟨a, z, e⟩
  · exact absurd e n
  · rw [List.concat_eq_append] at e
    subst e
    rw [List.map_append, List.map_singleton, lst_app, lst_app]
theorem primI_lst {l : List Int} (h : Tr l) (n : l ≠ []) : 0 < lst (primI l) := by
  obtain ⟨a, e, z⟩ := tr_form h n
  have c := cont_pos h n
  unfold primI
  rw [lst_map _ n]
  have d := fdiv_mul (signed_ne h n) (signed_dvd l (lst l) (lst_mem n))
  generalize (lst l).fdiv (signed l) = q at d ⊢
  unfold signed at d
  split at d
  · rename_i hn
    apply Classical.byContradiction
    intro k
    have : 0 ≤ -(gcds 0 l) * q := Int.mul_nonneg_of_nonpos_of_nonpos (by omega) (by omega)
    omega
  · rename_i hn
    apply Classical.byContradiction
    intro k
    have : gcds 0 l * q ≤ 0 := Int.mul_nonpos_of_nonneg_of_nonpos (by omega) (by omega)
    omega
theorem gcds_abs (g : Int) : ∀ (l : List Int) (a : Int), (∀ v ∈ l, g ∣ v) → g ∣ a → g ∣ gcds a l
  | [], a, _, h => h
  | v :: l, a, h, k => gcds_abs g l (gcdI a v) (fun w hw => h w (List.mem_cons_of_mem _ hw)) (by
      unfold gcdI
      have h1 := Int.natAbs_dvd_natAbs.mpr k
      have h2 := Int.natAbs_dvd_natAbs.mpr (h v List.mem_cons_self)
      exact Int.natAbs_dvd.mp (Int.natCast_dvd_natCast.mpr (Nat.dvd_gcd h1 h2)))
/-- no number but 1 divides all -/
def Prm (l : List Int) : Prop := ∀ g : Int, (∀ v ∈ l, g ∣ v) → g ∣ 1
theorem primI_prm {l : List Int} (h : Tr l) (n : l ≠ []) : Prm (primI l) := by
  intro g hg
  have c := cont_pos h n
  have s0 := signed_ne h n
  have h1 : g * signed l ∣ gcds 0 l := gcds_abs _ l 0 (fun v hv => by
    have e := fdiv_mul s0 (signed_dvd l v hv)
    obtain ⟨q, hq⟩ := hg (v.fdiv (signed l)) (List.mem_map.mpr ⟨v, hv, rfl⟩)
    exact ⟨q, by rw [← e, hq, ← Int.mul_assoc, Int.mul_comm (signed l)]⟩) (Int.dvd_zero _)
  obtain ⟨q, hq⟩ := h1
  have hs : signed l = gcds 0 l ∨ signed l = -(gcds 0 l) := by unfold signed; split <;> simp
  rcases hs with e | e
  · rw [e] at hq
    have : gcds 0 l * (g * q) = gcds 0 l * 1 := by rw [Int.mul_one]; rw [← Int.mul_assoc, Int.mul_comm _ g]; exact hq.symm
    exact ⟨q, (Int.eq_of_mul_eq_mul_left (by omega) this).symm⟩
  · rw [e] at hq
    have : gcds 0 l * (g * -q) = gcds 0 l * 1 := by
      rw [Int.mul_one, Int.mul_neg, ← Int.mul_neg, ← Int.mul_assoc, Int.mul_comm _ g, Int.mul_neg]
      rw [Int.mul_neg, Int.neg_mul] at hq
      omega
    exact ⟨-q, (Int.eq_of_mul_eq_mul_left (by omega) this).symm⟩
inductive ComR : List Int → List Int → List Int → Prop
  | done {one} : Sz (2 * Lim) one → one.length < 1000 → ComR one [] (primI one)
  | step {one other r h} : other ≠ [] → RemR other one r → ComR other r h → ComR one other h
structure IsGcd (one other h : List Int) : Prop where
  tr : Tr h
  ne : h ≠ []
  prm : Prm h
  pos : 0 < lst h
  bz : ∃ u v : List Rat, ∀ x, ei h x = ev u x * ei one x + ev v x * ei other x
  d1 : Dv (iq h) (iq one)
  d2 : Dv (iq h) (iq other)
/-- bits that are enough for a common divisor of lists of at most n numbers -/
def cbits : Nat → Nat → Nat → Nat
  | 0, a, b => max a b
  | n + 1, a, b => cbits n b (a + (n + 2) * (b + 1))
theorem cbits_le : ∀ (n a b : Nat), a ≤ cbits n a b ∧ b ≤ cbits n a b
  | 0, a, b => by show a ≤ max a b ∧ b ≤ max a b; omega
  | n + 1, a, b => by
    have := cbits_le n b (a + (n + 2) * (b + 1))
    show a ≤ cbits n b _ ∧ b ≤ cbits n b _
    omega
theorem com_ex : ∀ (n : Nat) {one other : List Int} {a b : Nat}, Tr one → Tr other → Sz a one → Sz b other → (one ≠ [] ∨ other ≠ []) → one.length ≤ n + 1 → other.length ≤ n → cbits n a b ≤ Lim → n < 900 →
    ∃ h, ComR one other h ∧ IsGcd one other h ∧ Sz (cbits n a b) h
  | n, one, other, a, b, t1, t2, s1, s2, hn, l1, l2, hB, h9 => by
    by_cases e : other = []
    · subst e
      have n1 : one ≠ [] := hn.resolve_right (fun q => q rfl)
      have ab := cbits_le n a b
      have z := signed_ne t1 n1
      refine ⟨primI one, .done (s1.mono (by omega)) (by omega), ⟨primI_tr t1, fun q => n1 (List.map_eq_nil_iff.mp q), primI_prm t1 n1, primI_lst t1 n1, ?_, ?_, ?_⟩, (primI_sz t1 s1).mono (by omega)⟩
      · refine ⟨[((signed one : Int) : Rat)⁻¹], [], fun x => ?_⟩
        have h1 := primI_ei t1 n1 x
        have := cast0 z
        show _ = (_ + x * 0) * _ + 0 * _
        rw [h1]
        generalize ((signed one : Int) : Rat) = S at this
        have h2 : S⁻¹ * S = 1 := by grind
        grind
      · exact ⟨[((signed one : Int) : Rat)], fun x => by
          have := primI_ei t1 n1 x
          unfold ei at this
          rw [this]
          show _ = _ * (_ + x * 0)
          grind⟩
      · exact ⟨[], fun x => by show (0 : Rat) = _ * 0; grind⟩
    · cases n with
      | zero => exact absurd (List.eq_nil_of_length_eq_zero (by omega)) e
      | succ n =>
        have hB : cbits n b (a + (n + 2) * (b + 1)) ≤ Lim := hB
        have ab := cbits_le n b (a + (n + 2) * (b + 1))
        have l0 := List.length_pos_iff.mpr e
        obtain ⟨r, hr, tr, lr, sr, c, c0, m, hm⟩ := rem_ex e t2 s2 (n + 2) t1 s1 (by omega) (by omega) (by omega) (by omega)
        obtain ⟨h, hh, g, sh⟩ := com_ex n t2 tr s2 sr (.inl e) (by omega) (by omega) hB (by omega)
        refine ⟨h, .step e hr hh, ⟨g.tr, g.ne, g.prm, g.pos, ?_, ?_, g.d1⟩, sh⟩
        · obtain ⟨u, v, huv⟩ := g.bz
          refine ⟨smulq c v, addq u (smulq (-1) (mulq v m)), fun x => ?_⟩
          rw [huv x, ev_smul, ev_add, ev_smul, ev_mul]
          have := hm x
          grind
        · obtain ⟨q1, h1⟩ := g.d1
          obtain ⟨q2, h2⟩ := g.d2
          refine ⟨smulq (c⁻¹) (addq (mulq m q1) q2), fun x => ?_⟩
          have h3 := hm x
          have h4 : ei other x = ei h x * ev q1 x := h1 x
          have h5 : ei r x = ei h x * ev q2 x := h2 x
          rw [h4, h5] at h3
          show ei one x = ei h x * _
          rw [ev_smul, ev_add, ev_mul]
          have : c⁻¹ * c = 1 := by grind
          calc ei one x = c⁻¹ * (c * ei one x) := by grind
            _ = _ := by rw [h3]; grind
end ST
namespace ST
open RO PO L2 DL
def addI : List Int → List Int → List Int
  | [], q => q
  | a :: p, [] => a :: p
  | a :: p, b :: q => (a + b) :: addI p q
def mulI : List Int → List Int → List Int
  | [], _ => []
  | a :: p, q => addI (q.map (a * ·)) (0 :: mulI p q)
theorem ei_addI : ∀ (p q : List Int) (x : Rat), ei (addI p q) x = ei p x + ei q x
  | [], q, x => by rw [addI, ei_nil]; grind
  | a :: p, [], x => by rw [addI, ei_nil]; grind
  | a :: p, b :: q, x => by rw [addI, ei_cons, ei_cons, ei_cons, ei_addI p q x, Rat.intCast_add]; grind
theorem ei_mulI : ∀ (p q : List Int) (x : Rat), ei (mulI p q) x = ei p x * ei q x
  | [], q, x => by rw [mulI, ei_nil]; grind
  | a :: p, q, x => by rw [mulI, ei_addI, ei_map, ei_cons, ei_cons, ei_mulI p q x]; grind
/-- a divisor greater than 1 that divides a product only where it divides a factor -/
def Prime (p : Int) : Prop := 1 < p ∧ ∀ a b : Int, p ∣ a * b → p ∣ a ∨ p ∣ b
theorem prime_ex : ∀ (n : Nat), 1 < n → ∃ p : Int, Prime p ∧ p ∣ (n : Int) := by
  intro n hn
  have ex : ∃ k, 1 < k ∧ k ∣ n := ⟨n, hn, Nat.dvd_refl n⟩
  have ⟨m, hm, hmin⟩ : ∃ m, (1 < m ∧ m ∣ n) ∧ ∀ k, k < m → ¬ (1 < k ∧ k ∣ n) := by
    have : ∀ k, (1 < k ∧ k ∣ n) → ∃ m, (1 < m ∧ m ∣ n) ∧ ∀ k, k < m → ¬ (1 < k ∧ k ∣ n) := by
      intro k
      induction k using Nat.strongRecOn with
      | ind k ih =>
        intro hk
        by_cases h : ∃ j, j < k ∧ (1 < j ∧ j ∣ n)
        · obtain ⟨j, hj, hj2⟩ := h
          exact ih j hj hj2
        · exact ⟨k, hk, fun j hj hj2 => h ⟨j, hj, hj2⟩⟩
    exact this n ⟨hn, Nat.dvd_refl n⟩
  refine ⟨(m : Int), ⟨by omega, fun a b hab => ?_⟩, Int.natCast_dvd_natCast.mpr hm.2⟩
  have g := Nat.gcd_dvd_left m a.natAbs
  have g1 : Nat.gcd m a.natAbs = 1 ∨ Nat.gcd m a.natAbs = m := by
    rcases Nat.lt_or_ge (Nat.gcd m a.natAbs) m with l | l
    · left
      have h0 : 0 < Nat.gcd m a.natAbs := Nat.gcd_pos_of_pos_left _ (by omega)
      apply Classical.byContradiction
      intro h1
      exact hmin _ l ⟨by omega, Nat.dvd_trans g hm.2⟩
    · right
      have := Nat.le_of_dvd (by omega) g
      omega
  rcases g1 with e | e
  · right
    have h2 : m ∣ a.natAbs * b.natAbs := by
      rw [← Int.natAbs_mul]
      exact Int.ofNat_dvd_left.mp hab
    exact Int.ofNat_dvd_left.mpr (Nat.Coprime.dvd_of_dvd_mul_left e h2)
  · left
    refine Int.ofNat_dvd_left.mpr ?_
    conv => lhs; rw [← e]
    exact Nat.gcd_dvd_right m a.natAbs
/-- every number of a list up to its zeros is a multiple of g -/
def DvI (g : Int) (l : List Int) : Prop := ∃ r : List Int, ∀ x, ei l x = (g : Rat) * ei r x
theorem ei_0 (a : Int) (l : List Int) : ei (a :: l) 0 = (a : Rat) := by rw [ei_cons]; grind
theorem ei_head (l : List Int) : ∃ z : Int, ei l 0 = (z : Rat) := by
  cases l with
  | nil => exact ⟨0, by rw [ei_nil]; rfl⟩
  | cons a l => exact ⟨a, ei_0 a l⟩
theorem cancel_x {a b : List Int} (h : ∀ x : Rat, x * ei a x = x * ei b x) (x : Rat) : ei a x = ei b x :=
  cancel (a := [0, 1]) (n := 1) ⟨[0], 1, by decide, rfl, fun _ => rfl⟩ (fun y => by
    show (0 + y * (1 + y * 0)) * ei a y = (0 + y * (1 + y * 0)) * ei b y
    have := h y
    grind) x
/-- a function that vanishes at 0 is x times another one -/
theorem tail_of {l : List Int} (h : ei l 0 = 0) : ∃ r : List Int, ∀ x, ei l x = x * ei r x := by
  cases l with
  | nil => exact ⟨[], fun x => by rw [ei_nil]; grind⟩
  | cons a l =>
    rw [ei_0] at h
    exact ⟨l, fun x => by rw [ei_cons, h]; grind⟩
theorem gauss_head {g : Int} {a : Int} {p q r : List Int} (da : g ∣ a) (h : ∀ x, ei (a :: p) x * ei q x = (g : Rat) * ei r x) :
    ∃ a' : Int, a = g * a' ∧ ∃ r1, ∀ x, ei p x * ei q x = (g : Rat) * ei r1 x := by
  obtain ⟨a', rfl⟩ := da
  refine ⟨a', rfl, ?_⟩
  by_cases g0 : g = 0
  · subst g0
    refine ⟨[], fun x => ?_⟩
    have : ∀ x, ei (mulI p q) x = ei [] x := cancel_x fun x => by
      have := h x
      rw [ei_cons, Int.zero_mul] at this
      rw [ei_mulI, ei_nil]
      have z : ((0 : Int) : Rat) = 0 := rfl
      rw [z] at this
      grind
    have := this x
    rw [ei_mulI] at this
    rw [this, ei_nil]; grind
  · have z0 : ei (addI r (q.map fun v => (-a') * v)) 0 = 0 := by
      have := h 0
      rw [ei_0, Rat.intCast_mul] at this
      rw [ei_addI, ei_map]
      have gq := cast0 g0
      rw [Rat.intCast_neg]
      have e : (g : Rat) * (ei r 0 - (a' : Rat) * ei q 0) = 0 := by grind
      rcases Rat.mul_eq_zero.mp e with k | k
      · exact absurd k gq
      · grind
    obtain ⟨r1, hr⟩ := tail_of z0
    refine ⟨r1, fun x => ?_⟩
    have : ∀ x, ei (mulI p q) x = ei (r1.map fun v => g * v) x := cancel_x fun x => by
      have h1 := h x
      have h2 := hr x
      rw [ei_cons, Rat.intCast_mul] at h1
      rw [ei_addI, ei_map, Rat.intCast_neg] at h2
      rw [ei_mulI, ei_map]
      grind
    have := this x
    rw [ei_mulI, ei_map] at this
    exact this
theorem gauss_p {g : Int} (hp : Prime g) : ∀ (n : Nat) (p q r : List Int), p.length + q.length ≤ n → (∀ x, ei p x * ei q x = (g : Rat) * ei r x) → DvI g p ∨ DvI g q
  | n, [], q, r, _, _ => .inl ⟨[], fun x => by rw [ei_nil]; grind⟩
  | n, a :: p, [], r, _, _ => .inr ⟨[], fun x => by rw [ei_nil]; grind⟩
  | 0, a :: p, b :: q, r, h, _ => by simp at h
  | n + 1, a :: p, b :: q, r, hl, h => by
    simp only [List.length_cons] at hl
    have h0 : g ∣ a * b := by
      obtain ⟨z, hz⟩ := ei_head r
      have := h 0
      rw [ei_0, ei_0, hz, ← Rat.intCast_mul, ← Rat.intCast_mul] at this
      exact ⟨z, Rat.intCast_inj.mp this⟩
    rcases hp.2 a b h0 with da | db
    · obtain ⟨a', rfl, r1, h1⟩ := gauss_head da h
      rcases gauss_p hp n p (b :: q) r1 (by simp only [List.length_cons]; omega) h1 with ⟨p', k⟩ | k
      · exact .inl ⟨a' :: p', fun x => by rw [ei_cons, ei_cons, k x, Rat.intCast_mul]; grind⟩
      · exact .inr k
    · obtain ⟨b', rfl, r1, h1⟩ := gauss_head (p := q) db (q := a :: p) (r := r) fun x => by have := h x; grind
      rcases gauss_p hp n (a :: p) q r1 (by simp only [List.length_cons]; omega) (fun x => by have := h1 x; grind) with k | ⟨q', k⟩
      · exact .inl k
      · exact .inr ⟨b' :: q', fun x => by rw [ei_cons, ei_cons, k x, Rat.intCast_mul]; grind⟩
theorem tr_mulc {g : Int} (g0 : g ≠ 0) {l : List Int} (h : Tr l) : Tr (l.map fun v => g * v) := by
  intro a z e
  rcases List.eq_nil_or_concat l with el | ⟨b, w, el⟩
  · subst el; simp at e
  · rw [List.concat_eq_append] at el
    subst el
    rw [List.map_append] at e
    have := List.append_inj_right' e rfl
    simp at this
    rw [← this]
    exact Int.mul_ne_zero g0 (h b w rfl)
theorem DvI.all {g : Int} (g0 : g ≠ 0) {l : List Int} (ht : Tr l) (h : DvI g l) : ∀ v ∈ l, g ∣ v := by
  obtain ⟨r, hr⟩ := h
  have e : l = (trimI r).map fun v => g * v := ei_inj ht (tr_mulc g0 (trim_tr r)) fun x => by rw [ei_map, ei_trim]; exact hr x
  intro v hv
  rw [e] at hv
  obtain ⟨w, _, rfl⟩ := List.mem_map.mp hv
  exact ⟨w, rfl⟩
theorem gauss {h : List Int} (ht : Tr h) (hp : Prm h) : ∀ (D : Nat) {Q r : List Int}, 0 < D → (∀ x, ei h x * ei Q x = (D : Rat) * ei r x) → ∃ Q' : List Int, ∀ x, ei Q x = (D : Rat) * ei Q' x := by
  intro D
  induction D using Nat.strongRecOn with
  | ind D ih =>
    intro Q r hD e
    by_cases h1 : D = 1
    · subst h1
      exact ⟨Q, fun x => by rw [show ((1 : Nat) : Rat) = 1 from rfl]; grind⟩
    · obtain ⟨p, pp, ⟨c, hc⟩⟩ := prime_ex D (by omega)
      have p0 : p ≠ 0 := by have := pp.1; omega
      have c0 : 0 < c := by
        apply Classical.byContradiction
        intro k
        have : p * c ≤ 0 := Int.mul_nonpos_of_nonneg_of_nonpos (by have := pp.1; omega) (by omega)
        omega
      obtain ⟨d, rfl⟩ : ∃ d : Nat, c = (d : Int) := ⟨c.toNat, by omega⟩
      have eD : (D : Rat) = (p : Rat) * (d : Rat) := by
        have : ((D : Int) : Rat) = ((p * (d : Int) : Int) : Rat) := by rw [hc]
        rw [Rat.intCast_mul] at this
        exact this
      have e2 : ∀ x, ei h x * ei Q x = (p : Rat) * ei (r.map fun v => (d : Int) * v) x := fun x => by
        rw [e x, eD, ei_map]
        show _ = _ * ((d : Rat) * _)
        grind
      rcases gauss_p pp _ h Q _ (Nat.le_refl _) e2 with k | ⟨Q1, k⟩
      · have := hp p (k.all p0 ht)
        have := Int.le_of_dvd (by decide) this
        have := pp.1
        omega
      · have dl : d < D := by
          have h1 := pp.1
          have : 2 * (d : Int) ≤ p * (d : Int) := Int.mul_le_mul_of_nonneg_right (by omega) (by omega)
          omega
        have e3 : ∀ x, ei h x * ei Q1 x = (d : Rat) * ei r x := fun x => by
          have h1 := e x
          rw [k x, eD] at h1
          have pq := cast0 p0
          have : (p : Rat) * (ei h x * ei Q1 x) = (p : Rat) * ((d : Rat) * ei r x) := by grind
          have h2 : (p : Rat)⁻¹ * (p : Rat) = 1 := by grind
          calc ei h x * ei Q1 x = (p : Rat)⁻¹ * ((p : Rat) * (ei h x * ei Q1 x)) := by grind
            _ = _ := by rw [this]; grind
        obtain ⟨Q', k'⟩ := ih d dl (by omega) e3
        exact ⟨Q', fun x => by rw [k x, k' x, eD]; grind⟩
theorem den_mul (a : Rat) : a * (a.den : Rat) = (a.num : Rat) := by
  have h := Rat.num_divInt_den a
  rw [Rat.divInt_eq_div] at h
  have : ((a.den : Int) : Rat) ≠ 0 := cast0 (by have := a.den_pos; omega)
  conv => lhs; lhs; rw [← h]
  show (a.num : Rat) / ((a.den : Int) : Rat) * ((a.den : Int) : Rat) = _
  grind
/-- a common denominator -/
theorem clear (q : List Rat) : ∃ (D : Nat) (Q : List Int), 0 < D ∧ ∀ x, (D : Rat) * ev q x = ei Q x := by
  induction q with
  | nil => exact ⟨1, [], by decide, fun x => by rw [ev_nil, ei_nil]; grind⟩
  | cons a q ih =>
    obtain ⟨D, Q, h0, h⟩ := ih
    refine ⟨a.den * D, (a.num * D) :: Q.map (fun v => (a.den : Int) * v), Nat.mul_pos a.den_pos h0, fun x => ?_⟩
    rw [ev_cons, ei_cons, ei_map, ← h x, Rat.intCast_mul]
    have e : a * (a.den : Rat) = (a.num : Rat) := den_mul a
    have c1 : (((a.den * D : Nat)) : Rat) = (a.den : Rat) * (D : Rat) := by
      have : (((a.den * D : Nat) : Int) : Rat) = (((a.den : Int) * (D : Int) : Int) : Rat) := by rw [Int.natCast_mul]
      rw [Rat.intCast_mul] at this
      exact this
    rw [c1]
    show _ = _ * (D : Rat) + x * ((a.den : Rat) * _)
    rw [← e]; grind
/-- the quotient by a primitive list is a list of whole numbers -/
theorem quot_int {h l : List Int} (ht : Tr h) (hp : Prm h) (hd : Dv (iq h) (iq l)) : ∃ q : List Int, Tr q ∧ ∀ x, ei l x = ei h x * ei q x := by
  obtain ⟨q, hq⟩ := hd
  obtain ⟨D, Q, D0, hD⟩ := clear q
  obtain ⟨Q', hQ⟩ := gauss ht hp D (Q := Q) (r := l) D0 fun x => by
    have : ei l x = ei h x * ev q x := hq x
    rw [this, ← hD x]; grind
  refine ⟨trimI Q', trim_tr _, fun x => ?_⟩
  have h1 : ei l x = ei h x * ev q x := hq x
  have h2 := hD x
  rw [hQ x] at h2
  have d0 : (D : Rat) ≠ 0 := by
    have : ((D : Int) : Rat) ≠ 0 := cast0 (by omega)
    exact this
  have h3 : (D : Rat)⁻¹ * (D : Rat) = 1 := by grind
  have h4 : ev q x = ei Q' x := by
    calc ev q x = (D : Rat)⁻¹ * ((D : Rat) * ev q x) := by grind
      _ = _ := by rw [h2]; grind
  rw [h1, h4, ei_trim]
end ST
namespace ST
open RO PO L2 DL
def ExOk (other rest : List Int) (q : Int) : Prop := Sz (2 * Lim) rest ∧ Sz (2 * Lim) other ∧ q.natAbs < 2 ^ (2 * Lim) ∧ rest.length < 1000
inductive ExR (other : List Int) : List Int → List Int → Option (List Int) → Prop
  | full {found} : other ≠ [] → ExR other [] found (some found)
  | short {rest found} : rest ≠ [] → rest.length < other.length → ExR other rest found none
  | no {rest found} : other ≠ [] → other.length ≤ rest.length → ¬ lst other ∣ lst rest → ExR other rest found none
  | go {rest found q r} : other ≠ [] → other.length ≤ rest.length → lst rest = q * lst other → ExOk other rest q →
      ExR other (combI rest 1 other (-q) (rest.length - other.length)) (found.set (rest.length - other.length) q) r → ExR other rest found r
theorem set_last {a : List Int} {z w : Int} {n : Nat} {t : List Int} (h : a.length = n) : (a ++ z :: t).set n w = a ++ w :: t := by
  subst h
  induction a with
  | nil => rfl
  | cons c a ih => simpa using ih
theorem addI_len : ∀ (x y : List Int), (addI x y).length = max x.length y.length
  | [], y => by rw [addI]; simp
  | u :: x, [] => by rw [addI]; simp
  | u :: x, v :: y => by rw [addI, List.length_cons, addI_len x y]; simp
theorem addI_last : ∀ (x y : List Int) (w : Int), x.length ≤ y.length → ∃ r, addI x (y ++ [w]) = r ++ [w]
  | [], y, w, _ => ⟨y, by rw [addI]⟩
  | u :: x, [], w, h => by simp at h
  | u :: x, v :: y, w, h => by
    obtain ⟨r, hr⟩ := addI_last x y w (by simpa using h)
    exact ⟨(u + v) :: r, by rw [List.cons_append, addI, hr]; rfl⟩
theorem mulI_last : ∀ (p q : List Int) (u v : Int), ∃ r, mulI (p ++ [u]) (q ++ [v]) = r ++ [u * v] ∧ r.length = p.length + q.length
  | [], q, u, v => by
    have e1 : mulI ([] ++ [u]) (q ++ [v]) = addI ((q ++ [v]).map (u * ·)) [0] := rfl
    rw [e1, List.map_append, List.map_singleton]
    cases q with
    | nil => exact ⟨[], by rw [List.map_nil, List.nil_append, addI, Int.add_zero]; rfl, rfl⟩
    | cons c q =>
      refine ⟨(u * c + 0) :: q.map (u * ·), ?_, by simp⟩
      rw [List.map_cons, List.cons_append, addI]
      cases hz : q.map (u * ·) ++ [u * v] with
      | nil => simp at hz
      | cons d r => rw [addI, ← hz]; rfl
  | c :: p, q, u, v => by
    obtain ⟨r, hr, lr⟩ := mulI_last p q u v
    have e1 : mulI (c :: p ++ [u]) (q ++ [v]) = addI ((q ++ [v]).map (c * ·)) ((0 :: r) ++ [u * v]) := by
      show addI _ (0 :: mulI (p ++ [u]) (q ++ [v])) = _
      rw [hr]; rfl
    obtain ⟨r', hr'⟩ := addI_last ((q ++ [v]).map (c * ·)) (0 :: r) (u * v) (by simp; omega)
    refine ⟨r', by rw [e1, hr'], ?_⟩
    have h2 := congrArg List.length hr'
    rw [addI_len] at h2
    simp at h2
    simp
    omega
theorem trim_split (l : List Int) : ∃ z, l = trimI l ++ List.replicate z 0 := by
  have h : ∀ n (l : List Int), l.length ≤ n → ∃ z, l = trimI l ++ List.replicate z 0 := fun n => by
    induction n with
    | zero => intro l hl; exact ⟨0, by rw [List.eq_nil_of_length_eq_zero (by omega : l.length = 0)]; rfl⟩
    | succ n ih =>
      intro l hl
      rcases List.eq_nil_or_concat l with e | ⟨a, z, e⟩
      · exact ⟨0, by rw [e]; rfl⟩
      · rw [List.concat_eq_append] at e
        by_cases z0 : z = 0
        · subst e; subst z0
          obtain ⟨k, hk⟩ := ih a (by simp at hl; omega)
          refine ⟨k + 1, ?_⟩
          rw [trim_zero, List.replicate_succ', ← List.append_assoc, ← hk]
        · refine ⟨0, ?_⟩
          rw [e, trim_last _ z0]; simp
  exact h _ l (Nat.le_refl _)
/-- a product is divided -/
theorem ex_ex {other : List Int} (ho : Tr other) (h0 : other ≠ []) {b : Nat} (sb : Sz b other) :
    ∀ (n : Nat) {a : Nat} {rest q t : List Int}, Tr rest → Tr q → Sz a rest → q.length ≤ n → a + n * (b + 1) ≤ 2 * Lim → b ≤ 2 * Lim → rest.length < 1000 → (∀ x, ei rest x = ei other x * ei q x) →
      ExR other rest (List.replicate q.length 0 ++ t) (some (q ++ t)) ∧ Sz (a + n * (b + 1)) q
  | n, c, rest, q, t, tr, tq, sr, ln, hB, hb, lr, e => by
    by_cases q0 : q = []
    · subst q0
      have r0 : rest = [] := ei_inj tr tr_nil fun x => by rw [e x, ei_nil]; grind
      subst r0
      exact ⟨.full h0, Sz.nil _⟩
    · cases n with
      | zero => exact absurd (List.eq_nil_of_length_eq_zero (by omega)) q0
      | succ n =>
        obtain ⟨a, ea, za⟩ := tr_form ho h0
        obtain ⟨qa, eq, zq⟩ := tr_form tq q0
        have r0 : rest ≠ [] := fun z => by
          subst z
          obtain ⟨M, hM⟩ := ((tr_dg ho h0).mul (tr_dg tq q0)).far
          exact hM M (by grind) (by rw [← e M, ei_nil])
        have lo := List.length_pos_iff.mpr h0
        have lq := List.length_pos_iff.mpr q0
        have lrr := List.length_pos_iff.mpr r0
        have dl : rest.length = other.length + (q.length - 1) := by
          have := (tr_dg tr r0).uniq (((tr_dg ho h0).mul (tr_dg tq q0)).congr fun x => (e x).symm)
          omega
        -- the last number
        have hlast : lst rest = lst q * lst other := by
          obtain ⟨r, hr, _⟩ := mulI_last a qa (lst other) (lst q)
          rw [← ea, ← eq] at hr
          have et : rest = trimI (mulI other q) := ei_inj tr (trim_tr _) fun x => by rw [ei_trim, ei_mulI]; exact e x
          rw [et, hr, trim_last _ (Int.mul_ne_zero za zq), lst_app, Int.mul_comm]
        have eB : c + (n + 1) * (b + 1) = c + b + 1 + n * (b + 1) := by rw [Nat.succ_mul]; omega
        have qb : (lst q).natAbs < 2 ^ c := by
          have h1 := sr.lst
          rw [hlast, Int.natAbs_mul] at h1
          have : (lst q).natAbs ≤ (lst q).natAbs * (lst other).natAbs := Nat.le_mul_of_pos_right _ (by omega)
          omega
        have sh : rest.length - other.length = q.length - 1 := by omega
        have lqa : qa.length = q.length - 1 := by
          have := congrArg List.length eq
          rw [List.length_append, List.length_singleton] at this
          omega
        have e2 : ∀ x, ei (combI rest 1 other (-(lst q)) (rest.length - other.length)) x = ei other x * ei (trimI qa) x := fun x => by
          rw [ei_comb, e x, ei_trim, sh]
          have : ei q x = ei qa x + x ^ qa.length * (lst q : Rat) := by
            conv => lhs; rw [eq]
            rw [ei_app, ei_cons, ei_nil]; grind
          rw [this, lqa, Rat.intCast_neg]
          rw [show ((1 : Int) : Rat) = 1 from rfl]
          grind
        have lc : (combI rest 1 other (-(lst q)) (rest.length - other.length)).length < rest.length := comb_len (by omega) h0 (by rw [hlast, Int.one_mul, Int.neg_mul]; omega)
        obtain ⟨z, hz⟩ := trim_split qa
        have lz := congrArg List.length hz
        rw [List.length_append, List.length_replicate] at lz
        have ef : (List.replicate q.length 0 ++ t).set (rest.length - other.length) (lst q) = List.replicate (trimI qa).length 0 ++ (List.replicate z 0 ++ lst q :: t) := by
          rw [sh, show List.replicate q.length (0 : Int) = List.replicate (q.length - 1) 0 ++ [0] from by
            rw [← List.replicate_succ']; congr 1; omega]
          rw [List.append_assoc, List.singleton_append, set_last (by rw [List.length_replicate]), ← List.append_assoc, List.replicate_append_replicate]
          congr 2
          omega
        have eq2 : q ++ t = trimI qa ++ (List.replicate z 0 ++ lst q :: t) := by
          rw [← List.append_assoc, ← hz]
          conv => lhs; rw [eq]
          rw [List.append_assoc]; rfl
        have szc : Sz (c + b + 1) (combI rest 1 other (-(lst q)) (rest.length - other.length)) := by
          refine Sz.trim (Sz.of_getD fun j => ?_)
          rw [combU_getD, Int.one_mul]
          refine add_bits (bits_le (sr.getD j) (by omega)) ?_
          split
          · exact mul_bits (by rw [Int.natAbs_neg]; exact qb) (sb.getD _)
          · exact Nat.two_pow_pos _
        obtain ⟨f1, f2⟩ := ex_ex ho h0 sb n (a := c + b + 1) (q := trimI qa) (t := List.replicate z 0 ++ lst q :: t) (trim_tr _) (trim_tr _) szc (by have := trim_len qa; omega) (by omega) hb (Nat.lt_trans lc lr) e2
        rw [eB]
        refine ⟨.go h0 (by omega) hlast ⟨sr.mono (by omega), sb.mono (by omega), bits_le qb (by omega), lr⟩ ?_, ?_⟩
        · rw [ef, eq2]
          exact f1
        · intro v hv
          rw [eq, hz] at hv
          rcases List.mem_append.mp hv with hv | hv
          · rcases List.mem_append.mp hv with hv | hv
            · exact f2 v hv
            · rw [(List.mem_replicate.mp hv).2]; exact Nat.two_pow_pos _
          · rw [List.mem_singleton.mp hv]; exact bits_le qb (by omega)
def derF (k : Int) : List Int → List Int
  | [] => []
  | v :: l => k * v :: derF (k + 1) l
def derI (l : List Int) : List Int := (derF 0 l).drop 1
theorem derF_len : ∀ (l : List Int) (k : Int), (derF k l).length = l.length
  | [], _ => rfl
  | v :: l, k => by rw [derF, List.length_cons, derF_len l, List.length_cons]
theorem ei_derF : ∀ (l : List Int) (k : Int) (x : Rat), ei (derF k l) x = (k : Rat) * ei l x + x * ev (dq (iq l)) x
  | [], k, x => by show (0 : Rat) = _ * 0 + x * 0; grind
  | v :: l, k, x => by
    rw [derF, ei_cons, ei_derF l (k + 1) x, ei_cons]
    have : ev (dq (iq (v :: l))) x = ei l x + x * ev (dq (iq l)) x := ev_dcons (v : Rat) (iq l) x
    rw [this, Rat.intCast_mul, Rat.intCast_add]
    rw [show ((1 : Int) : Rat) = 1 from rfl]
    grind
theorem ei_der (l : List Int) (x : Rat) : ei (derI l) x = ev (dq (iq l)) x := by
  cases l with
  | nil => rfl
  | cons v l =>
    show ei (derF (0 + 1) l) x = _
    rw [ei_derF]
    have : ev (dq (iq (v :: l))) x = ei l x + x * ev (dq (iq l)) x := ev_dcons (v : Rat) (iq l) x
    rw [this]
    rw [show ((0 + 1 : Int) : Rat) = 1 from rfl]
    grind
theorem der_len (l : List Int) : (derI l).length = l.length - 1 := by unfold derI; rw [List.length_drop, derF_len]
theorem derF_tr : ∀ (l : List Int) (k : Int), 0 < k → Tr l → Tr (derF k l)
  | [], _, _, _ => tr_nil
  | v :: l, k, hk, h => by
    have h2 : Tr l := fun a z e => h (v :: a) z (by rw [e]; rfl)
    intro a z e
    rw [derF] at e
    cases a with
    | nil =>
      have e : k * v :: derF (k + 1) l = [z] := e
      rw [List.cons.injEq] at e
      have l0 : l = [] := by
        have := congrArg List.length e.2
        rw [derF_len] at this
        exact List.eq_nil_of_length_eq_zero this
      subst l0
      rw [← e.1]
      exact Int.mul_ne_zero (by omega) (h [] v rfl)
    | cons b a =>
      have e : k * v :: derF (k + 1) l = b :: (a ++ [z]) := e
      rw [List.cons.injEq] at e
      exact derF_tr l (k + 1) (by omega) h2 a z e.2
theorem der_tr {l : List Int} (h : Tr l) : Tr (derI l) := by
  cases l with
  | nil => exact tr_nil
  | cons v l =>
    show Tr (derF (0 + 1) l)
    exact derF_tr l _ (by decide) fun a z e => h (v :: a) z (by rw [e]; rfl)
theorem derF_sz {e : Nat} : ∀ (l : List Int) (k : Int) (b : Nat), 0 ≤ k → k + l.length ≤ (2 ^ e : Nat) → Sz b l → Sz (b + e) (derF k l)
  | [], _, _, _, _, _ => Sz.nil _
  | v :: l, k, b, k0, hk, h => by
    simp only [List.length_cons] at hk
    intro w hw
    rcases List.mem_cons.mp hw with rfl | hw
    · rw [Nat.add_comm]
      exact mul_bits (show k.natAbs < 2 ^ e by omega) (h v List.mem_cons_self)
    · exact derF_sz l (k + 1) b (by omega) (by omega) (fun u hu => h u (List.mem_cons_of_mem _ hu)) w hw
theorem der_sz {l : List Int} {b e : Nat} (h : Sz b l) (hl : l.length ≤ 2 ^ e) : Sz (b + e) (derI l) := fun v hv =>
  derF_sz l 0 b (by decide) (by omega) h v (List.mem_of_mem_drop hv)
structure FreeR (items f : List Int) : Prop where
  ex : ∃ h q, ComR items (derI items) h ∧ ExR h (primI items) (List.replicate ((primI items).length - h.length + 1) 0) (some q) ∧ f = primI q ∧ h.length ≤ (primI items).length ∧ Sz (2 * Lim) q ∧ Tr q ∧ q.length < 1000 ∧ Tr h ∧ h ≠ []
structure IsFree (items f : List Int) : Prop where
  tr : Tr f
  ne : f ≠ []
  prm : Prm f
  pos : 0 < lst f
  len : f.length ≤ items.length
  dv : Dv (iq f) (iq items)
  /-- both vanish at the same cuts -/
  z : ∀ c, Z c (ei f) ↔ Z c (ei items)
  /-- what is divided by is the common divisor with the derivative -/
  q : ∃ h, IsGcd items (derI items) h ∧ ∃ s : Rat, s ≠ 0 ∧ ∀ x, ei items x = ei h x * (s * ei f x)
  /-- f and its derivative have no common factor -/
  cop : ∀ d : List Rat, Dv d (iq f) → Dv d (dq (iq f)) → ∀ m, Dg (ev d) m → m = 0
end ST
namespace ST
open RO PO L2 DL
theorem rem_any {other : List Int} (h0 : other ≠ []) (ho : Tr other) : ∀ (n : Nat) {one : List Int}, Tr one → one.length ≤ n →
    ∃ r, Tr r ∧ r.length < other.length ∧ ∃ c : Rat, 0 < c ∧ ∃ m : List Rat, ∀ x, c * ei one x = ev m x * ei other x + ei r x
  | n, one, t1, hl => by
    by_cases l : one.length < other.length
    · exact ⟨one, t1, l, 1, by decide, [], fun x => by rw [ev_nil]; grind⟩
    · have l0 := List.length_pos_iff.mpr h0
      cases n with
      | zero => omega
      | succ n =>
        obtain ⟨r, h2, h3, c, c0, m, h5⟩ := rem_any h0 ho n (one := stepI one other) (step_tr _ _) (by have := step_len (show other.length ≤ one.length by omega) h0 ho; omega)
        obtain ⟨a', a0, m', h6⟩ := step_ei (one := one) h0 ho
        refine ⟨r, h2, h3, c * a', Rat.mul_pos c0 a0, addq (smulq c m') m, fun x => ?_⟩
        rw [ev_add, ev_smul]
        have := h5 x
        have := h6 x
        grind
theorem gcd_any : ∀ (n : Nat) {one other : List Int}, Tr one → Tr other → (one ≠ [] ∨ other ≠ []) → other.length ≤ n → ∃ h, IsGcd one other h
  | n, one, other, t1, t2, hn, l2 => by
    by_cases e : other = []
    · subst e
      have n1 : one ≠ [] := hn.resolve_right (fun q => q rfl)
      have z := signed_ne t1 n1
      refine ⟨primI one, primI_tr t1, fun q => n1 (List.map_eq_nil_iff.mp q), primI_prm t1 n1, primI_lst t1 n1, ?_, ?_, ?_⟩
      · refine ⟨[((signed one : Int) : Rat)⁻¹], [], fun x => ?_⟩
        have h1 := primI_ei t1 n1 x
        have := cast0 z
        show _ = (_ + x * 0) * _ + 0 * _
        rw [h1]
        generalize ((signed one : Int) : Rat) = S at this
        have h2 : S⁻¹ * S = 1 := by grind
        grind
      · exact ⟨[((signed one : Int) : Rat)], fun x => by
          have := primI_ei t1 n1 x
          unfold ei at this
          rw [this]
          show _ = _ * (_ + x * 0)
          grind⟩
      · exact ⟨[], fun x => by show (0 : Rat) = _ * 0; grind⟩
    · have l0 := List.length_pos_iff.mpr e
      cases n with
      | zero => omega
      | succ n =>
        obtain ⟨r, tr, lr, c, c0, m, hm⟩ := rem_any e t2 _ t1 (Nat.le_refl _)
        obtain ⟨h, g⟩ := gcd_any n t2 tr (.inl e) (by omega)
        refine ⟨h, g.tr, g.ne, g.prm, g.pos, ?_, ?_, g.d1⟩
        · obtain ⟨u, v, huv⟩ := g.bz
          refine ⟨smulq c v, addq u (smulq (-1) (mulq v m)), fun x => ?_⟩
          rw [huv x, ev_smul, ev_add, ev_smul, ev_mul]
          have := hm x
          grind
        · obtain ⟨q1, h1⟩ := g.d1
          obtain ⟨q2, h2⟩ := g.d2
          refine ⟨smulq (c⁻¹) (addq (mulq m q1) q2), fun x => ?_⟩
          have h3 := hm x
          have h4 : ei other x = ei h x * ev q1 x := h1 x
          have h5 : ei r x = ei h x * ev q2 x := h2 x
          rw [h4, h5] at h3
          show ei one x = ei h x * _
          rw [ev_smul, ev_add, ev_mul]
          have : c⁻¹ * c = 1 := by grind
          calc ei one x = c⁻¹ * (c * ei one x) := by grind
            _ = _ := by rw [h3]; grind
theorem dv_len {a b : List Int} (ha : Tr a) (na : a ≠ []) (hb : Tr b) (nb : b ≠ []) (h : Dv (iq a) (iq b)) : a.length ≤ b.length := by
  obtain ⟨q, hq⟩ := h
  rcases dg_or q with z | ⟨m, hm⟩
  · obtain ⟨M, hM⟩ := (tr_dg hb nb).far
    exact absurd ((hq M).trans (by rw [nul_ev z]; grind)) (hM M (by grind))
  · have := (tr_dg hb nb).uniq (((tr_dg ha na).mul hm).congr fun x => (hq x).symm)
    have := List.length_pos_iff.mpr na
    have := List.length_pos_iff.mpr nb
    omega
/-- g = h F, g' = h k, u F + v k = 1 -/
structure FD (g : List Rat) (h : List Int) (F k u v : List Rat) : Prop where
  tr : Tr h
  ne : h ≠ []
  e : ∀ x, ev g x = ei h x * ev F x
  e' : ∀ x, ev (dq g) x = ei h x * ev k x
  bz : ∀ x, ev u x * ev F x + ev v x * ev k x = 1
theorem fd_of {p h : List Int} (hp : Tr p) (G : IsGcd p (derI p) h) : ∃ F k u v, FD (iq p) h F k u v := by
  obtain ⟨F, hF⟩ := G.d1
  obtain ⟨k, hk⟩ := G.d2
  obtain ⟨u, v, huv⟩ := G.bz
  refine ⟨F, k, u, v, G.tr, G.ne, hF, fun x => by rw [← ei_der]; exact hk x, fun x => ?_⟩
  have key : ∀ x, ev (addq (mulq u F) (mulq v k)) x = ev [1] x := cancel (tr_dg G.tr G.ne) fun x => by
    rw [ev_add, ev_mul, ev_mul, ev_one]
    have h1 := huv x
    have h2 : ei p x = ei h x * ev F x := hF x
    have h3 : ei (derI p) x = ei h x * ev k x := hk x
    rw [h2, h3] at h1
    show ei h x * _ = ei h x * 1
    grind
  have := key x
  rw [ev_add, ev_mul, ev_mul, ev_one] at this
  exact this
theorem FD.hk {g F k u v : List Rat} {h : List Int} (D : FD g h F k u v) (x : Rat) : ev (dq (iq h)) x * ev F x = ei h x * (ev k x - ev (dq F) x) := by
  have h1 : ev (dq g) x = ev (dq (iq h)) x * ev F x + ei h x * ev (dq F) x := by
    rw [show ei h x = ev (iq h) x from rfl, ← ev_dmul]
    exact d_congr (fun y => by rw [ev_mul]; exact D.e y) x
  have h2 := D.e' x
  grind
theorem not_z_const {l : List Int} (ht : Tr l) (n : l ≠ []) (h : l.length ≤ 1) (c : Cut) : ¬ Z c (ei l) := by
  obtain ⟨a, e, z⟩ := tr_form ht n
  have a0 : a = [] := by
    have := congrArg List.length e
    rw [List.length_append, List.length_singleton] at this
    exact List.eq_nil_of_length_eq_zero (by omega)
  subst a0
  intro hz
  have q : ∀ x, ei l x = (lst l : Rat) := fun x => by
    conv => lhs; rw [e]
    show _ + x * 0 = _
    grind
  have zq := cast0 z
  by_cases s : 0 < (lst l : Rat)
  · exact hz.not_pos ⟨_, 1, s, by decide, fun x _ => by rw [q]; grind⟩
  · exact hz.not_neg ⟨-(lst l : Rat), 1, by grind, by decide, fun x _ => by rw [q]; grind⟩
theorem FD.z {c : Cut} : ∀ (n : Nat) {g F k u v : List Rat} {h : List Int}, FD g h F k u v → h.length ≤ n → Z c (ev g) → Z c (ev F)
  | n, g, F, k, u, v, h, D, hl, hz => by
    have hz2 : Z c fun x => ev (iq h) x * ev F x := hz.congr D.e
    rcases hz2.of_mul with zh | zf
    · by_cases l1 : h.length ≤ 1
      · exact absurd zh (not_z_const D.tr D.ne l1 c)
      · cases n with
        | zero => omega
        | succ n =>
          have td := der_tr D.tr
          have nd : derI h ≠ [] := fun e => by
            have := der_len h
            rw [e] at this
            simp at this
            omega
          obtain ⟨h2, G⟩ := gcd_any _ D.tr td (.inl D.ne) (Nat.le_refl _)
          obtain ⟨a1, k1, u1, v1, D2⟩ := fd_of D.tr G
          have l2 := dv_len G.tr G.ne td nd G.d2
          rw [der_len] at l2
          have za := FD.z n D2 (by omega) zh
          have key : ∀ x, ev (mulq k1 F) x = ev (mulq a1 (addq k (smulq (-1) (dq F)))) x := cancel (tr_dg G.tr G.ne) fun x => by
            rw [ev_mul, ev_mul, ev_add, ev_smul]
            have h1 := D.hk x
            rw [D2.e' x, show ei h x = ev (iq h) x from rfl, D2.e x] at h1
            show ei h2 x * _ = ei h2 x * _
            grind
          refine (za.mulp (addq (mulq u1 F) (mulq v1 (addq k (smulq (-1) (dq F)))))).congr fun x => ?_
          have h1 := D2.bz x
          have h2 := key x
          rw [ev_mul, ev_mul] at h2
          rw [ev_add, ev_mul, ev_mul]
          calc (ev u1 x * ev F x + ev v1 x * ev (addq k (smulq (-1) (dq F))) x) * ev a1 x
              = ev u1 x * ev F x * ev a1 x + ev v1 x * (ev a1 x * ev (addq k (smulq (-1) (dq F))) x) := by grind
            _ = ev u1 x * ev F x * ev a1 x + ev v1 x * (ev k1 x * ev F x) := by rw [h2]
            _ = (ev u1 x * ev a1 x + ev v1 x * ev k1 x) * ev F x := by grind
            _ = ev F x := by rw [h1]; grind
    · exact zf
/-- a number that is not 0 times a list -/
theorem iq_smul_cop {F f : List Rat} {s : Rat} (h : ∀ x, ev F x = s * ev f x) {d : List Rat} (h1 : Dv d f) (h2 : Dv d (dq f)) : Dv d F ∧ Dv d (dq F) := by
  obtain ⟨q1, e1⟩ := h1
  obtain ⟨q2, e2⟩ := h2
  refine ⟨⟨smulq s q1, fun x => by rw [ev_smul, h, e1]; grind⟩, ⟨smulq s q2, fun x => ?_⟩⟩
  have := d_congr (p := F) (q := smulq s f) (fun y => by rw [ev_smul]; exact h y) x
  rw [this, ev_dsmul, ev_smul, e2]; grind
theorem free_ex {n a e : Nat} {items : List Int} (ht : Tr items) (hn : items ≠ []) (hs : Sz a items) (hl : items.length ≤ n + 1) (he : items.length ≤ 2 ^ e) (h9 : n < 900)
    (hH : cbits n a (a + e) ≤ Lim) (hq : a + (n + 1) * (cbits n a (a + e) + 1) ≤ 2 * Lim) : ∃ f, FreeR items f ∧ IsFree items f ∧ Sz (a + (n + 1) * (cbits n a (a + e) + 1)) f := by
  obtain ⟨h, hc, G, sh⟩ := com_ex n ht (der_tr ht) hs (der_sz hs he) (.inl hn) hl (by rw [der_len]; omega) hH h9
  have tp := primI_tr ht
  have np : primI items ≠ [] := fun q => hn (List.map_eq_nil_iff.mp q)
  have s0 := cast0 (signed_ne ht hn)
  have ep := primI_ei ht hn
  have dp : Dv (iq h) (iq (primI items)) := by
    obtain ⟨q, hq⟩ := G.d1
    refine ⟨smulq (((signed items : Int) : Rat)⁻¹) q, fun x => ?_⟩
    have h1 : ei items x = ei h x * ev q x := hq x
    rw [ep x] at h1
    show ei (primI items) x = ei h x * _
    rw [ev_smul]
    generalize ((signed items : Int) : Rat) = S at *
    have : S⁻¹ * S = 1 := by grind
    calc ei (primI items) x = S⁻¹ * (S * ei (primI items) x) := by grind
      _ = _ := by rw [h1]; grind
  obtain ⟨q, tq, eq⟩ := quot_int G.tr G.prm dp
  have nq : q ≠ [] := fun z => by
    subst z
    obtain ⟨M, hM⟩ := (tr_dg tp np).far
    exact hM M (by grind) (by rw [eq, ei_nil]; grind)
  have lq : (primI items).length = h.length + q.length - 1 := by
    have := (tr_dg tp np).uniq (((tr_dg G.tr G.ne).mul (tr_dg tq nq)).congr fun x => (eq x).symm)
    have := List.length_pos_iff.mpr G.ne
    have := List.length_pos_iff.mpr nq
    have := List.length_pos_iff.mpr np
    omega
  have lp := primI_len items
  have l1 := List.length_pos_iff.mpr G.ne
  have l2 := List.length_pos_iff.mpr nq
  have ab := cbits_le n a (a + e)
  obtain ⟨x1, x2⟩ := ex_ex G.tr G.ne sh (n + 1) (t := []) tp tq (primI_sz ht hs) (by omega) hq (by omega) (by omega) eq
  rw [List.append_nil, List.append_nil] at x1
  have sq0 := cast0 (signed_ne tq nq)
  have efq : ∀ x, ei items x = ei h x * (((signed items : Int) : Rat) * ((signed q : Int) : Rat) * ei (primI q) x) := fun x => by
    rw [ep x, eq x, primI_ei tq nq x]; grind
  obtain ⟨F, k, u, v, D⟩ := fd_of ht G
  have eF : ∀ x, ev F x = (((signed items : Int) : Rat) * ((signed q : Int) : Rat)) * ev (iq (primI q)) x := fun x => by
    rw [← ev_smul]
    refine cancel (tr_dg G.tr G.ne) (fun y => ?_) x
    rw [ev_smul]
    have h1 := D.e y
    have h2 := efq y
    show ei h y * ev F y = ei h y * (_ * ei (primI q) y)
    rw [← h1, ← h2]; rfl
  have ss0 : ((signed items : Int) : Rat) * ((signed q : Int) : Rat) ≠ 0 := by
    intro z
    rcases Rat.mul_eq_zero.mp z with z | z <;> contradiction
  refine ⟨primI q, ⟨h, q, hc, ?_, rfl, by omega, x2.mono (by omega), tq, by omega, G.tr, G.ne⟩, ⟨primI_tr tq, fun z => nq (List.map_eq_nil_iff.mp z), primI_prm tq nq, primI_lst tq nq, ?_, ?_, fun c => ⟨fun z => ?_, fun z => ?_⟩, ⟨h, G, _, ss0, efq⟩, fun d d1 d2 m hm => ?_⟩, primI_sz tq x2⟩
  · rw [show (primI items).length - h.length + 1 = q.length from by omega]
    exact x1
  · rw [primI_len]; omega
  · refine ⟨smulq (((signed items : Int) : Rat) * ((signed q : Int) : Rat)) (iq h), fun x => ?_⟩
    have := efq x
    show ei items x = ei (primI q) x * _
    rw [ev_smul, this]
    show _ = _ * (_ * ei h x)
    grind
  · refine ((z.mulp (iq h)).smul (((signed items : Int) : Rat) * ((signed q : Int) : Rat))).congr fun x => ?_
    have := efq x
    rw [this]
    show _ * (ei h x * _) = _
    grind
  · have zF := FD.z _ D (Nat.le_refl _) z
    refine (zF.smul ((((signed items : Int) : Rat) * ((signed q : Int) : Rat))⁻¹)).congr fun x => ?_
    rw [eF x]
    show _ * (_ * ei (primI q) x) = _
    generalize ((signed items : Int) : Rat) * ((signed q : Int) : Rat) = S at ss0 ⊢
    have : S⁻¹ * S = 1 := by grind
    grind
  · obtain ⟨f1, f2⟩ := iq_smul_cop eF d1 d2
    exact free_const (tr_dg D.tr D.ne) D.e D.e' D.bz f1 f2 hm
def negI (r : List Int) : List Int := combI [] 1 r (-1) 0
theorem neg_ei (r : List Int) (x : Rat) : ei (negI r) x = -ei r x := by
  unfold negI
  rw [ei_comb, ei_nil, Rat.intCast_neg]
  rw [show ((1 : Int) : Rat) = 1 from rfl]
  grind
theorem neg_sz {r : List Int} {b : Nat} (h : Sz b r) : Sz b (negI r) := by
  refine Sz.trim (Sz.of_getD fun j => ?_)
  rw [combU_getD]
  simp only [Nat.zero_le, if_true, Nat.sub_zero, List.getD_eq_getElem?_getD, List.getElem?_nil, Option.getD_none, Int.mul_zero, Int.zero_add]
  have := h.getD j
  rw [List.getD_eq_getElem?_getD] at this
  omega
theorem neg_len (r : List Int) : (negI r).length ≤ r.length := by
  have h := trim_len (combU [] 1 r (-1) 0)
  rw [combU_len] at h
  unfold negI combI
  simp at h
  omega
theorem neg_tr (r : List Int) : Tr (negI r) := trim_tr _
inductive ChR : List Int → List Int → List (List Int) → Prop
  | done {p} : ChR p [] []
  | step {p q r l} : q ≠ [] → RemR q p r → Sz (2 * Lim) r → r.length < 1000 → ChR q (negI r) l → ChR p q (q :: l)
theorem ch_ex : ∀ (n : Nat) {p q : List Int} {a b : Nat}, Tr p → p ≠ [] → Tr q → Sz a p → Sz b q → p.length ≤ n + 1 → q.length ≤ n → q.length < p.length → cbits n a b ≤ Lim → n < 900 →
    ∃ l, ChR p q l ∧ Ch ((p :: l).map iq) ∧ l.length ≤ n ∧ (∀ y ∈ l, Sz (cbits n a b) y ∧ Tr y ∧ y ≠ [] ∧ y.length ≤ n) ∧ (l = [] ∨ l.head? = some q) ∧ (l = [] → q = [])
      ∧ ∃ d : List Int, Tr d ∧ d ≠ [] ∧ Dv (iq d) (iq p) ∧ Dv (iq d) (iq q) ∧ ∀ c, ¬ Z c (ei d) → LastNZ c ((p :: l).map iq)
  | n, p, q, a, b, tp, np, tq, sp, sq, lp, lq, lpq, hB, h9 => by
    by_cases e : q = []
    · subst e
      refine ⟨[], .done, trivial, Nat.zero_le _, (fun _ h => by cases h), .inl rfl, fun _ => rfl, p, tp, np, ⟨[1], fun x => by rw [ev_one]; grind⟩, ⟨[], fun x => by show (0 : Rat) = _ * 0; grind⟩, fun c h => h⟩
    · cases n with
      | zero => exact absurd (List.eq_nil_of_length_eq_zero (by omega)) e
      | succ n =>
        have hB : cbits n b (a + (n + 2) * (b + 1)) ≤ Lim := hB
        have ab := cbits_le n b (a + (n + 2) * (b + 1))
        have l0 := List.length_pos_iff.mpr e
        obtain ⟨r, hr, tr, lr, sr, c, c0, m, hm⟩ := rem_ex e tq sq (n + 2) tp sp (by omega) (by omega) (by omega) (by omega)
        have ln := neg_len r
        obtain ⟨l, hl, ch, ll, ys, hd, hd2, d, td, nd, d1, d2, dz⟩ := ch_ex n tq e (neg_tr r) sq (neg_sz sr) (by omega) (by omega) (by omega) hB (by omega)
        refine ⟨q :: l, .step e hr (sr.mono (by omega)) (by omega) hl, ?_, by simpa using ll, ?_, .inr rfl, (fun h => by cases h), d, td, nd, ?_, d1, dz⟩
        · cases l with
          | nil => trivial
          | cons y l =>
            have hy : y = negI r := by
              rcases hd with h | h
              · cases h
              · exact Option.some.inj h
            refine ⟨⟨c, 1, c0, by decide, m, fun x => ?_⟩, ch⟩
            have h1 := hm x
            have h2 := neg_ei r x
            rw [← hy] at h2
            show c * ei p x = ev m x * ei q x - 1 * ei y x
            rw [h1, h2]; grind
        · intro y hy
          rcases List.mem_cons.mp hy with rfl | hy
          · exact ⟨sq.mono ab.1, tq, e, by omega⟩
          · obtain ⟨y1, y2, y3, y4⟩ := ys y hy
            exact ⟨y1, y2, y3, by omega⟩
        · obtain ⟨q1, e1⟩ := d1
          obtain ⟨q2, e2⟩ := d2
          refine ⟨smulq (c⁻¹) (addq (mulq m q1) (smulq (-1) q2)), fun x => ?_⟩
          have h3 := hm x
          have h4 : ei q x = ei d x * ev q1 x := e1 x
          have h5 : ei (negI r) x = ei d x * ev q2 x := e2 x
          rw [neg_ei] at h5
          rw [h4, show ei r x = -(ei d x * ev q2 x) from by grind] at h3
          show ei p x = ei d x * _
          rw [ev_smul, ev_add, ev_mul, ev_smul]
          have : c⁻¹ * c = 1 := by grind
          calc ei p x = c⁻¹ * (c * ei p x) := by grind
            _ = _ := by rw [h3]; grind
/-- the chain of a list without multiple roots has what Sturm's theorem asks -/
theorem chain_sturm {n a b : Nat} {items f : List Int} (hf : IsFree items f) (sf : Sz a f) (sd : Sz b (derI f)) (hl : f.length ≤ n + 1) (hB : cbits n a b ≤ Lim) (h9 : n < 900) :
    ∃ l, ChR f (derI f) l ∧ Sturm (iq f) (l.map iq) ∧ l.length ≤ n ∧ ∀ y ∈ f :: l, Sz (cbits n a b) y ∧ Tr y ∧ y ≠ [] ∧ y.length ≤ n + 1 := by
  have dl := der_len f
  have f0 := List.length_pos_iff.mpr hf.ne
  obtain ⟨l, h1, h2, h3, h4, h5, h6, d, td, nd, d1, d2, dz⟩ := ch_ex n hf.tr hf.ne (der_tr hf.tr) sf sd hl (by omega) (by omega) hB h9
  refine ⟨l, h1, ⟨h2, fun c => ?_, fun q hq => ?_⟩, h3, fun y hy => ?_⟩
  · refine dz c ?_
    obtain ⟨q, e⟩ := d2
    have := hf.cop (iq d) d1 ⟨q, fun x => by rw [← ei_der]; exact e x⟩ _ (tr_dg td nd)
    exact not_z_const td nd (by omega) c
  · rcases h5 with h5 | h5
    · subst h5; cases hq
    · cases l with
      | nil => cases hq
      | cons y l =>
        have e1 : y = derI f := Option.some.inj h5
        have e2 : iq y = q := Option.some.inj hq
        refine ⟨1, by decide, fun x => ?_⟩
        rw [← e2, e1, ← ei_der, Rat.one_mul]; rfl
  · rcases List.mem_cons.mp hy with rfl | hy
    · exact ⟨sf.mono (cbits_le n a b).1, hf.tr, hf.ne, hl⟩
    · obtain ⟨y1, y2, y3, y4⟩ := h4 y hy
      exact ⟨y1, y2, y3, by omega⟩
end ST
namespace ST
open RO PO L2 DL
def sgZ (z : Int) : Int := if 0 < z then 1 else if z < 0 then -1 else 0
theorem sg_int (z : Int) : sg (z : Rat) = sgZ z := by
  unfold sg sgZ
  have h1 : ((0 : Rat) < (z : Rat)) ↔ 0 < z := Rat.intCast_pos
  have h2 : ((z : Rat) < 0) ↔ z < 0 := Rat.intCast_neg_iff
  simp only [h1, h2]
theorem sg_mul_pos {x y : Rat} (h : 0 < y) : sg (x * y) = sg x := by
  rcases sg_or x with e | e | e
  · have : x = 0 := by
      unfold sg at e
      split at e
      · cases e
      · split at e
        · cases e
        · grind
    rw [this, Rat.zero_mul]
  · have : 0 < x := by
      unfold sg at e
      split at e
      · assumption
      · split at e <;> cases e
    rw [e, sg_pos (Rat.mul_pos this h)]
  · have : x < 0 := by
      unfold sg at e
      split at e
      · cases e
      · split at e
        · assumption
        · cases e
    rw [e]
    have := Rat.mul_pos (show 0 < -x by grind) h
    exact sg_neg (by grind)
theorem pow_pos' {b : Rat} (h : 0 < b) : ∀ n : Nat, 0 < b ^ n
  | 0 => by rw [Rat.pow_zero]; decide
  | n + 1 => by rw [Rat.pow_succ]; exact Rat.mul_pos (pow_pos' h n) h
/-- the sign of a list's value by whole numbers -/
theorem sg_vo {t b : Int} (hb : 0 < b) (p : List Int) : sgZ (voI t b p).1 = sg (ei p ((t : Rat) / (b : Rat))) := by
  have hq : (0 : Rat) < (b : Rat) := Rat.intCast_pos.mpr hb
  have h := vo_rv (t := t) (b := b) (by omega) p
  rw [← sg_int, ← sg_mul_pos hq, h, sg_mul_pos (pow_pos' hq _), ei_rv]
theorem ev_low : ∀ (p : List Rat) (v : Rat), 0 < v → ∃ M δ : Rat, 0 < M ∧ 0 < δ ∧ ∀ x, x ≤ -M → δ ≤ (if p.length % 2 = 0 then 1 else -1) * ev (p ++ [v]) x
  | [], v, h => ⟨1, v, by decide, h, fun x _ => by show v ≤ 1 * (v + x * 0); grind⟩
  | a :: p, v, h => by
    obtain ⟨M, δ, hM, hd, hx⟩ := ev_low p v h
    obtain ⟨A, hA⟩ := bd_ex a
    have ha := hA.nn
    have h1 : 0 ≤ A / δ := by
      rw [Rat.div_def]
      exact Rat.mul_nonneg ha (Rat.le_of_lt (Rat.inv_pos.mpr hd))
    refine ⟨M + A / δ + 1, δ, by grind, hd, fun x h => ?_⟩
    have h2 := hx x (by grind)
    have e : (if (a :: p).length % 2 = 0 then (1 : Rat) else -1) = -(if p.length % 2 = 0 then 1 else -1) := by
      rw [List.length_cons]
      by_cases k : p.length % 2 = 0
      · rw [if_pos k, if_neg (by omega)]
      · rw [if_neg k, if_pos (by omega)]; grind
    rw [e]
    show δ ≤ _ * (a + x * ev (p ++ [v]) x)
    generalize hs : (if p.length % 2 = 0 then (1 : Rat) else -1) = s at h2 ⊢
    have hs2 : s = 1 ∨ s = -1 := by
      rw [← hs]; split
      · exact .inl rfl
      · exact .inr rfl
    have h3 : A / δ * δ = A := by grind
    have h4 : 0 ≤ (-x - (A / δ + 1)) * δ := Rat.mul_nonneg (by grind) (by grind)
    have h5 : 0 ≤ -x * (s * ev (p ++ [v]) x - δ) := Rat.mul_nonneg (by grind) (by grind)
    have := hA.1
    have := hA.2
    rcases hs2 with rfl | rfl <;> grind
def par (n : Nat) : Int := if n % 2 = 0 then -1 else 1
theorem low_sg {l : List Int} (ht : Tr l) (n : l ≠ []) : ∃ M : Rat, ∀ x, x ≤ -M → sg (ei l x) = sgZ (lst l) * par l.length := by
  obtain ⟨a, e, z⟩ := tr_form ht n
  have eq : ∀ x, ei l x = ev (iq a ++ [(lst l : Rat)]) x := fun x => by
    show ev (iq l) x = _
    conv => lhs; rw [e]
    rw [iq_app]; rfl
  have ln : l.length = a.length + 1 := by
    have := congrArg List.length e
    rw [List.length_append, List.length_singleton] at this
    exact this
  have la : (iq a).length = a.length := by unfold iq; rw [List.length_map]
  have ps : ∀ s : Rat, 0 < s → sg s = 1 := fun s h => sg_pos h
  by_cases h : 0 < lst l
  · obtain ⟨M, δ, _, hd, hx⟩ := ev_low (iq a) (lst l : Rat) (Rat.intCast_pos.mpr h)
    refine ⟨M, fun x hxM => ?_⟩
    have := hx x hxM
    rw [← eq, la] at this
    rw [show sgZ (lst l) = 1 from if_pos h, Int.one_mul, ln]
    unfold par
    by_cases k : a.length % 2 = 0
    · rw [if_pos k] at this
      rw [if_neg (by omega)]
      exact sg_pos (by grind)
    · rw [if_neg k] at this
      rw [if_pos (by omega)]
      exact sg_neg (by grind)
  · have hn : lst l < 0 := by omega
    obtain ⟨M, δ, _, hd, hx⟩ := ev_low (smulq (-1) (iq a)) (-1 * (lst l : Rat)) (by have := Rat.intCast_neg_iff.mpr hn; grind)
    refine ⟨M, fun x hxM => ?_⟩
    have := hx x hxM
    rw [← smul_app, ev_smul, ← eq] at this
    rw [show (smulq (-1) (iq a)).length = a.length from by unfold smulq; rw [List.length_map, la]] at this
    rw [show sgZ (lst l) = -1 from by unfold sgZ; rw [if_neg h, if_pos hn], ln]
    unfold par
    by_cases k : a.length % 2 = 0
    · rw [if_pos k] at this
      rw [if_neg (by omega)]
      exact sg_neg (by grind)
    · rw [if_neg k] at this
      rw [if_pos (by omega)]
      exact sg_pos (by grind)
theorem high_sg {l : List Int} (ht : Tr l) (n : l ≠ []) : ∃ M : Rat, ∀ x, M ≤ x → sg (ei l x) = sgZ (lst l) := by
  obtain ⟨a, e, z⟩ := tr_form ht n
  have eq : ∀ x, ei l x = ev (iq a ++ [(lst l : Rat)]) x := fun x => by
    show ev (iq l) x = _
    conv => lhs; rw [e]
    rw [iq_app]; rfl
  by_cases h : 0 < lst l
  · obtain ⟨M, δ, _, hd, hx⟩ := ev_far (iq a) (lst l : Rat) (Rat.intCast_pos.mpr h)
    refine ⟨M, fun x hxM => ?_⟩
    have := hx x hxM
    rw [← eq] at this
    rw [show sgZ (lst l) = 1 from if_pos h]
    exact sg_pos (by grind)
  · have hn : lst l < 0 := by omega
    obtain ⟨M, δ, _, hd, hx⟩ := ev_far (smulq (-1) (iq a)) (-1 * (lst l : Rat)) (by have := Rat.intCast_neg_iff.mpr hn; grind)
    refine ⟨M, fun x hxM => ?_⟩
    have := hx x hxM
    rw [← smul_app, ev_smul, ← eq] at this
    rw [show sgZ (lst l) = -1 from by unfold sgZ; rw [if_neg h, if_pos hn]]
    exact sg_neg (by grind)
theorem all_low : ∀ (l : List (List Int)), (∀ p ∈ l, Tr p ∧ p ≠ []) → ∃ M : Rat, ∀ x, x ≤ -M → sgs (l.map iq) x = l.map fun p => sgZ (lst p) * par p.length
  | [], _ => ⟨0, fun _ _ => rfl⟩
  | p :: l, h => by
    obtain ⟨M, hM⟩ := all_low l fun q hq => h q (List.mem_cons_of_mem _ hq)
    obtain ⟨N, hN⟩ := low_sg (h p List.mem_cons_self).1 (h p List.mem_cons_self).2
    obtain ⟨B, hB⟩ := bd_ex M
    obtain ⟨C, hC⟩ := bd_ex N
    have := hB.nn
    have := hC.nn
    have := hB.2
    have := hC.2
    refine ⟨B + C, fun x hx => ?_⟩
    show sg (ei p x) :: sgs (l.map iq) x = _
    rw [hM x (by grind), hN x (by grind)]
    rfl
theorem all_high : ∀ (l : List (List Int)), (∀ p ∈ l, Tr p ∧ p ≠ []) → ∃ M : Rat, ∀ x, M ≤ x → sgs (l.map iq) x = l.map fun p => sgZ (lst p)
  | [], _ => ⟨0, fun _ _ => rfl⟩
  | p :: l, h => by
    obtain ⟨M, hM⟩ := all_high l fun q hq => h q (List.mem_cons_of_mem _ hq)
    obtain ⟨N, hN⟩ := high_sg (h p List.mem_cons_self).1 (h p List.mem_cons_self).2
    obtain ⟨B, hB⟩ := bd_ex M
    obtain ⟨C, hC⟩ := bd_ex N
    have := hB.nn
    have := hC.nn
    have := hB.2
    have := hC.2
    refine ⟨B + C, fun x hx => ?_⟩
    show sg (ei p x) :: sgs (l.map iq) x = _
    rw [hM x (by grind), hN x (by grind)]
    rfl
theorem NN_low : ∀ cs : List Cut, ∃ M : Rat, ∀ x, x ≤ -M → NN cs x = 0
  | [] => ⟨0, fun _ _ => rfl⟩
  | c :: cs => by
    obtain ⟨M, hM⟩ := NN_low cs
    obtain ⟨u, hu⟩ := c.lo_ex
    obtain ⟨B, hB⟩ := bd_ex M
    obtain ⟨C, hC⟩ := bd_ex u
    have := hB.nn
    have := hC.nn
    have := hB.2
    have := hC.1
    refine ⟨B + C, fun x hx => ?_⟩
    rw [NN, hM x (by grind), if_pos (c.lo_dn (by grind) hu)]
theorem NN_high : ∀ cs : List Cut, ∃ M : Rat, ∀ x, M ≤ x → NN cs x = cs.length
  | [] => ⟨0, fun _ _ => rfl⟩
  | c :: cs => by
    obtain ⟨M, hM⟩ := NN_high cs
    obtain ⟨u, hu⟩ := c.hi_ex
    obtain ⟨B, hB⟩ := bd_ex M
    obtain ⟨C, hC⟩ := bd_ex u
    have := hB.nn
    have := hC.nn
    have := hB.2
    have := hC.2
    refine ⟨B + C, fun x hx => ?_⟩
    rw [NN, hM x (by grind), if_neg fun q => by have := c.dis q hu; grind, List.length_cons, Nat.add_comm]
/-- the changes of sign at a bound; none: far below (turn -1) or far above (turn 1) -/
def chgV (l : List (List Int)) (turn : Int) : Option (Int × Int) → Nat
  | none => chg (l.map fun p => sgZ (lst p) * (if p.length % 2 = 0 then turn else 1))
  | some (t, b) => chg (l.map fun p => sgZ (voI t b p).1)
def BdOk (b : Option (Int × Int)) : Prop := ∀ t u, b = some (t, u) → 0 < u ∧ t.natAbs < 2 ^ 5000 ∧ u.natAbs < 2 ^ 5000
structure CountR (items : List Int) (lo hi : Option (Int × Int)) (n : Int) : Prop where
  ex : ∃ f l, FreeR items f ∧ ChR f (derI f) l ∧ (∀ y ∈ f :: l, y ≠ [] ∧ Sz Lim y ∧ y.length ≤ 60) ∧ l.length ≤ 60 ∧ n = (chgV (f :: l) (-1) lo : Int) - (chgV (f :: l) 1 hi : Int)
  lo : BdOk lo
  hi : BdOk hi
noncomputable def NB (cs : List Cut) (far : Nat) : Option (Int × Int) → Nat
  | none => far
  | some (t, b) => NN cs ((t : Rat) / (b : Rat))
theorem Cuts.congr {p q : List Rat} {cs : List Cut} (C : Cuts p cs) (h : ∀ c, Z c (ev p) ↔ Z c (ev q)) : Cuts q cs :=
  ⟨fun d hd => (h d).mp (C.z d hd), fun c hc => C.all c ((h c).mpr hc), C.one⟩
theorem sturm2 {p : List Rat} {l : List (List Rat)} (S : Sturm p l) {cs : List Cut} (C : Cuts p cs) (a b : Rat) :
    VV (p :: l) a + NN cs a = VV (p :: l) b + NN cs b := by
  by_cases h : a ≤ b
  · exact sturm S C h
  · exact (sturm S C (show b ≤ a by grind)).symm
theorem chgV_eq {f : List Int} {l : List (List Int)} (S : Sturm (iq f) (l.map iq)) (hy : ∀ y ∈ f :: l, Tr y ∧ y ≠ []) {cs : List Cut} (C : Cuts (iq f) cs) :
    ∃ K : Nat, (∀ b, BdOk b → chgV (f :: l) (-1) b + NB cs 0 b = K) ∧ (∀ b, BdOk b → chgV (f :: l) 1 b + NB cs cs.length b = K) := by
  have at' : ∀ t u : Int, 0 < u → chgV (f :: l) (-1) (some (t, u)) = VV (iq f :: l.map iq) ((t : Rat) / (u : Rat)) := fun t u hu => by
    show chg ((f :: l).map fun p => sgZ (voI t u p).1) = chg (((f :: l).map iq).map fun p => sg (ev p _))
    rw [List.map_map]
    congr 1
    refine List.map_congr_left fun p _ => ?_
    exact sg_vo hu p
  refine ⟨VV (iq f :: l.map iq) 0 + NN cs 0, fun b hb => ?_, fun b hb => ?_⟩
  · cases b with
    | none =>
      obtain ⟨M, hM⟩ := all_low (f :: l) hy
      obtain ⟨N, hN⟩ := NN_low cs
      obtain ⟨B, hB⟩ := bd_ex M
      obtain ⟨D, hD⟩ := bd_ex N
      have := hB.nn
      have := hD.nn
      have := hB.2
      have := hD.2
      rw [sturm2 S C 0 (-(B + D)), hN _ (by grind)]
      show chg _ + 0 = chg (sgs ((f :: l).map iq) _) + 0
      rw [hM _ (by grind)]
      rfl
    | some q =>
      obtain ⟨t, u⟩ := q
      rw [at' t u (hb t u rfl).1, sturm2 S C 0 ((t : Rat) / (u : Rat))]
      rfl
  · cases b with
    | none =>
      obtain ⟨M, hM⟩ := all_high (f :: l) hy
      obtain ⟨N, hN⟩ := NN_high cs
      obtain ⟨B, hB⟩ := bd_ex M
      obtain ⟨D, hD⟩ := bd_ex N
      have := hB.nn
      have := hD.nn
      have := hB.2
      have := hD.2
      rw [sturm2 S C 0 (B + D), hN _ (by grind)]
      show chg _ + cs.length = chg (sgs ((f :: l).map iq) _) + cs.length
      rw [hM _ (by grind)]
      congr 2
      refine List.map_congr_left fun p _ => ?_
      split <;> simp
    | some q =>
      obtain ⟨t, u⟩ := q
      have := at' t u (hb t u rfl).1
      rw [show chgV (f :: l) 1 (some (t, u)) = chgV (f :: l) (-1) (some (t, u)) from rfl, this, sturm2 S C 0 ((t : Rat) / (u : Rat))]
      rfl
/-- the count of the roots above lo and at most hi -/
theorem count_ex {n a e : Nat} {items : List Int} (ht : Tr items) (hn : items ≠ []) (hs : Sz a items) (hl : items.length ≤ n + 1) (he : items.length ≤ 2 ^ e) (h9 : n ≤ 50)
    (hH : cbits n a (a + e) ≤ Lim) (hq : a + (n + 1) * (cbits n a (a + e) + 1) ≤ 2 * Lim)
    {a' : Nat} (hf : ∀ f, IsFree items f → Sz a' f) (hH' : cbits n a' (a' + e) ≤ Lim) {cs : List Cut} (C : Cuts (iq items) cs) :
    ∀ lo hi, BdOk lo → BdOk hi → CountR items lo hi ((NB cs cs.length hi : Int) - (NB cs 0 lo : Int)) := by
  obtain ⟨f, f1, f2, _⟩ := free_ex ht hn hs hl he (by omega) hH hq
  have sf := hf f f2
  have fl := f2.len
  obtain ⟨l, c1, S, c3, c4⟩ := chain_sturm f2 sf (der_sz sf (Nat.le_trans fl he)) (Nat.le_trans fl hl) hH' (by omega)
  obtain ⟨K, k1, k2⟩ := chgV_eq S (fun y hy => ⟨(c4 y hy).2.1, (c4 y hy).2.2.1⟩) (C.congr fun c => (f2.z c).symm)
  intro lo hi hlo hhi
  refine ⟨⟨f, l, f1, c1, fun y hy => ?_, by omega, ?_⟩, hlo, hhi⟩
  · obtain ⟨y1, y2, y3, y4⟩ := c4 y hy
    exact ⟨y3, y1.mono hH', by omega⟩
  · have h1 := k1 lo hlo
    have h2 := k2 hi hhi
    omega
end ST
namespace ST
open RO PO L2 DL
theorem mono_of {V : Rat → Int} (h : ∀ c : Cut, ∃ δ, 0 < δ ∧ ∀ x y, c.near δ x → c.near δ y → x ≤ y → V y ≤ V x) {a b : Rat} (hab : a ≤ b) : V b ≤ V a := by
  apply Classical.byContradiction
  intro hne
  let G : Rat → Prop := fun y => ∀ z, a ≤ z → z ≤ y → V z ≤ V a
  have gdn : ∀ {x y}, x ≤ y → G y → G x := fun h g z h1 h2 => g z h1 (by grind)
  have ga : G a := fun z h1 h2 => by rw [show z = a from by grind]; exact Int.le_refl _
  have gb : ¬ G b := fun g => hne (g b hab (by grind))
  let c : Cut := {
    lo := fun x => ∃ y, x < y ∧ G y
    hi := fun x => ∃ y, y < x ∧ ¬ G y
    lo_ex := ⟨a - 1, a, by grind, ga⟩
    hi_ex := ⟨b + 1, b, by grind, gb⟩
    lo_dn := fun h ⟨y, h1, h2⟩ => ⟨y, by grind, h2⟩
    hi_up := fun h ⟨y, h1, h2⟩ => ⟨y, by grind, h2⟩
    dis := fun {x y} ⟨p, h1, h2⟩ ⟨q, k1, k2⟩ => by
      by_cases e : q ≤ p
      · exact absurd (gdn e h2) k2
      · grind
    loc := fun {x y} h => by
      by_cases g : G ((x + y) / 2)
      · exact .inl ⟨_, by grind, g⟩
      · exact .inr ⟨_, by grind, g⟩
    lo_op := fun {x} ⟨y, h1, h2⟩ => ⟨(x + y) / 2, by grind, y, by grind, h2⟩
    hi_op := fun {x} ⟨y, h1, h2⟩ => ⟨(x + y) / 2, by grind, y, by grind, h2⟩ }
  obtain ⟨δ, hd, hc⟩ := h c
  obtain ⟨u, v, ⟨u', hu1, hu2⟩, ⟨v', hv1, hv2⟩, nu, nv⟩ := c.near_ex hd
  apply hv2
  intro z z1 z2
  by_cases e : z ≤ u
  · exact gdn (show z ≤ u' from by grind) hu2 z z1 (by grind)
  · have nz : c.near δ z := Cut.near_mid nu nv (by grind) (by grind)
    by_cases k : a ≤ u
    · have h1 := hc u z nu nz (by grind)
      have h2 := hu2 u k (by grind)
      omega
    · exact hc a z (Cut.near_mid nu nz (by grind) z1) nz z1
/-- what cs and a chain have where cs are some of the cuts at which p vanishes -/
structure Some' (p : List Rat) (cs : List Cut) : Prop where
  z : ∀ d ∈ cs, Z d (ev p)
  one : cs.Pairwise fun a b => ¬ Eqv a b
open Classical in
theorem sturm_le {p : List Rat} {l : List (List Rat)} (S : Sturm p l) {cs : List Cut} (C : Some' p cs) {a b : Rat} (hab : a ≤ b) :
    VV (p :: l) b + NN cs b ≤ VV (p :: l) a + NN cs a := by
  have := mono_of (V := fun x => ((VV (p :: l) x + NN cs x : Nat) : Int)) (fun c => ?_) hab
  · exact Int.ofNat_le.mp this
  · rcases tri' c p with hz | ⟨s, hs⟩
    · cases l with
      | nil => exact absurd hz (S.last c)
      | cons q l =>
        obtain ⟨k, k0, hk⟩ := S.der q rfl
        rcases tri' c q with hq | ⟨t, hq⟩
        · exact absurd (S.last c) (all_z l p q hz hq S.ch)
        · have hd : HasS c (ev (dq p)) t := by
            have e : ∀ x, (1 / k) * ev q x = ev (dq p) x := fun x => by
              rw [hk x]
              have : 1 / k * k = 1 := by grind
              grind
            have i0 : 0 < 1 / k := by rw [Rat.div_def]; exact Rat.mul_pos (by decide) (Rat.inv_pos.mpr k0)
            rcases hq with ⟨rfl, h⟩ | ⟨rfl, h⟩
            · exact .inl ⟨rfl, (h.smul i0).congr e⟩
            · exact .inr ⟨rfl, ((h.neg.smul i0).neg).congr fun x => by have := e x; grind⟩
          obtain ⟨δ1, d1, k1⟩ := cross hz hd
          have hc2 : Ch (q :: l) := by
            have := S.ch
            cases l with
            | nil => trivial
            | cons r l => exact this.2
          obtain ⟨n, δ2, d2, k2⟩ := loc_const l q t hq hc2 (S.last c)
          obtain ⟨δ3, d3, k3⟩ := hq.sg
          have nn : ∃ n' δ4, 0 < δ4 ∧ ∀ x y, c.near δ4 x → c.near δ4 y → x ≤ y → ((c.lo x ↔ c.lo y) → NN cs x = NN cs y) ∧ NN cs y ≤ NN cs x + 1 ∧ n' = 0 := by
            by_cases e : ∃ d ∈ cs, Eqv d c
            · obtain ⟨n', δ4, d4, k4⟩ := NN_at cs C.one e
              refine ⟨0, δ4, d4, fun x y nx ny hxy => ⟨fun h => ?_, ?_, rfl⟩⟩
              · rw [k4 x nx, k4 y ny]
                by_cases q : c.lo x
                · rw [if_pos q, if_pos (h.mp q)]
                · rw [if_neg q, if_neg fun w => q (h.mpr w)]
              · rw [k4 x nx, k4 y ny]
                split <;> split <;> omega
            · obtain ⟨n', δ4, d4, k4⟩ := NN_far (c := c) cs fun d hd q => e ⟨d, hd, q⟩
              exact ⟨0, δ4, d4, fun x y nx ny hxy => ⟨fun _ => by rw [k4 x nx, k4 y ny], by rw [k4 x nx, k4 y ny]; omega, rfl⟩⟩
          obtain ⟨_, δ4, d4, k4⟩ := nn
          obtain ⟨m1, p1, q1, q2⟩ := min_pos d1 d2
          obtain ⟨m2, p2, q3, q4⟩ := min_pos d3 d4
          obtain ⟨m, m0, r1, r2⟩ := min_pos p1 p2
          have key : ∀ x, c.near m x → VV (p :: q :: l) x = n + (if c.lo x then 1 else 0) := fun x nx => by
            have nx1 := Cut.near_le nx r1
            have nx2 := Cut.near_le nx r2
            have e1 := k1 x (Cut.near_le nx1 q1)
            have e2 := k2 x (Cut.near_le nx1 q2)
            have e3 := k3 x (Cut.near_le nx2 q3)
            have ev1 : VV (p :: q :: l) x = chg (sg (ev p x) :: t :: sgs l x) := by rw [← e3]; rfl
            rw [ev1]
            have tn : t ≠ 0 := by rcases hq.pm with rfl | rfl <;> decide
            by_cases c1 : c.lo x
            · rw [if_pos c1, e1.1 c1, chg, if_neg (by omega), chgP, if_neg tn, if_neg (by omega), e2]
              omega
            · rw [if_neg c1]
              by_cases c2 : c.hi x
              · rw [e1.2.1 c2, chg, if_neg tn, chgP, if_neg tn, if_pos rfl, e2]
                omega
              · rw [e1.2.2 c1 c2, chg, if_pos rfl, chg, if_neg tn, e2]
                omega
          refine ⟨m, m0, fun x y nx ny hxy => ?_⟩
          obtain ⟨w1, w2, _⟩ := k4 x y (Cut.near_le (Cut.near_le nx r2) q4) (Cut.near_le (Cut.near_le ny r2) q4) hxy
          show ((VV (p :: q :: l) y + NN cs y : Nat) : Int) ≤ ((VV (p :: q :: l) x + NN cs x : Nat) : Int)
          rw [key x nx, key y ny]
          by_cases c1 : c.lo x
          · by_cases c2 : c.lo y
            · rw [if_pos c1, if_pos c2, w1 ⟨fun _ => c2, fun _ => c1⟩]; omega
            · rw [if_pos c1, if_neg c2]; omega
          · have c2 : ¬ c.lo y := fun q => c1 (c.lo_dn hxy q)
            rw [if_neg c1, if_neg c2, w1 ⟨fun q => absurd q c1, fun q => absurd q c2⟩]; omega
    · obtain ⟨n, δ1, d1, k1⟩ := loc_const l p s hs S.ch (S.last c)
      obtain ⟨δ2, d2, k2⟩ := hs.sg
      obtain ⟨n', δ3, d3, k3⟩ := NN_far (c := c) cs fun d hd q => hs.nz (q.z (C.z d hd))
      obtain ⟨m1, p1, q1, q2⟩ := min_pos d1 d2
      obtain ⟨m, m0, r1, r2⟩ := min_pos p1 d3
      have key : ∀ x, c.near m x → VV (p :: l) x + NN cs x = n + n' := fun x nx => by
        have nx1 := Cut.near_le nx r1
        have e1 := k1 x (Cut.near_le nx1 q1)
        have e2 := k2 x (Cut.near_le nx1 q2)
        rw [k3 x (Cut.near_le nx r2)]
        have sn : s ≠ 0 := by rcases hs.pm with rfl | rfl <;> decide
        show chg (sg (ev p x) :: sgs l x) + n' = n + n'
        rw [e2, chg, if_neg sn, e1]
      refine ⟨m, m0, fun x y nx ny hxy => ?_⟩
      show ((VV (p :: l) y + NN cs y : Nat) : Int) ≤ ((VV (p :: l) x + NN cs x : Nat) : Int)
      rw [key x nx, key y ny]
      exact Int.le_refl _
theorem chgP_len (s : Int) : ∀ l : List Int, chgP s l ≤ l.length
  | [] => Nat.le_refl _
  | t :: l => by
    rw [chgP, List.length_cons]
    have := chgP_len s l
    have := chgP_len t l
    split <;> (try split) <;> omega
theorem chg_len : ∀ l : List Int, chg l ≤ l.length
  | [] => Nat.le_refl _
  | t :: l => by
    rw [chg, List.length_cons]
    have := chg_len l
    have := chgP_len t l
    split <;> omega
theorem cuts_of {p : List Rat} {l : List (List Rat)} (S : Sturm p l) : ∃ cs, Cuts p cs := by
  have bound : ∀ cs, Some' p cs → cs.length ≤ l.length + 1 := fun cs C => by
    obtain ⟨M, hM⟩ := NN_low cs
    obtain ⟨N, hN⟩ := NN_high cs
    obtain ⟨B, hB⟩ := bd_ex M
    obtain ⟨D, hD⟩ := bd_ex N
    have := hB.nn
    have := hD.nn
    have := hB.2
    have := hD.2
    have h := sturm_le S C (a := -(B + D)) (b := B + D) (by grind)
    rw [hM (-(B + D)) (by grind), hN (B + D) (by grind)] at h
    have := chg_len (sgs (p :: l) (-(B + D)))
    unfold sgs at this
    rw [List.length_map, List.length_cons] at this
    have : VV (p :: l) (-(B + D)) ≤ l.length + 1 := this
    omega
  have go : ∀ n cs, Some' p cs → l.length + 1 ≤ n + cs.length → ∃ cs, Cuts p cs := fun n => by
    induction n with
    | zero =>
      intro cs C h
      by_cases all : ∀ c, Z c (ev p) → ∃ d ∈ cs, Eqv d c
      · exact ⟨cs, C.z, all, C.one⟩
      · obtain ⟨c, hc⟩ := Classical.not_forall.mp all
        obtain ⟨zc, nc⟩ := Classical.not_imp.mp hc
        have := bound (c :: cs) ⟨fun d hd => by
          rcases List.mem_cons.mp hd with rfl | hd
          · exact zc
          · exact C.z d hd, List.pairwise_cons.mpr ⟨fun d hd q => nc ⟨d, hd, q.symm⟩, C.one⟩⟩
        rw [List.length_cons] at this
        omega
    | succ n ih =>
      intro cs C h
      by_cases all : ∀ c, Z c (ev p) → ∃ d ∈ cs, Eqv d c
      · exact ⟨cs, C.z, all, C.one⟩
      · obtain ⟨c, hc⟩ := Classical.not_forall.mp all
        obtain ⟨zc, nc⟩ := Classical.not_imp.mp hc
        exact ih (c :: cs) ⟨fun d hd => by
          rcases List.mem_cons.mp hd with rfl | hd
          · exact zc
          · exact C.z d hd, List.pairwise_cons.mpr ⟨fun d hd q => nc ⟨d, hd, q.symm⟩, C.one⟩⟩ (by rw [List.length_cons]; omega)
  exact go (l.length + 1) [] ⟨(fun _ h => by cases h), List.Pairwise.nil⟩ (by simp)
/-- chains exist for all lists without multiple roots -/
theorem ch_any : ∀ (n : Nat) {p q : List Int}, Tr p → p ≠ [] → Tr q → q.length ≤ n →
    ∃ l : List (List Int), Ch ((p :: l).map iq) ∧ (l = [] ∨ l.head? = some q) ∧ (l = [] → q = [])
      ∧ ∃ d : List Int, Tr d ∧ d ≠ [] ∧ Dv (iq d) (iq p) ∧ Dv (iq d) (iq q) ∧ ∀ c, ¬ Z c (ei d) → LastNZ c ((p :: l).map iq)
  | n, p, q, tp, np, tq, lq => by
    by_cases e : q = []
    · subst e
      exact ⟨[], trivial, .inl rfl, fun _ => rfl, p, tp, np, ⟨[1], fun x => by rw [ev_one]; grind⟩, ⟨[], fun x => by show (0 : Rat) = _ * 0; grind⟩, fun c h => h⟩
    · have l0 := List.length_pos_iff.mpr e
      cases n with
      | zero => omega
      | succ n =>
        obtain ⟨r, tr, lr, c, c0, m, hm⟩ := rem_any e tq _ tp (Nat.le_refl _)
        have ln := neg_len r
        obtain ⟨l, ch, hd, hd2, d, td, nd, d1, d2, dz⟩ := ch_any n tq e (neg_tr r) (by omega)
        refine ⟨q :: l, ?_, .inr rfl, (fun h => by cases h), d, td, nd, ?_, d1, dz⟩
        · cases l with
          | nil => trivial
          | cons y l =>
            have hy : y = negI r := by
              rcases hd with h | h
              · cases h
              · exact Option.some.inj h
            refine ⟨⟨c, 1, c0, by decide, m, fun x => ?_⟩, ch⟩
            have h1 := hm x
            have h2 := neg_ei r x
            rw [← hy] at h2
            show c * ei p x = ev m x * ei q x - 1 * ei y x
            rw [h1, h2]; grind
        · obtain ⟨q1, e1⟩ := d1
          obtain ⟨q2, e2⟩ := d2
          refine ⟨smulq (c⁻¹) (addq (mulq m q1) (smulq (-1) q2)), fun x => ?_⟩
          have h3 := hm x
          have h4 : ei q x = ei d x * ev q1 x := e1 x
          have h5 : ei (negI r) x = ei d x * ev q2 x := e2 x
          rw [neg_ei] at h5
          rw [h4, show ei r x = -(ei d x * ev q2 x) from by grind] at h3
          show ei p x = ei d x * _
          rw [ev_smul, ev_add, ev_mul, ev_smul]
          have : c⁻¹ * c = 1 := by grind
          calc ei p x = c⁻¹ * (c * ei p x) := by grind
            _ = _ := by rw [h3]; grind
theorem sturm_any {f : List Int} (tf : Tr f) (nf : f ≠ []) (cop : ∀ d : List Rat, Dv d (iq f) → Dv d (dq (iq f)) → ∀ m, Dg (ev d) m → m = 0) : ∃ l : List (List Int), Sturm (iq f) (l.map iq) := by
  obtain ⟨l, h2, h5, h6, d, td, nd, d1, d2, dz⟩ := ch_any _ tf nf (der_tr tf) (Nat.le_refl _)
  refine ⟨l, h2, fun c => ?_, fun q hq => ?_⟩
  · refine dz c ?_
    obtain ⟨q, e⟩ := d2
    have := cop (iq d) d1 ⟨q, fun x => by rw [← ei_der]; exact e x⟩ _ (tr_dg td nd)
    exact not_z_const td nd (by omega) c
  · rcases h5 with h5 | h5
    · subst h5; cases hq
    · cases l with
      | nil => cases hq
      | cons y l =>
        have e1 : y = derI f := Option.some.inj h5
        have e2 : iq y = q := Option.some.inj hq
        refine ⟨1, by decide, fun x => ?_⟩
        rw [← e2, e1, ← ei_der, Rat.one_mul]; rfl
/-- every list that is not empty has finitely many roots -/
theorem cuts_ex {p : List Int} (tp : Tr p) (np : p ≠ []) : ∃ cs, Cuts (iq p) cs := by
  obtain ⟨h, G⟩ := gcd_any _ tp (der_tr tp) (.inl np) (Nat.le_refl _)
  obtain ⟨q, tq, eq⟩ := quot_int G.tr G.prm G.d1
  have nq : q ≠ [] := fun z => by
    subst z
    obtain ⟨M, hM⟩ := (tr_dg tp np).far
    exact hM M (by grind) (by rw [eq, ei_nil]; grind)
  obtain ⟨F, k, u, v, D⟩ := fd_of tp G
  have eF : ∀ x, ev F x = ev (iq q) x := cancel (tr_dg G.tr G.ne) fun y => by
    have h1 := D.e y
    have h2 := eq y
    show ei h y * ev F y = ei h y * ei q y
    rw [← h1, ← h2]; rfl
  obtain ⟨l, S⟩ := sturm_any tq nq fun d d1 d2 m hm => by
    obtain ⟨f1, f2⟩ := iq_smul_cop (F := F) (f := iq q) (s := 1) (fun x => by rw [eF, Rat.one_mul]) d1 d2
    exact free_const (tr_dg D.tr D.ne) D.e D.e' D.bz f1 f2 hm
  obtain ⟨cs, C⟩ := cuts_of S
  refine ⟨cs, C.congr fun c => ⟨fun z => ?_, fun z => ?_⟩⟩
  · exact (z.mulp (iq h)).congr fun x => (eq x).symm
  · exact (FD.z _ D (Nat.le_refl _) z).congr eF
theorem sg_const {p : List Rat} {a b : Rat} (hab : a ≤ b) (h : ∀ c, Z c (ev p) → ¬ (¬ c.hi a ∧ ¬ c.lo b)) : sg (ev p a) = sg (ev p b) := by
  let cl : Rat → Rat := fun x => if x < a then a else if b < x then b else x
  have e1 : cl a = a := by show (if a < a then a else if b < a then b else a) = a; rw [if_neg (by grind), if_neg (by grind)]
  have e2 : cl b = b := by show (if b < a then a else if b < b then b else b) = b; rw [if_neg (by grind), if_neg (by grind)]
  have := const_of (V := fun x => sg (ev p (cl x))) (fun c => ?_) hab
  · have h2 : sg (ev p (cl a)) = sg (ev p (cl b)) := this
    rwa [e1, e2] at h2
  · by_cases k1 : c.hi a
    · obtain ⟨y, ya, hy⟩ := c.hi_op k1
      refine ⟨a - y, by grind, fun x z nx nz => ?_⟩
      have l1 : ∀ x, c.near (a - y) x → cl x = a := fun x nx => by
        have := c.dis nx.1 hy
        show (if x < a then a else _) = a
        rw [if_pos (by grind)]
      show sg (ev p (cl x)) = sg (ev p (cl z))
      rw [l1 x nx, l1 z nz]
    · by_cases k2 : c.lo b
      · obtain ⟨y, yb, hy⟩ := c.lo_op k2
        refine ⟨y - b, by grind, fun x z nx nz => ?_⟩
        have l1 : ∀ x, c.near (y - b) x → cl x = b := fun x nx => by
          have := c.dis hy nx.2
          show (if x < a then a else if b < x then b else x) = b
          rw [if_neg (by grind), if_pos (by grind)]
        show sg (ev p (cl x)) = sg (ev p (cl z))
        rw [l1 x nx, l1 z nz]
      · rcases tri' c p with hz | ⟨s, hs⟩
        · exact absurd ⟨k1, k2⟩ (h c hz)
        · obtain ⟨δ, d0, k⟩ := hs.sg
          have nc : ∀ x, c.near δ x → c.near δ (cl x) := fun x nx => by
            show c.near δ (if x < a then a else if b < x then b else x)
            split
            · rename_i hx
              refine ⟨(c.loc (show a - δ < a by grind)).resolve_right k1, c.hi_up (by grind) nx.2⟩
            · split
              · rename_i hx hb
                exact ⟨c.lo_dn (by grind) nx.1, (c.loc (show b < b + δ by grind)).resolve_left k2⟩
              · exact nx
          exact ⟨δ, d0, fun x z nx nz => by rw [k _ (nc x nx), k _ (nc z nz)]⟩
end ST
namespace ST
open RO PO L2 DL
/-- sizes of the ratios of an interval -/
def Sm (r : Rat) : Prop := r.num.natAbs < 2 ^ 900 ∧ r.den < 2 ^ 900
def ob (r : Rat) : Option (Int × Int) := some (r.num, (r.den : Int))
theorem num_den (r : Rat) : ((r.num : Int) : Rat) / (((r.den : Nat) : Int) : Rat) = r := by
  have h := den_mul r
  have : (((r.den : Nat) : Int) : Rat) ≠ 0 := cast0 (by have := r.den_pos; omega)
  rw [← h]
  show r * (((r.den : Nat) : Int) : Rat) / _ = r
  grind
theorem Sm.bd {r : Rat} (h : Sm r) : BdOk (ob r) := fun t u e => by
  have e := Option.some.inj e
  cases e
  refine ⟨by have := r.den_pos; omega, Nat.lt_trans h.1 (Nat.pow_lt_pow_right (by decide) (by decide)), ?_⟩
  rw [Int.natAbs_natCast]
  exact Nat.lt_trans h.2 (Nat.pow_lt_pow_right (by decide) (by decide))
theorem NB_ob (cs : List Cut) (n : Nat) (r : Rat) : NB cs n (ob r) = NN cs r := by
  show NN cs (((r.num : Int) : Rat) / (((r.den : Nat) : Int) : Rat)) = _
  rw [num_den]
def mid (a b : Rat) : Rat := (a + b) / 2
inductive HalfR (f : List Int) (lo hi : Rat) : Rat → Rat → Prop
  | left : Sm lo → Sm hi → CountR f (ob lo) (ob (mid lo hi)) 1 → HalfR f lo hi lo (mid lo hi)
  | right {n} : Sm lo → Sm hi → CountR f (ob lo) (ob (mid lo hi)) n → n ≠ 1 → HalfR f lo hi (mid lo hi) hi
inductive WithR (f : List Int) (w : Rat) : Rat → Rat → Rat → Rat → Prop
  | done {lo hi} : Sm lo → Sm hi → ¬ w < hi - lo → WithR f w lo hi lo hi
  | step {lo hi l1 h1 l2 h2} : Sm lo → Sm hi → w < hi - lo → HalfR f lo hi l1 h1 → WithR f w l1 h1 l2 h2 → WithR f w lo hi l2 h2
inductive SignR (f items : List Int) : Rat → Rat → Rat → Rat → Prop
  | done {lo hi n} : Sm lo → Sm hi → CountR items (ob lo) (ob hi) n → n ≤ 0 → SignR f items lo hi lo hi
  | step {lo hi n l1 h1 l2 h2} : Sm lo → Sm hi → CountR items (ob lo) (ob hi) n → 0 < n → HalfR f lo hi l1 h1 → SignR f items l1 h1 l2 h2 → SignR f items lo hi l2 h2
/-- what is left at the end: whether the second interval does not begin below the end of the first one -/
inductive SepR (f g : List Int) : Rat → Rat → Rat → Rat → Bool → Prop
  | done {lo hi a b} : Sm lo → Sm hi → Sm a → Sm b → ¬ (lo < b ∧ a < hi) → SepR f g lo hi a b (decide (a < hi))
  | step {lo hi a b l1 h1 a1 b1 r} : Sm lo → Sm hi → Sm a → Sm b → lo < b → a < hi → HalfR f lo hi l1 h1 → HalfR g a b a1 b1 → SepR f g l1 h1 a1 b1 r → SepR f g lo hi a b r
inductive IsoR (f : List Int) (start : Rat) (ix : Int) : Rat → Rat → Rat → Rat → Prop
  | done {lo hi n} : Sm lo → Sm hi → CountR f (ob lo) (ob hi) n → n ≤ 1 → IsoR f start ix lo hi lo hi
  | up {lo hi n m l2 h2} : Sm lo → Sm hi → CountR f (ob lo) (ob hi) n → 1 < n → CountR f (ob start) (ob (mid lo hi)) m → ix < m → IsoR f start ix lo (mid lo hi) l2 h2 → IsoR f start ix lo hi l2 h2
  | dn {lo hi n m l2 h2} : Sm lo → Sm hi → CountR f (ob lo) (ob hi) n → 1 < n → CountR f (ob start) (ob (mid lo hi)) m → ¬ ix < m → IsoR f start ix (mid lo hi) hi l2 h2 → IsoR f start ix lo hi l2 h2
def In (c : Cut) (lo hi : Rat) : Prop := c.lo lo ∧ ¬ c.lo hi
theorem In.lt {c : Cut} {lo hi : Rat} (h : In c lo hi) : lo < hi := by
  apply Classical.byContradiction
  intro k
  exact h.2 (c.lo_dn (by grind) h.1)
theorem Eqv.inn {c d : Cut} (h : Eqv c d) {lo hi : Rat} (k : In c lo hi) : In d lo hi := ⟨(h lo).1.mp k.1, fun q => k.2 ((h hi).1.mpr q)⟩
open Classical in
noncomputable def cnt : List Cut → Rat → Rat → Nat
  | [], _, _ => 0
  | c :: cs, lo, hi => (if In c lo hi then 1 else 0) + cnt cs lo hi
open Classical in
theorem NN_cnt : ∀ (cs : List Cut) {lo hi : Rat}, lo ≤ hi → NN cs hi = NN cs lo + cnt cs lo hi
  | [], _, _, _ => rfl
  | c :: cs, lo, hi, h => by
    have ih := NN_cnt cs h
    rw [NN, NN, cnt, ih]
    by_cases k1 : c.lo hi
    · rw [if_pos k1, if_pos (c.lo_dn h k1), if_neg fun q => q.2 k1]; omega
    · by_cases k2 : c.lo lo
      · rw [if_neg k1, if_pos k2, if_pos ⟨k2, k1⟩]; omega
      · rw [if_neg k1, if_neg k2, if_neg fun q => k2 q.1]; omega
theorem cnt_zero {lo hi : Rat} : ∀ {cs : List Cut}, (∀ d ∈ cs, ¬ In d lo hi) → cnt cs lo hi = 0
  | [], _ => rfl
  | c :: cs, h => by rw [cnt, if_neg (h c List.mem_cons_self), cnt_zero fun d hd => h d (List.mem_cons_of_mem _ hd)]
theorem cnt_one {lo hi : Rat} : ∀ {cs : List Cut}, cs.Pairwise (fun a b => ¬ Eqv a b) → (∃ d ∈ cs, In d lo hi) → (∀ d ∈ cs, ∀ e ∈ cs, In d lo hi → In e lo hi → Eqv d e) → cnt cs lo hi = 1
  | [], _, h, _ => by obtain ⟨_, h, _⟩ := h; cases h
  | c :: cs, hp, h, ha => by
    rw [List.pairwise_cons] at hp
    by_cases k : In c lo hi
    · rw [cnt, if_pos k, cnt_zero fun d hd q => hp.1 d hd (ha c List.mem_cons_self d (List.mem_cons_of_mem _ hd) k q)]
    · rw [cnt, if_neg k]
      have h' : ∃ d ∈ cs, In d lo hi := by
        obtain ⟨d, hd, q⟩ := h
        rcases List.mem_cons.mp hd with rfl | hd
        · exact absurd q k
        · exact ⟨d, hd, q⟩
      rw [cnt_one hp.2 h' fun d hd e he => ha d (List.mem_cons_of_mem _ hd) e (List.mem_cons_of_mem _ he)]
theorem one_cnt {lo hi : Rat} : ∀ {cs : List Cut}, cnt cs lo hi = 1 → ∃ c ∈ cs, In c lo hi ∧ ∀ d ∈ cs, In d lo hi → Eqv d c
  | [], h => by exact absurd h (by show ¬ 0 = 1; omega)
  | c :: cs, h => by
    by_cases k : In c lo hi
    · rw [cnt, if_pos k] at h
      refine ⟨c, List.mem_cons_self, k, fun d hd q => ?_⟩
      rcases List.mem_cons.mp hd with rfl | hd
      · exact fun x => ⟨Iff.rfl, Iff.rfl⟩
      · have : 0 < cnt cs lo hi := by
          apply Classical.byContradiction
          intro z
          have all : ∀ {cs : List Cut}, cnt cs lo hi = 0 → ∀ e ∈ cs, ¬ In e lo hi := fun {cs} => by
            induction cs with
            | nil => intro _ e he; cases he
            | cons f cs ih =>
              intro h0 e he
              by_cases kf : In f lo hi
              · rw [cnt, if_pos kf] at h0; omega
              · rw [cnt, if_neg kf, Nat.zero_add] at h0
                rcases List.mem_cons.mp he with rfl | he
                · exact kf
                · exact ih h0 e he
          exact all (by omega) d hd q
        omega
    · rw [cnt, if_neg k, Nat.zero_add] at h
      obtain ⟨d, hd, q, a⟩ := one_cnt h
      refine ⟨d, List.mem_cons_of_mem _ hd, q, fun e he qe => ?_⟩
      rcases List.mem_cons.mp he with rfl | he
      · exact absurd qe k
      · exact a e he qe
/-- counting works for a list -/
structure Cnt (p : List Int) (cs : List Cut) : Prop where
  c : Cuts (iq p) cs
  r : ∀ lo hi, BdOk lo → BdOk hi → CountR p lo hi ((NB cs cs.length hi : Int) - (NB cs 0 lo : Int))
theorem Cnt.at {p : List Int} {cs : List Cut} (C : Cnt p cs) {lo hi : Rat} (h : lo ≤ hi) (s1 : Sm lo) (s2 : BdOk (ob hi)) : CountR p (ob lo) (ob hi) (cnt cs lo hi : Nat) := by
  have := C.r (ob lo) (ob hi) s1.bd s2
  rw [NB_ob, NB_ob, NN_cnt cs h] at this
  rwa [show ((NN cs lo + cnt cs lo hi : Nat) : Int) - (NN cs lo : Int) = (cnt cs lo hi : Nat) from by omega] at this
/-- c is the root of p above lo and at most hi, no other one is there -/
structure Iso (p : List Int) (c : Cut) (lo hi : Rat) : Prop where
  z : Z c (ei p)
  i : In c lo hi
  one : ∀ d, Z d (ei p) → In d lo hi → Eqv d c
theorem Iso.sub {p : List Int} {c : Cut} {lo hi l h : Rat} (I : Iso p c lo hi) (k : In c l h) (h1 : lo ≤ l) (h2 : h ≤ hi) : Iso p c l h :=
  ⟨I.z, k, fun d hd hi' => I.one d hd ⟨d.lo_dn h1 hi'.1, fun q => hi'.2 (d.lo_dn h2 q)⟩⟩
theorem Iso.cnt {p : List Int} {c : Cut} {lo hi : Rat} (I : Iso p c lo hi) {cs : List Cut} (C : Cuts (iq p) cs) : ST.cnt cs lo hi = 1 := by
  refine cnt_one C.one ?_ fun d hd e he id ie => (I.one d (C.z d hd) id).trans (I.one e (C.z e he) ie).symm
  obtain ⟨d, hd, e⟩ := C.all c I.z
  exact ⟨d, hd, e.symm.inn I.i⟩
/-- ratios with a power of 2 below -/
def Dy (B k : Nat) (r : Rat) : Prop := ∃ p : Int, r * (2 : Rat) ^ k = (p : Rat) ∧ p.natAbs ≤ B * 2 ^ k
theorem pow2_cast (k : Nat) : ((2 ^ k : Int) : Rat) = (2 : Rat) ^ k := by rw [Rat.intCast_pow]; rfl
theorem pow2_pos (k : Nat) : (0 : Rat) < (2 : Rat) ^ k := pow_pos' (by decide) k
theorem Dy.sm {B k : Nat} {r : Rat} (h : Dy B k r) (hB : B < 2 ^ 100) (hk : k ≤ 790) : Sm r := by
  obtain ⟨p, e, hp⟩ := h
  have k0 := pow2_pos k
  have er : r = (p : Rat) / ((2 ^ k : Int) : Rat) := by rw [← e, pow2_cast]; grind
  have n0 : (2 ^ k : Int) ≠ 0 := Int.pow_ne_zero (by decide)
  obtain ⟨h1, h2⟩ := rat_small (t := p) n0
  rw [← er] at h1 h2
  have kk : (2 : Nat) ^ k ≤ 2 ^ 790 := Nat.pow_le_pow_right (by decide) hk
  refine ⟨?_, ?_⟩
  · calc r.num.natAbs ≤ B * 2 ^ k := Nat.le_trans h1 hp
      _ ≤ 2 ^ 100 * 2 ^ 790 := Nat.mul_le_mul (Nat.le_of_lt hB) kk
      _ < 2 ^ 900 := by rw [← Nat.pow_add]; exact Nat.pow_lt_pow_right (by decide) (by decide)
  · refine Nat.lt_of_le_of_lt h2 ?_
    rw [Int.natAbs_pow]
    exact Nat.lt_of_le_of_lt kk (Nat.pow_lt_pow_right (by decide) (by decide))
theorem Dy.mid {B k : Nat} {a b : Rat} (h1 : Dy B k a) (h2 : Dy B k b) : Dy B (k + 1) (mid a b) := by
  obtain ⟨p, e1, b1⟩ := h1
  obtain ⟨q, e2, b2⟩ := h2
  refine ⟨p + q, ?_, ?_⟩
  · rw [Rat.intCast_add, ← e1, ← e2, Rat.pow_succ]
    unfold ST.mid; grind
  · have := Int.natAbs_add_le p q
    rw [Nat.pow_succ, ← Nat.mul_assoc]; omega
theorem Dy.up {B k : Nat} {a : Rat} (h1 : Dy B k a) : Dy B (k + 1) a := by
  have := h1.mid h1
  rwa [show ST.mid a a = a from by unfold ST.mid; grind] at this
theorem Dy.int {B : Nat} {z : Int} (h : z.natAbs ≤ B) : Dy B 0 (z : Rat) := ⟨z, by rw [Rat.pow_zero, Rat.mul_one], by omega⟩
/-- one halving -/
theorem half_ex {p : List Int} {cs : List Cut} (C : Cnt p cs) {c : Cut} {lo hi : Rat} (I : Iso p c lo hi) {B k : Nat} (d1 : Dy B k lo) (d2 : Dy B k hi) (hB : B < 2 ^ 100) (hk : k + 1 ≤ 790) :
    ∃ l h, HalfR p lo hi l h ∧ Iso p c l h ∧ Dy B (k + 1) l ∧ Dy B (k + 1) h ∧ h - l = (hi - lo) / 2 ∧ lo ≤ l ∧ h ≤ hi := by
  have lt := I.i.lt
  have m1 : lo ≤ mid lo hi := by unfold mid; grind
  have m2 : mid lo hi ≤ hi := by unfold mid; grind
  have s1 := d1.sm hB (by omega)
  have s2 := d2.sm hB (by omega)
  have s3 := (d1.mid d2).sm hB hk
  by_cases q : c.lo (mid lo hi)
  · have I2 := I.sub ⟨q, I.i.2⟩ m1 (by grind)
    have z : ¬ In c lo (mid lo hi) := fun w => w.2 q
    have c0 : cnt cs lo (mid lo hi) = 0 := cnt_zero fun d hd w => z ((I.one d (C.c.z d hd) ⟨w.1, fun v => w.2 (d.lo_dn m2 v)⟩).inn w)
    exact ⟨_, _, .right s1 s2 (C.at m1 s1 s3.bd) (by rw [c0]; decide), I2, d1.mid d2, d2.up, by unfold mid; grind, m1, by grind⟩
  · have I2 := I.sub ⟨I.i.1, q⟩ (by grind) m2
    have := C.at m1 s1 s3.bd
    rw [I2.cnt C.c] at this
    exact ⟨_, _, .left s1 s2 this, I2, d1.up, d1.mid d2, by unfold mid; grind, by grind, m2⟩
theorem with_ex {p : List Int} {cs : List Cut} (C : Cnt p cs) {c : Cut} {w : Rat} {B : Nat} (hB : B < 2 ^ 100) : ∀ (N : Nat) {k : Nat} {lo hi : Rat}, Iso p c lo hi → Dy B k lo → Dy B k hi → k + N ≤ 790 → hi - lo ≤ w * 2 ^ N →
    ∃ l h, WithR p w lo hi l h ∧ Iso p c l h ∧ Dy B (k + N) l ∧ Dy B (k + N) h ∧ h - l ≤ w
  | 0, k, lo, hi, I, d1, d2, hk, hw => by
    rw [Rat.pow_zero, Rat.mul_one] at hw
    exact ⟨lo, hi, .done (d1.sm hB (by omega)) (d2.sm hB (by omega)) (by grind), I, d1, d2, hw⟩
  | N + 1, k, lo, hi, I, d1, d2, hk, hw => by
    by_cases q : w < hi - lo
    · obtain ⟨l, h, r, I2, e1, e2, wd, _, _⟩ := half_ex C I d1 d2 hB (by omega)
      obtain ⟨l2, h2, r2, I3, f1, f2, w2⟩ := with_ex (w := w) C hB N I2 e1 e2 (by omega) (by rw [wd]; rw [Rat.pow_succ] at hw; grind)
      rw [show k + 1 + N = k + (N + 1) from by omega] at f1 f2
      exact ⟨l2, h2, .step (d1.sm hB (by omega)) (d2.sm hB (by omega)) q r r2, I3, f1, f2, w2⟩
    · have up : ∀ n a, Dy B k a → Dy B (k + n) a := fun n a ha => by
        induction n with
        | zero => exact ha
        | succ n ih => exact ih.up
      exact ⟨lo, hi, .done (d1.sm hB (by omega)) (d2.sm hB (by omega)) q, I, up _ _ d1, up _ _ d2, by grind⟩
/-- two cuts are not both in an interval as short as δ -/
def Far (c d : Cut) (δ : Rat) : Prop := ∀ lo hi, In c lo hi → In d lo hi → δ < hi - lo
theorem sign_ex {p items : List Int} {cs ds : List Cut} (C : Cnt p cs) (D : Cnt items ds) {c : Cut} {δ : Rat} (far : ∀ d, Z d (ei items) → Far c d δ) {B : Nat} (hB : B < 2 ^ 100) : ∀ (N : Nat) {k : Nat} {lo hi : Rat}, Iso p c lo hi → Dy B k lo → Dy B k hi → k + N ≤ 790 → hi - lo ≤ δ * 2 ^ N →
    ∃ l h, SignR p items lo hi l h ∧ Iso p c l h ∧ Sm h ∧ ∀ d, Z d (ei items) → ¬ In d l h
  | 0, k, lo, hi, I, d1, d2, hk, hw => by
    rw [Rat.pow_zero, Rat.mul_one] at hw
    have no : ∀ d, Z d (ei items) → ¬ In d lo hi := fun d hd w => by have := far d hd lo hi I.i w; grind
    have c0 : cnt ds lo hi = 0 := cnt_zero fun d hd => no d (D.c.z d hd)
    have := D.at (Rat.le_of_lt I.i.lt) (d1.sm hB (by omega)) (d2.sm hB (by omega)).bd
    exact ⟨lo, hi, .done (d1.sm hB (by omega)) (d2.sm hB (by omega)) this (by rw [c0]; decide), I, d2.sm hB (by omega), no⟩
  | N + 1, k, lo, hi, I, d1, d2, hk, hw => by
    have cr := D.at (Rat.le_of_lt I.i.lt) (d1.sm hB (by omega)) (d2.sm hB (by omega)).bd
    by_cases q : cnt ds lo hi = 0
    · refine ⟨lo, hi, .done (d1.sm hB (by omega)) (d2.sm hB (by omega)) cr (by rw [q]; decide), I, d2.sm hB (by omega), fun d hd w => ?_⟩
      obtain ⟨e, he, ed⟩ := D.c.all d hd
      have := ed.symm.inn w
      have all : ∀ {cs : List Cut}, cnt cs lo hi = 0 → ∀ e ∈ cs, ¬ In e lo hi := fun {cs} => by
        induction cs with
        | nil => intro _ e he; cases he
        | cons f cs ih =>
          intro h0 e he
          by_cases kf : In f lo hi
          · rw [cnt, if_pos kf] at h0; omega
          · rw [cnt, if_neg kf, Nat.zero_add] at h0
            rcases List.mem_cons.mp he with rfl | he
            · exact kf
            · exact ih h0 e he
      exact all q e he this
    · obtain ⟨l, h, r, I2, e1, e2, wd, _, _⟩ := half_ex C I d1 d2 hB (by omega)
      obtain ⟨l2, h2, r2, I3, sh, no⟩ := sign_ex C D far hB N I2 e1 e2 (by omega) (by rw [wd]; rw [Rat.pow_succ] at hw; grind)
      exact ⟨l2, h2, .step (d1.sm hB (by omega)) (d2.sm hB (by omega)) cr (by omega) r r2, I3, sh, no⟩
theorem sep_ex {p q : List Int} {cs ds : List Cut} (C : Cnt p cs) (D : Cnt q ds) {c d : Cut} {δ : Rat} (d0 : 0 < δ) (far : ∀ l1 h1 l2 h2, In c l1 h1 → In d l2 h2 → h1 - l1 ≤ δ → h2 - l2 ≤ δ → ¬ (l1 < h2 ∧ l2 < h1)) {B : Nat} (hB : B < 2 ^ 100) :
    ∀ (N : Nat) {k : Nat} {lo hi a b : Rat}, Iso p c lo hi → Iso q d a b → Dy B k lo → Dy B k hi → Dy B k a → Dy B k b → k + N ≤ 790 → hi - lo ≤ δ * 2 ^ N → b - a ≤ δ * 2 ^ N → ¬ Eqv c d →
      ∃ r, SepR p q lo hi a b r ∧ (r = true ↔ Lt d c)
  | N, k, lo, hi, a, b, I, J, d1, d2, d3, d4, hk, w1, w2, ne => by
    have s1 := d1.sm hB (by omega)
    have s2 := d2.sm hB (by omega)
    have s3 := d3.sm hB (by omega)
    have s4 := d4.sm hB (by omega)
    by_cases h : lo < b ∧ a < hi
    · cases N with
      | zero =>
        rw [Rat.pow_zero, Rat.mul_one] at w1 w2
        exact absurd h (far lo hi a b I.i J.i w1 w2)
      | succ N =>
        obtain ⟨l, h', r, I2, e1, e2, wd, _, _⟩ := half_ex C I d1 d2 hB (by omega)
        obtain ⟨l', h'', r', J2, f1, f2, wd', _, _⟩ := half_ex D J d3 d4 hB (by omega)
        obtain ⟨res, hs, he⟩ := sep_ex C D d0 far hB N I2 J2 e1 e2 f1 f2 (by omega) (by rw [wd]; rw [Rat.pow_succ] at w1; grind) (by rw [wd']; rw [Rat.pow_succ] at w2; grind) ne
        exact ⟨res, .step s1 s2 s3 s4 h.1 h.2 r r' hs, he⟩
    · refine ⟨_, .done s1 s2 s3 s4 h, ?_⟩
      rw [decide_eq_true_eq]
      constructor
      · intro q
        have hb : b ≤ lo := by
          apply Classical.byContradiction
          intro z
          exact h ⟨by grind, q⟩
        -- d ≤ b ≤ lo < c
        rcases cut_tri d c with k | ⟨x, hx1, hx2⟩ | k
        · exact k
        · exact absurd (d.lo_dn (show b ≤ x from by have := c.dis I.i.1 hx1; grind) hx2) J.i.2
        · exact absurd k.symm ne
      · rintro ⟨x, hx1, hx2⟩
        apply Classical.byContradiction
        intro q
        -- c ≤ hi ≤ a < d
        have y1 := d.dis J.i.1 hx1
        exact I.i.2 (c.lo_dn (by grind) hx2)
end ST
namespace ST
open RO PO L2 DL
theorem dv_const {f g : List Int} (tf : Tr f) (nf : f ≠ []) (pf : Prm f) (tg : Tr g) (ng : g ≠ []) (h : Dv (iq f) (iq g)) (l : g.length ≤ f.length) : ∃ z : Int, z ≠ 0 ∧ ∀ x, ei g x = (z : Rat) * ei f x := by
  obtain ⟨q, tq, eq⟩ := quot_int tf pf h
  have nq : q ≠ [] := fun z => by
    subst z
    obtain ⟨M, hM⟩ := (tr_dg tg ng).far
    exact hM M (by grind) (by rw [eq, ei_nil]; grind)
  have lq : q.length = 1 := by
    have := (tr_dg tg ng).uniq (((tr_dg tf nf).mul (tr_dg tq nq)).congr fun x => (eq x).symm)
    have := List.length_pos_iff.mpr nf
    have := List.length_pos_iff.mpr nq
    have := List.length_pos_iff.mpr ng
    omega
  match q, lq with
  | [z], _ =>
    refine ⟨z, tq [] z rfl, fun x => ?_⟩
    rw [eq x, ei_cons, ei_nil]; grind
theorem lst_smul {f g : List Int} {z : Int} (hz : z ≠ 0) (tf : Tr f) (tg : Tr g) (nf : f ≠ []) (h : ∀ x, ei g x = (z : Rat) * ei f x) : g = f.map fun v => z * v :=
  ei_inj tg (tr_mulc hz tf) fun x => by rw [ei_map]; exact h x
theorem prop_eq {f g : List Int} (tf : Tr f) (nf : f ≠ []) (pf : Prm f) (of' : 0 < lst f) (tg : Tr g) (ng : g ≠ []) (pg : Prm g) (og : 0 < lst g) (h1 : Dv (iq f) (iq g)) (h2 : Dv (iq g) (iq f)) : f = g := by
  have l1 := dv_len tf nf tg ng h1
  have l2 := dv_len tg ng tf nf h2
  obtain ⟨z, z0, ez⟩ := dv_const tf nf pf tg ng h1 l2
  have e := lst_smul z0 tf tg nf ez
  have d : z ∣ 1 := pg z fun v hv => by
    rw [e] at hv
    obtain ⟨w, _, rfl⟩ := List.mem_map.mp hv
    exact ⟨w, rfl⟩
  have zp : 0 < z := by
    rw [e, lst_map _ nf] at og
    apply Classical.byContradiction
    intro k
    have : z * lst f ≤ 0 := Int.mul_nonpos_of_nonpos_of_nonneg (by omega) (by omega)
    omega
  have z1 : z = 1 := by
    have := Int.le_of_dvd (by decide) d
    omega
  rw [e, z1]
  simp
theorem dv_smul {f g : List Int} {s : Rat} (h : ∀ x, ei g x = s * ei f x) : Dv (iq f) (iq g) := ⟨[s], fun x => by
  have := h x
  show ei g x = ei f x * (s + x * 0)
  rw [this]; grind⟩
theorem dv_smul' {f g : List Int} {s : Rat} (s0 : s ≠ 0) (h : ∀ x, ei g x = s * ei f x) : Dv (iq g) (iq f) := dv_smul (s := s⁻¹) fun x => by
  rw [h x]
  have : s⁻¹ * s = 1 := by grind
  grind
theorem dv_trans {a b c : List Rat} (h : Dv a b) (k : Dv b c) : Dv a c := by
  obtain ⟨q, e⟩ := h
  obtain ⟨r, e'⟩ := k
  exact ⟨mulq q r, fun x => by rw [e' x, e x, ev_mul]; grind⟩
theorem dv_primI {l : List Int} (h : Tr l) (n : l ≠ []) : Dv (iq (primI l)) (iq l) ∧ Dv (iq l) (iq (primI l)) :=
  ⟨dv_smul (primI_ei h n), dv_smul' (cast0 (signed_ne h n)) (primI_ei h n)⟩
/-- a common divisor is the list that has the same divisors -/
theorem gcd_is {one other h g : List Int} (G : IsGcd one other h) (tg : Tr g) (ng : g ≠ []) (d1 : Dv (iq g) (iq one)) (d2 : Dv (iq g) (iq other)) (d3 : Dv (iq h) (iq g)) : h = primI g := by
  obtain ⟨u, v, e⟩ := G.bz
  obtain ⟨a, ea⟩ := d1
  obtain ⟨b, eb⟩ := d2
  have p := dv_primI tg ng
  refine prop_eq G.tr G.ne G.prm G.pos (primI_tr tg) (fun q => ng (List.map_eq_nil_iff.mp q)) (primI_prm tg ng) (primI_lst tg ng) (dv_trans d3 p.2) (dv_trans p.1 ⟨addq (mulq u a) (mulq v b), fun x => ?_⟩)
  have h1 : ei one x = ei g x * ev a x := ea x
  have h2 : ei other x = ei g x * ev b x := eb x
  show ei h x = ei g x * _
  rw [e x, h1, h2, ev_add, ev_mul, ev_mul]; grind
/-- u p + v q = D, a number that is not 0 -/
def Cop (p q : List Int) : Prop := ∃ (u v : List Rat) (D : Rat), D ≠ 0 ∧ ∀ x, ev u x * ei p x + ev v x * ei q x = D
theorem Cop.symm {p q : List Int} (h : Cop p q) : Cop q p := by
  obtain ⟨u, v, D, d0, e⟩ := h
  exact ⟨v, u, D, d0, fun x => by have := e x; grind⟩
theorem tr_one : Tr [1] := fun a z e => by
  cases a with
  | nil => cases e; decide
  | cons b a => simp at e
theorem ei_one (x : Rat) : ei [1] x = 1 := by rw [ei_cons, ei_nil, show ((1 : Int) : Rat) = 1 from rfl]; grind
theorem gcd_cop {one other h : List Int} (G : IsGcd one other h) (c : Cop one other) : h = [1] := by
  obtain ⟨u, v, D, d0, e⟩ := c
  obtain ⟨a, ea⟩ := G.d1
  obtain ⟨b, eb⟩ := G.d2
  have := gcd_is G tr_one (by simp) ⟨iq one, fun x => by show ei one x = ei [1] x * ei one x; rw [ei_one]; grind⟩ ⟨iq other, fun x => by show ei other x = ei [1] x * ei other x; rw [ei_one]; grind⟩
    ⟨smulq (D⁻¹) (addq (mulq u a) (mulq v b)), fun x => by
      have h1 : ei one x = ei h x * ev a x := ea x
      have h2 : ei other x = ei h x * ev b x := eb x
      have h3 := e x
      rw [h1, h2] at h3
      show ei [1] x = ei h x * _
      rw [ei_one, ev_smul, ev_add, ev_mul, ev_mul]
      have : D⁻¹ * D = 1 := by grind
      calc (1 : Rat) = D⁻¹ * D := this.symm
        _ = _ := by rw [← h3]; grind⟩
  rw [this]; decide
theorem gcd_z {one other h : List Int} (G : IsGcd one other h) (c : Cut) : Z c (ei h) ↔ Z c (ei one) ∧ Z c (ei other) := by
  constructor
  · intro z
    obtain ⟨a, ea⟩ := G.d1
    obtain ⟨b, eb⟩ := G.d2
    exact ⟨(z.mulp a).congr fun x => by have : ei one x = ei h x * ev a x := ea x; rw [this]; grind,
      (z.mulp b).congr fun x => by have : ei other x = ei h x * ev b x := eb x; rw [this]; grind⟩
  · rintro ⟨z1, z2⟩
    obtain ⟨u, v, e⟩ := G.bz
    exact ((z1.mulp u).add (z2.mulp v)).congr fun x => (e x).symm
/-- without multiple roots: f is the primitive list -/
theorem free_cop {items f : List Int} (ht : Tr items) (hn : items ≠ []) (F : IsFree items f) (c : Cop items (derI items)) : f = primI items := by
  obtain ⟨h, G, s, s0, e⟩ := F.q
  have h1 := gcd_cop G c
  subst h1
  have e2 : ∀ x, ei items x = s * ei f x := fun x => by rw [e x, ei_one]; grind
  have p := dv_primI ht hn
  exact prop_eq F.tr F.ne F.prm F.pos (primI_tr ht) (fun q => hn (List.map_eq_nil_iff.mp q)) (primI_prm ht hn) (primI_lst ht hn) (dv_trans (dv_smul e2) p.2) (dv_trans p.1 (dv_smul' s0 e2))
/-- counting works -/
theorem cnt_cop {n a e : Nat} {items : List Int} (ht : Tr items) (hn : items ≠ []) (hs : Sz a items) (hl : items.length ≤ n + 1) (he : items.length ≤ 2 ^ e) (h9 : n ≤ 50)
    (hH : cbits n a (a + e) ≤ Lim) (hq : a + (n + 1) * (cbits n a (a + e) + 1) ≤ 2 * Lim) (c : Cop items (derI items)) : ∃ cs, Cnt items cs := by
  obtain ⟨cs, C⟩ := cuts_ex ht hn
  refine ⟨cs, C, count_ex ht hn hs hl he h9 hH hq (a' := a) (fun f F => ?_) hH C⟩
  rw [free_cop ht hn F c]
  exact primI_sz ht hs
inductive CmpVR (f : List Int) (lo hi v : Rat) : Int → Prop
  | below : Sm lo → Sm hi → Sm v → ¬ lo < v → CmpVR f lo hi v 1
  | above : Sm lo → Sm hi → Sm v → lo < v → hi < v → CmpVR f lo hi v (-1)
  | same : Sm lo → Sm hi → Sm v → lo < v → ¬ hi < v → Sz Lim f → f.length ≤ 60 → (voI v.num v.den f).1 = 0 → CmpVR f lo hi v 0
  | less : Sm lo → Sm hi → Sm v → lo < v → ¬ hi < v → Sz Lim f → f.length ≤ 60 → (voI v.num v.den f).1 ≠ 0 → CountR f (ob lo) (ob v) 1 → CmpVR f lo hi v (-1)
  | more {n} : Sm lo → Sm hi → Sm v → lo < v → ¬ hi < v → Sz Lim f → f.length ≤ 60 → (voI v.num v.den f).1 ≠ 0 → CountR f (ob lo) (ob v) n → n ≠ 1 → CmpVR f lo hi v 1
/-- -1, 0 or 1 for a cut and a ratio -/
structure OrdV (c : Cut) (v : Rat) (r : Int) : Prop where
  lo : c.lo v → r = 1
  hi : c.hi v → r = -1
  eq : ¬ c.lo v → ¬ c.hi v → r = 0
theorem vo_zero (f : List Int) (v : Rat) : (voI v.num v.den f).1 = 0 ↔ ei f v = 0 := by
  have hd : (0 : Int) < (v.den : Int) := by have := v.den_pos; omega
  have h := sg_vo (t := v.num) hd f
  rw [show ((v.num : Int) : Rat) / (((v.den : Nat) : Int) : Rat) = v from num_den v] at h
  constructor
  · intro e
    rw [e] at h
    have h : 0 = sg (ei f v) := h
    unfold sg at h
    split at h
    · cases h
    · split at h
      · cases h
      · grind
  · intro e
    rw [e, sg_zero] at h
    unfold sgZ at h
    split at h
    · cases h
    · split at h
      · cases h
      · omega
theorem z_at {c : Cut} {v : Rat} (h1 : ¬ c.lo v) (h2 : ¬ c.hi v) : Eqv c (ratCut v) := fun x => by
  constructor
  · constructor
    · intro h
      show x < v
      apply Classical.byContradiction
      intro k
      exact h1 (c.lo_dn (by grind) h)
    · intro h
      have h : x < v := h
      exact (c.loc h).resolve_right h2
  · constructor
    · intro h
      show v < x
      apply Classical.byContradiction
      intro k
      exact h2 (c.hi_up (by grind) h)
    · intro h
      have h : v < x := h
      exact (c.loc h).resolve_left h1
theorem cmpV_ex {f : List Int} {cs : List Cut} (C : Cnt f cs) (sf : Sz Lim f) (lf : f.length ≤ 60) {c : Cut} {lo hi v : Rat} (I : Iso f c lo hi) (s1 : Sm lo) (s2 : Sm hi) (s3 : Sm v) : ∃ r, CmpVR f lo hi v r ∧ OrdV c v r := by
  by_cases q1 : lo < v
  · by_cases q2 : hi < v
    · have hv : c.hi v := (c.loc q2).resolve_left I.i.2
      exact ⟨-1, .above s1 s2 s3 q1 q2, fun h => absurd (c.dis h hv) (by grind), fun _ => rfl, fun _ h => absurd hv h⟩
    · by_cases q3 : (voI v.num v.den f).1 = 0
      · have z : Z (ratCut v) (ei f) := Z.rat.mpr ((vo_zero f v).mp q3)
        have e := I.one (ratCut v) z ⟨q1, fun h => by have h : hi < v := h; grind⟩
        refine ⟨0, .same s1 s2 s3 q1 q2 sf lf q3, fun h => ?_, fun h => ?_, fun _ _ => rfl⟩
        · have : v < v := (e v).1.mpr h
          grind
        · have : v < v := (e v).2.mpr h
          grind
      · have cr := C.at (Rat.le_of_lt q1) s1 s3.bd
        have nz : ¬ (¬ c.lo v ∧ ¬ c.hi v) := fun ⟨h1, h2⟩ => q3 ((vo_zero f v).mpr (Z.rat.mp ((z_at h1 h2).z I.z)))
        by_cases q4 : c.lo v
        · have c0 : cnt cs lo v = 0 := cnt_zero fun d hd w => ((I.one d (C.c.z d hd) ⟨w.1, fun x => w.2 (d.lo_dn (by grind) x)⟩).inn w).2 q4
          rw [c0] at cr
          exact ⟨1, .more s1 s2 s3 q1 q2 sf lf q3 cr (by decide), fun _ => rfl, fun h => absurd (c.dis q4 h) (by grind), fun h => absurd q4 h⟩
        · have c1 := (I.sub (l := lo) (h := v) ⟨I.i.1, q4⟩ (by grind) (by grind)).cnt C.c
          rw [c1] at cr
          exact ⟨-1, .less s1 s2 s3 q1 q2 sf lf q3 cr, fun h => absurd h q4, fun _ => rfl, fun _ h => absurd ⟨q4, h⟩ nz⟩
  · have lv : c.lo v := c.lo_dn (by grind) I.i.1
    exact ⟨1, .below s1 s2 s3 q1, fun _ => rfl, fun h => absurd (c.dis lv h) (by grind), fun h => absurd lv h⟩
def SOk (s : List Int) : Prop := Tr s ∧ s ≠ [] ∧ Sz (2 * Lim) s ∧ s.length < 1000
inductive CmpRR (f g : List Int) (lo hi a b : Rat) : Int → Prop
  | same {s m} : ComR f g s → SOk s → CountR s (ob lo) (ob hi) 1 → CountR s (ob a) (ob b) 1 → CountR s none (ob hi) m → CountR s none (ob b) m → CmpRR f g lo hi a b 0
  | sep1 {s n r} : ComR f g s → SOk s → CountR s (ob lo) (ob hi) n → n ≠ 1 → SepR f g lo hi a b r → CmpRR f g lo hi a b (if r then 1 else -1)
  | sep2 {s n r} : ComR f g s → SOk s → CountR s (ob lo) (ob hi) 1 → CountR s (ob a) (ob b) n → n ≠ 1 → SepR f g lo hi a b r → CmpRR f g lo hi a b (if r then 1 else -1)
  | sep3 {s m m' r} : ComR f g s → SOk s → CountR s (ob lo) (ob hi) 1 → CountR s (ob a) (ob b) 1 → CountR s none (ob hi) m → CountR s none (ob b) m' → m ≠ m' → SepR f g lo hi a b r → CmpRR f g lo hi a b (if r then 1 else -1)
structure OrdC (c d : Cut) (r : Int) : Prop where
  lt : Lt c d → r = -1
  gt : Lt d c → r = 1
  eq : Eqv c d → r = 0
theorem Lt.irr {c d : Cut} (h : Lt c d) : ¬ Lt d c ∧ ¬ Eqv c d := by
  obtain ⟨x, h1, h2⟩ := h
  refine ⟨fun ⟨y, k1, k2⟩ => ?_, fun e => ?_⟩
  · have := c.dis k2 h1
    have := d.dis h2 k1
    grind
  · have := c.dis ((e x).1.mpr h2) h1
    grind
theorem cmpR_ex {f g s : List Int} {cs ds es : List Cut} (C : Cnt f cs) (D : Cnt g ds) (E : Cnt s es) (cr : ComR f g s) (so : SOk s) (gz : ∀ c, Z c (ei s) ↔ Z c (ei f) ∧ Z c (ei g)) {c d : Cut} {lo hi a b : Rat} (I : Iso f c lo hi) (J : Iso g d a b)
    {B k N : Nat} {δ : Rat} (d0 : 0 < δ) (far : ¬ Eqv c d → ∀ l1 h1 l2 h2, In c l1 h1 → In d l2 h2 → h1 - l1 ≤ δ → h2 - l2 ≤ δ → ¬ (l1 < h2 ∧ l2 < h1)) (hB : B < 2 ^ 100) (d1 : Dy B k lo) (d2 : Dy B k hi) (d3 : Dy B k a) (d4 : Dy B k b)
    (hk : k + N ≤ 790) (w1 : hi - lo ≤ δ * 2 ^ N) (w2 : b - a ≤ δ * 2 ^ N) : ∃ r, CmpRR f g lo hi a b r ∧ OrdC c d r := by
  have s1 := d1.sm hB (by omega)
  have s2 := d2.sm hB (by omega)
  have s3 := d3.sm hB (by omega)
  have s4 := d4.sm hB (by omega)
  have q1 := E.at (Rat.le_of_lt I.i.lt) s1 s2.bd
  have q2 := E.at (Rat.le_of_lt J.i.lt) s3 s4.bd
  have q3 := E.r none (ob hi) (fun _ _ h => by cases h) s2.bd
  have q4 := E.r none (ob b) (fun _ _ h => by cases h) s4.bd
  have sub1 : cnt es lo hi = 1 → Z c (ei s) := fun h => by
    obtain ⟨e, he, i, _⟩ := one_cnt h
    exact (I.one e ((gz e).mp (E.c.z e he)).1 i).z (E.c.z e he)
  have sub2 : cnt es a b = 1 → Z d (ei s) := fun h => by
    obtain ⟨e, he, i, _⟩ := one_cnt h
    exact (J.one e ((gz e).mp (E.c.z e he)).2 i).z (E.c.z e he)
  by_cases ne : Eqv c d
  · have zc : Z c (ei s) := (gz c).mpr ⟨I.z, ne.symm.z J.z⟩
    have I' : Iso s c lo hi := ⟨zc, I.i, fun e he ie => I.one e ((gz e).mp he).1 ie⟩
    have J' : Iso s d a b := ⟨ne.z zc, J.i, fun e he ie => J.one e ((gz e).mp he).2 ie⟩
    rw [I'.cnt E.c] at q1
    rw [J'.cnt E.c] at q2
    -- both ends have the same number of roots below
    have rank : NN es hi = NN es b := by
      rcases Rat.le_total (a := hi) (b := b) with h | h
      · rw [NN_cnt es h]
        rw [cnt_zero fun e he ie => ?_]
        · rfl
        · have ib : In e a b := ⟨e.lo_dn (by
            apply Classical.byContradiction
            intro z
            exact I.i.2 (c.lo_dn (show hi ≤ a by grind) ((ne a).1.mpr J.i.1))) ie.1, ie.2⟩
          have := J'.one e (E.c.z e he) ib
          exact I.i.2 ((ne hi).1.mpr ((this hi).1.mp ie.1))
      · rw [NN_cnt es h]
        rw [cnt_zero fun e he ie => ?_]
        · rfl
        · have ib : In e lo hi := ⟨e.lo_dn (by
            apply Classical.byContradiction
            intro z
            exact J.i.2 (d.lo_dn (show b ≤ lo by grind) ((ne lo).1.mp I.i.1))) ie.1, ie.2⟩
          have := I'.one e (E.c.z e he) ib
          exact J.i.2 ((ne b).1.mp ((this b).1.mp ie.1))
    rw [NB_ob, rank] at q3
    rw [NB_ob] at q4
    exact ⟨0, .same cr so q1 q2 q3 q4, fun h => absurd ne h.irr.2, fun h => absurd ne.symm h.irr.2, fun _ => rfl⟩
  · obtain ⟨r, hr, hl⟩ := sep_ex C D d0 (far ne) hB N I J d1 d2 d3 d4 hk w1 w2 ne
    have od : OrdC c d (if r then 1 else -1) := by
      refine ⟨fun h => ?_, fun h => ?_, fun h => absurd h ne⟩
      · rw [if_neg fun q => h.irr.1 (hl.mp q)]
      · rw [if_pos (hl.mpr h)]
    by_cases k1 : cnt es lo hi = 1
    · rw [k1] at q1
      by_cases k2 : cnt es a b = 1
      · rw [k2] at q2
        rw [NB_ob] at q3 q4
        have nr : ((NN es hi : Nat) : Int) - ((NB es 0 none : Nat) : Int) ≠ ((NN es b : Nat) : Int) - ((NB es 0 none : Nat) : Int) := by
          intro z
          have z : NN es hi = NN es b := by omega
          have zc := sub1 k1
          have zd := sub2 k2
          -- c and d would have the same rank
          have ncd : ∀ (c d : Cut) (hi b : Rat), Z d (ei s) → ¬ c.lo hi → (∀ e, Z e (ei s) → ¬ c.hi hi → True) → True := fun _ _ _ _ _ _ _ => trivial
          have ic := I.i
          have id := J.i
          rcases Rat.le_total (a := hi) (b := b) with h | h
          · have h0 : cnt es hi b = 0 := by have := NN_cnt es h; omega
            have nd : ¬ In d hi b := fun w => by
              obtain ⟨e, he, ed⟩ := E.c.all d zd
              have all : ∀ {cs : List Cut}, cnt cs hi b = 0 → ∀ e ∈ cs, ¬ In e hi b := fun {cs} => by
                induction cs with
                | nil => intro _ e he; cases he
                | cons f cs ih =>
                  intro h0 e he
                  by_cases kf : In f hi b
                  · rw [cnt, if_pos kf] at h0; omega
                  · rw [cnt, if_neg kf, Nat.zero_add] at h0
                    rcases List.mem_cons.mp he with rfl | he
                    · exact kf
                    · exact ih h0 e he
              exact all h0 e he (ed.symm.inn w)
            have dh : ¬ d.lo hi := fun w => nd ⟨w, id.2⟩
            -- d ≤ hi; if lo < d then d is c; else d ≤ lo < c and then c is in (a, b]
            by_cases w : d.lo lo
            · exact ne (I.one d ((gz d).mp zd).1 ⟨w, dh⟩).symm
            · have al : a < lo := by
                apply Classical.byContradiction
                intro q
                exact w (d.lo_dn (by grind) id.1)
              exact ne (J.one c ((gz c).mp zc).2 ⟨c.lo_dn (Rat.le_of_lt al) ic.1, fun q => ic.2 (c.lo_dn h q)⟩)
          · have h0 : cnt es b hi = 0 := by have := NN_cnt es h; omega
            have nd : ¬ In c b hi := fun w => by
              obtain ⟨e, he, ed⟩ := E.c.all c zc
              have all : ∀ {cs : List Cut}, cnt cs b hi = 0 → ∀ e ∈ cs, ¬ In e b hi := fun {cs} => by
                induction cs with
                | nil => intro _ e he; cases he
                | cons f cs ih =>
                  intro h0 e he
                  by_cases kf : In f b hi
                  · rw [cnt, if_pos kf] at h0; omega
                  · rw [cnt, if_neg kf, Nat.zero_add] at h0
                    rcases List.mem_cons.mp he with rfl | he
                    · exact kf
                    · exact ih h0 e he
              exact all h0 e he (ed.symm.inn w)
            have dh : ¬ c.lo b := fun w => nd ⟨w, ic.2⟩
            by_cases w : c.lo a
            · exact ne (J.one c ((gz c).mp zc).2 ⟨w, dh⟩)
            · have al : lo < a := by
                apply Classical.byContradiction
                intro q
                exact w (c.lo_dn (by grind) ic.1)
              exact ne (I.one d ((gz d).mp zd).1 ⟨d.lo_dn (Rat.le_of_lt al) id.1, fun q => id.2 (d.lo_dn h q)⟩).symm
        exact ⟨_, .sep3 cr so q1 q2 q3 q4 nr hr, od⟩
      · exact ⟨_, .sep2 cr so q1 q2 (by omega) hr, od⟩
    · exact ⟨_, .sep1 cr so q1 (by omega) hr, od⟩
end ST
namespace ST
open RO PO L2 DL
def maxA (l : List Int) : Nat := l.foldl (fun m v => max m v.natAbs) 0
theorem maxA_fold : ∀ (l : List Int) (m : Nat), m ≤ l.foldl (fun m v => max m v.natAbs) m ∧ ∀ v ∈ l, v.natAbs ≤ l.foldl (fun m v => max m v.natAbs) m
  | [], m => ⟨Nat.le_refl _, fun _ h => by cases h⟩
  | a :: l, m => by
    obtain ⟨h1, h2⟩ := maxA_fold l (max m a.natAbs)
    refine ⟨by show m ≤ l.foldl (fun m v => max m v.natAbs) (max m a.natAbs); omega, fun v hv => ?_⟩
    rcases List.mem_cons.mp hv with rfl | hv
    · show v.natAbs ≤ l.foldl (fun m v => max m v.natAbs) (max m v.natAbs); omega
    · exact h2 v hv
def farB (f : List Int) : Nat := 2 + maxA f / (lst f).natAbs
theorem pow_one_le {X : Rat} (h : 1 ≤ X) : ∀ n : Nat, 1 ≤ X ^ n
  | 0 => by rw [Rat.pow_zero]; grind
  | n + 1 => by
    rw [Rat.pow_succ]
    have := pow_one_le h n
    have h2 := Rat.mul_nonneg (show 0 ≤ X ^ n - 1 by grind) (show 0 ≤ X by grind)
    grind
theorem low_bd {M V : Rat} {x X : Rat} (hx : Bd x X) (h1 : 1 ≤ X) (hM : M ≤ V * (X - 1)) (hV : 0 ≤ V) : ∀ a : List Rat, (∀ z ∈ a, Bd z M) → Bd (ev a x) (V * (X ^ a.length - 1))
  | [], _ => by
    show Bd 0 (V * (X ^ 0 - 1))
    rw [Rat.pow_zero, show V * (1 - 1) = 0 from by grind]
    exact Bd.of0 (by grind)
  | z :: a, h => by
    have ih := low_bd hx h1 hM hV a fun w hw => h w (List.mem_cons_of_mem _ hw)
    have hz := h z List.mem_cons_self
    refine Bd.le (hz.add (hx.mul ih)) ?_
    rw [List.length_cons, Rat.pow_succ]
    grind
/-- no value between -1 and 1 beyond the bound -/
theorem far_big {f : List Int} (tf : Tr f) (nf : f ≠ []) {x : Rat} (hx : x ≤ -((farB f : Nat) : Rat) ∨ ((farB f : Nat) : Rat) ≤ x) : ¬ Bd (ei f x) (1 / 2) := by
  obtain ⟨a, e, z⟩ := tr_form tf nf
  obtain ⟨X, hX, hB⟩ : ∃ X, Bd x X ∧ ((farB f : Nat) : Rat) ≤ X ∧ (X = x ∨ X = -x) := by
    rcases hx with h | h
    · exact ⟨-x, ⟨by grind, by have : (0 : Rat) ≤ ((farB f : Nat) : Rat) := Rat.natCast_nonneg; grind⟩, by grind, .inr rfl⟩
    · exact ⟨x, ⟨by have : (0 : Rat) ≤ ((farB f : Nat) : Rat) := Rat.natCast_nonneg; grind, by grind⟩, h, .inl rfl⟩
  have v0 : 0 < (lst f).natAbs := by omega
  have B2 : (2 : Rat) ≤ ((farB f : Nat) : Rat) := by
    have : 2 ≤ farB f := Nat.le_add_right _ _
    exact Rat.natCast_le_natCast.mpr this
  have hMn : maxA f ≤ (lst f).natAbs * (farB f - 1) := by
    unfold farB
    have := Nat.div_add_mod (maxA f) (lst f).natAbs
    have := Nat.mod_lt (maxA f) v0
    generalize maxA f / (lst f).natAbs = q at *
    rw [show 2 + q - 1 = q + 1 from by omega, Nat.mul_succ]
    omega
  have hM : ((maxA f : Nat) : Rat) ≤ (((lst f).natAbs : Nat) : Rat) * (X - 1) := by
    have h1 : ((maxA f : Nat) : Rat) ≤ (((lst f).natAbs * (farB f - 1) : Nat) : Rat) := Rat.natCast_le_natCast.mpr hMn
    have h2 : (((lst f).natAbs * (farB f - 1) : Nat) : Rat) = (((lst f).natAbs : Nat) : Rat) * (((farB f - 1 : Nat)) : Rat) := Rat.natCast_mul _ _
    have h3 : ((farB f - 1 : Nat) : Rat) + 1 = ((farB f : Nat) : Rat) := by
      have : farB f - 1 + 1 = farB f := by
        have : 2 ≤ farB f := Nat.le_add_right _ _
        omega
      have h := congrArg (fun n : Nat => (n : Rat)) this
      simp only [Rat.natCast_add] at h
      exact h
    have h4 : (0 : Rat) ≤ (((lst f).natAbs : Nat) : Rat) := Rat.natCast_nonneg
    have h5 := Rat.mul_nonneg h4 (show (0 : Rat) ≤ X - ((farB f : Nat) : Rat) from by grind)
    rw [h2] at h1
    have h6 : ((farB f - 1 : Nat) : Rat) = ((farB f : Nat) : Rat) - 1 := by grind
    rw [h6] at h1
    grind
  have lo := low_bd hX (by grind) hM Rat.natCast_nonneg (iq a) fun w hw => by
    obtain ⟨y, hy, rfl⟩ := List.mem_map.mp hw
    have := (maxA_fold f 0).2 y (by rw [e]; exact List.mem_append_left _ hy)
    have h2 : ((y.natAbs : Nat) : Rat) ≤ ((maxA f : Nat) : Rat) := Rat.natCast_le_natCast.mpr this
    have h3 : (y : Rat) ≤ ((y.natAbs : Nat) : Rat) := by
      have : y ≤ ((y.natAbs : Nat) : Int) := by omega
      exact Rat.intCast_le_intCast.mpr this
    have h4 : -((y.natAbs : Nat) : Rat) ≤ (y : Rat) := by
      have : -((y.natAbs : Nat) : Int) ≤ y := by omega
      have := Rat.intCast_le_intCast.mpr this
      rwa [Rat.intCast_neg] at this
    exact ⟨by grind, by grind⟩
  have la : (iq a).length = a.length := by unfold iq; rw [List.length_map]
  rw [la] at lo
  have eq : ei f x = ev (iq a) x + x ^ a.length * (lst f : Rat) := by
    show ev (iq f) x = _
    conv => lhs; rw [e]
    rw [iq_app, ev_app, la]
    show _ + _ * ((lst f : Rat) + x * 0) = _
    grind
  have P1 : 1 ≤ X ^ a.length := pow_one_le (by grind) _
  have xp : x ^ a.length = X ^ a.length ∨ x ^ a.length = -(X ^ a.length) := by
    rcases hB.2 with h | h
    · exact .inl (by rw [h])
    · have : x = -X := by grind
      rw [this]
      clear lo eq P1
      induction a.length with
      | zero => left; rw [Rat.pow_zero, Rat.pow_zero]
      | succ n ih =>
        rw [Rat.pow_succ, Rat.pow_succ]
        rcases ih with ih | ih
        · right; rw [ih]; grind
        · left; rw [ih]; grind
  have V1 : (1 : Rat) ≤ (((lst f).natAbs : Nat) : Rat) := by
    have : 1 ≤ (lst f).natAbs := v0
    exact Rat.natCast_le_natCast.mpr this
  have Vc : (lst f : Rat) = (((lst f).natAbs : Nat) : Rat) ∨ (lst f : Rat) = -(((lst f).natAbs : Nat) : Rat) := by
    by_cases h : 0 ≤ lst f
    · left
      have : lst f = (((lst f).natAbs : Nat) : Int) := by omega
      have := congrArg (fun z : Int => (z : Rat)) this
      exact this
    · right
      have : lst f = -(((lst f).natAbs : Nat) : Int) := by omega
      have := congrArg (fun z : Int => (z : Rat)) this
      simp only [Rat.intCast_neg] at this
      exact this
  rw [eq]
  generalize (((lst f).natAbs : Nat) : Rat) = V at *
  generalize ev (iq a) x = E at *
  generalize X ^ a.length = P at *
  rintro ⟨b1, b2⟩
  obtain ⟨l1, l2⟩ := lo
  rcases xp with h | h <;> rcases Vc with k | k <;> rw [h, k] at b1 b2 <;> grind
theorem z_in {f : List Int} (tf : Tr f) (nf : f ≠ []) {c : Cut} (z : Z c (ei f)) : c.lo (-((farB f : Nat) : Rat)) ∧ c.hi ((farB f : Nat) : Rat) := by
  obtain ⟨δ, d0, k⟩ := z (1 / 2) (by grind)
  obtain ⟨u, v, lu, hv, nu, nv⟩ := c.near_ex d0
  constructor
  · apply Classical.byContradiction
    intro h
    refine far_big tf nf (.inl ?_) (k u nu)
    apply Classical.byContradiction
    intro q
    exact h (c.lo_dn (by grind) lu)
  · apply Classical.byContradiction
    intro h
    refine far_big tf nf (.inr ?_) (k v nv)
    apply Classical.byContradiction
    intro q
    exact h (c.hi_up (by grind) hv)
inductive RootR (row : List Int) (ix : Int) : List Int → Rat → Rat → Prop
  | mk {f n lo hi} : FreeR row f → f ≠ [] → Sz Lim f → f.length ≤ 60 → CountR f none none n → 0 ≤ ix → ix < n → IsoR f (-((farB f : Nat) : Rat)) ix (-((farB f : Nat) : Rat)) ((farB f : Nat) : Rat) lo hi → RootR row ix f lo hi
inductive SgnR (f : List Int) (lo hi : Rat) (items : List Int) : Int → Prop
  | zero {s} : ComR f items s → SOk s → CountR s (ob lo) (ob hi) 1 → SgnR f lo hi items 0
  | other {s n l h} : ComR f items s → SOk s → CountR s (ob lo) (ob hi) n → n ≠ 1 → SignR f items lo hi l h → Sm h → Sz Lim items → items.length ≤ 60 → SgnR f lo hi items (sgZ (voI h.num h.den items).1)
structure SgnC (c : Cut) (items : List Int) (r : Int) : Prop where
  z : Z c (ei items) → r = 0
  s : ∀ s, HasS c (ei items) s → r = s
theorem sgn_ex {f items s : List Int} {cs ds es : List Cut} (C : Cnt f cs) (D : Cnt items ds) (E : Cnt s es) (cr : ComR f items s) (so : SOk s) (gz : ∀ c, Z c (ei s) ↔ Z c (ei f) ∧ Z c (ei items)) (si : Sz Lim items) (li : items.length ≤ 60)
    {c : Cut} {lo hi : Rat} (I : Iso f c lo hi) {B k N : Nat} {δ : Rat} (far : ¬ Z c (ei items) → ∀ d, Z d (ei items) → Far c d δ) (hB : B < 2 ^ 100) (d1 : Dy B k lo) (d2 : Dy B k hi) (hk : k + N ≤ 790) (w1 : hi - lo ≤ δ * 2 ^ N) :
    ∃ r, SgnR f lo hi items r ∧ SgnC c items r := by
  have s1 := d1.sm hB (by omega)
  have s2 := d2.sm hB (by omega)
  have q1 := E.at (Rat.le_of_lt I.i.lt) s1 s2.bd
  by_cases z : Z c (ei items)
  · have I' : Iso s c lo hi := ⟨(gz c).mpr ⟨I.z, z⟩, I.i, fun e he ie => I.one e ((gz e).mp he).1 ie⟩
    rw [I'.cnt E.c] at q1
    exact ⟨0, .zero cr so q1, fun _ => rfl, fun t ht => absurd z ht.nz⟩
  · have c0 : cnt es lo hi = 0 := cnt_zero fun d hd w => z ((I.one d ((gz d).mp (E.c.z d hd)).1 w).z ((gz d).mp (E.c.z d hd)).2)
    rw [c0] at q1
    obtain ⟨l, h, sr, I2, sh, no⟩ := sign_ex C D (far z) hB N I d1 d2 hk w1
    refine ⟨_, .other cr so q1 (by decide) sr sh si li, fun h => absurd h z, fun t ht => ?_⟩
    have hd : (0 : Int) < (h.den : Int) := by have := h.den_pos; omega
    rw [sg_vo hd, show ((h.num : Int) : Rat) / (((h.den : Nat) : Int) : Rat) = h from num_den h]
    -- a ratio close to c, above l and at most h
    obtain ⟨δ', d0', k'⟩ := ht.sg
    obtain ⟨u, v, lu, hv, nu, nv⟩ := c.near_ex d0'
    by_cases q : c.hi h
    · obtain ⟨y, yh, hy⟩ := c.hi_op q
      -- the lesser of v and y
      obtain ⟨m, m1, m2, m3⟩ := min_le v y
      have hm : c.hi m := by rcases m3 with rfl | rfl <;> assumption
      have nm : c.near δ' m := by
        have := c.dis lu hm
        exact Cut.near_mid nu nv (by grind) m1
      rw [← k' m nm]
      refine (sg_const (show m ≤ h by grind) fun d hz ⟨x1, x2⟩ => ?_).symm
      refine no d hz ⟨?_, x2⟩
      have := c.dis I2.i.1 hm
      exact (d.loc this).resolve_right x1
    · have nh : c.near δ' h := c.mid_eq I2.i.2 q d0'
      exact k' h nh
inductive RatioR (f : List Int) (lo hi : Rat) : Option Rat → Prop
  | mk {l h r} : Sz Lim f → f ≠ [] → (lst f).natAbs < 2 ^ 1900 → WithR f (1 / ((2 * (lst f).natAbs : Nat) : Rat)) lo hi l h → Sm h →
      CmpVR f lo hi (((h.num * ((lst f).natAbs : Int) / (h.den : Int) : Int) : Rat) / (((lst f).natAbs : Nat) : Rat)) r →
      RatioR f lo hi (if r = 0 then some (((h.num * ((lst f).natAbs : Int) / (h.den : Int) : Int) : Rat) / (((lst f).natAbs : Nat) : Rat)) else none)
structure RatC (c : Cut) (o : Option Rat) : Prop where
  some : ∀ q, Eqv c (ratCut q) → o = some q
  none : (∀ q, ¬ Eqv c (ratCut q)) → o = none
/-- a ratio at which a primitive list vanishes: its bottom divides the last number -/
theorem rat_root {f : List Int} (tf : Tr f) (nf : f ≠ []) {q : Rat} (h : ei f q = 0) : ∃ z : Int, q * (((lst f).natAbs : Nat) : Rat) = (z : Rat) := by
  -- q * x - p divides f
  have hlin : Tr [-q.num, (q.den : Int)] := fun a z e => by
    cases a with
    | nil => simp at e
    | cons b a => cases a with
      | nil =>
        simp at e
        have := q.den_pos
        omega
      | cons c a => simp at e
  have prm : Prm [-q.num, (q.den : Int)] := fun g hg => by
    have h1 := hg (-q.num) (by simp)
    have h2 := hg (q.den : Int) (by simp)
    have h3 : g.natAbs ∣ q.num.natAbs := by have := Int.natAbs_dvd_natAbs.mpr h1; rwa [Int.natAbs_neg] at this
    have h4 : g.natAbs ∣ q.den := by have := Int.natAbs_dvd_natAbs.mpr h2; rwa [Int.natAbs_natCast] at this
    have h5 := Nat.dvd_gcd h3 h4
    rw [q.reduced] at h5
    exact Int.natAbs_dvd_natAbs.mp h5
  have dvd : Dv (iq [-q.num, (q.den : Int)]) (iq f) := by
    -- synthetic division
    have syn : ∀ l : List Int, ∃ m : List Rat, ∀ x, ei l x = ei l q + (x - q) * ev m x := fun l => by
      induction l with
      | nil => exact ⟨[], fun x => by rw [ei_nil, ei_nil, ev_nil]; grind⟩
      | cons a l ih =>
        obtain ⟨m, hm⟩ := ih
        refine ⟨addq [ei l q] (0 :: m), fun x => ?_⟩
        rw [ei_cons, ei_cons, ev_add, ev_cons, ev_cons, ev_nil, hm x]; grind
    obtain ⟨m, hm⟩ := syn f
    refine ⟨smulq (((q.den : Nat) : Rat)⁻¹) m, fun x => ?_⟩
    have h1 := hm x
    rw [h] at h1
    show ei f x = ei [-q.num, (q.den : Int)] x * _
    rw [h1, ei_cons, ei_cons, ei_nil, ev_smul, Rat.intCast_neg]
    have d := den_mul q
    have dn : ((q.den : Nat) : Rat) ≠ 0 := by
      have : (((q.den : Nat) : Int) : Rat) ≠ 0 := cast0 (by have := q.den_pos; omega)
      exact this
    show _ = (-(q.num : Rat) + x * (((q.den : Nat) : Rat) + x * 0)) * _
    rw [← d]
    generalize ((q.den : Nat) : Rat) = D at *
    have : D⁻¹ * D = 1 := by grind
    grind
  obtain ⟨Q, tQ, eQ⟩ := quot_int hlin prm dvd
  have nQ : Q ≠ [] := fun z => by
    subst z
    obtain ⟨M, hM⟩ := (tr_dg tf nf).far
    exact hM M (by grind) (by rw [eQ, ei_nil]; grind)
  obtain ⟨a, ea, za⟩ := tr_form tQ nQ
  have ef : f = trimI (mulI [-q.num, (q.den : Int)] Q) := ei_inj tf (trim_tr _) fun x => by rw [ei_trim, ei_mulI]; exact eQ x
  obtain ⟨r, hr, _⟩ := mulI_last [-q.num] a (q.den : Int) (lst Q)
  rw [← ea] at hr
  have hr : mulI [-q.num, (q.den : Int)] Q = r ++ [(q.den : Int) * lst Q] := hr
  have hl : lst f = (q.den : Int) * lst Q := by
    rw [ef, hr, trim_last _ (Int.mul_ne_zero (by have := q.den_pos; omega) za), lst_app]
  have hn : (((lst f).natAbs : Nat) : Rat) = ((q.den : Nat) : Rat) * (((lst Q).natAbs : Nat) : Rat) := by
    rw [hl, Int.natAbs_mul, Int.natAbs_natCast, Rat.natCast_mul]
  refine ⟨q.num * ((lst Q).natAbs : Int), ?_⟩
  rw [hn, Rat.intCast_mul, ← den_mul q]
  show q * (_ * _) = q * _ * (((lst Q).natAbs : Nat) : Rat)
  grind
theorem floor_of {h : Rat} {L : Int} {z : Int} (h1 : (z : Rat) ≤ h * (L : Rat)) (h2 : h * (L : Rat) < (z : Rat) + 1) : h.num * L / (h.den : Int) = z := by
  have d0 : (0 : Int) < (h.den : Int) := by have := h.den_pos; omega
  have dq : (0 : Rat) < ((h.den : Nat) : Rat) := by
    have : (0 : Rat) < (((h.den : Nat) : Int) : Rat) := Rat.intCast_pos.mpr d0
    exact this
  have e := den_mul h
  have a1 : (((z * (h.den : Int) : Int)) : Rat) ≤ ((h.num * L : Int) : Rat) := by
    rw [Rat.intCast_mul, Rat.intCast_mul, ← e]
    have := Rat.mul_le_mul_of_nonneg_right h1 (Rat.le_of_lt dq)
    show _ * ((h.den : Nat) : Rat) ≤ _
    grind
  have a2 : ((h.num * L : Int) : Rat) < (((z + 1) * (h.den : Int) : Int) : Rat) := by
    rw [Rat.intCast_mul, Rat.intCast_mul, ← e, Rat.intCast_add]
    have := Rat.mul_lt_mul_of_pos_right h2 dq
    show _ < _ * ((h.den : Nat) : Rat)
    rw [show ((1 : Int) : Rat) = 1 from rfl]
    grind
  have b1 := Rat.intCast_le_intCast.mp a1
  have b2 := Rat.intCast_lt_intCast.mp a2
  have := Int.le_ediv_of_mul_le d0 b1
  have := Int.ediv_lt_of_lt_mul d0 b2
  omega
theorem ratio_ex {f : List Int} {cs : List Cut} (C : Cnt f cs) (tf : Tr f) (nf : f ≠ []) (sf : Sz Lim f) (lf : f.length ≤ 60) (L9 : (lst f).natAbs < 2 ^ 100) {c : Cut} {lo hi : Rat} (I : Iso f c lo hi)
    {B k N : Nat} (hB : B < 2 ^ 100) (d1 : Dy B k lo) (d2 : Dy B k hi) (hk : k + N ≤ 690) (w1 : hi - lo ≤ 1 / ((2 * (lst f).natAbs : Nat) : Rat) * 2 ^ N) : ∃ o, RatioR f lo hi o ∧ RatC c o := by
  have s1 := d1.sm hB (by omega)
  have s2 := d2.sm hB (by omega)
  obtain ⟨a, e, z⟩ := tr_form tf nf
  have v0 : 0 < (lst f).natAbs := by omega
  obtain ⟨l, h, wr, I2, f1, f2, wd⟩ := with_ex C hB N I d1 d2 (by omega) w1
  have sh := f2.sm hB (by omega)
  have vq : (0 : Rat) < (((lst f).natAbs : Nat) : Rat) := by
    have : (0 : Rat) < ((((lst f).natAbs : Nat) : Int) : Rat) := Rat.intCast_pos.mpr (by omega)
    exact this
  have hw : (h - l) * (((lst f).natAbs : Nat) : Rat) ≤ 1 / 2 := by
    have e2 : ((2 * (lst f).natAbs : Nat) : Rat) = 2 * (((lst f).natAbs : Nat) : Rat) := Rat.natCast_mul _ _
    rw [e2] at wd
    have := Rat.mul_le_mul_of_nonneg_right wd (Rat.le_of_lt vq)
    have e3 : 1 / (2 * (((lst f).natAbs : Nat) : Rat)) * (((lst f).natAbs : Nat) : Rat) = 1 / 2 := by grind
    rwa [e3] at this
  -- the ratio that is tried
  let v : Rat := ((h.num * ((lst f).natAbs : Int) / (h.den : Int) : Int) : Rat) / (((lst f).natAbs : Nat) : Rat)
  have sv : Sm v := by
    have := rat_small (t := h.num * ((lst f).natAbs : Int) / (h.den : Int)) (u := (((lst f).natAbs : Nat) : Int)) (by omega)
    have e4 : ((h.num * ((lst f).natAbs : Int) / (h.den : Int) : Int) : Rat) / ((((lst f).natAbs : Nat) : Int) : Rat) = v := rfl
    rw [e4] at this
    obtain ⟨y1, y2⟩ := this
    have hb : h.num.natAbs < 2 ^ 792 := by
      obtain ⟨p, ep, hp⟩ := f2
      have n0 : (2 ^ (k + N) : Int) ≠ 0 := Int.pow_ne_zero (by decide)
      obtain ⟨g1, g2⟩ := rat_small (t := p) n0
      have er : h = (p : Rat) / ((2 ^ (k + N) : Int) : Rat) := by have := pow2_pos (k + N); rw [← ep, pow2_cast]; grind
      rw [← er] at g1
      have kk : (2 : Nat) ^ (k + N) ≤ 2 ^ 690 := Nat.pow_le_pow_right (by decide) hk
      calc h.num.natAbs ≤ B * 2 ^ (k + N) := Nat.le_trans g1 hp
        _ ≤ 2 ^ 100 * 2 ^ 690 := Nat.mul_le_mul (Nat.le_of_lt hB) kk
        _ < 2 ^ 792 := by rw [← Nat.pow_add]; exact Nat.pow_lt_pow_right (by decide) (by decide)
    have hn : (h.num * ((lst f).natAbs : Int) / (h.den : Int)).natAbs ≤ h.num.natAbs * (lst f).natAbs := by
      have := Int.natAbs_ediv_le_natAbs (h.num * ((lst f).natAbs : Int)) (h.den : Int)
      rwa [Int.natAbs_mul, Int.natAbs_natCast] at this
    refine ⟨?_, ?_⟩
    · refine Nat.lt_of_le_of_lt (Nat.le_trans y1 hn) ?_
      calc h.num.natAbs * (lst f).natAbs ≤ 2 ^ 792 * 2 ^ 100 := Nat.mul_le_mul (Nat.le_of_lt hb) (Nat.le_of_lt L9)
        _ < 2 ^ 900 := by rw [← Nat.pow_add]; exact Nat.pow_lt_pow_right (by decide) (by decide)
    · refine Nat.lt_of_le_of_lt y2 ?_
      rw [Int.natAbs_natCast]
      exact Nat.lt_trans L9 (Nat.pow_lt_pow_right (by decide) (by decide))
  obtain ⟨r, hr, od⟩ := cmpV_ex C sf lf I s1 s2 sv
  refine ⟨_, .mk sf nf (Nat.lt_trans L9 (Nat.pow_lt_pow_right (by decide) (by decide))) wr sh hr, fun q hq => ?_, fun hno => ?_⟩
  · have zq : ei f q = 0 := Z.rat.mp (hq.z I.z)
    obtain ⟨z, ez⟩ := rat_root tf nf zq
    have iq1 : l < q := (hq l).1.mp I2.i.1
    have iq2 : ¬ h < q := fun w => I2.i.2 ((hq h).1.mpr w)
    have fl : h.num * ((lst f).natAbs : Int) / (h.den : Int) = z := floor_of (h := h) (L := ((lst f).natAbs : Int)) (by
        rw [← ez]
        show q * (((lst f).natAbs : Nat) : Rat) ≤ h * (((lst f).natAbs : Nat) : Rat)
        exact Rat.mul_le_mul_of_nonneg_right (by grind) (Rat.le_of_lt vq)) (by
        rw [← ez]
        show h * (((lst f).natAbs : Nat) : Rat) < q * (((lst f).natAbs : Nat) : Rat) + 1
        have := Rat.mul_le_mul_of_nonneg_right (show h - q ≤ h - l by grind) (Rat.le_of_lt vq)
        grind)
    have ev : ((h.num * ((lst f).natAbs : Int) / (h.den : Int) : Int) : Rat) / (((lst f).natAbs : Nat) : Rat) = q := by
      rw [fl, ← ez]; grind
    have od : OrdV c (((h.num * ((lst f).natAbs : Int) / (h.den : Int) : Int) : Rat) / (((lst f).natAbs : Nat) : Rat)) r := od
    rw [ev] at od ⊢
    have r0 : r = 0 := od.eq (fun w => by have : q < q := (hq q).1.mp w; grind) (fun w => by have : q < q := (hq q).2.mp w; grind)
    rw [if_pos r0]
  · refine if_neg fun r0 => ?_
    subst r0
    by_cases k1 : c.lo v
    · have := od.lo k1; omega
    · by_cases k2 : c.hi v
      · have := od.hi k2; omega
      · exact hno v (z_at k1 k2)
inductive FloorR (f : List Int) (lo hi : Rat) : Int → Prop
  | mk {l h r} : WithR f (1 / 2) lo hi l h → Sm h → CmpVR f lo hi ((h.num / (h.den : Int) : Int) : Rat) r → FloorR f lo hi (if 0 ≤ r then h.num / (h.den : Int) else h.num / (h.den : Int) - 1)
def FloorC (c : Cut) (n : Int) : Prop := ¬ c.hi (n : Rat) ∧ c.hi ((n : Rat) + 1)
theorem sm_int {z : Int} (h : z.natAbs < 2 ^ 900) : Sm (z : Rat) := by
  refine ⟨by rw [Rat.num_intCast]; exact h, ?_⟩
  rw [Rat.den_intCast]
  exact Nat.lt_of_lt_of_le (by decide : 1 < 2) (Nat.pow_le_pow_right (by decide : 0 < 2) (by decide : 1 ≤ 900))
theorem floor_ex {f : List Int} {cs : List Cut} (C : Cnt f cs) (sf : Sz Lim f) (lf : f.length ≤ 60) {c : Cut} {lo hi : Rat} (I : Iso f c lo hi)
    {B k N : Nat} (hB : B < 2 ^ 100) (d1 : Dy B k lo) (d2 : Dy B k hi) (hk : k + N ≤ 790) (w1 : hi - lo ≤ 1 / 2 * 2 ^ N) : ∃ n, FloorR f lo hi n ∧ FloorC c n := by
  have s1 := d1.sm hB (by omega)
  have s2 := d2.sm hB (by omega)
  obtain ⟨l, h, wr, I2, f1, f2, wd⟩ := with_ex C hB N I d1 d2 hk w1
  have sh := f2.sm hB (by omega)
  have d0 : (0 : Int) < (h.den : Int) := by have := h.den_pos; omega
  have dq : (0 : Rat) < ((h.den : Nat) : Rat) := by
    have : (0 : Rat) < (((h.den : Nat) : Int) : Rat) := Rat.intCast_pos.mpr d0
    exact this
  have e := den_mul h
  have g1 : ((h.num / (h.den : Int) : Int) : Rat) ≤ h := by
    have : h.num / (h.den : Int) * (h.den : Int) ≤ h.num := Int.ediv_mul_le _ (by omega)
    have := Rat.intCast_le_intCast.mpr this
    rw [Rat.intCast_mul, ← e] at this
    have this : ((h.num / (h.den : Int) : Int) : Rat) * ((h.den : Nat) : Rat) ≤ h * ((h.den : Nat) : Rat) := this
    exact Rat.le_of_mul_le_mul_right this dq
  have g2 : h < ((h.num / (h.den : Int) : Int) : Rat) + 1 := by
    have : h.num < (h.num / (h.den : Int) + 1) * (h.den : Int) := Int.lt_ediv_add_one_mul_self _ d0
    have := Rat.intCast_lt_intCast.mpr this
    rw [Rat.intCast_mul, ← e, Rat.intCast_add] at this
    have this : h * ((h.den : Nat) : Rat) < (((h.num / (h.den : Int) : Int) : Rat) + 1) * ((h.den : Nat) : Rat) := this
    exact Rat.lt_of_mul_lt_mul_right this (Rat.le_of_lt dq)
  have sn : (h.num / (h.den : Int)).natAbs < 2 ^ 900 := Nat.lt_of_le_of_lt (Int.natAbs_ediv_le_natAbs _ _) sh.1
  obtain ⟨r, hr, od⟩ := cmpV_ex C sf lf I s1 s2 (sm_int sn)
  have top : c.hi (((h.num / (h.den : Int) : Int) : Rat) + 1) := (c.loc g2).resolve_left I2.i.2
  refine ⟨_, .mk wr sh hr, ?_⟩
  by_cases k2 : c.hi ((h.num / (h.den : Int) : Int) : Rat)
  · rw [if_neg (by rw [od.hi k2]; decide)]
    unfold FloorC
    rw [Rat.intCast_sub, show ((1 : Int) : Rat) = 1 from rfl]
    refine ⟨fun q => ?_, by rw [show ((h.num / (h.den : Int) : Int) : Rat) - 1 + 1 = ((h.num / (h.den : Int) : Int) : Rat) from by grind]; exact k2⟩
    have := c.dis I2.i.1 q
    grind
  · have r0 : 0 ≤ r := by
      by_cases k1 : c.lo ((h.num / (h.den : Int) : Int) : Rat)
      · rw [od.lo k1]; decide
      · rw [od.eq k1 k2]; decide
    rw [if_pos r0]
    exact ⟨k2, top⟩
end ST
namespace DL
open PySem L2
section
end
end DL
namespace DL
open PySem PySem.Spec PyProof.Rows L2 RZ
section
end
end DL
namespace DL
open PySem PySem.Spec PyProof.Rows L2 RZ
section
end
end DL
namespace DL
open PySem PySem.Spec PyProof.Rows L2
section
variable {X : Cx} {Wx : WX} {a b c e o f : Expr} {es : List Expr} {da db dc de do' df : DE} {dl dk : DA} {pos apos : Pos}
def lentO : HO → Bool
  | .lst _ => true
  | .tbl _ => true
  | _ => false
def lents (L : Led) : Bool := L.all fun q => match q.2 with
  | .lst _ => true
  | .tab _ => true
  | _ => false
section
variable {L : Led} {K : PySem.W.Frag} {H : Hp}
abbrev Lent (L : Led) (H : Hp) : Prop := ∀ a, inL L a → ∃ o, H a = some o ∧ lentO o = true
theorem Lent.not (hq : Lent L H) {a : Addr} {o : HO} (h : H a = some o) (n : lentO o = false) : ¬ inL L a := fun m => by
  obtain ⟨o2, e, z⟩ := hq a m
  rw [h] at e
  cases e
  rw [n] at z
  cases z
theorem Lent.rd (hq : Lent L H) {a : Addr} {u : HO} (h : L2.Rd H a u) (n : lentO u = false) : ¬ inL L a := by
  rcases h with h | ⟨o, h⟩
  · exact hq.not h n
  · exact hq.not h rfl
theorem JL.lent (j : JL K L H) (hl : lents L = true) : Lent L H := fun a m => by
  obtain ⟨q, hq, e⟩ := List.mem_map.mp m
  have z := List.all_eq_true.mp hl q hq
  have w := j.own q.1 q.2 hq
  rw [e] at w
  split at z
  · rename_i ds hd
    rw [hd] at w
    exact ⟨_, w.choose_spec.1, rfl⟩
  · rename_i ds hd
    rw [hd] at w
    exact ⟨_, w.choose_spec.1, rfl⟩
  · cases z
end
end
end DL
namespace DL
open PySem PySem.Spec PyProof.Rows L2
section
end
end DL
namespace DL
open PySem PySem.Spec PyProof.Rows L2
section
end
section
variable {X : Cx} {Wx : WX} {o e f : Expr} {es : List Expr} {da do' de df : DE} {td ty tx : TE} {pos apos cpos : Pos}
theorem rem_all {K : PySem.W.Frag} {H : Hp} : ∀ (qs : List Addr) (L : Led), JL K L H → Go L (qs.foldl remL L) H H ∧ JL K (qs.foldl remL L) H
  | [], L, j => ⟨Go.refl L H, j⟩
  | q :: qs, L, j => by
    obtain ⟨g, j2⟩ := rem_all qs (remL L q) j.rem
    exact ⟨go_rem.trans g, j2⟩
def gRepM : G2L := fun a b L k => match con L a, b with
  | .lst xs, .int n => -(2 ^ 63) ≤ n ∧ n < 2 ^ 63 ∧ xs.length * n.toNat ≤ sizeLine ∧ ∀ p, ¬ inL L p → k (.ptr p) ((p, .lst (List.replicate n.toNat xs).flatten) :: L)
  | _, _ => False
theorem q_repM {a b : Expr} {db : DE} (ha : QE X Wx a da) (hb : QE X Wx b db) : QE X Wx (.BinOp a .Mult b pos) (dOpL gRepM da db) := by
  refine q_opL op_rep (fun H L va vb a b k Q j ra rb h hk => ?_) ha hb
  unfold gRepM at h
  split at h
  · rename_i xs n ea
    obtain ⟨p, vs, rfl, hp, rv⟩ := con_lst j ra ea
    cases rb
    obtain ⟨h1, h2, h3, h4⟩ := h
    refine ⟨p, n, vs, rfl, rfl, hp, h1, h2, by rw [rv.length]; exact h3, fun l hl => ?_⟩
    have nl := j.notIn hl
    have s := same_new hl (.lst (List.replicate n.toNat vs).flatten)
    have g4 : Go L ((l, .lst (List.replicate n.toNat xs).flatten) :: L) H (upd H l (.lst (List.replicate n.toNat vs).flatten)) := .mk' fun b u n e => ⟨fun m => (inL_cons.mp m).elim (fun z => ne_of_none e hl z) n, by rw [upd_ne (ne_of_none e hl)]; exact e⟩
    obtain ⟨j4, g5⟩ := j.push (d := .lst (List.replicate n.toNat xs).flatten) hl (o := .lst (List.replicate n.toNat vs).flatten) ⟨_, upd_same, (rep_all rv _).go g4⟩
    exact hk _ _ _ _ (h4 l nl) g5 j4 (.ptr l)
  · exact h.elim
theorem ip_mulU : PIp X .Mult (fun x y H Q => ∃ i j, x = .int i ∧ y = .int j ∧ MulOk i j ∧ Q (.int (i * j)) H) := by
  intro pins s σ H x y v u Q I r1 r2 h
  obtain ⟨i, j, e1, e2, c, q⟩ := h
  subst e1; subst e2
  obtain ⟨t, rfl⟩ := r1
  obtain ⟨t', rfl⟩ := r2
  exact imul_int ⟨.int _, H, I.tok _, ⟨_, rfl⟩, q⟩ (MulOk.ok c)
def gAugMul : G2L := fun a b L k => match a, b with
  | .int i, .int j => MulOk i j ∧ k (.int (i * j)) L
  | _, _ => False
theorem ip_mulQ : OQL X .Mult gAugMul := ⟨_, ip_mulU, fun H L va vb a b k Q j ra rb h hk => by
  unfold gAugMul at h
  split at h
  · cases ra
    cases rb
    exact ⟨_, _, rfl, rfl, h.1, hk _ L _ H h.2 (Go.refl L H) j (.int _)⟩
  · exact h.elim⟩
end
end DL
namespace RO
open PySem L2 DL TL PO
theorem lookup_set_ne {p q : Addr} {c : D} (h : p ≠ q) : ∀ L : Led, List.lookup q (setL L p c) = List.lookup q L
  | [] => rfl
  | (z, e) :: L => by
    by_cases hz : z = p
    · show List.lookup q ((if z = p then (p, c) else (z, e)) :: setL L p c) = _
      rw [if_pos hz, lookup_ne (Ne.symm h), lookup_set_ne h L, lookup_ne (by rw [hz]; exact Ne.symm h)]
    · rw [setL_ne hz]
      by_cases hq : q = z
      · subst hq
        rw [lookup_top, lookup_top]
      · rw [lookup_ne hq, lookup_ne hq, lookup_set_ne h L]
/-- one group: its key, where it stands, what it holds -/
structure Grp where
  k : Int
  q : Addr
  ks : List Key
  vs : List D
structure GSt (L : Led) (pg : Addr) (pre : Led) (gs : List Grp) (ps : List T3) : Prop where
  out : ∀ a, inL pre a → ¬ inL L a
  top : pre.lookup pg = some (.dk (gs.map fun g => .inl g.k) (gs.map fun g => .ptr g.q))
  at_ : ∀ g ∈ gs, pre.lookup g.q = some (.dk g.ks g.vs)
  nk : (gs.map (·.k)).Nodup
  nq : (pg :: gs.map (·.q)).Nodup
  ln : ∀ g ∈ gs, g.ks.length = g.vs.length ∧ g.ks.length ≤ ps.length
  few : gs.length ≤ ps.length
  val : ∀ g ∈ gs, ∀ p : Int, lookK g.ks g.vs (.inl p) = (look ps (p, g.k)).map D.int
  has : ∀ k : Int, k ∈ gs.map (·.k) ↔ k ∈ ps.map fun t => t.2.1
theorem GSt.start {L : Led} {pg : Addr} (h : ¬ inL L pg) : GSt L pg [(pg, .dk [] [])] [] [] where
  out a ha := by
    have : a = pg := (inL_cons.mp ha).elim id fun z => by cases z
    rw [this]; exact h
  top := lookup_top
  at_ g hg := nomatch hg
  nk := List.nodup_nil
  nq := by simp
  ln g hg := nomatch hg
  few := Nat.le_refl _
  val g hg := nomatch hg
  has k := Iff.rfl
theorem look_snoc {ps : List T3} {t : T3} {q : Int × Int} : look (ps ++ [t]) q = (look ps q).or (if ky t = q then some t.2.2 else none) := by
  rw [look_app]
  rfl
/-- a new group -/
theorem GSt.fresh {L : Led} {pg : Addr} {pre : Led} {gs : List Grp} {ps : List T3} (S : GSt L pg pre gs ps) {q : Addr} (hq : ¬ inL (pre ++ L) q) {a p v : Int} (new : a ∉ gs.map (·.k)) :
    GSt L pg ((q, .dk [.inl p] [.int v]) :: setL pre pg (.dk ((gs.map fun g => (.inl g.k : Key)) ++ [.inl a]) ((gs.map fun g => D.ptr g.q) ++ [.ptr q]))) (gs ++ [⟨a, q, [.inl p], [.int v]⟩]) (ps ++ [(p, a, v)]) := by
  have hqp : ¬ inL pre q := fun z => hq (by unfold inL at z ⊢; rw [List.map_append]; exact List.mem_append.mpr (.inl z))
  have hqL : ¬ inL L q := fun z => hq (by unfold inL at z ⊢; rw [List.map_append]; exact List.mem_append.mpr (.inr z))
  have npq : q ≠ pg := fun e => hqp (by rw [e]; exact inL_of_lookup S.top)
  have noA : a ∉ ps.map fun t => t.2.1 := fun m => new ((S.has a).mpr m)
  refine ⟨fun b hb => ?_, ?_, fun h hh => ?_, ?_, ?_, fun h hh => ?_, ?_, fun h hh p2 => ?_, fun k => ?_⟩
  · rcases inL_cons.mp hb with rfl | hb
    · exact hqL
    · exact S.out b (inL_setL.mp hb)
  · rw [lookup_ne (Ne.symm npq), List.map_append, List.map_append]
    exact lookup_setL S.top
  · rcases List.mem_append.mp hh with m | m
    · have e1 : h.q ≠ q := fun e => hqp (by rw [← e]; exact inL_of_lookup (S.at_ h m))
      have e2 : pg ≠ h.q := fun e => (List.nodup_cons.mp S.nq).1 (by rw [e]; exact List.mem_map.mpr ⟨h, m, rfl⟩)
      rw [lookup_ne e1, lookup_set_ne e2]
      exact S.at_ h m
    · rw [List.mem_singleton.mp m]
      exact lookup_top
  · rw [List.map_append, List.nodup_append]
    refine ⟨S.nk, by simp, fun x hx y hy => ?_⟩
    rw [List.map_singleton, List.mem_singleton] at hy
    exact fun e => new (by have h2 : x = a := by rw [e]; exact hy
                           rw [← h2]; exact hx)
  · rw [List.map_append, ← List.cons_append, List.nodup_append]
    refine ⟨S.nq, by simp, fun x hx y hy => ?_⟩
    rw [List.map_singleton, List.mem_singleton] at hy
    intro e
    have h2 : x = q := by rw [e]; exact hy
    rcases List.mem_cons.mp hx with e3 | hx3
    · exact npq (by rw [← h2]; exact e3)
    · obtain ⟨g, hg, eg⟩ := List.mem_map.mp hx3
      exact hqp (by rw [← h2, ← eg]; exact inL_of_lookup (S.at_ g hg))
  · rw [List.length_append, List.length_singleton]
    rcases List.mem_append.mp hh with m | m
    · have := S.ln h m
      omega
    · rw [List.mem_singleton.mp m]
      exact ⟨rfl, by show 1 ≤ _; omega⟩
  · rw [List.length_append, List.length_append]
    have := S.few
    simp only [List.length_singleton]
    omega
  · rw [look_snoc]
    rcases List.mem_append.mp hh with m | m
    · rw [S.val h m p2, if_neg (fun z => new (by rw [show a = h.k from congrArg Prod.snd z]; exact List.mem_map.mpr ⟨h, m, rfl⟩))]
      cases look ps (p2, h.k) <;> rfl
    · rw [List.mem_singleton.mp m]
      show (if (.inl p : Key) = .inl p2 then some (D.int v) else none) = ((look ps (p2, a)).or (if (p, a) = (p2, a) then some v else none)).map D.int
      rw [PO.look_none (p := (p2, a)) (fun z => noA (by obtain ⟨t, ht, et⟩ := List.mem_map.mp z; exact List.mem_map.mpr ⟨t, ht, congrArg Prod.snd et⟩))]
      by_cases e : p = p2
      · subst e
        rw [if_pos rfl, if_pos rfl]
        rfl
      · rw [if_neg (fun z => e (Sum.inl.inj z)), if_neg (fun z => e (congrArg Prod.fst z))]
        rfl
  · rw [List.map_append, List.map_append, List.mem_append, List.mem_append, S.has]
    exact Iff.rfl
theorem rng_map : ∀ (n : Nat) (lo : Int), rngD lo n = (List.range n).map fun i : Nat => D.int (lo + (i : Int))
  | 0, _ => rfl
  | n + 1, lo => by
    rw [List.range_succ_eq_map, List.map_cons, List.map_map]
    show D.int lo :: rngD (lo + 1) n = D.int (lo + 0) :: _
    rw [rng_map n (lo + 1), Int.add_zero]
    congr 1
    refine List.map_congr_left fun i _ => ?_
    show D.int (lo + 1 + (i : Int)) = D.int (lo + ((i + 1 : Nat) : Int))
    congr 1
    omega
theorem vo_zero (t b : Int) : ∀ {xs : List Int}, (∀ x ∈ xs, x = 0) → (voI t b xs).1 = 0
  | [], _ => rfl
  | x :: r, h => by
    show (voI t b r).1 * t + x * (voI t b r).2 = 0
    rw [vo_zero t b fun y hy => h y (List.mem_cons_of_mem _ hy), h x List.mem_cons_self]
    simp
end RO
namespace DL
open PySem PySem.Spec PyProof.Rows L2
section
end
end DL
namespace DL
open PySem L2
open PyProof PyProof.Rows in
theorem pget_list {X : Cx} : L2.PGet X (rIxL X.K) := by
  intro pins s σ H x y v u Q I rx ry h
  obtain ⟨p, xs, i, z, rfl, rfl, hq, he, q⟩ := h
  cases rx
  obtain ⟨t, rfl⟩ := ry
  obtain ⟨its, r, pl, hz⟩ := I.list hq
  obtain ⟨j, h1, h2, h3, h4, h5⟩ := atI_get he
  obtain ⟨w, ew, rw'⟩ := r.get h2
  have hl := r.length
  have hn := line63
  have fin : EP X pins σ Q w s := ⟨z, H, I, rw', q⟩
  by_cases h0 : 0 ≤ i
  · have hj : i.toNat = j := by
      rw [seqIndex_of h0 h5] at h1
      exact Option.some.inj h1
    exact wpAny_getItem_list (x := w) pl.isList h0 (by omega) (by rw [hj]; simpa using ew) fin
  · have hj : (i + (its.toArray.size : Int)).toNat = j := by
      rw [seqIndex_neg (by omega) h4] at h1
      rw [List.size_toArray, ← hl]
      exact Option.some.inj h1
    exact wpAny_getItem_list_neg (x := w) pl.isList (by omega) (by rw [List.size_toArray] <;> omega) (by omega) (by rw [hj]; simpa using ew) fin
section
variable {X : Cx} {Wx : WX} {e o i : Expr} {de do' di : DE} {pos : Pos}
def dAugS (do' di de : DE) : DS := fun D env L => do' env L (fun o L1 => di env L1 (fun i L2 => match o, i with
  | .ptr p, .int z => match L2.lookup p with
    | some (.lst ds) => match ixN ds.length z with
      | some j => match ds[j]? with
        | some (.int a) => de env L2 (fun v L3 => match v with
          | .int b => L3.lookup p = some (.lst ds) ∧ D.nx env (setL L3 p (.lst (ds.set j (.int (a + b)))))
          | _ => False) D.ex
        | _ => False
      | none => False
    | _ => False
  | _, _ => False) D.ex) D.ex
theorem s_augS {tpos : Pos} (ho : QE X Wx o do') (hi : QE X Wx i di) (he : QE X Wx e de)
    (ha : ∀ ov iv new, augStore i ov iv new = (do holding [new, ov, iv] (setItem ov iv new); release [new, ov, iv] []; pure .next) := by intros; rfl) : QS X Wx (.AugAssign (.Subscript o i tpos) .Add e pos) (dAugS do' di de) := by
  obtain ⟨to, po, so⟩ := ho.ex
  obtain ⟨ti, pi, si⟩ := hi.ex
  obtain ⟨te, pe, se⟩ := he.ex
  refine ⟨_, L2.ps_augS po pi pget_list pe ip_add set_list ha, fun σ H env L D' D st h ok => ?_⟩
  refine so σ H env L _ _ _ st h (fun o L1 vo H1 h1 g1 j1 r1 => ?_) ok.ex
  refine si σ H1 env L1 _ _ _ (st.go g1 j1) h1 (fun i L2 vi H2 h2 g2 j2 r2 => ?_) (ok.ex.go g1)
  have r1 := r1.go g2
  split at h2
  · rename_i p z
    cases r1 with
    | ptr p =>
    cases r2 with
    | int z =>
    split at h2
    · rename_i ds hl
      split at h2
      · rename_i j hj
        split at h2
        · rename_i a hda
          obtain ⟨vs, e1, rv⟩ := j2.look hl
          obtain ⟨w, ew, rw'⟩ := rv.get hda
          cases rw' with
          | int a =>
          refine ⟨_, vs, _, V.int a, rfl, rfl, .inl (.inl e1), ?_, ?_⟩
          · unfold atI
            rw [rv.length, hj]
            exact ew
          refine se σ H2 env L2 _ _ _ ((st.go g1 j1).go g2 j2) h2 (fun b L3 vb H3 h3 g3 j3 r3 => ?_) ((ok.ex.go g1).go g2)
          split at h3
          · rename_i b
            cases r3 with
            | int b =>
            obtain ⟨hl3, h3⟩ := h3
            obtain ⟨vs', e1', rv'⟩ := j3.look hl3
            refine ⟨a, b, rfl, rfl, ?_⟩
            have hp := inL_of_lookup hl3
            refine ⟨_, vs', _, j, rfl, rfl, e1', by rw [rv'.length]; exact hj, ?_⟩
            have g4 : Go L3 (setL L3 _ (.lst (ds.set j (.int (a + b))))) H3 (upd H3 _ (.lst (vs'.set j (.int (a + b))))) := go_set hp
            have j4 : JL X.K (setL L3 _ (.lst (ds.set j (.int (a + b))))) (upd H3 _ (.lst (vs'.set j (.int (a + b))))) := j3.put hp ⟨_, upd_same, (rv'.go g4).set (.int _) j⟩
            exact ok.nx env _ _ _ h3 (((g1.trans g2).trans g3).trans g4) (st.go (((g1.trans g2).trans g3).trans g4) j4)
          · exact h3.elim
        · exact h2.elim
      · exact h2.elim
    · exact h2.elim
  · exact h2.elim
/-- at a return any things may leave the ledger -/
def dForgetR (ds : DS) : DS := fun D env L => ds { D with rt := fun d L' => ∃ qs : List Addr, D.rt d (qs.foldl remL L') } env L
theorem s_forgetR {st : Stmt} {ds : DS} (h : QS X Wx st ds) : QS X Wx st (dForgetR ds) := by
  obtain ⟨t, pt, s1⟩ := h.ex
  refine ⟨t, pt, fun σ H env L D' D st h ok => ?_⟩
  refine s1 σ H env L _ _ st h ⟨ok.nx, fun d L' v H' h' g' j' r' => ?_, ok.ex, ok.bk, ok.ct⟩
  obtain ⟨qs, h'⟩ := h'
  obtain ⟨g2, j2⟩ := rem_all qs L' j'
  exact ok.rt d _ v H' h' (g'.trans g2) j2 (r'.go g2)
end
end DL
namespace T15
open PySem L2 DL PO RO ST
structure Zn (w : World) (K : PySem.W.Frag) (mg : Str → Option Value) (cR cO : Addr) : Prop where
  z_isinstance : mg "isinstance" = none
  z_int : mg "int" = none
  z_bool : mg "bool" = none
  z_str : mg "str" = none
  z_list : mg "list" = none
  z_tuple : mg "tuple" = none
  z_len : mg "len" = none
  z_abs : mg "abs" = none
  z_all : mg "all" = none
  z_range : mg "range" = none
  z_zip : mg "zip" = none
  z_enumerate : mg "enumerate" = none
  z_reversed : mg "reversed" = none
  z_max : mg "max" = none
  g_gcd : mg "gcd" = some (.builtin "math.gcd")
  c_R : Cls K cR
  n_R : ∀ f ∈ (["numbers"] : List Str), NoAttr K cR f
  c_O : Cls K cO
  n_O : ∀ f ∈ (["numbers", "spot"] : List Str), NoAttr K cO f
end T15
namespace T15
open PySem L2 DL PO RO ST
def isIntS : DSp := fun ds L k _ => ∃ d, ds = [d] ∧ okT d = true ∧ k (.bl (isInt d)) L
def seqI (T : D) (xs : List Int) : Prop := T = .lst (xs.map .int) ∨ T = .tup (xs.map .int)
def trimS : DSp := fun ds L k _ => ∃ T xs, ds = [T] ∧ seqI T xs ∧ xs.length < 100000 ∧ k (.lst ((trimI xs).map .int)) L
def trimM : DSp := fun ds L k _ => ∃ (q : Addr) (xs : List Int), ds = [.ptr q] ∧ L.lookup q = some (.lst (xs.map .int)) ∧ xs.length < 100000 ∧ k (.lst ((trimI xs).map .int)) L
def lightS : DSp := fun ds L k _ => ∃ xs : List Int, ds = [.lst (xs.map .int)] ∧ xs.length < 100000 ∧ (∃ v ∈ xs, v ≠ 0 ∧ v.natAbs < 2 ^ 8000) ∧ k (.lst ((prim xs).map .int)) L
def combS : DSp := fun ds L k _ => ∃ (one : List Int) (f : Int) (other : List Int) (t : Int) (s : Nat), ds = [.lst (one.map .int), .int f, .lst (other.map .int), .int t, .int s] ∧ one.length < 1000 ∧ other.length < 1000 ∧ s < 1000 ∧
  (∀ v ∈ one, CMulW f v) ∧ (∀ v ∈ other, CMulW t v) ∧ k (.lst ((combI one f other t s).map .int)) L
def primS : DSp := fun ds L k _ => ∃ xs : List Int, ds = [.lst (xs.map .int)] ∧ xs.length < 1000 ∧ Tr xs ∧ Sz (2 * Lim) xs ∧ k (.lst ((primI xs).map .int)) L
def remS : DSp := fun ds L k _ => ∃ one other r : List Int, ds = [.lst (one.map .int), .lst (other.map .int)] ∧ other ≠ [] ∧ Tr other ∧ other.length < 1000 ∧ one.length < 1000 ∧ RemR other one r ∧ k (.lst (r.map .int)) L
def comS : DSp := fun ds L k _ => ∃ one other h : List Int, ds = [.lst (one.map .int), .lst (other.map .int)] ∧ Tr one ∧ Tr other ∧ one.length < 1000 ∧ other.length < 1000 ∧ ComR one other h ∧ k (.lst (h.map .int)) L
def optI : Option (List Int) → D
  | none => .non
  | some q => .lst (q.map .int)
def exS : DSp := fun ds L k _ => ∃ (one other : List Int) (o : Option (List Int)), ds = [.lst (one.map .int), .lst (other.map .int)] ∧ Tr other ∧ other ≠ [] ∧ other.length ≤ one.length ∧ one.length < 1000 ∧ ExR other one (List.replicate (one.length - other.length + 1) 0) o ∧ k (optI o) L
def derS : DSp := fun ds L k _ => ∃ xs : List Int, ds = [.lst (xs.map .int)] ∧ xs.length < 1000 ∧ Sz (2 * Lim) xs ∧ k (.lst ((derI xs).map .int)) L
def freS : DSp := fun ds L k _ => ∃ xs f : List Int, ds = [.lst (xs.map .int)] ∧ Tr xs ∧ xs ≠ [] ∧ xs.length < 1000 ∧ Sz (2 * Lim) xs ∧ FreeR xs f ∧ k (.lst (f.map .int)) L
def voS : DSp := fun ds L k _ => ∃ (xs : List Int) (t b : Int), ds = [.lst (xs.map .int), .tup [.int t, .int b]] ∧ xs.length ≤ 60 ∧ Sz Lim xs ∧ t.natAbs < 2 ^ 5000 ∧ b.natAbs < 2 ^ 5000 ∧ k (.int (voI t b xs).1) L
def sgnS : DSp := fun ds L k _ => ∃ z : Int, ds = [.int z] ∧ k (.int (sgZ z)) L
def chainS : DSp := fun ds L k _ => ∃ (xs : List Int) (l : List (List Int)), ds = [.lst (xs.map .int)] ∧ xs.length < 1000 ∧ Sz (2 * Lim) xs ∧ Tr xs ∧ l.length < 1000 ∧ ChR xs (derI xs) l ∧ k (.lst ((xs :: l).map fun p => .lst (p.map .int))) L
def chgS : DSp := fun ds L k _ => ∃ xs : List Int, ds = [.lst (xs.map .int)] ∧ xs.length < 1000 ∧ k (.int (chg xs)) L
def ChnOk (l : List (List Int)) : Prop := l.length < 1000 ∧ ∀ y ∈ l, y ≠ [] ∧ Sz Lim y ∧ y.length ≤ 60
def chAtS : DSp := fun ds L k _ => ∃ (l : List (List Int)) (t b : Int), ds = [.lst (l.map fun p => .lst (p.map .int)), .tup [.int t, .int b]] ∧ ChnOk l ∧ t.natAbs < 2 ^ 5000 ∧ b.natAbs < 2 ^ 5000 ∧ k (.int (chgV l 1 (some (t, b)))) L
def chFarS : DSp := fun ds L k _ => ∃ (l : List (List Int)) (s : Int), ds = [.lst (l.map fun p => .lst (p.map .int)), .int s] ∧ (s = 1 ∨ s = -1) ∧ ChnOk l ∧ k (.int (chgV l s none)) L
def bdD : Option (Int × Int) → D
  | none => .non
  | some (t, b) => .tup [.int t, .int b]
def cntS : DSp := fun ds L k _ => ∃ (xs : List Int) (lo hi : Option (Int × Int)) (n : Int), ds = [.lst (xs.map .int), bdD lo, bdD hi] ∧ Tr xs ∧ xs ≠ [] ∧ xs.length < 1000 ∧ Sz (2 * Lim) xs ∧ CountR xs lo hi n ∧ k (.int n) L
theorem cut_take {m : Nat} {xs : List Int} (h : m ≤ xs.length) : cutD (xs.map D.int) none (some (m : Int)) = (xs.take m).map .int := by
  show ((xs.map D.int).drop 0).take (HT.sIx (xs.map D.int).length (xs.map D.int).length (some (m : Int)) - 0) = _
  rw [HT.sIx_nat, List.drop_zero, Nat.sub_zero, List.map_take, List.take_eq_take_iff]
  rw [List.length_map]
  omega
theorem at_pred {m : Nat} {xs : List Int} (h : m < xs.length) : atI (xs.map D.int) (((m + 1 : Nat) : Int) - 1) = some (.int xs[m]) := by
  rw [show ((m + 1 : Nat) : Int) - 1 = ((m : Nat) : Int) from by omega]
  refine atI_nat ?_
  rw [List.getElem?_map, List.getElem?_eq_getElem h]
  rfl
theorem shp_ints (xs : List Int) : shp (.lst (xs.map D.int)) = true := NumText.shp_all D.int fun a _ => ⟨by simp [toPy, PyData.canLay0], by simp [toPy, PyData.depth]⟩
theorem eqD_ints : ∀ xs ys : List Int, eqD (.lst (xs.map D.int)) (.lst (ys.map D.int)) = decide (xs = ys)
  | [], [] => by rfl
  | [], _ :: _ => by rfl
  | _ :: _, [] => by rfl
  | x :: xs, y :: ys => by
    have h := eqD_ints xs ys
    show (decide (x = y) && eqD (.lst (xs.map D.int)) (.lst (ys.map D.int))) = _
    rw [h]
    by_cases e : x = y
    · subst e
      simp
    · rw [decide_eq_false e, decide_eq_false (p := x :: xs = y :: ys) (fun z => e (List.cons.inj z).1)]
      rfl
/-- the last number of a list -/
theorem at_last {xs : List Int} (h : xs ≠ []) : atI (xs.map D.int) (-1) = some (.int (lst xs)) := by
  rcases List.eq_nil_or_concat xs with e | ⟨a, z, e⟩
  · exact absurd e h
  · rw [List.concat_eq_append] at e
    subst e
    rw [lst_app]
    unfold atI
    have : ixN ((a ++ [z]).map D.int).length (-1) = some a.length := by
      unfold ixN
      rw [if_neg (by decide), List.length_map, List.length_append, List.length_singleton]
      rw [if_pos (by omega)]
      congr 1
      omega
    rw [this]
    simp
theorem lim_lt {x : Int} {B : Nat} (h : x.natAbs < 2 ^ B) (hB : B ≤ 8000) : x.natAbs < 2 ^ 8000 := Nat.lt_of_lt_of_le h (Nat.pow_le_pow_right (by decide) hB)
theorem lim_log {x : Int} {B : Nat} (h : x.natAbs < 2 ^ B) (hB : B ≤ 8000) : x.natAbs.log2 < 9000 := by
  by_cases e : x.natAbs = 0
  · rw [e]; decide
  · exact Nat.lt_of_lt_of_le ((Nat.log2_lt e).mpr (lim_lt h hB)) (by decide)
theorem cmul_of {x y : Int} {a b : Nat} (hx : x.natAbs < 2 ^ a) (hy : y.natAbs < 2 ^ b) (h : a + b ≤ 900000) : CMulW x y :=
  wide_mul (a := a + 1) (b := b + 1) (Nat.lt_of_lt_of_le hx (Nat.pow_le_pow_right (by decide) (by omega))) (Nat.lt_of_lt_of_le hy (Nat.pow_le_pow_right (by decide) (by omega))) (by omega) (by omega) (by omega)
theorem content_log {xs : List Int} {B : Nat} (ht : Tr xs) (hn : xs ≠ []) (hs : Sz B xs) (hB : B ≤ 8000) : (gcds 0 xs).natAbs.log2 < 9000 := by
  have gl : (gcds 0 xs).natAbs ≤ (lst xs).natAbs := by
    have := Int.natAbs_dvd_natAbs.mpr ((gcds_dvd xs 0).2 _ (lst_mem hn))
    obtain ⟨_, _, z⟩ := tr_form ht hn
    exact Nat.le_of_dvd (by omega) this
  have := hs.lst
  exact lim_log (x := gcds 0 xs) (B := B) (by omega) hB
theorem rem_sub {other one r : List Int} (h : RemR other one r) (ho : Tr other) (h0 : other ≠ []) : Tr one → Tr r ∧ r.length < other.length := by
  induction h with
  | done hl => exact fun t => ⟨t, hl⟩
  | step hl ok _ ih => exact fun _ => ih (step_tr _ _)
theorem toNat_sub {a b : Nat} (h : b ≤ a) : (a : Int) - (b : Int) = ((a - b : Nat) : Int) := by omega
def prI (a : Nat) : List Int → List (Nat × Int)
  | [] => []
  | v :: xs => (a, v) :: prI (a + 1) xs
theorem enum_pr : ∀ (xs : List Int) (a : Nat), enumD a (xs.map D.int) = (prI a xs).map fun p => .tup [.int p.1, .int p.2]
  | [], _ => rfl
  | v :: xs, a => by rw [List.map_cons, enumD, enum_pr xs (a + 1), prI, List.map_cons]
theorem pr_mem : ∀ {xs : List Int} {a : Nat} {p : Nat × Int}, p ∈ prI a xs → p.1 < a + xs.length ∧ p.2 ∈ xs
  | [], _, _, h => by cases h
  | v :: xs, a, p, h => by
    rcases List.mem_cons.mp h with rfl | h
    · exact ⟨by show a < _; rw [List.length_cons]; omega, List.mem_cons_self⟩
    · obtain ⟨h1, h2⟩ := pr_mem h
      exact ⟨by rw [List.length_cons]; omega, List.mem_cons_of_mem _ h2⟩
theorem pr_len : ∀ (xs : List Int) (a : Nat), (prI a xs).length = xs.length
  | [], _ => rfl
  | v :: xs, a => by rw [prI, List.length_cons, pr_len xs (a + 1), List.length_cons]
theorem der_pr : ∀ (xs : List Int) (a : Nat), derF a xs = (prI a xs).map fun p => (p.1 : Int) * p.2
  | [], _ => rfl
  | v :: xs, a => by rw [derF, prI, List.map_cons, show ((a : Int) + 1) = ((a + 1 : Nat) : Int) from rfl, der_pr xs (a + 1)]
theorem vo_bits {t b : Int} {xs : List Int} (hl : xs.length ≤ 60) (hx : Sz Lim xs) (ht : t.natAbs < 2 ^ 5000) (hb : b.natAbs < 2 ^ 5000) : (voI t b xs).1.natAbs < 2 ^ 400000 ∧ (voI t b xs).2.natAbs < 2 ^ 400000 := by
  have h1 : (1 : Nat) ≤ 2 ^ 5000 := Nat.two_pow_pos _
  have h := vo_le (M := 2 ^ 5000) (V := 2 ^ Lim) h1 (Nat.le_of_lt ht) (Nat.le_of_lt hb) xs fun x hx' => Nat.le_of_lt (hx x hx')
  have hp : (2 ^ 5000) ^ xs.length ≤ 2 ^ 300000 := by
    rw [← Nat.pow_mul]
    exact Nat.pow_le_pow_right (by decide) (by omega)
  constructor
  · refine Nat.lt_of_le_of_lt h ?_
    have e : (60 : Nat) ≤ 2 ^ 6 := by decide
    calc xs.length * (2 ^ Lim * (2 ^ 5000) ^ xs.length) ≤ 2 ^ 6 * (2 ^ Lim * 2 ^ 300000) := Nat.mul_le_mul (by omega) (Nat.mul_le_mul_left _ hp)
      _ = 2 ^ (6 + (Lim + 300000)) := by rw [← Nat.pow_add, ← Nat.pow_add]
      _ < 2 ^ 400000 := Nat.pow_lt_pow_right (by decide) (by decide)
  · rw [vo_pow, Int.natAbs_pow]
    calc b.natAbs ^ xs.length ≤ (2 ^ 5000) ^ xs.length := Nat.pow_le_pow_left (Nat.le_of_lt hb) _
      _ ≤ 2 ^ 300000 := hp
      _ < 2 ^ 400000 := Nat.pow_lt_pow_right (by decide) (by decide)
theorem cut_drop1 (xs : List D) : cutD xs (some 1) none = xs.drop 1 := by
  show (xs.drop (HT.sIx xs.length 0 (some ((1 : Nat) : Int)))).take (xs.length - HT.sIx xs.length 0 (some ((1 : Nat) : Int))) = _
  rw [HT.sIx_nat]
  cases xs with
  | nil => rfl
  | cons a xs =>
    rw [List.length_cons, Nat.min_eq_left (by omega), List.drop_succ_cons, List.drop_zero]
    exact List.take_of_length_le (by omega)
theorem cut_but1 (xs : List D) (z : D) : cutD (xs ++ [z]) none (some (-1)) = xs := by
  have e : HT.sIx (xs ++ [z]).length (xs ++ [z]).length (some (-1)) = xs.length := by
    show (if (-1 : Int) < 0 then ((-1 : Int) + ((xs ++ [z]).length : Int)).toNat else min (-1 : Int).toNat (xs ++ [z]).length) = xs.length
    rw [if_pos (by decide), List.length_append, List.length_singleton]
    omega
  show ((xs ++ [z]).drop 0).take (HT.sIx (xs ++ [z]).length (xs ++ [z]).length (some (-1)) - 0) = xs
  rw [e, List.drop_zero, Nat.sub_zero]
  exact List.take_left' rfl
theorem at_end {xs : List D} {z : D} : atI (xs ++ [z]) (-1) = some z := by
  unfold atI
  have : ixN (xs ++ [z]).length (-1) = some xs.length := by
    unfold ixN
    rw [if_neg (by decide), List.length_append, List.length_singleton, if_pos (by omega)]
    congr 1
    omega
  rw [this]
  simp
theorem at_end2 {xs : List D} {y z : D} : atI (xs ++ [y, z]) (-2) = some y := by
  unfold atI
  have : ixN (xs ++ [y, z]).length (-2) = some xs.length := by
    unfold ixN
    rw [if_neg (by decide), List.length_append, show [y, z].length = 2 from rfl, if_pos (by omega)]
    congr 1
    omega
  rw [this]
  simp
abbrev lD (p : List Int) : D := .lst (p.map .int)
def adj : List Int → Nat
  | a :: b :: l => (if b = a then 0 else 1) + adj (b :: l)
  | _ => 0
theorem chgP_adj : ∀ (l : List Int) (s : Int), chgP s l = adj (s :: l.filter fun z => decide (z ≠ 0))
  | [], _ => rfl
  | t :: l, s => by
    rw [chgP]
    by_cases e : t = 0
    · rw [if_pos e, List.filter_cons, if_neg (by simp [e])]
      exact chgP_adj l s
    · rw [if_neg e, List.filter_cons_of_pos (by simp [e]), chgP_adj l t, adj]
theorem chg_adj : ∀ l : List Int, chg l = adj (l.filter fun z => decide (z ≠ 0))
  | [] => rfl
  | t :: l => by
    rw [chg]
    by_cases e : t = 0
    · rw [if_pos e, List.filter_cons, if_neg (by simp [e])]
      exact chg_adj l
    · rw [if_neg e, List.filter_cons_of_pos (by simp [e])]
      exact chgP_adj l t
theorem adj_count : ∀ l : List Int, ((List.range (l.length - 1)).filter fun i => decide (l.getD (i + 1) 0 ≠ l.getD i 0)).length = adj l
  | [] => rfl
  | [a] => rfl
  | a :: b :: l => by
    have ih := adj_count (b :: l)
    rw [show (a :: b :: l).length - 1 = ((b :: l).length - 1) + 1 from by simp, List.range_succ_eq_map, List.filter_cons]
    have e : ((List.map Nat.succ (List.range ((b :: l).length - 1))).filter fun i => decide ((a :: b :: l).getD (i + 1) 0 ≠ (a :: b :: l).getD i 0)).length = adj (b :: l) := by
      rw [List.filter_map, List.length_map, ← ih]
      rfl
    by_cases h : b = a
    · rw [if_neg (by simp [h]), e, adj, if_pos h, Nat.zero_add]
    · rw [if_pos (by simp [h]), List.length_cons, e, adj, if_neg h, Nat.add_comm]
theorem sg_ints (z : Int) : (if decide (0 < z) = true then (1 : Int) else 0) - (if decide (z < 0) = true then 1 else 0) = sgZ z := by
  unfold sgZ
  by_cases h : 0 < z
  · rw [decide_eq_true h, if_pos rfl, decide_eq_false (by omega), if_neg Bool.false_ne_true, if_pos h]; rfl
  · rw [decide_eq_false h, if_neg Bool.false_ne_true, if_neg h]
    by_cases k : z < 0
    · rw [decide_eq_true k, if_pos rfl, if_pos k]; rfl
    · rw [decide_eq_false k, if_neg Bool.false_ne_true, if_neg k]; rfl
theorem neg_bits {r : List Int} {B : Nat} (h : Sz B r) (hB : B ≤ 8000) : ∀ v ∈ r, CMulW (-1) v := fun v hv => cmul_of (a := 1) (by decide) (h v hv) (by omega)
section
variable {P : Program} {w : World} {K : PySem.W.Frag} {mg : Str → Option Value} {base : Heap} {cR cO : Addr}
local macro_rules | `(tactic| walk_at "w") => `(tactic| conv => whnf)
local macro_rules | `(tactic| walk_at "v") => `(tactic| ((conv => whnf); try dsimp only))
local macro_rules | `(tactic| walk_at "s") => `(tactic| ((conv => whnf); repeat ((first | refine ⟨sz_ok rfl, ?_⟩ | refine ⟨rfl, ?_⟩); conv => whnf)))
theorem scIsInteger : FnScope ["value"] ["value"] (defScope sIsInteger) := ⟨rfl, rfl, rfl, by decide +kernel, rfl, by decide +kernel, by decide +kernel⟩
theorem ok_IsInteger {f : Addr} {fd : FuncData} (Z : Zn w K mg cR cO) (F : Fun K "is_integer" "is_integer" sIsInteger f fd) : FnOk P w K mg base (L2.CX P w) 1 f fd ["value"] (spD K isIntS) := by
  refine fn_ok F scIsInteger ?len (fun cdv A outer s H E hr => ?_)
  rotate_left
  · have tk := takes_of (X := cxOf (L2.CX P w) P w K mg base ["value"] "is_integer" (defScope sIsInteger) f cdv A outer s H E) (E := E) rfl rfl rfl rfl
    have hp := passes_of (X := cxOf (L2.CX P w) P w K mg base ["value"] "is_integer" (defScope sIsInteger) f cdv A outer s H E) rfl
    refine ⟨_, (ss_one (s_ret (q_and (q_isi .int (qv 0) (by rfl) Z.z_isinstance (by rfl) Z.z_int bb_int) (q_one (q_not (q_isi .bl (qv 0) (by rfl) Z.z_isinstance (by rfl) Z.z_bool bb_bool)))))), ?_⟩
    clear tk hp
    rintro ds L k x ⟨d, rfl, h1, h⟩
    cases d <;> first | exact h | cases h1
  · rintro ds L k x ⟨d, rfl, _⟩; rfl
theorem scTrimmed : FnScope ["items", "many"] ["items"] (defScope sTrimmed) := ⟨rfl, rfl, rfl, by decide +kernel, rfl, by decide +kernel, by decide +kernel⟩
theorem ok_Trimmed {f : Addr} {fd : FuncData} (Z : Zn w K mg cR cO) (F : Fun K "trimmed" "trimmed" sTrimmed f fd) : FnOk P w K mg base (L2.CX P w) 1 f fd ["items"] (spD K trimS) := by
  refine fn_ok F scTrimmed ?len (fun cdv A outer s H E hr => ?_)
  rotate_left
  · have tk := takes_of (X := cxOf (L2.CX P w) P w K mg base ["items", "many"] "trimmed" (defScope sTrimmed) f cdv A outer s H E) (E := E) rfl rfl rfl rfl
    have hp := passes_of (X := cxOf (L2.CX P w) P w K mg base ["items", "many"] "trimmed" (defScope sTrimmed) f cdv A outer s H E) rfl
    refine ⟨_, (ss_cons (s_set 1 scTrimmed.nd (q_callB cq_len (by rfl) Z.z_len bb_len (a_cons (qv 0) a_nil)))
  (ss_cons (s_while hp (w_and (t_cmp oq_gt (qv 1) q_int) (w_and1 (t_cmp (oq_eqU hr.units) (q_ix (qv 0) (q_op oq_sub (qv 1) q_int)) q_int))).t (ss_one (s_aug 1 scTrimmed.nd q_int ip_subQ)))
  (ss_one (s_ret (q_callTy cq_list (by rfl) Z.z_list bb_list (a_cons (q_slice (qv 0) o_none (o_some (qv 1))) a_nil)))))), ?_⟩
    clear tk hp
    rintro ds L k x ⟨T, xs, rfl, hT, hl, h⟩
    rcases hT with rfl | rfl
    · walk_at "w"
      rw [List.length_map]
      walk_at "w"
      refine whD_inv (fun m env L' => env = [some (.lst (xs.map .int)), some (.int (m : Int))] ∧ L' = L ∧ m ≤ xs.length ∧ trimI (xs.take m) = trimI xs) ?step ⟨rfl, rfl, Nat.le_refl _, by rw [List.take_length]⟩
      case step =>
        rintro E' m env L' _ _ _ _ ⟨rfl, rfl, hm, ht⟩ hnx
        cases m with
        | zero =>
          walk_at "w"
          rw [show cutD (xs.map D.int) none (some ((0 : Nat) : Int)) = _ from cut_take hm]
          rw [← ht] at h
          exact h
        | succ m =>
          walk_at "w"
          rw [show decide ((0 : Int) < ((m + 1 : Nat) : Int)) = true from decide_eq_true (by omega)]
          walk_at "w"
          rw [at_pred (show m < xs.length by omega)]
          walk_at "w"
          by_cases e : xs[m] = 0
          · rw [show flEq (D.int xs[m]) (D.int 0) = true from decide_eq_true e]
            walk_at "w"
            refine hnx m _ _ (Nat.lt_succ_self m) ⟨?_, rfl, by omega, by rw [← trim_step (by omega) e]; exact ht⟩
            rw [show ((m + 1 : Nat) : Int) - 1 = ((m : Nat) : Int) from by omega]
            rfl
          · rw [show flEq (D.int xs[m]) (D.int 0) = false from decide_eq_false e]
            walk_at "w"
            rw [show cutD (xs.map D.int) none (some ((m + 1 : Nat) : Int)) = _ from cut_take hm]
            rw [← ht, trim_stop (by omega) e] at h
            exact h
    · walk_at "w"
      rw [List.length_map]
      walk_at "w"
      refine whD_inv (fun m env L' => env = [some (.tup (xs.map .int)), some (.int (m : Int))] ∧ L' = L ∧ m ≤ xs.length ∧ trimI (xs.take m) = trimI xs) ?step ⟨rfl, rfl, Nat.le_refl _, by rw [List.take_length]⟩
      case step =>
        rintro E' m env L' _ _ _ _ ⟨rfl, rfl, hm, ht⟩ hnx
        cases m with
        | zero =>
          walk_at "w"
          rw [show cutD (xs.map D.int) none (some ((0 : Nat) : Int)) = _ from cut_take hm]
          rw [← ht] at h
          exact h
        | succ m =>
          walk_at "w"
          rw [show decide ((0 : Int) < ((m + 1 : Nat) : Int)) = true from decide_eq_true (by omega)]
          walk_at "w"
          rw [at_pred (show m < xs.length by omega)]
          walk_at "w"
          by_cases e : xs[m] = 0
          · rw [show flEq (D.int xs[m]) (D.int 0) = true from decide_eq_true e]
            walk_at "w"
            refine hnx m _ _ (Nat.lt_succ_self m) ⟨?_, rfl, by omega, by rw [← trim_step (by omega) e]; exact ht⟩
            rw [show ((m + 1 : Nat) : Int) - 1 = ((m : Nat) : Int) from by omega]
            rfl
          · rw [show flEq (D.int xs[m]) (D.int 0) = false from decide_eq_false e]
            walk_at "w"
            rw [show cutD (xs.map D.int) none (some ((m + 1 : Nat) : Int)) = _ from cut_take hm]
            rw [← ht, trim_stop (by omega) e] at h
            exact h
  · rintro ds L k x ⟨T, xs, rfl, _⟩; rfl
theorem ok_TrimmedM {f : Addr} {fd : FuncData} (Z : Zn w K mg cR cO) (F : Fun K "trimmed" "trimmed" sTrimmed f fd) : FnOk P w K mg base (L2.CX P w) 1 f fd ["items"] (spD K trimM) := by
  refine fn_ok F scTrimmed ?len (fun cdv A outer s H E hr => ?_)
  rotate_left
  · have tk := takes_of (X := cxOf (L2.CX P w) P w K mg base ["items", "many"] "trimmed" (defScope sTrimmed) f cdv A outer s H E) (E := E) rfl rfl rfl rfl
    have hp := passes_of (X := cxOf (L2.CX P w) P w K mg base ["items", "many"] "trimmed" (defScope sTrimmed) f cdv A outer s H E) rfl
    refine ⟨_, (ss_cons (s_set 1 scTrimmed.nd (q_callB cq_len (by rfl) Z.z_len bb_len (a_cons (qv 0) a_nil)))
  (ss_cons (s_while hp (w_and (t_cmp oq_gt (qv 1) q_int) (w_and1 (t_cmp (oq_eqU hr.units) (q_ix (qv 0) (q_op oq_sub (qv 1) q_int)) q_int))).t (ss_one (s_aug 1 scTrimmed.nd q_int ip_subQ)))
  (ss_one (s_ret (q_callTy cq_list (by rfl) Z.z_list bb_list (a_cons (q_slice (qv 0) o_none (o_some (qv 1))) a_nil)))))), ?_⟩
    clear tk hp
    rintro ds L k x ⟨q, xs, rfl, hq, hl, h⟩
    walk_at "w"
    rw [show lenD L (.ptr q) = some xs.length from by unfold lenD; rw [con_ptr hq]; show some (xs.map D.int).length = _; rw [List.length_map]]
    walk_at "w"
    refine whD_inv (fun m env L' => env = [some (.ptr q), some (.int (m : Int))] ∧ L' = L ∧ m ≤ xs.length ∧ trimI (xs.take m) = trimI xs) ?step ⟨rfl, rfl, Nat.le_refl _, by rw [List.take_length]⟩
    case step =>
      rintro E' m env L' _ _ _ _ ⟨rfl, rfl, hm, ht⟩ hnx
      cases m with
      | zero =>
        walk_at "w"
        rw [con_ptr hq]
        walk_at "w"
        rw [show cutD (xs.map D.int) none (some ((0 : Nat) : Int)) = _ from cut_take hm]
        rw [← ht] at h
        exact h
      | succ m =>
        walk_at "w"
        rw [show decide ((0 : Int) < ((m + 1 : Nat) : Int)) = true from decide_eq_true (by omega)]
        walk_at "w"
        rw [con_ptr hq]
        walk_at "w"
        rw [at_pred (show m < xs.length by omega)]
        walk_at "w"
        by_cases e : xs[m] = 0
        · rw [show flEq (D.int xs[m]) (D.int 0) = true from decide_eq_true e]
          walk_at "w"
          refine hnx m _ _ (Nat.lt_succ_self m) ⟨?_, rfl, by omega, by rw [← trim_step (by omega) e]; exact ht⟩
          rw [show ((m + 1 : Nat) : Int) - 1 = ((m : Nat) : Int) from by omega]
          rfl
        · rw [show flEq (D.int xs[m]) (D.int 0) = false from decide_eq_false e]
          walk_at "w"
          rw [con_ptr hq]
          walk_at "w"
          rw [show cutD (xs.map D.int) none (some ((m + 1 : Nat) : Int)) = _ from cut_take hm]
          rw [← ht, trim_stop (by omega) e] at h
          exact h
  · rintro ds L k x ⟨q, xs, rfl, _⟩; rfl
theorem scContent : FnScope ["items", "found", "value"] ["items"] (defScope sContent) := ⟨rfl, rfl, rfl, by decide +kernel, rfl, by decide +kernel, by decide +kernel⟩
theorem ok_Content {f : Addr} {fd : FuncData} (Z : Zn w K mg cR cO) (F : Fun K "content" "content" sContent f fd) : FnOk P w K mg base (L2.CX P w) 1 f fd ["items"] (spD K contS) := by
  refine fn_ok F scContent ?len (fun cdv A outer s H E hr => ?_)
  rotate_left
  · have tk := takes_of (X := cxOf (L2.CX P w) P w K mg base ["items", "found", "value"] "content" (defScope sContent) f cdv A outer s H E) (E := E) rfl rfl rfl rfl
    have hp := passes_of (X := cxOf (L2.CX P w) P w K mg base ["items", "found", "value"] "content" (defScope sContent) f cdv A outer s H E) rfl
    refine ⟨_, (ss_cons (s_set 1 scContent.nd q_int)
  (ss_cons (s_for hp rfl (i_list (qv 0)) (g_name 2 scContent.nd) (ss_one (s_set 1 scContent.nd (q_callF cq_gcd (by rfl) Z.g_gcd (a_cons (qv 1) (a_cons (qv 2) a_nil))))))
  (ss_one (s_ret (qv 1))))), ?_⟩
    clear tk hp
    rintro ds L k x ⟨vs, rfl, h⟩
    walk_at "w"
    refine forD_rec (fun r env L' => ∃ (us : List Int) (a : Int) (o : Option D), r = us.map .int ∧ env = [some (.lst (vs.map .int)), some (.int a), o] ∧ L' = L ∧ gcds a us = gcds 0 vs) ?step ?fin (vs.map .int) _ _ ⟨vs, 0, none, rfl, rfl, rfl, rfl⟩
    case fin =>
      rintro env L' ⟨us, a, o, hr, rfl, rfl, e⟩
      cases us with
      | cons _ _ => cases hr
      | nil =>
        walk_at "w"
        have e : a = gcds 0 vs := e
        rw [e]
        exact h
    case step =>
      rintro E' d r env L' _ _ _ _ ⟨us, a, o, hr, rfl, rfl, e⟩ hnx
      cases us with
      | nil => cases hr
      | cons u us =>
        cases hr
        walk_at "w"
        exact hnx _ _ ⟨us, gcdI a u, _, rfl, rfl, rfl, e⟩
  · rintro ds L k x ⟨vs, rfl, _⟩; rfl
theorem scCombined : FnScope ["one", "factor", "other", "times", "shift", "found", "at", "value"] ["one", "factor", "other", "times", "shift"] (defScope sCombined) := ⟨rfl, rfl, rfl, by decide +kernel, rfl, by decide +kernel, by decide +kernel⟩
theorem ok_Combined {f : Addr} {fd : FuncData} (Z : Zn w K mg cR cO) (F : Fun K "combined" "combined" sCombined f fd) (CTrimmed : Cal P w K mg base 1 "trimmed" ["items"] [] trimM) : FnOk P w K mg base (L2.CX P w) 2 f fd ["one", "factor", "other", "times", "shift"] (spD K combS) := by
  refine fn_ok F scCombined ?len (fun cdv A outer s H E hr => ?_)
  rotate_left
  · have tk := takes_of (X := cxOf (L2.CX P w) P w K mg base ["one", "factor", "other", "times", "shift", "found", "at", "value"] "combined" (defScope sCombined) f cdv A outer s H E) (E := E) rfl rfl rfl rfl
    have hp := passes_of (X := cxOf (L2.CX P w) P w K mg base ["one", "factor", "other", "times", "shift", "found", "at", "value"] "combined" (defScope sCombined) f cdv A outer s H E) rfl
    refine ⟨_, (ss_cons (s_set 5 scCombined.nd (q_addM (q_lc rfl scCombined.nd (i_list (qv 0)) (blkOk_by (own := [("value", 7)]) (N := ["one", "factor", "other", "times", "shift", "found", "at", "value"]) (sc := (defScope sCombined)) (by decide +kernel)) (fun _ _ _ _ _ => (g_name 7 scCombined.nd)) (fun _ _ _ _ _ => ts_nil) (fun _ _ _ _ _ => (q_op oq_mulU (qv 1) (qv 7)))) (q_op oq_rep (q_lst (a_cons q_int a_nil)) (q_callB (cq_max2 rfl) (by rfl) Z.z_max bb_max (a_cons q_int (a_cons (q_op oq_sub (q_op oq_add (q_callB cq_len (by rfl) Z.z_len bb_len (a_cons (qv 2) a_nil)) (qv 4)) (q_callB cq_len (by rfl) Z.z_len bb_len (a_cons (qv 0) a_nil))) a_nil))))))
  (ss_cons (s_for hp rfl (i_enum (by rfl) Z.z_enumerate (a_cons (qv 2) a_nil)) (g_tup (n := 2) rfl (gs_cons (g_name 6 scCombined.nd) (gs_cons (g_name 7 scCombined.nd) gs_nil))) (ss_one (s_augS (qv 5) (q_op oq_add (qv 6) (qv 4)) (q_op oq_mulU (qv 3) (qv 7)))))
  (ss_one (s_forgetR (s_ret (q_cal CTrimmed (by first | decide | exact Nat.le_refl _ | omega) hr tk (by rfl) (a_cons (qv 5) a_nil))))))), ?_⟩
    clear tk hp
    rintro ds L k x ⟨one, f, other, t, s, rfl, l1, l2, l3, c1, c2, h⟩
    walk_at "w"
    intro q hq
    refine lcD_each D.int (fun v => .int (f * v)) hq one (by omega) (fun v hv acc F KK hK => ?_) ?_
    · walk_at "w"
      exact ⟨.inr (c1 v hv), hK⟩
    · walk_at "w"
      refine ⟨sz_ok rfl, ?_⟩
      walk_at "w"
      have en : (if ((other.map D.int).length : Int) + (s : Int) - ((one.map D.int).length : Int) > 0 then ((other.map D.int).length : Int) + (s : Int) - ((one.map D.int).length : Int) else 0) = ((other.length + s - one.length : Nat) : Int) := by
        rw [List.length_map, List.length_map]
        split <;> omega
      rw [en]
      have er : (List.replicate (((other.length + s - one.length : Nat) : Int)).toNat [D.int 0]).flatten = (pad one other s).map D.int := by
        rw [Int.toNat_natCast]
        unfold pad
        rw [List.map_replicate]
        generalize other.length + s - one.length = n
        induction n with
        | zero => rfl
        | succ n ih => rw [List.replicate_succ, List.flatten_cons, ih]; rfl
      refine ⟨by omega, by omega, ?_, ?_⟩
      · rw [Int.toNat_natCast]
        exact Nat.le_trans (show 1 * _ ≤ 2000 by omega) (by decide)
      rw [er]
      have lp : (pad one other s).length ≤ 2000 := by unfold pad; rw [List.length_replicate]; omega
      refine ⟨Nat.le_trans (show _ ≤ 3000 by rw [List.length_map, List.length_map]; omega) (by decide), fun p hp => ?_⟩
      walk_at "w"
      refine forD_rec (fun r env L' => ∃ (us cur : List Int) (a : Nat) (o6 o7 : Option D), r = enumD a (us.map .int) ∧ env = [some (.lst (one.map .int)), some (.int f), some (.lst (other.map .int)), some (.int t), some (.int s), some (.ptr p), o6, o7] ∧ L' = (p, .lst (cur.map .int)) :: L ∧ addAt cur (a + s) (us.map fun v => t * v) = combU one f other t s ∧ cur.length = max one.length (other.length + s) ∧ a + us.length = other.length ∧ (∀ v ∈ us, CMulW t v)) ?step ?fin _ _ _ ⟨other, (one.map fun v => f * v) ++ pad one other s, 0, none, none, rfl, rfl, by rw [List.map_append, List.map_map]; rfl, by rw [Nat.zero_add]; rfl, by unfold pad; simp; omega, by simp, c2⟩
      case fin =>
        rintro env L' ⟨us, cur, a, o6, o7, hr, rfl, rfl, e, lc, la, _⟩
        cases us with
        | cons _ _ => cases hr
        | nil =>
          walk_at "w"
          have e : cur = combU one f other t s := e
          refine ⟨p, cur, rfl, lookup_top, by omega, ?_⟩
          rw [e]
          refine ⟨[p], ?_⟩
          rw [show [p].foldl remL ((p, D.lst ((combU one f other t s).map .int)) :: L) = L from remL_top hp]
          exact h
      case step =>
        rintro E' d r env L' _ _ _ _ ⟨us, cur, a, o6, o7, hr, rfl, rfl, e, lc, la, c3⟩ hnx
        cases us with
        | nil => cases hr
        | cons u us =>
          cases hr
          rw [List.length_cons] at la
          walk_at "w"
          refine ⟨rfl, ?_⟩
          walk_at "w"
          rw [lookup_top]
          walk_at "w"
          have ix : ixN (cur.map D.int).length ((a : Int) + (s : Int)) = some (a + s) := by
            rw [List.length_map]
            unfold ixN
            rw [if_pos (by omega), if_pos (by omega)]
            congr 1
            try omega
          rw [ix]
          walk_at "w"
          rw [show (cur.map D.int)[a + s]? = some (.int (cur.getD (a + s) 0)) from by
            rw [List.getElem?_map, List.getD_eq_getElem?_getD, List.getElem?_eq_getElem (show a + s < cur.length by omega)]; rfl]
          walk_at "w"
          refine ⟨.inr (c3 u List.mem_cons_self), ?_⟩
          walk_at "w"
          refine ⟨lookup_top, ?_⟩
          rw [setL_top hp]
          exact hnx _ _ ⟨us, cur.set (a + s) (cur.getD (a + s) 0 + t * u), a + 1, _, _, rfl, rfl, by rw [List.map_set], by rw [show a + 1 + s = a + s + 1 from by omega]; exact e, by rw [List.length_set]; exact lc, by omega, fun v hv => c3 v (List.mem_cons_of_mem _ hv)⟩
  · rintro ds L k x ⟨one, f, other, t, s, rfl, _⟩; rfl
theorem scLightened : FnScope ["items", "divisor", "value"] ["items"] (defScope sLightened) := ⟨rfl, rfl, rfl, by decide +kernel, rfl, by decide +kernel, by decide +kernel⟩
theorem ok_Lightened {f : Addr} {fd : FuncData} (Z : Zn w K mg cR cO) (F : Fun K "lightened" "lightened" sLightened f fd) (CContent : Cal P w K mg base 1 "content" ["items"] [] contS) : FnOk P w K mg base (L2.CX P w) 2 f fd ["items"] (spD K lightS) := by
  refine fn_ok F scLightened ?len (fun cdv A outer s H E hr => ?_)
  rotate_left
  · have tk := takes_of (X := cxOf (L2.CX P w) P w K mg base ["items", "divisor", "value"] "lightened" (defScope sLightened) f cdv A outer s H E) (E := E) rfl rfl rfl rfl
    have hp := passes_of (X := cxOf (L2.CX P w) P w K mg base ["items", "divisor", "value"] "lightened" (defScope sLightened) f cdv A outer s H E) rfl
    refine ⟨_, (ss_cons (s_set 1 scLightened.nd (q_cal CContent (by first | decide | exact Nat.le_refl _ | omega) hr tk (by rfl) (a_cons (qv 0) a_nil)))
  (ss_one (s_ret (q_lc rfl scLightened.nd (i_list (qv 0)) (blkOk_by (own := [("value", 2)]) (N := ["items", "divisor", "value"]) (sc := (defScope sLightened)) (by decide +kernel)) (fun _ _ _ _ _ => (g_name 2 scLightened.nd)) (fun _ _ _ _ _ => ts_nil) (fun _ _ _ _ _ => (q_op oq_fdiv (qv 2) (qv 1))))))), ?_⟩
    clear tk hp
    rintro ds L k x ⟨xs, rfl, hl, ⟨v, hv, nz, hs⟩, h⟩
    have g0 := gcds_ne ⟨v, hv, nz⟩
    have gn : 0 ≤ gcds 0 xs := gcds_nonneg xs 0 (Int.le_refl 0)
    have gl : (gcds 0 xs).natAbs ≤ v.natAbs := by
      have := Int.natAbs_dvd_natAbs.mpr ((gcds_dvd xs 0).2 v hv)
      exact Nat.le_of_dvd (by omega) this
    have lg : (gcds 0 xs).natAbs.log2 < 9000 := by
      have : (gcds 0 xs).natAbs.log2 < 8000 := (Nat.log2_lt (by omega)).mpr (Nat.lt_of_le_of_lt gl hs)
      omega
    walk_at "w"
    refine ⟨xs, rfl, ?_⟩
    walk_at "w"
    intro q hq
    refine lcD_each D.int (fun v => .int (v.fdiv (gcds 0 xs))) hq xs (by omega) (fun v hv acc F KK hK => ?_) ?_
    · walk_at "w"
      exact ⟨⟨g0, lg⟩, hK⟩
    · unfold prim at h
      rw [List.map_map] at h
      exact h
  · rintro ds L k x ⟨xs, rfl, _⟩; rfl
theorem scPrimitive : FnScope ["items", "divisor", "value"] ["items"] (defScope sPrimitive) := ⟨rfl, rfl, rfl, by decide +kernel, rfl, by decide +kernel, by decide +kernel⟩
theorem ok_Primitive {f : Addr} {fd : FuncData} (Z : Zn w K mg cR cO) (F : Fun K "primitive" "primitive" sPrimitive f fd) (CContent : Cal P w K mg base 1 "content" ["items"] [] contS) : FnOk P w K mg base (L2.CX P w) 2 f fd ["items"] (spD K primS) := by
  refine fn_ok F scPrimitive ?len (fun cdv A outer s H E hr => ?_)
  rotate_left
  · have tk := takes_of (X := cxOf (L2.CX P w) P w K mg base ["items", "divisor", "value"] "primitive" (defScope sPrimitive) f cdv A outer s H E) (E := E) rfl rfl rfl rfl
    have hp := passes_of (X := cxOf (L2.CX P w) P w K mg base ["items", "divisor", "value"] "primitive" (defScope sPrimitive) f cdv A outer s H E) rfl
    refine ⟨_, (ss_cons (s_if (t_cmp (oq_eqU hr.units) (qv 0) (q_lst a_nil)) (ss_one (s_ret (q_lst a_nil))) ss_nil)
  (ss_cons (s_set 1 scPrimitive.nd (q_cal CContent (by first | decide | exact Nat.le_refl _ | omega) hr tk (by rfl) (a_cons (qv 0) a_nil)))
  (ss_cons (s_if (t_cmp oq_lt (q_ix (qv 0) (q_neg q_int)) q_int) (ss_one (s_set 1 scPrimitive.nd (q_neg (qv 1)))) ss_nil)
  (ss_one (s_ret (q_lc rfl scPrimitive.nd (i_list (qv 0)) (blkOk_by (own := [("value", 2)]) (N := ["items", "divisor", "value"]) (sc := (defScope sPrimitive)) (by decide +kernel)) (fun _ _ _ _ _ => (g_name 2 scPrimitive.nd)) (fun _ _ _ _ _ => ts_nil) (fun _ _ _ _ _ => (q_op oq_fdiv (qv 2) (qv 1))))))))), ?_⟩
    clear tk hp
    rintro ds L k x ⟨xs, rfl, hl, ht, hs, h⟩
    walk_at "w"
    refine ⟨sz_ok rfl, ?_⟩
    walk_at "w"
    refine ⟨shp_ints xs, shp_ints [], ?_⟩
    rw [show eqD (.lst (xs.map D.int)) (.lst []) = decide (xs = []) from eqD_ints xs []]
    by_cases e : xs = []
    · rw [decide_eq_true e]
      walk_at "w"
      rw [e] at h
      exact ⟨sz_ok rfl, h⟩
    · rw [decide_eq_false e]
      have g0 := cont_pos ht e
      have lg := content_log ht e hs (by decide)
      walk_at "w"
      refine ⟨xs, rfl, ?_⟩
      walk_at "w"
      rw [at_last e]
      walk_at "w"
      by_cases n : lst xs < 0
      · have es : signed xs = -gcds 0 xs := if_pos n
        rw [decide_eq_true n]
        walk_at "w"
        intro q hq
        refine lcD_each D.int (fun v => .int (v.fdiv (signed xs))) hq xs (by omega) (fun v hv acc F KK hK => ?_) ?_
        · walk_at "w"
          rw [es] at hK
          exact ⟨⟨(by show -gcds 0 xs ≠ 0; omega), (by show (-gcds 0 xs).natAbs.log2 < 9000; rw [Int.natAbs_neg]; exact lg)⟩, hK⟩
        · unfold primI at h
          rw [List.map_map] at h
          exact h
      · have es : signed xs = gcds 0 xs := if_neg n
        rw [decide_eq_false n]
        walk_at "w"
        intro q hq
        refine lcD_each D.int (fun v => .int (v.fdiv (signed xs))) hq xs (by omega) (fun v hv acc F KK hK => ?_) ?_
        · walk_at "w"
          rw [es] at hK
          exact ⟨⟨(by show gcds 0 xs ≠ 0; omega), lg⟩, hK⟩
        · unfold primI at h
          rw [List.map_map] at h
          exact h
  · rintro ds L k x ⟨xs, rfl, _⟩; rfl
theorem scRemainder : FnScope ["one", "other", "lead", "turn"] ["one", "other"] (defScope sRemainder) := ⟨rfl, rfl, rfl, by decide +kernel, rfl, by decide +kernel, by decide +kernel⟩
theorem ok_Remainder {f : Addr} {fd : FuncData} (Z : Zn w K mg cR cO) (F : Fun K "remainder" "remainder" sRemainder f fd) (CCombined : Cal P w K mg base 2 "combined" ["one", "factor", "other", "times", "shift"] [] combS) (CLightened : Cal P w K mg base 2 "lightened" ["items"] [] lightS) : FnOk P w K mg base (L2.CX P w) 3 f fd ["one", "other"] (spD K remS) := by
  refine fn_ok F scRemainder ?len (fun cdv A outer s H E hr => ?_)
  rotate_left
  · have tk := takes_of (X := cxOf (L2.CX P w) P w K mg base ["one", "other", "lead", "turn"] "remainder" (defScope sRemainder) f cdv A outer s H E) (E := E) rfl rfl rfl rfl
    have hp := passes_of (X := cxOf (L2.CX P w) P w K mg base ["one", "other", "lead", "turn"] "remainder" (defScope sRemainder) f cdv A outer s H E) rfl
    refine ⟨_, (ss_cons (s_set 2 scRemainder.nd (q_callB cq_abs (by rfl) Z.z_abs bb_abs (a_cons (q_ix (qv 1) (q_neg q_int)) a_nil)))
  (ss_cut (s_set 3 scRemainder.nd (q_if (t_cmp oq_gt (q_ix (qv 1) (q_neg q_int)) q_int) q_int (q_neg q_int)))
  (ss_cons (s_while hp (t_cmp oq_ge (q_callB cq_len (by rfl) Z.z_len bb_len (a_cons (qv 0) a_nil)) (q_callB cq_len (by rfl) Z.z_len bb_len (a_cons (qv 1) a_nil))) (ss_cons (s_set 0 scRemainder.nd (q_cal CCombined (by first | decide | exact Nat.le_refl _ | omega) hr tk (by rfl) (a_cons (qv 0) (a_cons (qv 2) (a_cons (qv 1) (a_cons (q_op oq_mulU (q_neg (qv 3)) (q_ix (qv 0) (q_neg q_int))) (a_cons (q_op oq_sub (q_callB cq_len (by rfl) Z.z_len bb_len (a_cons (qv 0) a_nil)) (q_callB cq_len (by rfl) Z.z_len bb_len (a_cons (qv 1) a_nil))) a_nil)))))))
  (ss_one (s_set 0 scRemainder.nd (q_if (t_cmp (oq_neU hr.units) (qv 0) (q_lst a_nil)) (q_cal CLightened (by first | decide | exact Nat.le_refl _ | omega) hr tk (by rfl) (a_cons (qv 0) a_nil)) (qv 0))))))
  (ss_one (s_ret (qv 0)))))), ?_⟩
    clear tk hp
    rintro ds L k x ⟨one, other, r, rfl, h0, ht, l2, l1, hr, h⟩
    obtain ⟨a, ea, za⟩ := tr_form ht h0
    have lo := List.length_pos_iff.mpr h0
    walk_at "w"
    rw [at_last h0]
    walk_at "w"
    refine ⟨fun env' L' => env' = [some (.lst (one.map .int)), some (.lst (other.map .int)), some (.int ((lst other).natAbs : Int)), some (.int (turn (lst other)))] ∧ L' = L, ?_, ?_⟩
    · walk_at "w"
      rw [at_last h0]
      walk_at "w"
      have el : (if lst other < 0 then -lst other else lst other) = ((lst other).natAbs : Int) := by split <;> omega
      rw [el]
      unfold turn
      by_cases p : 0 < lst other
      · rw [decide_eq_true p, if_pos p]
        walk_at "w"
        exact ⟨rfl, rfl⟩
      · rw [decide_eq_false p, if_neg p]
        walk_at "w"
        exact ⟨rfl, rfl⟩
    rintro env' L2 ⟨rfl, e2⟩
    have e2 := e2.symm
    subst e2
    walk_at "w"
    refine whD_inv (fun m env L' => ∃ cur : List Int, m = cur.length ∧ env = [some (.lst (cur.map .int)), some (.lst (other.map .int)), some (.int ((lst other).natAbs : Int)), some (.int (turn (lst other)))] ∧ L' = L ∧ RemR other cur r ∧ cur.length < 1000) ?step ⟨one, rfl, rfl, rfl, hr, l1⟩
    case step =>
      rintro E' m env L' _ _ _ _ ⟨cur, rfl, rfl, rfl, hc, lc⟩ hnx
      walk_at "w"
      rw [List.length_map, List.length_map]
      cases hc with
      | done hl =>
        rw [show decide ((other.length : Int) ≤ (r.length : Int)) = false from decide_eq_false (by omega)]
        walk_at "w"
        exact h
      | step hl ok hs =>
        rw [show decide ((other.length : Int) ≤ (cur.length : Int)) = true from decide_eq_true (by omega)]
        have n0 : cur ≠ [] := fun z => by subst z; have : other.length ≤ 0 := hl; omega
        obtain ⟨B, hB, s1, s2, _⟩ := ok
        have hB : B ≤ 3900 := hB
        walk_at "w"
        rw [at_last n0]
        walk_at "w"
        refine ⟨.inl (.inl (by show (-(turn (lst other))).natAbs < 2 ^ 63; rw [Int.natAbs_neg, turn_bit]; decide)), ?_⟩
        walk_at "w"
        have tb : (-(turn (lst other)) * lst cur).natAbs < 2 ^ B := by
          rw [Int.natAbs_mul, Int.natAbs_neg, turn_bit, Nat.one_mul]
          exact s1.lst
        refine ⟨cur, ((lst other).natAbs : Int), other, -(turn (lst other)) * lst cur, cur.length - other.length, ?_, lc, l2, by omega, fun v hv => cmul_of (by rw [Int.natAbs_natCast]; exact s2.lst) (s1 v hv) (by omega), fun v hv => cmul_of tb (s2 v hv) (by omega), ?_⟩
        · show [D.lst (cur.map .int), D.int ((lst other).natAbs : Int), D.lst (other.map .int), D.int (-turn (lst other) * lst cur), D.int (((cur.map D.int).length : Int) - ((other.map D.int).length : Int))] = _
          rw [List.length_map, List.length_map, toNat_sub hl]
        walk_at "w"
        refine ⟨sz_ok rfl, ?_⟩
        walk_at "w"
        have sl := step_len hl h0 ht
        generalize ec : combI cur ((lst other).natAbs : Int) other (-(turn (lst other)) * lst cur) (cur.length - other.length) = c
        have es : ST.stepI cur other = prim c := by unfold ST.stepI; rw [ec]
        rw [es] at hs sl
        refine ⟨shp_ints c, shp_ints [], ?_⟩
        rw [show eqD (.lst (c.map D.int)) (.lst []) = decide (c = []) from eqD_ints c []]
        by_cases e : c = []
        · rw [decide_eq_true e]
          walk_at "w"
          subst e
          exact hnx _ _ _ sl ⟨[], rfl, rfl, rfl, hs, by simp⟩
        · rw [decide_eq_false e]
          walk_at "w"
          have tc : Tr c := by rw [← ec]; exact trim_tr _
          have sc : Sz (B + B + 1) c := by
            rw [← ec]
            exact comb_sz (c := B) (d := B) s1 s2 (by rw [Int.natAbs_natCast]; exact s2.lst) tb (Nat.le_refl _) (Nat.le_refl _)
          have lcc : c.length < 1000 := by rw [prim_len] at sl; omega
          obtain ⟨_, _, zc⟩ := tr_form tc e
          refine ⟨c, rfl, by omega, ⟨_, lst_mem e, zc, lim_lt sc.lst (by omega)⟩, ?_⟩
          walk_at "w"
          exact hnx _ _ _ sl ⟨prim c, rfl, rfl, rfl, hs, by omega⟩
  · rintro ds L k x ⟨one, other, r, rfl, _⟩; rfl
theorem scCommonList : FnScope ["one", "other"] ["one", "other"] (defScope sCommonList) := ⟨rfl, rfl, rfl, by decide +kernel, rfl, by decide +kernel, by decide +kernel⟩
theorem ok_CommonList {f : Addr} {fd : FuncData} (Z : Zn w K mg cR cO) (F : Fun K "common_list" "common_list" sCommonList f fd) (CRemainder : Cal P w K mg base 3 "remainder" ["one", "other"] [] remS) (CPrimitive : Cal P w K mg base 2 "primitive" ["items"] [] primS) : FnOk P w K mg base (L2.CX P w) 4 f fd ["one", "other"] (spD K comS) := by
  refine fn_ok F scCommonList ?len (fun cdv A outer s H E hr => ?_)
  rotate_left
  · have tk := takes_of (X := cxOf (L2.CX P w) P w K mg base ["one", "other"] "common_list" (defScope sCommonList) f cdv A outer s H E) (E := E) rfl rfl rfl rfl
    have hp := passes_of (X := cxOf (L2.CX P w) P w K mg base ["one", "other"] "common_list" (defScope sCommonList) f cdv A outer s H E) rfl
    refine ⟨_, (ss_cons (s_while hp (t_cmp (oq_neU hr.units) (qv 1) (q_lst a_nil)) (ss_one (s_par 0 1 rfl scCommonList.nd (a_cons (qv 1) (a_cons (q_cal CRemainder (by first | decide | exact Nat.le_refl _ | omega) hr tk (by rfl) (a_cons (qv 0) (a_cons (qv 1) a_nil))) a_nil)))))
  (ss_one (s_ret (q_cal CPrimitive (by first | decide | exact Nat.le_refl _ | omega) hr tk (by rfl) (a_cons (qv 0) a_nil))))), ?_⟩
    clear tk hp
    rintro ds L k x ⟨one, other, hh, rfl, t1, t2, l1, l2, hr, h⟩
    walk_at "w"
    refine whD_inv (fun m env L' => ∃ a b : List Int, m = b.length ∧ env = [some (.lst (a.map .int)), some (.lst (b.map .int))] ∧ L' = L ∧ ComR a b hh ∧ Tr a ∧ Tr b ∧ a.length < 1000 ∧ b.length < 1000) ?step ⟨one, other, rfl, rfl, rfl, hr, t1, t2, l1, l2⟩
    case step =>
      rintro E' m env L' _ _ _ _ ⟨a, b, rfl, rfl, rfl, hc, ta, tb, la, lb⟩ hnx
      walk_at "w"
      refine ⟨sz_ok rfl, ?_⟩
      walk_at "w"
      refine ⟨shp_ints b, shp_ints [], ?_⟩
      rw [show eqD (.lst (b.map D.int)) (.lst []) = decide (b = []) from eqD_ints b []]
      cases hc with
      | done sz _ =>
        rw [decide_eq_true rfl]
        walk_at "w"
        exact ⟨a, rfl, la, ta, sz, h⟩
      | step hn hrem hcom =>
        rw [decide_eq_false hn]
        obtain ⟨tr, lr⟩ := rem_sub hrem tb hn ta
        walk_at "w"
        refine ⟨a, b, _, rfl, hn, tb, lb, la, hrem, ?_⟩
        walk_at "w"
        exact hnx _ _ _ lr ⟨b, _, rfl, rfl, rfl, hcom, tb, tr, lb, by omega⟩
  · rintro ds L k x ⟨one, other, hh, rfl, _⟩; rfl
theorem scExactList : FnScope ["one", "other", "found", "rest", "shift"] ["one", "other"] (defScope sExactList) := ⟨rfl, rfl, rfl, by decide +kernel, rfl, by decide +kernel, by decide +kernel⟩
theorem ok_ExactList {f : Addr} {fd : FuncData} (Z : Zn w K mg cR cO) (F : Fun K "exact_list" "exact_list" sExactList f fd) (CCombined : Cal P w K mg base 2 "combined" ["one", "factor", "other", "times", "shift"] [] combS) : FnOk P w K mg base (L2.CX P w) 3 f fd ["one", "other"] (spD K exS) := by
  refine fn_ok F scExactList ?len (fun cdv A outer s H E hr => ?_)
  rotate_left
  · have tk := takes_of (X := cxOf (L2.CX P w) P w K mg base ["one", "other", "found", "rest", "shift"] "exact_list" (defScope sExactList) f cdv A outer s H E) (E := E) rfl rfl rfl rfl
    have hp := passes_of (X := cxOf (L2.CX P w) P w K mg base ["one", "other", "found", "rest", "shift"] "exact_list" (defScope sExactList) f cdv A outer s H E) rfl
    refine ⟨_, (ss_cons (s_set 2 scExactList.nd (q_repM (q_lst (a_cons q_int a_nil)) (q_callB (cq_max2 rfl) (by rfl) Z.z_max bb_max (a_cons q_int (a_cons (q_op oq_add (q_op oq_sub (q_callB cq_len (by rfl) Z.z_len bb_len (a_cons (qv 0) a_nil)) (q_callB cq_len (by rfl) Z.z_len bb_len (a_cons (qv 1) a_nil))) q_int) a_nil)))))
  (ss_cons (s_set 3 scExactList.nd (q_callTy cq_list (by rfl) Z.z_list bb_list (a_cons (qv 0) a_nil)))
  (ss_cons (s_while hp (t_cmp oq_ge (q_callB cq_len (by rfl) Z.z_len bb_len (a_cons (qv 3) a_nil)) (q_callB cq_len (by rfl) Z.z_len bb_len (a_cons (qv 1) a_nil))) (ss_cons (s_set 4 scExactList.nd (q_op oq_sub (q_callB cq_len (by rfl) Z.z_len bb_len (a_cons (qv 3) a_nil)) (q_callB cq_len (by rfl) Z.z_len bb_len (a_cons (qv 1) a_nil))))
  (ss_cons (s_if (t_cmp (oq_neU hr.units) (q_op oq_mod (q_ix (qv 3) (q_neg q_int)) (q_ix (qv 1) (q_neg q_int))) q_int) (ss_one (s_forgetR (s_ret q_non))) ss_nil)
  (ss_cons (s_store (q_op oq_fdiv (q_ix (qv 3) (q_neg q_int)) (q_ix (qv 1) (q_neg q_int))) (qv 2) (qv 4))
  (ss_one (s_set 3 scExactList.nd (q_cal CCombined (by first | decide | exact Nat.le_refl _ | omega) hr tk (by rfl) (a_cons (qv 3) (a_cons q_int (a_cons (qv 1) (a_cons (q_neg (q_ix (qv 2) (qv 4))) (a_cons (qv 4) a_nil))))))))))))
  (ss_one (s_forgetR (s_ret (q_if (t_cmp (oq_eqU hr.units) (qv 3) (q_lst a_nil)) (q_seal 2) q_non))))))), ?_⟩
    clear tk hp
    rintro ds L k x ⟨one, other, o, rfl, ht, h0, hlo, l1, hr, h⟩
    obtain ⟨a, ea, za⟩ := tr_form ht h0
    have lo := List.length_pos_iff.mpr h0
    walk_at "w"
    refine ⟨sz_ok rfl, ?_⟩
    walk_at "w"
    have en : (if ((one.map D.int).length : Int) - ((other.map D.int).length : Int) + 1 > 0 then ((one.map D.int).length : Int) - ((other.map D.int).length : Int) + 1 else 0) = ((one.length - other.length + 1 : Nat) : Int) := by
      rw [List.length_map, List.length_map]
      split <;> omega
    rw [en]
    have er : (List.replicate (((one.length - other.length + 1 : Nat) : Int)).toNat [D.int 0]).flatten = (List.replicate (one.length - other.length + 1) 0).map D.int := by
      rw [Int.toNat_natCast, List.map_replicate]
      generalize one.length - other.length + 1 = n
      induction n with
      | zero => rfl
      | succ n ih => rw [List.replicate_succ, List.flatten_cons, ih]; rfl
    refine ⟨by omega, by omega, ?_, ?_⟩
    · rw [Int.toNat_natCast]
      exact Nat.le_trans (show 1 * _ ≤ 2000 by omega) (by decide)
    rw [er]
    intro p hp
    walk_at "w"
    refine whD_inv (fun m env L' => ∃ (cur fnd : List Int) (o4 : Option D), m = cur.length ∧ env = [some (.lst (one.map .int)), some (.lst (other.map .int)), some (.ptr p), some (.lst (cur.map .int)), o4] ∧ L' = (p, .lst (fnd.map .int)) :: L ∧ ExR other cur fnd o ∧ cur.length ≤ one.length ∧ fnd.length = one.length - other.length + 1) ?step ⟨one, _, none, rfl, rfl, rfl, hr, Nat.le_refl _, List.length_replicate ..⟩
    case step =>
      rintro E' m env L' hrt _ hbk _ ⟨cur, fnd, o4, rfl, rfl, rfl, hc, lc, lf⟩ hnx
      walk_at "w"
      rw [List.length_map, List.length_map]
      have rem1 : [p].foldl remL ((p, D.lst (fnd.map .int)) :: L) = L := remL_top hp
      cases hc with
      | full hn =>
        rw [show decide ((other.length : Int) ≤ (([] : List Int).length : Int)) = false from decide_eq_false (by simp; omega)]
        walk_at "w"
        refine ⟨sz_ok rfl, ?_⟩
        walk_at "w"
        refine ⟨shp_ints [], shp_ints [], ?_⟩
        walk_at "w"
        rw [lookup_top]
        walk_at "w"
        refine ⟨[], ?_⟩
        rw [List.foldl_nil, remL_top hp]
        exact h
      | short hn hl =>
        rw [show decide ((other.length : Int) ≤ (cur.length : Int)) = false from decide_eq_false (by omega)]
        walk_at "w"
        refine ⟨sz_ok rfl, ?_⟩
        walk_at "w"
        refine ⟨shp_ints cur, shp_ints [], ?_⟩
        rw [show eqD (.lst (cur.map D.int)) (.lst []) = decide (cur = []) from eqD_ints cur [], decide_eq_false hn]
        walk_at "w"
        refine ⟨[p], ?_⟩
        rw [rem1]
        exact h
      | no hn hl hd =>
        have n0 : cur ≠ [] := fun z => by subst z; have : other.length ≤ 0 := hl; omega
        rw [show decide ((other.length : Int) ≤ (cur.length : Int)) = true from decide_eq_true (by omega)]
        walk_at "w"
        rw [List.length_map, List.length_map, at_last n0]
        walk_at "w"
        rw [at_last h0]
        walk_at "w"
        refine ⟨za, ?_⟩
        walk_at "w"
        rw [show flEq (D.int ((lst cur).fmod (lst other))) (D.int 0) = false from decide_eq_false fun z => hd (Int.dvd_iff_fmod_eq_zero.mpr z)]
        walk_at "w"
        rw [hrt]
        refine ⟨[p], ?_⟩
        rw [rem1]
        exact h
      | go hn hl he ok hs =>
        rename_i qt
        have n0 : cur ≠ [] := fun z => by subst z; have : other.length ≤ 0 := hl; omega
        obtain ⟨s1, s2, s3, _⟩ := ok
        have L0 : 2 * Lim = 7800 := rfl
        rw [L0] at s1 s2 s3
        rw [show decide ((other.length : Int) ≤ (cur.length : Int)) = true from decide_eq_true (by omega)]
        walk_at "w"
        rw [List.length_map, List.length_map, at_last n0]
        walk_at "w"
        rw [at_last h0]
        walk_at "w"
        refine ⟨za, ?_⟩
        walk_at "w"
        have fm : (lst cur).fmod (lst other) = 0 := Int.fmod_eq_zero_of_dvd ⟨qt, by rw [he, Int.mul_comm]⟩
        have fd : (lst cur).fdiv (lst other) = qt := by rw [he, Int.mul_fdiv_cancel _ za]
        rw [show flEq (D.int ((lst cur).fmod (lst other))) (D.int 0) = true from decide_eq_true fm]
        walk_at "w"
        rw [at_last n0]
        walk_at "w"
        rw [at_last h0]
        walk_at "w"
        refine ⟨⟨za, lim_log s2.lst (by decide)⟩, ?_⟩
        walk_at "w"
        rw [lookup_top]
        walk_at "w"
        have ix : ixN (fnd.map D.int).length ((cur.length : Int) - (other.length : Int)) = some (cur.length - other.length) := by
          rw [List.length_map, toNat_sub hl]
          unfold ixN
          rw [if_pos (by omega), if_pos (by omega)]
          rfl
        rw [ix]
        walk_at "w"
        rw [setL_top hp]
        have ef : (fnd.map D.int).set (cur.length - other.length) ((fun i j : Int => D.int (i.fdiv j)) (lst cur) (lst other)) = (fnd.set (cur.length - other.length) qt).map D.int := by
          rw [List.map_set]
          show _ = (fnd.map D.int).set _ (D.int qt)
          rw [← fd]
        rw [ef, con_ptr lookup_top]
        walk_at "w"
        have ea : atI ((fnd.set (cur.length - other.length) qt).map D.int) ((cur.length : Int) - (other.length : Int)) = some (.int qt) := by
          rw [toNat_sub hl]
          refine atI_nat ?_
          rw [List.getElem?_map, List.getElem?_set_self (by omega)]
          rfl
        rw [ea]
        walk_at "w"
        have lc2 : (combI cur 1 other (-qt) (cur.length - other.length)).length < cur.length := comb_len hl h0 (by rw [he, Int.one_mul, Int.neg_mul]; omega)
        refine ⟨cur, 1, other, -qt, cur.length - other.length, ?_, by omega, by omega, by omega, fun v hv => cmul_of (a := 1) (by decide) (s1 v hv) (by decide), fun v hv => cmul_of (by rw [Int.natAbs_neg]; exact s3) (s2 v hv) (by decide), ?_⟩
        · rw [← toNat_sub hl]; rfl
        walk_at "w"
        exact hnx _ _ _ lc2 ⟨_, _, _, rfl, rfl, rfl, hs, by omega, by rw [List.length_set]; exact lf⟩
  · rintro ds L k x ⟨one, other, o, rfl, _⟩; rfl
theorem scDerived : FnScope ["items", "at", "value"] ["items"] (defScope sDerived) := ⟨rfl, rfl, rfl, by decide +kernel, rfl, by decide +kernel, by decide +kernel⟩
theorem ok_Derived {f : Addr} {fd : FuncData} (Z : Zn w K mg cR cO) (F : Fun K "derived" "derived" sDerived f fd) : FnOk P w K mg base (L2.CX P w) 1 f fd ["items"] (spD K derS) := by
  refine fn_ok F scDerived ?len (fun cdv A outer s H E hr => ?_)
  rotate_left
  · have tk := takes_of (X := cxOf (L2.CX P w) P w K mg base ["items", "at", "value"] "derived" (defScope sDerived) f cdv A outer s H E) (E := E) rfl rfl rfl rfl
    have hp := passes_of (X := cxOf (L2.CX P w) P w K mg base ["items", "at", "value"] "derived" (defScope sDerived) f cdv A outer s H E) rfl
    refine ⟨_, (ss_one (s_ret (q_slice (q_lc rfl scDerived.nd (i_enum (by rfl) Z.z_enumerate (a_cons (qv 0) a_nil)) (blkOk_by (own := [("at", 1), ("value", 2)]) (N := ["items", "at", "value"]) (sc := (defScope sDerived)) (by decide +kernel)) (fun _ _ _ _ _ => (g_tup (n := 2) rfl (gs_cons (g_name 1 scDerived.nd) (gs_cons (g_name 2 scDerived.nd) gs_nil)))) (fun _ _ _ _ _ => ts_nil) (fun _ _ _ _ _ => (q_op oq_mulU (qv 1) (qv 2)))) (o_some q_int) o_none))), ?_⟩
    clear tk hp
    rintro ds L k x ⟨xs, rfl, hl, hs, h⟩
    walk_at "w"
    intro q hq
    rw [enum_pr]
    refine lcD_each (fun p : Nat × Int => .tup [.int p.1, .int p.2]) (fun p => .int ((p.1 : Int) * p.2)) hq (prI 0 xs) (by rw [pr_len]; omega) (fun v hv acc F KK hK => ?_) ?_
    · obtain ⟨h1, h2⟩ := pr_mem hv
      walk_at "w"
      refine ⟨rfl, ?_⟩
      walk_at "w"
      exact ⟨.inl (.inl (by rw [Int.natAbs_natCast]; exact Nat.lt_trans (show _ < 2000 by omega) (by decide))), hK⟩
    · walk_at "w"
      have e : cutD ((prI 0 xs).map fun p => D.int ((p.1 : Int) * p.2)) (some 1) none = (derI xs).map D.int := by
        rw [cut_drop1]
        unfold derI
        rw [show derF 0 xs = (prI 0 xs).map (fun p => (p.1 : Int) * p.2) from der_pr xs 0, List.map_drop, List.map_map]
        rfl
      rw [e]
      exact h
  · rintro ds L k x ⟨xs, rfl, _⟩; rfl
end
end T15
namespace T15
open PySem L2 DL PO RO ST
section
variable {P : Program} {w : World} {K : PySem.W.Frag} {mg : Str → Option Value} {base : Heap} {cR cO : Addr}
local macro_rules | `(tactic| walk_at "w") => `(tactic| conv => whnf)
local macro_rules | `(tactic| walk_at "v") => `(tactic| ((conv => whnf); try dsimp only))
local macro_rules | `(tactic| walk_at "s") => `(tactic| ((conv => whnf); repeat ((first | refine ⟨sz_ok rfl, ?_⟩ | refine ⟨rfl, ?_⟩); conv => whnf)))
theorem scFreeList : FnScope ["items"] ["items"] (defScope sFreeList) := ⟨rfl, rfl, rfl, by decide +kernel, rfl, by decide +kernel, by decide +kernel⟩
theorem ok_FreeList {f : Addr} {fd : FuncData} (Z : Zn w K mg cR cO) (F : Fun K "free_list" "free_list" sFreeList f fd) (CPrimitive : Cal P w K mg base 2 "primitive" ["items"] [] primS) (CExactList : Cal P w K mg base 3 "exact_list" ["one", "other"] [] exS) (CCommonList : Cal P w K mg base 4 "common_list" ["one", "other"] [] comS) (CDerived : Cal P w K mg base 1 "derived" ["items"] [] derS) : FnOk P w K mg base (L2.CX P w) 5 f fd ["items"] (spD K freS) := by
  refine fn_ok F scFreeList ?len (fun cdv A outer s H E hr => ?_)
  rotate_left
  · have tk := takes_of (X := cxOf (L2.CX P w) P w K mg base ["items"] "free_list" (defScope sFreeList) f cdv A outer s H E) (E := E) rfl rfl rfl rfl
    have hp := passes_of (X := cxOf (L2.CX P w) P w K mg base ["items"] "free_list" (defScope sFreeList) f cdv A outer s H E) rfl
    refine ⟨_, (ss_one (s_ret (q_cal CPrimitive (by first | decide | exact Nat.le_refl _ | omega) hr tk (by rfl) (a_cons (q_cal CExactList (by first | decide | exact Nat.le_refl _ | omega) hr tk (by rfl) (a_cons (q_cal CPrimitive (by first | decide | exact Nat.le_refl _ | omega) hr tk (by rfl) (a_cons (qv 0) a_nil)) (a_cons (q_cal CCommonList (by first | decide | exact Nat.le_refl _ | omega) hr tk (by rfl) (a_cons (qv 0) (a_cons (q_cal CDerived (by first | decide | exact Nat.le_refl _ | omega) hr tk (by rfl) (a_cons (qv 0) a_nil)) a_nil))) a_nil))) a_nil)))), ?_⟩
    clear tk hp
    rintro ds L k x ⟨xs, f, rfl, ht, hn, hl, hs, ⟨hh, q, hc, hx, rfl, hle, sq, tq, lq, th, nh⟩, h⟩
    have lp := primI_len xs
    have dl := der_len xs
    walk_at "w"
    refine ⟨xs, rfl, hl, ht, hs, ?_⟩
    walk_at "w"
    refine ⟨xs, rfl, hl, hs, ?_⟩
    walk_at "w"
    refine ⟨xs, derI xs, hh, rfl, ht, der_tr ht, hl, by omega, hc, ?_⟩
    walk_at "w"
    refine ⟨primI xs, hh, _, rfl, th, nh, hle, by omega, hx, ?_⟩
    exact ⟨q, rfl, lq, tq, sq, h⟩
  · rintro ds L k x ⟨xs, f, rfl, _⟩; rfl
theorem scValueOver : FnScope ["items", "value", "top", "bottom", "total", "power", "item"] ["items", "value"] (defScope sValueOver) := ⟨rfl, rfl, rfl, by decide +kernel, rfl, by decide +kernel, by decide +kernel⟩
theorem ok_ValueOver {f : Addr} {fd : FuncData} (Z : Zn w K mg cR cO) (F : Fun K "value_over" "value_over" sValueOver f fd) : FnOk P w K mg base (L2.CX P w) 1 f fd ["items", "value"] (spD K voS) := by
  refine fn_ok F scValueOver ?len (fun cdv A outer s H E hr => ?_)
  rotate_left
  · have tk := takes_of (X := cxOf (L2.CX P w) P w K mg base ["items", "value", "top", "bottom", "total", "power", "item"] "value_over" (defScope sValueOver) f cdv A outer s H E) (E := E) rfl rfl rfl rfl
    have hp := passes_of (X := cxOf (L2.CX P w) P w K mg base ["items", "value", "top", "bottom", "total", "power", "item"] "value_over" (defScope sValueOver) f cdv A outer s H E) rfl
    refine ⟨_, (ss_cons (s_asg (qv 1) (g_tup (n := 2) rfl (gs_cons (g_name 2 scValueOver.nd) (gs_cons (g_name 3 scValueOver.nd) gs_nil))))
  (ss_cons (s_asg (q_tup (a_cons q_int (a_cons q_int a_nil))) (g_tup (n := 2) rfl (gs_cons (g_name 4 scValueOver.nd) (gs_cons (g_name 5 scValueOver.nd) gs_nil))))
  (ss_cons (s_for hp rfl (i_rev (by rfl) Z.z_reversed (q_callTy cq_list (by rfl) Z.z_list bb_list (a_cons (qv 0) a_nil))) (g_name 6 scValueOver.nd) (ss_cons (s_set 4 scValueOver.nd (q_op oq_add (q_op oq_mulU (qv 4) (qv 2)) (q_op oq_mulU (qv 6) (qv 5))))
  (ss_one (s_aug 5 scValueOver.nd (qv 3) ip_mulQ))))
  (ss_one (s_ret (qv 4)))))), ?_⟩
    clear tk hp
    rintro ds L k x ⟨xs, t, b, rfl, hl, hx, ht, hb, h⟩
    walk_at "w"
    refine ⟨rfl, ?_⟩
    walk_at "w"
    refine ⟨sz_ok rfl, ?_⟩
    walk_at "w"
    refine ⟨rfl, ?_⟩
    walk_at "w"
    rw [← List.map_reverse]
    refine forD_rec (fun r env L2 => ∃ (us rs : List Int) (o6 : Option D), r = us.reverse.map .int ∧ us ++ rs = xs ∧ env = [some (.lst (xs.map .int)), some (.tup [.int t, .int b]), some (.int t), some (.int b), some (.int (voI t b rs).1), some (.int (voI t b rs).2), o6] ∧ L2 = L) ?step ?fin _ _ _ ⟨xs, [], none, rfl, List.append_nil _, rfl, rfl⟩
    case fin =>
      rintro env L2 ⟨us, rs, o6, hr, e, rfl, rfl⟩
      have hu : us = [] := List.reverse_eq_nil_iff.mp (List.map_eq_nil_iff.mp hr.symm)
      subst hu
      have e : rs = xs := e
      subst e
      walk_at "w"
      exact h
    case step =>
      rintro E' d r env L2 _ _ _ _ ⟨us, rs, o6, hr, e, rfl, rfl⟩ hnx
      rcases List.eq_nil_or_concat us with hu | ⟨us, u, hu⟩
      · subst hu; cases hr
      · rw [List.concat_eq_append] at hu
        subst hu
        rw [List.reverse_append, List.reverse_singleton, List.singleton_append, List.map_cons] at hr
        cases hr
        have mu : u.natAbs < 2 ^ 3900 := hx u (by rw [← e]; simp)
        have lr : rs.length ≤ 60 := by
          have := congrArg List.length e
          rw [List.length_append] at this
          omega
        obtain ⟨v1, v2⟩ := vo_bits lr (fun v hv => hx v (by rw [← e]; exact List.mem_append_right _ hv)) ht hb
        walk_at "w"
        refine ⟨.inr (cmul_of v1 ht (by decide)), ?_⟩
        walk_at "w"
        refine ⟨.inr (cmul_of mu v2 (by decide)), ?_⟩
        walk_at "w"
        refine ⟨.inr (cmul_of v2 hb (by decide)), ?_⟩
        walk_at "w"
        exact hnx _ _ ⟨us, u :: rs, _, rfl, by rw [← e, List.append_assoc]; rfl, rfl, rfl⟩
  · rintro ds L k x ⟨xs, t, b, rfl, _⟩; rfl
theorem scSign : FnScope ["number"] ["number"] (defScope sSign) := ⟨rfl, rfl, rfl, by decide +kernel, rfl, by decide +kernel, by decide +kernel⟩
theorem ok_Sign {f : Addr} {fd : FuncData} (Z : Zn w K mg cR cO) (F : Fun K "sign" "sign" sSign f fd) : FnOk P w K mg base (L2.CX P w) 1 f fd ["number"] (spD K sgnS) := by
  refine fn_ok F scSign ?len (fun cdv A outer s H E hr => ?_)
  rotate_left
  · have tk := takes_of (X := cxOf (L2.CX P w) P w K mg base ["number"] "sign" (defScope sSign) f cdv A outer s H E) (E := E) rfl rfl rfl rfl
    have hp := passes_of (X := cxOf (L2.CX P w) P w K mg base ["number"] "sign" (defScope sSign) f cdv A outer s H E) rfl
    refine ⟨_, (ss_one (s_ret (q_op oq_sub (q_callTy cq_int (by rfl) Z.z_int bb_int (a_cons (q_cmp oq_gt (qv 0) q_int) a_nil)) (q_callTy cq_int (by rfl) Z.z_int bb_int (a_cons (q_cmp oq_lt (qv 0) q_int) a_nil))))), ?_⟩
    clear tk hp
    rintro ds L k x ⟨z, rfl, h⟩
    walk_at "w"
    show k (D.int ((if decide (0 < z) = true then (1 : Int) else 0) - (if decide (z < 0) = true then 1 else 0))) L
    rw [sg_ints]
    exact h
  · rintro ds L k x ⟨z, rfl, _⟩; rfl
theorem scChainOf : FnScope ["items", "chain"] ["items"] (defScope sChainOf) := ⟨rfl, rfl, rfl, by decide +kernel, rfl, by decide +kernel, by decide +kernel⟩
theorem ok_ChainOf {f : Addr} {fd : FuncData} (Z : Zn w K mg cR cO) (F : Fun K "chain_of" "chain_of" sChainOf f fd) (CDerived : Cal P w K mg base 1 "derived" ["items"] [] derS) (CRemainder : Cal P w K mg base 3 "remainder" ["one", "other"] [] remS) (CCombined : Cal P w K mg base 2 "combined" ["one", "factor", "other", "times", "shift"] [] combS) : FnOk P w K mg base (L2.CX P w) 4 f fd ["items"] (spD K chainS) := by
  refine fn_ok F scChainOf ?len (fun cdv A outer s H E hr => ?_)
  rotate_left
  · have tk := takes_of (X := cxOf (L2.CX P w) P w K mg base ["items", "chain"] "chain_of" (defScope sChainOf) f cdv A outer s H E) (E := E) rfl rfl rfl rfl
    have hp := passes_of (X := cxOf (L2.CX P w) P w K mg base ["items", "chain"] "chain_of" (defScope sChainOf) f cdv A outer s H E) rfl
    refine ⟨_, (ss_cons (s_set 1 scChainOf.nd (q_lstM (a_cons (q_callTy cq_list (by rfl) Z.z_list bb_list (a_cons (qv 0) a_nil)) (a_cons (q_cal CDerived (by first | decide | exact Nat.le_refl _ | omega) hr tk (by rfl) (a_cons (qv 0) a_nil)) a_nil))))
  (ss_cons (s_while hp (t_cmp (oq_neU hr.units) (q_ix (qv 1) (q_neg q_int)) (q_lst a_nil)) (ss_one (s_expr (q_append (qv 1) (q_cal CCombined (by first | decide | exact Nat.le_refl _ | omega) hr tk (by rfl) (a_cons (q_lst a_nil) (a_cons q_int (a_cons (q_cal CRemainder (by first | decide | exact Nat.le_refl _ | omega) hr tk (by rfl) (a_cons (q_ix (qv 1) (q_neg q_int)) (a_cons (q_ix (qv 1) (q_neg q_int)) a_nil))) (a_cons (q_neg q_int) (a_cons q_int a_nil))))))))))
  (ss_one (s_forgetR (s_ret (q_slice (qv 1) o_none (o_some (q_neg q_int)))))))), ?_⟩
    clear tk hp
    rintro ds L k x ⟨xs, l, rfl, hl, hs, ht, ll, hc, h⟩
    have dl := der_len xs
    walk_at "w"
    refine ⟨xs, rfl, hl, hs, ?_⟩
    walk_at "w"
    refine ⟨sz_ok rfl, fun p hp => ?_⟩
    walk_at "w"
    refine whD_inv (fun m env L' => ∃ (pre : List D) (a b : List Int) (l' : List (List Int)), m = b.length ∧ env = [some (lD xs), some (.ptr p)] ∧ L' = (p, .lst (pre ++ [lD a, lD b])) :: L ∧ ChR a b l' ∧ (xs :: l).map lD = pre ++ lD a :: l'.map lD ∧ Tr a ∧ Tr b ∧ a.length < 1000 ∧ b.length < 1000 ∧ pre.length + l'.length = l.length) ?step ⟨[], xs, derI xs, l, rfl, rfl, rfl, hc, rfl, ht, der_tr ht, hl, by omega, by simp⟩
    case step =>
      rintro E' m env L' _ _ _ _ ⟨pre, a, b, l', rfl, rfl, rfl, hc, e, ta, tb, la, lb, lp⟩ hnx
      walk_at "w"
      rw [con_ptr lookup_top]
      walk_at "w"
      rw [show pre ++ [lD a, lD b] = (pre ++ [lD a]) ++ [lD b] from by simp, at_end]
      walk_at "w"
      refine ⟨sz_ok rfl, ?_⟩
      walk_at "w"
      refine ⟨shp_ints b, shp_ints [], ?_⟩
      rw [show eqD (.lst (b.map D.int)) (.lst []) = decide (b = []) from eqD_ints b []]
      cases hc with
      | done =>
        rw [decide_eq_true rfl]
        walk_at "w"
        rw [con_ptr lookup_top]
        walk_at "w"
        rw [cut_but1]
        refine ⟨[p], ?_⟩
        rw [show [p].foldl remL ((p, D.lst ((pre ++ [lD a]) ++ [lD []])) :: L) = L from remL_top hp]
        have e : (xs :: l).map lD = pre ++ [lD a] := e
        rw [← e]
        exact h
      | step hn hrem sr lr hch =>
        rename_i r l2
        rw [decide_eq_false hn]
        obtain ⟨tr, lrr⟩ := rem_sub hrem tb hn ta
        have nl := neg_len r
        rw [List.length_cons] at lp
        walk_at "w"
        rw [lookup_top]
        walk_at "w"
        refine ⟨sz_ok rfl, ?_⟩
        walk_at "w"
        rw [con_ptr lookup_top]
        walk_at "w"
        rw [show (pre ++ [lD a]) ++ [lD b] = pre ++ [lD a, lD b] from by simp, at_end2]
        walk_at "w"
        rw [con_ptr lookup_top]
        walk_at "w"
        rw [show pre ++ [lD a, lD b] = (pre ++ [lD a]) ++ [lD b] from by simp, at_end]
        walk_at "w"
        refine ⟨a, b, r, rfl, hn, tb, lb, la, hrem, ?_⟩
        walk_at "w"
        refine ⟨[], 1, r, -1, 0, rfl, by simp, lr, by decide, (fun _ h => by cases h), neg_bits sr (by decide), ?_⟩
        rw [show combI [] 1 r (-1) 0 = negI r from rfl]
        walk_at "w"
        rw [lookup_top]
        walk_at "w"
        rw [setL_top hp]
        refine ⟨Nat.le_trans (show _ ≤ 2000 by simp; omega) (by decide), ?_⟩
        exact hnx _ _ _ (Nat.lt_of_le_of_lt nl lrr) ⟨pre ++ [lD a], b, negI r, l2, rfl, rfl, by simp, hch, by rw [e]; simp, tb, neg_tr r, lb, by omega, by simp; omega⟩
  · rintro ds L k x ⟨xs, l, rfl, _⟩; rfl
theorem scChanges : FnScope ["signs", "left", "one", "at"] ["signs"] (defScope sChanges) := ⟨rfl, rfl, rfl, by decide +kernel, rfl, by decide +kernel, by decide +kernel⟩
theorem ok_Changes {f : Addr} {fd : FuncData} (Z : Zn w K mg cR cO) (F : Fun K "changes" "changes" sChanges f fd) : FnOk P w K mg base (L2.CX P w) 1 f fd ["signs"] (spD K chgS) := by
  refine fn_ok F scChanges ?len (fun cdv A outer s H E hr => ?_)
  rotate_left
  · have tk := takes_of (X := cxOf (L2.CX P w) P w K mg base ["signs", "left", "one", "at"] "changes" (defScope sChanges) f cdv A outer s H E) (E := E) rfl rfl rfl rfl
    have hp := passes_of (X := cxOf (L2.CX P w) P w K mg base ["signs", "left", "one", "at"] "changes" (defScope sChanges) f cdv A outer s H E) rfl
    refine ⟨_, (ss_cons (s_set 1 scChanges.nd (q_lc rfl scChanges.nd (i_list (qv 0)) (blkOk_by (own := [("one", 2)]) (N := ["signs", "left", "one", "at"]) (sc := (defScope sChanges)) (by decide +kernel)) (fun _ _ _ _ _ => (g_name 2 scChanges.nd)) (fun _ _ _ _ _ => (ts_one (t_cmp (oq_neU hr.units) (qv 2) q_int))) (fun _ _ _ _ _ => (qv 2))))
  (ss_one (s_ret (q_callB cq_len (by rfl) Z.z_len bb_len (a_cons (q_lc rfl scChanges.nd (i_range2 (by rfl) Z.z_range (a_cons q_int (a_cons (q_callB cq_len (by rfl) Z.z_len bb_len (a_cons (qv 1) a_nil)) a_nil))) (blkOk_by (own := [("at", 3)]) (N := ["signs", "left", "one", "at"]) (sc := (defScope sChanges)) (by decide +kernel)) (fun _ _ _ _ _ => (g_name 3 scChanges.nd)) (fun _ _ _ _ _ => (ts_one (t_cmp (oq_neU hr.units) (q_ix (qv 1) (qv 3)) (q_ix (qv 1) (q_op oq_sub (qv 3) q_int))))) (fun _ _ _ _ _ => (qv 3))) a_nil))))), ?_⟩
    clear tk hp
    rintro ds L k x ⟨xs, rfl, hl, h⟩
    walk_at "w"
    intro q hq
    refine lcD_pick D.int D.int (fun z => decide (z ≠ 0)) hq xs [] (by simp; omega) (fun v hv acc T F KK hT hF => ?_) ?_
    · walk_at "w"
      by_cases e : v = 0
      · rw [show flEq (D.int v) (D.int 0) = true from decide_eq_true e]
        exact hF (decide_eq_false fun z => z e)
      · rw [show flEq (D.int v) (D.int 0) = false from decide_eq_false e]
        exact hT (decide_eq_true e)
    · rw [List.nil_append]
      have lf : (xs.filter fun z => decide (z ≠ 0)).length ≤ xs.length := List.length_filter_le ..
      have h : k (.int (adj (xs.filter fun z => decide (z ≠ 0)) : Nat)) L := by rw [← chg_adj]; exact h
      generalize (xs.filter fun z => decide (z ≠ 0)) = ys at lf h ⊢
      walk_at "w"
      rw [List.length_map]
      refine ⟨⟨by decide, by decide, by omega, by omega⟩, ?_⟩
      walk_at "w"
      intro q2 hq2
      rw [show ((ys.length : Int) - 1).toNat = ys.length - 1 from by omega, RO.rng_map]
      refine lcD_pick (fun i : Nat => D.int (1 + (i : Int))) (fun i : Nat => D.int (1 + (i : Int))) (fun i => decide (ys.getD (i + 1) 0 ≠ ys.getD i 0)) hq2 (List.range (ys.length - 1)) [] (by simp; omega) (fun i hi acc T F KK hT hF => ?_) ?_
      · have hi := List.mem_range.mp hi
        walk_at "w"
        have a1 : atI (ys.map D.int) (1 + (i : Int)) = some (.int (ys.getD (i + 1) 0)) := by
          rw [show (1 + (i : Int)) = ((i + 1 : Nat) : Int) from by omega]
          refine atI_nat ?_
          rw [List.getElem?_map, List.getD_eq_getElem?_getD, List.getElem?_eq_getElem (show i + 1 < ys.length by omega)]; rfl
        have a2 : atI (ys.map D.int) (1 + (i : Int) - 1) = some (.int (ys.getD i 0)) := by
          rw [show (1 + (i : Int) - 1) = ((i : Nat) : Int) from by omega]
          refine atI_nat ?_
          rw [List.getElem?_map, List.getD_eq_getElem?_getD, List.getElem?_eq_getElem (show i < ys.length by omega)]; rfl
        rw [a1]
        walk_at "w"
        rw [a2]
        walk_at "w"
        by_cases e : ys.getD (i + 1) 0 = ys.getD i 0
        · rw [show flEq (D.int (ys.getD (i + 1) 0)) (D.int (ys.getD i 0)) = true from decide_eq_true e]
          exact hF (decide_eq_false fun z => z e)
        · rw [show flEq (D.int (ys.getD (i + 1) 0)) (D.int (ys.getD i 0)) = false from decide_eq_false e]
          exact hT (decide_eq_true e)
      · walk_at "w"
        rw [List.nil_append, List.length_map, adj_count]
        exact h
  · rintro ds L k x ⟨xs, rfl, _⟩; rfl
theorem scChangesAt : FnScope ["chain", "value", "items"] ["chain", "value"] (defScope sChangesAt) := ⟨rfl, rfl, rfl, by decide +kernel, rfl, by decide +kernel, by decide +kernel⟩
theorem ok_ChangesAt {f : Addr} {fd : FuncData} (Z : Zn w K mg cR cO) (F : Fun K "changes_at" "changes_at" sChangesAt f fd) (CValueOver : Cal P w K mg base 1 "value_over" ["items", "value"] [] voS) (CSign : Cal P w K mg base 1 "sign" ["number"] [] sgnS) (CChanges : Cal P w K mg base 1 "changes" ["signs"] [] chgS) : FnOk P w K mg base (L2.CX P w) 2 f fd ["chain", "value"] (spD K chAtS) := by
  refine fn_ok F scChangesAt ?len (fun cdv A outer s H E hr => ?_)
  rotate_left
  · have tk := takes_of (X := cxOf (L2.CX P w) P w K mg base ["chain", "value", "items"] "changes_at" (defScope sChangesAt) f cdv A outer s H E) (E := E) rfl rfl rfl rfl
    have hp := passes_of (X := cxOf (L2.CX P w) P w K mg base ["chain", "value", "items"] "changes_at" (defScope sChangesAt) f cdv A outer s H E) rfl
    refine ⟨_, (ss_one (s_ret (q_cal CChanges (by first | decide | exact Nat.le_refl _ | omega) hr tk (by rfl) (a_cons (q_lc rfl scChangesAt.nd (i_list (qv 0)) (blkOk_by (own := [("items", 2)]) (N := ["chain", "value", "items"]) (sc := (defScope sChangesAt)) (by decide +kernel)) (fun _ _ _ _ _ => (g_name 2 scChangesAt.nd)) (fun _ _ _ _ _ => ts_nil) (fun _ _ _ _ _ => (q_cal CSign (by first | decide | exact Nat.le_refl _ | omega) hr takes0 (by rfl) (a_cons (q_cal CValueOver (by first | decide | exact Nat.le_refl _ | omega) hr takes0 (by rfl) (a_cons (qv 2) (a_cons (qv 1) a_nil))) a_nil)))) a_nil)))), ?_⟩
    clear tk hp
    rintro ds L k x ⟨l, t, b, rfl, ⟨hl, hy⟩, ht, hb, h⟩
    walk_at "w"
    intro q hq
    refine lcD_each lD (fun p => .int (sgZ (voI t b p).1)) hq l (by omega) (fun p hp acc F KK hK => ?_) ?_
    · obtain ⟨y1, y2, y3⟩ := hy p hp
      walk_at "w"
      refine ⟨p, t, b, rfl, y3, y2, ht, hb, ?_⟩
      walk_at "w"
      exact ⟨_, rfl, hK⟩
    · walk_at "w"
      refine ⟨l.map fun p => sgZ (voI t b p).1, by rw [List.map_map]; rfl, by rw [List.length_map]; exact hl, ?_⟩
      exact h
  · rintro ds L k x ⟨l, t, b, rfl, _⟩; rfl
theorem scChangesFar : FnScope ["chain", "turn", "items"] ["chain", "turn"] (defScope sChangesFar) := ⟨rfl, rfl, rfl, by decide +kernel, rfl, by decide +kernel, by decide +kernel⟩
theorem ok_ChangesFar {f : Addr} {fd : FuncData} (Z : Zn w K mg cR cO) (F : Fun K "changes_far" "changes_far" sChangesFar f fd) (CSign : Cal P w K mg base 1 "sign" ["number"] [] sgnS) (CChanges : Cal P w K mg base 1 "changes" ["signs"] [] chgS) : FnOk P w K mg base (L2.CX P w) 2 f fd ["chain", "turn"] (spD K chFarS) := by
  refine fn_ok F scChangesFar ?len (fun cdv A outer s H E hr => ?_)
  rotate_left
  · have tk := takes_of (X := cxOf (L2.CX P w) P w K mg base ["chain", "turn", "items"] "changes_far" (defScope sChangesFar) f cdv A outer s H E) (E := E) rfl rfl rfl rfl
    have hp := passes_of (X := cxOf (L2.CX P w) P w K mg base ["chain", "turn", "items"] "changes_far" (defScope sChangesFar) f cdv A outer s H E) rfl
    refine ⟨_, (ss_one (s_ret (q_cal CChanges (by first | decide | exact Nat.le_refl _ | omega) hr tk (by rfl) (a_cons (q_lc rfl scChangesFar.nd (i_list (qv 0)) (blkOk_by (own := [("items", 2)]) (N := ["chain", "turn", "items"]) (sc := (defScope sChangesFar)) (by decide +kernel)) (fun _ _ _ _ _ => (g_name 2 scChangesFar.nd)) (fun _ _ _ _ _ => ts_nil) (fun _ _ _ _ _ => (q_op oq_mulU (q_cal CSign (by first | decide | exact Nat.le_refl _ | omega) hr takes0 (by rfl) (a_cons (q_ixA (qv 2) (q_neg q_int)) a_nil)) (q_if (t_cmp (oq_eqU hr.units) (q_op oq_mod (q_callB cq_len (by rfl) Z.z_len bb_len (a_cons (qv 2) a_nil)) q_int) q_int) (qv 1) q_int)))) a_nil)))), ?_⟩
    clear tk hp
    rintro ds L k x ⟨l, s, rfl, hs, ⟨hl, hy⟩, h⟩
    walk_at "w"
    intro q hq
    refine lcD_each lD (fun p => .int (sgZ (lst p) * (if p.length % 2 = 0 then s else 1))) hq l (by omega) (fun p hp acc F KK hK => ?_) ?_
    · obtain ⟨y1, y2, y3⟩ := hy p hp
      walk_at "w"
      rw [at_last y1]
      walk_at "w"
      refine ⟨_, rfl, ?_⟩
      walk_at "w"
      rw [List.length_map]
      refine ⟨(show (2 : Int) ≠ 0 by decide), ?_⟩
      walk_at "w"
      have sb : (sgZ (lst p)).natAbs < 2 ^ 63 := by
        unfold sgZ
        split
        · decide
        · split <;> decide
      have em : ((p.length : Int)).fmod 2 = ((p.length % 2 : Nat) : Int) := by
        rw [Int.fmod_eq_emod_of_nonneg _ (by decide)]; omega
      rw [show (fun i j : Int => D.int (i.fmod j)) (p.length : Int) 2 = D.int ((p.length % 2 : Nat) : Int) from congrArg D.int em]
      by_cases e : p.length % 2 = 0
      · rw [if_pos e] at hK
        rw [show flEq (D.int ((p.length % 2 : Nat) : Int)) (D.int 0) = true from decide_eq_true (by omega)]
        walk_at "w"
        exact ⟨.inl (.inl sb), hK⟩
      · rw [if_neg e] at hK
        rw [show flEq (D.int ((p.length % 2 : Nat) : Int)) (D.int 0) = false from decide_eq_false (by omega)]
        walk_at "w"
        exact ⟨.inl (.inl sb), hK⟩
    · walk_at "w"
      refine ⟨l.map fun p => sgZ (lst p) * (if p.length % 2 = 0 then s else 1), by rw [List.map_map]; rfl, by rw [List.length_map]; exact hl, ?_⟩
      exact h
  · rintro ds L k x ⟨l, s, rfl, _⟩; rfl
theorem scCountBetween : FnScope ["items", "low", "high", "chain", "first", "last"] ["items", "low", "high"] (defScope sCountBetween) := ⟨rfl, rfl, rfl, by decide +kernel, rfl, by decide +kernel, by decide +kernel⟩
theorem ok_CountBetween {f : Addr} {fd : FuncData} (Z : Zn w K mg cR cO) (F : Fun K "count_between" "count_between" sCountBetween f fd) (CFreeList : Cal P w K mg base 5 "free_list" ["items"] [] freS) (CChainOf : Cal P w K mg base 4 "chain_of" ["items"] [] chainS) (CChangesAt : Cal P w K mg base 2 "changes_at" ["chain", "value"] [] chAtS) (CChangesFar : Cal P w K mg base 2 "changes_far" ["chain", "turn"] [] chFarS) : FnOk P w K mg base (L2.CX P w) 6 f fd ["items", "low", "high"] (spD K cntS) := by
  refine fn_ok F scCountBetween ?len (fun cdv A outer s H E hr => ?_)
  rotate_left
  · have tk := takes_of (X := cxOf (L2.CX P w) P w K mg base ["items", "low", "high", "chain", "first", "last"] "count_between" (defScope sCountBetween) f cdv A outer s H E) (E := E) rfl rfl rfl rfl
    have hp := passes_of (X := cxOf (L2.CX P w) P w K mg base ["items", "low", "high", "chain", "first", "last"] "count_between" (defScope sCountBetween) f cdv A outer s H E) rfl
    refine ⟨_, (ss_cons (s_set 3 scCountBetween.nd (q_cal CChainOf (by first | decide | exact Nat.le_refl _ | omega) hr tk (by rfl) (a_cons (q_cal CFreeList (by first | decide | exact Nat.le_refl _ | omega) hr tk (by rfl) (a_cons (qv 0) a_nil)) a_nil)))
  (ss_cut (s_set 4 scCountBetween.nd (q_if (t_cmp oq_isN (qv 1) q_non) (q_cal CChangesFar (by first | decide | exact Nat.le_refl _ | omega) hr tk (by rfl) (a_cons (qv 3) (a_cons (q_neg q_int) a_nil))) (q_cal CChangesAt (by first | decide | exact Nat.le_refl _ | omega) hr tk (by rfl) (a_cons (qv 3) (a_cons (qv 1) a_nil)))))
  (ss_cut (s_set 5 scCountBetween.nd (q_if (t_cmp oq_isN (qv 2) q_non) (q_cal CChangesFar (by first | decide | exact Nat.le_refl _ | omega) hr tk (by rfl) (a_cons (qv 3) (a_cons q_int a_nil))) (q_cal CChangesAt (by first | decide | exact Nat.le_refl _ | omega) hr tk (by rfl) (a_cons (qv 3) (a_cons (qv 2) a_nil)))))
  (ss_one (s_ret (q_op oq_sub (qv 4) (qv 5))))))), ?_⟩
    clear tk hp
    rintro ds L k x ⟨xs, lo, hi, n, rfl, ht, hn, hl, hs, ⟨⟨f, l, hf, hc, hy, ll, rfl⟩, blo, bhi⟩, h⟩
    obtain ⟨y1, y2, y3⟩ := hy f List.mem_cons_self
    have tf : Tr f := by
      obtain ⟨⟨_, q, _, _, rfl, _, _, tq, _⟩⟩ := hf
      exact primI_tr tq
    have cok : ChnOk (f :: l) := ⟨by rw [List.length_cons]; omega, hy⟩
    walk_at "w"
    refine ⟨xs, f, rfl, ht, hn, hl, hs, hf, ?_⟩
    walk_at "w"
    refine ⟨f, l, rfl, by omega, y2.mono (by decide), tf, by omega, hc, ?_⟩
    walk_at "w"
    refine ⟨fun env' L' => env' = [some (lD xs), some (bdD lo), some (bdD hi), some (.lst ((f :: l).map lD)), some (.int (chgV (f :: l) (-1) lo)), none] ∧ L = L', ?_, ?_⟩
    · cases lo with
      | none =>
        walk_at "w"
        exact ⟨f :: l, -1, rfl, .inr rfl, cok, rfl, rfl⟩
      | some q =>
        obtain ⟨t, b⟩ := q
        walk_at "w"
        exact ⟨f :: l, t, b, rfl, cok, (blo t b rfl).2.1, (blo t b rfl).2.2, rfl, rfl⟩
    rintro env' L' ⟨rfl, rfl⟩
    refine ⟨fun env' L' => env' = [some (lD xs), some (bdD lo), some (bdD hi), some (.lst ((f :: l).map lD)), some (.int (chgV (f :: l) (-1) lo)), some (.int (chgV (f :: l) 1 hi))] ∧ L = L', ?_, ?_⟩
    · cases hi with
      | none =>
        walk_at "w"
        exact ⟨f :: l, 1, rfl, .inl rfl, cok, rfl, rfl⟩
      | some q =>
        obtain ⟨t, b⟩ := q
        walk_at "w"
        exact ⟨f :: l, t, b, rfl, cok, (bhi t b rfl).2.1, (bhi t b rfl).2.2, rfl, rfl⟩
    rintro env' L' ⟨rfl, rfl⟩
    walk_at "w"
    exact h
  · rintro ds L k x ⟨xs, lo, hi, n, rfl, _⟩; rfl
end
end T15
namespace T15
open PySem L2 DL PO RO ST
def lowestR : DSp := fun ds L k _ => ∃ t u : Int, ds = [.int t, .int u] ∧ u ≠ 0 ∧ u.natAbs < 2 ^ 1990 ∧ k (ratD ((t : Rat) / (u : Rat))) L
def Sb (r : Rat) : Prop := r.num.natAbs < 2 ^ 4000 ∧ r.den < 2 ^ 4000
theorem sm_sb {r : Rat} (h : Sm r) : Sb r := ⟨Nat.lt_trans h.1 (Nat.pow_lt_pow_right (by decide) (by decide)), Nat.lt_trans h.2 (Nat.pow_lt_pow_right (by decide) (by decide))⟩
def minS : DSp := fun ds L k _ => ∃ a b : Rat, ds = [ratD a, ratD b] ∧ Sm a ∧ Sm b ∧ k (ratD (a - b)) L
def midS : DSp := fun ds L k _ => ∃ a b : Rat, ds = [ratD a, ratD b] ∧ Sm a ∧ Sm b ∧ k (ratD (mid a b)) L
def lessS : DSp := fun ds L k _ => ∃ a b : Rat, ds = [ratD a, ratD b] ∧ Sb a ∧ Sb b ∧ k (.bl (decide (a < b))) L
abbrev rD (C : Addr) (xs : List Int) : D := .obj C ["numbers"] [.lst (xs.map .int)]
def rinitS (C : Addr) : DSp := fun ds L k _ => ∃ (p : Addr) (xs : List Int), ds = [.ptr p, .lst (xs.map .int)] ∧ L.lookup p = some (.obj C [] []) ∧ xs.length < 100000 ∧ k .non (setL L p (rD C (trimI xs)))
def rcoefS (C : Addr) : DSp := fun ds L k _ => ∃ xs : List Int, ds = [rD C xs] ∧ k (.lst (xs.map .int)) L
def rboolS (C : Addr) : DSp := fun ds L k _ => ∃ xs : List Int, ds = [rD C xs] ∧ k (.bl (decide (0 < (xs.length : Int)))) L
def FOk (f : List Int) : Prop := Tr f ∧ f ≠ [] ∧ Sz Lim f ∧ f.length ≤ 60
def farS : DSp := fun ds L k _ => ∃ f : List Int, ds = [lD f] ∧ FOk f ∧ k (.int (farB f : Nat)) L
def isoS : DSp := fun ds L k _ => ∃ (f : List Int) (ix : Int) (lo hi : Rat), ds = [lD f, .int ix] ∧ FOk f ∧ IsoR f (-((farB f : Nat) : Rat)) ix (-((farB f : Nat) : Rat)) ((farB f : Nat) : Rat) lo hi ∧ k (.tup [ratD lo, ratD hi]) L
def halfS : DSp := fun ds L k _ => ∃ (f : List Int) (lo hi l h : Rat), ds = [lD f, ratD lo, ratD hi] ∧ FOk f ∧ HalfR f lo hi l h ∧ k (.tup [ratD l, ratD h]) L
theorem sub_rat (a b : Rat) : ((a.num * (b.den : Int) - b.num * (a.den : Int) : Int) : Rat) / (((a.den : Int) * (b.den : Int) : Int) : Rat) = a - b := by
  have h1 := num_den a
  have h2 := num_den b
  have n1 := cast0 (show (a.den : Int) ≠ 0 by have := a.den_pos; omega)
  have n2 := cast0 (show (b.den : Int) ≠ 0 by have := b.den_pos; omega)
  rw [Rat.intCast_sub, Rat.intCast_mul, Rat.intCast_mul, Rat.intCast_mul]
  generalize ((a.num : Int) : Rat) = p at *
  generalize ((b.num : Int) : Rat) = q at *
  generalize (((a.den : Nat) : Int) : Rat) = u at *
  generalize (((b.den : Nat) : Int) : Rat) = v at *
  rw [← h1, ← h2]
  grind
theorem mid_rat (a b : Rat) : ((a.num * (b.den : Int) + b.num * (a.den : Int) : Int) : Rat) / ((2 * (a.den : Int) * (b.den : Int) : Int) : Rat) = mid a b := by
  have h1 := num_den a
  have h2 := num_den b
  have n1 := cast0 (show (a.den : Int) ≠ 0 by have := a.den_pos; omega)
  have n2 := cast0 (show (b.den : Int) ≠ 0 by have := b.den_pos; omega)
  unfold mid
  rw [Rat.intCast_add, Rat.intCast_mul, Rat.intCast_mul, Rat.intCast_mul, Rat.intCast_mul, show ((2 : Int) : Rat) = 2 from rfl]
  generalize ((a.num : Int) : Rat) = p at *
  generalize ((b.num : Int) : Rat) = q at *
  generalize (((a.den : Nat) : Int) : Rat) = u at *
  generalize (((b.den : Nat) : Int) : Rat) = v at *
  rw [← h1, ← h2]
  grind
theorem smd {r : Rat} (h : Sm r) : ((r.den : Nat) : Int).natAbs < 2 ^ 900 := by rw [Int.natAbs_natCast]; exact h.2
theorem sbd {r : Rat} (h : Sb r) : ((r.den : Nat) : Int).natAbs < 2 ^ 4000 := by rw [Int.natAbs_natCast]; exact h.2
theorem den_nz (r : Rat) : ((r.den : Nat) : Int) ≠ 0 := by have := r.den_pos; omega
theorem p1990 {x : Int} {a : Nat} (h : x.natAbs < 2 ^ a) (ha : a ≤ 1990) : x.natAbs < 2 ^ 1990 := Nat.lt_of_lt_of_le h (Nat.pow_le_pow_right (by decide) ha)
theorem ratD_int (z : Int) : ratD (z : Rat) = .tup [.int z, .int 1] := by
  unfold ratD
  rw [Rat.num_intCast, Rat.den_intCast]; rfl
theorem sub_sb {a b : Rat} (ha : Sm a) (hb : Sm b) : Sb (a - b) := by
  have h := rat_small (t := a.num * (b.den : Int) - b.num * (a.den : Int)) (u := (a.den : Int) * (b.den : Int)) (Int.mul_ne_zero (den_nz a) (den_nz b))
  rw [sub_rat] at h
  refine ⟨Nat.lt_of_le_of_lt h.1 ?_, Nat.lt_of_le_of_lt h.2 ?_⟩
  · have h1 := mul_bits ha.1 (smd hb)
    have h2 := mul_bits hb.1 (smd ha)
    rw [← Int.natAbs_neg] at h2
    have := add_bits h1 h2
    rw [← Int.sub_eq_add_neg] at this
    exact Nat.lt_trans this (Nat.pow_lt_pow_right (by decide) (by decide))
  · exact Nat.lt_trans (mul_bits (smd ha) (smd hb)) (Nat.pow_lt_pow_right (by decide) (by decide))
theorem max_of {f : List Int} {m : Int} (h1 : m ∈ f.map fun v => (v.natAbs : Int)) (h2 : ∀ y, y ∈ (f.map fun v => (v.natAbs : Int)) → y ≤ m) : m = (maxA f : Nat) := by
  obtain ⟨v, hv, rfl⟩ := List.mem_map.mp h1
  have a := (maxA_fold f 0).2 v hv
  have b : ∀ (l : List Int) (M m : Nat), m ≤ M → (∀ w ∈ l, w.natAbs ≤ M) → l.foldl (fun m v => max m v.natAbs) m ≤ M := fun l => by
    induction l with
    | nil => intro M m h _; exact h
    | cons w l ih =>
      intro M m h k
      exact ih M (max m w.natAbs) (by have := k w List.mem_cons_self; omega) fun u hu => k u (List.mem_cons_of_mem _ hu)
  have c := b f v.natAbs 0 (Nat.zero_le _) fun w hw => by
    have := h2 _ (List.mem_map.mpr ⟨w, hw, rfl⟩)
    omega
  have a : v.natAbs ≤ maxA f := a
  have c : maxA f ≤ v.natAbs := c
  show (v.natAbs : Int) = _
  omega
theorem fok_cnt {f : List Int} (h : FOk f) : Tr f ∧ f ≠ [] ∧ f.length < 1000 ∧ Sz (2 * Lim) f := ⟨h.1, h.2.1, by have := h.2.2.2; omega, h.2.2.1.mono (by decide)⟩
theorem far_neg (n : Nat) : ratD (-((n : Nat) : Rat)) = .tup [.int (-(n : Int)), .int 1] := by
  have : -((n : Nat) : Rat) = ((-(n : Int) : Int) : Rat) := by rw [Rat.intCast_neg]; rfl
  rw [this, ratD_int]
theorem far_pos (n : Nat) : ratD ((n : Nat) : Rat) = .tup [.int (n : Int), .int 1] := ratD_int (n : Int)
section
variable {P : Program} {w : World} {K : PySem.W.Frag} {mg : Str → Option Value} {base : Heap} {cR cO : Addr}
local macro_rules | `(tactic| walk_at "w") => `(tactic| conv => whnf)
local macro_rules | `(tactic| walk_at "v") => `(tactic| ((conv => whnf); try dsimp only))
local macro_rules | `(tactic| walk_at "s") => `(tactic| ((conv => whnf); repeat ((first | refine ⟨sz_ok rfl, ?_⟩ | refine ⟨rfl, ?_⟩); conv => whnf)))
theorem scLowest : FnScope ["top", "bottom", "divisor"] ["top", "bottom"] (defScope sLowest) := ⟨rfl, rfl, rfl, by decide +kernel, rfl, by decide +kernel, by decide +kernel⟩
theorem ok_Lowest {f : Addr} {fd : FuncData} (Z : Zn w K mg cR cO) (F : Fun K "lowest" "lowest" sLowest f fd) : FnOk P w K mg base (L2.CX P w) 1 f fd ["top", "bottom"] (spD K lowestR) := by
  refine fn_ok F scLowest ?len (fun cdv A outer s H E hr => ?_)
  rotate_left
  · have tk := takes_of (X := cxOf (L2.CX P w) P w K mg base ["top", "bottom", "divisor"] "lowest" (defScope sLowest) f cdv A outer s H E) (E := E) rfl rfl rfl rfl
    have hp := passes_of (X := cxOf (L2.CX P w) P w K mg base ["top", "bottom", "divisor"] "lowest" (defScope sLowest) f cdv A outer s H E) rfl
    refine ⟨_, (ss_cons (s_set 2 scLowest.nd (q_callF cq_gcd (by rfl) Z.g_gcd (a_cons (qv 0) (a_cons (qv 1) a_nil))))
  (ss_cons (s_if (t_cmp oq_lt (qv 1) q_int) (ss_one (s_set 2 scLowest.nd (q_neg (qv 2)))) ss_nil)
  (ss_one (s_ret (q_tup (a_cons (q_op oq_fdiv (qv 0) (qv 2)) (a_cons (q_op oq_fdiv (qv 1) (qv 2)) a_nil))))))), ?_⟩
    clear tk hp
    rintro ds L k x ⟨t, u, rfl, hu, hz, h⟩
    rw [← low_ratD hu] at h
    have g0 : gcdI t u ≠ 0 := Int.ne_of_gt (gcdI_pos hu)
    have g1 : (gcdI t u).natAbs.log2 < 9000 := by
      have g2 := gcdI_le (a := t) hu
      have g3 := gcdI_nonneg t u
      have g4 : (gcdI t u).natAbs < 2 ^ 1990 := by omega
      by_cases hg : (gcdI t u).natAbs = 0
      · omega
      · exact Nat.lt_trans ((Nat.log2_lt hg).mpr g4) (by decide)
    have h : k (.tup [.int (t.fdiv (if u < 0 then 0 - gcdI t u else gcdI t u)), .int (u.fdiv (if u < 0 then 0 - gcdI t u else gcdI t u))]) L := h
    walk_at "v"
    cases h1 : decide (u < 0) with
    | true =>
      rw [if_pos (of_decide_eq_true h1), Int.zero_sub] at h
      walk_at "w"
      refine ⟨⟨(by show -(gcdI t u) ≠ 0; omega), (by show (-(gcdI t u)).natAbs.log2 < 9000; rw [Int.natAbs_neg]; exact g1)⟩, ?_⟩
      walk_at "w"
      refine ⟨⟨(by show -(gcdI t u) ≠ 0; omega), (by show (-(gcdI t u)).natAbs.log2 < 9000; rw [Int.natAbs_neg]; exact g1)⟩, ?_⟩
      exact ⟨sz_ok rfl, h⟩
    | false =>
      rw [if_neg (of_decide_eq_false h1)] at h
      walk_at "w"
      refine ⟨⟨g0, g1⟩, ?_⟩
      walk_at "w"
      refine ⟨⟨g0, g1⟩, ?_⟩
      exact ⟨sz_ok rfl, h⟩
  · rintro ds L k x ⟨t, u, rfl, _⟩; rfl
theorem scMinus : FnScope ["one", "other"] ["one", "other"] (defScope sMinus) := ⟨rfl, rfl, rfl, by decide +kernel, rfl, by decide +kernel, by decide +kernel⟩
theorem ok_Minus {f : Addr} {fd : FuncData} (Z : Zn w K mg cR cO) (F : Fun K "minus" "minus" sMinus f fd) (CLowest : Cal P w K mg base 1 "lowest" ["top", "bottom"] [] lowestR) : FnOk P w K mg base (L2.CX P w) 2 f fd ["one", "other"] (spD K minS) := by
  refine fn_ok F scMinus ?len (fun cdv A outer s H E hr => ?_)
  rotate_left
  · have tk := takes_of (X := cxOf (L2.CX P w) P w K mg base ["one", "other"] "minus" (defScope sMinus) f cdv A outer s H E) (E := E) rfl rfl rfl rfl
    have hp := passes_of (X := cxOf (L2.CX P w) P w K mg base ["one", "other"] "minus" (defScope sMinus) f cdv A outer s H E) rfl
    refine ⟨_, (ss_one (s_ret (q_cal CLowest (by first | decide | exact Nat.le_refl _ | omega) hr tk (by rfl) (a_cons (q_op oq_sub (q_op oq_mulU (q_ix (qv 0) q_int) (q_ix (qv 1) q_int)) (q_op oq_mulU (q_ix (qv 1) q_int) (q_ix (qv 0) q_int))) (a_cons (q_op oq_mulU (q_ix (qv 0) q_int) (q_ix (qv 1) q_int)) a_nil))))), ?_⟩
    clear tk hp
    rintro ds L k x ⟨a, b, rfl, ha, hb, h⟩
    walk_at "w"
    refine ⟨.inr (cmul_of ha.1 (smd hb) (by decide)), ?_⟩
    walk_at "w"
    refine ⟨.inr (cmul_of hb.1 (smd ha) (by decide)), ?_⟩
    walk_at "w"
    refine ⟨.inr (cmul_of (smd ha) (smd hb) (by decide)), ?_⟩
    walk_at "w"
    refine ⟨_, _, rfl, Int.mul_ne_zero (den_nz a) (den_nz b), p1990 (mul_bits (smd ha) (smd hb)) (by decide), ?_⟩
    rw [sub_rat]
    exact h
  · rintro ds L k x ⟨a, b, rfl, _⟩; rfl
theorem scMiddle : FnScope ["one", "other"] ["one", "other"] (defScope sMiddle) := ⟨rfl, rfl, rfl, by decide +kernel, rfl, by decide +kernel, by decide +kernel⟩
theorem ok_Middle {f : Addr} {fd : FuncData} (Z : Zn w K mg cR cO) (F : Fun K "middle" "middle" sMiddle f fd) (CLowest : Cal P w K mg base 1 "lowest" ["top", "bottom"] [] lowestR) : FnOk P w K mg base (L2.CX P w) 2 f fd ["one", "other"] (spD K midS) := by
  refine fn_ok F scMiddle ?len (fun cdv A outer s H E hr => ?_)
  rotate_left
  · have tk := takes_of (X := cxOf (L2.CX P w) P w K mg base ["one", "other"] "middle" (defScope sMiddle) f cdv A outer s H E) (E := E) rfl rfl rfl rfl
    have hp := passes_of (X := cxOf (L2.CX P w) P w K mg base ["one", "other"] "middle" (defScope sMiddle) f cdv A outer s H E) rfl
    refine ⟨_, (ss_one (s_ret (q_cal CLowest (by first | decide | exact Nat.le_refl _ | omega) hr tk (by rfl) (a_cons (q_op oq_add (q_op oq_mulU (q_ix (qv 0) q_int) (q_ix (qv 1) q_int)) (q_op oq_mulU (q_ix (qv 1) q_int) (q_ix (qv 0) q_int))) (a_cons (q_op oq_mulU (q_op oq_mulU q_int (q_ix (qv 0) q_int)) (q_ix (qv 1) q_int)) a_nil))))), ?_⟩
    clear tk hp
    rintro ds L k x ⟨a, b, rfl, ha, hb, h⟩
    walk_at "w"
    refine ⟨.inr (cmul_of ha.1 (smd hb) (by decide)), ?_⟩
    walk_at "w"
    refine ⟨.inr (cmul_of hb.1 (smd ha) (by decide)), ?_⟩
    walk_at "w"
    refine ⟨.inr (cmul_of (a := 2) (by decide) (smd ha) (by decide)), ?_⟩
    walk_at "w"
    have h2 : (2 * ((a.den : Nat) : Int)).natAbs < 2 ^ (2 + 900) := mul_bits (by decide) (smd ha)
    refine ⟨.inr (cmul_of h2 (smd hb) (by decide)), ?_⟩
    walk_at "w"
    refine ⟨_, _, rfl, Int.mul_ne_zero (Int.mul_ne_zero (by decide) (den_nz a)) (den_nz b), p1990 (mul_bits h2 (smd hb)) (by decide), ?_⟩
    rw [mid_rat]
    exact h
  · rintro ds L k x ⟨a, b, rfl, _⟩; rfl
theorem scIsLess : FnScope ["one", "other"] ["one", "other"] (defScope sIsLess) := ⟨rfl, rfl, rfl, by decide +kernel, rfl, by decide +kernel, by decide +kernel⟩
theorem ok_IsLess {f : Addr} {fd : FuncData} (Z : Zn w K mg cR cO) (F : Fun K "is_less" "is_less" sIsLess f fd) : FnOk P w K mg base (L2.CX P w) 1 f fd ["one", "other"] (spD K lessS) := by
  refine fn_ok F scIsLess ?len (fun cdv A outer s H E hr => ?_)
  rotate_left
  · have tk := takes_of (X := cxOf (L2.CX P w) P w K mg base ["one", "other"] "is_less" (defScope sIsLess) f cdv A outer s H E) (E := E) rfl rfl rfl rfl
    have hp := passes_of (X := cxOf (L2.CX P w) P w K mg base ["one", "other"] "is_less" (defScope sIsLess) f cdv A outer s H E) rfl
    refine ⟨_, (ss_one (s_ret (q_cmp oq_lt (q_op oq_mulU (q_ix (qv 0) q_int) (q_ix (qv 1) q_int)) (q_op oq_mulU (q_ix (qv 1) q_int) (q_ix (qv 0) q_int))))), ?_⟩
    clear tk hp
    rintro ds L k x ⟨a, b, rfl, ha, hb, h⟩
    walk_at "w"
    refine ⟨.inr (cmul_of ha.1 (sbd hb) (by decide)), ?_⟩
    walk_at "w"
    refine ⟨.inr (cmul_of hb.1 (sbd ha) (by decide)), ?_⟩
    walk_at "w"
    show k (.bl (decide (a.num * ((b.den : Nat) : Int) < b.num * ((a.den : Nat) : Int)))) L
    rw [show decide (a.num * ((b.den : Nat) : Int) < b.num * ((a.den : Nat) : Int)) = decide (a < b) from by rw [decide_eq_decide]; exact (Rat.lt_iff a b).symm]
    exact h
  · rintro ds L k x ⟨a, b, rfl, _⟩; rfl
theorem scRowInit : FnScope ["self", "coefs", "at", "value"] ["self", "coefs"] (defScope sRowInit) := ⟨rfl, rfl, rfl, by decide +kernel, rfl, by decide +kernel, by decide +kernel⟩
theorem ok_RowInit {f : Addr} {fd : FuncData} (Z : Zn w K mg cR cO) (F : Fun K "__init__" "Row.__init__" sRowInit f fd) (CIsInteger : Cal P w K mg base 1 "is_integer" ["value"] [] isIntS) (CTrimmed : Cal P w K mg base 1 "trimmed" ["items"] [] trimS) : FnOk P w K mg base (L2.CX P w) 2 f fd ["self", "coefs"] (spD K (rinitS cR)) := by
  refine fn_ok F scRowInit ?len (fun cdv A outer s H E hr => ?_)
  rotate_left
  · have tk := takes_of (X := cxOf (L2.CX P w) P w K mg base ["self", "coefs", "at", "value"] "Row.__init__" (defScope sRowInit) f cdv A outer s H E) (E := E) rfl rfl rfl rfl
    have hp := passes_of (X := cxOf (L2.CX P w) P w K mg base ["self", "coefs", "at", "value"] "Row.__init__" (defScope sRowInit) f cdv A outer s H E) rfl
    refine ⟨_, (ss_cons (s_if (t_not (t_val (q_isi2 .lst .tup (qv 1) (by rfl) Z.z_isinstance (by rfl) Z.z_list bb_list (by rfl) Z.z_tuple bb_tuple))) (ss_one s_never) ss_nil)
  (ss_cons (s_for hp rfl (i_or (i_enum (by rfl) Z.z_enumerate (a_cons (qv 1) a_nil)) (i_enumT (by rfl) Z.z_enumerate (a_cons (qv 1) a_nil))) (g_tup (n := 2) rfl (gs_cons (g_name 2 scRowInit.nd) (gs_cons (g_name 3 scRowInit.nd) gs_nil))) (ss_one (s_if (t_not (t_val (q_cal CIsInteger (by first | decide | exact Nat.le_refl _ | omega) hr tk (by rfl) (a_cons (qv 3) a_nil)))) (ss_one s_never) ss_nil)))
  (ss_one (s_fld (K := K) rfl (q_cal CTrimmed (by first | decide | exact Nat.le_refl _ | omega) hr tk (by rfl) (a_cons (qv 1) a_nil)) (qv 0))))), ?_⟩
    clear tk hp
    rintro ds L k x ⟨p, xs, rfl, hp, hl, h⟩
    walk_at "w"
    left
    walk_at "w"
    refine forD_rec (fun r env L' => ∃ (us : List Int) (a : Nat) (o2 o3 : Option D), r = enumD a (us.map .int) ∧ env = [some (.ptr p), some (.lst (xs.map .int)), o2, o3] ∧ L' = L) ?step ?fin _ _ _ ⟨xs, 0, none, none, rfl, rfl, rfl⟩
    case fin =>
      rintro env L' ⟨us, a, o2, o3, hr, rfl, rfl⟩
      walk_at "w"
      refine ⟨_, xs, rfl, .inl rfl, hl, ?_⟩
      walk_at "w"
      rw [hp]
      walk_at "w"
      exact ⟨⟨Z.c_R, Z.n_R _ (by decide), by decide⟩, h⟩
    case step =>
      rintro E' d r env L' _ _ _ _ ⟨us, a, o2, o3, hr, rfl, rfl⟩ hnx
      cases us with
      | nil => cases hr
      | cons u us =>
        cases hr
        walk_at "w"
        refine ⟨rfl, ?_⟩
        walk_at "w"
        refine ⟨.int u, rfl, rfl, ?_⟩
        exact hnx _ _ ⟨us, a + 1, _, _, rfl, rfl, rfl⟩
  · rintro ds L k x ⟨p, xs, rfl, _⟩; rfl
theorem scRowCoefs : FnScope ["self"] ["self"] (defScope sRowCoefs) := ⟨rfl, rfl, rfl, by decide +kernel, rfl, by decide +kernel, by decide +kernel⟩
theorem ok_RowCoefs {f : Addr} {fd : FuncData} (Z : Zn w K mg cR cO) (F : Fun K "coefs" "Row.coefs" sRowCoefs f fd) : FnOk P w K mg base (L2.CX P w) 1 f fd ["self"] (spD K (rcoefS cR)) := by
  refine fn_ok F scRowCoefs ?len (fun cdv A outer s H E hr => ?_)
  rotate_left
  · have tk := takes_of (X := cxOf (L2.CX P w) P w K mg base ["self"] "Row.coefs" (defScope sRowCoefs) f cdv A outer s H E) (E := E) rfl rfl rfl rfl
    have hp := passes_of (X := cxOf (L2.CX P w) P w K mg base ["self"] "Row.coefs" (defScope sRowCoefs) f cdv A outer s H E) rfl
    refine ⟨_, (ss_one (s_ret (q_callTy cq_list (by rfl) Z.z_list bb_list (a_cons (q_fld (K := K) rfl (qv 0)) a_nil)))), ?_⟩
    clear tk hp
    rintro ds L k x ⟨xs, rfl, h⟩
    walk_at "w"
    refine ⟨⟨Z.c_R, Z.n_R _ (by decide)⟩, ?_⟩
    exact h
  · rintro ds L k x ⟨xs, rfl, _⟩; rfl
theorem scRowBool : FnScope ["self"] ["self"] (defScope sRowBool) := ⟨rfl, rfl, rfl, by decide +kernel, rfl, by decide +kernel, by decide +kernel⟩
theorem ok_RowBool {f : Addr} {fd : FuncData} (Z : Zn w K mg cR cO) (F : Fun K "__bool__" "Row.__bool__" sRowBool f fd) : FnOk P w K mg base (L2.CX P w) 1 f fd ["self"] (spD K (rboolS cR)) := by
  refine fn_ok F scRowBool ?len (fun cdv A outer s H E hr => ?_)
  rotate_left
  · have tk := takes_of (X := cxOf (L2.CX P w) P w K mg base ["self"] "Row.__bool__" (defScope sRowBool) f cdv A outer s H E) (E := E) rfl rfl rfl rfl
    have hp := passes_of (X := cxOf (L2.CX P w) P w K mg base ["self"] "Row.__bool__" (defScope sRowBool) f cdv A outer s H E) rfl
    refine ⟨_, (ss_one (s_ret (q_cmp oq_gt (q_callB cq_len (by rfl) Z.z_len bb_len (a_cons (q_fld (K := K) rfl (qv 0)) a_nil)) q_int))), ?_⟩
    clear tk hp
    rintro ds L k x ⟨xs, rfl, h⟩
    walk_at "w"
    refine ⟨⟨Z.c_R, Z.n_R _ (by decide)⟩, ?_⟩
    walk_at "w"
    rw [List.length_map]
    exact h
  · rintro ds L k x ⟨xs, rfl, _⟩; rfl
theorem scFarBound : FnScope ["items", "value"] ["items"] (defScope sFarBound) := ⟨rfl, rfl, rfl, by decide +kernel, rfl, by decide +kernel, by decide +kernel⟩
theorem ok_FarBound {f : Addr} {fd : FuncData} (Z : Zn w K mg cR cO) (F : Fun K "far_bound" "far_bound" sFarBound f fd) : FnOk P w K mg base (L2.CX P w) 1 f fd ["items"] (spD K farS) := by
  refine fn_ok F scFarBound ?len (fun cdv A outer s H E hr => ?_)
  rotate_left
  · have tk := takes_of (X := cxOf (L2.CX P w) P w K mg base ["items", "value"] "far_bound" (defScope sFarBound) f cdv A outer s H E) (E := E) rfl rfl rfl rfl
    have hp := passes_of (X := cxOf (L2.CX P w) P w K mg base ["items", "value"] "far_bound" (defScope sFarBound) f cdv A outer s H E) rfl
    refine ⟨_, (ss_one (s_ret (q_op oq_add q_int (q_op oq_fdiv (q_callB (cq_maxL rfl) (by rfl) Z.z_max bb_max (a_cons (q_lc rfl scFarBound.nd (i_list (qv 0)) (blkOk_by (own := [("value", 1)]) (N := ["items", "value"]) (sc := (defScope sFarBound)) (by decide +kernel)) (fun _ _ _ _ _ => (g_name 1 scFarBound.nd)) (fun _ _ _ _ _ => ts_nil) (fun _ _ _ _ _ => (q_callB cq_abs (by rfl) Z.z_abs bb_abs (a_cons (qv 1) a_nil)))) a_nil)) (q_callB cq_abs (by rfl) Z.z_abs bb_abs (a_cons (q_ix (qv 0) (q_neg q_int)) a_nil)))))), ?_⟩
    clear tk hp
    rintro ds L k x ⟨f, rfl, ⟨ht, hn, hs, hl⟩, h⟩
    walk_at "w"
    intro q hq
    refine lcD_each D.int (fun v => .int (v.natAbs : Int)) hq f (by omega) (fun v hv acc F KK hK => ?_) ?_
    · walk_at "w"
      rw [show (if v < 0 then -v else v) = (v.natAbs : Int) from by split <;> omega]
      exact hK
    · walk_at "w"
      rw [show f.map (fun v => D.int (v.natAbs : Int)) = (f.map fun v => (v.natAbs : Int)).map D.int from by rw [List.map_map]; rfl, intsOf_map]
      walk_at "w"
      refine ⟨by rw [List.length_map]; exact List.length_pos_iff.mpr hn, fun m h1 h2 => ?_⟩
      obtain rfl := max_of h1 h2
      obtain ⟨_, _, zf⟩ := tr_form ht hn
      walk_at "w"
      rw [at_last hn]
      walk_at "w"
      rw [show (if lst f < 0 then -lst f else lst f) = ((lst f).natAbs : Int) from by split <;> omega]
      refine ⟨⟨(by show ((lst f).natAbs : Int) ≠ 0; omega), lim_log (x := ((lst f).natAbs : Int)) (B := 3900) (by rw [Int.natAbs_natCast]; exact hs.lst) (by decide)⟩, ?_⟩
      walk_at "w"
      rw [show 2 + ((maxA f : Nat) : Int).fdiv ((lst f).natAbs : Int) = ((farB f : Nat) : Int) from by
        rw [Int.fdiv_eq_ediv_of_nonneg _ (by omega), ← Int.natCast_ediv]
        rfl]
      exact h
  · rintro ds L k x ⟨f, rfl, _⟩; rfl
theorem scHalved : FnScope ["items", "low", "high", "between"] ["items", "low", "high"] (defScope sHalved) := ⟨rfl, rfl, rfl, by decide +kernel, rfl, by decide +kernel, by decide +kernel⟩
theorem ok_Halved {f : Addr} {fd : FuncData} (Z : Zn w K mg cR cO) (F : Fun K "halved" "halved" sHalved f fd) (CMiddle : Cal P w K mg base 2 "middle" ["one", "other"] [] midS) (CCountBetween : Cal P w K mg base 6 "count_between" ["items", "low", "high"] [] cntS) : FnOk P w K mg base (L2.CX P w) 7 f fd ["items", "low", "high"] (spD K halfS) := by
  refine fn_ok F scHalved ?len (fun cdv A outer s H E hr => ?_)
  rotate_left
  · have tk := takes_of (X := cxOf (L2.CX P w) P w K mg base ["items", "low", "high", "between"] "halved" (defScope sHalved) f cdv A outer s H E) (E := E) rfl rfl rfl rfl
    have hp := passes_of (X := cxOf (L2.CX P w) P w K mg base ["items", "low", "high", "between"] "halved" (defScope sHalved) f cdv A outer s H E) rfl
    refine ⟨_, (ss_cons (s_set 3 scHalved.nd (q_cal CMiddle (by first | decide | exact Nat.le_refl _ | omega) hr tk (by rfl) (a_cons (qv 1) (a_cons (qv 2) a_nil))))
  (ss_cons (s_if (t_cmp (oq_eqU hr.units) (q_cal CCountBetween (by first | decide | exact Nat.le_refl _ | omega) hr tk (by rfl) (a_cons (qv 0) (a_cons (qv 1) (a_cons (qv 3) a_nil)))) q_int) (ss_one (s_ret (q_tup (a_cons (qv 1) (a_cons (qv 3) a_nil))))) ss_nil)
  (ss_one (s_ret (q_tup (a_cons (qv 3) (a_cons (qv 2) a_nil))))))), ?_⟩
    clear tk hp
    rintro ds L k x ⟨f, lo, hi, l, h', rfl, hf, hr, h⟩
    obtain ⟨f1, f2, f3, f4⟩ := fok_cnt hf
    walk_at "w"
    cases hr with
    | left s1 s2 hc =>
      refine ⟨lo, hi, rfl, s1, s2, ?_⟩
      walk_at "w"
      refine ⟨f, ob lo, ob (mid lo hi), 1, rfl, f1, f2, f3, f4, hc, ?_⟩
      walk_at "w"
      exact ⟨sz_ok rfl, h⟩
    | right s1 s2 hc hn =>
      rename_i n
      refine ⟨lo, hi, rfl, s1, s2, ?_⟩
      walk_at "w"
      refine ⟨f, ob lo, ob (mid lo hi), n, rfl, f1, f2, f3, f4, hc, ?_⟩
      walk_at "w"
      rw [show flEq (D.int n) (D.int 1) = false from decide_eq_false hn]
      walk_at "w"
      exact ⟨sz_ok rfl, h⟩
  · rintro ds L k x ⟨f, lo, hi, l, h', rfl, _⟩; rfl
theorem scIsolated : FnScope ["items", "index", "bound", "low", "high", "start", "between"] ["items", "index"] (defScope sIsolated) := ⟨rfl, rfl, rfl, by decide +kernel, rfl, by decide +kernel, by decide +kernel⟩
theorem ok_Isolated {f : Addr} {fd : FuncData} (Z : Zn w K mg cR cO) (F : Fun K "isolated" "isolated" sIsolated f fd) (CFarBound : Cal P w K mg base 1 "far_bound" ["items"] [] farS) (CMiddle : Cal P w K mg base 2 "middle" ["one", "other"] [] midS) (CCountBetween : Cal P w K mg base 6 "count_between" ["items", "low", "high"] [] cntS) : FnOk P w K mg base (L2.CX P w) 7 f fd ["items", "index"] (spD K isoS) := by
  refine fn_ok F scIsolated ?len (fun cdv A outer s H E hr => ?_)
  rotate_left
  · have tk := takes_of (X := cxOf (L2.CX P w) P w K mg base ["items", "index", "bound", "low", "high", "start", "between"] "isolated" (defScope sIsolated) f cdv A outer s H E) (E := E) rfl rfl rfl rfl
    have hp := passes_of (X := cxOf (L2.CX P w) P w K mg base ["items", "index", "bound", "low", "high", "start", "between"] "isolated" (defScope sIsolated) f cdv A outer s H E) rfl
    refine ⟨_, (ss_cons (s_set 2 scIsolated.nd (q_cal CFarBound (by first | decide | exact Nat.le_refl _ | omega) hr tk (by rfl) (a_cons (qv 0) a_nil)))
  (ss_cons (s_par 3 4 rfl scIsolated.nd (a_cons (q_tup (a_cons (q_neg (qv 2)) (a_cons q_int a_nil))) (a_cons (q_tup (a_cons (qv 2) (a_cons q_int a_nil))) a_nil)))
  (ss_cons (s_set 5 scIsolated.nd (qv 3))
  (ss_cons (s_while hp (t_cmp oq_gt (q_cal CCountBetween (by first | decide | exact Nat.le_refl _ | omega) hr tk (by rfl) (a_cons (qv 0) (a_cons (qv 3) (a_cons (qv 4) a_nil)))) q_int) (ss_cons (s_set 6 scIsolated.nd (q_cal CMiddle (by first | decide | exact Nat.le_refl _ | omega) hr tk (by rfl) (a_cons (qv 3) (a_cons (qv 4) a_nil))))
  (ss_one (s_if (t_cmp oq_gt (q_cal CCountBetween (by first | decide | exact Nat.le_refl _ | omega) hr tk (by rfl) (a_cons (qv 0) (a_cons (qv 5) (a_cons (qv 6) a_nil)))) (qv 1)) (ss_one (s_set 4 scIsolated.nd (qv 6))) (ss_one (s_set 3 scIsolated.nd (qv 6)))))))
  (ss_one (s_ret (q_tup (a_cons (qv 3) (a_cons (qv 4) a_nil))))))))), ?_⟩
    clear tk hp
    rintro ds L k x ⟨f, ix, lo, hi, rfl, hf, hr, h⟩
    obtain ⟨f1, f2, f3, f4⟩ := fok_cnt hf
    walk_at "w"
    refine ⟨f, rfl, hf, ?_⟩
    walk_at "w"
    refine ⟨sz_ok rfl, ?_⟩
    walk_at "w"
    refine ⟨sz_ok rfl, ?_⟩
    walk_at "w"
    rw [← far_neg, ← far_pos]
    generalize -((farB f : Nat) : Rat) = S at hr ⊢
    generalize ((farB f : Nat) : Rat) = T at hr ⊢
    refine (?key : ∀ (a b : Rat) (o6 : Option D), IsoR f S ix a b lo hi → ∃ n, whD _ _ _ n [some (lD f), some (.int ix), some (.int (farB f : Nat)), some (ratD a), some (ratD b), some (ratD S), o6] L) _ _ none hr
    clear hr
    intro a b o6 hh
    induction hh generalizing o6 with
    | done s1 s2 hc hle =>
      rename_i a b n
      refine ⟨1, ?_⟩
      rw [whD_succ]
      walk_at "w"
      refine ⟨f, ob a, ob b, n, rfl, f1, f2, f3, f4, hc, ?_⟩
      walk_at "w"
      rw [show decide (1 < n) = false from decide_eq_false (by omega)]
      walk_at "w"
      exact ⟨sz_ok rfl, h⟩
    | up s1 s2 hc hlt hc2 hix _ ih =>
      rename_i a b n m _ _ _
      obtain ⟨N, hN⟩ := ih h _
      refine ⟨N + 1, ?_⟩
      rw [whD_succ]
      walk_at "w"
      refine ⟨f, ob a, ob b, n, rfl, f1, f2, f3, f4, hc, ?_⟩
      walk_at "w"
      rw [show decide (1 < n) = true from decide_eq_true hlt]
      walk_at "w"
      refine ⟨a, b, rfl, s1, s2, ?_⟩
      walk_at "w"
      refine ⟨f, ob S, ob (mid a b), m, rfl, f1, f2, f3, f4, hc2, ?_⟩
      walk_at "w"
      rw [show decide (ix < m) = true from decide_eq_true hix]
      walk_at "w"
      exact hN
    | dn s1 s2 hc hlt hc2 hix _ ih =>
      rename_i a b n m _ _ _
      obtain ⟨N, hN⟩ := ih h _
      refine ⟨N + 1, ?_⟩
      rw [whD_succ]
      walk_at "w"
      refine ⟨f, ob a, ob b, n, rfl, f1, f2, f3, f4, hc, ?_⟩
      walk_at "w"
      rw [show decide (1 < n) = true from decide_eq_true hlt]
      walk_at "w"
      refine ⟨a, b, rfl, s1, s2, ?_⟩
      walk_at "w"
      refine ⟨f, ob S, ob (mid a b), m, rfl, f1, f2, f3, f4, hc2, ?_⟩
      walk_at "w"
      rw [show decide (ix < m) = false from decide_eq_false hix]
      walk_at "w"
      exact hN
  · rintro ds L k x ⟨f, ix, lo, hi, rfl, _⟩; rfl
end
end T15
namespace DL
open PySem PySem.Spec PyProof.Rows L2
section
variable {X : Cx} {Wx : WX} {e : Expr} {de : DE} {pos : Pos}
theorem run_in0 {CX : CXT} {k : Nat} {f : Addr} {fd : FuncData} {ps : List Str} {sp : Sp} {E : XK} {E' : Value → Shared → Prop} {pins : List (Addr × Obj)} {σ : L2.St} {H : Hp} {s : Shared} {Q : VK} {us : List Value} {vs : List V}
    (F : FnOk X.prog X.w X.K X.mg X.base CX k f fd ps sp) (hr : Room k X.A) (hb : Binds X.K fd ps []) (hx : Passes CX X.nox E) (I : Inv X pins σ H s) (r : Vals vs us) (h : sp vs H Q E) :
    wpAny (model X.prog X.w) X.A (call (.ref f) us) (EP X pins σ Q) E' s := by
  have len : us.length = ps.length := by rw [← r.length]; exact F.len _ _ _ _ h
  have b := hb s us I.kIn (by rw [List.append_nil]; exact len)
  rw [List.append_nil] at b
  refine wpAny_call (codeAny_mono (F.run X.A X.stack s H ⟨us, []⟩ us vs Q E hr I.env0 b r h) fun w s2 hq => ?_)
  match w, hq with
  | .error er, hq => exact False.elim (hx pins σ H s er s2 (I.wish _) hq)
  | .ok (.ret u), hq => exact I.after hq
def rTruO (K : PySem.W.Frag) (C : Addr) (g : DSp) : V → Hp → (Bool → Hp → Prop) → Prop := fun x H Q => ∃ a dx fs, x = .ref a ∧ H a = some (.ins C dx fs) ∧ spD K g [.ref a] H (fun v H' => ∃ b : Bool, v = .bl b ∧ Q b H') (fun _ _ _ => False)
theorem tru_own {k : Nat} {f : Addr} {fd : FuncData} {C : Addr} {g : DSp} (G : FnOk X.prog X.w X.K X.mg X.base (L2.CX X.prog X.w) k f fd ["self"] (spD X.K g)) (hM : Meth X.K C "__bool__" f) (hr : Room k X.A) (hb : Binds X.K fd ["self"] []) : TruR X (rTruO X.K C g) := by
  intro pins s σ H x v Q I rv h
  obtain ⟨a, dx, fs, rfl, hq, h⟩ := h
  cases rv
  obtain ⟨m, fr⟩ := I.fr
  obtain ⟨mA, O, _⟩ := ins_get I.hok hq
  obtain ⟨od, J, _⟩ := O.look
  refine PySem.W.truthy_K fr I.ok.mod.kin J hM.at_ hM.fn (wpAny_mono (run_in0 (us := [.ref a]) (vs := [.ref a]) G hr hb nox_cx I (.cons rfl .nil) h) (fun u s2 z => ?_) fun _ _ z => z)
  obtain ⟨v, H2, I2, rv2, b, ev, q⟩ := z
  subst ev
  obtain rfl : u = Value.bool b := rv2
  exact ⟨H2, I2, q⟩
def dTruO (C : Addr) (g : DSp) (da : DE) : DT := fun env L k x => da env L (fun a L1 => match con L1 a with
  | .obj C' ns vs => C' = C ∧ g [a] L1 (fun d L2 => ∃ b : Bool, d = .bl b ∧ k b L2) (fun _ _ => False)
  | _ => False) x
theorem t_truO {n k : Nat} {C : Addr} {g : DSp} (F : MCal X.prog X.w X.K X.mg X.base n C "__bool__" ["self"] [] g) (hn : n ≤ k) (hr : Room k X.A) (he : QE X Wx e de)
    (hs : ∀ whole, isTrue e X.env whole = (do let v ← whole; standAt e.pos; holding [v] (truthy v)) := by intro _; rfl) : QT X Wx e (dTruO C g de) := by
  obtain ⟨f, fd, us, dvs, F, hC, hM, hb, hd, hdd⟩ := F.ex
  obtain rfl : dvs = [] := by cases hdd [] (fun _ => none); rfl
  cases hd
  obtain ⟨te, pe, se⟩ := he.ex
  refine ⟨_, pt_truthR pe (tru_own F hM (hr.mono hn) hb) hs, fun σ H env L k x Q st h hk hx => ?_⟩
  refine se σ H env L _ x _ st h (fun a L1 va H1 h1 g1 j1 r1 => ?_) hx
  split at h1
  · rename_i C' ns ds hc
    obtain ⟨rfl, h1⟩ := h1
    obtain ⟨q, dx, vs, rfl, hq, hl, rv⟩ := con_obj j1 r1 hc
    refine ⟨q, dx, _, rfl, hq, [a], L1, _, _, j1, .cons r1 .nil, h1, fun d L2 v H2 h2 g2 j2 r2 => ?_, fun n L' a H' z _ _ _ => z⟩
    obtain ⟨b, rfl, h2⟩ := h2
    cases r2
    exact ⟨b, rfl, hk b L2 H2 h2 (g1.trans g2) j2⟩
  · exact h1.elim
end
end DL
namespace T15
open PySem L2 DL PO RO ST TL NumText
abbrev oD (C : Addr) (f : List Int) (lo hi : Rat) : D := .obj C ["numbers", "spot"] [lD f, .tup [ratD lo, ratD hi]]
def rootS (cR cO : Addr) : DSp := fun ds L k _ => ∃ (p : Addr) (row : List Int) (ix : Int) (f : List Int) (lo hi : Rat), ds = [.ptr p, rD cR row, .int ix] ∧ L.lookup p = some (.obj cO [] []) ∧ FOk row ∧ RootR row ix f lo hi ∧ k .non (setL L p (oD cO f lo hi))
def withS (C : Addr) : DSp := fun ds L k _ => ∃ (f : List Int) (lo hi w l h : Rat), ds = [oD C f lo hi, ratD w] ∧ FOk f ∧ Sb w ∧ WithR f w lo hi l h ∧ k (.tup [ratD l, ratD h]) L
def cmpVS (C : Addr) : DSp := fun ds L k _ => ∃ (f : List Int) (lo hi v : Rat) (r : Int), ds = [oD C f lo hi, ratD v] ∧ FOk f ∧ CmpVR f lo hi v r ∧ k (.int r) L
def cmpRS (C : Addr) : DSp := fun ds L k _ => ∃ (f g : List Int) (lo hi a b : Rat) (r : Int), ds = [oD C f lo hi, oD C g a b] ∧ FOk f ∧ FOk g ∧ CmpRR f g lo hi a b r ∧ k (.int r) L
def cmpS (C : Addr) : DSp := fun ds L k x => cmpVS C ds L k x ∨ cmpRS C ds L k x
def sgnOfS (cR C : Addr) : DSp := fun ds L k _ => ∃ (f items : List Int) (lo hi : Rat) (r : Int), ds = [oD C f lo hi, rD cR items] ∧ FOk f ∧ (items = [] ∧ r = 0 ∨ FOk items ∧ SgnR f lo hi items r) ∧ k (.int r) L
def optR : Option Rat → D
  | none => .non
  | some q => ratD q
def ratioS (C : Addr) : DSp := fun ds L k _ => ∃ (f : List Int) (lo hi : Rat) (o : Option Rat), ds = [oD C f lo hi] ∧ FOk f ∧ RatioR f lo hi o ∧ k (optR o) L
def floorS (C : Addr) : DSp := fun ds L k _ => ∃ (f : List Int) (lo hi : Rat) (n : Int), ds = [oD C f lo hi] ∧ FOk f ∧ FloorR f lo hi n ∧ k (.int n) L
def txt (t u : Int) : Str := ⟨(textL t u).toArray⟩
def txtS : DSp := fun ds L k _ => ∃ t u : Int, ds = [.tup [.int t, .int u]] ∧ t.natAbs < 10 ^ 30 ∧ u.natAbs < 10 ^ 30 ∧ k (.str (txt t u)) L
def wrT : Option Rat → Int → Str
  | some q, _ => txt q.num q.den
  | none, n => Str.empty ++ "about " ++ Str.ofString (toString n)
def wrS (C : Addr) : DSp := fun ds L k _ => ∃ (f : List Int) (lo hi : Rat) (o : Option Rat) (n : Int), ds = [oD C f lo hi] ∧ FOk f ∧ RatioR f lo hi o ∧ (∀ q, o = some q → q.num.natAbs < 10 ^ 30 ∧ q.den < 10 ^ 30) ∧ (o = none → FloorR f lo hi n ∧ n.natAbs < 10 ^ 30) ∧ k (.str (wrT o n)) L
theorem half_rat {n : Nat} (h : 0 < n) : ratD (1 / ((2 * n : Nat) : Rat)) = .tup [.int 1, .int (2 * (n : Int))] := by
  have u0 : ((2 * n : Nat) : Int) ≠ 0 := by omega
  have := low_ratD (t := 1) u0
  have e : (((1 : Int) : Rat)) / (((2 * n : Nat) : Int) : Rat) = 1 / ((2 * n : Nat) : Rat) := rfl
  rw [e] at this
  rw [← this]
  have g : gcdI 1 ((2 * n : Nat) : Int) = 1 := by
    unfold gcdI
    rw [show (1 : Int).natAbs = 1 from rfl, Nat.gcd_one_left]; rfl
  unfold lowI
  rw [g]
  rw [if_neg (by omega)]
  rw [show ((2 * n : Nat) : Int) = 2 * (n : Int) from by omega]
  simp
theorem sm_bd5 {r : Rat} (h : Sm r) : r.num.natAbs < 2 ^ 5000 ∧ ((r.den : Nat) : Int).natAbs < 2 ^ 5000 := ⟨Nat.lt_trans h.1 (Nat.pow_lt_pow_right (by decide) (by decide)), Nat.lt_trans (smd h) (Nat.pow_lt_pow_right (by decide) (by decide))⟩
theorem half_sb {n : Nat} (h0 : 0 < n) (h : n < 2 ^ 1900) : Sb (1 / ((2 * n : Nat) : Rat)) := by
  have := rat_small (t := 1) (u := ((2 * n : Nat) : Int)) (by omega)
  have e : (((1 : Int) : Rat)) / (((2 * n : Nat) : Int) : Rat) = 1 / ((2 * n : Nat) : Rat) := rfl
  rw [e] at this
  refine ⟨Nat.lt_of_le_of_lt this.1 (by show 1 < 2 ^ 4000; exact Nat.lt_of_lt_of_le (by decide : 1 < 2 ^ 1) (Nat.pow_le_pow_right (by decide) (by decide))), Nat.lt_of_le_of_lt this.2 ?_⟩
  rw [Int.natAbs_natCast]
  calc 2 * n < 2 * 2 ^ 1900 := by omega
    _ = 2 ^ 1901 := by rw [Nat.pow_succ 2 1900, Nat.mul_comm]
    _ ≤ 2 ^ 4000 := Nat.pow_le_pow_right (by decide) (by decide)
theorem half_half : ratD (1 / 2) = .tup [.int 1, .int 2] := by
  have := half_rat (n := 1) (by decide)
  exact this
theorem sb_half : Sb (1 / 2) := half_sb (n := 1) (by decide) (Nat.lt_of_lt_of_le (by decide : 1 < 2 ^ 1) (Nat.pow_le_pow_right (by decide) (by decide)))
section
variable {P : Program} {w : World} {K : PySem.W.Frag} {mg : Str → Option Value} {base : Heap} {cR cO : Addr}
local macro_rules | `(tactic| walk_at "w") => `(tactic| conv => whnf)
local macro_rules | `(tactic| walk_at "v") => `(tactic| ((conv => whnf); try dsimp only))
local macro_rules | `(tactic| walk_at "s") => `(tactic| ((conv => whnf); repeat ((first | refine ⟨sz_ok rfl, ?_⟩ | refine ⟨rfl, ?_⟩); conv => whnf)))
theorem scRootInit : FnScope ["self", "row", "index", "items"] ["self", "row", "index"] (defScope sRootInit) := ⟨rfl, rfl, rfl, by decide +kernel, rfl, by decide +kernel, by decide +kernel⟩
theorem ok_RootInit {f : Addr} {fd : FuncData} (Z : Zn w K mg cR cO) (F : Fun K "__init__" "Root.__init__" sRootInit f fd) (CIsInteger : Cal P w K mg base 1 "is_integer" ["value"] [] isIntS) (CFreeList : Cal P w K mg base 5 "free_list" ["items"] [] freS) (CCountBetween : Cal P w K mg base 6 "count_between" ["items", "low", "high"] [] cntS) (CIsolated : Cal P w K mg base 7 "isolated" ["items", "index"] [] isoS) (MRowBool : MCal P w K mg base 1 cR "__bool__" ["self"] [] (rboolS cR)) (MRowCoefs : MCal P w K mg base 1 cR "coefs" ["self"] [] (rcoefS cR)) : FnOk P w K mg base (L2.CX P w) 8 f fd ["self", "row", "index"] (spD K (rootS cR cO)) := by
  refine fn_ok F scRootInit ?len (fun cdv A outer s H E hr => ?_)
  rotate_left
  · have tk := takes_of (X := cxOf (L2.CX P w) P w K mg base ["self", "row", "index", "items"] "Root.__init__" (defScope sRootInit) f cdv A outer s H E) (E := E) rfl rfl rfl rfl
    have hp := passes_of (X := cxOf (L2.CX P w) P w K mg base ["self", "row", "index", "items"] "Root.__init__" (defScope sRootInit) f cdv A outer s H E) rfl
    refine ⟨_, (ss_cons (s_if (t_not (t_truO MRowBool (by first | decide | omega) hr (qv 1))) (ss_one s_never) ss_nil)
  (ss_cons (s_set 3 scRootInit.nd (q_cal CFreeList (by first | decide | exact Nat.le_refl _ | omega) hr tk (by rfl) (a_cons (q_meth0 MRowCoefs (by first | decide | exact Nat.le_refl _ | omega) hr tk (qv 1)) a_nil)))
  (ss_cons (s_if (w_or (t_not (t_val (q_cal CIsInteger (by first | decide | exact Nat.le_refl _ | omega) hr tk (by rfl) (a_cons (qv 2) a_nil)))) (w_or1 (t_not (t_chain oq_le oq_lt q_int (qv 2) (q_cal CCountBetween (by first | decide | exact Nat.le_refl _ | omega) hr tk (by rfl) (a_cons (qv 3) (a_cons q_non (a_cons q_non a_nil)))))))).t (ss_one s_never) ss_nil)
  (ss_cons (s_fld (K := K) rfl (qv 3) (qv 0))
  (ss_one (s_fld (K := K) rfl (q_cal CIsolated (by first | decide | exact Nat.le_refl _ | omega) hr tk (by rfl) (a_cons (qv 3) (a_cons (qv 2) a_nil))) (qv 0))))))), ?_⟩
    clear tk hp
    rintro ds L k x ⟨p, row, ix, f, lo, hi, rfl, hp, hr, ⟨hf, nf, sf, lf, hc, h0, h1, hi'⟩, h⟩
    rename_i n
    obtain ⟨r1, r2, r3, r4⟩ := fok_cnt hr
    have tf : Tr f := by
      obtain ⟨⟨_, q, _, _, rfl, _, _, tq, _⟩⟩ := hf
      exact primI_tr tq
    have ff : FOk f := ⟨tf, nf, sf, lf⟩
    obtain ⟨f1, f2, f3, f4⟩ := fok_cnt ff
    walk_at "w"
    refine ⟨rfl, row, rfl, _, rfl, ?_⟩
    rw [decide_eq_true (show (0 : Int) < (row.length : Int) by have := List.length_pos_iff.mpr r2; omega)]
    walk_at "w"
    refine ⟨⟨rfl, rfl⟩, row, rfl, ?_⟩
    walk_at "w"
    refine ⟨row, f, rfl, r1, r2, r3, r4, hf, ?_⟩
    walk_at "w"
    refine ⟨.int ix, rfl, rfl, ?_⟩
    walk_at "w"
    rw [show (fun i j : Int => D.bl (decide (i ≤ j))) 0 ix = D.bl true from congrArg D.bl (decide_eq_true h0)]
    walk_at "w"
    refine ⟨f, none, none, n, rfl, f1, f2, f3, f4, hc, ?_⟩
    walk_at "w"
    rw [decide_eq_true h1]
    walk_at "w"
    rw [hp]
    walk_at "w"
    refine ⟨⟨Z.c_O, Z.n_O _ (by decide), by decide⟩, ?_⟩
    walk_at "w"
    refine ⟨f, ix, lo, hi, rfl, ff, hi', ?_⟩
    walk_at "w"
    rw [lookup_setL hp]
    walk_at "w"
    refine ⟨⟨Z.c_O, Z.n_O _ (by decide), by decide⟩, ?_⟩
    rw [setL_setL]
    exact h
  · rintro ds L k x ⟨p, row, ix, f, lo, hi, rfl, _⟩; rfl
theorem scRootWithin : FnScope ["self", "width", "low", "high"] ["self", "width"] (defScope sRootWithin) := ⟨rfl, rfl, rfl, by decide +kernel, rfl, by decide +kernel, by decide +kernel⟩
theorem ok_RootWithin {f : Addr} {fd : FuncData} (Z : Zn w K mg cR cO) (F : Fun K "within" "Root.within" sRootWithin f fd) (CIsLess : Cal P w K mg base 1 "is_less" ["one", "other"] [] lessS) (CMinus : Cal P w K mg base 2 "minus" ["one", "other"] [] minS) (CHalved : Cal P w K mg base 7 "halved" ["items", "low", "high"] [] halfS) : FnOk P w K mg base (L2.CX P w) 8 f fd ["self", "width"] (spD K (withS cO)) := by
  refine fn_ok F scRootWithin ?len (fun cdv A outer s H E hr => ?_)
  rotate_left
  · have tk := takes_of (X := cxOf (L2.CX P w) P w K mg base ["self", "width", "low", "high"] "Root.within" (defScope sRootWithin) f cdv A outer s H E) (E := E) rfl rfl rfl rfl
    have hp := passes_of (X := cxOf (L2.CX P w) P w K mg base ["self", "width", "low", "high"] "Root.within" (defScope sRootWithin) f cdv A outer s H E) rfl
    refine ⟨_, (ss_cons (s_asg (q_fld (K := K) rfl (qv 0)) (g_tup (n := 2) rfl (gs_cons (g_name 2 scRootWithin.nd) (gs_cons (g_name 3 scRootWithin.nd) gs_nil))))
  (ss_cons (s_while hp (t_val (q_cal CIsLess (by first | decide | exact Nat.le_refl _ | omega) hr tk (by rfl) (a_cons (qv 1) (a_cons (q_cal CMinus (by first | decide | exact Nat.le_refl _ | omega) hr tk (by rfl) (a_cons (qv 3) (a_cons (qv 2) a_nil))) a_nil)))) (ss_one (s_asg (q_cal CHalved (by first | decide | exact Nat.le_refl _ | omega) hr tk (by rfl) (a_cons (q_fld (K := K) rfl (qv 0)) (a_cons (qv 2) (a_cons (qv 3) a_nil)))) (g_tup (n := 2) rfl (gs_cons (g_name 2 scRootWithin.nd) (gs_cons (g_name 3 scRootWithin.nd) gs_nil))))))
  (ss_one (s_ret (q_tup (a_cons (qv 2) (a_cons (qv 3) a_nil))))))), ?_⟩
    clear tk hp
    rintro ds L k x ⟨f, lo, hi, wd, l, h', rfl, hf, sw, hr, h⟩
    walk_at "w"
    refine ⟨⟨Z.c_O, Z.n_O _ (by decide)⟩, ?_⟩
    walk_at "w"
    refine ⟨rfl, ?_⟩
    walk_at "w"
    refine (?key : ∀ (a b : Rat), WithR f wd a b l h' → ∃ n, whD _ _ _ n [some (oD cO f lo hi), some (ratD wd), some (ratD a), some (ratD b)] L) _ _ hr
    clear hr
    intro a b hh
    induction hh with
    | done s1 s2 hn =>
      rename_i a b
      refine ⟨1, ?_⟩
      rw [whD_succ]
      walk_at "w"
      refine ⟨b, a, rfl, s2, s1, ?_⟩
      walk_at "w"
      refine ⟨wd, b - a, rfl, sw, sub_sb s2 s1, ?_⟩
      rw [decide_eq_false hn]
      walk_at "w"
      exact ⟨sz_ok rfl, h⟩
    | step s1 s2 hlt hh _ ih =>
      rename_i a b a1 b1 _ _ _
      obtain ⟨N, hN⟩ := ih h
      refine ⟨N + 1, ?_⟩
      rw [whD_succ]
      walk_at "w"
      refine ⟨b, a, rfl, s2, s1, ?_⟩
      walk_at "w"
      refine ⟨wd, b - a, rfl, sw, sub_sb s2 s1, ?_⟩
      rw [decide_eq_true hlt]
      walk_at "w"
      refine ⟨⟨Z.c_O, Z.n_O _ (by decide)⟩, ?_⟩
      walk_at "w"
      refine ⟨f, a, b, a1, b1, rfl, hf, hh, ?_⟩
      walk_at "w"
      refine ⟨rfl, ?_⟩
      walk_at "w"
      exact hN
  · rintro ds L k x ⟨f, lo, hi, wd, l, h', rfl, _⟩; rfl
theorem scCompareRatio : FnScope ["root", "value", "low", "high"] ["root", "value"] (defScope sCompareRatio) := ⟨rfl, rfl, rfl, by decide +kernel, rfl, by decide +kernel, by decide +kernel⟩
theorem ok_CompareRatio {f : Addr} {fd : FuncData} (Z : Zn w K mg cR cO) (F : Fun K "compare_ratio" "compare_ratio" sCompareRatio f fd) (CIsLess : Cal P w K mg base 1 "is_less" ["one", "other"] [] lessS) (CValueOver : Cal P w K mg base 1 "value_over" ["items", "value"] [] voS) (CCountBetween : Cal P w K mg base 6 "count_between" ["items", "low", "high"] [] cntS) : FnOk P w K mg base (L2.CX P w) 7 f fd ["root", "value"] (spD K (cmpVS cO)) := by
  refine fn_ok F scCompareRatio ?len (fun cdv A outer s H E hr => ?_)
  rotate_left
  · have tk := takes_of (X := cxOf (L2.CX P w) P w K mg base ["root", "value", "low", "high"] "compare_ratio" (defScope sCompareRatio) f cdv A outer s H E) (E := E) rfl rfl rfl rfl
    have hp := passes_of (X := cxOf (L2.CX P w) P w K mg base ["root", "value", "low", "high"] "compare_ratio" (defScope sCompareRatio) f cdv A outer s H E) rfl
    refine ⟨_, (ss_cons (s_asg (q_fld (K := K) rfl (qv 0)) (g_tup (n := 2) rfl (gs_cons (g_name 2 scCompareRatio.nd) (gs_cons (g_name 3 scCompareRatio.nd) gs_nil))))
  (ss_cons (s_if (t_not (t_val (q_cal CIsLess (by first | decide | exact Nat.le_refl _ | omega) hr tk (by rfl) (a_cons (qv 2) (a_cons (qv 1) a_nil))))) (ss_one (s_ret q_int)) ss_nil)
  (ss_cons (s_if (t_val (q_cal CIsLess (by first | decide | exact Nat.le_refl _ | omega) hr tk (by rfl) (a_cons (qv 3) (a_cons (qv 1) a_nil)))) (ss_one (s_ret (q_neg q_int))) ss_nil)
  (ss_cons (s_if (t_cmp (oq_eqU hr.units) (q_cal CValueOver (by first | decide | exact Nat.le_refl _ | omega) hr tk (by rfl) (a_cons (q_fld (K := K) rfl (qv 0)) (a_cons (qv 1) a_nil))) q_int) (ss_one (s_ret q_int)) ss_nil)
  (ss_one (s_ret (q_if (t_cmp (oq_eqU hr.units) (q_cal CCountBetween (by first | decide | exact Nat.le_refl _ | omega) hr tk (by rfl) (a_cons (q_fld (K := K) rfl (qv 0)) (a_cons (qv 2) (a_cons (qv 1) a_nil)))) q_int) (q_neg q_int) q_int))))))), ?_⟩
    clear tk hp
    rintro ds L k x ⟨f, lo, hi, v, r, rfl, hf, hr, h⟩
    obtain ⟨f1, f2, f3, f4⟩ := fok_cnt hf
    walk_at "w"
    refine ⟨⟨Z.c_O, Z.n_O _ (by decide)⟩, ?_⟩
    walk_at "w"
    refine ⟨rfl, ?_⟩
    walk_at "w"
    cases hr with
    | below s1 s2 s3 h1 =>
      refine ⟨lo, v, rfl, sm_sb s1, sm_sb s3, ?_⟩
      rw [decide_eq_false h1]
      walk_at "w"
      exact h
    | above s1 s2 s3 h1 h2 =>
      refine ⟨lo, v, rfl, sm_sb s1, sm_sb s3, ?_⟩
      rw [decide_eq_true h1]
      walk_at "w"
      refine ⟨hi, v, rfl, sm_sb s2, sm_sb s3, ?_⟩
      rw [decide_eq_true h2]
      walk_at "w"
      exact h
    | same s1 s2 s3 h1 h2 s4 l4 hz =>
      refine ⟨lo, v, rfl, sm_sb s1, sm_sb s3, ?_⟩
      rw [decide_eq_true h1]
      walk_at "w"
      refine ⟨hi, v, rfl, sm_sb s2, sm_sb s3, ?_⟩
      rw [decide_eq_false h2]
      walk_at "w"
      refine ⟨⟨Z.c_O, Z.n_O _ (by decide)⟩, ?_⟩
      walk_at "w"
      refine ⟨f, v.num, (v.den : Int), rfl, l4, s4, (sm_bd5 s3).1, (sm_bd5 s3).2, ?_⟩
      walk_at "w"
      rw [show flEq (D.int (voI v.num v.den f).1) (D.int 0) = true from decide_eq_true hz]
      walk_at "w"
      exact h
    | less s1 s2 s3 h1 h2 s4 l4 hz hc =>
      refine ⟨lo, v, rfl, sm_sb s1, sm_sb s3, ?_⟩
      rw [decide_eq_true h1]
      walk_at "w"
      refine ⟨hi, v, rfl, sm_sb s2, sm_sb s3, ?_⟩
      rw [decide_eq_false h2]
      walk_at "w"
      refine ⟨⟨Z.c_O, Z.n_O _ (by decide)⟩, ?_⟩
      walk_at "w"
      refine ⟨f, v.num, (v.den : Int), rfl, l4, s4, (sm_bd5 s3).1, (sm_bd5 s3).2, ?_⟩
      walk_at "w"
      rw [show flEq (D.int (voI v.num v.den f).1) (D.int 0) = false from decide_eq_false hz]
      walk_at "w"
      refine ⟨⟨Z.c_O, Z.n_O _ (by decide)⟩, ?_⟩
      walk_at "w"
      refine ⟨f, ob lo, ob v, 1, rfl, f1, f2, f3, f4, hc, ?_⟩
      walk_at "w"
      exact h
    | more s1 s2 s3 h1 h2 s4 l4 hz hc hn =>
      rename_i n
      refine ⟨lo, v, rfl, sm_sb s1, sm_sb s3, ?_⟩
      rw [decide_eq_true h1]
      walk_at "w"
      refine ⟨hi, v, rfl, sm_sb s2, sm_sb s3, ?_⟩
      rw [decide_eq_false h2]
      walk_at "w"
      refine ⟨⟨Z.c_O, Z.n_O _ (by decide)⟩, ?_⟩
      walk_at "w"
      refine ⟨f, v.num, (v.den : Int), rfl, l4, s4, (sm_bd5 s3).1, (sm_bd5 s3).2, ?_⟩
      walk_at "w"
      rw [show flEq (D.int (voI v.num v.den f).1) (D.int 0) = false from decide_eq_false hz]
      walk_at "w"
      refine ⟨⟨Z.c_O, Z.n_O _ (by decide)⟩, ?_⟩
      walk_at "w"
      refine ⟨f, ob lo, ob v, n, rfl, f1, f2, f3, f4, hc, ?_⟩
      walk_at "w"
      rw [show flEq (D.int n) (D.int 1) = false from decide_eq_false hn]
      walk_at "w"
      exact h
  · rintro ds L k x ⟨f, lo, hi, v, r, rfl, _⟩; rfl
theorem scCompareRoots : FnScope ["one", "other", "shared", "low", "high", "first", "last"] ["one", "other"] (defScope sCompareRoots) := ⟨rfl, rfl, rfl, by decide +kernel, rfl, by decide +kernel, by decide +kernel⟩
theorem ok_CompareRoots {f : Addr} {fd : FuncData} (Z : Zn w K mg cR cO) (F : Fun K "compare_roots" "compare_roots" sCompareRoots f fd) (CCommonList : Cal P w K mg base 4 "common_list" ["one", "other"] [] comS) (CIsLess : Cal P w K mg base 1 "is_less" ["one", "other"] [] lessS) (CHalved : Cal P w K mg base 7 "halved" ["items", "low", "high"] [] halfS) (CCountBetween : Cal P w K mg base 6 "count_between" ["items", "low", "high"] [] cntS) : FnOk P w K mg base (L2.CX P w) 8 f fd ["one", "other"] (spD K (cmpRS cO)) := by
  refine fn_ok F scCompareRoots ?len (fun cdv A outer s H E hr => ?_)
  rotate_left
  · have tk := takes_of (X := cxOf (L2.CX P w) P w K mg base ["one", "other", "shared", "low", "high", "first", "last"] "compare_roots" (defScope sCompareRoots) f cdv A outer s H E) (E := E) rfl rfl rfl rfl
    have hp := passes_of (X := cxOf (L2.CX P w) P w K mg base ["one", "other", "shared", "low", "high", "first", "last"] "compare_roots" (defScope sCompareRoots) f cdv A outer s H E) rfl
    refine ⟨_, (ss_cons (s_set 2 scCompareRoots.nd (q_cal CCommonList (by first | decide | exact Nat.le_refl _ | omega) hr tk (by rfl) (a_cons (q_fld (K := K) rfl (qv 0)) (a_cons (q_fld (K := K) rfl (qv 1)) a_nil))))
  (ss_cut (s_if (w_and (t_cmp (oq_eqU hr.units) (q_cal CCountBetween (by first | decide | exact Nat.le_refl _ | omega) hr tk (by rfl) (a_cons (qv 2) (a_cons (q_ix (q_fld (K := K) rfl (qv 0)) q_int) (a_cons (q_ix (q_fld (K := K) rfl (qv 0)) q_int) a_nil)))) q_int) (w_and1 (t_cmp (oq_eqU hr.units) (q_cal CCountBetween (by first | decide | exact Nat.le_refl _ | omega) hr tk (by rfl) (a_cons (qv 2) (a_cons (q_ix (q_fld (K := K) rfl (qv 1)) q_int) (a_cons (q_ix (q_fld (K := K) rfl (qv 1)) q_int) a_nil)))) q_int))).t (ss_one (s_if (t_cmp (oq_eqU hr.units) (q_cal CCountBetween (by first | decide | exact Nat.le_refl _ | omega) hr tk (by rfl) (a_cons (qv 2) (a_cons q_non (a_cons (q_ix (q_fld (K := K) rfl (qv 0)) q_int) a_nil)))) (q_cal CCountBetween (by first | decide | exact Nat.le_refl _ | omega) hr tk (by rfl) (a_cons (qv 2) (a_cons q_non (a_cons (q_ix (q_fld (K := K) rfl (qv 1)) q_int) a_nil))))) (ss_one (s_ret q_int)) ss_nil)) ss_nil)
  (ss_cons (s_asg (q_tup (a_cons (q_fld (K := K) rfl (qv 0)) (a_cons (q_fld (K := K) rfl (qv 1)) a_nil))) (g_tup (n := 2) rfl (gs_cons (g_tup (n := 2) rfl (gs_cons (g_name 3 scCompareRoots.nd) (gs_cons (g_name 4 scCompareRoots.nd) gs_nil))) (gs_cons (g_tup (n := 2) rfl (gs_cons (g_name 5 scCompareRoots.nd) (gs_cons (g_name 6 scCompareRoots.nd) gs_nil))) gs_nil))))
  (ss_cons (s_while hp (w_and (t_val (q_cal CIsLess (by first | decide | exact Nat.le_refl _ | omega) hr tk (by rfl) (a_cons (qv 3) (a_cons (qv 6) a_nil)))) (w_and1 (t_val (q_cal CIsLess (by first | decide | exact Nat.le_refl _ | omega) hr tk (by rfl) (a_cons (qv 5) (a_cons (qv 4) a_nil)))))).t (ss_cons (s_asg (q_cal CHalved (by first | decide | exact Nat.le_refl _ | omega) hr tk (by rfl) (a_cons (q_fld (K := K) rfl (qv 0)) (a_cons (qv 3) (a_cons (qv 4) a_nil)))) (g_tup (n := 2) rfl (gs_cons (g_name 3 scCompareRoots.nd) (gs_cons (g_name 4 scCompareRoots.nd) gs_nil))))
  (ss_one (s_asg (q_cal CHalved (by first | decide | exact Nat.le_refl _ | omega) hr tk (by rfl) (a_cons (q_fld (K := K) rfl (qv 1)) (a_cons (qv 5) (a_cons (qv 6) a_nil)))) (g_tup (n := 2) rfl (gs_cons (g_name 5 scCompareRoots.nd) (gs_cons (g_name 6 scCompareRoots.nd) gs_nil)))))))
  (ss_one (s_ret (q_if (t_not (t_val (q_cal CIsLess (by first | decide | exact Nat.le_refl _ | omega) hr tk (by rfl) (a_cons (qv 5) (a_cons (qv 4) a_nil))))) (q_neg q_int) q_int))))))), ?_⟩
    clear tk hp
    rintro ds L k x ⟨f, g, lo, hi, a, b, r, rfl, hf, hg, hr, h⟩
    obtain ⟨f1, f2, f3, f4⟩ := fok_cnt hf
    obtain ⟨g1, g2, g3, g4⟩ := fok_cnt hg
    obtain ⟨s, hcm, so⟩ : ∃ s, ComR f g s ∧ SOk s ∧ (CountR s (ob lo) (ob hi) 1 ∧ CountR s (ob a) (ob b) 1 ∧ (∃ m, CountR s none (ob hi) m ∧ CountR s none (ob b) m) ∧ r = 0
      ∨ (∃ q, SepR f g lo hi a b q ∧ r = if q then 1 else -1) ∧ ((∃ n, CountR s (ob lo) (ob hi) n ∧ n ≠ 1) ∨ CountR s (ob lo) (ob hi) 1 ∧ (∃ n, CountR s (ob a) (ob b) n ∧ n ≠ 1) ∨
        CountR s (ob lo) (ob hi) 1 ∧ CountR s (ob a) (ob b) 1 ∧ ∃ m m', CountR s none (ob hi) m ∧ CountR s none (ob b) m' ∧ m ≠ m')) := by
      cases hr with
      | same c1 c2 c3 c4 c5 c6 => exact ⟨_, c1, c2, .inl ⟨c3, c4, ⟨_, c5, c6⟩, rfl⟩⟩
      | sep1 c1 c2 c3 c4 c5 => exact ⟨_, c1, c2, .inr ⟨⟨_, c5, rfl⟩, .inl ⟨_, c3, c4⟩⟩⟩
      | sep2 c1 c2 c3 c4 c5 c6 => exact ⟨_, c1, c2, .inr ⟨⟨_, c6, rfl⟩, .inr (.inl ⟨c3, _, c4, c5⟩)⟩⟩
      | sep3 c1 c2 c3 c4 c5 c6 c7 c8 => exact ⟨_, c1, c2, .inr ⟨⟨_, c8, rfl⟩, .inr (.inr ⟨c3, c4, _, _, c5, c6, c7⟩)⟩⟩
    obtain ⟨⟨s1, s2, s3, s4⟩, so⟩ := so
    clear hr
    walk_at "w"
    refine ⟨⟨Z.c_O, Z.n_O _ (by decide)⟩, ?_⟩
    walk_at "w"
    refine ⟨⟨Z.c_O, Z.n_O _ (by decide)⟩, ?_⟩
    walk_at "w"
    refine ⟨f, g, s, rfl, f1, g1, f3, g3, hcm, ?_⟩
    walk_at "w"
    refine ⟨fun env' L' => env' = [some (oD cO f lo hi), some (oD cO g a b), some (lD s), none, none, none, none] ∧ L = L' ∧ ∃ q, SepR f g lo hi a b q ∧ r = if q then 1 else -1, ?_, ?_⟩
    · rcases so with ⟨c3, c4, ⟨m, c5, c6⟩, rfl⟩ | ⟨sep, ⟨n, c3, c4⟩ | ⟨c3, n, c4, c5⟩ | ⟨c3, c4, m, m', c5, c6, c7⟩⟩
      · walk_at "w"
        refine ⟨⟨Z.c_O, Z.n_O _ (by decide)⟩, ?_⟩
        walk_at "w"
        refine ⟨⟨Z.c_O, Z.n_O _ (by decide)⟩, ?_⟩
        walk_at "w"
        refine ⟨s, (ob lo), (ob hi), 1, rfl, s1, s2, s4, s3, c3, ?_⟩
        walk_at "w"
        refine ⟨⟨Z.c_O, Z.n_O _ (by decide)⟩, ?_⟩
        walk_at "w"
        refine ⟨⟨Z.c_O, Z.n_O _ (by decide)⟩, ?_⟩
        walk_at "w"
        refine ⟨s, (ob a), (ob b), 1, rfl, s1, s2, s4, s3, c4, ?_⟩
        walk_at "w"
        refine ⟨⟨Z.c_O, Z.n_O _ (by decide)⟩, ?_⟩
        walk_at "w"
        refine ⟨s, none, (ob hi), m, rfl, s1, s2, s4, s3, c5, ?_⟩
        walk_at "w"
        refine ⟨⟨Z.c_O, Z.n_O _ (by decide)⟩, ?_⟩
        walk_at "w"
        refine ⟨s, none, (ob b), m, rfl, s1, s2, s4, s3, c6, ?_⟩
        walk_at "w"
        rw [show flEq (D.int m) (D.int m) = true from decide_eq_true rfl]
        walk_at "w"
        exact h
      · walk_at "w"
        refine ⟨⟨Z.c_O, Z.n_O _ (by decide)⟩, ?_⟩
        walk_at "w"
        refine ⟨⟨Z.c_O, Z.n_O _ (by decide)⟩, ?_⟩
        walk_at "w"
        refine ⟨s, (ob lo), (ob hi), n, rfl, s1, s2, s4, s3, c3, ?_⟩
        walk_at "w"
        rw [show flEq (D.int n) (D.int 1) = false from decide_eq_false c4]
        walk_at "w"
        exact ⟨rfl, rfl, sep⟩
      · walk_at "w"
        refine ⟨⟨Z.c_O, Z.n_O _ (by decide)⟩, ?_⟩
        walk_at "w"
        refine ⟨⟨Z.c_O, Z.n_O _ (by decide)⟩, ?_⟩
        walk_at "w"
        refine ⟨s, (ob lo), (ob hi), 1, rfl, s1, s2, s4, s3, c3, ?_⟩
        walk_at "w"
        refine ⟨⟨Z.c_O, Z.n_O _ (by decide)⟩, ?_⟩
        walk_at "w"
        refine ⟨⟨Z.c_O, Z.n_O _ (by decide)⟩, ?_⟩
        walk_at "w"
        refine ⟨s, (ob a), (ob b), n, rfl, s1, s2, s4, s3, c4, ?_⟩
        walk_at "w"
        rw [show flEq (D.int n) (D.int 1) = false from decide_eq_false c5]
        walk_at "w"
        exact ⟨rfl, rfl, sep⟩
      · walk_at "w"
        refine ⟨⟨Z.c_O, Z.n_O _ (by decide)⟩, ?_⟩
        walk_at "w"
        refine ⟨⟨Z.c_O, Z.n_O _ (by decide)⟩, ?_⟩
        walk_at "w"
        refine ⟨s, (ob lo), (ob hi), 1, rfl, s1, s2, s4, s3, c3, ?_⟩
        walk_at "w"
        refine ⟨⟨Z.c_O, Z.n_O _ (by decide)⟩, ?_⟩
        walk_at "w"
        refine ⟨⟨Z.c_O, Z.n_O _ (by decide)⟩, ?_⟩
        walk_at "w"
        refine ⟨s, (ob a), (ob b), 1, rfl, s1, s2, s4, s3, c4, ?_⟩
        walk_at "w"
        refine ⟨⟨Z.c_O, Z.n_O _ (by decide)⟩, ?_⟩
        walk_at "w"
        refine ⟨s, none, (ob hi), m, rfl, s1, s2, s4, s3, c5, ?_⟩
        walk_at "w"
        refine ⟨⟨Z.c_O, Z.n_O _ (by decide)⟩, ?_⟩
        walk_at "w"
        refine ⟨s, none, (ob b), m', rfl, s1, s2, s4, s3, c6, ?_⟩
        walk_at "w"
        rw [show flEq (D.int m) (D.int m') = false from decide_eq_false c7]
        walk_at "w"
        exact ⟨rfl, rfl, sep⟩
    rintro env' L' ⟨rfl, rfl, q, hs, hq⟩
    walk_at "w"
    refine ⟨⟨Z.c_O, Z.n_O _ (by decide)⟩, ?_⟩
    walk_at "w"
    refine ⟨⟨Z.c_O, Z.n_O _ (by decide)⟩, ?_⟩
    walk_at "w"
    refine ⟨sz_ok rfl, ?_⟩
    walk_at "w"
    refine ⟨rfl, ?_⟩
    walk_at "w"
    refine ⟨rfl, ?_⟩
    walk_at "w"
    refine ⟨rfl, ?_⟩
    walk_at "w"
    refine (?key : ∀ (a0 b0 c0 d0 : Rat), SepR f g a0 b0 c0 d0 q → ∃ n, whD _ _ _ n [some (oD cO f lo hi), some (oD cO g a b), some (lD s), some (ratD a0), some (ratD b0), some (ratD c0), some (ratD d0)] L) _ _ _ _ hs
    clear hs so
    intro a0 b0 c0 d0 hh
    generalize eq0 : q = q0 at hh
    induction hh with
    | done t1 t2 t3 t4 hn =>
      rename_i a0 b0 c0 d0
      subst eq0
      refine ⟨1, ?_⟩
      rw [whD_succ]
      walk_at "w"
      refine ⟨a0, d0, rfl, sm_sb t1, sm_sb t4, ?_⟩
      by_cases e1 : a0 < d0
      · rw [decide_eq_true e1]
        walk_at "w"
        refine ⟨c0, b0, rfl, sm_sb t3, sm_sb t2, ?_⟩
        have e2 : ¬ c0 < b0 := fun z => hn ⟨e1, z⟩
        rw [decide_eq_false e2] at hq ⊢
        walk_at "w"
        refine ⟨c0, b0, rfl, sm_sb t3, sm_sb t2, ?_⟩
        rw [decide_eq_false e2]
        walk_at "w"
        rw [hq] at h
        exact h
      · rw [decide_eq_false e1]
        walk_at "w"
        refine ⟨c0, b0, rfl, sm_sb t3, sm_sb t2, ?_⟩
        by_cases e2 : c0 < b0
        · rw [decide_eq_true e2] at hq ⊢
          walk_at "w"
          rw [hq] at h
          exact h
        · rw [decide_eq_false e2] at hq ⊢
          walk_at "w"
          rw [hq] at h
          exact h
    | step t1 t2 t3 t4 e1 e2 hh1 hh2 _ ih =>
      rename_i a0 b0 c0 d0 l1 h1 a1 b1 q1 _
      obtain ⟨N, hN⟩ := ih eq0
      refine ⟨N + 1, ?_⟩
      rw [whD_succ]
      walk_at "w"
      refine ⟨a0, d0, rfl, sm_sb t1, sm_sb t4, ?_⟩
      rw [decide_eq_true e1]
      walk_at "w"
      refine ⟨c0, b0, rfl, sm_sb t3, sm_sb t2, ?_⟩
      rw [decide_eq_true e2]
      walk_at "w"
      refine ⟨⟨Z.c_O, Z.n_O _ (by decide)⟩, ?_⟩
      walk_at "w"
      refine ⟨f, a0, b0, l1, h1, rfl, hf, hh1, ?_⟩
      walk_at "w"
      refine ⟨rfl, ?_⟩
      walk_at "w"
      refine ⟨⟨Z.c_O, Z.n_O _ (by decide)⟩, ?_⟩
      walk_at "w"
      refine ⟨g, c0, d0, a1, b1, rfl, hg, hh2, ?_⟩
      walk_at "w"
      refine ⟨rfl, ?_⟩
      walk_at "w"
      exact hN
  · rintro ds L k x ⟨f, g, lo, hi, a, b, r, rfl, _⟩; rfl
theorem scRootCompare : FnScope ["self", "other"] ["self", "other"] (defScope sRootCompare) := ⟨rfl, rfl, rfl, by decide +kernel, rfl, by decide +kernel, by decide +kernel⟩
theorem ok_RootCompare {f : Addr} {fd : FuncData} (Z : Zn w K mg cR cO) (F : Fun K "compare" "Root.compare" sRootCompare f fd) (CCompareRatio : Cal P w K mg base 7 "compare_ratio" ["root", "value"] [] (cmpVS cO)) (CCompareRoots : Cal P w K mg base 8 "compare_roots" ["one", "other"] [] (cmpRS cO)) (n_Root : mg "Root" = some (.ref cO)) (IR : InsC K cO) (kRoot : PySem.W.kitOne K (.ref cO) (.ref cO) = some true) (kTup : PySem.W.kitOne K (.type "tuple") (.ref cO) = some false) : FnOk P w K mg base (L2.CX P w) 9 f fd ["self", "other"] (spD K (cmpRS cO)) := by
  refine fn_ok F scRootCompare ?len (fun cdv A outer s H E hr => ?_)
  rotate_left
  · have tk := takes_of (X := cxOf (L2.CX P w) P w K mg base ["self", "other"] "Root.compare" (defScope sRootCompare) f cdv A outer s H E) (E := E) rfl rfl rfl rfl
    have hp := passes_of (X := cxOf (L2.CX P w) P w K mg base ["self", "other"] "Root.compare" (defScope sRootCompare) f cdv A outer s H E) rfl
    refine ⟨_, (ss_one (s_ret (q_if (t_val (q_isC (K := K) rfl (qv 1) n_Root (by rfl) Z.z_isinstance (by rfl))) (q_cal CCompareRoots (by first | decide | exact Nat.le_refl _ | omega) hr tk (by rfl) (a_cons (qv 0) (a_cons (qv 1) a_nil))) (q_cal CCompareRatio (by first | decide | exact Nat.le_refl _ | omega) hr tk (by rfl) (a_cons (qv 0) (a_cons (qv 1) a_nil)))))), ?_⟩
    clear tk hp
    rintro ds L k x ⟨f, g, lo, hi, a, b, r, rfl, hf, hg, hr, h⟩
    walk_at "w"
    refine ⟨true, ⟨IR, kRoot⟩, ?_⟩
    walk_at "w"
    exact ⟨f, g, lo, hi, a, b, r, rfl, hf, hg, hr, h⟩
  · rintro ds L k x ⟨f, g, lo, hi, a, b, r, rfl, _⟩; rfl
theorem ok_RootCompareV {f : Addr} {fd : FuncData} (Z : Zn w K mg cR cO) (F : Fun K "compare" "Root.compare" sRootCompare f fd) (CCompareRatio : Cal P w K mg base 7 "compare_ratio" ["root", "value"] [] (cmpVS cO)) (CCompareRoots : Cal P w K mg base 8 "compare_roots" ["one", "other"] [] (cmpRS cO)) (n_Root : mg "Root" = some (.ref cO)) (IR : InsC K cO) (kRoot : PySem.W.kitOne K (.ref cO) (.ref cO) = some true) (kTup : PySem.W.kitOne K (.type "tuple") (.ref cO) = some false) : FnOk P w K mg base (L2.CX P w) 9 f fd ["self", "other"] (spD K (cmpVS cO)) := by
  refine fn_ok F scRootCompare ?len (fun cdv A outer s H E hr => ?_)
  rotate_left
  · have tk := takes_of (X := cxOf (L2.CX P w) P w K mg base ["self", "other"] "Root.compare" (defScope sRootCompare) f cdv A outer s H E) (E := E) rfl rfl rfl rfl
    have hp := passes_of (X := cxOf (L2.CX P w) P w K mg base ["self", "other"] "Root.compare" (defScope sRootCompare) f cdv A outer s H E) rfl
    refine ⟨_, (ss_one (s_ret (q_if (t_val (q_isC (K := K) rfl (qv 1) n_Root (by rfl) Z.z_isinstance (by rfl))) (q_cal CCompareRoots (by first | decide | exact Nat.le_refl _ | omega) hr tk (by rfl) (a_cons (qv 0) (a_cons (qv 1) a_nil))) (q_cal CCompareRatio (by first | decide | exact Nat.le_refl _ | omega) hr tk (by rfl) (a_cons (qv 0) (a_cons (qv 1) a_nil)))))), ?_⟩
    clear tk hp
    rintro ds L k x ⟨f, lo, hi, v, r, rfl, hf, hr, h⟩
    walk_at "w"
    refine ⟨false, kTup, ?_⟩
    walk_at "w"
    exact ⟨f, lo, hi, v, r, rfl, hf, hr, h⟩
  · rintro ds L k x ⟨f, lo, hi, v, r, rfl, _⟩; rfl
theorem scRootSignOf : FnScope ["self", "row", "items", "low", "high", "shared"] ["self", "row"] (defScope sRootSignOf) := ⟨rfl, rfl, rfl, by decide +kernel, rfl, by decide +kernel, by decide +kernel⟩
theorem ok_RootSignOf {f : Addr} {fd : FuncData} (Z : Zn w K mg cR cO) (F : Fun K "sign_of" "Root.sign_of" sRootSignOf f fd) (CCommonList : Cal P w K mg base 4 "common_list" ["one", "other"] [] comS) (CCountBetween : Cal P w K mg base 6 "count_between" ["items", "low", "high"] [] cntS) (CHalved : Cal P w K mg base 7 "halved" ["items", "low", "high"] [] halfS) (CSign : Cal P w K mg base 1 "sign" ["number"] [] sgnS) (CValueOver : Cal P w K mg base 1 "value_over" ["items", "value"] [] voS) (MRowBool : MCal P w K mg base 1 cR "__bool__" ["self"] [] (rboolS cR)) (MRowCoefs : MCal P w K mg base 1 cR "coefs" ["self"] [] (rcoefS cR)) : FnOk P w K mg base (L2.CX P w) 8 f fd ["self", "row"] (spD K (sgnOfS cR cO)) := by
  refine fn_ok F scRootSignOf ?len (fun cdv A outer s H E hr => ?_)
  rotate_left
  · have tk := takes_of (X := cxOf (L2.CX P w) P w K mg base ["self", "row", "items", "low", "high", "shared"] "Root.sign_of" (defScope sRootSignOf) f cdv A outer s H E) (E := E) rfl rfl rfl rfl
    have hp := passes_of (X := cxOf (L2.CX P w) P w K mg base ["self", "row", "items", "low", "high", "shared"] "Root.sign_of" (defScope sRootSignOf) f cdv A outer s H E) rfl
    refine ⟨_, (ss_cons (s_if (t_not (t_truO MRowBool (by first | decide | omega) hr (qv 1))) (ss_one (s_ret q_int)) ss_nil)
  (ss_cons (s_asg (q_tup (a_cons (q_meth0 MRowCoefs (by first | decide | exact Nat.le_refl _ | omega) hr tk (qv 1)) (a_cons (q_fld (K := K) rfl (qv 0)) a_nil))) (g_tup (n := 2) rfl (gs_cons (g_name 2 scRootSignOf.nd) (gs_cons (g_tup (n := 2) rfl (gs_cons (g_name 3 scRootSignOf.nd) (gs_cons (g_name 4 scRootSignOf.nd) gs_nil))) gs_nil))))
  (ss_cons (s_set 5 scRootSignOf.nd (q_cal CCommonList (by first | decide | exact Nat.le_refl _ | omega) hr tk (by rfl) (a_cons (q_fld (K := K) rfl (qv 0)) (a_cons (qv 2) a_nil))))
  (ss_cons (s_if (t_cmp (oq_eqU hr.units) (q_cal CCountBetween (by first | decide | exact Nat.le_refl _ | omega) hr tk (by rfl) (a_cons (qv 5) (a_cons (qv 3) (a_cons (qv 4) a_nil)))) q_int) (ss_one (s_ret q_int)) ss_nil)
  (ss_cons (s_while hp (t_cmp oq_gt (q_cal CCountBetween (by first | decide | exact Nat.le_refl _ | omega) hr tk (by rfl) (a_cons (qv 2) (a_cons (qv 3) (a_cons (qv 4) a_nil)))) q_int) (ss_one (s_asg (q_cal CHalved (by first | decide | exact Nat.le_refl _ | omega) hr tk (by rfl) (a_cons (q_fld (K := K) rfl (qv 0)) (a_cons (qv 3) (a_cons (qv 4) a_nil)))) (g_tup (n := 2) rfl (gs_cons (g_name 3 scRootSignOf.nd) (gs_cons (g_name 4 scRootSignOf.nd) gs_nil))))))
  (ss_one (s_ret (q_cal CSign (by first | decide | exact Nat.le_refl _ | omega) hr tk (by rfl) (a_cons (q_cal CValueOver (by first | decide | exact Nat.le_refl _ | omega) hr tk (by rfl) (a_cons (qv 2) (a_cons (qv 4) a_nil))) a_nil))))))))), ?_⟩
    clear tk hp
    rintro ds L k x ⟨f, xs, lo, hi, r, rfl, hf, hr, h⟩
    obtain ⟨f1, f2, f3, f4⟩ := fok_cnt hf
    walk_at "w"
    refine ⟨rfl, xs, rfl, _, rfl, ?_⟩
    rcases hr with ⟨rfl, rfl⟩ | ⟨hx, hr⟩
    · walk_at "w"
      exact h
    obtain ⟨x1, x2, x3, x4⟩ := fok_cnt hx
    rw [decide_eq_true (show (0 : Int) < (xs.length : Int) by have := List.length_pos_iff.mpr x2; omega)]
    walk_at "w"
    refine ⟨⟨rfl, rfl⟩, xs, rfl, ?_⟩
    walk_at "w"
    refine ⟨⟨Z.c_O, Z.n_O _ (by decide)⟩, ?_⟩
    walk_at "w"
    refine ⟨sz_ok rfl, ?_⟩
    walk_at "w"
    refine ⟨rfl, ?_⟩
    walk_at "w"
    refine ⟨rfl, ?_⟩
    walk_at "w"
    refine ⟨⟨Z.c_O, Z.n_O _ (by decide)⟩, ?_⟩
    walk_at "w"
    cases hr with
    | zero c1 c2 c3 =>
      rename_i s
      obtain ⟨s1, s2, s3, s4⟩ := c2
      refine ⟨f, xs, s, rfl, f1, x1, f3, x3, c1, ?_⟩
      walk_at "w"
      refine ⟨s, ob lo, ob hi, 1, rfl, s1, s2, s4, s3, c3, ?_⟩
      walk_at "w"
      exact h
    | other c1 c2 c3 c4 c5 c6 c7 c8 =>
      rename_i s n l h'
      obtain ⟨s1, s2, s3, s4⟩ := c2
      refine ⟨f, xs, s, rfl, f1, x1, f3, x3, c1, ?_⟩
      walk_at "w"
      refine ⟨s, ob lo, ob hi, n, rfl, s1, s2, s4, s3, c3, ?_⟩
      walk_at "w"
      rw [show flEq (D.int n) (D.int 1) = false from decide_eq_false c4]
      walk_at "w"
      refine (?key : ∀ (a0 b0 : Rat), SignR f xs a0 b0 l h' → ∃ n, whD _ _ _ n [some (oD cO f lo hi), some (rD cR xs), some (lD xs), some (ratD a0), some (ratD b0), some (lD s)] L) _ _ c5
      clear c5 c3 c4
      intro a0 b0 hh
      induction hh with
      | done t1 t2 hc hn =>
        rename_i a0 b0 m
        refine ⟨1, ?_⟩
        rw [whD_succ]
        walk_at "w"
        refine ⟨xs, ob a0, ob b0, m, rfl, x1, x2, x3, x4, hc, ?_⟩
        walk_at "w"
        rw [show decide (0 < m) = false from decide_eq_false (by omega)]
        walk_at "w"
        refine ⟨xs, b0.num, (b0.den : Int), rfl, c8, c7, (sm_bd5 t2).1, (sm_bd5 t2).2, ?_⟩
        walk_at "w"
        exact ⟨_, rfl, h⟩
      | step t1 t2 hc hn hh1 _ ih =>
        rename_i a0 b0 m l1 h1 _ _ _
        obtain ⟨N, hN⟩ := ih c6 h
        refine ⟨N + 1, ?_⟩
        rw [whD_succ]
        walk_at "w"
        refine ⟨xs, ob a0, ob b0, m, rfl, x1, x2, x3, x4, hc, ?_⟩
        walk_at "w"
        rw [show decide (0 < m) = true from decide_eq_true hn]
        walk_at "w"
        refine ⟨⟨Z.c_O, Z.n_O _ (by decide)⟩, ?_⟩
        walk_at "w"
        refine ⟨f, a0, b0, l1, h1, rfl, hf, hh1, ?_⟩
        walk_at "w"
        refine ⟨rfl, ?_⟩
        walk_at "w"
        exact hN
  · rintro ds L k x ⟨f, xs, lo, hi, r, rfl, _⟩; rfl
theorem scRatioText : FnScope ["one"] ["one"] (defScope sRatioText) := ⟨rfl, rfl, rfl, by decide +kernel, rfl, by decide +kernel, by decide +kernel⟩
theorem ok_RatioText {f : Addr} {fd : FuncData} (Z : Zn w K mg cR cO) (F : Fun K "ratio_text" "ratio_text" sRatioText f fd) : FnOk P w K mg base (L2.CX P w) 1 f fd ["one"] (spD K txtS) := by
  refine fn_ok F scRatioText ?len (fun cdv A outer s H E hr => ?_)
  rotate_left
  · have tk := takes_of (X := cxOf (L2.CX P w) P w K mg base ["one"] "ratio_text" (defScope sRatioText) f cdv A outer s H E) (E := E) rfl rfl rfl rfl
    have hp := passes_of (X := cxOf (L2.CX P w) P w K mg base ["one"] "ratio_text" (defScope sRatioText) f cdv A outer s H E) rfl
    refine ⟨_, (ss_one (s_ret (q_if (t_cmp (oq_eqU hr.units) (q_ix (qv 0) q_int) q_int) (q_callTy cq_str (by rfl) Z.z_str bb_str (a_cons (q_ix (qv 0) q_int) a_nil)) (q_joined (j_cons (q_fmt (q_ix (qv 0) q_int)) (j_cons q_str (j_cons (q_fmt (q_ix (qv 0) q_int)) j_nil))))))), ?_⟩
    clear tk hp
    rintro ds L k x ⟨t, u, rfl, ht, hu, h⟩
    have lg : ∀ i : Int, i.natAbs < 10 ^ 30 → i.natAbs.log2 < 1920 := fun i h => by
      by_cases h0 : i.natAbs = 0
      · rw [h0]; decide
      · exact Nat.lt_trans ((Nat.log2_lt h0).mpr (Nat.lt_trans h (by decide +kernel : 10 ^ 30 < 2 ^ 100))) (by decide)
    have ll : ∀ i : Int, i.natAbs < 10 ^ 30 → (Str.ofString (toString i)).length ≤ 31 := fun i h => by
      rw [tl_len, tl_int]
      have := numL_len (by decide) h
      unfold intL
      split
      · rw [List.length_cons]; omega
      · omega
    have sl : ∀ n : Nat, n ≤ 1000 → n ≤ sizeLine := fun n hn => Nat.le_trans hn (by decide)
    walk_at "v"
    cases h1 : flEq (.int u) (.int 1) with
    | true =>
      have h1 : u = 1 := of_decide_eq_true h1
      subst h1
      walk_at "w"
      refine ⟨lg t ht, ?_⟩
      rw [show txt t 1 = Str.ofString (toString t) from ext_tl (by rw [tl_int]; rfl)] at h
      exact h
    | false =>
      have h1 : u ≠ 1 := of_decide_eq_false h1
      walk_at "w"
      refine ⟨lg t ht, ?_⟩
      walk_at "w"
      refine ⟨sl _ (by rw [tl_len, tl_append, List.length_append, ← tl_len, ← tl_len]; have := ll t ht; show 0 + _ ≤ 1000; omega), ?_⟩
      walk_at "w"
      refine ⟨sl _ (by rw [tl_len, tl_append, tl_append, List.length_append, List.length_append, ← tl_len, ← tl_len, ← tl_len]; have := ll t ht; show 0 + _ + 1 ≤ 1000; omega), ?_⟩
      walk_at "w"
      refine ⟨lg u hu, ?_⟩
      walk_at "w"
      refine ⟨sl _ (by rw [tl_len, tl_append, tl_append, tl_append, List.length_append, List.length_append, List.length_append, ← tl_len, ← tl_len, ← tl_len, ← tl_len]; have := ll t ht; have := ll u hu; show 0 + _ + 1 + _ ≤ 1000; omega), ?_⟩
      rw [show txt t u = Str.empty ++ Str.ofString (toString t) ++ "/" ++ Str.ofString (toString u) from ext_tl (by rw [tl_append, tl_append, tl_append, tl_int, tl_int]; show textL t u = [] ++ intL t ++ [47] ++ intL u; unfold textL; rw [if_neg h1]; simp)] at h
      exact h
  · rintro ds L k x ⟨t, u, rfl, _⟩; rfl
theorem scRootRatio : FnScope ["self", "lead", "low", "high", "number", "found"] ["self"] (defScope sRootRatio) := ⟨rfl, rfl, rfl, by decide +kernel, rfl, by decide +kernel, by decide +kernel⟩
theorem ok_RootRatio {f : Addr} {fd : FuncData} (Z : Zn w K mg cR cO) (F : Fun K "ratio" "Root.ratio" sRootRatio f fd) (CLowest : Cal P w K mg base 1 "lowest" ["top", "bottom"] [] lowestR) (MRootWithin : MCal P w K mg base 8 cO "within" ["self", "width"] [] (withS cO)) (MRootCompare : MCal P w K mg base 9 cO "compare" ["self", "other"] [] (cmpS cO)) : FnOk P w K mg base (L2.CX P w) 10 f fd ["self"] (spD K (ratioS cO)) := by
  refine fn_ok F scRootRatio ?len (fun cdv A outer s H E hr => ?_)
  rotate_left
  · have tk := takes_of (X := cxOf (L2.CX P w) P w K mg base ["self", "lead", "low", "high", "number", "found"] "Root.ratio" (defScope sRootRatio) f cdv A outer s H E) (E := E) rfl rfl rfl rfl
    have hp := passes_of (X := cxOf (L2.CX P w) P w K mg base ["self", "lead", "low", "high", "number", "found"] "Root.ratio" (defScope sRootRatio) f cdv A outer s H E) rfl
    refine ⟨_, (ss_cons (s_set 1 scRootRatio.nd (q_callB cq_abs (by rfl) Z.z_abs bb_abs (a_cons (q_ix (q_fld (K := K) rfl (qv 0)) (q_neg q_int)) a_nil)))
  (ss_cons (s_asg (q_meth MRootWithin (by first | decide | exact Nat.le_refl _ | omega) hr tk (qv 0) (a_cons (q_tup (a_cons q_int (a_cons (q_op oq_mulU q_int (qv 1)) a_nil))) a_nil)) (g_tup (n := 2) rfl (gs_cons (g_name 2 scRootRatio.nd) (gs_cons (g_name 3 scRootRatio.nd) gs_nil))))
  (ss_cons (s_set 4 scRootRatio.nd (q_op oq_fdiv (q_op oq_mulU (q_ix (qv 3) q_int) (qv 1)) (q_ix (qv 3) q_int)))
  (ss_cons (s_set 5 scRootRatio.nd (q_cal CLowest (by first | decide | exact Nat.le_refl _ | omega) hr tk (by rfl) (a_cons (qv 4) (a_cons (qv 1) a_nil))))
  (ss_one (s_ret (q_if (t_cmp (oq_eqU hr.units) (q_meth MRootCompare (by first | decide | exact Nat.le_refl _ | omega) hr tk (qv 0) (a_cons (qv 5) a_nil)) q_int) (qv 5) q_non))))))), ?_⟩
    clear tk hp
    rintro ds L k x ⟨f, lo, hi, o, rfl, hf, hr, h⟩
    obtain ⟨f1, f2, f3, f4⟩ := fok_cnt hf
    obtain ⟨_, _, zf⟩ := tr_form f1 f2
    cases hr with
    | mk sf nf l19 hw sh hc =>
      rename_i l h' r
      have lf2 : ((lst f).natAbs : Int).natAbs < 2 ^ 1900 := by rw [Int.natAbs_natCast]; exact l19
      walk_at "w"
      refine ⟨⟨Z.c_O, Z.n_O _ (by decide)⟩, ?_⟩
      walk_at "w"
      rw [at_last f2]
      walk_at "w"
      rw [show (if lst f < 0 then -lst f else lst f) = ((lst f).natAbs : Int) from by split <;> omega]
      refine ⟨⟨rfl, rfl⟩, ?_⟩
      walk_at "w"
      refine ⟨.inl (.inl (by decide)), ?_⟩
      walk_at "w"
      refine ⟨sz_ok rfl, ?_⟩
      walk_at "w"
      refine ⟨f, lo, hi, _, l, h', by rw [half_rat (show 0 < (lst f).natAbs by omega)]; rfl, hf, half_sb (by omega) l19, hw, ?_⟩
      walk_at "w"
      refine ⟨rfl, ?_⟩
      walk_at "w"
      refine ⟨.inr (cmul_of sh.1 lf2 (by decide)), ?_⟩
      walk_at "w"
      refine ⟨⟨den_nz h', lim_log (smd sh) (by decide)⟩, ?_⟩
      walk_at "w"
      refine ⟨_, _, rfl, (by show ((lst f).natAbs : Int) ≠ 0; omega), p1990 lf2 (by decide), ?_⟩
      walk_at "w"
      refine ⟨⟨rfl, rfl⟩, ?_⟩
      walk_at "w"
      have ev : (((h'.num * ((lst f).natAbs : Int)).fdiv ((h'.den : Nat) : Int) : Int) : Rat) / (((lst f).natAbs : Int) : Rat) = ((h'.num * ((lst f).natAbs : Int) / (h'.den : Int) : Int) : Rat) / (((lst f).natAbs : Nat) : Rat) := by
        rw [Int.fdiv_eq_ediv_of_nonneg _ (by omega)]; rfl
      rw [ev]
      refine .inl ⟨f, lo, hi, _, r, rfl, hf, hc, ?_⟩
      walk_at "w"
      by_cases e : r = 0
      · rw [show flEq (D.int r) (D.int 0) = true from decide_eq_true e]
        rw [if_pos e] at h
        walk_at "w"
        exact h
      · rw [show flEq (D.int r) (D.int 0) = false from decide_eq_false e]
        rw [if_neg e] at h
        walk_at "w"
        exact h
  · rintro ds L k x ⟨f, lo, hi, o, rfl, _⟩; rfl
theorem scRootFloor : FnScope ["self", "low", "high", "number"] ["self"] (defScope sRootFloor) := ⟨rfl, rfl, rfl, by decide +kernel, rfl, by decide +kernel, by decide +kernel⟩
theorem ok_RootFloor {f : Addr} {fd : FuncData} (Z : Zn w K mg cR cO) (F : Fun K "floor" "Root.floor" sRootFloor f fd) (MRootWithin : MCal P w K mg base 8 cO "within" ["self", "width"] [] (withS cO)) (MRootCompare : MCal P w K mg base 9 cO "compare" ["self", "other"] [] (cmpS cO)) : FnOk P w K mg base (L2.CX P w) 10 f fd ["self"] (spD K (floorS cO)) := by
  refine fn_ok F scRootFloor ?len (fun cdv A outer s H E hr => ?_)
  rotate_left
  · have tk := takes_of (X := cxOf (L2.CX P w) P w K mg base ["self", "low", "high", "number"] "Root.floor" (defScope sRootFloor) f cdv A outer s H E) (E := E) rfl rfl rfl rfl
    have hp := passes_of (X := cxOf (L2.CX P w) P w K mg base ["self", "low", "high", "number"] "Root.floor" (defScope sRootFloor) f cdv A outer s H E) rfl
    refine ⟨_, (ss_cons (s_asg (q_meth MRootWithin (by first | decide | exact Nat.le_refl _ | omega) hr tk (qv 0) (a_cons (q_tup (a_cons q_int (a_cons q_int a_nil))) a_nil)) (g_tup (n := 2) rfl (gs_cons (g_name 1 scRootFloor.nd) (gs_cons (g_name 2 scRootFloor.nd) gs_nil))))
  (ss_cons (s_set 3 scRootFloor.nd (q_op oq_fdiv (q_ix (qv 2) q_int) (q_ix (qv 2) q_int)))
  (ss_one (s_ret (q_if (t_cmp oq_ge (q_meth MRootCompare (by first | decide | exact Nat.le_refl _ | omega) hr tk (qv 0) (a_cons (q_tup (a_cons (qv 3) (a_cons q_int a_nil))) a_nil)) q_int) (qv 3) (q_op oq_sub (qv 3) q_int)))))), ?_⟩
    clear tk hp
    rintro ds L k x ⟨f, lo, hi, n, rfl, hf, hr, h⟩
    cases hr with
    | mk hw sh hc =>
      rename_i l h' r
      walk_at "w"
      refine ⟨⟨rfl, rfl⟩, ?_⟩
      walk_at "w"
      refine ⟨sz_ok rfl, ?_⟩
      walk_at "w"
      refine ⟨f, lo, hi, _, l, h', by rw [half_half]; rfl, hf, sb_half, hw, ?_⟩
      walk_at "w"
      refine ⟨rfl, ?_⟩
      walk_at "w"
      refine ⟨⟨den_nz h', lim_log (smd sh) (by decide)⟩, ?_⟩
      walk_at "w"
      refine ⟨⟨rfl, rfl⟩, ?_⟩
      walk_at "w"
      refine ⟨sz_ok rfl, ?_⟩
      walk_at "w"
      have ef : (fun i j : Int => D.int (i.fdiv j)) h'.num ((h'.den : Nat) : Int) = D.int (h'.num / (h'.den : Int)) := congrArg D.int (Int.fdiv_eq_ediv_of_nonneg _ (by omega))
      rw [ef, ← ratD_int]
      refine .inl ⟨f, lo, hi, _, r, rfl, hf, hc, ?_⟩
      walk_at "w"
      by_cases e : 0 ≤ r
      · rw [decide_eq_true e]
        rw [if_pos e] at h
        walk_at "w"
        exact h
      · rw [decide_eq_false e]
        rw [if_neg e] at h
        walk_at "w"
        exact h
  · rintro ds L k x ⟨f, lo, hi, n, rfl, _⟩; rfl
theorem scRootWritten : FnScope ["self", "found"] ["self"] (defScope sRootWritten) := ⟨rfl, rfl, rfl, by decide +kernel, rfl, by decide +kernel, by decide +kernel⟩
theorem ok_RootWritten {f : Addr} {fd : FuncData} (Z : Zn w K mg cR cO) (F : Fun K "written" "Root.written" sRootWritten f fd) (CRatioText : Cal P w K mg base 1 "ratio_text" ["one"] [] txtS) (MRootRatio : MCal P w K mg base 10 cO "ratio" ["self"] [] (ratioS cO)) (MRootFloor : MCal P w K mg base 10 cO "floor" ["self"] [] (floorS cO)) : FnOk P w K mg base (L2.CX P w) 11 f fd ["self"] (spD K (wrS cO)) := by
  refine fn_ok F scRootWritten ?len (fun cdv A outer s H E hr => ?_)
  rotate_left
  · have tk := takes_of (X := cxOf (L2.CX P w) P w K mg base ["self", "found"] "Root.written" (defScope sRootWritten) f cdv A outer s H E) (E := E) rfl rfl rfl rfl
    have hp := passes_of (X := cxOf (L2.CX P w) P w K mg base ["self", "found"] "Root.written" (defScope sRootWritten) f cdv A outer s H E) rfl
    refine ⟨_, (ss_cons (s_set 1 scRootWritten.nd (q_meth0 MRootRatio (by first | decide | exact Nat.le_refl _ | omega) hr tk (qv 0)))
  (ss_one (s_ret (q_if (t_cmp oq_notN (qv 1) q_non) (q_cal CRatioText (by first | decide | exact Nat.le_refl _ | omega) hr tk (by rfl) (a_cons (qv 1) a_nil)) (q_joined (j_cons q_str (j_cons (q_fmt (q_meth0 MRootFloor (by first | decide | exact Nat.le_refl _ | omega) hr tk (qv 0))) j_nil))))))), ?_⟩
    clear tk hp
    rintro ds L k x ⟨f, lo, hi, o, n, rfl, hf, hr, sq, hn, h⟩
    walk_at "w"
    refine ⟨⟨rfl, rfl⟩, f, lo, hi, o, rfl, hf, hr, ?_⟩
    cases o with
    | some q =>
      obtain ⟨q1, q2⟩ := sq q rfl
      walk_at "w"
      exact ⟨q.num, (q.den : Int), rfl, q1, by rw [Int.natAbs_natCast]; exact q2, h⟩
    | none =>
      obtain ⟨n1, n2⟩ := hn rfl
      have l6 : ((Str.empty : Str) ++ Str.ofString "about ").length = 6 := by decide +kernel
      have lg : n.natAbs.log2 < 1920 := by
        by_cases h0 : n.natAbs = 0
        · rw [h0]; decide
        · exact Nat.lt_trans ((Nat.log2_lt h0).mpr (Nat.lt_trans n2 (by decide +kernel : 10 ^ 30 < 2 ^ 100))) (by decide)
      have ll : (Str.ofString (toString n)).length ≤ 31 := by
        rw [tl_len, tl_int]
        have := numL_len (by decide) n2
        unfold intL
        split
        · rw [List.length_cons]; omega
        · omega
      refine ⟨by rw [l6]; decide, ?_⟩
      walk_at "w"
      refine ⟨⟨rfl, rfl⟩, f, lo, hi, n, rfl, hf, n1, ?_⟩
      walk_at "w"
      refine ⟨lg, ?_⟩
      walk_at "w"
      refine ⟨by rw [app_len, l6]; exact Nat.le_trans (show 6 + _ ≤ 100 by omega) (by decide), ?_⟩
      exact h
  · rintro ds L k x ⟨f, lo, hi, o, n, rfl, _⟩; rfl
end
end T15
namespace ST
open RO PO L2 DL
theorem sq_mono {x y : Rat} (h0 : 0 ≤ x) (h : x ≤ y) : x * x ≤ y * y := by
  have h1 := Rat.mul_nonneg h0 (show 0 ≤ y - x by grind)
  have h2 := Rat.mul_nonneg (show 0 ≤ y by grind) (show 0 ≤ y - x by grind)
  grind
theorem sq_lt {x y : Rat} (h0 : 0 ≤ x) (h : x < y) : x * x < y * y := by
  have h1 := Rat.mul_nonneg h0 (show 0 ≤ y - x by grind)
  have h2 := Rat.mul_pos (show 0 < y by grind) (show 0 < y - x by grind)
  grind
theorem lt_of_sq {x y : Rat} (h0 : 0 ≤ y) (h : x * x < y * y) : x < y := by
  apply Classical.byContradiction
  intro k
  have := sq_mono h0 (show y ≤ x by grind)
  grind
/-- the square root of a ratio above 0 -/
def sqCut (q : Rat) (hq : 0 < q) : Cut where
  lo x := x < 0 ∨ x * x < q
  hi x := 0 < x ∧ q < x * x
  lo_ex := ⟨-1, .inl (by decide)⟩
  hi_ex := ⟨q + 1, by grind, by
    have := Rat.mul_pos hq hq
    grind⟩
  lo_dn {x y} h k := by
    by_cases c : x < 0
    · exact .inl c
    · rcases k with k | k
      · exact .inl (by grind)
      · exact .inr (by have := sq_mono (show 0 ≤ x by grind) h; grind)
  hi_up {x y} h k := ⟨by have := k.1; grind, by have := sq_mono (show 0 ≤ x by have := k.1; grind) h; have := k.2; grind⟩
  dis {x y} h k := by
    rcases h with h | h
    · have := k.1; grind
    · exact lt_of_sq (by have := k.1; grind) (by have := k.2; grind)
  loc {x y} h := by
    by_cases c : x < 0
    · exact .inl (.inl c)
    · by_cases d : x * x < q
      · exact .inl (.inr d)
      · exact .inr ⟨by grind, by have := sq_lt (show 0 ≤ x by grind) h; grind⟩
  lo_op {x} h := by
    by_cases c : x < 0
    · exact ⟨x / 2, by grind, .inl (by grind)⟩
    · have d : x * x < q := h.resolve_left c
      -- x + e with e small
      have b0 : 0 < 2 * x + 1 := by grind
      obtain ⟨e, e0, e1, e2⟩ := min_pos (show (0 : Rat) < 1 by decide) (show 0 < (q - x * x) / (2 * (2 * x + 1)) from by rw [Rat.div_def]; exact Rat.mul_pos (by grind) (Rat.inv_pos.mpr (by grind)))
      refine ⟨x + e, by grind, .inr ?_⟩
      have h1 : (2 * x + 1) * ((q - x * x) / (2 * (2 * x + 1))) = (q - x * x) / 2 := by grind
      have h2 : 0 ≤ (2 * x + 1) * ((q - x * x) / (2 * (2 * x + 1)) - e) := Rat.mul_nonneg (by grind) (by grind)
      have h3 : 0 ≤ e * (1 - e) := Rat.mul_nonneg (by grind) (by grind)
      grind
  hi_op {x} h := by
    obtain ⟨x0, hx⟩ := h
    obtain ⟨e, e0, e1, e2⟩ := min_pos (show 0 < x / 2 by grind) (show 0 < (x * x - q) / (4 * x) from by rw [Rat.div_def]; exact Rat.mul_pos (by grind) (Rat.inv_pos.mpr (by grind)))
    refine ⟨x - e, by grind, by grind, ?_⟩
    have h1 : x * ((x * x - q) / (4 * x)) = (x * x - q) / 4 := by grind
    have h2 : 0 ≤ x * ((x * x - q) / (4 * x) - e) := Rat.mul_nonneg (by grind) (by grind)
    have h3 : 0 ≤ e * e := Rat.mul_nonneg (by grind) (by grind)
    grind
/-- the negative of a cut -/
def negCut (c : Cut) : Cut where
  lo x := c.hi (-x)
  hi x := c.lo (-x)
  lo_ex := by obtain ⟨x, h⟩ := c.hi_ex; exact ⟨-x, by rwa [show - -x = x from by grind]⟩
  hi_ex := by obtain ⟨x, h⟩ := c.lo_ex; exact ⟨-x, by rwa [show - -x = x from by grind]⟩
  lo_dn h k := c.hi_up (by grind) k
  hi_up h k := c.lo_dn (by grind) k
  dis h k := by have := c.dis k h; grind
  loc {x y} h := (c.loc (show -y < -x by grind)).symm
  lo_op {x} h := by obtain ⟨y, h1, h2⟩ := c.hi_op h; exact ⟨-y, by grind, by rwa [show - -y = y from by grind]⟩
  hi_op {x} h := by obtain ⟨y, h1, h2⟩ := c.lo_op h; exact ⟨-y, by grind, by rwa [show - -y = y from by grind]⟩
theorem ei_sq (t u : Int) (x : Rat) : ei [-t, 0, u] x = (u : Rat) * (x * x) - (t : Rat) := by
  rw [ei_cons, ei_cons, ei_cons, ei_nil, Rat.intCast_neg, show ((0 : Int) : Rat) = 0 from rfl]; grind
theorem div_pos {t u : Int} (ht : 0 < t) (hu : 0 < u) : (0 : Rat) < (t : Rat) / (u : Rat) := by
  rw [Rat.div_def]
  exact Rat.mul_pos (Rat.intCast_pos.mpr ht) (Rat.inv_pos.mpr (Rat.intCast_pos.mpr hu))
section
variable {t u : Int} (ht : 0 < t) (hu : 0 < u)
abbrev sqP : Cut := sqCut ((t : Rat) / (u : Rat)) (div_pos ht hu)
abbrev sqN : Cut := negCut (sqP ht hu)
include hu in
theorem sq_sign (x : Rat) : (x * x < (t : Rat) / (u : Rat) ↔ ei [-t, 0, u] x < 0) ∧ ((t : Rat) / (u : Rat) < x * x ↔ 0 < ei [-t, 0, u] x) := by
  have uq : (0 : Rat) < (u : Rat) := Rat.intCast_pos.mpr hu
  have e : (u : Rat) * ((t : Rat) / (u : Rat)) = (t : Rat) := by grind
  rw [ei_sq]
  constructor
  · constructor
    · intro h
      have := Rat.mul_lt_mul_of_pos_left h uq
      grind
    · intro h
      apply Classical.byContradiction
      intro k
      have := Rat.mul_le_mul_of_nonneg_left (show (t : Rat) / (u : Rat) ≤ x * x by grind) (Rat.le_of_lt uq)
      grind
  · constructor
    · intro h
      have := Rat.mul_lt_mul_of_pos_left h uq
      grind
    · intro h
      apply Classical.byContradiction
      intro k
      have := Rat.mul_le_mul_of_nonneg_left (show x * x ≤ (t : Rat) / (u : Rat) by grind) (Rat.le_of_lt uq)
      grind
/-- a cut with values at most 0 and at least 0 as close as one likes is a root -/
theorem z_of_signs {c : Cut} {p : List Rat} (h1 : ∀ δ, 0 < δ → ∃ x, c.near δ x ∧ ev p x ≤ 0) (h2 : ∀ δ, 0 < δ → ∃ x, c.near δ x ∧ 0 ≤ ev p x) : Z c (ev p) := by
  rcases tri c p with h | ⟨ε, δ, e0, d0, k⟩ | ⟨ε, δ, e0, d0, k⟩
  · exact h
  · obtain ⟨x, nx, hx⟩ := h1 δ d0
    have := k x nx
    grind
  · obtain ⟨x, nx, hx⟩ := h2 δ d0
    have := k x nx
    grind
theorem sqP_z : Z (sqP ht hu) (ei [-t, 0, u]) := by
  refine z_of_signs (fun δ d0 => ?_) (fun δ d0 => ?_)
  · obtain ⟨a, b, ha, hb, na, nb⟩ := (sqP ht hu).near_ex d0
    by_cases c : a < 0
    · refine ⟨0, Cut.near_mid na nb (by grind) (by have := hb.1; grind), ?_⟩
      show ei [-t, 0, u] 0 ≤ 0
      rw [ei_sq]
      have := Rat.intCast_pos.mpr ht
      grind
    · refine ⟨a, na, ?_⟩
      have := (sq_sign hu a).1.mp (ha.resolve_left c)
      show ei [-t, 0, u] a ≤ 0
      grind
  · obtain ⟨a, b, ha, hb, na, nb⟩ := (sqP ht hu).near_ex d0
    refine ⟨b, nb, ?_⟩
    have := (sq_sign hu b).2.mp hb.2
    show 0 ≤ ei [-t, 0, u] b
    grind
theorem near_neg {c : Cut} {δ x : Rat} (h : (negCut c).near δ x) : c.near δ (-x) := ⟨by have := h.2; rwa [show -x - δ = -(x + δ) from by grind], by have := h.1; rwa [show -x + δ = -(x - δ) from by grind]⟩
theorem sqN_z : Z (sqN ht hu) (ei [-t, 0, u]) := fun ε e0 => by
  obtain ⟨δ, d0, k⟩ := sqP_z ht hu ε e0
  refine ⟨δ, d0, fun x nx => ?_⟩
  have := k (-x) (near_neg nx)
  rw [ei_sq] at this ⊢
  rwa [show -x * -x = x * x from by grind] at this
theorem sq_all {c : Cut} (z : Z c (ei [-t, 0, u])) : Eqv (sqN ht hu) c ∨ Eqv (sqP ht hu) c := by
  have uq : (0 : Rat) < (u : Rat) := Rat.intCast_pos.mpr hu
  rcases cut_tri c (sqP ht hu) with ⟨x, h1, h2⟩ | ⟨x, h1, h2⟩ | h
  · rcases cut_tri c (sqN ht hu) with ⟨y, k1, k2⟩ | ⟨y, k1, k2⟩ | k
    · -- c below the negative root
      exfalso
      have k2 : 0 < -y ∧ (t : Rat) / (u : Rat) < -y * -y := k2
      obtain ⟨w, wy, hw⟩ := c.hi_op k1
      refine z.not_pos ⟨ei [-t, 0, u] y, y - w, ?_, by grind, fun v nv => ?_⟩
      · refine (sq_sign hu y).2.mp ?_
        have := k2.2
        rwa [show -y * -y = y * y from by grind] at this
      · have := c.dis nv.1 hw
        rw [ei_sq, ei_sq]
        have := sq_mono (show 0 ≤ -y by have := k2.1; grind) (show -y ≤ -v by grind)
        have := Rat.mul_le_mul_of_nonneg_left this (Rat.le_of_lt uq)
        grind
    · -- between both
      exfalso
      have k1 : -y < 0 ∨ -y * -y < (t : Rat) / (u : Rat) := k1
      have h2 : x < 0 ∨ x * x < (t : Rat) / (u : Rat) := h2
      have xy := c.dis k2 h1
      -- the greater of x and -y
      obtain ⟨A, a1, a2, a3⟩ : ∃ A, x ≤ A ∧ -y ≤ A ∧ (A = x ∨ A = -y) := by
        by_cases q : x ≤ -y
        · exact ⟨-y, q, by grind, .inr rfl⟩
        · exact ⟨x, by grind, by grind, .inl rfl⟩
      have A0 : 0 ≤ A := by grind
      have AA : A * A < (t : Rat) / (u : Rat) := by
        rcases a3 with rfl | rfl
        · exact h2.resolve_left (by grind)
        · exact k1.resolve_left (by grind)
      have fA := (sq_sign hu A).1.mp AA
      obtain ⟨x', xx, hx'⟩ := c.hi_op h1
      obtain ⟨y', yy, hy'⟩ := c.lo_op k2
      obtain ⟨δ, d0, d1, d2⟩ := min_pos (show 0 < x - x' by grind) (show 0 < y' - y by grind)
      refine z.not_neg ⟨-(ei [-t, 0, u] A), δ, by grind, d0, fun v nv => ?_⟩
      have := c.dis nv.1 hx'
      have := c.dis hy' nv.2
      rw [ei_sq, ei_sq]
      have vv : v * v ≤ A * A := by
        by_cases q : 0 ≤ v
        · exact sq_mono q (by grind)
        · have := sq_mono (show 0 ≤ -v by grind) (show -v ≤ A by grind)
          grind
      have := Rat.mul_le_mul_of_nonneg_left vv (Rat.le_of_lt uq)
      grind
    · exact .inl k.symm
  · exfalso
    have h1 : 0 < x ∧ (t : Rat) / (u : Rat) < x * x := h1
    obtain ⟨w, xw, hw⟩ := c.lo_op h2
    refine z.not_pos ⟨ei [-t, 0, u] x, w - x, (sq_sign hu x).2.mp h1.2, by grind, fun v nv => ?_⟩
    have := c.dis hw nv.2
    rw [ei_sq, ei_sq]
    have := sq_mono (show 0 ≤ x by have := h1.1; grind) (show x ≤ v by grind)
    have := Rat.mul_le_mul_of_nonneg_left this (Rat.le_of_lt uq)
    grind
  · exact .inr h.symm
theorem sqP_lo0 : (sqP ht hu).lo 0 := .inr (by
  have := div_pos ht hu
  grind)
theorem sq_ne : ¬ Eqv (sqN ht hu) (sqP ht hu) := fun e => by
  have := (e 0).1.mpr (sqP_lo0 ht hu)
  have this : 0 < -(0 : Rat) ∧ _ := this
  have := this.1
  grind
theorem sq_cuts : Cuts (iq [-t, 0, u]) [sqN ht hu, sqP ht hu] where
  z d hd := by
    rcases List.mem_cons.mp hd with rfl | hd
    · exact sqN_z ht hu
    · rw [List.mem_singleton.mp hd]; exact sqP_z ht hu
  all c z := by
    rcases sq_all ht hu z with h | h
    · exact ⟨_, List.mem_cons_self, h⟩
    · exact ⟨_, List.mem_cons_of_mem _ List.mem_cons_self, h⟩
  one := by
    refine List.pairwise_cons.mpr ⟨fun d hd => ?_, List.pairwise_cons.mpr ⟨(fun _ h => by cases h), List.Pairwise.nil⟩⟩
    rw [List.mem_singleton.mp hd]
    exact sq_ne ht hu
end
theorem sq_tr {t u : Int} (hu : 0 < u) : Tr [-t, 0, u] := fun a z e => by
  match a, e with
  | [], e => simp at e
  | [_], e => simp at e
  | [_, _], e => simp at e; omega
  | _ :: _ :: _ :: _, e => simp at e
theorem sq_sz {t u : Int} (ht : t.natAbs < 256) (hu : u.natAbs < 256) : Sz 8 [-t, 0, u] := fun v hv => by
  simp at hv
  rcases hv with rfl | rfl | rfl
  · rw [Int.natAbs_neg]; exact ht
  · decide
  · exact hu
theorem sq_cop {t u : Int} (ht : 0 < t) : Cop [-t, 0, u] (derI [-t, 0, u]) := by
  refine ⟨[-2], [0, 1], 2 * (t : Rat), by have := Rat.intCast_pos.mpr ht; grind, fun x => ?_⟩
  rw [ei_sq, show derI [-t, 0, u] = [1 * 0, (1 + 1) * u] from rfl, ei_cons, ei_cons, ei_nil, Rat.intCast_mul, Rat.intCast_mul, Rat.intCast_add]
  rw [show ((0 : Int) : Rat) = 0 from rfl, show ((1 : Int) : Rat) = 1 from rfl]
  show (-2 + x * 0) * _ + (0 + x * (1 + x * 0)) * _ = _
  grind
theorem sq_cnt {t u : Int} (ht : 0 < t) (hu : 0 < u) (h1 : t.natAbs < 256) (h2 : u.natAbs < 256) : Cnt [-t, 0, u] [sqN ht hu, sqP ht hu] := by
  have C := sq_cuts ht hu
  refine ⟨C, count_ex (n := 2) (a := 8) (e := 2) (sq_tr hu) (by simp) (sq_sz h1 h2) (by simp) (show 3 ≤ 2 ^ 2 by decide) (by decide) (by decide) (by decide) (a' := 8) (fun f F => ?_) (by decide) C⟩
  rw [free_cop (sq_tr hu) (by simp) F (sq_cop ht)]
  exact primI_sz (sq_tr hu) (sq_sz h1 h2)
end ST
namespace ST
open RO PO L2 DL
theorem Eqv.refl (c : Cut) : Eqv c c := fun _ => ⟨Iff.rfl, Iff.rfl⟩
theorem Cut.nlo {c : Cut} {x : Rat} (h : c.hi x) : ¬ c.lo x := fun k => by have := c.dis k h; grind
/-- u p + v q = D: a root of q is not close to a root of p -/
theorem far_cop {p q U V : List Rat} {D M A K δ : Rat} (e : ∀ x, ev U x * ev p x + ev V x * ev q x = D) (dM : 1 ≤ M) (hA : 0 ≤ A) (hU : ∀ x, Bd x M → Bd (ev U x) A) (hK : 0 ≤ K) (hL : ∀ x y d, Bd x M → Bd y M → Bd (x - y) d → Bd (ev p x - ev p y) (K * d))
    (d0 : 0 ≤ δ) (d1 : δ ≤ 1) (hD : ¬ Bd D (A * (K * δ))) {c d : Cut} (zc : Z c (ev p)) (zd : Z d (ev q)) (c1 : c.lo (-(M - 2))) (c2 : c.hi (M - 2)) : Far c d δ := by
  intro lo hi ic id
  apply Classical.byContradiction
  intro hw
  obtain ⟨B, b0, hB⟩ := ev_bd M (by grind) V
  -- how far D is above the bound
  obtain ⟨g, g0, hg⟩ : ∃ g, 0 < g ∧ ¬ Bd D (A * (K * δ) + g) := by
    by_cases h : A * (K * δ) < D
    · exact ⟨(D - A * (K * δ)) / 2, by grind, fun q => by have := q.2; grind⟩
    · have h2 : D < -(A * (K * δ)) := by
        apply Classical.byContradiction
        intro k
        exact hD ⟨by grind, by grind⟩
      exact ⟨(-(A * (K * δ)) - D) / 2, by grind, fun q => by have := q.1; grind⟩
  have s0 : 0 < A + 2 * (A * K) + B + 1 := by
    have := Rat.mul_nonneg hA hK
    grind
  obtain ⟨ε, e0, e1, e2⟩ := min_pos (show (0 : Rat) < 1 / 4 by grind) (show 0 < g / (A + 2 * (A * K) + B + 1) from by rw [Rat.div_def]; exact Rat.mul_pos g0 (Rat.inv_pos.mpr s0))
  have hs : (A + 2 * (A * K) + B + 1) * (g / (A + 2 * (A * K) + B + 1)) = g := by grind
  obtain ⟨δ1, p1, k1⟩ := zc ε e0
  obtain ⟨δ2, p2, k2⟩ := zd ε e0
  obtain ⟨m1, q1, q2, q3⟩ := min_pos p1 e0
  obtain ⟨m2, r1, r2, r3⟩ := min_pos p2 e0
  obtain ⟨x, _, lx, _, nx, _⟩ := c.near_ex q1
  obtain ⟨y, _, ly, _, ny, _⟩ := d.near_ex r1
  have x1 : lo < x + ε := by have := c.dis ic.1 nx.2; grind
  have x2 : x - ε < hi := by
    apply Classical.byContradiction
    intro k
    exact ic.2 (c.lo_dn (show hi ≤ x - m1 by grind) nx.1)
  have y1 : lo < y + ε := by have := d.dis id.1 ny.2; grind
  have y2 : y - ε < hi := by
    apply Classical.byContradiction
    intro k
    exact id.2 (d.lo_dn (show hi ≤ y - m2 by grind) ny.1)
  have x3 : -(M - 2) < x + ε := by have := c.dis c1 nx.2; grind
  have x4 : x - ε < M - 2 := by have := c.dis nx.1 c2; grind
  have bx : Bd x M := ⟨by grind, by grind⟩
  have by' : Bd y M := ⟨by grind, by grind⟩
  have dxy : Bd (y - x) (δ + 2 * ε) := ⟨by grind, by grind⟩
  have b1 := hL y x _ by' bx dxy
  have b2 := k1 x (Cut.near_le nx q2)
  have b3 := k2 y (Cut.near_le ny r2)
  have b4 : Bd (ev p y) (K * (δ + 2 * ε) + ε) := by
    have := b1.add b2
    rwa [show ev p y - ev p x + ev p x = ev p y from by grind] at this
  have b5 := (hU y by').mul b4
  have b6 := (hB y by').mul b3
  have b7 := b5.add b6
  rw [e y] at b7
  refine hg (b7.le ?_)
  have h1 := Rat.mul_le_mul_of_nonneg_left e2 (Rat.le_of_lt s0)
  rw [hs] at h1
  grind
/-- both in a short interval, or the intervals are apart -/
theorem far_two {c d : Cut} {δ : Rat} (h : Far c d (2 * δ)) : ∀ l1 h1 l2 h2, In c l1 h1 → In d l2 h2 → h1 - l1 ≤ δ → h2 - l2 ≤ δ → ¬ (l1 < h2 ∧ l2 < h1) := by
  rintro l1 h1 l2 h2 ic id w1 w2 ⟨k1, k2⟩
  have a := ic.lt
  have b := id.lt
  obtain ⟨l, la, lb, lc⟩ := min_le l1 l2
  obtain ⟨m, ma, mb, mc⟩ : ∃ m, h1 ≤ m ∧ h2 ≤ m ∧ (m = h1 ∨ m = h2) := by
    by_cases q : h1 ≤ h2
    · exact ⟨h2, q, by grind, .inr rfl⟩
    · exact ⟨h1, by grind, by grind, .inl rfl⟩
  have := h l m ⟨c.lo_dn la ic.1, fun q => ic.2 (c.lo_dn ma q)⟩ ⟨d.lo_dn lb id.1, fun q => id.2 (d.lo_dn mb q)⟩
  rcases lc with rfl | rfl <;> rcases mc with rfl | rfl <;> grind
theorem far_gap {c d : Cut} {a b : Rat} (h1 : c.hi a) (h2 : d.lo b) (g : a ≤ b) : Far c d (b - a) ∧ Far d c (b - a) := by
  have key : ∀ lo hi, In c lo hi → In d lo hi → b - a < hi - lo := fun lo hi ic id => by
    have x := c.dis ic.1 h1
    have y : b < hi := by
      apply Classical.byContradiction
      intro k
      exact id.2 (d.lo_dn (by grind) h2)
    grind
  exact ⟨key, fun lo hi id ic => key lo hi ic id⟩
theorem Far.mono {c d : Cut} {δ δ' : Rat} (h : Far c d δ) (k : δ' ≤ δ) : Far c d δ' := fun lo hi ic id => by have := h lo hi ic id; grind
theorem Far.eqv {c d d' : Cut} {δ : Rat} (h : Far c d δ) (k : Eqv d d') : Far c d' δ := fun lo hi ic id => h lo hi ic (k.symm.inn id)
theorem cop_prim {p q : List Int} (tp : Tr p) (np : p ≠ []) (h : Cop p q) : Cop (primI p) q := by
  obtain ⟨u, v, D, d0, e⟩ := h
  refine ⟨smulq ((signed p : Int) : Rat) u, v, D, d0, fun x => ?_⟩
  have := e x
  rw [primI_ei tp np x] at this
  rw [ev_smul]
  grind
theorem der_prim {p : List Int} (tp : Tr p) (np : p ≠ []) (x : Rat) : ei (derI p) x = ((signed p : Int) : Rat) * ei (derI (primI p)) x := by
  rw [ei_der, ei_der, ← ev_dsmul]
  refine d_congr (fun y => ?_) x
  rw [ev_smul]
  exact primI_ei tp np y
theorem cop_primd {p : List Int} (tp : Tr p) (np : p ≠ []) (h : Cop p (derI p)) : Cop (primI p) (derI (primI p)) := by
  obtain ⟨u, v, D, d0, e⟩ := h
  refine ⟨smulq ((signed p : Int) : Rat) u, smulq ((signed p : Int) : Rat) v, D, d0, fun x => ?_⟩
  have := e x
  rw [primI_ei tp np x, der_prim tp np x] at this
  rw [ev_smul, ev_smul]
  grind
theorem z_prim {p : List Int} (tp : Tr p) (np : p ≠ []) (c : Cut) : Z c (ei p) ↔ Z c (ei (primI p)) := by
  have s0 := cast0 (signed_ne tp np)
  constructor
  · intro z
    refine (z.smul (((signed p : Int) : Rat)⁻¹)).congr fun x => ?_
    rw [primI_ei tp np x]
    have : (((signed p : Int) : Rat))⁻¹ * ((signed p : Int) : Rat) = 1 := by grind
    grind
  · intro z
    exact (z.smul ((signed p : Int) : Rat)).congr fun x => (primI_ei tp np x).symm
theorem primI_twice {p : List Int} (tp : Tr p) (np : p ≠ []) : primI (primI p) = primI p := by
  have t := primI_tr tp
  have n : primI p ≠ [] := fun q => np (List.map_eq_nil_iff.mp q)
  exact prop_eq (primI_tr t) (fun q => n (List.map_eq_nil_iff.mp q)) (primI_prm t n) (primI_lst t n) t n (primI_prm tp np) (primI_lst tp np) (dv_primI t n).1 (dv_primI t n).2
/-- sizes that are enough for short lists -/
structure Small (n a e : Nat) : Prop where
  n9 : n ≤ 50
  h : cbits n a (a + e) ≤ Lim
  q : a + (n + 1) * (cbits n a (a + e) + 1) ≤ 2 * Lim
theorem small2 : Small 2 12 2 := ⟨by decide, by decide, by decide⟩
/-- a list without multiple roots: its primitive list is what free_list tells, and counting works for it -/
theorem prim_cnt {n a e : Nat} (S : Small n a e) {p : List Int} (tp : Tr p) (np : p ≠ []) (sp : Sz a p) (lp : p.length ≤ n + 1) (le : p.length ≤ 2 ^ e) (hc : Cop p (derI p)) {cs : List Cut} (C : Cuts (iq p) cs) :
    FreeR p (primI p) ∧ Cnt (primI p) cs ∧ Cnt p cs := by
  obtain ⟨f, f1, f2, _⟩ := free_ex tp np sp lp le (by have := S.n9; omega) S.h S.q
  have ef := free_cop tp np f2 hc
  subst ef
  have t := primI_tr tp
  have n' : primI p ≠ [] := fun q => np (List.map_eq_nil_iff.mp q)
  have C' : Cuts (iq (primI p)) cs := C.congr fun c => z_prim tp np c
  refine ⟨f1, ⟨C', ?_⟩, ⟨C, ?_⟩⟩
  · refine count_ex t n' (primI_sz tp sp) (by rw [primI_len]; exact lp) (by rw [primI_len]; exact le) S.n9 S.h S.q (a' := a) (fun g G => ?_) S.h C'
    rw [free_cop t n' G (cop_primd tp np hc), primI_twice tp np]
    exact primI_sz tp sp
  · refine count_ex tp np sp lp le S.n9 S.h S.q (a' := a) (fun g G => ?_) S.h C
    rw [free_cop tp np G hc]
    exact primI_sz tp sp
theorem dy_far (B : Nat) : Dy B 0 (-((B : Nat) : Rat)) ∧ Dy B 0 0 ∧ Dy B 0 ((B : Nat) : Rat) := by
  refine ⟨?_, ?_, ?_⟩
  · have := Dy.int (B := B) (z := -(B : Int)) (by omega)
    rwa [Rat.intCast_neg] at this
  · exact Dy.int (B := B) (z := 0) (by omega)
  · exact Dy.int (B := B) (z := (B : Int)) (by omega)
theorem dy_sm {B : Nat} (hB : B < 2 ^ 100) {r : Rat} (h : Dy B 0 r) : Sm r := h.sm hB (by decide)
theorem far_le {f : List Int} {M : Nat} (h : ∀ v ∈ f, v.natAbs ≤ M) : farB f ≤ M + 2 := by
  have : maxA f ≤ M := by
    have b : ∀ (l : List Int) (M m : Nat), m ≤ M → (∀ w ∈ l, w.natAbs ≤ M) → l.foldl (fun m v => max m v.natAbs) m ≤ M := fun l => by
      induction l with
      | nil => intro M m h _; exact h
      | cons w l ih =>
        intro M m h k
        exact ih M (max m w.natAbs) (by have := k w List.mem_cons_self; omega) fun u hu => k u (List.mem_cons_of_mem _ hu)
    exact b f M 0 (Nat.zero_le _) h
  unfold farB
  have := Nat.div_le_self (maxA f) (lst f).natAbs
  omega
/-- two roots, 0 between them -/
theorem root_two {row f : List Int} (hf : FreeR row f) (tf : Tr f) (nf : f ≠ []) (sf : Sz Lim f) (lf : f.length ≤ 60) {c d : Cut} (C : Cnt f [c, d]) (hB : farB f < 2 ^ 100) (hc : ¬ c.lo 0) (hd : d.lo 0) :
    (RootR row 0 f (-((farB f : Nat) : Rat)) 0 ∧ Iso f c (-((farB f : Nat) : Rat)) 0) ∧ (RootR row 1 f 0 ((farB f : Nat) : Rat) ∧ Iso f d 0 ((farB f : Nat) : Rat)) := by
  have zc := C.c.z c List.mem_cons_self
  have zd := C.c.z d (List.mem_cons_of_mem _ List.mem_cons_self)
  obtain ⟨c1, c2⟩ := z_in tf nf zc
  obtain ⟨d1, d2⟩ := z_in tf nf zd
  obtain ⟨y1, y2, y3⟩ := dy_far (farB f)
  have B0 : (0 : Rat) ≤ ((farB f : Nat) : Rat) := Rat.natCast_nonneg
  have ic : In c (-((farB f : Nat) : Rat)) 0 := ⟨c1, hc⟩
  have id : In d 0 ((farB f : Nat) : Rat) := ⟨hd, Cut.nlo d2⟩
  have ncd : ∀ e, Eqv e c → Eqv e d → False := fun e h k => hc ((h 0).1.mp ((k 0).1.mpr hd))
  have only : ∀ e, Z e (ei f) → Eqv c e ∨ Eqv d e := fun e he => by
    obtain ⟨g, hg, k⟩ := C.c.all e he
    rcases List.mem_cons.mp hg with rfl | hg
    · exact .inl k
    · rw [List.mem_singleton.mp hg] at k; exact .inr k
  have Ic : Iso f c (-((farB f : Nat) : Rat)) 0 := ⟨zc, ic, fun e he ie => (only e he).elim (fun k => k.symm) fun k => absurd ((k 0).1.mp hd) ie.2⟩
  have Id : Iso f d 0 ((farB f : Nat) : Rat) := ⟨zd, id, fun e he ie => (only e he).elim (fun k => absurd ((k 0).1.mpr ie.1) hc) fun k => k.symm⟩
  have s1 := dy_sm hB y1
  have s2 := dy_sm hB y2
  have s3 := dy_sm hB y3
  have n0 := C.r none none (fun _ _ h => by cases h) (fun _ _ h => by cases h)
  have w1 := C.at (Rat.le_of_lt ic.lt) s1 s2.bd
  rw [Ic.cnt C.c] at w1
  have w2 := C.at (Rat.le_of_lt id.lt) s2 s3.bd
  rw [Id.cnt C.c] at w2
  have w3 := C.at (show -((farB f : Nat) : Rat) ≤ ((farB f : Nat) : Rat) by grind) s1 s3.bd
  have e3 : cnt [c, d] (-((farB f : Nat) : Rat)) ((farB f : Nat) : Rat) = 2 := by
    rw [cnt, cnt, cnt, if_pos ⟨c1, Cut.nlo c2⟩, if_pos ⟨d1, Cut.nlo d2⟩]
  rw [e3] at w3
  have em : mid (-((farB f : Nat) : Rat)) ((farB f : Nat) : Rat) = 0 := by unfold mid; grind
  refine ⟨⟨.mk hf nf sf lf n0 (by decide) (show (0 : Int) < ((2 : Nat) : Int) - ((0 : Nat) : Int) by decide) (.up s1 s3 w3 (by decide) (by rw [em]; exact w1) (by decide) ?_), Ic⟩, ⟨.mk hf nf sf lf n0 (by decide) (show (1 : Int) < ((2 : Nat) : Int) - ((0 : Nat) : Int) by decide) (.dn s1 s3 w3 (by decide) (by rw [em]; exact w1) (by decide) ?_), Id⟩⟩
  · rw [em]
    exact .done s1 s2 w1 (by decide)
  · rw [em]
    exact .done s2 s3 w2 (by decide)
end ST
namespace ST
open RO PO L2 DL
def DEL : Rat := 1 / 268435456
structure SR (t u : Int) (c : Cut) (f : List Int) (lo hi : Rat) : Prop where
  ht : 0 < t
  hu : 0 < u
  bt : t.natAbs < 256
  bu : u.natAbs < 256
  ef : f = primI [-t, 0, u]
  tr : Tr f
  ne : f ≠ []
  sz : Sz 8 f
  len : f.length = 3
  cn : Cnt f [sqN ht hu, sqP ht hu]
  iso : Iso f c lo hi
  d1 : Dy 300 0 lo
  d2 : Dy 300 0 hi
  wd : hi - lo ≤ 300
theorem sq_roots {t u : Int} (ht : 0 < t) (hu : 0 < u) (bt : t.natAbs < 256) (bu : u.natAbs < 256) : ∃ f lo0 hi0 lo1 hi1, (RootR [-t, 0, u] 0 f lo0 hi0 ∧ SR t u (sqN ht hu) f lo0 hi0) ∧ (RootR [-t, 0, u] 1 f lo1 hi1 ∧ SR t u (sqP ht hu) f lo1 hi1) := by
  have tp := sq_tr (t := t) hu
  have np : [-t, 0, u] ≠ [] := by simp
  have sp := sq_sz bt bu
  obtain ⟨f1, f2, f3⟩ := prim_cnt small2 tp np (sp.mono (by decide)) (show 3 ≤ 2 + 1 by decide) (show 3 ≤ 2 ^ 2 by decide) (sq_cop ht) (sq_cuts ht hu)
  have t' := primI_tr tp
  have n' : primI [-t, 0, u] ≠ [] := fun q => np (List.map_eq_nil_iff.mp q)
  have s' := primI_sz tp sp
  have fB : farB (primI [-t, 0, u]) ≤ 258 := far_le fun v hv => by have := s' v hv; omega
  obtain ⟨⟨r1, i1⟩, ⟨r2, i2⟩⟩ := root_two f1 t' n' (s'.mono (by decide)) (by rw [primI_len]; show 3 ≤ 60; decide) f2 (Nat.lt_of_le_of_lt fB (by decide)) (fun h => by
    have h : 0 < -(0 : Rat) ∧ _ := h
    have := h.1
    grind) (sqP_lo0 ht hu)
  obtain ⟨y1, y2, y3⟩ := dy_far (farB (primI [-t, 0, u]))
  have up : ∀ {r : Rat}, Dy (farB (primI [-t, 0, u])) 0 r → Dy 300 0 r := fun ⟨p, e, h⟩ => ⟨p, e, by omega⟩
  have fq : ((farB (primI [-t, 0, u]) : Nat) : Rat) ≤ 300 := by
    have : farB (primI [-t, 0, u]) ≤ 300 := by omega
    exact Rat.natCast_le_natCast.mpr this
  exact ⟨_, _, _, _, _, ⟨r1, ⟨ht, hu, bt, bu, rfl, t', n', s', by rw [primI_len]; rfl, f2, i1, up y1, up y2, by grind⟩⟩, ⟨r2, ⟨ht, hu, bt, bu, rfl, t', n', s', by rw [primI_len]; rfl, f2, i2, up y2, up y3, by grind⟩⟩⟩
/-- the positive root is between 1 / 16 and 16 -/
theorem sqP_bd {t u : Int} (ht : 0 < t) (hu : 0 < u) (bt : t.natAbs < 256) (bu : u.natAbs < 256) : (sqP ht hu).lo (1 / 16) ∧ (sqP ht hu).hi 16 := by
  have uq : (1 : Rat) ≤ (u : Rat) := by have : (1 : Int) ≤ u := by omega
                                        exact Rat.intCast_le_intCast.mpr this
  have uq2 : (u : Rat) ≤ 255 := by have : u ≤ (255 : Int) := by omega
                                   exact Rat.intCast_le_intCast.mpr this
  have tq : (1 : Rat) ≤ (t : Rat) := by have : (1 : Int) ≤ t := by omega
                                        exact Rat.intCast_le_intCast.mpr this
  have tq2 : (t : Rat) ≤ 255 := by have : t ≤ (255 : Int) := by omega
                                   exact Rat.intCast_le_intCast.mpr this
  refine ⟨.inr ((sq_sign hu _).1.mpr ?_), by decide, (sq_sign hu _).2.mpr ?_⟩
  · rw [ei_sq]; grind
  · rw [ei_sq]; grind
theorem c_bd {t u : Int} (ht : 0 < t) (hu : 0 < u) (bt : t.natAbs < 256) (bu : u.natAbs < 256) {c : Cut} (h : c = sqN ht hu ∨ c = sqP ht hu) : c.lo (-(18 - 2 : Rat)) ∧ c.hi (18 - 2 : Rat) := by
  obtain ⟨h1, h2⟩ := sqP_bd ht hu bt bu
  have e1 : (18 : Rat) - 2 = 16 := by grind
  have e2 : -(18 - 2 : Rat) = -16 := by grind
  rw [e1]
  rcases h with rfl | rfl
  · refine ⟨?_, ?_⟩
    · show (sqP ht hu).hi (- -16)
      rwa [show (- -16 : Rat) = 16 from by grind]
    · show (sqP ht hu).lo (-16)
      exact (sqP ht hu).lo_dn (by grind) h1
  · exact ⟨(sqP ht hu).lo_dn (by grind) h1, h2⟩
theorem lip_sq {t u : Int} (hu : 0 < u) (bu : u.natAbs < 256) : ∀ x y d, Bd x 18 → Bd y 18 → Bd (x - y) d → Bd (ev (iq [-t, 0, u]) x - ev (iq [-t, 0, u]) y) (9216 * d) := fun x y d hx hy hd => by
  have uq2 : (u : Rat) ≤ 256 := by have : u ≤ (256 : Int) := by omega
                                   exact Rat.intCast_le_intCast.mpr this
  have uq : (0 : Rat) < (u : Rat) := Rat.intCast_pos.mpr hu
  have e : ev (iq [-t, 0, u]) x - ev (iq [-t, 0, u]) y = ((u : Rat) * (x + y)) * (x - y) := by
    show ei [-t, 0, u] x - ei [-t, 0, u] y = _
    rw [ei_sq, ei_sq]; grind
  rw [e]
  have b1 : Bd ((u : Rat) * (x + y)) (256 * (18 + 18)) := Bd.mul ⟨by grind, uq2⟩ (hx.add hy)
  have := b1.mul hd
  rwa [show (256 * (18 + 18) : Rat) = 9216 from by grind] at this
/-- a list without common roots: its roots are far from these -/
theorem far_sq {t u : Int} (ht : 0 < t) (hu : 0 < u) (bt : t.natAbs < 256) (bu : u.natAbs < 256) {c : Cut} (h : c = sqN ht hu ∨ c = sqP ht hu) {q U V : List Rat} {D A : Rat} (e : ∀ x, ev U x * ei [-t, 0, u] x + ev V x * ev q x = D)
    (hA : 0 ≤ A) (hU : ∀ x, Bd x 18 → Bd (ev U x) A) (A5 : A ≤ 5000) (hD : ¬ (-1 < D ∧ D < 1)) {d : Cut} (zd : Z d (ev q)) : Far c d (2 * DEL) := by
  have zc : Z c (ei [-t, 0, u]) := by
    rcases h with rfl | rfl
    · exact sqN_z ht hu
    · exact sqP_z ht hu
  obtain ⟨c1, c2⟩ := c_bd ht hu bt bu h
  refine far_cop (p := iq [-t, 0, u]) (M := 18) (K := 9216) e (by grind) hA hU (by grind) (lip_sq hu bu) (by unfold DEL; grind) (by unfold DEL; grind) (fun hb => ?_) zc zd c1 c2
  have h1 := hb.1
  have h2 := hb.2
  have s : A * (9216 * (2 * DEL)) < 1 := by unfold DEL; grind
  exact hD ⟨by grind, by grind⟩
theorem sq_eqv {t u v w : Int} (ht : 0 < t) (hu : 0 < u) (hv : 0 < v) (hw : 0 < w) (h : t * w = v * u) : Eqv (sqP ht hu) (sqP hv hw) ∧ Eqv (sqN ht hu) (sqN hv hw) := by
  have e : (t : Rat) / (u : Rat) = (v : Rat) / (w : Rat) := by
    have u0 := Rat.intCast_pos.mpr hu
    have w0 := Rat.intCast_pos.mpr hw
    have : ((t * w : Int) : Rat) = ((v * u : Int) : Rat) := by rw [h]
    rw [Rat.intCast_mul, Rat.intCast_mul] at this
    grind
  have h1 : Eqv (sqP ht hu) (sqP hv hw) := fun x => by
    constructor
    · show (x < 0 ∨ x * x < (t : Rat) / (u : Rat)) ↔ (x < 0 ∨ x * x < (v : Rat) / (w : Rat))
      rw [e]
    · show (0 < x ∧ (t : Rat) / (u : Rat) < x * x) ↔ (0 < x ∧ (v : Rat) / (w : Rat) < x * x)
      rw [e]
  exact ⟨h1, fun x => ⟨(h1 (-x)).2, (h1 (-x)).1⟩⟩
theorem sq_lt_of {t u v w : Int} (ht : 0 < t) (hu : 0 < u) (hv : 0 < v) (hw : 0 < w) (h : t * w < v * u) : Lt (sqP ht hu) (sqP hv hw) ∧ Lt (sqN hv hw) (sqN ht hu) := by
  have key : Lt (sqP ht hu) (sqP hv hw) := by
    rcases cut_tri (sqP ht hu) (sqP hv hw) with k | ⟨x, k1, k2⟩ | k
    · exact k
    · exfalso
      have k1 : 0 < x ∧ (v : Rat) / (w : Rat) < x * x := k1
      have k2 : x < 0 ∨ x * x < (t : Rat) / (u : Rat) := k2
      have k3 := k2.resolve_left (by have := k1.1; grind)
      have u0 := Rat.intCast_pos.mpr hu
      have w0 := Rat.intCast_pos.mpr hw
      have k4 : (v : Rat) / (w : Rat) < (t : Rat) / (u : Rat) := by have := k1.2; grind
      have k5 := Rat.mul_lt_mul_of_pos_right k4 (Rat.mul_pos u0 w0)
      have e1 : (v : Rat) / (w : Rat) * ((u : Rat) * (w : Rat)) = ((v * u : Int) : Rat) := by rw [Rat.intCast_mul]; grind
      have e2 : (t : Rat) / (u : Rat) * ((u : Rat) * (w : Rat)) = ((t * w : Int) : Rat) := by rw [Rat.intCast_mul]; grind
      rw [e1, e2] at k5
      have := Rat.intCast_lt_intCast.mp k5
      omega
    · exfalso
      have z := k.z (sqP_z ht hu)
      -- the same root of both: t w = v u
      have z2 := sqP_z hv hw
      have zz : Z (sqP hv hw) fun x => ((t * w - v * u : Int) : Rat) := ((z2.smul (u : Rat)).add (z.smul (-(w : Rat)))).congr fun x => by
        rw [ei_sq, ei_sq, Rat.intCast_sub, Rat.intCast_mul, Rat.intCast_mul]; grind
      refine zz.not_neg ⟨1, 1, by decide, by decide, fun x _ => ?_⟩
      have : t * w - v * u ≤ -1 := by omega
      have := Rat.intCast_le_intCast.mpr this
      exact this
  refine ⟨key, ?_⟩
  obtain ⟨x, h1, h2⟩ := key
  exact ⟨-x, by show (sqP hv hw).lo (- -x); rwa [show - -x = x from by grind], by show (sqP ht hu).hi (- -x); rwa [show - -x = x from by grind]⟩
theorem np_lt {t u v w : Int} (ht : 0 < t) (hu : 0 < u) (hv : 0 < v) (hw : 0 < w) (bv : v.natAbs < 256) (bw : w.natAbs < 256) : Lt (sqN ht hu) (sqP hv hw) ∧ Far (sqN ht hu) (sqP hv hw) (2 * DEL) ∧ Far (sqP hv hw) (sqN ht hu) (2 * DEL) := by
  have h1 : (sqN ht hu).hi 0 := by
    show (sqP ht hu).lo (-0)
    rw [show (-0 : Rat) = 0 from by grind]
    exact sqP_lo0 ht hu
  have h2 := (sqP_bd hv hw bv bw).1
  obtain ⟨g1, g2⟩ := far_gap h1 h2 (by grind)
  exact ⟨⟨0, h1, (sqP hv hw).lo_dn (by grind) h2⟩, g1.mono (by unfold DEL; grind), g2.mono (by unfold DEL; grind)⟩
theorem sok_of {s : List Int} (t : Tr s) (n : s ≠ []) (z : Sz 12 s) (l : s.length ≤ 3) : SOk s := ⟨t, n, z.mono (by decide), by omega⟩
theorem cnt_unit : ∃ es, Cnt [1] es := cnt_cop (n := 2) (a := 8) (e := 2) tr_one (by simp) (fun v hv => by rw [List.mem_singleton.mp hv]; decide) (by decide) (by decide) (by decide) (by decide) (by decide) ⟨[1], [], 1, by decide, fun x => by rw [ev_one, ei_one, ev_nil]; grind⟩
/-- the common divisor of such lists, and counting for it -/
theorem sr_com {t u : Int} {c : Cut} {f : List Int} {lo hi : Rat} (R : SR t u c f lo hi) {q : List Int} (tq : Tr q) (nq : q ≠ []) (sq : Sz 12 q) (lq : q.length ≤ 3) :
    ∃ s, ComR f q s ∧ IsGcd f q s := by
  obtain ⟨s, h1, h2, _⟩ := com_ex 3 (a := 8) (b := 12) R.tr tq R.sz sq (.inl R.ne) (by rw [R.len]; decide) (by omega) (by decide) (by decide)
  exact ⟨s, h1, h2⟩
theorem sr_cop {t u : Int} {c : Cut} {f : List Int} {lo hi : Rat} (R : SR t u c f lo hi) {q : List Int} (h : Cop [-t, 0, u] q) : Cop f q := by
  rw [R.ef]
  exact cop_prim (sq_tr R.hu) (by simp) h
theorem sr_z {t u : Int} {c : Cut} {f : List Int} {lo hi : Rat} (R : SR t u c f lo hi) (d : Cut) : Z d (ei f) ↔ Z d (ei [-t, 0, u]) := by
  rw [R.ef]
  exact (z_prim (sq_tr R.hu) (by simp) d).symm
def cmpE (p q : Bool) (s : Int) : Int := match p, q with
  | true, true => s
  | false, false => -s
  | true, false => 1
  | false, true => -1
def sqB (p : Bool) {t u : Int} (ht : 0 < t) (hu : 0 < u) : Cut := if p then sqP ht hu else sqN ht hu
theorem sqB_or (p : Bool) {t u : Int} (ht : 0 < t) (hu : 0 < u) : sqB p ht hu = sqN ht hu ∨ sqB p ht hu = sqP ht hu := by
  cases p
  · exact .inl rfl
  · exact .inr rfl
theorem sr_cmp {t u v w : Int} {f g : List Int} {lo hi a b : Rat} {p q : Bool} {ht : 0 < t} {hu : 0 < u} {hv : 0 < v} {hw : 0 < w} (R : SR t u (sqB p ht hu) f lo hi) (S : SR v w (sqB q hv hw) g a b) :
    CmpRR f g lo hi a b (cmpE p q (sgZ (t * w - v * u))) := by
  have tg := sq_tr (t := v) hw
  by_cases e : t * w = v * u
  · -- the same list
    have efg : f = g := by
      have u0 := cast0 (show u ≠ 0 by omega)
      have w0 := cast0 (show w ≠ 0 by omega)
      have tf := sq_tr (t := t) hu
      have eq : ∀ x, ei [-v, 0, w] x = ((w : Rat) / (u : Rat)) * ei [-t, 0, u] x := fun x => by
        rw [ei_sq, ei_sq]
        have : ((t * w : Int) : Rat) = ((v * u : Int) : Rat) := by rw [e]
        rw [Rat.intCast_mul, Rat.intCast_mul] at this
        grind
      have s0 : (w : Rat) / (u : Rat) ≠ 0 := by
        have := div_pos hw hu
        grind
      rw [R.ef, S.ef]
      have p1 := dv_primI tf (by simp)
      have p2 := dv_primI tg (by simp)
      exact prop_eq (primI_tr tf) (fun q => by simp [primI] at q) (primI_prm tf (by simp)) (primI_lst tf (by simp)) (primI_tr tg) (fun q => by simp [primI] at q) (primI_prm tg (by simp)) (primI_lst tg (by simp))
        (dv_trans p1.1 (dv_trans (dv_smul eq) p2.2)) (dv_trans p2.1 (dv_trans (dv_smul' s0 eq) p1.2))
    subst efg
    obtain ⟨s, cr, G⟩ := sr_com R R.tr R.ne (R.sz.mono (by decide)) (by rw [R.len]; decide)
    have es : s = f := by
      rw [gcd_is G R.tr R.ne ⟨[1], fun x => by rw [ev_one]; grind⟩ ⟨[1], fun x => by rw [ev_one]; grind⟩ G.d1]
      rw [R.ef, primI_twice (sq_tr hu) (by simp)]
    subst es
    obtain ⟨k1, k2⟩ := sq_eqv ht hu hv hw e
    obtain ⟨r, h1, h2⟩ := cmpR_ex (δ := DEL) (B := 300) (k := 0) (N := 40) R.cn S.cn R.cn cr (sok_of R.tr R.ne (R.sz.mono (by decide)) (by rw [R.len]; decide)) (gcd_z G) R.iso S.iso (by unfold DEL; grind) (fun ne => far_two (by
        cases p <;> cases q
        · exact absurd k2 ne
        · exact (np_lt ht hu hv hw S.bt S.bu).2.1
        · exact (np_lt hv hw ht hu R.bt R.bu).2.2
        · exact absurd k1 ne)) (by decide) R.d1 R.d2 S.d1 S.d2 (by decide) (by have := R.wd; unfold DEL; grind) (by have := S.wd; unfold DEL; grind)
    have er : r = cmpE p q (sgZ (t * w - v * u)) := by
      rw [e, Int.sub_self]
      cases p <;> cases q
      · exact h2.eq k2
      · exact h2.lt (np_lt ht hu hv hw S.bt S.bu).1
      · exact h2.gt (np_lt hv hw ht hu R.bt R.bu).1
      · exact h2.eq k1
    rw [← er]; exact h1
  · have cp : ∀ x, ev [(w : Rat)] x * ei [-t, 0, u] x + ev [-(u : Rat)] x * ei [-v, 0, w] x = ((v * u - t * w : Int) : Rat) := fun x => by
      rw [ei_sq, ei_sq, Rat.intCast_sub, Rat.intCast_mul, Rat.intCast_mul]
      show ((w : Rat) + x * 0) * _ + (-(u : Rat) + x * 0) * _ = _
      grind
    have n0 : ((v * u - t * w : Int) : Rat) ≠ 0 := cast0 (by omega)
    have C1 : Cop [-t, 0, u] [-v, 0, w] := ⟨_, _, _, n0, cp⟩
    have C2 : Cop f g := by
      have := (cop_prim tg (by simp) C1.symm).symm
      rw [← S.ef] at this
      exact sr_cop R this
    obtain ⟨s, cr, G⟩ := sr_com R S.tr S.ne (S.sz.mono (by decide)) (by rw [S.len]; decide)
    have es := gcd_cop G C2
    subst es
    obtain ⟨es, E⟩ := cnt_unit
    have far : ∀ {c : Cut}, (c = sqN ht hu ∨ c = sqP ht hu) → ∀ d, Z d (ei [-v, 0, w]) → Far c d (2 * DEL) := fun h d zd => by
      refine far_sq ht hu R.bt R.bu (q := iq [-v, 0, w]) h cp (A := 256) (by grind) (fun x _ => ?_) (by grind) (fun k => ?_) zd
      · show Bd ((w : Rat) + x * 0) 256
        have w1 : (w : Rat) ≤ 256 := by have : w ≤ (256 : Int) := by have := S.bu; omega
                                        exact Rat.intCast_le_intCast.mpr this
        have w0 := Rat.intCast_pos.mpr hw
        exact ⟨by grind, by grind⟩
      · have k1 : (((-1 : Int)) : Rat) < ((v * u - t * w : Int) : Rat) := by rw [Rat.intCast_neg]; exact k.1
        have k2 : ((v * u - t * w : Int) : Rat) < ((1 : Int) : Rat) := k.2
        have := Rat.intCast_lt_intCast.mp k1
        have := Rat.intCast_lt_intCast.mp k2
        omega
    have zd : Z (sqB q hv hw) (ei [-v, 0, w]) := (sr_z S _).mp S.iso.z
    obtain ⟨r, h1, h2⟩ := cmpR_ex (δ := DEL) (B := 300) (k := 0) (N := 40) R.cn S.cn E cr (sok_of tr_one (by simp) (fun v hv => by rw [List.mem_singleton.mp hv]; decide) (by decide)) (gcd_z G) R.iso S.iso (by unfold DEL; grind) (fun _ => far_two (far (sqB_or p ht hu) _ zd)) (by decide) R.d1 R.d2 S.d1 S.d2 (by decide) (by have := R.wd; unfold DEL; grind) (by have := S.wd; unfold DEL; grind)
    have er : r = cmpE p q (sgZ (t * w - v * u)) := by
      cases p <;> cases q
      · rcases Int.lt_trichotomy (t * w) (v * u) with k | k | k
        · rw [h2.gt (sq_lt_of ht hu hv hw k).2]
          show _ = -sgZ _
          unfold sgZ; rw [if_neg (by omega), if_pos (by omega)]; rfl
        · exact absurd k e
        · rw [h2.lt (sq_lt_of hv hw ht hu k).2]
          show _ = -sgZ _
          unfold sgZ; rw [if_pos (by omega)]
      · exact h2.lt (np_lt ht hu hv hw S.bt S.bu).1
      · exact h2.gt (np_lt hv hw ht hu R.bt R.bu).1
      · rcases Int.lt_trichotomy (t * w) (v * u) with k | k | k
        · rw [h2.lt (sq_lt_of ht hu hv hw k).1]
          show _ = sgZ _
          unfold sgZ; rw [if_neg (by omega), if_pos (by omega)]
        · exact absurd k e
        · rw [h2.gt (sq_lt_of hv hw ht hu k).1]
          show _ = sgZ _
          unfold sgZ; rw [if_pos (by omega)]
    rw [← er]; exact h1
end ST
namespace ST
open RO PO L2 DL
theorem sr_lim {t u : Int} {c : Cut} {f : List Int} {lo hi : Rat} (R : SR t u c f lo hi) : Sz Lim f ∧ f.length ≤ 60 := ⟨R.sz.mono (by decide), by rw [R.len]; decide⟩
theorem sr_sm {t u : Int} {c : Cut} {f : List Int} {lo hi : Rat} (R : SR t u c f lo hi) : Sm lo ∧ Sm hi := ⟨R.d1.sm (by decide) (by decide), R.d2.sm (by decide) (by decide)⟩
theorem pos_or {x : Rat} (h : 0 ≤ x) : 0 < x ∨ 0 = x := by
  by_cases k : 0 < x
  · exact .inl k
  · exact .inr (by grind)
/-- the positive root against a ratio that is not below 0, the negative one against its negative -/
theorem sr_cmpV {t u : Int} {f : List Int} {lo hi : Rat} {p : Bool} {ht : 0 < t} {hu : 0 < u} (R : SR t u (sqB p ht hu) f lo hi) {a b : Int} (ha : 0 ≤ a) (hb : 0 < b) (q : Bool) (s : Sm (if q then (a : Rat) / (b : Rat) else -((a : Rat) / (b : Rat)))) :
    CmpVR f lo hi (if q then (a : Rat) / (b : Rat) else -((a : Rat) / (b : Rat))) (cmpE p q (sgZ (t * (b * b) - a * a * u))) := by
  obtain ⟨s1, s2⟩ := sr_sm R
  obtain ⟨r, h1, h2⟩ := cmpV_ex R.cn (sr_lim R).1 (sr_lim R).2 R.iso s1 s2 s
  have bq := Rat.intCast_pos.mpr hb
  have uq := Rat.intCast_pos.mpr hu
  have aq : (0 : Rat) ≤ (a : Rat) := Rat.intCast_le_intCast.mpr ha
  have v0 : (0 : Rat) ≤ (a : Rat) / (b : Rat) := by rw [Rat.div_def]; exact Rat.mul_nonneg aq (Rat.le_of_lt (Rat.inv_pos.mpr bq))
  have ev : (a : Rat) / (b : Rat) * (b : Rat) = (a : Rat) := by grind
  have et : (t : Rat) / (u : Rat) * (u : Rat) = (t : Rat) := by grind
  -- the order of the squares
  have sg : sgZ (t * (b * b) - a * a * u) = ST.sg ((t : Rat) / (u : Rat) - (a : Rat) / (b : Rat) * ((a : Rat) / (b : Rat))) := by
    rw [← sg_int]
    conv => rhs; rw [← sg_mul_pos (y := (u : Rat) * ((b : Rat) * (b : Rat))) (Rat.mul_pos uq (Rat.mul_pos bq bq))]
    congr 1
    rw [Rat.intCast_sub, Rat.intCast_mul, Rat.intCast_mul, Rat.intCast_mul, Rat.intCast_mul]
    generalize (a : Rat) / (b : Rat) = x at ev ⊢
    generalize (t : Rat) / (u : Rat) = y at et ⊢
    rw [← ev, ← et]; grind
  rw [sg]
  have pos : ∀ x : Rat, 0 < x → ST.sg x = 1 := fun x h => sg_pos h
  generalize (a : Rat) / (b : Rat) = x at *
  have lo_iff : (sqP ht hu).lo x ↔ x * x < (t : Rat) / (u : Rat) := ⟨fun h => h.resolve_left (by grind), fun h => .inr h⟩
  have hi_iff : (sqP ht hu).hi x ↔ (t : Rat) / (u : Rat) < x * x := ⟨fun h => h.2, fun h => ⟨by
    rcases pos_or v0 with k | k
    · exact k
    · rw [← k] at h
      have := div_pos ht hu
      grind, h⟩⟩
  have fin : ∀ r, r = cmpE p q (ST.sg ((t : Rat) / (u : Rat) - x * x)) → CmpVR f lo hi (if q then x else -x) r → CmpVR f lo hi (if q then x else -x) (cmpE p q (ST.sg ((t : Rat) / (u : Rat) - x * x))) := fun r e k => e ▸ k
  refine fin r ?_ h1
  have neg0 : (sqP ht hu).lo (-x) := by
    rcases pos_or v0 with k | k
    · exact .inl (by grind)
    · rw [← k]
      rw [show (-0 : Rat) = 0 from by grind]
      exact sqP_lo0 ht hu
  cases p <;> cases q
  · -- the negative root against the negative
    show r = -ST.sg _
    have h2 : OrdV (sqN ht hu) (-x) r := h2
    have e1 : (sqN ht hu).lo (-x) ↔ (sqP ht hu).hi x := by show (sqP ht hu).hi (- -x) ↔ _; rw [show - -x = x from by grind]
    have e2 : (sqN ht hu).hi (-x) ↔ (sqP ht hu).lo x := by show (sqP ht hu).lo (- -x) ↔ _; rw [show - -x = x from by grind]
    by_cases k1 : x * x < (t : Rat) / (u : Rat)
    · rw [h2.hi (e2.mpr (lo_iff.mpr k1)), sg_pos (by grind)]
    · by_cases k2 : (t : Rat) / (u : Rat) < x * x
      · rw [h2.lo (e1.mpr (hi_iff.mpr k2)), sg_neg (by grind)]; rfl
      · rw [h2.eq (fun z => k2 (hi_iff.mp (e1.mp z))) (fun z => k1 (lo_iff.mp (e2.mp z))), show (t : Rat) / (u : Rat) - x * x = 0 from by grind, sg_zero]; rfl
  · -- the negative root against x
    have h2 : OrdV (sqN ht hu) x r := h2
    exact h2.hi neg0
  · -- the positive root against -x
    have h2 : OrdV (sqP ht hu) (-x) r := h2
    exact h2.lo neg0
  · show r = ST.sg _
    have h2 : OrdV (sqP ht hu) x r := h2
    by_cases k1 : x * x < (t : Rat) / (u : Rat)
    · rw [h2.lo (lo_iff.mpr k1), sg_pos (by grind)]
    · by_cases k2 : (t : Rat) / (u : Rat) < x * x
      · rw [h2.hi (hi_iff.mpr k2), sg_neg (by grind)]
      · rw [h2.eq (fun z => k1 (lo_iff.mp z)) (fun z => k2 (hi_iff.mp z)), show (t : Rat) / (u : Rat) - x * x = 0 from by grind, sg_zero]
theorem sr_lst {t u : Int} {c : Cut} {f : List Int} {lo hi : Rat} (R : SR t u c f lo hi) : 0 < (lst f).natAbs ∧ (lst f).natAbs < 256 := by
  obtain ⟨_, _, z⟩ := tr_form R.tr R.ne
  exact ⟨by omega, R.sz.lst⟩
theorem sr_ratio {t u : Int} {c : Cut} {f : List Int} {lo hi : Rat} (R : SR t u c f lo hi) : ∃ o, RatioR f lo hi o ∧ RatC c o := by
  obtain ⟨l0, l1⟩ := sr_lst R
  refine ratio_ex R.cn R.tr R.ne (sr_lim R).1 (sr_lim R).2 (Nat.lt_trans l1 (by decide)) R.iso (k := 0) (N := 40) (by decide) R.d1 R.d2 (by decide) ?_
  have w := R.wd
  have e : ((2 * (lst f).natAbs : Nat) : Rat) ≤ 512 := by
    have : 2 * (lst f).natAbs ≤ 512 := by omega
    exact Rat.natCast_le_natCast.mpr this
  have e0 : (0 : Rat) < ((2 * (lst f).natAbs : Nat) : Rat) := by
    have : (0 : Rat) < (((2 * (lst f).natAbs : Nat) : Int) : Rat) := Rat.intCast_pos.mpr (by omega)
    exact this
  generalize ((2 * (lst f).natAbs : Nat) : Rat) = X at e e0 ⊢
  have h1 : 1 / X * X = 1 := by grind
  have i0 : 0 < 1 / X := by rw [Rat.div_def]; exact Rat.mul_pos (by decide) (Rat.inv_pos.mpr e0)
  have h2 := Rat.mul_nonneg (Rat.le_of_lt i0) (show 0 ≤ 512 - X by grind)
  have h3 : (2 : Rat) ^ 40 = 1099511627776 := by decide +kernel
  rw [h3]
  grind
theorem sr_floor {t u : Int} {c : Cut} {f : List Int} {lo hi : Rat} (R : SR t u c f lo hi) : ∃ n, FloorR f lo hi n ∧ FloorC c n := by
  refine floor_ex R.cn (sr_lim R).1 (sr_lim R).2 R.iso (k := 0) (N := 40) (by decide) R.d1 R.d2 (by decide) ?_
  have w := R.wd
  have h3 : (2 : Rat) ^ 40 = 1099511627776 := by decide +kernel
  rw [h3]; grind
theorem sr_within {t u : Int} {c : Cut} {f : List Int} {lo hi : Rat} (R : SR t u c f lo hi) {w : Rat} (hw : 1 / 1024 ≤ w) : ∃ l h, WithR f w lo hi l h ∧ Iso f c l h ∧ Dy 300 40 l ∧ Dy 300 40 h ∧ h - l ≤ w := by
  obtain ⟨l, h, a, b, c', d, e⟩ := with_ex (w := w) (N := 40) (k := 0) (B := 300) R.cn (by decide) R.iso R.d1 R.d2 (by decide) (by
    have := R.wd
    have h3 : (2 : Rat) ^ 40 = 1099511627776 := by decide +kernel
    rw [h3]; grind)
  exact ⟨l, h, a, b, c', d, e⟩
theorem sr_sgn {t u : Int} {f : List Int} {lo hi : Rat} {p : Bool} {ht : 0 < t} {hu : 0 < u} (R : SR t u (sqB p ht hu) f lo hi) {q : List Int} {s es ds : List _} (D : Cnt q ds) (sq : Sz 12 q) (lq : q.length ≤ 3) (cr : ComR f q s) (G : IsGcd f q s) (so : SOk s) (E : Cnt s es)
    (far : ¬ Z (sqB p ht hu) (ei q) → ∀ d, Z d (ei q) → Far (sqB p ht hu) d (2 * DEL)) : ∃ r, SgnR f lo hi q r ∧ SgnC (sqB p ht hu) q r := by
  refine sgn_ex R.cn D E cr so (gcd_z G) (sq.mono (by decide)) (by omega) R.iso (δ := 2 * DEL) far (by decide) R.d1 R.d2 (k := 0) (N := 40) (by decide) ?_
  have := R.wd
  have h3 : (2 : Rat) ^ 40 = 1099511627776 := by decide +kernel
  unfold DEL
  rw [h3]; grind
theorem tr_2 {a b : Int} (h : b ≠ 0) : Tr [a, b] := fun l z e => by
  match l, e with
  | [], e => simp at e
  | [_], e => simp at e; omega
  | _ :: _ :: _, e => simp at e
theorem tr_1 {a : Int} (h : a ≠ 0) : Tr [a] := fun l z e => by
  match l, e with
  | [], e => simp at e; omega
  | _ :: _, e => simp at e
theorem sz_small {l : List Int} (h : ∀ v ∈ l, v.natAbs < 256) : Sz 12 l := fun v hv => Nat.lt_of_lt_of_le (h v hv) (by decide)
/-- a number -/
theorem sgn_const {t u : Int} {f : List Int} {lo hi : Rat} {p : Bool} {ht : 0 < t} {hu : 0 < u} (R : SR t u (sqB p ht hu) f lo hi) {a : Int} (h : a ≠ 0) (ha : a.natAbs < 256) : SgnR f lo hi [a] (sgZ a) := by
  have aq := cast0 h
  have ea : ∀ x, ei [a] x = (a : Rat) := fun x => by rw [ei_cons, ei_nil]; grind
  have C : Cop [-t, 0, u] [a] := ⟨[], [1], (a : Rat), aq, fun x => by rw [ev_nil, ev_one, ea]; grind⟩
  have sz : Sz 12 [a] := sz_small fun v hv => by rw [List.mem_singleton.mp hv]; exact ha
  obtain ⟨s, cr, G⟩ := sr_com R (tr_1 h) (by simp) sz (show 1 ≤ 3 by decide)
  have es := gcd_cop G (sr_cop R C)
  subst es
  obtain ⟨es, E⟩ := cnt_unit
  obtain ⟨ds, D⟩ := cnt_cop (n := 2) (a := 12) (e := 2) (items := [a]) (tr_1 h) (by simp) sz (show 1 ≤ 2 + 1 by decide) (show 1 ≤ 4 by decide) (by decide) small2.h small2.q ⟨[1], [], (a : Rat), aq, fun x => by rw [ev_one, ev_nil, ea]; grind⟩
  have nz : ∀ d, ¬ Z d (ei [a]) := fun d => not_z_const (tr_1 h) (by simp) (show 1 ≤ 1 by decide) d
  obtain ⟨r, h1, h2⟩ := sr_sgn R D sz (show 1 ≤ 3 by decide) cr G (sok_of tr_one (by simp) (fun v hv => by rw [List.mem_singleton.mp hv]; decide) (by decide)) E (fun _ d zd => absurd zd (nz d))
  have er : r = sgZ a := by
    by_cases k : 0 < a
    · rw [show sgZ a = 1 from if_pos k]
      exact h2.s 1 (.inl ⟨rfl, (a : Rat), 1, Rat.intCast_pos.mpr k, by decide, fun x _ => by rw [ea]; grind⟩)
    · rw [show sgZ a = -1 from by unfold sgZ; rw [if_neg k, if_pos (by omega)]]
      have := Rat.intCast_neg_iff.mpr (show a < 0 by omega)
      exact h2.s (-1) (.inr ⟨rfl, -(a : Rat), 1, by grind, by decide, fun x _ => by rw [ea]; grind⟩)
  rw [← er]; exact h1
/-- a linear row; b is not 0 -/
theorem sgn_lin {t u : Int} {f : List Int} {lo hi : Rat} {ht : 0 < t} {hu : 0 < u} (R : SR t u (sqP ht hu) f lo hi) {a b : Int} (h : b ≠ 0) (ha : a.natAbs < 60) (hb : b.natAbs < 60) : ∃ r, SgnR f lo hi [a, b] r ∧ SgnC (sqP ht hu) [a, b] r := by
  have bq := cast0 h
  have ea : ∀ x, ei [a, b] x = (a : Rat) + x * (b : Rat) := fun x => by rw [ei_cons, ei_cons, ei_nil]; grind
  have sz : Sz 12 [a, b] := sz_small fun v hv => by
    simp at hv
    rcases hv with rfl | rfl <;> omega
  have t2 := tr_2 (a := a) h
  have l3 : [a, b].length ≤ 3 := show 2 ≤ 3 by decide
  have dab : ∀ x, ei (derI [a, b]) x = (b : Rat) := fun x => by rw [show derI [a, b] = [1 * b] from rfl, ei_cons, ei_nil, Int.one_mul]; grind
  obtain ⟨ds, D⟩ := cnt_cop (n := 2) (a := 12) (e := 2) (items := [a, b]) t2 (by simp) sz (show 2 ≤ 2 + 1 by decide) (show 2 ≤ 4 by decide) (by decide) small2.h small2.q ⟨[], [1], (b : Rat), bq, fun x => by rw [ev_one, ev_nil, dab]; grind⟩
  have cp : ∀ x, ev [((b * b : Int) : Rat)] x * ei [-t, 0, u] x + ev [((u * a : Int) : Rat), ((-(u * b) : Int) : Rat)] x * ei [a, b] x = ((u * (a * a) - b * b * t : Int) : Rat) := fun x => by
    rw [ei_sq, ea]
    show (((b * b : Int) : Rat) + x * 0) * _ + (((u * a : Int) : Rat) + x * (((-(u * b) : Int) : Rat) + x * 0)) * _ = _
    rw [Rat.intCast_sub, Rat.intCast_neg, Rat.intCast_mul, Rat.intCast_mul, Rat.intCast_mul, Rat.intCast_mul, Rat.intCast_mul, Rat.intCast_mul, Rat.intCast_mul]
    grind
  obtain ⟨s, cr, G⟩ := sr_com R t2 (by simp) sz l3
  by_cases e : u * (a * a) - b * b * t = 0
  · -- b x + a divides
    have dv : Dv (iq [a, b]) (iq f) := by
      refine dv_trans ?_ (show Dv (iq [-t, 0, u]) (iq f) from by rw [R.ef]; exact (dv_primI (sq_tr hu) (by simp)).2)
      refine ⟨smulq (-((((b * b : Int)) : Rat))⁻¹) [((u * a : Int) : Rat), ((-(u * b) : Int) : Rat)], fun x => ?_⟩
      have := cp x
      rw [e] at this
      show ei [-t, 0, u] x = ei [a, b] x * _
      rw [ev_smul]
      have bb : ((b * b : Int) : Rat) ≠ 0 := cast0 (Int.mul_ne_zero h h)
      have i1 : ((b * b : Int) : Rat)⁻¹ * ((b * b : Int) : Rat) = 1 := by grind
      have this : (((b * b : Int) : Rat) + x * 0) * ei [-t, 0, u] x + ev [((u * a : Int) : Rat), ((-(u * b) : Int) : Rat)] x * ei [a, b] x = ((0 : Int) : Rat) := this
      rw [show ((0 : Int) : Rat) = 0 from rfl] at this
      generalize ((b * b : Int) : Rat) = B at *
      generalize ev [((u * a : Int) : Rat), ((-(u * b) : Int) : Rat)] x = V at *
      calc ei [-t, 0, u] x = B⁻¹ * (B * ei [-t, 0, u] x) := by grind
        _ = _ := by
          have : B * ei [-t, 0, u] x = -(V * ei [a, b] x) := by grind
          rw [this]; grind
    have es := gcd_is G t2 (by simp) dv ⟨[1], fun x => by rw [ev_one]; grind⟩ G.d2
    have szp := primI_sz t2 sz
    obtain ⟨es', E⟩ := cnt_cop (n := 2) (a := 12) (e := 2) (items := primI [a, b]) (primI_tr t2) (fun q => by simp [primI] at q) szp (by rw [primI_len]; show 2 ≤ 2 + 1; decide) (by rw [primI_len]; show 2 ≤ 4; decide) (by decide) small2.h small2.q (cop_primd t2 (by simp) ⟨[], [1], (b : Rat), bq, fun x => by rw [ev_one, ev_nil, dab]; grind⟩)
    rw [← es] at E
    have so : SOk s := sok_of G.tr G.ne (by rw [es]; exact szp) (by rw [es, primI_len]; exact l3)
    have zc : Z (sqP ht hu) (ei [a, b]) ∨ ¬ Z (sqP ht hu) (ei [a, b]) := Classical.em _
    exact sr_sgn (p := true) (ht := ht) (hu := hu) R D sz l3 cr G so E fun nz d zd => by
      -- the only root is the negative one
      have zf : Z d (ei [-t, 0, u]) := by
        obtain ⟨q, hq⟩ := dv_trans dv (show Dv (iq f) (iq [-t, 0, u]) from by rw [R.ef]; exact (dv_primI (sq_tr hu) (by simp)).1)
        exact (zd.mulp q).congr fun x => by have : ei [-t, 0, u] x = ei [a, b] x * ev q x := hq x; rw [this]; show _ * ei [a, b] x = _; grind
      rcases sq_all ht hu zf with k | k
      · exact ((np_lt ht hu ht hu R.bt R.bu).2.2).eqv k
      · exact absurd (k.symm.z zd) nz
  · have C : Cop [-t, 0, u] [a, b] := ⟨_, _, _, cast0 e, cp⟩
    have es := gcd_cop G (sr_cop R C)
    subst es
    obtain ⟨es, E⟩ := cnt_unit
    refine sr_sgn (p := true) (ht := ht) (hu := hu) R D sz l3 cr G (sok_of tr_one (by simp) (fun v hv => by rw [List.mem_singleton.mp hv]; decide) (show 1 ≤ 3 by decide)) E fun _ d zd => ?_
    refine far_sq ht hu R.bt R.bu (q := iq [a, b]) (.inr rfl) cp (A := 3600) (by grind) (fun x _ => ?_) (by grind) (fun k => ?_) zd
    · show Bd (((b * b : Int) : Rat) + x * 0) 3600
      have b1 : b * b ≤ 3600 := by
        have := Int.natAbs_mul b b
        have : b.natAbs * b.natAbs ≤ 60 * 60 := Nat.mul_le_mul (by omega) (by omega)
        omega
      have b0 : 0 ≤ b * b := by
        rcases Int.le_total 0 b with k | k
        · exact Int.mul_nonneg k k
        · exact Int.mul_nonneg_of_nonpos_of_nonpos k k
      have c1 : ((b * b : Int) : Rat) ≤ ((3600 : Int) : Rat) := Rat.intCast_le_intCast.mpr b1
      have c0 : ((0 : Int) : Rat) ≤ ((b * b : Int) : Rat) := Rat.intCast_le_intCast.mpr b0
      rw [show ((3600 : Int) : Rat) = 3600 from rfl] at c1
      rw [show ((0 : Int) : Rat) = 0 from rfl] at c0
      exact ⟨by grind, by grind⟩
    · have k1 : (((-1 : Int)) : Rat) < ((u * (a * a) - b * b * t : Int) : Rat) := by rw [Rat.intCast_neg]; exact k.1
      have k2 : ((u * (a * a) - b * b * t : Int) : Rat) < ((1 : Int) : Rat) := k.2
      have := Rat.intCast_lt_intCast.mp k1
      have := Rat.intCast_lt_intCast.mp k2
      omega
theorem sq_fok {v w : Int} (hv : 0 < v) (hw : 0 < w) (bv : v.natAbs < 256) (bw : w.natAbs < 256) : Tr [-v, 0, w] ∧ [-v, 0, w] ≠ [] ∧ Sz 12 [-v, 0, w] ∧ [-v, 0, w].length ≤ 3 := ⟨sq_tr hw, by simp, (sq_sz bv bw).mono (by decide), show 3 ≤ 3 by decide⟩
/-- a row of the same kind -/
theorem sgn_sq {t u v w : Int} {f : List Int} {lo hi : Rat} {p : Bool} {ht : 0 < t} {hu : 0 < u} (R : SR t u (sqB p ht hu) f lo hi) (hv : 0 < v) (hw : 0 < w) (bv : v.natAbs < 256) (bw : w.natAbs < 256) : SgnR f lo hi [-v, 0, w] (sgZ (t * w - v * u)) := by
  obtain ⟨t2, n2, sz, l3⟩ := sq_fok hv hw bv bw
  have D := sq_cnt hv hw bv bw
  have cp : ∀ x, ev [(w : Rat)] x * ei [-t, 0, u] x + ev [-(u : Rat)] x * ei [-v, 0, w] x = ((v * u - t * w : Int) : Rat) := fun x => by
    rw [ei_sq, ei_sq, Rat.intCast_sub, Rat.intCast_mul, Rat.intCast_mul]
    show ((w : Rat) + x * 0) * _ + (-(u : Rat) + x * 0) * _ = _
    grind
  have zc : Z (sqB p ht hu) (ei [-t, 0, u]) := (sr_z R _).mp R.iso.z
  obtain ⟨s, cr, G⟩ := sr_com R t2 n2 sz l3
  have uq := Rat.intCast_pos.mpr hu
  by_cases e : t * w = v * u
  · -- a multiple of the same list
    have w0 := Rat.intCast_pos.mpr hw
    have eq : ∀ x, ei [-v, 0, w] x = ((w : Rat) / (u : Rat)) * ei [-t, 0, u] x := fun x => by
      rw [ei_sq, ei_sq]
      have : ((t * w : Int) : Rat) = ((v * u : Int) : Rat) := by rw [e]
      rw [Rat.intCast_mul, Rat.intCast_mul] at this
      grind
    have dv : Dv (iq f) (iq [-v, 0, w]) := dv_trans (by rw [R.ef]; exact (dv_primI (sq_tr hu) (by simp)).1) (dv_smul eq)
    have es := gcd_is G R.tr R.ne ⟨[1], fun x => by rw [ev_one]; grind⟩ dv G.d1
    have ef : s = f := by rw [es, R.ef, primI_twice (sq_tr hu) (by simp)]
    subst ef
    have zq : Z (sqB p ht hu) (ei [-v, 0, w]) := (zc.smul ((w : Rat) / (u : Rat))).congr fun x => (eq x).symm
    obtain ⟨r, h1, h2⟩ := sr_sgn R D sz l3 cr G (sok_of R.tr R.ne (R.sz.mono (by decide)) (by rw [R.len]; decide)) R.cn fun nz => absurd zq nz
    have er : r = sgZ (t * w - v * u) := by rw [h2.z zq, e, Int.sub_self]; rfl
    rw [← er]; exact h1
  · have n0 : ((v * u - t * w : Int) : Rat) ≠ 0 := cast0 (by omega)
    have es := gcd_cop G (sr_cop R ⟨_, _, _, n0, cp⟩)
    subst es
    obtain ⟨es, E⟩ := cnt_unit
    obtain ⟨r, h1, h2⟩ := sr_sgn R D sz l3 cr G (sok_of tr_one (by simp) (fun v hv => by rw [List.mem_singleton.mp hv]; decide) (show 1 ≤ 3 by decide)) E fun _ d zd => by
      refine far_sq ht hu R.bt R.bu (q := iq [-v, 0, w]) (sqB_or p ht hu) cp (A := 256) (by grind) (fun x _ => ?_) (by grind) (fun k => ?_) zd
      · show Bd ((w : Rat) + x * 0) 256
        have w1 : (w : Rat) ≤ 256 := by have : w ≤ (256 : Int) := by omega
                                        exact Rat.intCast_le_intCast.mpr this
        have w0 := Rat.intCast_pos.mpr hw
        exact ⟨by grind, by grind⟩
      · have k1 : (((-1 : Int)) : Rat) < ((v * u - t * w : Int) : Rat) := by rw [Rat.intCast_neg]; exact k.1
        have k2 : ((v * u - t * w : Int) : Rat) < ((1 : Int) : Rat) := k.2
        have := Rat.intCast_lt_intCast.mp k1
        have := Rat.intCast_lt_intCast.mp k2
        omega
    -- u q = w p + (t w - v u)
    have hq : ∀ x, (u : Rat) * ei [-v, 0, w] x = (w : Rat) * ei [-t, 0, u] x + ((t * w - v * u : Int) : Rat) := fun x => by
      rw [ei_sq, ei_sq, Rat.intCast_sub, Rat.intCast_mul, Rat.intCast_mul]; grind
    obtain ⟨δ, d0, k⟩ := (zc.smul (w : Rat)) (1 / 2) (by grind)
    have er : r = sgZ (t * w - v * u) := by
      by_cases kk : 0 < t * w - v * u
      · rw [show sgZ (t * w - v * u) = 1 from if_pos kk]
        refine h2.s 1 (.inl ⟨rfl, 1 / 2 / (u : Rat), δ, ?_, d0, fun x nx => ?_⟩)
        · rw [Rat.div_def]; exact Rat.mul_pos (by grind) (Rat.inv_pos.mpr uq)
        · have b := (k x nx).1
          have c1 : ((1 : Int) : Rat) ≤ ((t * w - v * u : Int) : Rat) := Rat.intCast_le_intCast.mpr (by omega)
          rw [show ((1 : Int) : Rat) = 1 from rfl] at c1
          have c2 := hq x
          have c3 : (1 / 2 : Rat) ≤ (u : Rat) * ei [-v, 0, w] x := by grind
          have c4 : (u : Rat) * (1 / 2 / (u : Rat)) = 1 / 2 := by grind
          refine Rat.le_of_mul_le_mul_left ?_ uq
          rw [c4]; exact c3
      · rw [show sgZ (t * w - v * u) = -1 from by unfold sgZ; rw [if_neg kk, if_pos (by omega)]]
        refine h2.s (-1) (.inr ⟨rfl, 1 / 2 / (u : Rat), δ, ?_, d0, fun x nx => ?_⟩)
        · rw [Rat.div_def]; exact Rat.mul_pos (by grind) (Rat.inv_pos.mpr uq)
        · have b := (k x nx).2
          have c1 : ((t * w - v * u : Int) : Rat) ≤ ((-1 : Int) : Rat) := Rat.intCast_le_intCast.mpr (by omega)
          rw [show ((-1 : Int) : Rat) = -1 from rfl] at c1
          have c2 := hq x
          have c3 : (u : Rat) * ei [-v, 0, w] x ≤ -(1 / 2 : Rat) := by grind
          have c4 : (u : Rat) * (-(1 / 2 / (u : Rat))) = -(1 / 2) := by grind
          refine Rat.le_of_mul_le_mul_left ?_ uq
          rw [c4]; exact c3
    rw [← er]; exact h1
/-- u x x + x - t at the positive root -/
theorem sgn_quad {t u : Int} {f : List Int} {lo hi : Rat} {ht : 0 < t} {hu : 0 < u} (R : SR t u (sqP ht hu) f lo hi) : SgnR f lo hi [-t, 1, u] 1 := by
  have eq : ∀ x, ei [-t, 1, u] x = ei [-t, 0, u] x + x := fun x => by
    rw [ei_sq, ei_cons, ei_cons, ei_cons, ei_nil, Rat.intCast_neg, show ((1 : Int) : Rat) = 1 from rfl]; grind
  have t2 : Tr [-t, 1, u] := fun l z e => by
    match l, e with
    | [], e => simp at e
    | [_], e => simp at e
    | [_, _], e => simp at e; omega
    | _ :: _ :: _ :: _, e => simp at e
  have sz : Sz 12 [-t, 1, u] := sz_small fun v hv => by
    simp at hv
    rcases hv with rfl | rfl | rfl
    · rw [Int.natAbs_neg]; exact R.bt
    · decide
    · exact R.bu
  have l3 : [-t, 1, u].length ≤ 3 := show 3 ≤ 3 by decide
  have uq := Rat.intCast_pos.mpr hu
  have tq := Rat.intCast_pos.mpr ht
  have dq' : ∀ x, ei (derI [-t, 1, u]) x = 1 + 2 * (u : Rat) * x := fun x => by
    rw [show derI [-t, 1, u] = [1 * 1, (1 + 1) * u] from rfl, ei_cons, ei_cons, ei_nil, Rat.intCast_mul, Rat.intCast_mul, Rat.intCast_add, show ((1 : Int) : Rat) = 1 from rfl]; grind
  obtain ⟨ds, D⟩ := cnt_cop (n := 2) (a := 12) (e := 2) (items := [-t, 1, u]) t2 (by simp) sz (show 3 ≤ 2 + 1 by decide) (show 3 ≤ 4 by decide) (by decide) small2.h small2.q
    ⟨[4 * (u : Rat)], [-1, -(2 * (u : Rat))], -(4 * (t : Rat) * (u : Rat) + 1), by have := Rat.mul_pos tq uq; grind, fun x => by
      rw [dq', eq, ei_sq]
      show (4 * (u : Rat) + x * 0) * _ + (-1 + x * (-(2 * (u : Rat)) + x * 0)) * _ = _
      grind⟩
  have cp : ∀ x, ev [1, (u : Rat)] x * ei [-t, 0, u] x + ev [0, -(u : Rat)] x * ei [-t, 1, u] x = ((-t : Int) : Rat) := fun x => by
    rw [eq, ei_sq, Rat.intCast_neg]
    show (1 + x * ((u : Rat) + x * 0)) * _ + (0 + x * (-(u : Rat) + x * 0)) * _ = _
    grind
  have zc : Z (sqP ht hu) (ei [-t, 0, u]) := sqP_z ht hu
  obtain ⟨s, cr, G⟩ := sr_com R t2 (by simp) sz l3
  have es := gcd_cop G (sr_cop R ⟨_, _, _, cast0 (show -t ≠ 0 by omega), cp⟩)
  subst es
  obtain ⟨es, E⟩ := cnt_unit
  obtain ⟨r, h1, h2⟩ := sr_sgn (p := true) (ht := ht) (hu := hu) R D sz l3 cr G (sok_of tr_one (by simp) (fun v hv => by rw [List.mem_singleton.mp hv]; decide) (show 1 ≤ 3 by decide)) E fun _ d zd => by
    refine far_sq ht hu R.bt R.bu (q := iq [-t, 1, u]) (.inr rfl) cp (A := 1 + 18 * 256) (by grind) (fun x hx => ?_) (by grind) (fun k => ?_) zd
    · show Bd (1 + x * ((u : Rat) + x * 0)) (1 + 18 * 256)
      have u1 : (u : Rat) ≤ 256 := by have : u ≤ (256 : Int) := by have := R.bu; omega
                                      exact Rat.intCast_le_intCast.mpr this
      have b1 : Bd ((u : Rat) + x * 0) 256 := ⟨by grind, by grind⟩
      exact (show Bd 1 1 from ⟨by grind, by grind⟩).add (hx.mul b1)
    · have k1 : (((-1 : Int)) : Rat) < ((-t : Int) : Rat) := by rw [Rat.intCast_neg]; exact k.1
      have := Rat.intCast_lt_intCast.mp k1
      omega
  have er : r = 1 := by
    obtain ⟨δ, d0, k⟩ := zc (1 / 64) (by grind)
    have lo16 := (sqP_bd ht hu R.bt R.bu).1
    obtain ⟨m, m0, m1, m2⟩ := min_pos d0 (show (0 : Rat) < 1 / 64 by grind)
    refine h2.s 1 (.inl ⟨rfl, 1 / 64, m, by grind, m0, fun x nx => ?_⟩)
    have b := (k x (Cut.near_le nx m1)).1
    have x1 := (sqP ht hu).dis lo16 nx.2
    rw [eq]; grind
  subst er; exact h1
end ST
namespace RO
open PySem L2 DL TL PO
abbrev y1 : Rat := ((1 : Int) : Rat) / ((1 : Int) : Rat)
end RO
namespace T15
open PySem L2 DL PO RO ST TL NumText
def ordS : DSp := fun ds L k _ => ∃ a b c d : Int, ds = [.tup [.int a, .int b], .tup [.int c, .int d]] ∧ (a.natAbs < 2 ^ 63 ∧ b.natAbs < 2 ^ 63) ∧ (c.natAbs < 2 ^ 63 ∧ d.natAbs < 2 ^ 63) ∧ k (.int (sgZ (a * d - c * b))) L
theorem two126 {x y : Int} (hx : x.natAbs < 2 ^ 63) (hy : y.natAbs < 2 ^ 63) : (x * y).natAbs < 2 ^ 127 := by
  rw [Int.natAbs_mul]
  exact Nat.lt_of_le_of_lt (Nat.mul_le_mul (Nat.le_of_lt hx) (Nat.le_of_lt hy)) (by decide +kernel)
theorem lt127 {n : Nat} (h : n < 2 ^ 128) : n < 2 ^ 1990 := Nat.lt_trans h (by decide +kernel)
def arS (f : Rat → Rat → Rat) : DSp := fun ds L k _ => ∃ a b c d : Int, ds = [.tup [.int a, .int b], .tup [.int c, .int d]] ∧ b ≠ 0 ∧ d ≠ 0 ∧ (a.natAbs < 2 ^ 63 ∧ b.natAbs < 2 ^ 63) ∧ (c.natAbs < 2 ^ 63 ∧ d.natAbs < 2 ^ 63) ∧ k (ratD (f ((a : Rat) / (b : Rat)) ((c : Rat) / (d : Rat)))) L
def toS : DSp := fun ds L k _ => ∃ (b : Int) (n : Nat), ds = [.int b, .int n] ∧ b.natAbs < 2 ^ 63 ∧ n < 1000 ∧ k (.int (b ^ n)) L
def flF (t u : Nat) : Nat := (List.range 9).foldl (fun m k => if k * k * u ≤ t then k else m) 0
def sqs (n : Nat) : List Nat := (List.range 8).filter (fun i => decide (n = (i + 1) * (i + 1)))
def exF (t u : Nat) : Option (Nat × Nat) := match sqs (t / Nat.gcd t u), sqs (u / Nat.gcd t u) with
  | i :: _, j :: _ => some (i + 1, j + 1)
  | _, _ => none
def exD : Option (Nat × Nat) → D
  | some (a, b) => .tup [.int (a : Int), .int (b : Int)]
  | none => .non
def flS : DSp := fun ds L k _ => ∃ t u : Nat, ds = [.int t, .int u] ∧ t < 256 ∧ u < 256 ∧ k (.int (flF t u : Nat)) L
def exrS : DSp := fun ds L k _ => ∃ t u : Nat, ds = [.int t, .int u] ∧ 0 < t ∧ 0 < u ∧ t < 256 ∧ u < 256 ∧ k (exD (exF t u)) L
theorem low_nat {t u : Nat} (hu : 0 < u) : lowI t u = (((t / Nat.gcd t u : Nat) : Int), ((u / Nat.gcd t u : Nat) : Int)) := by
  have g : gcdI (t : Int) (u : Int) = ((Nat.gcd t u : Nat) : Int) := rfl
  unfold lowI
  rw [g, if_neg (by omega)]
  show (((t : Int).fdiv _), ((u : Int).fdiv _)) = _
  rw [Int.fdiv_eq_ediv_of_nonneg _ (by omega), Int.fdiv_eq_ediv_of_nonneg _ (by omega)]
  rfl
theorem lay_ones : ∀ l : List Nat, PyData.canLayAll0 (toPys (l.map fun i : Nat => D.int (1 + (i : Int)))) = true ∧ PyData.depthAll (toPys (l.map fun i : Nat => D.int (1 + (i : Int)))) ≤ 1
  | [] => ⟨rfl, Nat.zero_le _⟩
  | a :: r => by
    obtain ⟨h1, h2⟩ := lay_ones r
    constructor
    · show (PyData.canLay0 (toPy (.int (1 + (a : Int)))) && PyData.canLayAll0 (toPys (r.map fun i : Nat => D.int (1 + (i : Int))))) = true
      rw [h1]
      rfl
    · show max (PyData.depth (toPy (.int (1 + (a : Int))))) (PyData.depthAll (toPys (r.map fun i : Nat => D.int (1 + (i : Int))))) ≤ 1
      have : PyData.depth (toPy (.int (1 + (a : Int)))) ≤ 1 := Nat.zero_le _
      omega
theorem shp_ones (l : List Nat) : shp (.lst (l.map fun i : Nat => D.int (1 + (i : Int)))) = true := by
  obtain ⟨h1, h2⟩ := lay_ones l
  show (PyData.canLayAll0 (toPys (l.map fun i : Nat => D.int (1 + (i : Int)))) && decide (PyData.depthAll (toPys (l.map fun i : Nat => D.int (1 + (i : Int)))) + 1 ≤ 64)) = true
  rw [h1, decide_eq_true (by omega)]
  rfl
theorem eqD_ones (l : List Nat) : eqD (.lst (l.map fun i : Nat => D.int (1 + (i : Int)))) (.lst []) = l.isEmpty := by
  cases l <;> rfl
section
variable {P : Program} {w : World} {K : PySem.W.Frag} {mg : Str → Option Value} {base : Heap} {cR cO : Addr}
local macro_rules | `(tactic| walk_at "w") => `(tactic| conv => whnf)
local macro_rules | `(tactic| walk_at "v") => `(tactic| ((conv => whnf); try dsimp only))
local macro_rules | `(tactic| walk_at "s") => `(tactic| ((conv => whnf); repeat ((first | refine ⟨sz_ok rfl, ?_⟩ | refine ⟨rfl, ?_⟩); conv => whnf)))
theorem scLBag : FnScope ["_law_script", "_law_mixed", "_law_cell"] ["_law_script"] (defScope sLBag) := ⟨rfl, rfl, rfl, by decide +kernel, rfl, by decide +kernel, by decide +kernel⟩
theorem ok_LBag {f : Addr} {fd : FuncData} (Z : Zn w K mg cR cO) (F : Fun K "_law_bag" "_law_bag" sLBag f fd) : FnOk P w K mg base (L2.CX P w) 1 f fd ["_law_script"] (spD K bagS) := by
  refine fn_ok F scLBag ?len (fun cdv A outer s H E hr => ?_)
  rotate_left
  · have tk := takes_of (X := cxOf (L2.CX P w) P w K mg base ["_law_script", "_law_mixed", "_law_cell"] "_law_bag" (defScope sLBag) f cdv A outer s H E) (E := E) rfl rfl rfl rfl
    have hp := passes_of (X := cxOf (L2.CX P w) P w K mg base ["_law_script", "_law_mixed", "_law_cell"] "_law_bag" (defScope sLBag) f cdv A outer s H E) rfl
    refine ⟨_, (ss_cons (s_set 1 scLBag.nd q_int)
  (ss_cons (s_for hp rfl (i_list (q_slice (qv 0) o_none (o_some q_int))) (g_name 2 scLBag.nd) (ss_one (s_set 1 scLBag.nd (q_op oq_mod (q_callTy cq_int (by rfl) Z.z_int bb_int (a_cons (q_op oq_add (q_op oq_add (q_op oq_mulU (qv 1) q_int) (q_op oq_mod (q_callTy cq_int (by rfl) Z.z_int bb_int (a_cons (qv 2) a_nil)) q_int)) q_int) a_nil)) q_int))))
  (ss_one (s_ret (q_lstM (a_cons (q_callTy cq_list (by rfl) Z.z_list bb_list (a_cons (q_slice (qv 0) o_none (o_some q_int)) a_nil)) (a_cons q_int (a_cons q_int (a_cons (qv 1) (a_cons q_int a_nil)))))))))), ?_⟩
    clear tk hp
    rintro ds L k x ⟨ns, rfl, h⟩
    obtain ⟨ms, e⟩ : ∃ ms : List Int, cutD (ns.map .int) none (some 63) = ms.map .int := ⟨(ns.drop (HT.sIx (ns.map D.int).length 0 none)).take (HT.sIx (ns.map D.int).length (ns.map D.int).length (some 63) - HT.sIx (ns.map D.int).length 0 none), by unfold cutD; rw [List.map_take, List.map_drop]⟩
    have key : ∀ (En : DEnds) (db : DS), (∀ (m : Int) (o : Option D), 0 ≤ m → m < 2147483497 → En.nx [some (.ro (ns.map .int)), some (.int m), o] L) →
        (∀ (E' : DEnds) (m v : Int), (∀ m' : Int, 0 ≤ m' → m' < 2147483497 → E'.nx [some (.ro (ns.map .int)), some (.int m'), some (.int v)] L) → db E' [some (.ro (ns.map .int)), some (.int m), some (.int v)] L) →
        ∀ (ms : List Int) (m : Int) (o : Option D), 0 ≤ m → m < 2147483497 → forD (dgName 2) db En (ms.map .int) [some (.ro (ns.map .int)), some (.int m), o] L := by
      intro En db hn hb ms
      induction ms with
      | nil => intro m o h0 h1; rw [List.map_nil, forD_nil]; exact hn m o h0 h1
      | cons v r ih => intro m o h0 h1; rw [List.map_cons, forD_cons]; exact hb _ m v fun m' q0 q1 => ih m' (some (.int v)) q0 q1
    walk_at "w"
    rw [e]
    refine key _ _ (fun m o h0 h1 => ?_) (fun E' m v hn => ?_) ms 12019 none (by decide) (by decide)
    · walk_at "w"
      rw [e]
      refine ⟨(by show 5 ≤ sizeLine; decide), fun p hp => ?_⟩
      exact h p ⟨ms, 0, 0, m, 0⟩ hp ⟨Int.le_refl 0, Int.natCast_nonneg _, Int.le_refl 0, h0, h1⟩
    · walk_at "w"
      refine ⟨.inl (.inr (by decide)), ?_⟩
      walk_at "w"
      refine ⟨(by show (2147483423 : Int) ≠ 0; decide), ?_⟩
      walk_at "w"
      refine ⟨(by show (2147483497 : Int) ≠ 0; decide), ?_⟩
      refine hn _ ?_ ?_
      · rw [Int.fmod_eq_emod_of_nonneg _ (by decide)]; exact Int.emod_nonneg _ (by decide)
      · rw [Int.fmod_eq_emod_of_nonneg _ (by decide)]; exact Int.emod_lt_of_pos _ (by decide)
  · rintro ds L k x ⟨ns, rfl, _⟩; rfl
theorem scLPull : FnScope ["_law_bag_here", "_law_many", "_law_cell", "_law_digit", "_law_seed"] ["_law_bag_here", "_law_many"] (defScope sLPull) := ⟨rfl, rfl, rfl, by decide +kernel, rfl, by decide +kernel, by decide +kernel⟩
theorem ok_LPull {f : Addr} {fd : FuncData} (Z : Zn w K mg cR cO) (F : Fun K "_law_pull" "_law_pull" sLPull f fd) : FnOk P w K mg base (L2.CX P w) 1 f fd ["_law_bag_here", "_law_many"] (spD K pullS) := by
  refine fn_ok F scLPull ?len (fun cdv A outer s H E hr => ?_)
  rotate_left
  · have tk := takes_of (X := cxOf (L2.CX P w) P w K mg base ["_law_bag_here", "_law_many", "_law_cell", "_law_digit", "_law_seed"] "_law_pull" (defScope sLPull) f cdv A outer s H E) (E := E) rfl rfl rfl rfl
    have hp := passes_of (X := cxOf (L2.CX P w) P w K mg base ["_law_bag_here", "_law_many", "_law_cell", "_law_digit", "_law_seed"] "_law_pull" (defScope sLPull) f cdv A outer s H E) rfl
    refine ⟨_, (ss_cons (s_store (q_op oq_add (q_ix (qv 0) q_int) q_int) (qv 0) q_int)
  (ss_cut (s_if (w_and (t_cmp (oq_eqU hr.units) (q_ix (qv 0) q_int) q_int) (w_and1 (t_cmp oq_lt (q_ix (qv 0) q_int) (q_callB cq_len (by rfl) Z.z_len bb_len (a_cons (q_ix (qv 0) q_int) a_nil))))).t (ss_cons (s_set 2 scLPull.nd (q_ix (q_ix (qv 0) q_int) (q_ix (qv 0) q_int)))
  (ss_cons (s_store (q_op oq_add (q_ix (qv 0) q_int) q_int) (qv 0) q_int)
  (ss_one (s_if (t_cmp oq_ge (qv 2) (q_op oq_pow q_int q_int)) (ss_one (s_store (qv 2) (qv 0) q_int)) (ss_one (s_store (q_op oq_mod (q_callTy cq_int (by rfl) Z.z_int bb_int (a_cons (q_op oq_add (q_op oq_add (q_op oq_mulU (q_ix (qv 0) q_int) q_int) (q_op oq_mulU (q_op oq_mod (q_callTy cq_int (by rfl) Z.z_int bb_int (a_cons (qv 2) a_nil)) q_int) q_int)) q_int) a_nil)) q_int) (qv 0) q_int)))))) ss_nil)
  (ss_cons (s_if (t_cmp oq_gt (q_ix (qv 0) q_int) q_int) (ss_cons (s_set 3 scLPull.nd (q_op oq_mod (q_callTy cq_int (by rfl) Z.z_int bb_int (a_cons (q_ix (qv 0) q_int) a_nil)) (qv 1)))
  (ss_cons (s_store (q_op oq_fdiv (q_ix (qv 0) q_int) (qv 1)) (qv 0) q_int)
  (ss_one (s_ret (qv 3))))) ss_nil)
  (ss_cons (s_set 4 scLPull.nd (q_callTy cq_int (by rfl) Z.z_int bb_int (a_cons (q_ix (qv 0) q_int) a_nil)))
  (ss_cons (s_store (q_op oq_mod (q_callTy cq_int (by rfl) Z.z_int bb_int (a_cons (q_op oq_add (q_op oq_add (q_op oq_add (q_op oq_pow (qv 4) q_int) (q_op oq_mulU (qv 4) q_int)) (q_op oq_mulU (q_ix (qv 0) q_int) q_int)) q_int) a_nil)) q_int) (qv 0) q_int)
  (ss_one (s_ret (q_op oq_mod (q_callTy cq_int (by rfl) Z.z_int bb_int (a_cons (q_op oq_add (q_op oq_fdiv (q_ix (qv 0) q_int) q_int) (q_op oq_mulU (q_op oq_mod (q_callTy cq_int (by rfl) Z.z_int bb_int (a_cons (q_ix (qv 0) q_int) a_nil)) q_int) q_int)) a_nil)) (qv 1))))))))), ?_⟩
    clear tk hp
    rintro ds L k x ⟨p, b, m, rfl, hl, ok, m0, m1, h⟩
    obtain ⟨cs, at_, rest, mix, cnt⟩ := b
    have k1 : ∀ d, (setL L p d).lookup p = some d := fun d => lookup_setL hl
    walk_at "w"
    rw [con_ptr hl]
    walk_at "w"
    rw [hl]
    walk_at "w"
    refine ⟨fun env' L' => ∃ (b' : Bag) (o : Option D), BagOk b' ∧ env' = [some (.ptr p), some (.int m), o, none, none] ∧ L' = setL L p (bagC b'), ?_, ?_⟩
    · have st : ∀ (L' : Led) (b' : Bag) (o : Option D), BagOk b' → L' = setL L p (bagC b') → ∃ (b'' : Bag) (o' : Option D), BagOk b'' ∧ [some (D.ptr p), some (D.int m), o, none, none] = [some (.ptr p), some (.int m), o', none, none] ∧ L' = setL L p (bagC b'') := fun L' b' o z e => ⟨b', o, z, rfl, e⟩
      walk_at "w"
      rw [con_ptr (k1 _)]
      walk_at "w"
      try dsimp only
      cases h2 : flEq (D.int rest) (D.int 0) with
      | false => exact st _ ⟨cs, at_, rest, mix, cnt + 1⟩ none ⟨ok.a0, ok.a1, ok.r0, ok.m0, ok.m1⟩ rfl
      | true =>
        walk_at "w"
        rw [con_ptr (k1 _)]
        walk_at "w"
        rw [con_ptr (k1 _)]
        walk_at "w"
        try dsimp only
        cases h3 : decide (at_ < ((cs.map D.int).length : Int)) with
        | false => exact st _ ⟨cs, at_, rest, mix, cnt + 1⟩ none ⟨ok.a0, ok.a1, ok.r0, ok.m0, ok.m1⟩ rfl
        | true =>
          have h3 := of_decide_eq_true h3
          rw [List.length_map] at h3
          have a0 : 0 ≤ at_ := ok.a0
          obtain ⟨n, rfl⟩ := Int.eq_ofNat_of_zero_le a0
          have hn : n < cs.length := by omega
          have hat : atI (cs.map D.int) (n : Int) = some (.int cs[n]) := atI_nat (by rw [List.getElem?_map, List.getElem?_eq_getElem hn]; rfl)
          walk_at "w"
          rw [con_ptr (k1 _)]
          walk_at "w"
          rw [con_ptr (k1 _)]
          walk_at "w"
          rw [show atI (List.map D.int (Bag.mk cs (n : Int) rest mix cnt).cells) (Bag.mk cs (n : Int) rest mix cnt).at_ = some (D.int cs[n]) from hat]
          walk_at "w"
          rw [con_ptr (k1 _)]
          walk_at "w"
          rw [k1]
          walk_at "w"
          rw [setL_setL]
          walk_at "w"
          refine ⟨⟨by decide, by decide, by decide⟩, ?_⟩
          walk_at "w"
          cases h4 : decide ((10 : Int) ^ (Int.toNat 18) ≤ cs[n]) with
          | true =>
            have h4 := of_decide_eq_true h4
            walk_at "w"
            rw [k1]
            walk_at "w"
            rw [setL_setL]
            refine st _ ⟨cs, n + 1, cs[n], mix, cnt + 1⟩ _ ⟨?_, ?_, ?_, ok.m0, ok.m1⟩ rfl
            · show (0 : Int) ≤ n + 1; omega
            · show (n : Int) + 1 ≤ cs.length; omega
            · show 0 ≤ cs[n]
              have : (0 : Int) ≤ 10 ^ (Int.toNat 18) := by decide +kernel
              omega
          | false =>
            walk_at "w"
            rw [con_ptr (k1 _)]
            walk_at "w"
            refine ⟨.inl (.inr (by decide)), ?_⟩
            walk_at "w"
            refine ⟨(by show (2147483423 : Int) ≠ 0; decide), ?_⟩
            walk_at "w"
            refine ⟨.inl (.inr (by decide)), ?_⟩
            walk_at "w"
            refine ⟨(by show (2147483489 : Int) ≠ 0; decide), ?_⟩
            walk_at "w"
            rw [k1]
            walk_at "w"
            rw [setL_setL]
            refine st _ ⟨cs, n + 1, rest, (mix * 39317 + cs[n].fmod 2147483423 * 691 + 43).fmod 2147483489, cnt + 1⟩ _ ⟨?_, ?_, ok.r0, ?_, ?_⟩ rfl
            · show (0 : Int) ≤ n + 1; omega
            · show (n : Int) + 1 ≤ cs.length; omega
            · show (0 : Int) ≤ Int.fmod _ _
              rw [Int.fmod_eq_emod_of_nonneg _ (by decide)]; exact Int.emod_nonneg _ (by decide)
            · show Int.fmod _ _ < (2147483497 : Int)
              rw [Int.fmod_eq_emod_of_nonneg _ (by decide)]
              have := Int.emod_lt_of_pos (mix * 39317 + cs[n].fmod 2147483423 * 691 + 43) (show (0 : Int) < 2147483489 by decide)
              omega
    · rintro env' L' ⟨⟨cs, at_, rest, mix, cnt⟩, o, ok', rfl, rfl⟩
      have r0 : 0 ≤ rest := ok'.r0
      have fm : ∀ z : Int, 0 ≤ z.fmod m ∧ z.fmod m < m := fun z => by
        rw [Int.fmod_eq_emod_of_nonneg _ (Int.le_of_lt m0)]
        exact ⟨Int.emod_nonneg _ (by omega), Int.emod_lt_of_pos _ m0⟩
      walk_at "w"
      rw [con_ptr (k1 _)]
      walk_at "w"
      try dsimp only
      cases h2 : decide (0 < rest) with
      | true =>
        walk_at "w"
        rw [con_ptr (k1 _)]
        walk_at "w"
        refine ⟨(by show m ≠ 0; omega), ?_⟩
        walk_at "w"
        rw [con_ptr (k1 _)]
        walk_at "w"
        refine ⟨⟨(by omega), m1⟩, ?_⟩
        walk_at "w"
        rw [k1]
        walk_at "w"
        rw [setL_setL]
        refine h _ ⟨cs, at_, rest.fdiv m, mix, cnt⟩ (fm rest).1 (fm rest).2 ⟨ok'.a0, ok'.a1, ?_, ok'.m0, ok'.m1⟩
        exact Int.fdiv_nonneg r0 (Int.le_of_lt m0)
      | false =>
        walk_at "w"
        rw [con_ptr (k1 _)]
        walk_at "w"
        have hm0 : 0 ≤ mix := ok'.m0
        have hm1 : mix < 2147483497 := ok'.m1
        refine ⟨⟨by decide, by decide, (by show mix.natAbs < 2 ^ 64; omega)⟩, ?_⟩
        walk_at "w"
        refine ⟨.inl (.inr (by decide)), ?_⟩
        walk_at "w"
        rw [con_ptr (k1 _)]
        walk_at "w"
        refine ⟨.inl (.inr (by decide)), ?_⟩
        walk_at "w"
        refine ⟨(by show (2147483489 : Int) ≠ 0; decide), ?_⟩
        walk_at "w"
        rw [k1]
        walk_at "w"
        rw [setL_setL]
        rw [con_ptr (k1 _)]
        walk_at "w"
        refine ⟨⟨by decide, by decide +kernel⟩, ?_⟩
        walk_at "w"
        rw [con_ptr (k1 _)]
        walk_at "w"
        refine ⟨(by show (7919 : Int) ≠ 0; decide), ?_⟩
        walk_at "w"
        refine ⟨.inl (.inr (by decide)), ?_⟩
        walk_at "w"
        refine ⟨(by show m ≠ 0; omega), ?_⟩
        refine h _ ⟨cs, at_, rest, (mix ^ Int.toNat 3 + mix * 27073 + cnt * 1299827 + 70001).fmod 2147483489, cnt⟩ (fm _).1 (fm _).2 ⟨ok'.a0, ok'.a1, ok'.r0, ?_, ?_⟩
        · show (0 : Int) ≤ Int.fmod _ _
          rw [Int.fmod_eq_emod_of_nonneg _ (by decide)]; exact Int.emod_nonneg _ (by decide)
        · show Int.fmod _ _ < (2147483497 : Int)
          rw [Int.fmod_eq_emod_of_nonneg _ (by decide)]
          have := Int.emod_lt_of_pos (mix ^ Int.toNat 3 + mix * 27073 + cnt * 1299827 + 70001) (show (0 : Int) < 2147483489 by decide)
          omega
  · rintro ds L k x ⟨p, b, m, rfl, _⟩; rfl
theorem scLOf : FnScope ["_law_bag_here", "_law_some"] ["_law_bag_here", "_law_some"] (defScope sLOf) := ⟨rfl, rfl, rfl, by decide +kernel, rfl, by decide +kernel, by decide +kernel⟩
theorem ok_LOf {f : Addr} {fd : FuncData} (Z : Zn w K mg cR cO) (F : Fun K "_law_of" "_law_of" sLOf f fd) (CLPull : Cal P w K mg base 1 "_law_pull" ["_law_bag_here", "_law_many"] [] pullS) : FnOk P w K mg base (L2.CX P w) 2 f fd ["_law_bag_here", "_law_some"] (spD K ofA) := by
  refine fn_ok F scLOf ?len (fun cdv A outer s H E hr => ?_)
  rotate_left
  · have tk := takes_of (X := cxOf (L2.CX P w) P w K mg base ["_law_bag_here", "_law_some"] "_law_of" (defScope sLOf) f cdv A outer s H E) (E := E) rfl rfl rfl rfl
    have hp := passes_of (X := cxOf (L2.CX P w) P w K mg base ["_law_bag_here", "_law_some"] "_law_of" (defScope sLOf) f cdv A outer s H E) rfl
    refine ⟨_, (ss_one (s_ret (q_ixA (qv 1) (q_cal CLPull (by first | decide | exact Nat.le_refl _ | omega) hr tk (by rfl) (a_cons (qv 0) (a_cons (q_callB cq_len (by rfl) Z.z_len bb_len (a_cons (qv 1) a_nil)) a_nil)))))), ?_⟩
    clear tk hp
    rintro ds L k x ⟨p, b, s, xs, rfl, hs, hl, ok, x0, x1, h⟩
    have lg : ∀ n : Nat, 0 < n → n < 1000 → ((n : Int)).natAbs.log2 < 9000 := fun n n0 n1 => by
      rw [Int.natAbs_natCast]
      have : n.log2 < 10 := by
        rw [Nat.log2_lt (by omega)]
        omega
      omega
    cases s <;> first | cases hs; done | skip
    · rename_i z
      cases hs
      rw [sgD, List.length_map] at x0 x1
      have x0 : 0 < z.length := x0
      have x1 : z.length < 1000 := x1
      have zs : z.length ≤ sizeLine := Nat.le_trans (Nat.le_of_lt x1) (by decide)
      walk_at "w"
      refine ⟨zs, ?_⟩
      walk_at "w"
      refine ⟨p, b, z.length, rfl, hl, ok, by omega, lg _ x0 x1, fun r b' r0 r1 ok' => ?_⟩
      obtain ⟨n, rfl⟩ := Int.eq_ofNat_of_zero_le r0
      have hn : n < z.cps.toList.length := by show n < z.length; omega
      walk_at "w"
      refine ⟨zs, ?_⟩
      rw [show atI z.cps.toList (n : Int) = some z.cps.toList[n] from atI_nat (List.getElem?_eq_getElem hn)]
      exact h _ b' (List.mem_map.mpr ⟨_, List.getElem_mem hn, rfl⟩) ok'
    · rename_i l
      have e : l = xs := by injection hs
      subst e
      walk_at "w"
      refine ⟨p, b, l.length, rfl, hl, ok, by omega, lg _ x0 x1, fun r b' r0 r1 ok' => ?_⟩
      obtain ⟨n, rfl⟩ := Int.eq_ofNat_of_zero_le r0
      have hn : n < l.length := by omega
      walk_at "w"
      rw [show atI l (n : Int) = some l[n] from atI_nat (List.getElem?_eq_getElem hn)]
      exact h _ b' (List.getElem_mem hn) ok'
  · rintro ds L k x ⟨p, b, s, xs, rfl, _⟩; rfl
theorem scLSame : FnScope ["_law_found", "_law_due", "_law_one", "_law_two"] ["_law_found", "_law_due"] (defScope sLSame) := ⟨rfl, rfl, rfl, by decide +kernel, rfl, by decide +kernel, by decide +kernel⟩
theorem ok_LSame {f : Addr} {fd : FuncData} {n : Nat} (Z : Zn w K mg cR cO) (F : Fun K "_law_same" "_law_same" sLSame f fd) (CLSame : Cal P w K mg base n "_law_same" ["_law_found", "_law_due"] [] (sameS n)) : FnOk P w K mg base (L2.CX P w) (n + 1) f fd ["_law_found", "_law_due"] (spD K (sameS (n + 1))) := by
  refine fn_ok F scLSame ?len (fun cdv A outer s H E hr => ?_)
  rotate_left
  · have tk := takes_of (X := cxOf (L2.CX P w) P w K mg base ["_law_found", "_law_due", "_law_one", "_law_two"] "_law_same" (defScope sLSame) f cdv A outer s H E) (E := E) rfl rfl rfl rfl
    have hp := passes_of (X := cxOf (L2.CX P w) P w K mg base ["_law_found", "_law_due", "_law_one", "_law_two"] "_law_same" (defScope sLSame) f cdv A outer s H E) rfl
    refine ⟨_, (ss_cons (s_if (t_val (q_isi2 .lst .tup (qv 1) (by rfl) Z.z_isinstance (by rfl) Z.z_list bb_list (by rfl) Z.z_tuple bb_tuple)) (ss_cons (s_if (w_or (t_cmp (oq_neU hr.units) (q_isi .lst (qv 0) (by rfl) Z.z_isinstance (by rfl) Z.z_list bb_list) (q_isi .lst (qv 1) (by rfl) Z.z_isinstance (by rfl) Z.z_list bb_list)) (w_or1 (t_cmp (oq_neU hr.units) (q_isi .tup (qv 0) (by rfl) Z.z_isinstance (by rfl) Z.z_tuple bb_tuple) (q_isi .tup (qv 1) (by rfl) Z.z_isinstance (by rfl) Z.z_tuple bb_tuple)))).t (ss_one (s_ret q_bl)) ss_nil)
  (ss_one (s_ret (q_and (q_cmp (oq_eqU hr.units) (q_callB cq_len (by rfl) Z.z_len bb_len (a_cons (qv 0) a_nil)) (q_callB cq_len (by rfl) Z.z_len bb_len (a_cons (qv 1) a_nil))) (q_one (q_callB (cq_all rfl) (by rfl) Z.z_all bb_all (a_cons (q_lc rfl scLSame.nd (i_zip (by rfl) Z.z_zip (a_cons (qv 0) (a_cons (qv 1) a_nil))) (blkOk_by (own := [("_law_one", 2), ("_law_two", 3)]) (N := ["_law_found", "_law_due", "_law_one", "_law_two"]) (sc := (defScope sLSame)) (by decide +kernel)) (fun _ _ _ _ _ => (g_tup (n := 2) rfl (gs_cons (g_name 2 scLSame.nd) (gs_cons (g_name 3 scLSame.nd) gs_nil)))) (fun _ _ _ _ _ => ts_nil) (fun _ _ _ _ _ => (q_cal CLSame (by first | decide | exact Nat.le_refl _ | omega) hr takes0 (by rfl) (a_cons (qv 2) (a_cons (qv 3) a_nil))))) a_nil))))))) ss_nil)
  (ss_cons (s_if (w_or (t_cmp oq_isN (qv 1) q_non) (w_or1 (t_cmp oq_isN (qv 0) q_non))).t (ss_one (s_ret (q_and (q_cmp oq_isN (qv 1) q_non) (q_one (q_cmp oq_isN (qv 0) q_non))))) ss_nil)
  (ss_cons (s_if (w_or (t_cmp (oq_neU hr.units) (q_isi .bl (qv 0) (by rfl) Z.z_isinstance (by rfl) Z.z_bool bb_bool) (q_isi .bl (qv 1) (by rfl) Z.z_isinstance (by rfl) Z.z_bool bb_bool)) (w_or1 (t_cmp (oq_neU hr.units) (q_isi .int (qv 0) (by rfl) Z.z_isinstance (by rfl) Z.z_int bb_int) (q_isi .int (qv 1) (by rfl) Z.z_isinstance (by rfl) Z.z_int bb_int)))).t (ss_one (s_ret q_bl)) ss_nil)
  (ss_one (s_ret (q_and (q_cmp (oq_eqU hr.units) (q_isi .str (qv 0) (by rfl) Z.z_isinstance (by rfl) Z.z_str bb_str) (q_isi .str (qv 1) (by rfl) Z.z_isinstance (by rfl) Z.z_str bb_str)) (q_one (q_cmp (oq_eqU hr.units) (qv 0) (qv 1))))))))), ?_⟩
    clear tk hp
    rintro ds L k x ⟨a, b, rfl, oa, ob, hd, h⟩
    have seq : ∀ (kk : DK) (p : Addr) (e0 : DEnv) (e1 : D → D → DEnv), ¬ inL L p → ∀ (dg : DG) (de : DE), (∀ (x y : D) (L' : Led) (g : DEnv → Prop), g (e1 x y) → dg (.tup [x, y]) e0 L' g) → (∀ (x y : D) (L' : Led) (g : DK) (gx : DX), okP x = true → okP y = true → dep y < n → g (.bl (sameD x y)) L' → de (e1 x y) L' g gx) →
        ∀ (xs ys acc : List D), xs.length = ys.length → okPs xs = true → okPs ys = true → deps ys < n → acc.length + xs.length < 200000 → (∀ bs : List Bool, bs.all id = sameL xs ys → kk (.lst (acc ++ bs.map .bl)) L) → lcD dg dYes de e0 p kk (zipD xs ys) acc ((p, .lst acc) :: L) := by
      intro kk p e0 e1 hp dg de hg he xs
      induction xs with
      | nil =>
        intro ys acc hl _ _ _ _ hk
        cases ys with
        | cons _ _ => simp at hl
        | nil =>
          show lcD _ _ _ _ _ _ [] _ _
          rw [lcD_nil, remL_top hp]
          have := hk [] (by unfold sameL; rfl)
          rw [List.map_nil, List.append_nil] at this
          exact this
      | cons x r ih =>
        intro ys acc hl o1 o2 d2 ha hk
        cases ys with
        | nil => simp at hl
        | cons y s =>
          show lcD _ _ _ _ _ _ (.tup [x, y] :: zipD r s) _ _
          rw [lcD_cons]
          unfold okPs at o1 o2
          rw [Bool.and_eq_true] at o1 o2
          unfold deps at d2
          refine hg x y _ _ ?_
          show de (e1 x y) _ _ _
          refine he x y _ _ _ o1.1 o2.1 (by omega) ⟨lookup_top, ?_, ?_⟩
          · have z : (200000 : Nat) ≤ sizeLine := by decide
            omega
          · rw [setL_top hp]
            refine ih s (acc ++ [.bl (sameD x y)]) (by simpa using hl) o1.2 o2.2 (by omega) (by simp at ha ⊢; omega) fun bs hb => ?_
            have := hk (sameD x y :: bs) (by unfold sameL; rw [List.all_cons, hb]; rfl)
            rw [List.map_cons] at this
            rw [List.append_assoc]
            exact this
    have both : ∀ (xs ys : List D) (kk : DK) (p : Addr) (e0 : DEnv), xs.length = ys.length → okPs xs = true → okPs ys = true → deps ys < n → xs.length < 100000 → (∀ bs : List Bool, bs.all id = sameL xs ys → kk (.lst (bs.map .bl)) L) → ¬ inL L p → ∀ u v, e0 = [u, v, none, none] → lcD (dgTup 2 (dgCons (dgName 2) (dgCons (dgName 3) dgNil))) dYes (dCall (sameS n) [] (dCons (dVar 2) (dCons (dVar 3) dNil))) e0 p kk (zipD xs ys) [] ((p, .lst []) :: L) := by
      intro xs ys kk p e0 hl o1 o2 d2 hz hk hp u v he0
      subst he0
      refine seq kk p _ (fun x y => [u, v, some x, some y]) hp _ _ (fun x y L' g hg => ⟨rfl, hg⟩) (fun x y L' g gx o1 o2 d hg => ?_) xs ys [] hl o1 o2 d2 (by simpa using (by omega : xs.length < 200000)) fun bs hb => hk bs hb
      exact ⟨x, y, rfl, o1, o2, d, hg⟩
    have fin : ∀ (xs ys : List D), okP (.lst xs) = true → okP (.lst ys) = true → deps ys + 1 < n + 1 → sameD a b = sameL xs ys → (decide ((xs.length : Int) = (ys.length : Int)) = false → k (.bl false) L) ∧ (decide ((xs.length : Int) = (ys.length : Int)) = true → xs.length = ys.length ∧ okPs xs = true ∧ okPs ys = true ∧ deps ys < n ∧ xs.length < 100000) := by
      intro xs ys o1 o2 d2 e
      refine ⟨fun z => ?_, fun z => ?_⟩
      · have := of_decide_eq_false z
        rw [e, sameL_len (by omega)] at h
        exact h
      · have := of_decide_eq_true z
        unfold okP at o1 o2
        rw [Bool.and_eq_true] at o1 o2
        exact ⟨by omega, o1.2, o2.2, by omega, of_decide_eq_true o1.1⟩
    have all_ : ∀ (bs : List Bool) (r : Bool), bs.all id = r → k (.bl r) L → gAll [.lst (bs.map .bl)] L fun d => k d L := by
      intro bs r e hk
      show (match blsOf (bs.map .bl) with | some bs => k (.bl (bs.all id)) L | none => False)
      rw [blsOf_map]
      show k (.bl (bs.all id)) L
      rw [e]; exact hk
    cases b with
    | lst ys =>
      cases a with
      | lst xs =>
        have e : sameD (.lst xs) (.lst ys) = sameL xs ys := by unfold sameD; rfl
        rw [e] at h
        unfold dep at hd
        obtain ⟨f1, f2⟩ := fin xs ys oa ob hd e
        walk_at "w"
        cases hh : flEq (D.int (xs.length : Int)) (D.int (ys.length : Int)) with
        | false => exact f1 hh
        | true =>
          obtain ⟨q1, q2, q3, q4, q5⟩ := f2 hh
          walk_at "w"
          intro p hp
          exact both xs ys _ p _ q1 q2 q3 q4 q5 (fun bs hb => all_ bs _ hb h) hp _ _ rfl
      | _ => first | (simp [okP] at oa; done) | (unfold sameD at h; exact h)
    | tup ys =>
      cases a with
      | tup xs =>
        have e : sameD (.tup xs) (.tup ys) = sameL xs ys := by unfold sameD; rfl
        rw [e] at h
        unfold dep at hd
        obtain ⟨f1, f2⟩ := fin xs ys oa ob hd e
        walk_at "w"
        cases hh : flEq (D.int (xs.length : Int)) (D.int (ys.length : Int)) with
        | false => exact f1 hh
        | true =>
          obtain ⟨q1, q2, q3, q4, q5⟩ := f2 hh
          walk_at "w"
          intro p hp
          exact both xs ys _ p _ q1 q2 q3 q4 q5 (fun bs hb => all_ bs _ hb h) hp _ _ rfl
      | _ => first | (simp [okP] at oa; done) | (unfold sameD at h; exact h)
    | non => cases a <;> first | (simp [okP] at oa; done) | (unfold sameD at h; exact h)
    | bl v => cases a <;> first | (simp [okP] at oa; done) | (unfold sameD at h; exact h)
    | int v => cases a <;> first | (simp [okP] at oa; done) | (unfold sameD at h; exact h)
    | str v => cases a <;> first | (simp [okP] at oa; done) | (unfold sameD at h; exact h)
    | _ => simp [okP] at ob
  · rintro ds L k x ⟨a, b, rfl, _⟩; rfl
theorem scLGcd : FnScope ["_law_one", "_law_two", "_law_k"] ["_law_one", "_law_two"] (defScope sLGcd) := ⟨rfl, rfl, rfl, by decide +kernel, rfl, by decide +kernel, by decide +kernel⟩
theorem ok_LGcd {f : Addr} {fd : FuncData} (Z : Zn w K mg cR cO) (F : Fun K "_law_gcd" "_law_gcd" sLGcd f fd) : FnOk P w K mg base (L2.CX P w) 1 f fd ["_law_one", "_law_two"] (spD K gcdS) := by
  refine fn_ok F scLGcd ?len (fun cdv A outer s H E hr => ?_)
  rotate_left
  · have tk := takes_of (X := cxOf (L2.CX P w) P w K mg base ["_law_one", "_law_two", "_law_k"] "_law_gcd" (defScope sLGcd) f cdv A outer s H E) (E := E) rfl rfl rfl rfl
    have hp := passes_of (X := cxOf (L2.CX P w) P w K mg base ["_law_one", "_law_two", "_law_k"] "_law_gcd" (defScope sLGcd) f cdv A outer s H E) rfl
    refine ⟨_, (ss_cons (s_par 0 1 rfl scLGcd.nd (a_cons (q_callB cq_abs (by rfl) Z.z_abs bb_abs (a_cons (qv 0) a_nil)) (a_cons (q_callB cq_abs (by rfl) Z.z_abs bb_abs (a_cons (qv 1) a_nil)) a_nil)))
  (ss_cons (s_for hp rfl (i_range1 (by rfl) Z.z_range (a_cons q_int a_nil)) (g_name 2 scLGcd.nd) (ss_cons (s_if (t_cmp (oq_eqU hr.units) (qv 1) q_int) (ss_one (s_ret (qv 0))) ss_nil)
  (ss_one (s_par 0 1 rfl scLGcd.nd (a_cons (qv 1) (a_cons (q_op oq_mod (q_callTy cq_int (by rfl) Z.z_int bb_int (a_cons (qv 0) a_nil)) (qv 1)) a_nil))))))
  (ss_one (s_ret (qv 0))))), ?_⟩
    clear tk hp
    rintro ds L k x ⟨a, b, rfl, ha, hb, h⟩
    have key : ∀ (En : DEnds) (db : DS), (∀ (E' : DEnds) (x y j : Int), E'.rt = En.rt → 0 ≤ x → 0 ≤ y → (y = 0 → E'.rt (.int x) L) → (y ≠ 0 → E'.nx [some (.int y), some (.int (x.fmod y)), some (.int j)] L) → db E' [some (.int x), some (.int y), some (.int j)] L) →
        ∀ (n : Nat) (lo x y : Int) (o : Option D), 0 ≤ x → 0 ≤ y → y ≤ x → x * y < 2 ^ n → En.rt (.int (gcdI x y)) L → forD (dgName 2) db En (rngD lo (n + 1)) [some (.int x), some (.int y), o] L := by
      intro En db hb n
      induction n with
      | zero =>
        intro lo x y o hx hy hyx hp hr
        have y0 : y = 0 := by
          rcases Int.lt_or_eq_of_le hy with z | z
          · have : 1 * 1 ≤ x * y := Int.mul_le_mul (by omega) (by omega) (by decide) hx
            omega
          · exact z.symm
        show forD _ _ _ (.int lo :: rngD (lo + 1) 0) _ _
        rw [forD_cons]
        refine hb _ x y lo rfl hx hy (fun _ => ?_) (fun z => absurd y0 z)
        rw [y0, gcdI_zero hx] at hr
        exact hr
      | succ n ih =>
        intro lo x y o hx hy hyx hp hr
        show forD _ _ _ (.int lo :: rngD (lo + 1) (n + 1)) _ _
        rw [forD_cons]
        refine hb _ x y lo rfl hx hy (fun z => ?_) (fun z => ?_)
        · rw [z, gcdI_zero hx] at hr
          exact hr
        · have yp : 0 < y := by omega
          obtain ⟨f0, f1, _⟩ := fmod_bounds hx yp
          refine ih (lo + 1) y (x.fmod y) _ hy f0 (by omega) ?_ ?_
          · have := half_step yp hyx
            rw [Int.pow_succ] at hp
            omega
          · rw [gcdI_step hx yp]
            exact hr
    have abs0 : ∀ z : Int, 0 ≤ (if z < 0 then -z else z) := fun z => by split <;> omega
    have absb : ∀ z : Int, z.natAbs < 2 ^ 1990 → (if z < 0 then -z else z) < 2 ^ 1990 := fun z hz => by
      have e : (if z < 0 then -z else z) = (z.natAbs : Int) := by split <;> omega
      rw [e]
      exact_mod_cast hz
    have hprod : ∀ x y : Int, 0 ≤ x → 0 ≤ y → x < 2 ^ 1990 → y < 2 ^ 1990 → x * y < 2 ^ 3998 := fun x y hx hy h1 h2 => by
      have q1 : x * y ≤ 2 ^ 1990 * 2 ^ 1990 := Int.mul_le_mul (Int.le_of_lt h1) (Int.le_of_lt h2) hy (by exact Int.le_of_lt (Int.pow_pos (by decide)))
      have q2 : (2 : Int) ^ 1990 * 2 ^ 1990 < 2 ^ 3998 := by decide +kernel
      exact Int.lt_of_le_of_lt q1 q2
    have h : (endsD k x).rt (.int (gcdI (if a < 0 then -a else a) (if b < 0 then -b else b))) L := by rw [gcdI_abs]; exact h
    walk_at "w"
    refine ⟨by decide, ?_⟩
    have a0 := abs0 a
    have b0 := abs0 b
    have a1 := absb a ha
    have b1 := absb b hb
    generalize (if a < 0 then -a else a) = x' at *
    generalize (if b < 0 then -b else b) = y' at *
    clear abs0 absb
    have turn : ∀ (E' : DEnds) (x y j : Int), 0 ≤ x → 0 ≤ y → (y = 0 → E'.rt (.int x) L) → (y ≠ 0 → E'.nx [some (.int y), some (.int (x.fmod y)), some (.int j)] L) → (dSeq (dIfS (dB (dOp gEqU (dVar 1) (dC (D.int 0)))) (dRet (dVar 0)) dNext) (dPar 0 1 (dCons (dVar 1) (dCons (dOp gMod (dCB gInt (dCons (dVar 0) dNil)) (dVar 1)) dNil)))) E' [some (.int x), some (.int y), some (.int j)] L := by
      intro E' x y j hx hy h0 h1
      walk_at "w"
      cases h2 : flEq (D.int y) (D.int 0) with
      | true => exact h0 (of_decide_eq_true h2)
      | false =>
        have y0 : y ≠ 0 := of_decide_eq_false h2
        exact ⟨y0, h1 y0⟩
    show forD _ _ _ (rngD 0 40000) _ _
    by_cases hyx : y' ≤ x'
    · exact key _ _ (fun E' x y j _ => turn E' x y j) 39999 0 x' y' none a0 b0 hyx (Int.lt_of_lt_of_le (hprod x' y' a0 b0 a1 b1) (by decide +kernel)) h
    · show forD _ _ _ (.int 0 :: rngD (0 + 1) 39999) _ _
      rw [forD_cons]
      refine turn _ x' y' 0 a0 b0 (fun z => by omega) (fun z => ?_)
      have yp : 0 < y' := by omega
      obtain ⟨f0, f1, f2⟩ := fmod_bounds a0 yp
      refine key _ _ (fun E' x y j _ => turn E' x y j) 39998 (0 + 1) y' (x'.fmod y') _ b0 f0 (by omega) ?_ ?_
      · have q := Int.mul_le_mul_of_nonneg_left f2 b0
        have := hprod y' x' b0 a0 b1 a1
        exact Int.lt_of_lt_of_le (Int.lt_of_le_of_lt q this) (by decide +kernel)
      · rw [gcdI_step a0 yp]
        exact h
  · rintro ds L k x ⟨a, b, rfl, _⟩; rfl
theorem scLLow : FnScope ["_law_top", "_law_under", "_law_shared"] ["_law_top", "_law_under"] (defScope sLLow) := ⟨rfl, rfl, rfl, by decide +kernel, rfl, by decide +kernel, by decide +kernel⟩
theorem ok_LLow {f : Addr} {fd : FuncData} (Z : Zn w K mg cR cO) (F : Fun K "_law_low" "_law_low" sLLow f fd) (CLGcd : Cal P w K mg base 1 "_law_gcd" ["_law_one", "_law_two"] [] gcdS) : FnOk P w K mg base (L2.CX P w) 2 f fd ["_law_top", "_law_under"] (spD K lowS) := by
  refine fn_ok F scLLow ?len (fun cdv A outer s H E hr => ?_)
  rotate_left
  · have tk := takes_of (X := cxOf (L2.CX P w) P w K mg base ["_law_top", "_law_under", "_law_shared"] "_law_low" (defScope sLLow) f cdv A outer s H E) (E := E) rfl rfl rfl rfl
    have hp := passes_of (X := cxOf (L2.CX P w) P w K mg base ["_law_top", "_law_under", "_law_shared"] "_law_low" (defScope sLLow) f cdv A outer s H E) rfl
    refine ⟨_, (ss_cons (s_set 2 scLLow.nd (q_cal CLGcd (by first | decide | exact Nat.le_refl _ | omega) hr tk (by rfl) (a_cons (qv 0) (a_cons (qv 1) a_nil))))
  (ss_cons (s_if (t_cmp oq_lt (qv 1) q_int) (ss_one (s_set 2 scLLow.nd (q_op oq_sub q_int (qv 2)))) ss_nil)
  (ss_one (s_ret (q_tup (a_cons (q_op oq_fdiv (qv 0) (qv 2)) (a_cons (q_op oq_fdiv (qv 1) (qv 2)) a_nil))))))), ?_⟩
    clear tk hp
    rintro ds L k x ⟨t, u, rfl, hu, ht, hu', h⟩
    have hg := gcdI_pos (a := t) hu
    have hl : (gcdI t u).natAbs.log2 < 9000 := by
      have e : (gcdI t u).natAbs ≤ u.natAbs := by have := gcdI_le (a := t) hu; omega
      have : (gcdI t u).natAbs.log2 < 1990 := by
        rw [Nat.log2_lt (by omega)]
        omega
      omega
    unfold lowI at h
    walk_at "w"
    refine ⟨t, u, rfl, ht, hu', ?_⟩
    walk_at "w"
    by_cases hn : u < 0
    · simp only [if_pos hn] at h
      rw [show decide (u < 0) = true from decide_eq_true hn]
      have e0 : (0 - gcdI t u).natAbs = (gcdI t u).natAbs := by omega
      have c : CDivA t (0 - gcdI t u) := ⟨by omega, by rw [e0]; exact hl⟩
      walk_at "w"
      refine ⟨c, ?_⟩
      walk_at "w"
      refine ⟨c, ?_⟩
      walk_at "w"
      exact ⟨(by show 2 ≤ sizeLine; decide), h⟩
    · simp only [if_neg hn] at h
      rw [show decide (u < 0) = false from decide_eq_false hn]
      have c : CDivA t (gcdI t u) := ⟨by omega, hl⟩
      walk_at "w"
      refine ⟨c, ?_⟩
      walk_at "w"
      refine ⟨c, ?_⟩
      walk_at "w"
      exact ⟨(by show 2 ≤ sizeLine; decide), h⟩
  · rintro ds L k x ⟨t, u, rfl, _⟩; rfl
theorem scLSub : FnScope ["_law_one", "_law_two"] ["_law_one", "_law_two"] (defScope sLSub) := ⟨rfl, rfl, rfl, by decide +kernel, rfl, by decide +kernel, by decide +kernel⟩
theorem ok_LSub {f : Addr} {fd : FuncData} (Z : Zn w K mg cR cO) (F : Fun K "_law_sub" "_law_sub" sLSub f fd) (CLLow : Cal P w K mg base 2 "_law_low" ["_law_top", "_law_under"] [] lowS) : FnOk P w K mg base (L2.CX P w) 3 f fd ["_law_one", "_law_two"] (spD K (arS fun x y => x - y)) := by
  refine fn_ok F scLSub ?len (fun cdv A outer s H E hr => ?_)
  rotate_left
  · have tk := takes_of (X := cxOf (L2.CX P w) P w K mg base ["_law_one", "_law_two"] "_law_sub" (defScope sLSub) f cdv A outer s H E) (E := E) rfl rfl rfl rfl
    have hp := passes_of (X := cxOf (L2.CX P w) P w K mg base ["_law_one", "_law_two"] "_law_sub" (defScope sLSub) f cdv A outer s H E) rfl
    refine ⟨_, (ss_one (s_ret (q_cal CLLow (by first | decide | exact Nat.le_refl _ | omega) hr tk (by rfl) (a_cons (q_op oq_sub (q_op oq_mulU (q_ix (qv 0) q_int) (q_ix (qv 1) q_int)) (q_op oq_mulU (q_ix (qv 1) q_int) (q_ix (qv 0) q_int))) (a_cons (q_op oq_mulU (q_ix (qv 0) q_int) (q_ix (qv 1) q_int)) a_nil))))), ?_⟩
    clear tk hp
    rintro ds L k x ⟨a, b, c, d, rfl, hb, hd, ⟨la, lb⟩, ⟨lc, ld⟩, h⟩
    have hb' := cast_ne hb
    have hd' := cast_ne hd
    walk_at "w"
    refine ⟨.inl (.inl la), ?_⟩
    walk_at "w"
    refine ⟨.inl (.inl lc), ?_⟩
    walk_at "w"
    refine ⟨.inl (.inl lb), ?_⟩
    walk_at "w"
    have b1 := two126 la ld
    have b2 := two126 lc lb
    have b3 := two126 lb ld
    have b4 := two126 la lc
    refine ⟨a * d - c * b, b * d, rfl, Int.mul_ne_zero hb hd, lt127 (by omega), lt127 (by omega), ?_⟩
    have e : ((a * d - c * b : Int) : Rat) / ((b * d : Int) : Rat) = (a : Rat) / (b : Rat) - (c : Rat) / (d : Rat) := by
      simp only [Rat.intCast_add, Rat.intCast_sub, Rat.intCast_mul]
      grind
    rw [low_ratD (Int.mul_ne_zero hb hd), e]
    exact h
  · rintro ds L k x ⟨a, b, c, d, rfl, _⟩; rfl
theorem scLTo : FnScope ["_law_base", "_law_often_z", "_law_found", "_law_k"] ["_law_base", "_law_often_z"] (defScope sLTo) := ⟨rfl, rfl, rfl, by decide +kernel, rfl, by decide +kernel, by decide +kernel⟩
theorem ok_LTo {f : Addr} {fd : FuncData} (Z : Zn w K mg cR cO) (F : Fun K "_law_to" "_law_to" sLTo f fd) : FnOk P w K mg base (L2.CX P w) 1 f fd ["_law_base", "_law_often_z"] (spD K toS) := by
  refine fn_ok F scLTo ?len (fun cdv A outer s H E hr => ?_)
  rotate_left
  · have tk := takes_of (X := cxOf (L2.CX P w) P w K mg base ["_law_base", "_law_often_z", "_law_found", "_law_k"] "_law_to" (defScope sLTo) f cdv A outer s H E) (E := E) rfl rfl rfl rfl
    have hp := passes_of (X := cxOf (L2.CX P w) P w K mg base ["_law_base", "_law_often_z", "_law_found", "_law_k"] "_law_to" (defScope sLTo) f cdv A outer s H E) rfl
    refine ⟨_, (ss_cons (s_set 2 scLTo.nd q_int)
  (ss_cons (s_for hp rfl (i_range1 (by rfl) Z.z_range (a_cons (qv 1) a_nil)) (g_name 3 scLTo.nd) (ss_one (s_set 2 scLTo.nd (q_op oq_mulU (qv 2) (qv 0)))))
  (ss_one (s_ret (qv 2))))), ?_⟩
    clear tk hp
    rintro ds L k x ⟨b, n, rfl, hb, hn, h⟩
    walk_at "w"
    refine ⟨⟨by omega, by omega⟩, ?_⟩
    walk_at "w"
    refine forD_rec (fun rr env L' => ∃ (m : Nat) (o3 : Option D), env = [some (.int b), some (.int n), some (.int (b ^ m)), o3] ∧ L' = L ∧ m + rr.length = n) ?step ?fin _ _ _ ⟨0, none, by rw [Int.pow_zero]; rfl, rfl, by rw [rngD_len]; omega⟩
    case fin =>
      rintro env L' ⟨m, o3, rfl, rfl, e⟩
      have e : m = n := e
      subst e
      walk_at "w"
      exact h
    case step =>
      rintro E' d rr env L' _ _ _ _ ⟨m, o3, rfl, rfl, e⟩ hnx
      rw [List.length_cons] at e
      walk_at "w"
      refine ⟨.inl (.inr hb), ?_⟩
      walk_at "w"
      exact hnx _ _ ⟨m + 1, _, by rw [Int.pow_succ]; rfl, rfl, by omega⟩
  · rintro ds L k x ⟨b, n, rfl, _⟩; rfl
theorem scLSign : FnScope ["_law_number"] ["_law_number"] (defScope sLSign) := ⟨rfl, rfl, rfl, by decide +kernel, rfl, by decide +kernel, by decide +kernel⟩
theorem ok_LSign {f : Addr} {fd : FuncData} (Z : Zn w K mg cR cO) (F : Fun K "_law_sign" "_law_sign" sLSign f fd) : FnOk P w K mg base (L2.CX P w) 1 f fd ["_law_number"] (spD K sgnS) := by
  refine fn_ok F scLSign ?len (fun cdv A outer s H E hr => ?_)
  rotate_left
  · have tk := takes_of (X := cxOf (L2.CX P w) P w K mg base ["_law_number"] "_law_sign" (defScope sLSign) f cdv A outer s H E) (E := E) rfl rfl rfl rfl
    have hp := passes_of (X := cxOf (L2.CX P w) P w K mg base ["_law_number"] "_law_sign" (defScope sLSign) f cdv A outer s H E) rfl
    refine ⟨_, (ss_one (s_ret (q_op oq_sub (q_callTy cq_int (by rfl) Z.z_int bb_int (a_cons (q_cmp oq_gt (qv 0) q_int) a_nil)) (q_callTy cq_int (by rfl) Z.z_int bb_int (a_cons (q_cmp oq_lt (qv 0) q_int) a_nil))))), ?_⟩
    clear tk hp
    rintro ds L k x ⟨z, rfl, h⟩
    walk_at "w"
    show k (D.int ((if decide (0 < z) = true then (1 : Int) else 0) - (if decide (z < 0) = true then 1 else 0))) L
    rw [sg_ints]
    exact h
  · rintro ds L k x ⟨z, rfl, _⟩; rfl
theorem scLOrder : FnScope ["_law_one", "_law_two"] ["_law_one", "_law_two"] (defScope sLOrder) := ⟨rfl, rfl, rfl, by decide +kernel, rfl, by decide +kernel, by decide +kernel⟩
theorem ok_LOrder {f : Addr} {fd : FuncData} (Z : Zn w K mg cR cO) (F : Fun K "_law_order" "_law_order" sLOrder f fd) (CLSign : Cal P w K mg base 1 "_law_sign" ["_law_number"] [] sgnS) : FnOk P w K mg base (L2.CX P w) 2 f fd ["_law_one", "_law_two"] (spD K ordS) := by
  refine fn_ok F scLOrder ?len (fun cdv A outer s H E hr => ?_)
  rotate_left
  · have tk := takes_of (X := cxOf (L2.CX P w) P w K mg base ["_law_one", "_law_two"] "_law_order" (defScope sLOrder) f cdv A outer s H E) (E := E) rfl rfl rfl rfl
    have hp := passes_of (X := cxOf (L2.CX P w) P w K mg base ["_law_one", "_law_two"] "_law_order" (defScope sLOrder) f cdv A outer s H E) rfl
    refine ⟨_, (ss_one (s_ret (q_cal CLSign (by first | decide | exact Nat.le_refl _ | omega) hr tk (by rfl) (a_cons (q_op oq_sub (q_op oq_mulU (q_ix (qv 0) q_int) (q_ix (qv 1) q_int)) (q_op oq_mulU (q_ix (qv 1) q_int) (q_ix (qv 0) q_int))) a_nil)))), ?_⟩
    clear tk hp
    rintro ds L k x ⟨a, b, c, d, rfl, ⟨la, lb⟩, ⟨lc, ld⟩, h⟩
    walk_at "w"
    refine ⟨.inl (.inl la), ?_⟩
    walk_at "w"
    refine ⟨.inl (.inl lc), ?_⟩
    walk_at "w"
    exact ⟨_, rfl, h⟩
  · rintro ds L k x ⟨a, b, c, d, rfl, _⟩; rfl
theorem scLRatioText : FnScope ["_law_one"] ["_law_one"] (defScope sLRatioText) := ⟨rfl, rfl, rfl, by decide +kernel, rfl, by decide +kernel, by decide +kernel⟩
theorem ok_LRatioText {f : Addr} {fd : FuncData} (Z : Zn w K mg cR cO) (F : Fun K "_law_ratio_text" "_law_ratio_text" sLRatioText f fd) : FnOk P w K mg base (L2.CX P w) 1 f fd ["_law_one"] (spD K txtS) := by
  refine fn_ok F scLRatioText ?len (fun cdv A outer s H E hr => ?_)
  rotate_left
  · have tk := takes_of (X := cxOf (L2.CX P w) P w K mg base ["_law_one"] "_law_ratio_text" (defScope sLRatioText) f cdv A outer s H E) (E := E) rfl rfl rfl rfl
    have hp := passes_of (X := cxOf (L2.CX P w) P w K mg base ["_law_one"] "_law_ratio_text" (defScope sLRatioText) f cdv A outer s H E) rfl
    refine ⟨_, (ss_one (s_ret (q_if (t_cmp (oq_eqU hr.units) (q_ix (qv 0) q_int) q_int) (q_callTy cq_str (by rfl) Z.z_str bb_str (a_cons (q_ix (qv 0) q_int) a_nil)) (q_op oq_add (q_op oq_add (q_callTy cq_str (by rfl) Z.z_str bb_str (a_cons (q_ix (qv 0) q_int) a_nil)) q_str) (q_callTy cq_str (by rfl) Z.z_str bb_str (a_cons (q_ix (qv 0) q_int) a_nil)))))), ?_⟩
    clear tk hp
    rintro ds L k x ⟨t, u, rfl, ht, hu, h⟩
    have lg : ∀ i : Int, i.natAbs < 10 ^ 30 → i.natAbs.log2 < 1920 := fun i h => by
      by_cases h0 : i.natAbs = 0
      · rw [h0]; decide
      · exact Nat.lt_trans ((Nat.log2_lt h0).mpr (Nat.lt_trans h (by decide +kernel : 10 ^ 30 < 2 ^ 100))) (by decide)
    have ll : ∀ i : Int, i.natAbs < 10 ^ 30 → (Str.ofString (toString i)).length ≤ 31 := fun i h => by
      rw [tl_len, tl_int]
      have := numL_len (by decide) h
      unfold intL
      split
      · rw [List.length_cons]; omega
      · omega
    have sl : ∀ n : Nat, n ≤ 1000 → n ≤ sizeLine := fun n hn => Nat.le_trans hn (by decide)
    walk_at "v"
    cases h1 : flEq (.int u) (.int 1) with
    | true =>
      have h1 : u = 1 := of_decide_eq_true h1
      subst h1
      walk_at "w"
      refine ⟨lg t ht, ?_⟩
      rw [show txt t 1 = Str.ofString (toString t) from ext_tl (by rw [tl_int]; rfl)] at h
      exact h
    | false =>
      have h1 : u ≠ 1 := of_decide_eq_false h1
      walk_at "w"
      refine ⟨lg t ht, ?_⟩
      walk_at "w"
      refine ⟨sl _ (by have := ll t ht; show _ + 1 ≤ 1000; omega), ?_⟩
      walk_at "w"
      refine ⟨lg u hu, ?_⟩
      walk_at "w"
      refine ⟨sl _ (by have e : (Str.ofString (toString t) ++ ("/" : Str)).length = (Str.ofString (toString t)).length + 1 := (by rw [tl_len, tl_append, List.length_append, ← tl_len]; rfl); have := ll t ht; have := ll u hu; omega), ?_⟩
      rw [show txt t u = Str.ofString (toString t) ++ "/" ++ Str.ofString (toString u) from ext_tl (by rw [tl_append, tl_append, tl_int, tl_int]; show textL t u = intL t ++ [47] ++ intL u; unfold textL; rw [if_neg h1]; simp)] at h
      exact h
  · rintro ds L k x ⟨t, u, rfl, _⟩; rfl
theorem scLFloorRoot : FnScope ["_law_top", "_law_under", "_law_found", "_law_k"] ["_law_top", "_law_under"] (defScope sLFloorRoot) := ⟨rfl, rfl, rfl, by decide +kernel, rfl, by decide +kernel, by decide +kernel⟩
theorem ok_LFloorRoot {f : Addr} {fd : FuncData} (Z : Zn w K mg cR cO) (F : Fun K "_law_floor_root" "_law_floor_root" sLFloorRoot f fd) : FnOk P w K mg base (L2.CX P w) 1 f fd ["_law_top", "_law_under"] (spD K flS) := by
  refine fn_ok F scLFloorRoot ?len (fun cdv A outer s H E hr => ?_)
  rotate_left
  · have tk := takes_of (X := cxOf (L2.CX P w) P w K mg base ["_law_top", "_law_under", "_law_found", "_law_k"] "_law_floor_root" (defScope sLFloorRoot) f cdv A outer s H E) (E := E) rfl rfl rfl rfl
    have hp := passes_of (X := cxOf (L2.CX P w) P w K mg base ["_law_top", "_law_under", "_law_found", "_law_k"] "_law_floor_root" (defScope sLFloorRoot) f cdv A outer s H E) rfl
    refine ⟨_, (ss_cons (s_set 2 scLFloorRoot.nd q_int)
  (ss_cons (s_for hp rfl (i_range1 (by rfl) Z.z_range (a_cons q_int a_nil)) (g_name 3 scLFloorRoot.nd) (ss_one (s_if (t_cmp oq_le (q_op oq_mulU (q_op oq_mulU (qv 3) (qv 3)) (qv 1)) (qv 0)) (ss_one (s_set 2 scLFloorRoot.nd (qv 3))) ss_nil)))
  (ss_one (s_ret (qv 2))))), ?_⟩
    clear tk hp
    rintro ds L k x ⟨t, u, rfl, ht, hu, h⟩
    have turn : ∀ (E' : DEnds) (m k : Nat), k < 9 → E'.nx [some (.int t), some (.int u), some (.int ((if k * k * u ≤ t then k else m : Nat) : Int)), some (.int k)] L → (dIfS (dB (dOp gLe (dOp gMulU (dOp gMulU (dVar 3) (dVar 3)) (dVar 1)) (dVar 0))) (dAsg (dVar 3) (dgName 2)) dNext) E' [some (.int t), some (.int u), some (.int m), some (.int k)] L := by
      intro E' m k hk hn
      have l1 : k * k ≤ 8 * 8 := Nat.mul_le_mul (by omega) (by omega)
      have l2 : k * k * u ≤ 64 * 256 := Nat.mul_le_mul l1 (by omega)
      walk_at "w"
      refine ⟨.inl (.inl (by omega)), ?_⟩
      walk_at "w"
      refine ⟨.inl (.inr (by omega)), ?_⟩
      walk_at "w"
      rw [show decide ((k : Int) * k * u ≤ t) = decide (k * k * u ≤ t) from by rw [decide_eq_decide]; exact_mod_cast Iff.rfl]
      cases hd : decide (k * k * u ≤ t) with
      | true =>
        walk_at "w"
        rw [if_pos (of_decide_eq_true hd)] at hn
        exact hn
      | false =>
        walk_at "w"
        rw [if_neg (of_decide_eq_false hd)] at hn
        exact hn
    have loop : ∀ (l : List Nat) (E : DEnds) (m : Nat) (o : Option D), (∀ k ∈ l, k < 9) → (∀ o, E.nx [some (.int t), some (.int u), some (.int ((l.foldl (fun m k => if k * k * u ≤ t then k else m) m : Nat) : Int)), o] L) → forD (dgName 3) (dIfS (dB (dOp gLe (dOp gMulU (dOp gMulU (dVar 3) (dVar 3)) (dVar 1)) (dVar 0))) (dAsg (dVar 3) (dgName 2)) dNext) E (l.map fun k : Nat => D.int k) [some (.int t), some (.int u), some (.int m), o] L := by
      intro l
      induction l with
      | nil => intro E m o _ hn; rw [List.map_nil, forD_nil]; exact hn o
      | cons k l ih =>
        intro E m o hl hn
        rw [List.map_cons, forD_cons]
        refine turn _ m k (hl k List.mem_cons_self) ?_
        exact ih E _ _ (fun j hj => hl j (List.mem_cons_of_mem _ hj)) hn
    walk_at "w"
    refine ⟨⟨by decide, by decide⟩, ?_⟩
    refine loop (List.range 9) _ 0 none (fun k hk => List.mem_range.mp hk) fun o => ?_
    walk_at "w"
    exact h
  · rintro ds L k x ⟨t, u, rfl, _⟩; rfl
theorem scLExactRoot : FnScope ["_law_top", "_law_under", "_law_worth", "_law_tops", "_law_unders", "_law_a", "_law_b"] ["_law_top", "_law_under"] (defScope sLExactRoot) := ⟨rfl, rfl, rfl, by decide +kernel, rfl, by decide +kernel, by decide +kernel⟩
theorem ok_LExactRoot {f : Addr} {fd : FuncData} (Z : Zn w K mg cR cO) (F : Fun K "_law_exact_root" "_law_exact_root" sLExactRoot f fd) (CLLow : Cal P w K mg base 2 "_law_low" ["_law_top", "_law_under"] [] lowS) : FnOk P w K mg base (L2.CX P w) 3 f fd ["_law_top", "_law_under"] (spD K exrS) := by
  refine fn_ok F scLExactRoot ?len (fun cdv A outer s H E hr => ?_)
  rotate_left
  · have tk := takes_of (X := cxOf (L2.CX P w) P w K mg base ["_law_top", "_law_under", "_law_worth", "_law_tops", "_law_unders", "_law_a", "_law_b"] "_law_exact_root" (defScope sLExactRoot) f cdv A outer s H E) (E := E) rfl rfl rfl rfl
    have hp := passes_of (X := cxOf (L2.CX P w) P w K mg base ["_law_top", "_law_under", "_law_worth", "_law_tops", "_law_unders", "_law_a", "_law_b"] "_law_exact_root" (defScope sLExactRoot) f cdv A outer s H E) rfl
    refine ⟨_, (ss_cons (s_set 2 scLExactRoot.nd (q_cal CLLow (by first | decide | exact Nat.le_refl _ | omega) hr tk (by rfl) (a_cons (qv 0) (a_cons (qv 1) a_nil))))
  (ss_cons (s_setLc 3 rfl scLExactRoot.nd (i_range2 (by rfl) Z.z_range (a_cons q_int (a_cons q_int a_nil))) (blkOk_by (own := [("_law_a", 5)]) (N := ["_law_top", "_law_under", "_law_worth", "_law_tops", "_law_unders", "_law_a", "_law_b"]) (sc := (defScope sLExactRoot)) (by decide +kernel)) (fun _ _ _ _ _ => (g_name 5 scLExactRoot.nd)) (fun _ _ _ _ _ => (ts_one (t_cmp (oq_eqU hr.units) (q_ix (qv 2) q_int) (q_op oq_mulU (qv 5) (qv 5))))) (fun _ _ _ _ _ => (qv 5)) (sw_true rfl rfl rfl (by decide +kernel)))
  (ss_cons (s_setLc 4 rfl scLExactRoot.nd (i_range2 (by rfl) Z.z_range (a_cons q_int (a_cons q_int a_nil))) (blkOk_by (own := [("_law_b", 6)]) (N := ["_law_top", "_law_under", "_law_worth", "_law_tops", "_law_unders", "_law_a", "_law_b"]) (sc := (defScope sLExactRoot)) (by decide +kernel)) (fun _ _ _ _ _ => (g_name 6 scLExactRoot.nd)) (fun _ _ _ _ _ => (ts_one (t_cmp (oq_eqU hr.units) (q_ix (qv 2) q_int) (q_op oq_mulU (qv 6) (qv 6))))) (fun _ _ _ _ _ => (qv 6)) (sw_true rfl rfl rfl (by decide +kernel)))
  (ss_one (s_ret (q_if (w_and (t_cmp (oq_neU hr.units) (qv 3) (q_lst a_nil)) (w_and1 (t_cmp (oq_neU hr.units) (qv 4) (q_lst a_nil)))).t (q_tup (a_cons (q_ix (qv 3) q_int) (a_cons (q_ix (qv 4) q_int) a_nil))) q_non)))))), ?_⟩
    clear tk hp
    rintro ds L k x ⟨t, u, rfl, t0, u0, ht, hu, h⟩
    refine ⟨t, u, rfl, by omega, ?_, ?_, ?_⟩
    · exact Nat.lt_trans (show (t : Int).natAbs < 256 by omega) (by decide +kernel)
    · exact Nat.lt_trans (show (u : Int).natAbs < 256 by omega) (by decide +kernel)
    rw [low_nat u0]
    have lt1 : t / Nat.gcd t u ≤ t := Nat.div_le_self ..
    have lu1 : u / Nat.gcd t u ≤ u := Nat.div_le_self ..
    unfold exF at h
    generalize t / Nat.gcd t u = a at h lt1 ⊢
    generalize u / Nat.gcd t u = b at h lu1 ⊢
    walk_at "w"
    refine ⟨by decide, ?_⟩
    intro q1 hq1
    refine lcD_as (show _ = (List.range 8).map (fun i : Nat => D.int (1 + (i : Int))) from rfl) (lcD_pick (fun i : Nat => D.int (1 + (i : Int))) (fun i : Nat => D.int (1 + (i : Int))) (fun i => decide (a = (i + 1) * (i + 1))) hq1 (List.range 8) [] (by show 8 ≤ 200000; decide) (fun i hi acc T F KK hT hF => ?_) ?_)
    · have hi := List.mem_range.mp hi
      have l1 : (i + 1) * (i + 1) ≤ 8 * 8 := Nat.mul_le_mul (by omega) (by omega)
      walk_at "w"
      refine ⟨.inl (.inl (by omega)), ?_⟩
      walk_at "w"
      rw [show flEq (D.int ((a : Nat) : Int)) (D.int ((1 + (i : Int)) * (1 + (i : Int)))) = decide (a = (i + 1) * (i + 1)) from by
        refine decide_eq_decide.mpr ?_
        rw [show (1 + (i : Int)) * (1 + (i : Int)) = (((i + 1) * (i + 1) : Nat) : Int) from by rw [Int.natCast_mul, Int.natCast_add, Int.add_comm]; rfl]
        omega]
      cases hd : decide (a = (i + 1) * (i + 1)) with
      | true => exact hT hd
      | false => exact hF hd
    rw [List.nil_append]
    rw [show (List.range 8).filter (fun i => decide (a = (i + 1) * (i + 1))) = sqs a from rfl]
    walk_at "w"
    refine ⟨by decide, ?_⟩
    intro q2 hq2
    refine lcD_as (show _ = (List.range 8).map (fun i : Nat => D.int (1 + (i : Int))) from rfl) (lcD_pick (fun i : Nat => D.int (1 + (i : Int))) (fun i : Nat => D.int (1 + (i : Int))) (fun i => decide (b = (i + 1) * (i + 1))) hq2 (List.range 8) [] (by show 8 ≤ 200000; decide) (fun i hi acc T F KK hT hF => ?_) ?_)
    · have hi := List.mem_range.mp hi
      have l1 : (i + 1) * (i + 1) ≤ 8 * 8 := Nat.mul_le_mul (by omega) (by omega)
      walk_at "w"
      refine ⟨.inl (.inl (by omega)), ?_⟩
      walk_at "w"
      rw [show flEq (D.int ((b : Nat) : Int)) (D.int ((1 + (i : Int)) * (1 + (i : Int)))) = decide (b = (i + 1) * (i + 1)) from by
        refine decide_eq_decide.mpr ?_
        rw [show (1 + (i : Int)) * (1 + (i : Int)) = (((i + 1) * (i + 1) : Nat) : Int) from by rw [Int.natCast_mul, Int.natCast_add, Int.add_comm]; rfl]
        omega]
      cases hd : decide (b = (i + 1) * (i + 1)) with
      | true => exact hT hd
      | false => exact hF hd
    rw [List.nil_append]
    rw [show (List.range 8).filter (fun i => decide (b = (i + 1) * (i + 1))) = sqs b from rfl]
    have l0 : ([] : List D).length ≤ sizeLine := Nat.zero_le _
    have s0 : shp (.lst ([] : List D)) = true := rfl
    have sh := shp_ones (sqs a)
    have sh2 := shp_ones (sqs b)
    cases ha : sqs a with
    | nil =>
      rw [ha] at h sh
      walk_at "w"
      refine ⟨l0, ?_⟩
      walk_at "w"
      refine ⟨sh, s0, ?_⟩
      walk_at "w"
      exact h
    | cons i l =>
      rw [ha] at h sh
      walk_at "w"
      refine ⟨l0, ?_⟩
      walk_at "w"
      refine ⟨sh, s0, ?_⟩
      rw [eqD_ones]
      walk_at "w"
      refine ⟨l0, ?_⟩
      cases hb : sqs b with
      | nil =>
        rw [hb] at h sh2
        walk_at "w"
        refine ⟨sh2, s0, ?_⟩
        walk_at "w"
        exact h
      | cons j r =>
        rw [hb] at h sh2
        walk_at "w"
        refine ⟨sh2, s0, ?_⟩
        rw [eqD_ones]
        walk_at "w"
        rw [show atI ((i :: l).map fun i : Nat => D.int (1 + (i : Int))) 0 = some (.int ((i + 1 : Nat) : Int)) from by rw [show ((i + 1 : Nat) : Int) = 1 + (i : Int) from by omega]; exact atI_nat (j := 0) rfl]
        walk_at "w"
        rw [show atI ((j :: r).map fun i : Nat => D.int (1 + (i : Int))) 0 = some (.int ((j + 1 : Nat) : Int)) from by rw [show ((j + 1 : Nat) : Int) = 1 + (j : Int) from by omega]; exact atI_nat (j := 0) rfl]
        walk_at "w"
        refine ⟨by show 2 ≤ sizeLine; decide, ?_⟩
        walk_at "w"
        exact h
  · rintro ds L k x ⟨t, u, rfl, _⟩; rfl
end
end T15
namespace T15
open PySem L2 DL PO RO ST TL NumText
def lawS : DSp := fun ds L k _ => ∃ ns : List Int, ds = [.ro (ns.map .int)] ∧ L = [] ∧ ∀ L', k (.bl true) L'
def exOkB (t u : Nat) : Bool := match exF t u with
  | some (a, b) => decide (0 < a) && decide (a < 9) && decide (0 < b) && decide (b < 9) && decide (a * a * u = t * (b * b)) && decide (Nat.gcd a b = 1)
  | none => (List.range 9).all fun p => (List.range 9).all fun r => decide (r = 0) || !decide (p * p * u = t * (r * r))
def flOkB (t u : Nat) : Bool := decide (flF t u * flF t u * u ≤ t) && decide (t < (flF t u + 1) * (flF t u + 1) * u) && decide (flF t u < 9)
theorem all_ok : ((List.range 61).all fun t => (List.range 61).all fun u => decide (t = 0) || decide (u = 0) || (exOkB t u && flOkB t u)) = true := by decide +kernel
theorem ok_at {t u : Nat} (t0 : 0 < t) (t1 : t ≤ 60) (u0 : 0 < u) (u1 : u ≤ 60) : exOkB t u = true ∧ flOkB t u = true := by
  have h := List.all_eq_true.mp (List.all_eq_true.mp all_ok t (List.mem_range.mpr (by omega))) u (List.mem_range.mpr (by omega))
  rw [decide_eq_false (by omega), decide_eq_false (by omega), Bool.false_or, Bool.false_or, Bool.and_eq_true] at h
  exact h
theorem fl_ok {t u : Nat} (t0 : 0 < t) (t1 : t ≤ 60) (u0 : 0 < u) (u1 : u ≤ 60) : flF t u * flF t u * u ≤ t ∧ t < (flF t u + 1) * (flF t u + 1) * u ∧ flF t u < 9 := by
  have h := (ok_at t0 t1 u0 u1).2
  unfold flOkB at h
  rw [Bool.and_eq_true, Bool.and_eq_true] at h
  exact ⟨of_decide_eq_true h.1.1, of_decide_eq_true h.1.2, of_decide_eq_true h.2⟩
theorem ex_some {t u a b : Nat} (t0 : 0 < t) (t1 : t ≤ 60) (u0 : 0 < u) (u1 : u ≤ 60) (e : exF t u = some (a, b)) : 0 < a ∧ a < 9 ∧ 0 < b ∧ b < 9 ∧ a * a * u = t * (b * b) ∧ Nat.gcd a b = 1 := by
  have h := (ok_at t0 t1 u0 u1).1
  unfold exOkB at h
  rw [e] at h
  simp only [Bool.and_eq_true, decide_eq_true_eq] at h
  obtain ⟨⟨⟨⟨⟨h1, h2⟩, h3⟩, h4⟩, h5⟩, h6⟩ := h
  exact ⟨h1, h2, h3, h4, h5, h6⟩
theorem ex_none {t u : Nat} (t0 : 0 < t) (t1 : t ≤ 60) (u0 : 0 < u) (u1 : u ≤ 60) (e : exF t u = none) {p r : Nat} (hp : p < 9) (hr : r < 9) (r0 : 0 < r) : p * p * u ≠ t * (r * r) := by
  have h := (ok_at t0 t1 u0 u1).1
  unfold exOkB at h
  rw [e] at h
  have h := List.all_eq_true.mp (List.all_eq_true.mp h p (List.mem_range.mpr hp)) r (List.mem_range.mpr hr)
  rw [decide_eq_false (by omega), Bool.false_or] at h
  intro k
  rw [decide_eq_true k] at h
  cases h
theorem sq_lt9 {p : Nat} (h : p * p ≤ 60) : p < 9 := by
  apply Classical.byContradiction
  intro k
  have : 9 * 9 ≤ p * p := Nat.mul_le_mul (by omega) (by omega)
  omega
/-- no other ratio either -/
theorem ex_never {t u : Nat} (t0 : 0 < t) (t1 : t ≤ 60) (u0 : 0 < u) (u1 : u ≤ 60) (e : exF t u = none) {p r : Nat} (r0 : 0 < r) (g : Nat.gcd p r = 1) : p * p * u ≠ t * (r * r) := by
  intro k
  have c : Nat.Coprime p r := g
  have c2 : Nat.Coprime (p * p) (r * r) := Nat.Coprime.mul_left (Nat.Coprime.mul_right c c) (Nat.Coprime.mul_right c c)
  have d1 : p * p ∣ t := c2.dvd_of_dvd_mul_right ⟨u, k.symm⟩
  have d2 : r * r ∣ u := c2.symm.dvd_of_dvd_mul_left ⟨t, by rw [k, Nat.mul_comm]⟩
  have l1 := Nat.le_of_dvd t0 d1
  have l2 := Nat.le_of_dvd u0 d2
  exact ex_none t0 t1 u0 u1 e (sq_lt9 (by omega)) (sq_lt9 (by omega)) r0 k
theorem nat_pos {n : Nat} (h : 0 < n) : (0 : Rat) < ((n : Int) : Rat) := Rat.intCast_pos.mpr (by omega)
theorem sqP_rat {t u : Int} (ht : 0 < t) (hu : 0 < u) {v : Rat} (v0 : 0 < v) (e : v * v = (t : Rat) / (u : Rat)) : Eqv (sqP ht hu) (ratCut v) := fun x => by
  constructor
  · show (x < 0 ∨ x * x < (t : Rat) / (u : Rat)) ↔ x < v
    rw [← e]
    constructor
    · rintro (h | h)
      · grind
      · exact lt_of_sq (Rat.le_of_lt v0) h
    · intro h
      by_cases k : x < 0
      · exact .inl k
      · exact .inr (sq_lt (by grind) h)
  · show (0 < x ∧ (t : Rat) / (u : Rat) < x * x) ↔ v < x
    rw [← e]
    constructor
    · rintro ⟨h0, h⟩
      exact lt_of_sq (Rat.le_of_lt h0) h
    · intro h
      exact ⟨by grind, sq_lt (Rat.le_of_lt v0) h⟩
theorem sqN_rat {t u : Int} {ht : 0 < t} {hu : 0 < u} {v : Rat} (h : Eqv (sqP ht hu) (ratCut v)) : Eqv (sqN ht hu) (ratCut (-v)) := fun x => by
  obtain ⟨h1, h2⟩ := h (-x)
  constructor
  · show (sqP ht hu).hi (-x) ↔ x < -v
    rw [h2]
    show v < -x ↔ x < -v
    constructor <;> intro k <;> grind
  · show (sqP ht hu).lo (-x) ↔ -v < x
    rw [h1]
    show -x < v ↔ -v < x
    constructor <;> intro k <;> grind
theorem sqP_of_N {t u : Int} {ht : 0 < t} {hu : 0 < u} {v : Rat} (h : Eqv (sqN ht hu) (ratCut v)) : Eqv (sqP ht hu) (ratCut (-v)) := fun x => by
  obtain ⟨h1, h2⟩ := h (-x)
  have h1 : (sqP ht hu).hi (- -x) ↔ -x < v := h1
  have h2 : (sqP ht hu).lo (- -x) ↔ v < -x := h2
  rw [show - -x = x from by grind] at h1 h2
  refine ⟨h2.trans ?_, h1.trans ?_⟩
  · show v < -x ↔ x < -v
    constructor <;> intro k <;> grind
  · show -x < v ↔ -v < x
    constructor <;> intro k <;> grind
theorem rat_sq {t u : Int} {ht : 0 < t} {hu : 0 < u} {v : Rat} (h : Eqv (sqP ht hu) (ratCut v)) : 0 < v ∧ v * v = (t : Rat) / (u : Rat) := by
  have v0 : 0 < v := (h 0).1.mp (sqP_lo0 ht hu)
  refine ⟨v0, ?_⟩
  have n1 : ¬ v * v < (t : Rat) / (u : Rat) := fun k => by
    have : v < v := (h v).1.mp (.inr k)
    grind
  have n2 : ¬ (t : Rat) / (u : Rat) < v * v := fun k => by
    have : v < v := (h v).2.mp ⟨v0, k⟩
    grind
  grind
theorem frac_nd {a b : Nat} (b0 : 0 < b) (g : Nat.gcd a b = 1) : (((a : Int) : Rat) / ((b : Int) : Rat)).num = a ∧ (((a : Int) : Rat) / ((b : Int) : Rat)).den = b := by
  have h := lowI_rat (t := (a : Int)) (u := (b : Int)) (by omega)
  rw [low_nat b0, g, Nat.div_one, Nat.div_one] at h
  injection h with h1 h2
  exact ⟨h1.symm, by omega⟩
theorem frac_neg {a b : Nat} (b0 : 0 < b) (g : Nat.gcd a b = 1) : (-(((a : Int) : Rat) / ((b : Int) : Rat))).num = -(a : Int) ∧ (-(((a : Int) : Rat) / ((b : Int) : Rat))).den = b := by
  obtain ⟨h1, h2⟩ := frac_nd b0 g
  rw [Rat.neg_num, Rat.neg_den, h1, h2]
  exact ⟨rfl, rfl⟩
def exR (t u : Nat) : Option Rat := (exF t u).map fun p => ((p.1 : Int) : Rat) / ((p.2 : Int) : Rat)
section
variable {t u : Nat} (t0 : 0 < t) (t1 : t ≤ 60) (u0 : 0 < u) (u1 : u ≤ 60)
include t0 t1 u0 u1
theorem ex_eqv {a b : Nat} (e : exF t u = some (a, b)) (ht : 0 < (t : Int)) (hu : 0 < (u : Int)) : Eqv (sqP ht hu) (ratCut (((a : Int) : Rat) / ((b : Int) : Rat))) := by
  obtain ⟨a0, _, b0, _, k, _⟩ := ex_some t0 t1 u0 u1 e
  have aq := nat_pos a0
  have bq := nat_pos b0
  have uq := nat_pos u0
  refine sqP_rat ht hu (div_pos (t := (a : Int)) (u := (b : Int)) (by omega) (by omega)) ?_
  have kq : (((a : Int) : Rat) * ((a : Int) : Rat)) * ((u : Int) : Rat) = ((t : Int) : Rat) * (((b : Int) : Rat) * ((b : Int) : Rat)) := by
    rw [← Rat.intCast_mul, ← Rat.intCast_mul, ← Rat.intCast_mul, ← Rat.intCast_mul]
    congr 1
    exact_mod_cast k
  have e1 : ((a : Int) : Rat) / ((b : Int) : Rat) * ((b : Int) : Rat) = ((a : Int) : Rat) := by grind
  have e2 : ((t : Int) : Rat) / ((u : Int) : Rat) * ((u : Int) : Rat) = ((t : Int) : Rat) := by grind
  generalize ((a : Int) : Rat) / ((b : Int) : Rat) = x at e1 ⊢
  generalize ((t : Int) : Rat) / ((u : Int) : Rat) = y at e2 ⊢
  have h3 : (x * x - y) * (((b : Int) : Rat) * ((b : Int) : Rat) * ((u : Int) : Rat)) = 0 := by
    rw [← e1, ← e2] at kq
    grind
  have h4 : (((b : Int) : Rat) * ((b : Int) : Rat) * ((u : Int) : Rat)) ≠ 0 := by
    have := Rat.mul_pos (Rat.mul_pos bq bq) uq
    grind
  have : x * x - y = 0 := (Rat.mul_eq_zero.mp h3).resolve_right h4
  grind
theorem ex_not (e : exF t u = none) (ht : 0 < (t : Int)) (hu : 0 < (u : Int)) (q : Rat) : ¬ Eqv (sqP ht hu) (ratCut q) := fun h => by
  obtain ⟨q0, k⟩ := rat_sq h
  have dq : (0 : Rat) < (((q.den : Nat) : Int) : Rat) := nat_pos q.den_pos
  have uq := nat_pos u0
  have nd := num_den q
  have n0 : 0 ≤ q.num := Rat.num_nonneg.mpr (Rat.le_of_lt q0)
  refine ex_never t0 t1 u0 u1 e (p := q.num.natAbs) (r := q.den) q.den_pos q.reduced ?_
  have e1 : q * (((q.den : Nat) : Int) : Rat) = ((q.num : Int) : Rat) := by grind
  have e2 : ((t : Int) : Rat) / ((u : Int) : Rat) * ((u : Int) : Rat) = ((t : Int) : Rat) := by grind
  rw [← k] at e2
  have e3 : ((q.num : Int) : Rat) * ((q.num : Int) : Rat) * ((u : Int) : Rat) = ((t : Int) : Rat) * ((((q.den : Nat) : Int) : Rat) * (((q.den : Nat) : Int) : Rat)) := by
    rw [← e1, ← e2]; grind
  rw [← Rat.intCast_mul, ← Rat.intCast_mul, ← Rat.intCast_mul, ← Rat.intCast_mul] at e3
  have e4 := Rat.intCast_inj.mp e3
  have e5 : ((q.num.natAbs : Nat) : Int) = q.num := by omega
  rw [← e5] at e4
  exact_mod_cast e4
theorem ratP {ht : 0 < (t : Int)} {hu : 0 < (u : Int)} {o : Option Rat} (h : RatC (sqP ht hu) o) : o = exR t u := by
  unfold exR
  cases e : exF t u with
  | some p => exact h.some _ (ex_eqv t0 t1 u0 u1 e ht hu)
  | none => exact h.none fun q => ex_not t0 t1 u0 u1 e ht hu q
theorem ratN {ht : 0 < (t : Int)} {hu : 0 < (u : Int)} {o : Option Rat} (h : RatC (sqN ht hu) o) : o = (exR t u).map fun q => -q := by
  unfold exR
  cases e : exF t u with
  | some p => exact h.some _ (sqN_rat (ex_eqv t0 t1 u0 u1 e ht hu))
  | none => exact h.none fun q k => ex_not t0 t1 u0 u1 e ht hu (-q) (sqP_of_N k)
theorem optD : optR (exR t u) = exD (exF t u) := by
  unfold exR
  cases e : exF t u with
  | none => rfl
  | some p =>
    obtain ⟨a, b⟩ := p
    obtain ⟨_, _, b0, _, _, g⟩ := ex_some t0 t1 u0 u1 e
    obtain ⟨h1, h2⟩ := frac_nd b0 g
    show ratD _ = _
    unfold ratD
    rw [h1, h2]
    rfl
theorem floorP {ht : 0 < (t : Int)} {hu : 0 < (u : Int)} {n : Int} (h : FloorC (sqP ht hu) n) : n = (flF t u : Nat) := by
  obtain ⟨f1, f2, _⟩ := fl_ok t0 t1 u0 u1
  obtain ⟨h1, h2⟩ := h
  generalize flF t u = m at f1 f2 ⊢
  have uq := nat_pos u0
  have e2 : ((t : Int) : Rat) / ((u : Int) : Rat) * ((u : Int) : Rat) = ((t : Int) : Rat) := by grind
  have q0 := div_pos ht hu
  have g1 : (((m : Int) : Rat) * ((m : Int) : Rat)) * ((u : Int) : Rat) ≤ ((t : Int) : Rat) := by
    rw [← Rat.intCast_mul, ← Rat.intCast_mul]
    exact Rat.intCast_le_intCast.mpr (by exact_mod_cast f1)
  have g2 : ((t : Int) : Rat) < ((((m : Int) : Rat) + 1) * (((m : Int) : Rat) + 1)) * ((u : Int) : Rat) := by
    rw [show ((1 : Rat)) = ((1 : Int) : Rat) from rfl, ← Rat.intCast_add, ← Rat.intCast_mul, ← Rat.intCast_mul]
    exact Rat.intCast_lt_intCast.mpr (by exact_mod_cast f2)
  have h1 : ¬ (0 < (n : Rat) ∧ ((t : Int) : Rat) / ((u : Int) : Rat) < (n : Rat) * (n : Rat)) := h1
  have h2 : 0 < (n : Rat) + 1 ∧ ((t : Int) : Rat) / ((u : Int) : Rat) < ((n : Rat) + 1) * ((n : Rat) + 1) := h2
  generalize ((t : Int) : Rat) / ((u : Int) : Rat) = q at *
  rw [← e2] at g1 g2
  have g1 : ((m : Int) : Rat) * ((m : Int) : Rat) ≤ q := by
    apply Classical.byContradiction
    intro k
    have := Rat.mul_pos (show 0 < ((m : Int) : Rat) * ((m : Int) : Rat) - q by grind) uq
    grind
  have g2 : q < (((m : Int) : Rat) + 1) * (((m : Int) : Rat) + 1) := by
    apply Classical.byContradiction
    intro k
    have := Rat.mul_nonneg (show 0 ≤ q - (((m : Int) : Rat) + 1) * (((m : Int) : Rat) + 1) by grind) (Rat.le_of_lt uq)
    grind
  have m0 : (0 : Rat) ≤ ((m : Int) : Rat) := Rat.intCast_le_intCast.mpr (show (0 : Int) ≤ (m : Int) by omega)
  have a1 : ((m : Int) : Rat) < (n : Rat) + 1 := lt_of_sq (by grind) (by grind)
  have a2 : (n : Rat) < ((m : Int) : Rat) + 1 := by
    by_cases k : 0 < (n : Rat)
    · exact lt_of_sq (by grind) (by have : ¬ q < (n : Rat) * (n : Rat) := fun z => h1 ⟨k, z⟩; grind)
    · grind
  rw [show ((1 : Rat)) = ((1 : Int) : Rat) from rfl, ← Rat.intCast_add] at a1 a2
  have := Rat.intCast_lt_intCast.mp a1
  have := Rat.intCast_lt_intCast.mp a2
  omega
theorem floorN {ht : 0 < (t : Int)} {hu : 0 < (u : Int)} {n : Int} (e : exF t u = none) (h : FloorC (sqN ht hu) n) : n = 0 - (flF t u : Nat) - 1 := by
  obtain ⟨h1, h2⟩ := h
  have h1 : ¬ (sqP ht hu).lo (-(n : Rat)) := h1
  have h2 : (sqP ht hu).lo (-((n : Rat) + 1)) := h2
  have c : FloorC (sqP ht hu) (-n - 1) := by
    constructor
    · rw [Rat.intCast_sub, Rat.intCast_neg, show ((1 : Int) : Rat) = 1 from rfl, show -(n : Rat) - 1 = -((n : Rat) + 1) from by grind]
      exact fun z => Cut.nlo z h2
    · rw [Rat.intCast_sub, Rat.intCast_neg, show ((1 : Int) : Rat) = 1 from rfl, show -(n : Rat) - 1 + 1 = -(n : Rat) from by grind]
      apply Classical.byContradiction
      intro k
      refine ex_not t0 t1 u0 u1 e ht hu (-(n : Rat)) (z_at h1 k)
  have := floorP t0 t1 u0 u1 c
  omega
end
theorem sr_ord {t u : Int} {c : Cut} {f : List Int} {lo hi : Rat} (R : SR t u c f lo hi) {v : Rat} (s : Sm v) : ∃ r, CmpVR f lo hi v r ∧ OrdV c v r :=
  cmpV_ex R.cn (sr_lim R).1 (sr_lim R).2 R.iso (sr_sm R).1 (sr_sm R).2 s
theorem sr_fok {t u : Int} {c : Cut} {f : List Int} {lo hi : Rat} (R : SR t u c f lo hi) : FOk f := ⟨R.tr, R.ne, (sr_lim R).1, (sr_lim R).2⟩
theorem fok_of {s : List Int} (t : Tr s) (n : s ≠ []) (z : Sz 12 s) (l : s.length ≤ 3) : FOk s := ⟨t, n, z.mono (by decide), by omega⟩
theorem lin_cmp {c : Cut} {a b : Int} (hb : b ≠ 0) {r r0 : Int} (S : SgnC c [a, b] r) (O : OrdV c (((0 - a : Int) : Rat) / (b : Rat)) r0) : r = sgZ b * r0 := by
  have bq := cast0 hb
  have ea : ∀ x, ei [a, b] x = (b : Rat) * (x - ((0 - a : Int) : Rat) / (b : Rat)) := fun x => by
    rw [ei_cons, ei_cons, ei_nil, Int.zero_sub, Rat.intCast_neg]
    have : (-(a : Rat)) / (b : Rat) * (b : Rat) = -(a : Rat) := by grind
    grind
  generalize ((0 - a : Int) : Rat) / (b : Rat) = v at O ea
  -- the sign at the cut when v is on one side
  have side : ∀ {s : Int}, HasS c (ei [a, b]) s → (c.lo v ∧ s = sgZ b) ∨ (c.hi v ∧ s = -sgZ b) := fun {s} h => by
    obtain ⟨δ, d0, k⟩ := h.sg
    obtain ⟨x, y, lx, hy, nx, ny⟩ := c.near_ex d0
    have xy := c.dis lx hy
    have kx := k x nx
    have ky := k y ny
    rw [ea] at kx ky
    have s0 : s = 1 ∨ s = -1 := by
      rcases h with ⟨rfl, _⟩ | ⟨rfl, _⟩
      · exact .inl rfl
      · exact .inr rfl
    have bb : ∀ z : Rat, ST.sg ((b : Rat) * z) = sgZ b * ST.sg z := fun z => by
      by_cases b0 : 0 < b
      · rw [Rat.mul_comm, sg_mul_pos (Rat.intCast_pos.mpr b0), show sgZ b = 1 from if_pos b0, Int.one_mul]
      · have n0 : 0 < -(b : Rat) := by
          have h : (0 : Int) < -b := by omega
          have := Rat.intCast_pos.mpr h
          rwa [Rat.intCast_neg] at this
        rw [show (b : Rat) * z = (-z) * (-(b : Rat)) from by grind, sg_mul_pos n0, show sgZ b = -1 from by unfold sgZ; rw [if_neg b0, if_pos (by omega)]]
        rcases sg_or z with k | k | k
        · have : z = 0 := by
            by_cases h1 : 0 < z
            · rw [sg_pos h1] at k; cases k
            · by_cases h2 : z < 0
              · rw [sg_neg h2] at k; cases k
              · grind
          subst this
          rw [show (-0 : Rat) = 0 from by grind, sg_zero]; rfl
        · have h1 : 0 < z := by
            apply Classical.byContradiction
            intro h1
            by_cases h2 : z < 0
            · rw [sg_neg h2] at k; cases k
            · rw [show z = 0 from by grind, sg_zero] at k; cases k
          rw [k, sg_neg (show -z < 0 by grind)]; rfl
        · have h1 : z < 0 := by
            apply Classical.byContradiction
            intro h1
            by_cases h2 : 0 < z
            · rw [sg_pos h2] at k; cases k
            · rw [show z = 0 from by grind, sg_zero] at k; cases k
          rw [k, sg_pos (show 0 < -z by grind)]; rfl
    rw [bb] at kx ky
    have z1 : sgZ b = 1 ∨ sgZ b = -1 := by
      unfold sgZ
      by_cases k : 0 < b
      · left; simp [k, show ¬ b < 0 by omega]
      · right; simp [k, show b < 0 by omega]
    by_cases vx : v < x
    · left
      refine ⟨c.lo_dn (Rat.le_of_lt vx) lx, ?_⟩
      rw [sg_pos (show 0 < x - v by grind)] at kx
      omega
    · by_cases yv : y < v
      · right
        refine ⟨c.hi_up (Rat.le_of_lt yv) hy, ?_⟩
        rw [sg_neg (show y - v < 0 by grind)] at ky
        omega
      · exfalso
        by_cases ex : x = v
        · rw [show x - v = 0 from by grind, sg_zero] at kx
          rcases s0 with rfl | rfl <;> simp at kx
        · have x1 := sg_neg (show x - v < 0 by grind)
          rw [x1] at kx
          by_cases ey : y = v
          · rw [show y - v = 0 from by grind, sg_zero] at ky
            rcases s0 with rfl | rfl <;> simp at ky
          · rw [sg_pos (show 0 < y - v by grind)] at ky
            omega
  rcases tri' c (iq [a, b]) with z | ⟨s, h⟩
  · rw [S.z z]
    have mid : ∀ z', Z c (ei [a, b]) → c.lo z' ∨ c.hi z' → z' = v → False := fun z' zz hz e => by
      subst e
      rcases hz with hz | hz
      · obtain ⟨y, y1, y2⟩ := c.lo_op hz
        obtain ⟨δ, d0, k⟩ := zz ((if 0 < (b : Rat) then (b : Rat) else -(b : Rat)) * ((y - z') / 2)) (Rat.mul_pos (by split <;> grind) (by grind))
        obtain ⟨m, m0, m1, m2⟩ := min_pos d0 (show 0 < (y - z') / 2 by grind)
        obtain ⟨p, q, lp, hq, np, nq⟩ := c.near_ex m0
        have k1 := k q (Cut.near_le nq m1)
        have yq := c.dis y2 hq
        rw [ea] at k1
        have b1 : (if 0 < (b : Rat) then (b : Rat) else -(b : Rat)) * (q - z' - (y - z') / 2) > 0 := Rat.mul_pos (by split <;> grind) (by grind)
        split at b1 <;> split at k1 <;> first | (have := k1.2; grind) | (have := k1.1; grind) | grind
      · obtain ⟨y, y1, y2⟩ := c.hi_op hz
        obtain ⟨δ, d0, k⟩ := zz ((if 0 < (b : Rat) then (b : Rat) else -(b : Rat)) * ((z' - y) / 2)) (Rat.mul_pos (by split <;> grind) (by grind))
        obtain ⟨p, q, lp, hq, np, nq⟩ := c.near_ex d0
        have k1 := k p np
        have yq := c.dis lp y2
        rw [ea] at k1
        have b1 : (if 0 < (b : Rat) then (b : Rat) else -(b : Rat)) * (z' - p - (z' - y) / 2) > 0 := Rat.mul_pos (by split <;> grind) (by grind)
        split at b1 <;> split at k1 <;> first | (have := k1.2; grind) | (have := k1.1; grind) | grind
    rw [O.eq (fun h => mid v z (.inl h) rfl) (fun h => mid v z (.inr h) rfl), Int.mul_zero]
  · rw [S.s s h]
    rcases side h with ⟨h1, h2⟩ | ⟨h1, h2⟩
    · rw [O.lo h1, h2, Int.mul_one]
    · rw [O.hi h1, h2]; omega
theorem dy_small {l h : Rat} (d1 : Dy 300 40 l) (d2 : Dy 300 40 h) : (h.num.natAbs < 2 ^ 63 ∧ ((h.den : Nat) : Int).natAbs < 2 ^ 63) ∧ (h - l).num.natAbs < 2 ^ 63 ∧ (((h - l).den : Nat) : Int).natAbs < 2 ^ 63 := by
  have two : ((2 : Rat) ^ 40) = ((1099511627776 : Int) : Rat) := by decide +kernel
  have tn : (2 : Nat) ^ 40 = 1099511627776 := by decide +kernel
  have key : ∀ (x : Rat) (p : Int), x * (2 : Rat) ^ 40 = (p : Rat) → p.natAbs ≤ 600 * 2 ^ 40 → x.num.natAbs < 2 ^ 63 ∧ ((x.den : Nat) : Int).natAbs < 2 ^ 63 := fun x p e hp => by
    rw [two] at e
    rw [tn] at hp
    have q0 : (((1099511627776 : Int)) : Rat) ≠ 0 := cast0 (by decide)
    have ex : (p : Rat) / ((1099511627776 : Int) : Rat) = x := by rw [← e]; grind
    obtain ⟨h1, h2⟩ := rat_small (t := p) (u := 1099511627776) (by decide)
    rw [ex] at h1 h2
    have h2 : x.den ≤ 1099511627776 := h2
    have : (2 : Nat) ^ 63 = 9223372036854775808 := by decide +kernel
    omega
  obtain ⟨p, e1, b1⟩ := d1
  obtain ⟨q, e2, b2⟩ := d2
  refine ⟨key h q e2 (by omega), key (h - l) (q - p) ?_ (by omega)⟩
  rw [Rat.intCast_sub, ← e1, ← e2]
  grind
theorem wd_ok {x : Rat} (h : x ≤ 1 / 1000) : sgZ (x.num * 1000 - 1 * ((x.den : Nat) : Int)) ≤ 0 := by
  have dq : (0 : Rat) < (((x.den : Nat) : Int) : Rat) := nat_pos x.den_pos
  have nd := num_den x
  have e1 : x * (((x.den : Nat) : Int) : Rat) = ((x.num : Int) : Rat) := by grind
  have h2 := Rat.mul_nonneg (show 0 ≤ 1 / 1000 - x by grind) (Rat.le_of_lt dq)
  have h3 : ((x.num : Int) : Rat) * ((1000 : Int) : Rat) ≤ (((x.den : Nat) : Int) : Rat) := by
    rw [show ((1000 : Int) : Rat) = 1000 from rfl]
    grind
  rw [← Rat.intCast_mul] at h3
  have := Rat.intCast_le_intCast.mp h3
  unfold sgZ
  rw [if_neg (by omega)]
  split <;> omega
structure TU (t u : Nat) : Prop where
  t0 : 0 < t
  t1 : t ≤ 60
  u0 : 0 < u
  u1 : u ≤ 60
structure VW (t u : Nat) : Prop where
  t0 : 0 < t
  t1 : t ≤ 180
  u0 : 0 < u
  u1 : u ≤ 180
def rowOf (t u : Nat) : List Int := [-(t : Int), 0, (u : Int)]
def turnOf (t u v w : Nat) : Int := sgZ ((t : Int) * w - v * u)
structure Rs (t u v w : Nat) (f g : List Int) (a0 b0 a1 b1 c0 d0 c1 d1 : Rat) : Prop where
  fr : FOk (rowOf t u)
  fl : FOk (rowOf v w)
  ff : FOk f
  fg : FOk g
  r0 : RootR (rowOf t u) 0 f a0 b0
  r1 : RootR (rowOf t u) 1 f a1 b1
  s0 : RootR (rowOf v w) 0 g c0 d0
  s1 : RootR (rowOf v w) 1 g c1 d1
  m1 : CmpRR f g a1 b1 c1 d1 (turnOf t u v w)
  m2 : CmpRR f g a0 b0 c0 d0 (-turnOf t u v w)
  m3 : CmpRR f g a1 b1 c0 d0 1
  m4 : CmpRR f g a0 b0 c1 d1 (-1)
  m5 : CmpRR f f a1 b1 a0 b0 1
  far : ∀ x y : Int, 0 ≤ x → x ≤ 40 → 0 < y → y ≤ 10 → CmpVR f a1 b1 ((x : Rat) / (y : Rat)) (sgZ ((t : Int) * (y * y) - x * x * u)) ∧ CmpVR f a0 b0 (-((x : Rat) / (y : Rat))) (-sgZ ((t : Int) * (y * y) - x * x * u)) ∧
    CmpVR f a0 b0 ((x : Rat) / (y : Rat)) (-1) ∧ CmpVR f a1 b1 (-((x : Rat) / (y : Rat))) 1
  ra : RatioR f a1 b1 (exR t u)
  rb : RatioR f a0 b0 ((exR t u).map fun q => -q)
  fa : FloorR f a1 b1 (flF t u : Nat)
  fb : exF t u = none → FloorR f a0 b0 (0 - (flF t u : Nat) - 1)
  sg0 : ∀ a : Int, a.natAbs ≤ 9 → a ≠ 0 → SgnR f a1 b1 [a] (sgZ a)
  sg1 : ∀ a b : Int, a.natAbs ≤ 9 → b.natAbs ≤ 9 → b ≠ 0 → ∃ r, CmpVR f a1 b1 (((0 - a : Int) : Rat) / (b : Rat)) r ∧ r.natAbs ≤ 1 ∧ SgnR f a1 b1 [a, b] (sgZ b * r)
  q1 : SgnR f a1 b1 (rowOf v w) (turnOf t u v w)
  q0 : SgnR f a0 b0 (rowOf v w) (turnOf t u v w)
  q2 : SgnR f a1 b1 (rowOf t u) 0
  q3 : SgnR f a1 b1 [-(t : Int), 1, (u : Int)] 1
  wi : ∃ l h, WithR f (1 / 1000) a0 b0 l h ∧ (∃ r, CmpVR f a0 b0 l r ∧ 0 ≤ r) ∧ (∃ r, CmpVR f a0 b0 h r ∧ r ≤ 0) ∧ h - l ≤ 1 / 1000 ∧ ((l.num.natAbs < 2 ^ 63 ∧ ((l.den : Nat) : Int).natAbs < 2 ^ 63) ∧ h.num.natAbs < 2 ^ 63 ∧ ((h.den : Nat) : Int).natAbs < 2 ^ 63) ∧ (h - l).num.natAbs < 2 ^ 63 ∧ (((h - l).den : Nat) : Int).natAbs < 2 ^ 63
theorem cmp_ord {f : List Int} {lo hi v : Rat} {r : Int} (h : CmpVR f lo hi v r) : r.natAbs ≤ 1 := by
  cases h <;> decide
theorem sm_frac {x y : Int} (hx : x.natAbs ≤ 100) (y0 : y ≠ 0) (hy : y.natAbs ≤ 100) : ST.Sm ((x : Rat) / (y : Rat)) := by
  obtain ⟨h1, h2⟩ := rat_small (t := x) y0
  have : (100 : Nat) < 2 ^ 900 := by decide +kernel
  exact ⟨by omega, by omega⟩
theorem sm_neg {x : Rat} (h : ST.Sm x) : ST.Sm (-x) := by
  unfold ST.Sm
  rw [Rat.neg_num, Rat.neg_den, Int.natAbs_neg]
  exact h
theorem facts {t u v w : Nat} (H : TU t u) (J : VW v w) : ∃ f g a0 b0 a1 b1 c0 d0 c1 d1, Rs t u v w f g a0 b0 a1 b1 c0 d0 c1 d1 := by
  have ht : 0 < (t : Int) := by have := H.t0; omega
  have hu : 0 < (u : Int) := by have := H.u0; omega
  have hv : 0 < (v : Int) := by have := J.t0; omega
  have hw : 0 < (w : Int) := by have := J.u0; omega
  have bt : (t : Int).natAbs < 256 := by have := H.t1; omega
  have bu : (u : Int).natAbs < 256 := by have := H.u1; omega
  have bv : (v : Int).natAbs < 256 := by have := J.t1; omega
  have bw : (w : Int).natAbs < 256 := by have := J.u1; omega
  obtain ⟨f, a0, b0, a1, b1, ⟨R0, S0⟩, R1, S1⟩ := sq_roots ht hu bt bu
  obtain ⟨g, c0, d0, c1, d1, ⟨U0, T0⟩, U1, T1⟩ := sq_roots hv hw bv bw
  have S0 : SR t u (sqB false ht hu) f a0 b0 := S0
  have S1 : SR t u (sqB true ht hu) f a1 b1 := S1
  have T0 : SR v w (sqB false hv hw) g c0 d0 := T0
  have T1 : SR v w (sqB true hv hw) g c1 d1 := T1
  refine ⟨f, g, a0, b0, a1, b1, c0, d0, c1, d1, ?_⟩
  obtain ⟨t2, n2, z2, l2⟩ := sq_fok ht hu bt bu
  obtain ⟨t3, n3, z3, l3⟩ := sq_fok hv hw bv bw
  obtain ⟨o1, x1, y1⟩ := sr_ratio S1
  obtain ⟨o0, x0, y0⟩ := sr_ratio S0
  obtain ⟨n1, p1, k1⟩ := sr_floor S1
  obtain ⟨n0, p0, k0⟩ := sr_floor S0
  have e1 := ratP H.t0 H.t1 H.u0 H.u1 (ht := ht) (hu := hu) y1
  have e0 := ratN H.t0 H.t1 H.u0 H.u1 (ht := ht) (hu := hu) y0
  have g1 := floorP H.t0 H.t1 H.u0 H.u1 (ht := ht) (hu := hu) k1
  subst e1 e0 g1
  refine ⟨fok_of t2 n2 z2 l2, fok_of t3 n3 z3 l3, sr_fok S1, sr_fok T1, R0, R1, U0, U1, sr_cmp S1 T1, sr_cmp S0 T0, sr_cmp S1 T0, sr_cmp S0 T1, sr_cmp S1 S0, ?_, x1, x0, p1, ?_, ?_, ?_, sgn_sq S1 hv hw bv bw, sgn_sq S0 hv hw bv bw, ?_, sgn_quad (ht := ht) (hu := hu) S1, ?_⟩
  · intro x y hx hx1 hy hy1
    have s := sm_frac (x := x) (y := y) (by omega) (by omega) (by omega)
    have s' := sm_neg s
    exact ⟨sr_cmpV S1 hx hy true s, sr_cmpV S0 hx hy false s', sr_cmpV S0 hx hy true s, sr_cmpV S1 hx hy false s'⟩
  · intro e
    rw [← floorN H.t0 H.t1 H.u0 H.u1 (ht := ht) (hu := hu) e k0]
    exact p0
  · intro a ha h0
    exact sgn_const S1 h0 (by omega)
  · intro a b ha hb h0
    obtain ⟨r, h1, h2⟩ := sr_ord S1 (sm_frac (x := 0 - a) (y := b) (by omega) h0 (by omega))
    obtain ⟨r', h3, h4⟩ := sgn_lin (ht := ht) (hu := hu) S1 h0 (show a.natAbs < 60 by omega) (show b.natAbs < 60 by omega)
    rw [lin_cmp h0 h4 h2] at h3
    exact ⟨r, h1, cmp_ord h1, h3⟩
  · have := sgn_sq S1 ht hu bt bu
    rw [show (t : Int) * u - t * u = 0 from by omega] at this
    exact this
  · obtain ⟨l, h, h1, I, d1, d2, h2⟩ := sr_within S0 (w := 1 / 1000) (by decide +kernel)
    obtain ⟨r, q1, q2⟩ := sr_ord S0 (d1.sm (by decide) (by decide))
    obtain ⟨r', q3, q4⟩ := sr_ord S0 (d2.sm (by decide) (by decide))
    obtain ⟨b1, b2⟩ := dy_small d1 d2
    obtain ⟨b3, _⟩ := dy_small d2 d1
    refine ⟨l, h, h1, ⟨r, q1, by rw [q2.lo I.i.1]; decide⟩, ⟨r', q3, ?_⟩, h2, ⟨b3, b1⟩, b2⟩
    by_cases k : (sqB false ht hu).hi h
    · rw [q4.hi k]; decide
    · rw [q4.eq I.i.2 k]; decide
theorem tri_three {x y z : Int} (h : z ≠ 0) : trimI [x, y, z] = [x, y, z] := trim_last [x, y] h
theorem row_three {t u : Nat} (h : 0 < u) : trimI [0 - (t : Int), 0, (u : Int)] = rowOf t u := by
  rw [tri_three (by omega), Int.zero_sub]
  rfl
def optW (t u : Nat) (s : Bool) : Str := match exF t u with
  | none => "about " ++ Str.ofString (toString (if s then ((flF t u : Nat) : Int) else 0 - ((flF t u : Nat) : Int) - 1))
  | some (a, b) => if s then txt a b else "-" ++ txt a b
theorem txt_neg {a b : Nat} (ha : 0 < a) : txt (-(a : Int)) b = "-" ++ txt a b := by
  have e : intL (-(a : Int)) = 45 :: intL (a : Int) := by
    unfold intL
    first | (rw [if_pos (by omega), if_neg (by omega)]; simp) | simp [ha] | done
  have e2 : textL (-(a : Int)) b = 45 :: textL a b := by
    unfold textL
    split
    · exact e
    · rw [e]; rfl
  unfold txt
  rw [e2]
  exact ext_tl (by rw [tl_append]; rfl)
theorem wrP {t u : Nat} (H : TU t u) : wrT (exR t u) (flF t u : Nat) = optW t u true := by
  unfold optW exR
  cases e : exF t u with
  | none =>
    show Str.empty ++ "about " ++ _ = _
    rw [emp_app]
    rfl
  | some p =>
    obtain ⟨a, b⟩ := p
    obtain ⟨_, _, b0, _, _, g⟩ := ex_some H.t0 H.t1 H.u0 H.u1 e
    obtain ⟨h1, h2⟩ := frac_nd b0 g
    show txt _ _ = txt _ _
    rw [h1, h2]
theorem wrN {t u : Nat} (H : TU t u) : wrT ((exR t u).map fun q => -q) (0 - (flF t u : Nat) - 1) = optW t u false := by
  unfold optW exR
  cases e : exF t u with
  | none =>
    show Str.empty ++ "about " ++ _ = _
    rw [emp_app]
    rfl
  | some p =>
    obtain ⟨a, b⟩ := p
    obtain ⟨a0, _, b0, _, _, g⟩ := ex_some H.t0 H.t1 H.u0 H.u1 e
    obtain ⟨h1, h2⟩ := frac_neg b0 g
    show txt _ _ = "-" ++ txt _ _
    rw [h1, h2, txt_neg a0]
theorem exR_small {t u : Nat} (H : TU t u) : (∀ q, exR t u = some q → q.num.natAbs < 10 ^ 30 ∧ q.den < 10 ^ 30) ∧ ∀ q, ((exR t u).map fun q => -q) = some q → q.num.natAbs < 10 ^ 30 ∧ q.den < 10 ^ 30 := by
  unfold exR
  cases e : exF t u with
  | none => exact ⟨fun q h => (by cases h), fun q h => (by cases h)⟩
  | some p =>
    obtain ⟨a, b⟩ := p
    obtain ⟨_, a1, b0, b1, _, g⟩ := ex_some H.t0 H.t1 H.u0 H.u1 e
    obtain ⟨h1, h2⟩ := frac_nd b0 g
    obtain ⟨h3, h4⟩ := frac_neg b0 g
    have : (9 : Nat) < 10 ^ 30 := by decide +kernel
    constructor
    · intro q h
      injection h with h
      subst h
      show (((a : Int) : Rat) / ((b : Int) : Rat)).num.natAbs < _ ∧ (((a : Int) : Rat) / ((b : Int) : Rat)).den < _
      rw [h1, h2]
      omega
    · intro q h
      injection h with h
      subst h
      show (-(((a : Int) : Rat) / ((b : Int) : Rat))).num.natAbs < _ ∧ (-(((a : Int) : Rat) / ((b : Int) : Rat))).den < _
      rw [h3, h4]
      omega
theorem exR_none {t u : Nat} : exR t u = none ↔ exF t u = none := by
  unfold exR
  cases exF t u <;> simp
theorem exD_ok {t u : Nat} : okP (exD (exF t u)) = true ∧ dep (exD (exF t u)) ≤ 1 := by
  cases exF t u with
  | none => exact ⟨by decide, by decide⟩
  | some p => exact ⟨rfl, Nat.le_of_eq rfl⟩
theorem okI {xs : List Int} (h : xs.length ≤ 1000) : okP (.lst (xs.map D.int)) = true := by
  have w : ∀ xs : List Int, okPs (xs.map D.int) = true := fun xs => by
    induction xs with
    | nil => rfl
    | cons x r ih =>
      show (okP (D.int x) && okPs (r.map D.int)) = true
      rw [ih]; rfl
  unfold okP
  rw [w, Bool.and_true]
  exact decide_eq_true (by rw [List.length_map]; omega)
theorem depI (xs : List Int) : dep (.lst (xs.map D.int)) < 6 := by
  have w : ∀ xs : List Int, deps (xs.map D.int) = 0 := fun xs => by
    induction xs with
    | nil => rfl
    | cons x r ih =>
      show max (dep (D.int x)) (deps (r.map D.int)) = 0
      rw [ih]; rfl
  show deps (xs.map D.int) + 1 < 6
  rw [w]
  decide
theorem low_pt {a b : Int} (ha : 0 ≤ a) (hb : 0 < b) (ha1 : a ≤ 40) (hb1 : b ≤ 10) : ∃ x y : Int, (0 ≤ x ∧ x ≤ 40 ∧ 0 < y ∧ y ≤ 10) ∧ D.tup [.int (lowI a b).1, .int (lowI a b).2] = .tup [.int x, .int y] ∧ ratD ((x : Rat) / (y : Rat)) = .tup [.int x, .int y] ∧ ratD (-((x : Rat) / (y : Rat))) = .tup [.int (-x), .int y] := by
  have aq : (0 : Rat) ≤ (a : Rat) := Rat.intCast_le_intCast.mpr ha
  have bq := Rat.intCast_pos.mpr hb
  have r0 : (0 : Rat) ≤ (a : Rat) / (b : Rat) := by rw [Rat.div_def]; exact Rat.mul_nonneg aq (Rat.le_of_lt (Rat.inv_pos.mpr bq))
  obtain ⟨h1, h2⟩ := rat_small (t := a) (u := b) (by omega)
  have e := low_ratD (t := a) (u := b) (by omega)
  generalize (a : Rat) / (b : Rat) = r at r0 h1 h2 e
  have n0 := Rat.num_nonneg.mpr r0
  have d0 := r.den_pos
  refine ⟨r.num, (r.den : Nat), ⟨n0, by omega, by omega, by omega⟩, e, ?_, ?_⟩
  · rw [num_den]; rfl
  · rw [num_den]
    unfold ratD
    rw [Rat.neg_num, Rat.neg_den]
theorem thou : ratD (1 / 1000) = .tup [.int 1, .int 1000] := by
  unfold ratD
  rw [show (1 / 1000 : Rat).num = 1 from by decide +kernel, show (1 / 1000 : Rat).den = 1000 from by decide +kernel]
  rfl
theorem thou_sb : Sb (1 / 1000) := by
  unfold Sb
  rw [show (1 / 1000 : Rat).num = 1 from by decide +kernel, show (1 / 1000 : Rat).den = 1000 from by decide +kernel]
  decide +kernel
theorem ok_two {t u : Nat} (s : Str) : okP (.lst [exD (exF t u), .str s]) = true ∧ dep (.lst [exD (exF t u), .str s]) < 6 := by
  obtain ⟨h1, h2⟩ := exD_ok (t := t) (u := u)
  constructor
  · show (decide (2 < 100000) && (okP (exD (exF t u)) && (okP (.str s) && true))) = true
    rw [h1]
    rfl
  · show max (dep (exD (exF t u))) (max (dep (.str s)) 0) + 1 < 6
    have : dep (.str s) = 0 := rfl
    omega
theorem small30 {n : Nat} (h : n < 9) : ((n : Nat) : Int).natAbs < 10 ^ 30 ∧ (0 - ((n : Nat) : Int) - 1).natAbs < 10 ^ 30 := by
  have : (10 : Nat) < 10 ^ 30 := by decide +kernel
  omega
theorem sgZ_small (z : Int) : (sgZ z).natAbs ≤ 1 := by
  unfold sgZ
  split
  · decide
  · split <;> decide
theorem pair_row {f : List Int} {lo hi : Rat} {a b z : Int} (ha : a.natAbs ≤ 9) (hb : b.natAbs ≤ 9) (h0 : b = 0 → z = sgZ a) (h1 : b ≠ 0 → SgnR f lo hi [a, b] z) (h2 : a ≠ 0 → SgnR f lo hi [a] (sgZ a)) :
    trimI [a, b] = [] ∧ z = 0 ∨ FOk (trimI [a, b]) ∧ SgnR f lo hi (trimI [a, b]) z := by
  by_cases e : b = 0
  · have hz := h0 e
    subst e
    rw [show trimI [a, 0] = trimI [a] from trim_zero [a]]
    by_cases e2 : a = 0
    · subst e2
      exact .inl ⟨by decide, hz⟩
    · rw [show trimI [a] = [a] from trim_last [] e2, hz]
      exact .inr ⟨fok_of (tr_1 e2) (by simp) (sz_small fun v hv => by rw [List.mem_singleton.mp hv]; omega) (show 1 ≤ 3 by decide), h2 e2⟩
  · rw [show trimI [a, b] = [a, b] from trim_last [a] e]
    refine .inr ⟨fok_of (tr_2 e) (by simp) (sz_small fun v hv => ?_) (show 2 ≤ 3 by decide), h1 e⟩
    simp at hv
    rcases hv with rfl | rfl <;> omega
theorem fok_quad {t u : Nat} (H : TU t u) : FOk [-(t : Int), 1, (u : Int)] := by
  have := H.t1
  have := H.u1
  have := H.u0
  refine fok_of (by have := trim_tr [-(t : Int), 1, (u : Int)]; rwa [tri_three (by omega)] at this) (by simp) (sz_small fun v hv => ?_) (show 3 ≤ 3 by decide)
  simp at hv
  rcases hv with rfl | rfl | rfl <;> omega
theorem small_log {z : Int} (h : z.natAbs < 20) : z.natAbs.log2 < 1920 := Nat.lt_of_le_of_lt (Nat.log2_le_self _) (by omega)
theorem intL_len {z : Int} (h : z.natAbs < 10 ^ 30) : (intL z).length ≤ 31 := by
  have := numL_len (by decide) h
  unfold intL
  split
  · rw [List.length_cons]; omega
  · omega
theorem about_len {z : Int} (h : z.natAbs < 10 ^ 30) : (Str.ofString "about ").length + (Str.ofString (toString z)).length ≤ sizeLine := by
  have l6 : (Str.ofString "about ").length = 6 := by decide +kernel
  have := intL_len h
  rw [l6, tl_len, tl_int]
  exact Nat.le_trans (show 6 + _ ≤ 100 by omega) (by decide)
theorem dash_len {a b : Int} (h : a.natAbs < 10 ^ 30) (h2 : b.natAbs < 10 ^ 30) : (Str.ofString "-").length + (txt a b).length ≤ sizeLine := by
  have l1 : (Str.ofString "-").length = 1 := by decide +kernel
  have := intL_len h
  have := intL_len h2
  have e : (txt a b).length = (textL a b).length := by rw [tl_len]; rfl
  rw [l1, e]
  refine Nat.le_trans (show 1 + _ ≤ 100 from ?_) (by decide)
  unfold textL
  split
  · omega
  · rw [List.length_append, List.length_cons]; omega
end T15
namespace T15
open PySem L2 DL PO RO ST TL NumText
section
variable {P : Program} {w : World} {K : PySem.W.Frag} {mg : Str → Option Value} {base : Heap} {cR cO : Addr}
local macro_rules | `(tactic| walk_at "w") => `(tactic| conv => whnf)
local macro_rules | `(tactic| walk_at "v") => `(tactic| ((conv => whnf); try dsimp only))
local macro_rules | `(tactic| walk_at "s") => `(tactic| ((conv => whnf); repeat ((first | refine ⟨sz_ok rfl, ?_⟩ | refine ⟨rfl, ?_⟩); conv => whnf)))
theorem scLaw : FnScope ["_law_script", "_law_bag_here", "_law_turn", "_law_t", "_law_u", "_law_v", "_law_w", "_law_row_z", "_law_late", "_law_high", "_law_low_z", "_law_beside", "_law_turn_z", "_law_found", "_law_far", "_law_order_here", "_law_back", "_law_exact_z", "_law_floor_z", "_law_words", "_law_a", "_law_b", "_law_sign_z", "_law_ends"] ["_law_script"] (defScope sLaw) := ⟨rfl, rfl, rfl, by decide +kernel, rfl, by decide +kernel, by decide +kernel⟩
theorem ok_Law {f : Addr} {fd : FuncData} (Z : Zn w K mg cR cO) (F : Fun K "law" "law" sLaw f fd) (CLBag : Cal P w K mg base 1 "_law_bag" ["_law_script"] [] bagS) (CLPull : Cal P w K mg base 1 "_law_pull" ["_law_bag_here", "_law_many"] [] pullS) (CLOf : Cal P w K mg base 2 "_law_of" ["_law_bag_here", "_law_some"] [] ofA) (CLSame : Cal P w K mg base 6 "_law_same" ["_law_found", "_law_due"] [] (sameS 6)) (CLLow : Cal P w K mg base 2 "_law_low" ["_law_top", "_law_under"] [] lowS) (CLSub : Cal P w K mg base 3 "_law_sub" ["_law_one", "_law_two"] [] (arS fun x y => x - y)) (CLSign : Cal P w K mg base 1 "_law_sign" ["_law_number"] [] sgnS) (CLOrder : Cal P w K mg base 2 "_law_order" ["_law_one", "_law_two"] [] ordS) (CLRatioText : Cal P w K mg base 1 "_law_ratio_text" ["_law_one"] [] txtS) (CLTo : Cal P w K mg base 1 "_law_to" ["_law_base", "_law_often_z"] [] toS) (CLFloorRoot : Cal P w K mg base 1 "_law_floor_root" ["_law_top", "_law_under"] [] flS) (CLExactRoot : Cal P w K mg base 3 "_law_exact_root" ["_law_top", "_law_under"] [] exrS) (K_Row : KCal P w K mg base 2 "Row" cR ["self", "coefs"] [] (rinitS cR)) (K_Root : KCal P w K mg base 8 "Root" cO ["self", "row", "index"] [] (rootS cR cO)) (MRootCompare : MCal P w K mg base 9 cO "compare" ["self", "other"] [] (cmpS cO)) (MRootWithin : MCal P w K mg base 8 cO "within" ["self", "width"] [] (withS cO)) (MRootSignOf : MCal P w K mg base 8 cO "sign_of" ["self", "row"] [] (sgnOfS cR cO)) (MRootRatio : MCal P w K mg base 10 cO "ratio" ["self"] [] (ratioS cO)) (MRootWritten : MCal P w K mg base 11 cO "written" ["self"] [] (wrS cO)) : FnOk P w K mg base (L2.CX P w) 16 f fd ["_law_script"] (spD K lawS) := by
  refine fn_ok F scLaw ?len (fun cdv A outer s H E hr => ?_)
  rotate_left
  · have tk := takes_of (X := cxOf (L2.CX P w) P w K mg base ["_law_script", "_law_bag_here", "_law_turn", "_law_t", "_law_u", "_law_v", "_law_w", "_law_row_z", "_law_late", "_law_high", "_law_low_z", "_law_beside", "_law_turn_z", "_law_found", "_law_far", "_law_order_here", "_law_back", "_law_exact_z", "_law_floor_z", "_law_words", "_law_a", "_law_b", "_law_sign_z", "_law_ends"] "law" (defScope sLaw) f cdv A outer s H E) (E := E) rfl rfl rfl rfl
    have hp := passes_of (X := cxOf (L2.CX P w) P w K mg base ["_law_script", "_law_bag_here", "_law_turn", "_law_t", "_law_u", "_law_v", "_law_w", "_law_row_z", "_law_late", "_law_high", "_law_low_z", "_law_beside", "_law_turn_z", "_law_found", "_law_far", "_law_order_here", "_law_back", "_law_exact_z", "_law_floor_z", "_law_words", "_law_a", "_law_b", "_law_sign_z", "_law_ends"] "law" (defScope sLaw) f cdv A outer s H E) rfl
    refine ⟨_, (ss_cons (s_set 1 scLaw.nd (q_cal CLBag (by first | decide | exact Nat.le_refl _ | omega) hr tk (by rfl) (a_cons (qv 0) a_nil)))
  (ss_cons (s_for hp rfl (i_range1 (by rfl) Z.z_range (a_cons q_int a_nil)) (g_name 2 scLaw.nd) (ss_cons (s_par 3 4 rfl scLaw.nd (a_cons (q_op oq_add q_int (q_cal CLPull (by first | decide | exact Nat.le_refl _ | omega) hr tk (by rfl) (a_cons (qv 1) (a_cons q_int a_nil)))) (a_cons (q_op oq_add q_int (q_cal CLPull (by first | decide | exact Nat.le_refl _ | omega) hr tk (by rfl) (a_cons (qv 1) (a_cons q_int a_nil)))) a_nil)))
  (ss_cut (s_if (t_cmp (oq_eqU hr.units) (q_cal CLPull (by first | decide | exact Nat.le_refl _ | omega) hr tk (by rfl) (a_cons (qv 1) (a_cons q_int a_nil))) q_int) (ss_one (s_par 3 4 rfl scLaw.nd (a_cons (q_cal CLTo (by first | decide | exact Nat.le_refl _ | omega) hr tk (by rfl) (a_cons (q_op oq_add q_int (q_cal CLPull (by first | decide | exact Nat.le_refl _ | omega) hr tk (by rfl) (a_cons (qv 1) (a_cons q_int a_nil)))) (a_cons q_int a_nil))) (a_cons (q_cal CLTo (by first | decide | exact Nat.le_refl _ | omega) hr tk (by rfl) (a_cons (q_op oq_add q_int (q_cal CLPull (by first | decide | exact Nat.le_refl _ | omega) hr tk (by rfl) (a_cons (qv 1) (a_cons q_int a_nil)))) (a_cons q_int a_nil))) a_nil)))) ss_nil)
  (ss_cut (s_asg (q_cal CLOf (by first | decide | exact Nat.le_refl _ | omega) hr tk (by rfl) (a_cons (qv 1) (a_cons (q_lst (a_cons (q_tup (a_cons (q_op oq_add q_int (q_cal CLPull (by first | decide | exact Nat.le_refl _ | omega) hr tk (by rfl) (a_cons (qv 1) (a_cons q_int a_nil)))) (a_cons (q_op oq_add q_int (q_cal CLPull (by first | decide | exact Nat.le_refl _ | omega) hr tk (by rfl) (a_cons (qv 1) (a_cons q_int a_nil)))) a_nil))) (a_cons (q_tup (a_cons (q_op oq_mulU q_int (qv 3)) (a_cons (q_op oq_mulU q_int (qv 4)) a_nil))) (a_cons (q_tup (a_cons (qv 3) (a_cons (qv 4) a_nil))) a_nil)))) a_nil))) (g_tup (n := 2) rfl (gs_cons (g_name 5 scLaw.nd) (gs_cons (g_name 6 scLaw.nd) gs_nil))))
  (ss_cut (s_par 7 8 rfl scLaw.nd (a_cons (q_makeD K_Row (by first | decide | exact Nat.le_refl _ | omega) hr tk (by rfl) (a_cons (q_lst (a_cons (q_op oq_sub q_int (qv 3)) (a_cons q_int (a_cons (qv 4) a_nil)))) a_nil)) (a_cons (q_makeD K_Row (by first | decide | exact Nat.le_refl _ | omega) hr tk (by rfl) (a_cons (q_lst (a_cons (q_op oq_sub q_int (qv 5)) (a_cons q_int (a_cons (qv 6) a_nil)))) a_nil)) a_nil)))
  (ss_cut (s_par3 9 10 11 rfl scLaw.nd (a_cons (q_makeD K_Root (by first | decide | exact Nat.le_refl _ | omega) hr tk (by rfl) (a_cons (qv 7) (a_cons q_int a_nil))) (a_cons (q_makeD K_Root (by first | decide | exact Nat.le_refl _ | omega) hr tk (by rfl) (a_cons (qv 7) (a_cons q_int a_nil))) (a_cons (q_lst (a_cons (q_makeD K_Root (by first | decide | exact Nat.le_refl _ | omega) hr tk (by rfl) (a_cons (qv 8) (a_cons q_int a_nil))) (a_cons (q_makeD K_Root (by first | decide | exact Nat.le_refl _ | omega) hr tk (by rfl) (a_cons (qv 8) (a_cons q_int a_nil))) a_nil))) a_nil))))
  (ss_cut (s_set 12 scLaw.nd (q_cal CLSign (by first | decide | exact Nat.le_refl _ | omega) hr tk (by rfl) (a_cons (q_op oq_sub (q_op oq_mulU (qv 3) (qv 6)) (q_op oq_mulU (qv 5) (qv 4))) a_nil)))
  (ss_cut (s_set 13 scLaw.nd (q_lst (a_cons (q_meth MRootCompare (by first | decide | exact Nat.le_refl _ | omega) hr tk (qv 9) (a_cons (q_ix (qv 11) q_int) a_nil)) (a_cons (q_meth MRootCompare (by first | decide | exact Nat.le_refl _ | omega) hr tk (qv 10) (a_cons (q_ix (qv 11) q_int) a_nil)) (a_cons (q_meth MRootCompare (by first | decide | exact Nat.le_refl _ | omega) hr tk (qv 9) (a_cons (q_ix (qv 11) q_int) a_nil)) (a_cons (q_meth MRootCompare (by first | decide | exact Nat.le_refl _ | omega) hr tk (qv 10) (a_cons (q_ix (qv 11) q_int) a_nil)) (a_cons (q_meth MRootCompare (by first | decide | exact Nat.le_refl _ | omega) hr tk (qv 9) (a_cons (qv 10) a_nil)) a_nil)))))))
  (ss_cut (s_if (t_not (t_val (q_cal CLSame (by first | decide | exact Nat.le_refl _ | omega) hr tk (by rfl) (a_cons (qv 13) (a_cons (q_lst (a_cons (qv 12) (a_cons (q_op oq_sub q_int (qv 12)) (a_cons q_int (a_cons (q_neg q_int) (a_cons q_int a_nil)))))) a_nil))))) (ss_one (s_ret q_bl)) ss_nil)
  (ss_cut (s_set 14 scLaw.nd (q_cal CLLow (by first | decide | exact Nat.le_refl _ | omega) hr tk (by rfl) (a_cons (q_cal CLPull (by first | decide | exact Nat.le_refl _ | omega) hr tk (by rfl) (a_cons (qv 1) (a_cons q_int a_nil))) (a_cons (q_op oq_add q_int (q_cal CLPull (by first | decide | exact Nat.le_refl _ | omega) hr tk (by rfl) (a_cons (qv 1) (a_cons q_int a_nil)))) a_nil))))
  (ss_cons (s_set 15 scLaw.nd (q_cal CLSign (by first | decide | exact Nat.le_refl _ | omega) hr tk (by rfl) (a_cons (q_op oq_sub (q_op oq_mulU (q_op oq_mulU (qv 3) (q_ix (qv 14) q_int)) (q_ix (qv 14) q_int)) (q_op oq_mulU (q_op oq_mulU (q_ix (qv 14) q_int) (q_ix (qv 14) q_int)) (qv 4))) a_nil)))
  (ss_cons (s_set 16 scLaw.nd (q_tup (a_cons (q_op oq_sub q_int (q_ix (qv 14) q_int)) (a_cons (q_ix (qv 14) q_int) a_nil))))
  (ss_cut (s_if (t_not (t_val (q_cal CLSame (by first | decide | exact Nat.le_refl _ | omega) hr tk (by rfl) (a_cons (q_lst (a_cons (q_meth MRootCompare (by first | decide | exact Nat.le_refl _ | omega) hr tk (qv 9) (a_cons (qv 14) a_nil)) (a_cons (q_meth MRootCompare (by first | decide | exact Nat.le_refl _ | omega) hr tk (qv 10) (a_cons (qv 16) a_nil)) (a_cons (q_meth MRootCompare (by first | decide | exact Nat.le_refl _ | omega) hr tk (qv 10) (a_cons (qv 14) a_nil)) (a_cons (q_meth MRootCompare (by first | decide | exact Nat.le_refl _ | omega) hr tk (qv 9) (a_cons (qv 16) a_nil)) a_nil))))) (a_cons (q_lst (a_cons (qv 15) (a_cons (q_op oq_sub q_int (qv 15)) (a_cons (q_neg q_int) (a_cons q_int a_nil))))) a_nil))))) (ss_one (s_ret q_bl)) ss_nil)
  (ss_cut (s_par 17 18 rfl scLaw.nd (a_cons (q_cal CLExactRoot (by first | decide | exact Nat.le_refl _ | omega) hr tk (by rfl) (a_cons (qv 3) (a_cons (qv 4) a_nil))) (a_cons (q_cal CLFloorRoot (by first | decide | exact Nat.le_refl _ | omega) hr tk (by rfl) (a_cons (qv 3) (a_cons (qv 4) a_nil))) a_nil)))
  (ss_cut (s_set 19 scLaw.nd (q_if (t_cmp oq_isN (qv 17) q_non) (q_op oq_add q_str (q_callTy cq_str (by rfl) Z.z_str bb_str (a_cons (qv 18) a_nil))) (q_cal CLRatioText (by first | decide | exact Nat.le_refl _ | omega) hr tk (by rfl) (a_cons (qv 17) a_nil))))
  (ss_cut (s_if (t_not (t_val (q_cal CLSame (by first | decide | exact Nat.le_refl _ | omega) hr tk (by rfl) (a_cons (q_lst (a_cons (q_meth0 MRootRatio (by first | decide | exact Nat.le_refl _ | omega) hr tk (qv 9)) (a_cons (q_meth0 MRootWritten (by first | decide | exact Nat.le_refl _ | omega) hr tk (qv 9)) a_nil))) (a_cons (q_lst (a_cons (qv 17) (a_cons (qv 19) a_nil))) a_nil))))) (ss_one (s_ret q_bl)) ss_nil)
  (ss_cut (s_set 19 scLaw.nd (q_if (t_cmp oq_isN (qv 17) q_non) (q_op oq_add q_str (q_callTy cq_str (by rfl) Z.z_str bb_str (a_cons (q_op oq_sub (q_op oq_sub q_int (qv 18)) q_int) a_nil))) (q_op oq_add q_str (q_cal CLRatioText (by first | decide | exact Nat.le_refl _ | omega) hr tk (by rfl) (a_cons (qv 17) a_nil)))))
  (ss_cut (s_if (t_not (t_val (q_cal CLSame (by first | decide | exact Nat.le_refl _ | omega) hr tk (by rfl) (a_cons (q_meth0 MRootWritten (by first | decide | exact Nat.le_refl _ | omega) hr tk (qv 10)) (a_cons (qv 19) a_nil))))) (ss_one (s_ret q_bl)) ss_nil)
  (ss_cut (s_par 20 21 rfl scLaw.nd (a_cons (q_op oq_sub (q_cal CLPull (by first | decide | exact Nat.le_refl _ | omega) hr tk (by rfl) (a_cons (qv 1) (a_cons q_int a_nil))) q_int) (a_cons (q_op oq_sub (q_cal CLPull (by first | decide | exact Nat.le_refl _ | omega) hr tk (by rfl) (a_cons (qv 1) (a_cons q_int a_nil))) q_int) a_nil)))
  (ss_cut (s_set 22 scLaw.nd (q_if (t_cmp (oq_eqU hr.units) (qv 21) q_int) (q_cal CLSign (by first | decide | exact Nat.le_refl _ | omega) hr tk (by rfl) (a_cons (qv 20) a_nil)) (q_op oq_mulU (q_cal CLSign (by first | decide | exact Nat.le_refl _ | omega) hr tk (by rfl) (a_cons (qv 21) a_nil)) (q_meth MRootCompare (by first | decide | exact Nat.le_refl _ | omega) hr tk (qv 9) (a_cons (q_cal CLLow (by first | decide | exact Nat.le_refl _ | omega) hr tk (by rfl) (a_cons (q_op oq_sub q_int (qv 20)) (a_cons (qv 21) a_nil))) a_nil)))))
  (ss_cut (s_set 13 scLaw.nd (q_lst (a_cons (q_meth MRootSignOf (by first | decide | exact Nat.le_refl _ | omega) hr tk (qv 9) (a_cons (q_makeD K_Row (by first | decide | exact Nat.le_refl _ | omega) hr tk (by rfl) (a_cons (q_lst (a_cons (qv 20) (a_cons (qv 21) a_nil))) a_nil)) a_nil)) (a_cons (q_meth MRootSignOf (by first | decide | exact Nat.le_refl _ | omega) hr tk (qv 9) (a_cons (qv 8) a_nil)) (a_cons (q_meth MRootSignOf (by first | decide | exact Nat.le_refl _ | omega) hr tk (qv 10) (a_cons (qv 8) a_nil)) (a_cons (q_meth MRootSignOf (by first | decide | exact Nat.le_refl _ | omega) hr tk (qv 9) (a_cons (qv 7) a_nil)) (a_cons (q_meth MRootSignOf (by first | decide | exact Nat.le_refl _ | omega) hr tk (qv 9) (a_cons (q_makeD K_Row (by first | decide | exact Nat.le_refl _ | omega) hr tk (by rfl) (a_cons (q_lst (a_cons (q_op oq_sub q_int (qv 3)) (a_cons q_int (a_cons (qv 4) a_nil)))) a_nil)) a_nil)) a_nil)))))))
  (ss_cut (s_if (t_not (t_val (q_cal CLSame (by first | decide | exact Nat.le_refl _ | omega) hr tk (by rfl) (a_cons (qv 13) (a_cons (q_lst (a_cons (qv 22) (a_cons (qv 12) (a_cons (qv 12) (a_cons q_int (a_cons q_int a_nil)))))) a_nil))))) (ss_one (s_ret q_bl)) ss_nil)
  (ss_cut (s_set 23 scLaw.nd (q_meth MRootWithin (by first | decide | exact Nat.le_refl _ | omega) hr tk (qv 10) (a_cons (q_tup (a_cons q_int (a_cons q_int a_nil))) a_nil)))
  (ss_one (s_if (w_or (t_cmp oq_lt (q_meth MRootCompare (by first | decide | exact Nat.le_refl _ | omega) hr tk (qv 10) (a_cons (q_ix (qv 23) q_int) a_nil)) q_int) (w_or (t_cmp oq_gt (q_meth MRootCompare (by first | decide | exact Nat.le_refl _ | omega) hr tk (qv 10) (a_cons (q_ix (qv 23) q_int) a_nil)) q_int) (w_or1 (t_cmp oq_gt (q_cal CLOrder (by first | decide | exact Nat.le_refl _ | omega) hr tk (by rfl) (a_cons (q_cal CLSub (by first | decide | exact Nat.le_refl _ | omega) hr tk (by rfl) (a_cons (q_ix (qv 23) q_int) (a_cons (q_ix (qv 23) q_int) a_nil))) (a_cons (q_tup (a_cons q_int (a_cons q_int a_nil))) a_nil))) q_int)))).t (ss_one (s_ret q_bl)) ss_nil)))))))))))))))))))))))))
  (ss_one (s_ret q_bl)))), ?_⟩
    clear tk hp
    rintro ds L k x ⟨ns, rfl, rfl, h⟩
    walk_at "w"
    refine ⟨ns, rfl, fun p b0 hp ok0 => ?_⟩
    walk_at "w"
    refine ⟨⟨by decide, by decide⟩, ?_⟩
    walk_at "w"
    have sL : ∀ b c : Bag, setL [(p, bagC b)] p (bagC c) = [(p, bagC c)] := fun b c => setL_one
    refine forD_rec (fun r env L' => ∃ (b : Bag) (o2 o3 o4 o5 o6 o7 o8 o9 o10 o11 o12 o13 o14 o15 o16 o17 o18 o19 o20 o21 o22 o23 : Option D), BagOk b ∧ env = [some (.ro (ns.map .int)), some (.ptr p), o2, o3, o4, o5, o6, o7, o8, o9, o10, o11, o12, o13, o14, o15, o16, o17, o18, o19, o20, o21, o22, o23] ∧ L' = [(p, bagC b)]) ?step ?fin _ _ _ ⟨b0, none, none, none, none, none, none, none, none, none, none, none, none, none, none, none, none, none, none, none, none, none, none, ok0, rfl, rfl⟩
    case fin =>
      rintro env L' ⟨b, o2, o3, o4, o5, o6, o7, o8, o9, o10, o11, o12, o13, o14, o15, o16, o17, o18, o19, o20, o21, o22, o23, ok, rfl, rfl⟩
      walk_at "w"
      exact h _
    case step =>
      rintro E' d r env L' hrt _ _ _ ⟨b, o2, o3, o4, o5, o6, o7, o8, o9, o10, o11, o12, o13, o14, o15, o16, o17, o18, o19, o20, o21, o22, o23, ok, rfl, rfl⟩ hnx
      -- t and u
      walk_at "w"
      refine ⟨p, b, 60, rfl, lookup_top, ok, by decide, by decide, fun r0 b1 r00 r01 ok1 => ?_⟩
      rw [sL]
      walk_at "w"
      refine ⟨p, b1, 60, rfl, lookup_top, ok1, by decide, by decide, fun r1 b2 r10 r11 ok2 => ?_⟩
      rw [sL]
      walk_at "w"
      obtain ⟨t, rfl⟩ := Int.eq_ofNat_of_zero_le r00
      obtain ⟨u, rfl⟩ := Int.eq_ofNat_of_zero_le r10
      rw [show 1 + (t : Int) = ((t + 1 : Nat) : Int) from by omega, show 1 + (u : Int) = ((u + 1 : Nat) : Int) from by omega]
      have tu : TU (t + 1) (u + 1) := ⟨by omega, by omega, by omega, by omega⟩
      generalize t + 1 = t' at tu ⊢
      generalize u + 1 = u' at tu ⊢
      refine ⟨fun env' L' => ∃ (b : Bag) (t u : Nat) (o2 o5 o6 o7 o8 o9 o10 o11 o12 o13 o14 o15 o16 o17 o18 o19 o20 o21 o22 o23 : Option D), BagOk b ∧ TU t u ∧ env' = [some (.ro (ns.map .int)), some (.ptr p), o2, some (.int (t : Nat)), some (.int (u : Nat)), o5, o6, o7, o8, o9, o10, o11, o12, o13, o14, o15, o16, o17, o18, o19, o20, o21, o22, o23] ∧ L' = [(p, bagC b)], ?_, ?_⟩
      · walk_at "w"
        refine ⟨p, b2, 3, rfl, lookup_top, ok2, by decide, by decide, fun z b3 z0 z1 ok3 => ?_⟩
        rw [sL]
        walk_at "w"
        by_cases e : z = 0
        · rw [show flEq (D.int z) (D.int 0) = true from decide_eq_true e]
          walk_at "w"
          refine ⟨p, b3, 7, rfl, lookup_top, ok3, by decide, by decide, fun m b4 m0 m1 ok4 => ?_⟩
          rw [sL]
          walk_at "w"
          refine ⟨1 + m, 2, rfl, by omega, by decide, ?_⟩
          walk_at "w"
          refine ⟨p, b4, 7, rfl, lookup_top, ok4, by decide, by decide, fun m2 b5 m20 m21 ok5 => ?_⟩
          rw [sL]
          walk_at "w"
          refine ⟨1 + m2, 2, rfl, by omega, by decide, ?_⟩
          walk_at "w"
          obtain ⟨c, rfl⟩ := Int.eq_ofNat_of_zero_le m0
          obtain ⟨d, rfl⟩ := Int.eq_ofNat_of_zero_le m20
          have sq : ∀ n : Nat, (1 + (n : Int)) ^ 2 = (((n + 1) * (n + 1) : Nat) : Int) := fun n => by
            rw [Int.pow_succ, Int.pow_succ, Int.pow_zero, Int.one_mul, Int.natCast_mul, show ((n + 1 : Nat) : Int) = 1 + (n : Int) from by omega]
          have l7 : ∀ n : Nat, n < 7 → 0 < (n + 1) * (n + 1) ∧ (n + 1) * (n + 1) ≤ 60 := fun n hn => ⟨Nat.mul_pos (by omega) (by omega), Nat.le_trans (Nat.mul_le_mul (show n + 1 ≤ 7 by omega) (show n + 1 ≤ 7 by omega)) (by decide)⟩
          rw [sq, sq]
          obtain ⟨q1, q2⟩ := l7 c (by omega)
          obtain ⟨q3, q4⟩ := l7 d (by omega)
          exact ⟨b5, (c + 1) * (c + 1), (d + 1) * (d + 1), _, _, _, _, _, _, _, _, _, _, _, _, _, _, _, _, _, _, _, _, ok5, ⟨q1, q2, q3, q4⟩, rfl, rfl⟩
        · rw [show flEq (D.int z) (D.int 0) = false from decide_eq_false e]
          walk_at "w"
          exact ⟨b3, t', u', _, _, _, _, _, _, _, _, _, _, _, _, _, _, _, _, _, _, _, _, ok3, tu, rfl, rfl⟩
      clear ok ok1 ok2 tu
      rintro env' L' ⟨b, t, u, o2, o5, o6, o7, o8, o9, o10, o11, o12, o13, o14, o15, o16, o17, o18, o19, o20, o21, o22, o23, ok, tu, rfl, rfl⟩
      -- v and w
      refine ⟨fun env' L' => ∃ (b : Bag) (v w' : Nat) (o2 o7 o8 o9 o10 o11 o12 o13 o14 o15 o16 o17 o18 o19 o20 o21 o22 o23 : Option D), BagOk b ∧ VW v w' ∧ env' = [some (.ro (ns.map .int)), some (.ptr p), o2, some (.int (t : Nat)), some (.int (u : Nat)), some (.int (v : Nat)), some (.int (w' : Nat)), o7, o8, o9, o10, o11, o12, o13, o14, o15, o16, o17, o18, o19, o20, o21, o22, o23] ∧ L' = [(p, bagC b)], ?_, ?_⟩
      · walk_at "w"
        refine ⟨p, b, 60, rfl, lookup_top, ok, by decide, by decide, fun r0 b1 r00 r01 ok1 => ?_⟩
        rw [sL]
        walk_at "w"
        refine ⟨p, b1, 60, rfl, lookup_top, ok1, by decide, by decide, fun r1 b2 r10 r11 ok2 => ?_⟩
        rw [sL]
        have t1 := tu.t1
        have u1 := tu.u1
        have t0 := tu.t0
        have u0 := tu.u0
        walk_at "w"
        refine ⟨sz_ok rfl, ?_⟩
        walk_at "w"
        refine ⟨.inl (.inl (by decide)), ?_⟩
        walk_at "w"
        refine ⟨.inl (.inl (by decide)), ?_⟩
        walk_at "w"
        refine ⟨sz_ok rfl, ?_⟩
        walk_at "w"
        refine ⟨sz_ok rfl, ?_⟩
        walk_at "w"
        refine ⟨sz_ok rfl, ?_⟩
        walk_at "w"
        refine ⟨p, b2, _, _, rfl, rfl, lookup_top, ok2, by show 0 < 3; decide, by show 3 < 1000; decide, fun d b3 hd ok3 => ?_⟩
        rw [sL]
        obtain ⟨v, w, rfl, vw⟩ : ∃ v w : Nat, d = .tup [.int v, .int w] ∧ VW v w := by
          simp only [List.mem_cons, List.not_mem_nil, or_false] at hd
          rcases hd with rfl | rfl | rfl
          · exact ⟨(1 + r0).toNat, (1 + r1).toNat, by rw [Int.toNat_of_nonneg (by omega), Int.toNat_of_nonneg (by omega)], by omega, by omega, by omega, by omega⟩
          · exact ⟨3 * t, 3 * u, by rw [Int.natCast_mul, Int.natCast_mul]; rfl, by omega, by omega, by omega, by omega⟩
          · exact ⟨t, u, rfl, by omega, by omega, by omega, by omega⟩
        walk_at "w"
        refine ⟨rfl, ?_⟩
        walk_at "w"
        exact ⟨b3, v, w, _, _, _, _, _, _, _, _, _, _, _, _, _, _, _, _, _, _, ok3, vw, rfl, rfl⟩
      clear ok
      rintro env' L' ⟨b, v, w', o2, o7, o8, o9, o10, o11, o12, o13, o14, o15, o16, o17, o18, o19, o20, o21, o22, o23, ok, vw, rfl, rfl⟩
      obtain ⟨f, g, a0, b0', a1, b1, c0, d0, c1, d1, R⟩ := facts tu vw
      have t1 := tu.t1
      have u1 := tu.u1
      have t0 := tu.t0
      have u0 := tu.u0
      have v0 := vw.t0
      have v1 := vw.t1
      have w0 := vw.u0
      have w1 := vw.u1
      -- the rows and their roots
      refine ⟨fun env' L' => ∃ (o2 o9 o10 o11 o12 o13 o14 o15 o16 o17 o18 o19 o20 o21 o22 o23 : Option D), env' = [some (.ro (ns.map .int)), some (.ptr p), o2, some (.int (t : Nat)), some (.int (u : Nat)), some (.int (v : Nat)), some (.int (w' : Nat)), some (rD cR (rowOf t u)), some (rD cR (rowOf v w')), o9, o10, o11, o12, o13, o14, o15, o16, o17, o18, o19, o20, o21, o22, o23] ∧ L' = [(p, bagC b)], ?_, ?_⟩
      · walk_at "w"
        refine ⟨sz_ok rfl, ?_⟩
        walk_at "w"
        intro q hq
        refine ⟨q, [0 - (t : Int), 0, (u : Int)], rfl, lookup_top, by show 3 < 100000; decide, rfl, ?_⟩
        rw [setL_top hq, lookup_top, row_three u0]
        walk_at "w"
        rw [remL_top hq]
        walk_at "w"
        refine ⟨sz_ok rfl, ?_⟩
        walk_at "w"
        intro q2 hq2
        refine ⟨q2, [0 - (v : Int), 0, (w' : Int)], rfl, lookup_top, by show 3 < 100000; decide, rfl, ?_⟩
        rw [setL_top hq2, lookup_top, row_three w0]
        walk_at "w"
        rw [remL_top hq2]
        walk_at "w"
        exact ⟨_, _, _, _, _, _, _, _, _, _, _, _, _, _, _, _, rfl, rfl⟩
      rintro env' L' ⟨o2, o9, o10, o11, o12, o13, o14, o15, o16, o17, o18, o19, o20, o21, o22, o23, rfl, rfl⟩
      refine ⟨fun env' L' => ∃ (o2 o12 o13 o14 o15 o16 o17 o18 o19 o20 o21 o22 o23 : Option D), env' = [some (.ro (ns.map .int)), some (.ptr p), o2, some (.int (t : Nat)), some (.int (u : Nat)), some (.int (v : Nat)), some (.int (w' : Nat)), some (rD cR (rowOf t u)), some (rD cR (rowOf v w')), some (oD cO f a1 b1), some (oD cO f a0 b0'), some (.lst [oD cO g c0 d0, oD cO g c1 d1]), o12, o13, o14, o15, o16, o17, o18, o19, o20, o21, o22, o23] ∧ L' = [(p, bagC b)], ?_, ?_⟩
      · walk_at "w"
        intro q hq
        refine ⟨q, rowOf t u, 1, f, a1, b1, rfl, lookup_top, R.fr, R.r1, rfl, ?_⟩
        rw [setL_top hq, lookup_top]
        walk_at "w"
        rw [remL_top hq]
        walk_at "w"
        intro q2 hq2
        refine ⟨q2, rowOf t u, 0, f, a0, b0', rfl, lookup_top, R.fr, R.r0, rfl, ?_⟩
        rw [setL_top hq2, lookup_top]
        walk_at "w"
        rw [remL_top hq2]
        walk_at "w"
        intro q3 hq3
        refine ⟨q3, rowOf v w', 0, g, c0, d0, rfl, lookup_top, R.fl, R.s0, rfl, ?_⟩
        rw [setL_top hq3, lookup_top]
        walk_at "w"
        rw [remL_top hq3]
        walk_at "w"
        intro q4 hq4
        refine ⟨q4, rowOf v w', 1, g, c1, d1, rfl, lookup_top, R.fl, R.s1, rfl, ?_⟩
        rw [setL_top hq4, lookup_top]
        walk_at "w"
        rw [remL_top hq4]
        walk_at "w"
        refine ⟨sz_ok rfl, ?_⟩
        walk_at "w"
        exact ⟨_, _, _, _, _, _, _, _, _, _, _, _, _, rfl, rfl⟩
      rintro env' L' ⟨o2, o12, o13, o14, o15, o16, o17, o18, o19, o20, o21, o22, o23, rfl, rfl⟩
      have bd : ∀ x y : Nat, x ≤ 400 → y ≤ 400 → x * y ≤ 160000 := fun x y hx hy => Nat.mul_le_mul hx hy
      -- the turn
      refine ⟨fun env' L' => ∃ (o2 o13 o14 o15 o16 o17 o18 o19 o20 o21 o22 o23 : Option D), env' = [some (.ro (ns.map .int)), some (.ptr p), o2, some (.int (t : Nat)), some (.int (u : Nat)), some (.int (v : Nat)), some (.int (w' : Nat)), some (rD cR (rowOf t u)), some (rD cR (rowOf v w')), some (oD cO f a1 b1), some (oD cO f a0 b0'), some (.lst [oD cO g c0 d0, oD cO g c1 d1]), some (.int (turnOf t u v w')), o13, o14, o15, o16, o17, o18, o19, o20, o21, o22, o23] ∧ L' = [(p, bagC b)], ?_, ?_⟩
      · walk_at "w"
        refine ⟨.inl (.inl (by omega)), ?_⟩
        walk_at "w"
        refine ⟨.inl (.inl (by omega)), ?_⟩
        walk_at "w"
        refine ⟨_, rfl, ?_⟩
        walk_at "w"
        exact ⟨_, _, _, _, _, _, _, _, _, _, _, _, rfl, rfl⟩
      rintro env' L' ⟨o2, o13, o14, o15, o16, o17, o18, o19, o20, o21, o22, o23, rfl, rfl⟩
      refine ⟨fun env' L' => ∃ (o2 o14 o15 o16 o17 o18 o19 o20 o21 o22 o23 : Option D), env' = [some (.ro (ns.map .int)), some (.ptr p), o2, some (.int (t : Nat)), some (.int (u : Nat)), some (.int (v : Nat)), some (.int (w' : Nat)), some (rD cR (rowOf t u)), some (rD cR (rowOf v w')), some (oD cO f a1 b1), some (oD cO f a0 b0'), some (.lst [oD cO g c0 d0, oD cO g c1 d1]), some (.int (turnOf t u v w')), some (.lst [.int (turnOf t u v w'), .int (-turnOf t u v w'), .int 1, .int (-1), .int 1]), o14, o15, o16, o17, o18, o19, o20, o21, o22, o23] ∧ L' = [(p, bagC b)], ?_, ?_⟩
      · walk_at "w"
        refine ⟨⟨rfl, rfl⟩, ?_⟩
        walk_at "w"
        refine .inr ⟨f, g, a1, b1, c1, d1, _, rfl, R.ff, R.fg, R.m1, ?_⟩
        walk_at "w"
        refine ⟨⟨rfl, rfl⟩, ?_⟩
        walk_at "w"
        refine .inr ⟨f, g, a0, b0', c0, d0, _, rfl, R.ff, R.fg, R.m2, ?_⟩
        walk_at "w"
        refine ⟨⟨rfl, rfl⟩, ?_⟩
        walk_at "w"
        refine .inr ⟨f, g, a1, b1, c0, d0, _, rfl, R.ff, R.fg, R.m3, ?_⟩
        walk_at "w"
        refine ⟨⟨rfl, rfl⟩, ?_⟩
        walk_at "w"
        refine .inr ⟨f, g, a0, b0', c1, d1, _, rfl, R.ff, R.fg, R.m4, ?_⟩
        walk_at "w"
        refine ⟨⟨rfl, rfl⟩, ?_⟩
        walk_at "w"
        refine .inr ⟨f, f, a1, b1, a0, b0', _, rfl, R.ff, R.ff, R.m5, ?_⟩
        walk_at "w"
        refine ⟨sz_ok rfl, ?_⟩
        walk_at "w"
        exact ⟨_, _, _, _, _, _, _, _, _, _, _, rfl, rfl⟩
      rintro env' L' ⟨o2, o14, o15, o16, o17, o18, o19, o20, o21, o22, o23, rfl, rfl⟩
      refine ⟨fun env' L' => ∃ (o2 o13 o14 o15 o16 o17 o18 o19 o20 o21 o22 o23 : Option D), env' = [some (.ro (ns.map .int)), some (.ptr p), o2, some (.int (t : Nat)), some (.int (u : Nat)), some (.int (v : Nat)), some (.int (w' : Nat)), some (rD cR (rowOf t u)), some (rD cR (rowOf v w')), some (oD cO f a1 b1), some (oD cO f a0 b0'), some (.lst [oD cO g c0 d0, oD cO g c1 d1]), some (.int (turnOf t u v w')), o13, o14, o15, o16, o17, o18, o19, o20, o21, o22, o23] ∧ L' = [(p, bagC b)], ?_, ?_⟩
      · walk_at "w"
        refine ⟨sz_ok rfl, ?_⟩
        walk_at "w"
        refine ⟨.lst ([turnOf t u v w', -turnOf t u v w', 1, -1, 1].map .int), .lst ([turnOf t u v w', -turnOf t u v w', 1, -1, 1].map .int), ?_, okI (by show 5 ≤ 1000; decide), okI (by show 5 ≤ 1000; decide), depI _, ?_⟩
        · rw [← Int.zero_sub]; rfl
        rw [sameD_refl _ (okI (by show 5 ≤ 1000; decide))]
        walk_at "w"
        exact ⟨_, _, _, _, _, _, _, _, _, _, _, _, rfl, rfl⟩
      rintro env' L' ⟨o2, o13, o14, o15, o16, o17, o18, o19, o20, o21, o22, o23, rfl, rfl⟩
      -- a ratio
      refine ⟨fun env' L' => ∃ (b : Bag) (x y : Int) (o2 o13 o15 o16 o17 o18 o19 o20 o21 o22 o23 : Option D), BagOk b ∧ ((0 ≤ x ∧ x ≤ 40 ∧ 0 < y ∧ y ≤ 10) ∧ ratD ((x : Rat) / (y : Rat)) = .tup [.int x, .int y] ∧ ratD (-((x : Rat) / (y : Rat))) = .tup [.int (-x), .int y]) ∧ env' = [some (.ro (ns.map .int)), some (.ptr p), o2, some (.int (t : Nat)), some (.int (u : Nat)), some (.int (v : Nat)), some (.int (w' : Nat)), some (rD cR (rowOf t u)), some (rD cR (rowOf v w')), some (oD cO f a1 b1), some (oD cO f a0 b0'), some (.lst [oD cO g c0 d0, oD cO g c1 d1]), some (.int (turnOf t u v w')), o13, some (.tup [.int x, .int y]), o15, o16, o17, o18, o19, o20, o21, o22, o23] ∧ L' = [(p, bagC b)], ?_, ?_⟩
      · walk_at "w"
        refine ⟨p, b, 40, rfl, lookup_top, ok, by decide, by decide, fun r0 b1 r00 r01 ok1 => ?_⟩
        rw [sL]
        walk_at "w"
        refine ⟨p, b1, 9, rfl, lookup_top, ok1, by decide, by decide, fun r1 b2 r10 r11 ok2 => ?_⟩
        rw [sL]
        walk_at "w"
        have big : (100 : Nat) < 2 ^ 1990 := by decide +kernel
        refine ⟨r0, 1 + r1, rfl, by omega, by omega, by omega, ?_⟩
        obtain ⟨x, y, h1, h2, h3, h4⟩ := low_pt (a := r0) (b := 1 + r1) r00 (by omega) (by omega) (by omega)
        rw [h2]
        walk_at "w"
        exact ⟨b2, x, y, _, _, _, _, _, _, _, _, _, _, _, ok2, ⟨h1, h3, h4⟩, rfl, rfl⟩
      clear ok
      rintro env' L' ⟨b, x, y, o2, o13, o15, o16, o17, o18, o19, o20, o21, o22, o23, ok, ⟨⟨x0, x1, y0, y1⟩, e1, e2⟩, rfl, rfl⟩
      obtain ⟨f1, f2, f3, f4⟩ := R.far x y x0 x1 y0 y1
      rw [← Int.mul_assoc] at f1 f2
      walk_at "w"
      refine ⟨.inl (.inl (by omega)), ?_⟩
      walk_at "w"
      refine ⟨.inl (.inr (by omega)), ?_⟩
      walk_at "w"
      refine ⟨.inl (.inl (by omega)), ?_⟩
      walk_at "w"
      refine ⟨.inl (.inr (by omega)), ?_⟩
      walk_at "w"
      refine ⟨_, rfl, ?_⟩
      walk_at "w"
      refine ⟨sz_ok rfl, ?_⟩
      walk_at "w"
      refine ⟨fun env' L' => ∃ (o2 o13 o14 o15 o16 o17 o18 o19 o20 o21 o22 o23 : Option D), env' = [some (.ro (ns.map .int)), some (.ptr p), o2, some (.int (t : Nat)), some (.int (u : Nat)), some (.int (v : Nat)), some (.int (w' : Nat)), some (rD cR (rowOf t u)), some (rD cR (rowOf v w')), some (oD cO f a1 b1), some (oD cO f a0 b0'), some (.lst [oD cO g c0 d0, oD cO g c1 d1]), some (.int (turnOf t u v w')), o13, o14, o15, o16, o17, o18, o19, o20, o21, o22, o23] ∧ L' = [(p, bagC b)], ?_, ?_⟩
      · generalize sgZ ((t : Int) * y * y - x * x * u) = s at f1 f2 ⊢
        walk_at "w"
        refine ⟨⟨rfl, rfl⟩, ?_⟩
        walk_at "w"
        refine .inl ⟨f, a1, b1, (x : Rat) / (y : Rat), _, by rw [e1]; rfl, R.ff, f1, ?_⟩
        walk_at "w"
        refine ⟨⟨rfl, rfl⟩, ?_⟩
        walk_at "w"
        refine .inl ⟨f, a0, b0', -((x : Rat) / (y : Rat)), _, by rw [e2, ← Int.zero_sub]; rfl, R.ff, f2, ?_⟩
        walk_at "w"
        refine ⟨⟨rfl, rfl⟩, ?_⟩
        walk_at "w"
        refine .inl ⟨f, a0, b0', (x : Rat) / (y : Rat), _, by rw [e1]; rfl, R.ff, f3, ?_⟩
        walk_at "w"
        refine ⟨⟨rfl, rfl⟩, ?_⟩
        walk_at "w"
        refine .inl ⟨f, a1, b1, -((x : Rat) / (y : Rat)), _, by rw [e2, ← Int.zero_sub]; rfl, R.ff, f4, ?_⟩
        walk_at "w"
        refine ⟨sz_ok rfl, ?_⟩
        walk_at "w"
        refine ⟨sz_ok rfl, ?_⟩
        walk_at "w"
        refine ⟨.lst ([s, -s, -1, 1].map .int), .lst ([s, -s, -1, 1].map .int), ?_, okI (by show 4 ≤ 1000; decide), okI (by show 4 ≤ 1000; decide), depI _, ?_⟩
        · rw [← Int.zero_sub]; rfl
        rw [sameD_refl _ (okI (by show 4 ≤ 1000; decide))]
        walk_at "w"
        exact ⟨_, _, _, _, _, _, _, _, _, _, _, _, rfl, rfl⟩
      rintro env' L' ⟨o2, o13, o14, o15, o16, o17, o18, o19, o20, o21, o22, o23, rfl, rfl⟩
      -- the ratio that it is, the floor, the words
      refine ⟨fun env' L' => ∃ (o2 o13 o14 o15 o16 o19 o20 o21 o22 o23 : Option D), env' = [some (.ro (ns.map .int)), some (.ptr p), o2, some (.int (t : Nat)), some (.int (u : Nat)), some (.int (v : Nat)), some (.int (w' : Nat)), some (rD cR (rowOf t u)), some (rD cR (rowOf v w')), some (oD cO f a1 b1), some (oD cO f a0 b0'), some (.lst [oD cO g c0 d0, oD cO g c1 d1]), some (.int (turnOf t u v w')), o13, o14, o15, o16, some (exD (exF t u)), some (.int (flF t u : Nat)), o19, o20, o21, o22, o23] ∧ L' = [(p, bagC b)], ?_, ?_⟩
      · walk_at "w"
        refine ⟨t, u, rfl, t0, u0, by omega, by omega, ?_⟩
        walk_at "w"
        refine ⟨t, u, rfl, by omega, by omega, ?_⟩
        walk_at "w"
        exact ⟨_, _, _, _, _, _, _, _, _, _, rfl, rfl⟩
      rintro env' L' ⟨o2, o13, o14, o15, o16, o19, o20, o21, o22, o23, rfl, rfl⟩
      have flk := (fl_ok t0 t1 u0 u1).2.2
      obtain ⟨sf1, sf2⟩ := small30 flk
      obtain ⟨es1, es2⟩ := exR_small tu
      refine ⟨fun env' L' => ∃ (o2 o13 o14 o15 o16 o20 o21 o22 o23 : Option D), env' = [some (.ro (ns.map .int)), some (.ptr p), o2, some (.int (t : Nat)), some (.int (u : Nat)), some (.int (v : Nat)), some (.int (w' : Nat)), some (rD cR (rowOf t u)), some (rD cR (rowOf v w')), some (oD cO f a1 b1), some (oD cO f a0 b0'), some (.lst [oD cO g c0 d0, oD cO g c1 d1]), some (.int (turnOf t u v w')), o13, o14, o15, o16, some (exD (exF t u)), some (.int (flF t u : Nat)), some (.str (optW t u true)), o20, o21, o22, o23] ∧ L' = [(p, bagC b)], ?_, ?_⟩
      · have ew : optW t u true = match exF t u with
          | none => "about " ++ Str.ofString (toString ((flF t u : Nat) : Int))
          | some (a, b) => txt a b := by
          unfold optW
          cases exF t u <;> rfl
        have es := fun a b => ex_some (a := a) (b := b) t0 t1 u0 u1
        rw [ew]
        generalize exF t u = o at es ⊢
        cases o with
        | none =>
          walk_at "w"
          refine ⟨small_log (by omega), ?_⟩
          walk_at "w"
          refine ⟨about_len sf1, ?_⟩
          walk_at "w"
          exact ⟨_, _, _, _, _, _, _, _, _, rfl, rfl⟩
        | some ab =>
          obtain ⟨a, b'⟩ := ab
          obtain ⟨_, al, _, bl, _, _⟩ := es a b' rfl
          have big : (9 : Nat) < 10 ^ 30 := by decide +kernel
          walk_at "w"
          refine ⟨a, b', rfl, by omega, by omega, ?_⟩
          walk_at "w"
          exact ⟨_, _, _, _, _, _, _, _, _, rfl, rfl⟩
      rintro env' L' ⟨o2, o13, o14, o15, o16, o20, o21, o22, o23, rfl, rfl⟩
      refine ⟨fun env' L' => ∃ (o2 o13 o14 o15 o16 o19 o20 o21 o22 o23 : Option D), env' = [some (.ro (ns.map .int)), some (.ptr p), o2, some (.int (t : Nat)), some (.int (u : Nat)), some (.int (v : Nat)), some (.int (w' : Nat)), some (rD cR (rowOf t u)), some (rD cR (rowOf v w')), some (oD cO f a1 b1), some (oD cO f a0 b0'), some (.lst [oD cO g c0 d0, oD cO g c1 d1]), some (.int (turnOf t u v w')), o13, o14, o15, o16, some (exD (exF t u)), some (.int (flF t u : Nat)), o19, o20, o21, o22, o23] ∧ L' = [(p, bagC b)], ?_, ?_⟩
      · walk_at "w"
        refine ⟨⟨rfl, rfl⟩, ?_⟩
        refine ⟨f, a1, b1, exR t u, rfl, R.ff, R.ra, ?_⟩
        rw [optD t0 t1 u0 u1]
        walk_at "w"
        refine ⟨⟨rfl, rfl⟩, ?_⟩
        refine ⟨f, a1, b1, exR t u, (flF t u : Nat), rfl, R.ff, R.ra, es1, fun _ => ⟨R.fa, sf1⟩, ?_⟩
        rw [wrP tu]
        walk_at "w"
        refine ⟨sz_ok rfl, ?_⟩
        walk_at "w"
        refine ⟨sz_ok rfl, ?_⟩
        walk_at "w"
        obtain ⟨o1, o2⟩ := ok_two (t := t) (u := u) (optW t u true)
        refine ⟨_, _, rfl, o1, o1, o2, ?_⟩
        rw [sameD_refl _ o1]
        walk_at "w"
        exact ⟨_, _, _, _, _, _, _, _, _, _, rfl, rfl⟩
      rintro env' L' ⟨o2, o13, o14, o15, o16, o19, o20, o21, o22, o23, rfl, rfl⟩
      refine ⟨fun env' L' => ∃ (o2 o13 o14 o15 o16 o20 o21 o22 o23 : Option D), env' = [some (.ro (ns.map .int)), some (.ptr p), o2, some (.int (t : Nat)), some (.int (u : Nat)), some (.int (v : Nat)), some (.int (w' : Nat)), some (rD cR (rowOf t u)), some (rD cR (rowOf v w')), some (oD cO f a1 b1), some (oD cO f a0 b0'), some (.lst [oD cO g c0 d0, oD cO g c1 d1]), some (.int (turnOf t u v w')), o13, o14, o15, o16, some (exD (exF t u)), some (.int (flF t u : Nat)), some (.str (optW t u false)), o20, o21, o22, o23] ∧ L' = [(p, bagC b)], ?_, ?_⟩
      · have ew : optW t u false = match exF t u with
          | none => "about " ++ Str.ofString (toString (0 - ((flF t u : Nat) : Int) - 1))
          | some (a, b) => "-" ++ txt a b := by
          unfold optW
          cases exF t u <;> rfl
        have es := fun a b => ex_some (a := a) (b := b) t0 t1 u0 u1
        rw [ew]
        generalize exF t u = o at es ⊢
        cases o with
        | none =>
          walk_at "w"
          refine ⟨small_log (by omega), ?_⟩
          walk_at "w"
          refine ⟨about_len sf2, ?_⟩
          walk_at "w"
          exact ⟨_, _, _, _, _, _, _, _, _, rfl, rfl⟩
        | some ab =>
          obtain ⟨a, b'⟩ := ab
          obtain ⟨_, al, _, bl, _, _⟩ := es a b' rfl
          have big : (9 : Nat) < 10 ^ 30 := by decide +kernel
          walk_at "w"
          refine ⟨a, b', rfl, by omega, by omega, ?_⟩
          walk_at "w"
          refine ⟨dash_len (a := a) (b := b') (by omega) (by omega), ?_⟩
          walk_at "w"
          exact ⟨_, _, _, _, _, _, _, _, _, rfl, rfl⟩
      rintro env' L' ⟨o2, o13, o14, o15, o16, o20, o21, o22, o23, rfl, rfl⟩
      refine ⟨fun env' L' => ∃ (o2 o13 o14 o15 o16 o17 o18 o19 o20 o21 o22 o23 : Option D), env' = [some (.ro (ns.map .int)), some (.ptr p), o2, some (.int (t : Nat)), some (.int (u : Nat)), some (.int (v : Nat)), some (.int (w' : Nat)), some (rD cR (rowOf t u)), some (rD cR (rowOf v w')), some (oD cO f a1 b1), some (oD cO f a0 b0'), some (.lst [oD cO g c0 d0, oD cO g c1 d1]), some (.int (turnOf t u v w')), o13, o14, o15, o16, o17, o18, o19, o20, o21, o22, o23] ∧ L' = [(p, bagC b)], ?_, ?_⟩
      · walk_at "w"
        refine ⟨⟨rfl, rfl⟩, ?_⟩
        refine ⟨f, a0, b0', (exR t u).map fun q => -q, 0 - (flF t u : Nat) - 1, rfl, R.ff, R.rb, es2, fun e => ⟨R.fb (exR_none.mp (Option.map_eq_none_iff.mp e)), sf2⟩, ?_⟩
        rw [wrN tu]
        walk_at "w"
        refine ⟨.str (optW t u false), .str (optW t u false), rfl, rfl, rfl, by show 0 < 6; decide, ?_⟩
        rw [sameD_refl _ (show okP (.str (optW t u false)) = true from rfl)]
        walk_at "w"
        exact ⟨_, _, _, _, _, _, _, _, _, _, _, _, rfl, rfl⟩
      rintro env' L' ⟨o2, o13, o14, o15, o16, o17, o18, o19, o20, o21, o22, o23, rfl, rfl⟩
      -- a and b
      refine ⟨fun env' L' => ∃ (b : Bag) (a b2 : Int) (o2 o13 o14 o15 o16 o17 o18 o19 o22 o23 : Option D), BagOk b ∧ (a.natAbs ≤ 9 ∧ b2.natAbs ≤ 9) ∧ env' = [some (.ro (ns.map .int)), some (.ptr p), o2, some (.int (t : Nat)), some (.int (u : Nat)), some (.int (v : Nat)), some (.int (w' : Nat)), some (rD cR (rowOf t u)), some (rD cR (rowOf v w')), some (oD cO f a1 b1), some (oD cO f a0 b0'), some (.lst [oD cO g c0 d0, oD cO g c1 d1]), some (.int (turnOf t u v w')), o13, o14, o15, o16, o17, o18, o19, some (.int a), some (.int b2), o22, o23] ∧ L' = [(p, bagC b)], ?_, ?_⟩
      · walk_at "w"
        refine ⟨p, b, 19, rfl, lookup_top, ok, by decide, by decide, fun r0 b1 r00 r01 ok1 => ?_⟩
        rw [sL]
        walk_at "w"
        refine ⟨p, b1, 19, rfl, lookup_top, ok1, by decide, by decide, fun r1 b2 r10 r11 ok2 => ?_⟩
        rw [sL]
        walk_at "w"
        exact ⟨b2, r0 - 9, r1 - 9, _, _, _, _, _, _, _, _, _, _, ok2, ⟨by omega, by omega⟩, rfl, rfl⟩
      clear ok
      rintro env' L' ⟨b, a, b2, o2, o13, o14, o15, o16, o17, o18, o19, o22, o23, ok, ⟨ba, bb⟩, rfl, rfl⟩
      refine ⟨fun env' L' => ∃ (z : Int) (o2 o13 o14 o15 o16 o17 o18 o19 o23 : Option D), ((b2 = 0 → z = sgZ a) ∧ (b2 ≠ 0 → SgnR f a1 b1 [a, b2] z)) ∧ env' = [some (.ro (ns.map .int)), some (.ptr p), o2, some (.int (t : Nat)), some (.int (u : Nat)), some (.int (v : Nat)), some (.int (w' : Nat)), some (rD cR (rowOf t u)), some (rD cR (rowOf v w')), some (oD cO f a1 b1), some (oD cO f a0 b0'), some (.lst [oD cO g c0 d0, oD cO g c1 d1]), some (.int (turnOf t u v w')), o13, o14, o15, o16, o17, o18, o19, some (.int a), some (.int b2), some (.int z), o23] ∧ L' = [(p, bagC b)], ?_, ?_⟩
      · walk_at "w"
        by_cases e : b2 = 0
        · rw [show flEq (D.int b2) (D.int 0) = true from decide_eq_true e]
          walk_at "w"
          refine ⟨_, rfl, ?_⟩
          walk_at "w"
          exact ⟨_, _, _, _, _, _, _, _, _, _, ⟨fun _ => rfl, fun h => absurd e h⟩, rfl, rfl⟩
        · rw [show flEq (D.int b2) (D.int 0) = false from decide_eq_false e]
          obtain ⟨r, h1, h2, h3⟩ := R.sg1 a b2 ba bb e
          have big : (100 : Nat) < 2 ^ 1990 := by decide +kernel
          have sb := sgZ_small b2
          walk_at "w"
          refine ⟨_, rfl, ?_⟩
          walk_at "w"
          refine ⟨⟨rfl, rfl⟩, ?_⟩
          walk_at "w"
          refine ⟨0 - a, b2, rfl, e, by omega, by omega, ?_⟩
          rw [low_ratD e]
          walk_at "w"
          refine .inl ⟨f, a1, b1, ((0 - a : Int) : Rat) / (b2 : Rat), _, rfl, R.ff, h1, ?_⟩
          walk_at "w"
          refine ⟨.inl (.inl (by omega)), ?_⟩
          walk_at "w"
          exact ⟨_, _, _, _, _, _, _, _, _, _, ⟨fun h => absurd h e, fun _ => h3⟩, rfl, rfl⟩
      rintro env' L' ⟨z, o2, o13, o14, o15, o16, o17, o18, o19, o23, ⟨z0, z1⟩, rfl, rfl⟩
      have pr := pair_row ba bb z0 z1 (fun h => R.sg0 a ba h)
      refine ⟨fun env' L' => ∃ (o2 o14 o15 o16 o17 o18 o19 o23 : Option D), env' = [some (.ro (ns.map .int)), some (.ptr p), o2, some (.int (t : Nat)), some (.int (u : Nat)), some (.int (v : Nat)), some (.int (w' : Nat)), some (rD cR (rowOf t u)), some (rD cR (rowOf v w')), some (oD cO f a1 b1), some (oD cO f a0 b0'), some (.lst [oD cO g c0 d0, oD cO g c1 d1]), some (.int (turnOf t u v w')), some (.lst [.int z, .int (turnOf t u v w'), .int (turnOf t u v w'), .int 0, .int 1]), o14, o15, o16, o17, o18, o19, some (.int a), some (.int b2), some (.int z), o23] ∧ L' = [(p, bagC b)], ?_, ?_⟩
      · walk_at "w"
        refine ⟨⟨rfl, rfl⟩, ?_⟩
        walk_at "w"
        refine ⟨sz_ok rfl, ?_⟩
        walk_at "w"
        intro q hq
        refine ⟨q, [a, b2], rfl, lookup_top, by show 2 < 100000; decide, rfl, ?_⟩
        rw [setL_top hq, lookup_top]
        walk_at "w"
        rw [remL_top hq]
        walk_at "w"
        refine ⟨f, _, a1, b1, z, rfl, R.ff, pr, ?_⟩
        walk_at "w"
        refine ⟨⟨rfl, rfl⟩, ?_⟩
        walk_at "w"
        refine ⟨f, _, a1, b1, _, rfl, R.ff, .inr ⟨R.fl, R.q1⟩, ?_⟩
        walk_at "w"
        refine ⟨⟨rfl, rfl⟩, ?_⟩
        walk_at "w"
        refine ⟨f, _, a0, b0', _, rfl, R.ff, .inr ⟨R.fl, R.q0⟩, ?_⟩
        walk_at "w"
        refine ⟨⟨rfl, rfl⟩, ?_⟩
        walk_at "w"
        refine ⟨f, _, a1, b1, _, rfl, R.ff, .inr ⟨R.fr, R.q2⟩, ?_⟩
        walk_at "w"
        refine ⟨⟨rfl, rfl⟩, ?_⟩
        walk_at "w"
        refine ⟨sz_ok rfl, ?_⟩
        walk_at "w"
        intro q2 hq2
        refine ⟨q2, [0 - (t : Int), 1, (u : Int)], rfl, lookup_top, by show 3 < 100000; decide, rfl, ?_⟩
        rw [setL_top hq2, lookup_top, tri_three (show (u : Int) ≠ 0 by omega), Int.zero_sub]
        walk_at "w"
        rw [remL_top hq2]
        walk_at "w"
        refine ⟨f, _, a1, b1, _, rfl, R.ff, .inr ⟨fok_quad tu, R.q3⟩, ?_⟩
        walk_at "w"
        refine ⟨sz_ok rfl, ?_⟩
        walk_at "w"
        exact ⟨_, _, _, _, _, _, _, _, rfl, rfl⟩
      rintro env' L' ⟨o2, o14, o15, o16, o17, o18, o19, o23, rfl, rfl⟩
      refine ⟨fun env' L' => ∃ (o2 o13 o14 o15 o16 o17 o18 o19 o20 o21 o22 o23 : Option D), env' = [some (.ro (ns.map .int)), some (.ptr p), o2, some (.int (t : Nat)), some (.int (u : Nat)), some (.int (v : Nat)), some (.int (w' : Nat)), some (rD cR (rowOf t u)), some (rD cR (rowOf v w')), some (oD cO f a1 b1), some (oD cO f a0 b0'), some (.lst [oD cO g c0 d0, oD cO g c1 d1]), some (.int (turnOf t u v w')), o13, o14, o15, o16, o17, o18, o19, o20, o21, o22, o23] ∧ L' = [(p, bagC b)], ?_, ?_⟩
      · walk_at "w"
        refine ⟨sz_ok rfl, ?_⟩
        walk_at "w"
        refine ⟨.lst ([z, turnOf t u v w', turnOf t u v w', 0, 1].map .int), .lst ([z, turnOf t u v w', turnOf t u v w', 0, 1].map .int), rfl, okI (by show 5 ≤ 1000; decide), okI (by show 5 ≤ 1000; decide), depI _, ?_⟩
        rw [sameD_refl _ (okI (by show 5 ≤ 1000; decide))]
        walk_at "w"
        exact ⟨_, _, _, _, _, _, _, _, _, _, _, _, rfl, rfl⟩
      clear pr z0 z1
      rintro env' L' ⟨o2, o13, o14, o15, o16, o17, o18, o19, o20, o21, o22, o23, rfl, rfl⟩
      -- the ends
      obtain ⟨l, h', hw, ⟨ra, ra1, ra2⟩, ⟨rb, rb1, rb2⟩, wd, ⟨⟨n1, n2⟩, n3, n4⟩, n5, n6⟩ := R.wi
      refine ⟨fun env' L' => ∃ (o2 o13 o14 o15 o16 o17 o18 o19 o20 o21 o22 : Option D), env' = [some (.ro (ns.map .int)), some (.ptr p), o2, some (.int (t : Nat)), some (.int (u : Nat)), some (.int (v : Nat)), some (.int (w' : Nat)), some (rD cR (rowOf t u)), some (rD cR (rowOf v w')), some (oD cO f a1 b1), some (oD cO f a0 b0'), some (.lst [oD cO g c0 d0, oD cO g c1 d1]), some (.int (turnOf t u v w')), o13, o14, o15, o16, o17, o18, o19, o20, o21, o22, some (.tup [ratD l, ratD h'])] ∧ L' = [(p, bagC b)], ?_, ?_⟩
      · walk_at "w"
        refine ⟨⟨rfl, rfl⟩, ?_⟩
        walk_at "w"
        refine ⟨sz_ok rfl, ?_⟩
        walk_at "w"
        refine ⟨f, a0, b0', 1 / 1000, l, h', by rw [thou]; rfl, R.ff, thou_sb, hw, ?_⟩
        walk_at "w"
        exact ⟨_, _, _, _, _, _, _, _, _, _, _, rfl, rfl⟩
      rintro env' L' ⟨o2, o13, o14, o15, o16, o17, o18, o19, o20, o21, o22, rfl, rfl⟩
      walk_at "w"
      refine ⟨⟨rfl, rfl⟩, ?_⟩
      walk_at "w"
      refine .inl ⟨f, a0, b0', l, ra, rfl, R.ff, ra1, ?_⟩
      walk_at "w"
      rw [show decide (ra < 0) = false from decide_eq_false (by omega)]
      walk_at "w"
      refine ⟨⟨rfl, rfl⟩, ?_⟩
      walk_at "w"
      refine .inl ⟨f, a0, b0', h', rb, rfl, R.ff, rb1, ?_⟩
      walk_at "w"
      rw [show decide (0 < rb) = false from decide_eq_false (by omega)]
      walk_at "w"
      refine ⟨h'.num, (h'.den : Nat), l.num, (l.den : Nat), rfl, by have := h'.den_pos; omega, by have := l.den_pos; omega, ⟨n3, n4⟩, ⟨n1, n2⟩, ?_⟩
      rw [num_den, num_den]
      walk_at "w"
      refine ⟨sz_ok rfl, ?_⟩
      walk_at "w"
      refine ⟨(h' - l).num, ((h' - l).den : Nat), 1, 1000, rfl, ⟨n5, n6⟩, by decide, ?_⟩
      walk_at "w"
      rw [show decide (0 < sgZ ((h' - l).num * 1000 - 1 * (((h' - l).den : Nat) : Int))) = false from decide_eq_false (by have := wd_ok wd; omega)]
      walk_at "w"
      exact hnx _ _ ⟨b, _, _, _, _, _, _, _, _, _, _, _, _, _, _, _, _, _, _, _, _, _, _, ok, rfl, rfl⟩
  · rintro ds L k x ⟨ns, rfl, _⟩; rfl
end
end T15
namespace T15
open PySem L2 DL TL NumText PO RO ST
theorem cal_mk {P : Program} {w : World} {K : PySem.W.Frag} {mg : Str → Option Value} {base : Heap} {n : Nat} {x : Str} {ps : List Str} {g : DSp} {f : Addr} {fd : FuncData} (G : FnOk P w K mg base (L2.CX P w) n f fd ps (spD K g)) (m : mg x = some (.ref f)) (k : PySem.W.keepIn K (.ref f) = true) (b : Binds K fd ps []) : Cal P w K mg base n x ps [] g := ⟨⟨f, fd, [], [], G, m, k, b, .nil, fun _ _ => .nil⟩⟩
section
variable {P : Program} {w : World} {K : PySem.W.Frag} {mg : Str → Option Value} {base : Heap} {cR cO : Addr}
theorem mcal_mk {n : Nat} {C : Addr} {x : Str} {ps : List Str} {g : DSp} {f : Addr} {fd : FuncData} (G : FnOk P w K mg base (L2.CX P w) n f fd ps (spD K g)) (c : Cls K C) (h : Meth K C x f) (b : Binds K fd ps []) : MCal P w K mg base n C x ps [] g := ⟨⟨f, fd, [], [], G, c, h, b, .nil, fun _ _ => .nil⟩⟩
end
theorem same_all {P : Program} {w : World} {K : PySem.W.Frag} {mg : Str → Option Value} {base : Heap} {cR cO : Addr} {f : Addr} {fd : FuncData} (Z : Zn w K mg cR cO) (F : Fun K "_law_same" "_law_same" sLSame f fd) (b : Binds K fd ["_law_found", "_law_due"] []) (m : mg "_law_same" = some (.ref f)) : ∀ n : Nat, FnOk P w K mg base (L2.CX P w) n f fd ["_law_found", "_law_due"] (spD K (sameS n))
  | 0 => by
    have no : ∀ vs H Q E, ¬ spD K (sameS 0) vs H Q E := fun vs H Q E h => by
      obtain ⟨ds, L, k, x, _, _, ⟨_, _, _, _, _, h, _⟩, _⟩ := h
      exact absurd h (Nat.not_lt_zero _)
    exact ⟨fun vs H Q E h => absurd h (no vs H Q E), fun A outer s H args us vs Q E _ _ _ _ h => absurd h (no vs H Q E)⟩
  | n + 1 => ok_LSame Z F ⟨⟨f, fd, [], [], same_all Z F b m n, m, F.kp, b, .nil, fun _ _ => .nil⟩⟩
theorem law_binds {kV doc pm ct : Value} {an : Option Addr} {c : Addr} : ∀ (s : Shared) (v : Value), BindsTo s (PySem.W.fnOf "law" "law" (defArgs sLaw) (defBody sLaw) (defScope sLaw) .none kV doc pm an (.ref c) ct) ⟨[v], []⟩ [("_law_script", v)] := fun s v => .of_eq rfl
theorem all_mk {P : Program} {w : World} {K : PySem.W.Frag} {h : Heap} {mg : Str → Option Value} {fa : Addr}
    {cR cO : Addr}
    {c : Addr}
    {f2 : Addr} {fd2 : FuncData}
    {f3 : Addr} {fd3 : FuncData}
    {f4 : Addr} {fd4 : FuncData}
    {f5 : Addr} {fd5 : FuncData}
    {f6 : Addr} {fd6 : FuncData}
    {f7 : Addr} {fd7 : FuncData}
    {f8 : Addr} {fd8 : FuncData}
    {f9 : Addr} {fd9 : FuncData}
    {f10 : Addr} {fd10 : FuncData}
    {f11 : Addr} {fd11 : FuncData}
    {f12 : Addr} {fd12 : FuncData}
    {f13 : Addr} {fd13 : FuncData}
    {f14 : Addr} {fd14 : FuncData}
    {f15 : Addr} {fd15 : FuncData}
    {f16 : Addr} {fd16 : FuncData}
    {f17 : Addr} {fd17 : FuncData}
    {f18 : Addr} {fd18 : FuncData}
    {f19 : Addr} {fd19 : FuncData}
    {f20 : Addr} {fd20 : FuncData}
    {f21 : Addr} {fd21 : FuncData}
    {f22 : Addr} {fd22 : FuncData}
    {f23 : Addr} {fd23 : FuncData}
    {f24 : Addr} {fd24 : FuncData}
    {f25 : Addr} {fd25 : FuncData}
    {f26 : Addr} {fd26 : FuncData}
    {f27 : Addr} {fd27 : FuncData}
    {f28 : Addr} {fd28 : FuncData}
    {f29 : Addr} {fd29 : FuncData}
    {f30 : Addr} {fd30 : FuncData}
    {f31 : Addr} {fd31 : FuncData}
    {f32 : Addr} {fd32 : FuncData}
    {f33 : Addr} {fd33 : FuncData}
    {f34 : Addr} {fd34 : FuncData}
    {f35 : Addr} {fd35 : FuncData}
    {f36 : Addr} {fd36 : FuncData}
    {f37 : Addr} {fd37 : FuncData}
    {f38 : Addr} {fd38 : FuncData}
    {f39 : Addr} {fd39 : FuncData}
    {f40 : Addr} {fd40 : FuncData}
    {f41 : Addr} {fd41 : FuncData}
    {f42 : Addr} {fd42 : FuncData}
    {f43 : Addr} {od43 an43 : Option Addr} {sl43 : Array (Option Value)} {oc43 kV43 dc43 pm43 ct43 : Value}
    {f44 : Addr} {fd44 : FuncData}
    {f46 : Addr} {fd46 : FuncData}
    {f50 : Addr} {fd50 : FuncData}
    {f52 : Addr} {fd52 : FuncData}
    {f53 : Addr} {fd53 : FuncData}
    {f54 : Addr} {fd54 : FuncData}
    {f55 : Addr} {fd55 : FuncData}
    {f56 : Addr} {fd56 : FuncData}
    {f57 : Addr} {fd57 : FuncData}
    {f58 : Addr} {fd58 : FuncData}
    {gL0 pL0 : Addr} {odG0 anG0 : Option Addr} {slG0 : Array (Option Value)} {ocG0 kVG0 dcG0 pmG0 cdG0 ctG0 : Value}
    (X : K.In h) (G : h.Ns mainGlobals mg) (hfa : mg "law" = some (.ref fa))
    (a_Row : PySem.W.nsIn K mainGlobals "Row" = some (some (.ref cR)))
    (a_Root : PySem.W.nsIn K mainGlobals "Root" = some (some (.ref cO)))
    (a2 : PySem.W.nsIn K mainGlobals "trimmed" = some (some (.ref f2)))
    (FTrimmed : Fun K "trimmed" "trimmed" sTrimmed f2 fd2)
    (a3 : PySem.W.nsIn K mainGlobals "combined" = some (some (.ref f3)))
    (FCombined : Fun K "combined" "combined" sCombined f3 fd3)
    (a4 : PySem.W.nsIn K mainGlobals "content" = some (some (.ref f4)))
    (FContent : Fun K "content" "content" sContent f4 fd4)
    (a5 : PySem.W.nsIn K mainGlobals "primitive" = some (some (.ref f5)))
    (FPrimitive : Fun K "primitive" "primitive" sPrimitive f5 fd5)
    (a6 : PySem.W.nsIn K mainGlobals "lightened" = some (some (.ref f6)))
    (FLightened : Fun K "lightened" "lightened" sLightened f6 fd6)
    (a7 : PySem.W.nsIn K mainGlobals "remainder" = some (some (.ref f7)))
    (FRemainder : Fun K "remainder" "remainder" sRemainder f7 fd7)
    (a8 : PySem.W.nsIn K mainGlobals "common_list" = some (some (.ref f8)))
    (FCommonList : Fun K "common_list" "common_list" sCommonList f8 fd8)
    (a9 : PySem.W.nsIn K mainGlobals "exact_list" = some (some (.ref f9)))
    (FExactList : Fun K "exact_list" "exact_list" sExactList f9 fd9)
    (a10 : PySem.W.nsIn K mainGlobals "derived" = some (some (.ref f10)))
    (FDerived : Fun K "derived" "derived" sDerived f10 fd10)
    (a11 : PySem.W.nsIn K mainGlobals "free_list" = some (some (.ref f11)))
    (FFreeList : Fun K "free_list" "free_list" sFreeList f11 fd11)
    (a12 : PySem.W.nsIn K mainGlobals "value_over" = some (some (.ref f12)))
    (FValueOver : Fun K "value_over" "value_over" sValueOver f12 fd12)
    (a13 : PySem.W.nsIn K mainGlobals "is_integer" = some (some (.ref f13)))
    (FIsInteger : Fun K "is_integer" "is_integer" sIsInteger f13 fd13)
    (a14 : PySem.W.nsIn K mainGlobals "lowest" = some (some (.ref f14)))
    (FLowest : Fun K "lowest" "lowest" sLowest f14 fd14)
    (a15 : PySem.W.nsIn K mainGlobals "minus" = some (some (.ref f15)))
    (FMinus : Fun K "minus" "minus" sMinus f15 fd15)
    (a16 : PySem.W.nsIn K mainGlobals "sign" = some (some (.ref f16)))
    (FSign : Fun K "sign" "sign" sSign f16 fd16)
    (a17 : PySem.W.nsIn K mainGlobals "is_less" = some (some (.ref f17)))
    (FIsLess : Fun K "is_less" "is_less" sIsLess f17 fd17)
    (a18 : PySem.W.nsIn K mainGlobals "middle" = some (some (.ref f18)))
    (FMiddle : Fun K "middle" "middle" sMiddle f18 fd18)
    (a19 : PySem.W.nsIn K mainGlobals "ratio_text" = some (some (.ref f19)))
    (FRatioText : Fun K "ratio_text" "ratio_text" sRatioText f19 fd19)
    (a20 : PySem.W.nsIn K mainGlobals "chain_of" = some (some (.ref f20)))
    (FChainOf : Fun K "chain_of" "chain_of" sChainOf f20 fd20)
    (a21 : PySem.W.nsIn K mainGlobals "changes" = some (some (.ref f21)))
    (FChanges : Fun K "changes" "changes" sChanges f21 fd21)
    (a22 : PySem.W.nsIn K mainGlobals "changes_at" = some (some (.ref f22)))
    (FChangesAt : Fun K "changes_at" "changes_at" sChangesAt f22 fd22)
    (a23 : PySem.W.nsIn K mainGlobals "changes_far" = some (some (.ref f23)))
    (FChangesFar : Fun K "changes_far" "changes_far" sChangesFar f23 fd23)
    (a24 : PySem.W.nsIn K mainGlobals "count_between" = some (some (.ref f24)))
    (FCountBetween : Fun K "count_between" "count_between" sCountBetween f24 fd24)
    (a25 : PySem.W.nsIn K mainGlobals "far_bound" = some (some (.ref f25)))
    (FFarBound : Fun K "far_bound" "far_bound" sFarBound f25 fd25)
    (a26 : PySem.W.nsIn K mainGlobals "isolated" = some (some (.ref f26)))
    (FIsolated : Fun K "isolated" "isolated" sIsolated f26 fd26)
    (a27 : PySem.W.nsIn K mainGlobals "halved" = some (some (.ref f27)))
    (FHalved : Fun K "halved" "halved" sHalved f27 fd27)
    (a28 : PySem.W.nsIn K mainGlobals "compare_ratio" = some (some (.ref f28)))
    (FCompareRatio : Fun K "compare_ratio" "compare_ratio" sCompareRatio f28 fd28)
    (a29 : PySem.W.nsIn K mainGlobals "compare_roots" = some (some (.ref f29)))
    (FCompareRoots : Fun K "compare_roots" "compare_roots" sCompareRoots f29 fd29)
    (a30 : PySem.W.nsIn K mainGlobals "_law_bag" = some (some (.ref f30)))
    (FLBag : Fun K "_law_bag" "_law_bag" sLBag f30 fd30)
    (a31 : PySem.W.nsIn K mainGlobals "_law_pull" = some (some (.ref f31)))
    (FLPull : Fun K "_law_pull" "_law_pull" sLPull f31 fd31)
    (a32 : PySem.W.nsIn K mainGlobals "_law_of" = some (some (.ref f32)))
    (FLOf : Fun K "_law_of" "_law_of" sLOf f32 fd32)
    (a33 : PySem.W.nsIn K mainGlobals "_law_same" = some (some (.ref f33)))
    (FLSame : Fun K "_law_same" "_law_same" sLSame f33 fd33)
    (a34 : PySem.W.nsIn K mainGlobals "_law_gcd" = some (some (.ref f34)))
    (FLGcd : Fun K "_law_gcd" "_law_gcd" sLGcd f34 fd34)
    (a35 : PySem.W.nsIn K mainGlobals "_law_low" = some (some (.ref f35)))
    (FLLow : Fun K "_law_low" "_law_low" sLLow f35 fd35)
    (a36 : PySem.W.nsIn K mainGlobals "_law_sub" = some (some (.ref f36)))
    (FLSub : Fun K "_law_sub" "_law_sub" sLSub f36 fd36)
    (a37 : PySem.W.nsIn K mainGlobals "_law_sign" = some (some (.ref f37)))
    (FLSign : Fun K "_law_sign" "_law_sign" sLSign f37 fd37)
    (a38 : PySem.W.nsIn K mainGlobals "_law_order" = some (some (.ref f38)))
    (FLOrder : Fun K "_law_order" "_law_order" sLOrder f38 fd38)
    (a39 : PySem.W.nsIn K mainGlobals "_law_ratio_text" = some (some (.ref f39)))
    (FLRatioText : Fun K "_law_ratio_text" "_law_ratio_text" sLRatioText f39 fd39)
    (a40 : PySem.W.nsIn K mainGlobals "_law_to" = some (some (.ref f40)))
    (FLTo : Fun K "_law_to" "_law_to" sLTo f40 fd40)
    (a41 : PySem.W.nsIn K mainGlobals "_law_floor_root" = some (some (.ref f41)))
    (FLFloorRoot : Fun K "_law_floor_root" "_law_floor_root" sLFloorRoot f41 fd41)
    (a42 : PySem.W.nsIn K mainGlobals "_law_exact_root" = some (some (.ref f42)))
    (FLExactRoot : Fun K "_law_exact_root" "_law_exact_root" sLExactRoot f42 fd42)
    (a43 : PySem.W.nsIn K mainGlobals "law" = some (some (.ref f43)))
    (l43 : K.lookup f43 = some ⟨oc43, od43, .func (PySem.W.fnOf "law" "law" (defArgs sLaw) (defBody sLaw) (defScope sLaw) .none kV43 dc43 pm43 an43 (.ref c) ct43), sl43⟩)
    (c43 : PySem.W.codeIn K (.ref c) "law" = true)
    (k43 : PySem.W.keepIn K (.ref f43) = true)
    (a44 : PySem.W.findIn K (.ref cR) "__init__" = some (some (.ref f44)))
    (i44 : PySem.W.isFn K (.ref f44) = true)
    (FRowInit : Fun K "__init__" "Row.__init__" sRowInit f44 fd44)
    (a46 : PySem.W.findIn K (.ref cR) "coefs" = some (some (.ref f46)))
    (i46 : PySem.W.isFn K (.ref f46) = true)
    (FRowCoefs : Fun K "coefs" "Row.coefs" sRowCoefs f46 fd46)
    (a50 : PySem.W.findIn K (.ref cR) "__bool__" = some (some (.ref f50)))
    (i50 : PySem.W.isFn K (.ref f50) = true)
    (FRowBool : Fun K "__bool__" "Row.__bool__" sRowBool f50 fd50)
    (a52 : PySem.W.findIn K (.ref cO) "__init__" = some (some (.ref f52)))
    (i52 : PySem.W.isFn K (.ref f52) = true)
    (FRootInit : Fun K "__init__" "Root.__init__" sRootInit f52 fd52)
    (a53 : PySem.W.findIn K (.ref cO) "compare" = some (some (.ref f53)))
    (i53 : PySem.W.isFn K (.ref f53) = true)
    (FRootCompare : Fun K "compare" "Root.compare" sRootCompare f53 fd53)
    (a54 : PySem.W.findIn K (.ref cO) "sign_of" = some (some (.ref f54)))
    (i54 : PySem.W.isFn K (.ref f54) = true)
    (FRootSignOf : Fun K "sign_of" "Root.sign_of" sRootSignOf f54 fd54)
    (a55 : PySem.W.findIn K (.ref cO) "within" = some (some (.ref f55)))
    (i55 : PySem.W.isFn K (.ref f55) = true)
    (FRootWithin : Fun K "within" "Root.within" sRootWithin f55 fd55)
    (a56 : PySem.W.findIn K (.ref cO) "ratio" = some (some (.ref f56)))
    (i56 : PySem.W.isFn K (.ref f56) = true)
    (FRootRatio : Fun K "ratio" "Root.ratio" sRootRatio f56 fd56)
    (a57 : PySem.W.findIn K (.ref cO) "floor" = some (some (.ref f57)))
    (i57 : PySem.W.isFn K (.ref f57) = true)
    (FRootFloor : Fun K "floor" "Root.floor" sRootFloor f57 fd57)
    (a58 : PySem.W.findIn K (.ref cO) "written" = some (some (.ref f58)))
    (i58 : PySem.W.isFn K (.ref f58) = true)
    (FRootWritten : Fun K "written" "Root.written" sRootWritten f58 fd58)
    (z_isinstance : PySem.W.nsIn K mainGlobals "isinstance" = some none)
    (z_int : PySem.W.nsIn K mainGlobals "int" = some none)
    (z_bool : PySem.W.nsIn K mainGlobals "bool" = some none)
    (z_str : PySem.W.nsIn K mainGlobals "str" = some none)
    (z_list : PySem.W.nsIn K mainGlobals "list" = some none)
    (z_tuple : PySem.W.nsIn K mainGlobals "tuple" = some none)
    (z_len : PySem.W.nsIn K mainGlobals "len" = some none)
    (z_abs : PySem.W.nsIn K mainGlobals "abs" = some none)
    (z_all : PySem.W.nsIn K mainGlobals "all" = some none)
    (z_range : PySem.W.nsIn K mainGlobals "range" = some none)
    (z_zip : PySem.W.nsIn K mainGlobals "zip" = some none)
    (z_enumerate : PySem.W.nsIn K mainGlobals "enumerate" = some none)
    (z_reversed : PySem.W.nsIn K mainGlobals "reversed" = some none)
    (z_max : PySem.W.nsIn K mainGlobals "max" = some none)
    (g_gcd : PySem.W.nsIn K mainGlobals "gcd" = some (some (.builtin "math.gcd")))
    (pg_Row : PySem.W.plainGet K cR Str.empty = true)
    (hd_Row : PySem.W.hasDictIn K cR = true)
    (po_Row : PySem.W.plainOver K cR = true)
    (sa_Row : PySem.W.findIn K (.ref cR) "__setattr__" = some (some (.builtin "object.__setattr__")))
    (mk_Row : PySem.W.makesIn K cR = true)
    (kc_Row : PySem.W.keepIn K (.ref cR) = true)
    (no0_Row : PySem.W.findIn K (.ref cR) "numbers" = some none)
    (pg_Root : PySem.W.plainGet K cO Str.empty = true)
    (hd_Root : PySem.W.hasDictIn K cO = true)
    (po_Root : PySem.W.plainOver K cO = true)
    (sa_Root : PySem.W.findIn K (.ref cO) "__setattr__" = some (some (.builtin "object.__setattr__")))
    (mk_Root : PySem.W.makesIn K cO = true)
    (kc_Root : PySem.W.keepIn K (.ref cO) = true)
    (no0_Root : PySem.W.findIn K (.ref cO) "numbers" = some none)
    (no1_Root : PySem.W.findIn K (.ref cO) "spot" = some none)
    (ic_ha : PySem.W.findIn K (.ref cO) "__class__" = some (some (.builtin "object.__class__")))
    (ic_hn : PySem.W.specialIn K (.builtin "object.__class__") "__get__" = some (some (.builtin "getset_descriptor.__get__")))
    (ic_tk : PySem.W.takesIn K (.builtin "object.__class__") = some true)
    (ic_hm : PySem.W.mroIn K cO (.type "object") = some true)
    (kRoot : PySem.W.kitOne K (.ref cO) (.ref cO) = some true)
    (kTup : PySem.W.kitOne K (.type "tuple") (.ref cO) = some false)
    (PO0 : PropOf K cR "degree" pL0 gL0)
    (lG0 : K.lookup gL0 = some ⟨ocG0, odG0, .func (PySem.W.fnOf "degree" "Row.degree" (defArgs sGet0) (defBody sGet0) (defScope sGet0) .none kVG0 dcG0 pmG0 anG0 cdG0 ctG0), slG0⟩)
    (cG0 : PySem.W.codeIn K cdG0 "Row.degree" = true)
    (kG0 : PySem.W.keepIn K (.ref gL0) = true) :
    ∃ fd : FuncData, (∀ (s : Shared) (v : Value), BindsTo s fd ⟨[v], []⟩ [("_law_script", v)]) ∧ ∀ base : Heap, K.In base → base.Ns mainGlobals mg → FnOk P w K mg base (L2.CX P w) 16 fa fd ["_law_script"] (spD K lawS) := by
  have n_Row := PySem.W.mg_of X G a_Row
  have n_Root := PySem.W.mg_of X G a_Root
  have e := hfa.symm.trans (PySem.W.mg_of X G a43)
  cases e
  have c_Row : Cls K cR := ⟨pg_Row, hd_Row, po_Row, sa_Row⟩
  have Mk_Row : Mk K cR f44 := ⟨mk_Row, a44, i44, kc_Row⟩
  have c_Root : Cls K cO := ⟨pg_Root, hd_Root, po_Root, sa_Root⟩
  have Mk_Root : Mk K cO f52 := ⟨mk_Root, a52, i52, kc_Root⟩
  have FRowDegree := fun_mk (st := sGet0) lG0 cG0 kG0
  have bRowDegree := FRowDegree.binds (ps := ["self"]) fun _ _ _ _ _ _ us hl => match us, hl with | [_], _ => rfl
  have bTrimmed := FTrimmed.binds (ps := ["items"]) fun _ _ _ _ _ _ us hl => match us, hl with | [_], _ => rfl
  have mTrimmed := PySem.W.mg_of X G a2
  have bCombined := FCombined.binds (ps := ["one", "factor", "other", "times", "shift"]) fun _ _ _ _ _ _ us hl => match us, hl with | [_, _, _, _, _], _ => rfl
  have mCombined := PySem.W.mg_of X G a3
  have bContent := FContent.binds (ps := ["items"]) fun _ _ _ _ _ _ us hl => match us, hl with | [_], _ => rfl
  have mContent := PySem.W.mg_of X G a4
  have bPrimitive := FPrimitive.binds (ps := ["items"]) fun _ _ _ _ _ _ us hl => match us, hl with | [_], _ => rfl
  have mPrimitive := PySem.W.mg_of X G a5
  have bLightened := FLightened.binds (ps := ["items"]) fun _ _ _ _ _ _ us hl => match us, hl with | [_], _ => rfl
  have mLightened := PySem.W.mg_of X G a6
  have bRemainder := FRemainder.binds (ps := ["one", "other"]) fun _ _ _ _ _ _ us hl => match us, hl with | [_, _], _ => rfl
  have mRemainder := PySem.W.mg_of X G a7
  have bCommonList := FCommonList.binds (ps := ["one", "other"]) fun _ _ _ _ _ _ us hl => match us, hl with | [_, _], _ => rfl
  have mCommonList := PySem.W.mg_of X G a8
  have bExactList := FExactList.binds (ps := ["one", "other"]) fun _ _ _ _ _ _ us hl => match us, hl with | [_, _], _ => rfl
  have mExactList := PySem.W.mg_of X G a9
  have bDerived := FDerived.binds (ps := ["items"]) fun _ _ _ _ _ _ us hl => match us, hl with | [_], _ => rfl
  have mDerived := PySem.W.mg_of X G a10
  have bFreeList := FFreeList.binds (ps := ["items"]) fun _ _ _ _ _ _ us hl => match us, hl with | [_], _ => rfl
  have mFreeList := PySem.W.mg_of X G a11
  have bValueOver := FValueOver.binds (ps := ["items", "value"]) fun _ _ _ _ _ _ us hl => match us, hl with | [_, _], _ => rfl
  have mValueOver := PySem.W.mg_of X G a12
  have bIsInteger := FIsInteger.binds (ps := ["value"]) fun _ _ _ _ _ _ us hl => match us, hl with | [_], _ => rfl
  have mIsInteger := PySem.W.mg_of X G a13
  have bLowest := FLowest.binds (ps := ["top", "bottom"]) fun _ _ _ _ _ _ us hl => match us, hl with | [_, _], _ => rfl
  have mLowest := PySem.W.mg_of X G a14
  have bMinus := FMinus.binds (ps := ["one", "other"]) fun _ _ _ _ _ _ us hl => match us, hl with | [_, _], _ => rfl
  have mMinus := PySem.W.mg_of X G a15
  have bSign := FSign.binds (ps := ["number"]) fun _ _ _ _ _ _ us hl => match us, hl with | [_], _ => rfl
  have mSign := PySem.W.mg_of X G a16
  have bIsLess := FIsLess.binds (ps := ["one", "other"]) fun _ _ _ _ _ _ us hl => match us, hl with | [_, _], _ => rfl
  have mIsLess := PySem.W.mg_of X G a17
  have bMiddle := FMiddle.binds (ps := ["one", "other"]) fun _ _ _ _ _ _ us hl => match us, hl with | [_, _], _ => rfl
  have mMiddle := PySem.W.mg_of X G a18
  have bRatioText := FRatioText.binds (ps := ["one"]) fun _ _ _ _ _ _ us hl => match us, hl with | [_], _ => rfl
  have mRatioText := PySem.W.mg_of X G a19
  have bChainOf := FChainOf.binds (ps := ["items"]) fun _ _ _ _ _ _ us hl => match us, hl with | [_], _ => rfl
  have mChainOf := PySem.W.mg_of X G a20
  have bChanges := FChanges.binds (ps := ["signs"]) fun _ _ _ _ _ _ us hl => match us, hl with | [_], _ => rfl
  have mChanges := PySem.W.mg_of X G a21
  have bChangesAt := FChangesAt.binds (ps := ["chain", "value"]) fun _ _ _ _ _ _ us hl => match us, hl with | [_, _], _ => rfl
  have mChangesAt := PySem.W.mg_of X G a22
  have bChangesFar := FChangesFar.binds (ps := ["chain", "turn"]) fun _ _ _ _ _ _ us hl => match us, hl with | [_, _], _ => rfl
  have mChangesFar := PySem.W.mg_of X G a23
  have bCountBetween := FCountBetween.binds (ps := ["items", "low", "high"]) fun _ _ _ _ _ _ us hl => match us, hl with | [_, _, _], _ => rfl
  have mCountBetween := PySem.W.mg_of X G a24
  have bFarBound := FFarBound.binds (ps := ["items"]) fun _ _ _ _ _ _ us hl => match us, hl with | [_], _ => rfl
  have mFarBound := PySem.W.mg_of X G a25
  have bIsolated := FIsolated.binds (ps := ["items", "index"]) fun _ _ _ _ _ _ us hl => match us, hl with | [_, _], _ => rfl
  have mIsolated := PySem.W.mg_of X G a26
  have bHalved := FHalved.binds (ps := ["items", "low", "high"]) fun _ _ _ _ _ _ us hl => match us, hl with | [_, _, _], _ => rfl
  have mHalved := PySem.W.mg_of X G a27
  have bCompareRatio := FCompareRatio.binds (ps := ["root", "value"]) fun _ _ _ _ _ _ us hl => match us, hl with | [_, _], _ => rfl
  have mCompareRatio := PySem.W.mg_of X G a28
  have bCompareRoots := FCompareRoots.binds (ps := ["one", "other"]) fun _ _ _ _ _ _ us hl => match us, hl with | [_, _], _ => rfl
  have mCompareRoots := PySem.W.mg_of X G a29
  have bLBag := FLBag.binds (ps := ["_law_script"]) fun _ _ _ _ _ _ us hl => match us, hl with | [_], _ => rfl
  have mLBag := PySem.W.mg_of X G a30
  have bLPull := FLPull.binds (ps := ["_law_bag_here", "_law_many"]) fun _ _ _ _ _ _ us hl => match us, hl with | [_, _], _ => rfl
  have mLPull := PySem.W.mg_of X G a31
  have bLOf := FLOf.binds (ps := ["_law_bag_here", "_law_some"]) fun _ _ _ _ _ _ us hl => match us, hl with | [_, _], _ => rfl
  have mLOf := PySem.W.mg_of X G a32
  have bLSame := FLSame.binds (ps := ["_law_found", "_law_due"]) fun _ _ _ _ _ _ us hl => match us, hl with | [_, _], _ => rfl
  have mLSame := PySem.W.mg_of X G a33
  have bLGcd := FLGcd.binds (ps := ["_law_one", "_law_two"]) fun _ _ _ _ _ _ us hl => match us, hl with | [_, _], _ => rfl
  have mLGcd := PySem.W.mg_of X G a34
  have bLLow := FLLow.binds (ps := ["_law_top", "_law_under"]) fun _ _ _ _ _ _ us hl => match us, hl with | [_, _], _ => rfl
  have mLLow := PySem.W.mg_of X G a35
  have bLSub := FLSub.binds (ps := ["_law_one", "_law_two"]) fun _ _ _ _ _ _ us hl => match us, hl with | [_, _], _ => rfl
  have mLSub := PySem.W.mg_of X G a36
  have bLSign := FLSign.binds (ps := ["_law_number"]) fun _ _ _ _ _ _ us hl => match us, hl with | [_], _ => rfl
  have mLSign := PySem.W.mg_of X G a37
  have bLOrder := FLOrder.binds (ps := ["_law_one", "_law_two"]) fun _ _ _ _ _ _ us hl => match us, hl with | [_, _], _ => rfl
  have mLOrder := PySem.W.mg_of X G a38
  have bLRatioText := FLRatioText.binds (ps := ["_law_one"]) fun _ _ _ _ _ _ us hl => match us, hl with | [_], _ => rfl
  have mLRatioText := PySem.W.mg_of X G a39
  have bLTo := FLTo.binds (ps := ["_law_base", "_law_often_z"]) fun _ _ _ _ _ _ us hl => match us, hl with | [_, _], _ => rfl
  have mLTo := PySem.W.mg_of X G a40
  have bLFloorRoot := FLFloorRoot.binds (ps := ["_law_top", "_law_under"]) fun _ _ _ _ _ _ us hl => match us, hl with | [_, _], _ => rfl
  have mLFloorRoot := PySem.W.mg_of X G a41
  have bLExactRoot := FLExactRoot.binds (ps := ["_law_top", "_law_under"]) fun _ _ _ _ _ _ us hl => match us, hl with | [_, _], _ => rfl
  have mLExactRoot := PySem.W.mg_of X G a42
  have bRowInit := FRowInit.binds (ps := ["self", "coefs"]) fun _ _ _ _ _ _ us hl => match us, hl with | [_, _], _ => rfl
  have k46 := FRowCoefs.kp
  have bRowCoefs := FRowCoefs.binds (ps := ["self"]) fun _ _ _ _ _ _ us hl => match us, hl with | [_], _ => rfl
  have hRowCoefs : Meth K cR "coefs" f46 := ⟨a46, i46, k46⟩
  have k50 := FRowBool.kp
  have bRowBool := FRowBool.binds (ps := ["self"]) fun _ _ _ _ _ _ us hl => match us, hl with | [_], _ => rfl
  have hRowBool : Meth K cR "__bool__" f50 := ⟨a50, i50, k50⟩
  have bRootInit := FRootInit.binds (ps := ["self", "row", "index"]) fun _ _ _ _ _ _ us hl => match us, hl with | [_, _, _], _ => rfl
  have k53 := FRootCompare.kp
  have bRootCompare := FRootCompare.binds (ps := ["self", "other"]) fun _ _ _ _ _ _ us hl => match us, hl with | [_, _], _ => rfl
  have hRootCompare : Meth K cO "compare" f53 := ⟨a53, i53, k53⟩
  have k54 := FRootSignOf.kp
  have bRootSignOf := FRootSignOf.binds (ps := ["self", "row"]) fun _ _ _ _ _ _ us hl => match us, hl with | [_, _], _ => rfl
  have hRootSignOf : Meth K cO "sign_of" f54 := ⟨a54, i54, k54⟩
  have k55 := FRootWithin.kp
  have bRootWithin := FRootWithin.binds (ps := ["self", "width"]) fun _ _ _ _ _ _ us hl => match us, hl with | [_, _], _ => rfl
  have hRootWithin : Meth K cO "within" f55 := ⟨a55, i55, k55⟩
  have k56 := FRootRatio.kp
  have bRootRatio := FRootRatio.binds (ps := ["self"]) fun _ _ _ _ _ _ us hl => match us, hl with | [_], _ => rfl
  have hRootRatio : Meth K cO "ratio" f56 := ⟨a56, i56, k56⟩
  have k57 := FRootFloor.kp
  have bRootFloor := FRootFloor.binds (ps := ["self"]) fun _ _ _ _ _ _ us hl => match us, hl with | [_], _ => rfl
  have hRootFloor : Meth K cO "floor" f57 := ⟨a57, i57, k57⟩
  have k58 := FRootWritten.kp
  have bRootWritten := FRootWritten.binds (ps := ["self"]) fun _ _ _ _ _ _ us hl => match us, hl with | [_], _ => rfl
  have hRootWritten : Meth K cO "written" f58 := ⟨a58, i58, k58⟩
  have Z : Zn w K mg cR cO := { z_isinstance := PySem.W.mg_none_of X G z_isinstance, z_int := PySem.W.mg_none_of X G z_int, z_bool := PySem.W.mg_none_of X G z_bool, z_str := PySem.W.mg_none_of X G z_str, z_list := PySem.W.mg_none_of X G z_list, z_tuple := PySem.W.mg_none_of X G z_tuple, z_len := PySem.W.mg_none_of X G z_len, z_abs := PySem.W.mg_none_of X G z_abs, z_all := PySem.W.mg_none_of X G z_all, z_range := PySem.W.mg_none_of X G z_range, z_zip := PySem.W.mg_none_of X G z_zip, z_enumerate := PySem.W.mg_none_of X G z_enumerate, z_reversed := PySem.W.mg_none_of X G z_reversed, z_max := PySem.W.mg_none_of X G z_max, g_gcd := PySem.W.mg_of X G g_gcd, c_R := c_Row, n_R := fun f hf => by rw [List.mem_singleton.mp hf]; exact no0_Row, c_O := c_Root, n_O := fun f hf => by simp only [List.mem_cons, List.not_mem_nil, or_false] at hf; rcases hf with rfl | rfl <;> first | exact no0_Root | exact no1_Root }
  refine Exists.intro (PySem.W.fnOf "law" "law" (defArgs sLaw) (defBody sLaw) (defScope sLaw) .none kV43 dc43 pm43 an43 (.ref c) ct43) (And.intro law_binds ?_)
  intro base _ _
  have IR : InsC K cO := ⟨c_Root, ic_ha, ic_hn, ic_tk, ic_hm⟩
  have CTrimmedM := cal_mk (ok_TrimmedM (P := P) (w := w) (base := base) Z FTrimmed ) mTrimmed FTrimmed.kp bTrimmed
  have CIsInteger := cal_mk (ok_IsInteger (P := P) (w := w) (base := base) Z FIsInteger ) mIsInteger FIsInteger.kp bIsInteger
  have CTrimmed := cal_mk (ok_Trimmed (P := P) (w := w) (base := base) Z FTrimmed ) mTrimmed FTrimmed.kp bTrimmed
  have CContent := cal_mk (ok_Content (P := P) (w := w) (base := base) Z FContent ) mContent FContent.kp bContent
  have CCombined := cal_mk (ok_Combined  Z FCombined CTrimmedM) mCombined FCombined.kp bCombined
  have CLightened := cal_mk (ok_Lightened  Z FLightened CContent) mLightened FLightened.kp bLightened
  have CPrimitive := cal_mk (ok_Primitive  Z FPrimitive CContent) mPrimitive FPrimitive.kp bPrimitive
  have CRemainder := cal_mk (ok_Remainder  Z FRemainder CCombined CLightened) mRemainder FRemainder.kp bRemainder
  have CCommonList := cal_mk (ok_CommonList  Z FCommonList CRemainder CPrimitive) mCommonList FCommonList.kp bCommonList
  have CExactList := cal_mk (ok_ExactList  Z FExactList CCombined) mExactList FExactList.kp bExactList
  have CDerived := cal_mk (ok_Derived (P := P) (w := w) (base := base) Z FDerived ) mDerived FDerived.kp bDerived
  have CFreeList := cal_mk (ok_FreeList  Z FFreeList CPrimitive CExactList CCommonList CDerived) mFreeList FFreeList.kp bFreeList
  have CValueOver := cal_mk (ok_ValueOver (P := P) (w := w) (base := base) Z FValueOver ) mValueOver FValueOver.kp bValueOver
  have CSign := cal_mk (ok_Sign (P := P) (w := w) (base := base) Z FSign ) mSign FSign.kp bSign
  have CChainOf := cal_mk (ok_ChainOf  Z FChainOf CDerived CRemainder CCombined) mChainOf FChainOf.kp bChainOf
  have CChanges := cal_mk (ok_Changes (P := P) (w := w) (base := base) Z FChanges ) mChanges FChanges.kp bChanges
  have CChangesAt := cal_mk (ok_ChangesAt  Z FChangesAt CValueOver CSign CChanges) mChangesAt FChangesAt.kp bChangesAt
  have CChangesFar := cal_mk (ok_ChangesFar  Z FChangesFar CSign CChanges) mChangesFar FChangesFar.kp bChangesFar
  have CCountBetween := cal_mk (ok_CountBetween  Z FCountBetween CFreeList CChainOf CChangesAt CChangesFar) mCountBetween FCountBetween.kp bCountBetween
  have CLowest := cal_mk (ok_Lowest (P := P) (w := w) (base := base) Z FLowest ) mLowest FLowest.kp bLowest
  have CMinus := cal_mk (ok_Minus  Z FMinus CLowest) mMinus FMinus.kp bMinus
  have CMiddle := cal_mk (ok_Middle  Z FMiddle CLowest) mMiddle FMiddle.kp bMiddle
  have CIsLess := cal_mk (ok_IsLess (P := P) (w := w) (base := base) Z FIsLess ) mIsLess FIsLess.kp bIsLess
  have CFarBound := cal_mk (ok_FarBound (P := P) (w := w) (base := base) Z FFarBound ) mFarBound FFarBound.kp bFarBound
  have CHalved := cal_mk (ok_Halved  Z FHalved CMiddle CCountBetween) mHalved FHalved.kp bHalved
  have CIsolated := cal_mk (ok_Isolated  Z FIsolated CFarBound CMiddle CCountBetween) mIsolated FIsolated.kp bIsolated
  have CCompareRatio := cal_mk (ok_CompareRatio  Z FCompareRatio CIsLess CValueOver CCountBetween) mCompareRatio FCompareRatio.kp bCompareRatio
  have CCompareRoots := cal_mk (ok_CompareRoots  Z FCompareRoots CCommonList CIsLess CHalved CCountBetween) mCompareRoots FCompareRoots.kp bCompareRoots
  have CRatioText := cal_mk (ok_RatioText (P := P) (w := w) (base := base) Z FRatioText ) mRatioText FRatioText.kp bRatioText
  have MRowCoefs := mcal_mk (ok_RowCoefs (P := P) (w := w) (base := base) Z FRowCoefs ) c_Row hRowCoefs bRowCoefs
  have MRowBool := mcal_mk (ok_RowBool (P := P) (w := w) (base := base) Z FRowBool ) c_Row hRowBool bRowBool
  have K_Row : KCal P w K mg base 2 "Row" cR ["self", "coefs"] [] (rinitS cR) := ⟨⟨f44, _, [], [], ok_RowInit  Z FRowInit CIsInteger CTrimmed, Mk_Row, n_Row, bRowInit, .nil, fun _ _ => .nil⟩⟩
  have K_Root : KCal P w K mg base 8 "Root" cO ["self", "row", "index"] [] (rootS cR cO) := ⟨⟨f52, _, [], [], ok_RootInit  Z FRootInit CIsInteger CFreeList CCountBetween CIsolated MRowBool MRowCoefs, Mk_Root, n_Root, bRootInit, .nil, fun _ _ => .nil⟩⟩
  have MRootWithin := mcal_mk (ok_RootWithin  Z FRootWithin CIsLess CMinus CHalved) c_Root hRootWithin bRootWithin
  have MRootCompare := mcal_mk (fn_or (ok_RootCompareV  Z FRootCompare CCompareRatio CCompareRoots n_Root IR kRoot kTup) (ok_RootCompare  Z FRootCompare CCompareRatio CCompareRoots n_Root IR kRoot kTup)) c_Root hRootCompare bRootCompare
  have MRootSignOf := mcal_mk (ok_RootSignOf  Z FRootSignOf CCommonList CCountBetween CHalved CSign CValueOver MRowBool MRowCoefs) c_Root hRootSignOf bRootSignOf
  have MRootRatio := mcal_mk (ok_RootRatio  Z FRootRatio CLowest MRootWithin MRootCompare) c_Root hRootRatio bRootRatio
  have MRootFloor := mcal_mk (ok_RootFloor  Z FRootFloor MRootWithin MRootCompare) c_Root hRootFloor bRootFloor
  have MRootWritten := mcal_mk (ok_RootWritten  Z FRootWritten CRatioText MRootRatio MRootFloor) c_Root hRootWritten bRootWritten
  have CLBag := cal_mk (ok_LBag (P := P) (w := w) (base := base) Z FLBag) mLBag FLBag.kp bLBag
  have CLPull := cal_mk (ok_LPull (P := P) (w := w) (base := base) Z FLPull) mLPull FLPull.kp bLPull
  have CLOf := cal_mk (ok_LOf Z FLOf CLPull) mLOf FLOf.kp bLOf
  have CLSame := cal_mk (same_all (P := P) (w := w) (base := base) Z FLSame bLSame mLSame 6) mLSame FLSame.kp bLSame
  have CLGcd := cal_mk (ok_LGcd (P := P) (w := w) (base := base) Z FLGcd) mLGcd FLGcd.kp bLGcd
  have CLLow := cal_mk (ok_LLow Z FLLow CLGcd) mLLow FLLow.kp bLLow
  have CLSub := cal_mk (ok_LSub Z FLSub CLLow) mLSub FLSub.kp bLSub
  have CLTo := cal_mk (ok_LTo (P := P) (w := w) (base := base) Z FLTo) mLTo FLTo.kp bLTo
  have CLSign := cal_mk (ok_LSign (P := P) (w := w) (base := base) Z FLSign) mLSign FLSign.kp bLSign
  have CLOrder := cal_mk (ok_LOrder Z FLOrder CLSign) mLOrder FLOrder.kp bLOrder
  have CLRatioText := cal_mk (ok_LRatioText (P := P) (w := w) (base := base) Z FLRatioText) mLRatioText FLRatioText.kp bLRatioText
  have CLFloorRoot := cal_mk (ok_LFloorRoot (P := P) (w := w) (base := base) Z FLFloorRoot) mLFloorRoot FLFloorRoot.kp bLFloorRoot
  have CLExactRoot := cal_mk (ok_LExactRoot Z FLExactRoot CLLow) mLExactRoot FLExactRoot.kp bLExactRoot
  have FLaw0 := fun_mk (st := sLaw) l43 c43 k43
  exact ok_Law Z FLaw0 CLBag CLPull CLOf CLSame CLLow CLSub CLSign CLOrder CLRatioText CLTo CLFloorRoot CLExactRoot K_Row K_Root MRootCompare MRootWithin MRootSignOf MRootRatio MRootWritten
open Hd in
theorem fin {l : PySem.W.OpenLaw} {w : World} {h : Heap} {mg : Str → Option Value} {fa : Addr} {K : PySem.W.Frag} (KX : K.In h) (G : h.Ns mainGlobals mg) (hmg : mg "law" = some (.ref fa)) (c : He.SaysX [] fnL tabL tf (DH.exAll tsts) w h K) (eg : (gA.map fun a => DH.fnWa K (a K)) = gV) : LamX.LawAtS l w K (L2.CX l.prog w) 16 63 "_law_script" mg fa h := by
  obtain ⟨fd2, FF2⟩ := DH.defF c.t.d 0 (d := d0) rfl (st := sTrimmed) rfl
  obtain ⟨fd3, FF3⟩ := DH.defF c.t.d 1 (d := d1) rfl (st := sCombined) rfl
  obtain ⟨fd4, FF4⟩ := DH.defF c.t.d 2 (d := d2) rfl (st := sContent) rfl
  obtain ⟨fd5, FF5⟩ := DH.defF c.t.d 3 (d := d3) rfl (st := sPrimitive) rfl
  obtain ⟨fd6, FF6⟩ := DH.defF c.t.d 4 (d := d4) rfl (st := sLightened) rfl
  obtain ⟨fd7, FF7⟩ := DH.defF c.t.d 5 (d := d5) rfl (st := sRemainder) rfl
  obtain ⟨fd8, FF8⟩ := DH.defF c.t.d 6 (d := d6) rfl (st := sCommonList) rfl
  obtain ⟨fd9, FF9⟩ := DH.defF c.t.d 7 (d := d7) rfl (st := sExactList) rfl
  obtain ⟨fd10, FF10⟩ := DH.defF c.t.d 8 (d := d8) rfl (st := sDerived) rfl
  obtain ⟨fd11, FF11⟩ := DH.defF c.t.d 9 (d := d9) rfl (st := sFreeList) rfl
  obtain ⟨fd12, FF12⟩ := DH.defF c.t.d 10 (d := d10) rfl (st := sValueOver) rfl
  obtain ⟨fd13, FF13⟩ := DH.defF c.t.d 11 (d := d11) rfl (st := sIsInteger) rfl
  obtain ⟨fd14, FF14⟩ := DH.defF c.t.d 12 (d := d12) rfl (st := sLowest) rfl
  obtain ⟨fd15, FF15⟩ := DH.defF c.t.d 13 (d := d13) rfl (st := sMinus) rfl
  obtain ⟨fd16, FF16⟩ := DH.defF c.t.d 14 (d := d14) rfl (st := sSign) rfl
  obtain ⟨fd17, FF17⟩ := DH.defF c.t.d 15 (d := d15) rfl (st := sIsLess) rfl
  obtain ⟨fd18, FF18⟩ := DH.defF c.t.d 16 (d := d16) rfl (st := sMiddle) rfl
  obtain ⟨fd19, FF19⟩ := DH.defF c.t.d 17 (d := d17) rfl (st := sRatioText) rfl
  obtain ⟨fd20, FF20⟩ := DH.defF c.t.d 18 (d := d18) rfl (st := sChainOf) rfl
  obtain ⟨fd21, FF21⟩ := DH.defF c.t.d 19 (d := d19) rfl (st := sChanges) rfl
  obtain ⟨fd22, FF22⟩ := DH.defF c.t.d 20 (d := d20) rfl (st := sChangesAt) rfl
  obtain ⟨fd23, FF23⟩ := DH.defF c.t.d 21 (d := d21) rfl (st := sChangesFar) rfl
  obtain ⟨fd24, FF24⟩ := DH.defF c.t.d 22 (d := d22) rfl (st := sCountBetween) rfl
  obtain ⟨fd25, FF25⟩ := DH.defF c.t.d 23 (d := d23) rfl (st := sFarBound) rfl
  obtain ⟨fd26, FF26⟩ := DH.defF c.t.d 24 (d := d24) rfl (st := sIsolated) rfl
  obtain ⟨fd27, FF27⟩ := DH.defF c.t.d 25 (d := d25) rfl (st := sHalved) rfl
  obtain ⟨fd28, FF28⟩ := DH.defF c.t.d 26 (d := d26) rfl (st := sCompareRatio) rfl
  obtain ⟨fd29, FF29⟩ := DH.defF c.t.d 27 (d := d27) rfl (st := sCompareRoots) rfl
  obtain ⟨fd30, FF30⟩ := DH.defF c.t.d 28 (d := d28) rfl (st := sLBag) rfl
  obtain ⟨fd31, FF31⟩ := DH.defF c.t.d 29 (d := d29) rfl (st := sLPull) rfl
  obtain ⟨fd32, FF32⟩ := DH.defF c.t.d 30 (d := d30) rfl (st := sLOf) rfl
  obtain ⟨fd33, FF33⟩ := DH.defF c.t.d 31 (d := d31) rfl (st := sLSame) rfl
  obtain ⟨fd34, FF34⟩ := DH.defF c.t.d 32 (d := d32) rfl (st := sLGcd) rfl
  obtain ⟨fd35, FF35⟩ := DH.defF c.t.d 33 (d := d33) rfl (st := sLLow) rfl
  obtain ⟨fd36, FF36⟩ := DH.defF c.t.d 34 (d := d34) rfl (st := sLSub) rfl
  obtain ⟨fd37, FF37⟩ := DH.defF c.t.d 35 (d := d35) rfl (st := sLSign) rfl
  obtain ⟨fd38, FF38⟩ := DH.defF c.t.d 36 (d := d36) rfl (st := sLOrder) rfl
  obtain ⟨fd39, FF39⟩ := DH.defF c.t.d 37 (d := d37) rfl (st := sLRatioText) rfl
  obtain ⟨fd40, FF40⟩ := DH.defF c.t.d 38 (d := d38) rfl (st := sLTo) rfl
  obtain ⟨fd41, FF41⟩ := DH.defF c.t.d 39 (d := d39) rfl (st := sLFloorRoot) rfl
  obtain ⟨fd42, FF42⟩ := DH.defF c.t.d 40 (d := d40) rfl (st := sLExactRoot) rfl
  obtain ⟨oc43, od43, sl43, kV43, dc43, pm43, an43, cd43, ct43, l43, c43, k43⟩ := DH.defN c.t.d 41 (d := d41) rfl rfl
  obtain ⟨cl, hcl⟩ := He.codeIn_ref c43
  subst hcl
  have ec : He.codeOf K ("law", none) = cl := He.codeOf_eq l43 rfl
  obtain ⟨fd44, FF44⟩ := DH.defF c.t.d 42 (d := d42) rfl (st := sRowInit) rfl
  obtain ⟨fd46, FF46⟩ := DH.defF c.t.d 43 (d := d43) rfl (st := sRowCoefs) rfl
  obtain ⟨fd50, FF50⟩ := DH.defF c.t.d 44 (d := d44) rfl (st := sRowBool) rfl
  obtain ⟨fd52, FF52⟩ := DH.defF c.t.d 45 (d := d45) rfl (st := sRootInit) rfl
  obtain ⟨fd53, FF53⟩ := DH.defF c.t.d 46 (d := d46) rfl (st := sRootCompare) rfl
  obtain ⟨fd54, FF54⟩ := DH.defF c.t.d 47 (d := d47) rfl (st := sRootSignOf) rfl
  obtain ⟨fd55, FF55⟩ := DH.defF c.t.d 48 (d := d48) rfl (st := sRootWithin) rfl
  obtain ⟨fd56, FF56⟩ := DH.defF c.t.d 49 (d := d49) rfl (st := sRootRatio) rfl
  obtain ⟨fd57, FF57⟩ := DH.defF c.t.d 50 (d := d50) rfl (st := sRootFloor) rfl
  obtain ⟨fd58, FF58⟩ := DH.defF c.t.d 51 (d := d51) rfl (st := sRootWritten) rfl
  obtain ⟨ocG0, odG0, slG0, kVG0, dcG0, pmG0, anG0, cdG0, ctG0, lG0, cG0⟩ := DH.fnWa_ok (DH.eg_at eg 0 rfl rfl) (DH.ex_at c.more 101 (f := t101) rfl)
  exact DH.law0 (lawS := T15.lawS) (all_mk KX G hmg
    (DH.tq c.more 0 rfl rfl)
    (DH.tq c.more 1 rfl rfl)
    (DH.tq c.more 2 rfl rfl)
    (FF2)
    (DH.tq c.more 3 rfl rfl)
    (FF3)
    (DH.tq c.more 4 rfl rfl)
    (FF4)
    (DH.tq c.more 5 rfl rfl)
    (FF5)
    (DH.tq c.more 6 rfl rfl)
    (FF6)
    (DH.tq c.more 7 rfl rfl)
    (FF7)
    (DH.tq c.more 8 rfl rfl)
    (FF8)
    (DH.tq c.more 9 rfl rfl)
    (FF9)
    (DH.tq c.more 10 rfl rfl)
    (FF10)
    (DH.tq c.more 11 rfl rfl)
    (FF11)
    (DH.tq c.more 12 rfl rfl)
    (FF12)
    (DH.tq c.more 13 rfl rfl)
    (FF13)
    (DH.tq c.more 14 rfl rfl)
    (FF14)
    (DH.tq c.more 15 rfl rfl)
    (FF15)
    (DH.tq c.more 16 rfl rfl)
    (FF16)
    (DH.tq c.more 17 rfl rfl)
    (FF17)
    (DH.tq c.more 18 rfl rfl)
    (FF18)
    (DH.tq c.more 19 rfl rfl)
    (FF19)
    (DH.tq c.more 20 rfl rfl)
    (FF20)
    (DH.tq c.more 21 rfl rfl)
    (FF21)
    (DH.tq c.more 22 rfl rfl)
    (FF22)
    (DH.tq c.more 23 rfl rfl)
    (FF23)
    (DH.tq c.more 24 rfl rfl)
    (FF24)
    (DH.tq c.more 25 rfl rfl)
    (FF25)
    (DH.tq c.more 26 rfl rfl)
    (FF26)
    (DH.tq c.more 27 rfl rfl)
    (FF27)
    (DH.tq c.more 28 rfl rfl)
    (FF28)
    (DH.tq c.more 29 rfl rfl)
    (FF29)
    (DH.tq c.more 30 rfl rfl)
    (FF30)
    (DH.tq c.more 31 rfl rfl)
    (FF31)
    (DH.tq c.more 32 rfl rfl)
    (FF32)
    (DH.tq c.more 33 rfl rfl)
    (FF33)
    (DH.tq c.more 34 rfl rfl)
    (FF34)
    (DH.tq c.more 35 rfl rfl)
    (FF35)
    (DH.tq c.more 36 rfl rfl)
    (FF36)
    (DH.tq c.more 37 rfl rfl)
    (FF37)
    (DH.tq c.more 38 rfl rfl)
    (FF38)
    (DH.tq c.more 39 rfl rfl)
    (FF39)
    (DH.tq c.more 40 rfl rfl)
    (FF40)
    (DH.tq c.more 41 rfl rfl)
    (FF41)
    (DH.tq c.more 42 rfl rfl)
    (FF42)
    (DH.tq c.more 43 rfl rfl)
    (l43)
    (c43)
    (k43)
    (DH.tq c.more 44 rfl rfl)
    (DH.tq c.more 45 rfl rfl)
    (FF44)
    (DH.tq c.more 46 rfl rfl)
    (DH.tq c.more 47 rfl rfl)
    (FF46)
    (DH.tq c.more 48 rfl rfl)
    (DH.tq c.more 49 rfl rfl)
    (FF50)
    (DH.tq c.more 50 rfl rfl)
    (DH.tq c.more 51 rfl rfl)
    (FF52)
    (DH.tq c.more 52 rfl rfl)
    (DH.tq c.more 53 rfl rfl)
    (FF53)
    (DH.tq c.more 54 rfl rfl)
    (DH.tq c.more 55 rfl rfl)
    (FF54)
    (DH.tq c.more 56 rfl rfl)
    (DH.tq c.more 57 rfl rfl)
    (FF55)
    (DH.tq c.more 58 rfl rfl)
    (DH.tq c.more 59 rfl rfl)
    (FF56)
    (DH.tq c.more 60 rfl rfl)
    (DH.tq c.more 61 rfl rfl)
    (FF57)
    (DH.tq c.more 62 rfl rfl)
    (DH.tq c.more 63 rfl rfl)
    (FF58)
    (DH.tq c.more 64 rfl rfl)
    (DH.tq c.more 65 rfl rfl)
    (DH.tq c.more 66 rfl rfl)
    (DH.tq c.more 67 rfl rfl)
    (DH.tq c.more 68 rfl rfl)
    (DH.tq c.more 69 rfl rfl)
    (DH.tq c.more 70 rfl rfl)
    (DH.tq c.more 71 rfl rfl)
    (DH.tq c.more 72 rfl rfl)
    (DH.tq c.more 73 rfl rfl)
    (DH.tq c.more 74 rfl rfl)
    (DH.tq c.more 75 rfl rfl)
    (DH.tq c.more 76 rfl rfl)
    (DH.tq c.more 77 rfl rfl)
    (DH.tq c.more 78 rfl rfl)
    (DH.tq c.more 79 rfl rfl)
    (DH.tq c.more 80 rfl rfl)
    (DH.tq c.more 81 rfl rfl)
    (DH.tq c.more 82 rfl rfl)
    (DH.tq c.more 83 rfl rfl)
    (DH.tq c.more 84 rfl rfl)
    (DH.tq c.more 85 rfl rfl)
    (DH.tq c.more 86 rfl rfl)
    (DH.tq c.more 87 rfl rfl)
    (DH.tq c.more 88 rfl rfl)
    (DH.tq c.more 89 rfl rfl)
    (DH.tq c.more 90 rfl rfl)
    (DH.tq c.more 91 rfl rfl)
    (DH.tq c.more 92 rfl rfl)
    (DH.tq c.more 93 rfl rfl)
    (DH.tq c.more 94 rfl rfl)
    (DH.tq c.more 95 rfl rfl)
    (DH.tq c.more 96 rfl rfl)
    (DH.tq c.more 97 rfl rfl)
    (DH.tq c.more 98 rfl rfl)
    (DH.tq c.more 99 rfl rfl)
    (DH.proB_ok (DH.ex_at c.more 100 (f := t100) rfl))
    (lG0)
    (cG0)
    (of_decide_eq_true (DH.ex_at c.more 102 (f := t102) rfl))) (fun ns => ⟨ns, rfl, rfl, fun _ => rfl⟩)
end T15
open PySem PySem.W PySem.Calls PyProof.Rows
set_option maxHeartbeats 0 in
theorem PySem.Challenge.cw_nearspokes_k15_square_roots_holds : PySem.Challenge.rw_nearspokes_k15_square_roots.Holds := by
  refine T15.Hd.well fun said => ?_
  w_on
  refine DS.head_seg (r := OpenLaw.row PySem.Challenge.rw_nearspokes_k15_square_roots) (q := (PySem.W.view (OpenLaw.row PySem.Challenge.rw_nearspokes_k15_square_roots).prog [0, 55])) (H := T15.Hd.hk) (ob := T15.Hd.ob) (N := 40000) (loose := T15.Hd.nms) (d := HandSHeadRun.topDef (OpenLaw.row PySem.Challenge.rw_nearspokes_k15_square_roots).prog 55) (kwd := []) T15.Hd.ob_eq
    T15.Hd.run T15.Hd.df1 T15.Hd.df2 (by kernel_rfl) (by rfl) said (Bool.and_eq_true_iff.mpr ⟨Bool.and_eq_true_iff.mpr ⟨T15.Hd.okA, T15.Hd.okB⟩, T15.Hd.okC⟩) T15.Hd.hb ?hw ?hc
  case hw => w_witness2
  case hc =>
    refine LamX.walk_ofTsE (l := PySem.Challenge.rw_nearspokes_k15_square_roots) (n := 63) (k := 16) (x := "_law_script") (CX := fun w => L2.CX PySem.Challenge.rw_nearspokes_k15_square_roots.prog w) rfl (by decide) (by kernel_rfl) ⟨rfl, by decide, by decide⟩ ?F (fun _ _ _ _ _ z => by obtain ⟨_, _, _, _, _, _, _, _, _, _, _, _, z⟩ := z; exact z)
    intro w mg fa h Y G hmg0
    obtain ⟨K, KX, c, eg⟩ := Y
    have hmg : mg ("law" : PySem.Str) = some (.ref fa) := by
      have e : (HandSHeadRun.topDef (OpenLaw.row PySem.Challenge.rw_nearspokes_k15_square_roots).prog 55).name = ("law" : PySem.Str) := by kernel_rfl
      rw [← e]
      exact hmg0
    exact ⟨K, KX, T15.fin KX G hmg c eg⟩
