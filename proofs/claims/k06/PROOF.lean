import PyProof.Rows.All
import Wide.All
import OpenK.AllK
import Wide.FinOn
import HandS.ForMost
import HandS.ExcInit
import HandS.Head0
import HandS.Head1
import HandS.Head2
import HandS.Head3
import HandS.HeadHook1
import HandS.HeadHook2
import HandS.HeadHook3
import HandS.HeadHook4
import HandS.HeadWalk
import PySem.Challenge.RW_nearspokes_k06_whole_polys_reckoned
import HandS.Exc
import HandS.TryOnly
import HandS.ExcOwn
import HandS.WordsExc
import HandS.CallSlots
import HandS.TryMany
import HandS.EndBits
import HandS.Wide
import HandS.Gcd
import HandS.Zip
import HandS.IsInst
import HandS.Defaults
import HandS.Flow
import HandS.FStr
import HandS.TupAny
import HandS.ExcIs
import HandS.ExcField
import HandS.Lambda
import HandS.Nested
import KE.KDflt
import HandS.HotCalls
import HandS.TupMul
import HandS.More
import HandS.Style
import HandS.New0
import HandS.EndTab
import HandS.Dict
import PyProof.TupleOfStr
import HandS.Iter
import HandS.Conv
import HandS.Finally
import HandS.Property
import HandS.ClsMeth
import HandS.Star
import HandS.DictComp
import KE.KExcInit
import HandS.ExcValue
import HandS.CallLocal
import KE.GoesMore
import HandS.Deep
import HandS.OwnEq
import HandS.RaiseMore
import HandS.StrMore
import KE.KxField
import HandS.ExcCtx
import HandS.SuiteRaise
import HandS.RaiseFrom
import HandS.ExcInitHot
import HandS.DictTup
import HandS.SortRule
import HandS.Rev
import HandS.ListItems
import KE.KDictCopyH
import HandS.TupLen
import HandS.DictEq
import HandS.Small
import PyProof.Rows.Range3
import HandS.SortKw
import HandS.Strs
import KE.DatumOrd
import KE.KOpsOwn
import PyProof.Rows.TupDisplay
set_option Elab.async false
set_option linter.all false
set_option maxRecDepth 100000
set_option maxHeartbeats 4000000
namespace DL
open PySem L2
def sAt (i : Nat) (l : List Stmt) : Stmt := l.getD i (.Pass ⟨0, 0, 0, 0⟩)
def sBody : Stmt → List Stmt
  | .For _ _ b _ _ => b
  | .If _ b _ _ => b
  | .While _ b _ _ => b
  | .ClassDef _ _ _ b _ _ _ _ _ _ _ => b
  | _ => []
end DL
namespace DH
open PySem PySem.Spec PyProof.Rows L2
abbrev Frag := PySem.W.Frag
def exAll (l : List (Frag → Bool)) (K : Frag) : Bool := l.all fun f => f K
theorem ex_at {l : List (Frag → Bool)} {K : Frag} (h : exAll l K = true) (i : Nat) {f : Frag → Bool} (e : l[i]? = some f) : f K = true := List.all_eq_true.mp h f (List.mem_of_getElem? e)
def obsL (as : List Addr) (fn : List He.DefD) (ts : List He.Tab) (tf : List He.Defn) (ex : Frag → Bool) (g : Addr → Option Obj) : He.AlX := (He.obsT [] fn ts (He.frT g as), ex (He.frT g as) && He.tabsB g tf (He.frT g as))
theorem saysL {as : List Addr} {fn : List He.DefD} {ts : List He.Tab} {tf : List He.Defn} {ex : Frag → Bool} {w : World} {h : Heap} (e : obsL as fn ts tf ex h.get? = He.valX fn ts w) : He.SaysX [] fn ts tf ex w h (He.frT h.get? as) := by
  have e1 : He.obsT [] fn ts (He.frT h.get? as) = He.valT fn ts w := congrArg (fun z : He.AlX => z.1) e
  have e2 : (ex (He.frT h.get? as) && He.tabsB h.get? tf (He.frT h.get? as)) = true := congrArg (fun z : He.AlX => z.2) e
  obtain ⟨e3, e4⟩ := He.ba e2
  have key : ∀ p ∈ tf, PySem.W.codeHdIn (He.frT h.get? as) (He.cT (He.frT h.get? as) p).1 (He.cT (He.frT h.get? as) p).2 = true ∧ ∃ o, h.get? (He.cT (He.frT h.get? as) p).2 = some o ∧ He.emptyTab o = true := fun p hp => by
    obtain ⟨k1, k2⟩ := He.ba (List.all_eq_true.mp e4 p hp)
    refine ⟨k1, ?_⟩
    split at k2
    · rename_i o ho
      exact ⟨o, ho, k2⟩
    · cases k2
  refine ⟨e1, e3, fun p hp => (key p hp).1, fun p hp => ?_, fun p hp => ?_⟩
  · obtain ⟨_, o, ho, he⟩ := key p hp
    exact He.frT_none ho he
  · obtain ⟨_, o, ho, he⟩ := key p hp
    rw [ho, He.emptyTab_eq he]
end DH
namespace DH
open PySem PySem.W PySem.TablesWhole
theorem whole_of {p : Program} (h1 : p.modules = []) (h2 : p.parses = []) (h3 : p.harvested = []) (h4 : noTwice p.main.scope = true) (h5 : wSs gather p.main.scope ⟨p.main.scope, [], [], [], none⟩ p.main.scope p.main.body = [])
    (h6 : wSs holds p.main.scope ⟨p.main.scope, [], [], [], none⟩ p.main.scope p.main.body = true) : p.tablesWhole = true := by
  have e : wModule holds p.main = true := by
    unfold wModule
    rw [h5]
    show (true && (noTwice p.main.scope && (wSs holds p.main.scope ⟨p.main.scope, [], [], [], none⟩ p.main.scope p.main.body && true))) = true
    rw [h4, h6]
    rfl
  unfold Program.tablesWhole wProgram
  rw [h1, h2, h3, e]
  rfl
theorem looks_of {p : Program} {st : Bool} {bare : List Str} (h1 : sreFenced p.main = true) (h2 : ((moduleNames p.main.body).isEmpty || lookedIntoSs (moduleNames p.main.body) p.main.body) = true) (h3 : namesResolve p = true) (h4 : (p.boundNames.all fun n => !worldNames.contains n) = true)
    (h5 : (!(importedModules p.main.body).all cThrough.contains) = st) (h6 : (["vars", "dir", "locals"] : List Str).filter (readsOut p p.main.body) = bare) (h7 : noRoadLSs { strict := st, foot := none, bare := bare } p.main.body = true) (h8 : (namesMeet p p.main.body fun _ n => attrL n) = true) : looksOpen p = true := by
  unfold looksOpen
  rw [h1, h2, h3, h4, h5, h6, h7, h8]
  rfl
theorem out3 {f : Str → Bool} (h1 : f "vars" = false) (h2 : f "dir" = false) (h3 : f "locals" = false) : (["vars", "dir", "locals"] : List Str).filter f = [] := by
  rw [List.filter_cons_of_neg (by rw [h1]; exact Bool.false_ne_true), List.filter_cons_of_neg (by rw [h2]; exact Bool.false_ne_true), List.filter_cons_of_neg (by rw [h3]; exact Bool.false_ne_true)]
  rfl
end DH
noncomputable section
namespace DS
open PySem PySem.W PySem.Calls PyProof.Rows HandSHeadRun
section
variable (st : SharedT → Thread → Option (SharedT × Thread)) (n0 : Nat) (ann : Option Value)
/-- a statement's or block's run -/
def segF : Nat → SharedT → Thread → Option (Flow × SharedT × Code × Pos)
  | 0, _, _ => none
  | m + 1, s, t => match endAt 1 t with
    | some f => some (f, s, t.code, t.pos)
    | none => match stepOk n0 ann t with
      | false => none
      | true => match st s t with
        | some (s', t') => frS s' fun s' => segF m s' t'
        | none => none
/-- so many steps of the top -/
def goK : Nat → SharedT → Thread → Option (SharedT × Thread)
  | 0, s, t => some (s, t)
  | m + 1, s, t => match through t with
    | true => none
    | false => match stepOk n0 ann t with
      | false => none
      | true => match st s t with
        | some (s', t') => frS s' fun s' => goK m s' t'
        | none => none
end
theorem segF_ok {tb : String → Option Builtin} {p : Program} {w : World} {n0 : Nat} {ann : Option Value} : ∀ {m : Nat} {s s' : SharedT} {t : Thread} {f : Flow} {c : Code} {q : Pos}, segF (stepT (denote tb) p w) n0 ann m s t = some (f, s', c, q) → segRun tb p w n0 ann 1 m s.abs t = some (f, s'.abs, c, q)
  | 0, _, _, _, _, _, _, h => by cases h
  | m + 1, s, s', t, f, c, q, h => by
    unfold segF at h
    unfold segRun
    cases he : endAt 1 t with
    | some f' =>
      rw [he] at h
      cases h
      rfl
    | none =>
      rw [he] at h
      cases hk : stepOk n0 ann t with
      | false => rw [hk] at h; cases h
      | true =>
        rw [hk] at h
        have h2 : (match stepT (denote tb) p w s t with
          | some (s', t') => frS s' fun s' => segF (stepT (denote tb) p w) n0 ann m s' t'
          | none => none) = some (f, s', c, q) := h
        cases hs : stepT (denote tb) p w s t with
        | none => rw [hs] at h2; cases h2
        | some r =>
          obtain ⟨s2, t2⟩ := r
          rw [hs] at h2
          have h3 : (frS s2 fun s' => segF (stepT (denote tb) p w) n0 ann m s' t2) = some (f, s', c, q) := h2
          rw [frS_eq] at h3
          have z := segF_ok h3
          show (match step (denote tb) p w s.abs t with
            | .go s' t' => segRun tb p w n0 ann 1 m s' t'
            | .halt _ _ => none) = _
          rw [stepT_spec hs]
          exact z
theorem goK_ok {tb : String → Option Builtin} {p : Program} {w : World} {n0 : Nat} {ann : Option Value} : ∀ {m : Nat} {s s' : SharedT} {t t' : Thread}, goK (stepT (denote tb) p w) n0 ann m s t = some (s', t') → topGo tb p w n0 ann m s.abs t = some (s'.abs, t')
  | 0, _, _, _, _, h => by cases h; rfl
  | m + 1, s, s', t, t', h => by
    unfold goK at h
    unfold topGo
    cases ht : through t with
    | true => rw [ht] at h; cases h
    | false =>
      rw [ht] at h
      cases hk : stepOk n0 ann t with
      | false => rw [hk] at h; cases h
      | true =>
        rw [hk] at h
        have h2 : (match stepT (denote tb) p w s t with
          | some (s', t') => frS s' fun s' => goK (stepT (denote tb) p w) n0 ann m s' t'
          | none => none) = some (s', t') := h
        cases hs : stepT (denote tb) p w s t with
        | none => rw [hs] at h2; cases h2
        | some r =>
          obtain ⟨s2, t2⟩ := r
          rw [hs] at h2
          have h3 : (frS s2 fun s' => goK (stepT (denote tb) p w) n0 ann m s' t2) = some (s', t') := h2
          rw [frS_eq] at h3
          have z := goK_ok h3
          show (match step (denote tb) p w s.abs t with
            | .go s' t' => topGo tb p w n0 ann m s' t'
            | .halt _ _ => none) = _
          rw [stepT_spec hs]
          exact z
/-- the imports, the fences -/
def openF (st : Program → SharedT → Thread → Option (SharedT × Thread)) (fence : Program → Shared → Option Shared) (M : Nat) (p : Program) : Option (SharedT × Option Value) := match impF (st (opening p)) M (startT (opening p)) (start (opening p)).2 with
  | some s => (match fence p s.abs with
    | some s0 => (match s0.heap.isNs mainGlobals && s0.gens.size == 0 with
      | true => (match treeOf s0 with
        | some x => some (x, s0.heap.nsMap mainGlobals "__annotations__")
        | none => none)
      | false => none)
    | none => none)
  | none => none
theorem openF_ok {M : Nat} {p : Program} {w : World} {x : SharedT} {ann : Option Value} (h : openF (fun q => stepT (denote treeTable) q w) fenceModules? M p = some (x, ann)) :
    fencedOpening treeTable p w M = some x.abs ∧ (x.abs.heap.isNs mainGlobals && x.abs.gens.size == 0) = true ∧ x.abs.heap.objs.size = x.n ∧ x.abs.heap.nsMap mainGlobals "__annotations__" = ann := by
  unfold openF at h
  cases e1 : impF (stepT (denote treeTable) (opening p) w) M (startT (opening p)) (start (opening p)).2 with
  | none => rw [e1] at h; cases h
  | some s =>
    rw [e1] at h
    dsimp only at h
    have a1 := impF_ok e1
    rw [startT_eq] at a1
    cases e2 : fenceModules? p s.abs with
    | none => rw [e2] at h; cases h
    | some z =>
      rw [e2] at h
      dsimp only at h
      cases e3 : z.heap.isNs mainGlobals && z.gens.size == 0 with
      | false => rw [e3] at h; cases h
      | true =>
        rw [e3] at h
        dsimp only at h
        cases e4 : treeOf z with
        | none => rw [e4] at h; cases h
        | some y =>
          rw [e4] at h
          cases h
          obtain ⟨ex, en⟩ := treeOf_eq e4
          rw [ex]
          refine ⟨?_, e3, en, rfl⟩
          unfold fencedOpening
          rw [a1]
          exact e2
/-- the twins -/
def execsQ : List Stmt → Env → Sem Flow := PySem.W.Fast.tw12563942051412417395
theorem execsQ_eq : @PySem.execs = execsQ := PySem.W.Fast.te12563942051412417395
def blockQ : List Stmt → Env → Sem Unit := PySem.W.Fast.tw1066825118222455980
theorem blockQ_eq : @PySem.blockStart = blockQ := PySem.W.Fast.te1066825118222455980
abbrev piecesQ (l : List Stmt) (env : Env) (c : Code) (p : Pos) (B : List Frame) : Thread := ⟨(execsQ l env).wrap doneF deadEnd id id, c, p, B⟩
abbrev blockOfQ (b : List Stmt) (env : Env) (c : Code) (p : Pos) (B : List Frame) : Thread := ⟨(blockQ b env).wrap (fun _ => doneF .next) deadEnd id id, c, p, B⟩
theorem seg_of {p : Program} {w : World} {n0 : Nat} {ann : Option Value} {m : Nat} {s s' : SharedT} {l : List Stmt} {env : Env} {c c' : Code} {q q' : Pos} {B : List Frame} {f : Flow} (h : segF (stepQ (denQ tabQ) p w) n0 ann m s (piecesQ l env c q B) = some (f, s', c', q')) :
    segRun treeTable p w n0 ann 1 m s.abs (piecesOf l env c q B) = some (f, s'.abs, c', q') := by
  apply segF_ok
  rw [stepQ_eq, denQ_eq, tabQ_eq]
  unfold piecesOf
  rw [execsQ_eq]
  exact h
theorem blk_of {p : Program} {w : World} {n0 : Nat} {ann : Option Value} {m : Nat} {s s' : SharedT} {l : List Stmt} {env : Env} {c c' : Code} {q q' : Pos} {B : List Frame} {f : Flow} (h : segF (stepQ (denQ tabQ) p w) n0 ann m s (blockOfQ l env c q B) = some (f, s', c', q')) :
    segRun treeTable p w n0 ann 1 m s.abs (blockOf l env c q B) = some (f, s'.abs, c', q') := by
  apply segF_ok
  rw [stepQ_eq, denQ_eq, tabQ_eq]
  unfold blockOf
  rw [blockQ_eq]
  exact h
theorem pre_of {p : Program} {w : World} {n0 : Nat} {ann : Option Value} {m : Nat} {s s' : SharedT} {t : Thread} {c c' : Code} {q : Pos} {B : List Frame} (h : goK (stepQ (denQ tabQ) p w) n0 ann m s t = some (s', ⟨denQ tabQ c, c', q, B⟩)) :
    topGo treeTable p w n0 ann m s.abs t = some (s'.abs, ⟨denote treeTable c, c', q, B⟩) := by
  apply goK_ok
  rw [stepQ_eq, denQ_eq, tabQ_eq]
  exact h
theorem fin_of {p : Program} {w : World} {n0 : Nat} {ann : Option Value} {m : Nat} {s s' : SharedT} {t : Thread} (h : goF (stepQ (denQ tabQ) p w) n0 ann m s t = some s') :
    topRun treeTable p w n0 ann m s.abs t = some s'.abs := by
  apply goF_ok
  rw [stepQ_eq, denQ_eq, tabQ_eq]
  exact h
theorem opn_of {p : Program} {w : World} {M : Nat} {x : SharedT} {ann : Option Value} (h : openF (fun q => stepQ (denQ tabQ) q w) fenceQ M p = some (x, ann)) :
    openF (fun q => stepT (denote treeTable) q w) fenceModules? M p = some (x, ann) := by
  rw [stepQ_eq, denQ_eq, tabQ_eq, fenceQ_eq]
  exact h
/-- the run at a world: the state ahead of the top, the state behind it, what is asked of them -/
def Run (r : OpenRow) (q : Program) (H : Hook) (ob : SharedT → H.α) (N : Nat) (loose : List PySem.Str) (w : World) : Prop :=
  ∃ (x s1 : SharedT), fencedOpening treeTable r.prog w N = some x.abs ∧ (x.abs.heap.isNs mainGlobals && x.abs.gens.size == 0) = true ∧
    topRun treeTable r.prog w x.abs.heap.objs.size (x.abs.heap.nsMap mainGlobals "__annotations__") N x.abs (topStub r.prog) = some s1.abs ∧
    (looksF r.prog x.abs.heap s1.abs, seenQ q loose (importedModules r.prog.main.body) (fun s => xlAt q [] s && recOk r.toRowW.records s) s1.abs, ob s1) = (true, openGood q loose, H.val w)
theorem left_seg {r : OpenRow} {q : Program} {H : Hook} {ob : SharedT → H.α} {N : Nat} {loose : List PySem.Str} (ho : ∀ s : SharedT, ob s = H.obs s.abs) (run : ∀ w, Run r q H ob N loose w) :
    LeftO r.prog q loose (fun s => xlAt q [] s && recOk r.toRowW.records s) H.obs H.val N true := fun w => by
  obtain ⟨x, s1, a, b, c, d⟩ := run w
  obtain ⟨l1, l23⟩ := Prod.mk.inj d
  obtain ⟨l2, l3⟩ := Prod.mk.inj l23
  have l1' : (staticsOk (importedModules r.prog.main.body) x.abs.heap s1.abs.heap && namesBound r.prog s1.abs.heap && gensDone s1.abs && laidKept x.abs.heap s1.abs.heap) = true := l1
  have t : topFrom treeTable r.prog w N x.abs = some s1.abs := by
    unfold topFrom
    rw [b]
    show (topRun treeTable r.prog w x.abs.heap.objs.size (x.abs.heap.nsMap mainGlobals "__annotations__") N x.abs (topStub r.prog)).bind _ = _
    rw [c]
    show (match staticsOk (importedModules r.prog.main.body) x.abs.heap s1.abs.heap && namesBound r.prog s1.abs.heap && gensDone s1.abs && laidKept x.abs.heap s1.abs.heap with | true => some s1.abs | false => none) = _
    rw [l1']
  unfold openEnds
  rw [a]
  show (topFrom treeTable r.prog w N x.abs).map _ = _
  rw [t]
  rw [ho] at l3
  rw [← seenQ_eq] at l2
  exact congrArg some (Prod.ext l2 l3)
theorem head_seg {r : OpenRow} {q : Program} {H : Hook} {ob : SharedT → H.α} {N : Nat} {loose : List PySem.Str} {d : DefRec} {kwd : List (PySem.Str × PySem.Expr)} (ho : ∀ s : SharedT, ob s = H.obs s.abs) (run : ∀ w, Run r q H ob N loose w)
    (hdef : defOf q r.name = some (d, kwd)) (hp : r.prog.theDef r.name = some (d.params, d.body, d.scope)) (hk : kwWritten? d.params.kwonlyargs d.params.kw_defaults = some kwd)
    (hwr : (!r.writes || r.records.isEmpty) = true) (k1 : r.wellSaid = true) (ok : (chainsOk q && opensWell r.prog && (frees r.toRowW && r.within.isEmpty)) = true) (hb : r.prog.bare) (hw : r.toRowW.promised)
    (call : WalkO q loose (XL q []) H.says r.toRowW d kwd fun f vs => PySem.call f vs) : r.Holds :=
  holds_open (r := r) (q := q) (loose := loose) (XP := XL q []) (YP := H.says) (d := d) (kwd := kwd) (left_seg ho run) H.of H.keeps (fun s z => xl_of s (Bool.and_eq_true_iff.mp z).1) XL.keeps hdef hp hk (fun s z => recFacts_of (Bool.and_eq_true_iff.mp z).2) hwr k1 ok hb hw call
def oTup (l : List Value) (n : Nat := 0) : Obj := ⟨.type "tuple", none, .seq l.toArray n, #[]⟩
def oDict (es : List DictEntry) (n : Nat) : Obj := ⟨.type "dict", none, .dict es.toArray n, #[]⟩
def oFld (l : List Value) : Obj := ⟨.none, none, .fields l.toArray, #[]⟩
def oFldT (t : String) (l : List Value) : Obj := ⟨.type t, none, .fields l.toArray, #[]⟩
def en (P : Params) (x : PySem.Str) (t : Tok) (v : Value) : DictEntry := ⟨PyData.keyHash P x, .str x t, v⟩
def insAll : List (Nat × Obj) → BT → BT
  | [], t => t
  | (i, o) :: r, t => insAll r (t.ins i o)
end DS
namespace T06
open PySem L2 DL
def top (i : Nat) : Stmt := PySem.Challenge.pw_nearspokes_k06_whole_polys_reckoned.main.body.getD i (.Pass ⟨0, 0, 0, 0⟩)
abbrev sIsInteger : Stmt := top 7
abbrev sIsNumber : Stmt := top 8
abbrev sLowest : Stmt := top 9
abbrev sCheckLetter : Stmt := top 12
abbrev sCheckTerms : Stmt := top 13
abbrev sMadeOf : Stmt := top 14
abbrev sAdded : Stmt := top 17
abbrev sMultiplied : Stmt := top 18
abbrev sPowers : Stmt := top 19
abbrev sLBag : Stmt := top 22
abbrev sLPull : Stmt := top 23
abbrev sLOf : Stmt := top 24
abbrev sLSame : Stmt := top 25
abbrev sLGcd : Stmt := top 26
abbrev sLLow : Stmt := top 27
abbrev sLAdd : Stmt := top 28
abbrev sLSub : Stmt := top 29
abbrev sLMul : Stmt := top 30
abbrev sLRatio : Stmt := top 31
abbrev sLPoint : Stmt := top 32
abbrev sLTo : Stmt := top 33
abbrev sLGathered : Stmt := top 34
abbrev sLTerms : Stmt := top 35
abbrev sLTermsPlus : Stmt := top 36
abbrev sLTermsTimes : Stmt := top 37
abbrev sLTermsAt : Stmt := top 38
abbrev sLPoly : Stmt := top 39
abbrev sLaw : Stmt := top 40
abbrev RR0 : PySem.W.OpenRow := PySem.W.OpenLaw.row PySem.Challenge.rw_nearspokes_k06_whole_polys_reckoned
end T06
namespace T06
open PySem L2 DL
namespace Hd
open PySem PySem.W PySem.Calls PyProof.Rows in
set_option maxHeartbeats 0 in
theorem nres : namesResolve RR0.prog = true := by kernel_rfl
open PySem PySem.W PySem.Calls PyProof.Rows in
set_option maxHeartbeats 0 in
theorem nmA : (namesMeet RR0.prog RR0.prog.main.body fun _ n => attrL n) = true := by kernel_rfl
open PySem PySem.W PySem.Calls PyProof.Rows in
set_option maxHeartbeats 0 in
theorem roV : readsOut RR0.prog RR0.prog.main.body "vars" = false := by kernel_rfl
open PySem PySem.W PySem.Calls PyProof.Rows in
set_option maxHeartbeats 0 in
theorem roD : readsOut RR0.prog RR0.prog.main.body "dir" = false := by kernel_rfl
open PySem PySem.W PySem.Calls PyProof.Rows in
set_option maxHeartbeats 0 in
theorem roL : readsOut RR0.prog RR0.prog.main.body "locals" = false := by kernel_rfl
open PySem PySem.W PySem.Calls PyProof.Rows in
set_option maxHeartbeats 0 in
theorem nr0 : noRoadLSs { strict := false, foot := none, bare := [] } RR0.prog.main.body = true := by kernel_rfl
open PySem PySem.W PySem.Calls PyProof.Rows in
set_option maxHeartbeats 0 in
theorem nrA : noRoadLSs { strict := false, foot := none, bare := [] } RR0.prog.main.body = true := nr0
open PySem PySem.W PySem.Calls PyProof.Rows in
set_option maxHeartbeats 0 in
theorem looks : looksOpen RR0.prog = true := DH.looks_of (by kernel_rfl) (by kernel_rfl) nres (by kernel_rfl) (by kernel_rfl) (DH.out3 roV roD roL) nrA nmA
open PySem PySem.W PySem.Calls PyProof.Rows in
set_option maxHeartbeats 0 in
theorem said : OpenLaw.wellSaid PySem.Challenge.rw_nearspokes_k06_whole_polys_reckoned = true := by
  unfold OpenLaw.wellSaid OpenRow.wellSaid OpenRow.partSaid
  repeat' (with_reducible refine look_both ?_ ?_)
  all_goals first | with_reducible exact looks | decide +kernel
theorem well (h : (PySem.W.OpenLaw.row PySem.Challenge.rw_nearspokes_k06_whole_polys_reckoned).wellSaid = true → PySem.W.OpenRow.Holds (PySem.W.OpenLaw.row PySem.Challenge.rw_nearspokes_k06_whole_polys_reckoned)) : PySem.Challenge.rw_nearspokes_k06_whole_polys_reckoned.Holds := PySem.W.holds_law said h
open PySem PySem.W PySem.Calls PyProof.Rows in
set_option maxHeartbeats 0 in
theorem tw : TablesWhole.wSs TablesWhole.gather RR0.prog.main.scope ⟨RR0.prog.main.scope, [], [], [], none⟩ RR0.prog.main.scope RR0.prog.main.body = [] := by kernel_rfl
open PySem PySem.W PySem.Calls PyProof.Rows in
set_option maxHeartbeats 0 in
theorem ts0 : TablesWhole.wSs TablesWhole.holds RR0.prog.main.scope ⟨RR0.prog.main.scope, [], [], [], none⟩ RR0.prog.main.scope RR0.prog.main.body = true := by kernel_rfl
open PySem PySem.W PySem.Calls PyProof.Rows in
set_option maxHeartbeats 0 in
theorem tsA : TablesWhole.wSs TablesWhole.holds RR0.prog.main.scope ⟨RR0.prog.main.scope, [], [], [], none⟩ RR0.prog.main.scope RR0.prog.main.body = true := ts0
open PySem PySem.W PySem.Calls PyProof.Rows in
set_option maxHeartbeats 0 in
theorem hb : RR0.prog.bare := ⟨rfl, rfl, rfl, rfl, rfl, DH.whole_of rfl rfl rfl (by kernel_rfl) tw tsA⟩
open PySem PySem.W PySem.Calls PyProof.Rows in
set_option maxHeartbeats 0 in
theorem df1 : defOf (PySem.W.view RR0.prog [0, 40]) RR0.name = some (HandSHeadRun.topDef RR0.prog 40, []) := by kernel_rfl
open PySem PySem.W PySem.Calls PyProof.Rows in
set_option maxHeartbeats 0 in
theorem df2 : RR0.prog.theDef RR0.name = some ((HandSHeadRun.topDef RR0.prog 40).params, (HandSHeadRun.topDef RR0.prog 40).body, (HandSHeadRun.topDef RR0.prog 40).scope) := by kernel_rfl
open PySem PySem.W PySem.Calls PyProof.Rows in
set_option maxHeartbeats 0 in
theorem okA : chainsOk (PySem.W.view RR0.prog [0, 40]) = true := by kernel_rfl
open PySem PySem.W PySem.Calls PyProof.Rows in
set_option maxHeartbeats 0 in
theorem okB : opensWell RR0.prog = true := by kernel_rfl
open PySem PySem.W PySem.Calls PyProof.Rows in
set_option maxHeartbeats 0 in
theorem okC : (frees RR0.toRowW && RR0.within.isEmpty) = true := by kernel_rfl
end Hd
end T06
namespace T06
open PySem L2 DL
namespace Seg
section
open PySem.W HandSHeadRun DS
def vi (n : Int) : Value := .int n 0
def vc (t : Tok) : Value := .str "/claim/cut.py" t
def oCd (l : List Value) : Obj := oFldT "code" l
def vr (a : Addr) : Value := .ref a
def oC (n : PySem.Str) (a : Tok) (q : PySem.Str) (b c : Tok) (l i j k m : Int) (r : Addr) (o : Bool) (s : Addr) (w x y z : Value) (u : Int) (d : Tok) : Obj := oCd [.str n a, .str q b, vc c, vi l, vi i, vi j, vi k, vi m, .ref r, .bool o, vi 370, .ref s, w, x, y, z, vi u, vi l, vc d]
def oFn0 (n q : PySem.Str) (s : Stmt) : Obj := ⟨.none, none, (.func ⟨n, q, defArgs s, .stmts (defBody s), defScope s, 0, [], .none, .none, .none, .none, none, .none, .none, 0⟩), [].toArray⟩
def oFn3 (n q : PySem.Str) (s : Stmt) (m : PySem.Str) (t : Tok) (c : Addr) : Obj := ⟨(.type "function"), none, (.func ⟨n, q, defArgs s, .stmts (defBody s), defScope s, 3, [], .none, .none, .none, (.str m t), none, (.ref c), .none, 0⟩), [].toArray⟩
def bdy : List Stmt := behindTheImports RR0.prog
def env0 : Env := { scope := RR0.prog.main.scope, locals := mainNs, globals := mainNs, cells := [], code := (.ref 41), frame := some 42 }
def cd0 : Code := .body bdy env0
def q0 : Pos := ⟨0, 0, 0, 0⟩
def ann0 : Option Value := (some (.ref 6))
def life0 : Life := { registered := [], finalised := [], alive := [], known := 0, ids := [], orphanDicts := [], counting := false, cnt := #[], zero := [], soft := 0, below := false, collecting := false, loading := false, debug := 0, thresholds := [2000, 10, 10], woke := false, asked := 0, gcEnabled := true, old := [], middle := [], young := 0, intoMiddle := false }
def os0 : OsState := (start (opening RR0.prog)).1.os
def obX_0 (P : Params) : List (Nat × Obj) := [(0,oDict [en P "__name__" 1 (.str "builtins" 160), en P "__doc__" 2 (.builtin "builtins.__doc__:str#opaque"), en P "__package__" 3 (.builtin "builtins.__package__:str#opaque"), en P "__loader__" 4 (.builtin "builtins.__loader__:shared#opaque"), en P "__spec__" 5 (.builtin "builtins.__spec__#opaque"), en P "__build_class__" 6 (.builtin "__build_class__"), en P (PySem.Str.mk #[95, 95, 105, 109, 112, 111, 114, 116, 95, 95]) 7 (.builtin "__import__"), en P "abs" 8 (.builtin "abs"), en P "all" 9 (.builtin "all"), en P "any" 10 (.builtin "any"), en P "ascii" 11 (.builtin "ascii"), en P "bin" 12 (.builtin "bin"), en P "breakpoint" 13 (.builtin "breakpoint"), en P "callable" 14 (.builtin "callable"), en P "chr" 15 (.builtin "chr"), en P "compile" 16 (.builtin "compile"), en P "delattr" 17 (.builtin "delattr"), en P "dir" 18 (.builtin "dir"), en P "divmod" 19 (.builtin "divmod"), en P "eval" 20 (.builtin "eval"), en P "exec" 21 (.builtin "exec"), en P "format" 22 (.builtin "format"), en P "getattr" 23 (.builtin "getattr"), en P "globals" 24 (.builtin "globals"), en P "hasattr" 25 (.builtin "hasattr"), en P "hash" 26 (.builtin "hash"), en P "hex" 27 (.builtin "hex"), en P "id" 28 (.builtin "id"), en P "input" 29 (.builtin "input"), en P "isinstance" 30 (.builtin "isinstance"), en P "issubclass" 31 (.builtin "issubclass"), en P "iter" 32 (.builtin "iter"), en P "aiter" 33 (.builtin "aiter"), en P "len" 34 (.builtin "len"), en P "locals" 35 (.builtin "locals"), en P "max" 36 (.builtin "max"), en P "min" 37 (.builtin "min"), en P "next" 38 (.builtin "next"), en P "anext" 39 (.builtin "anext"), en P "oct" 40 (.builtin "oct"), en P "ord" 41 (.builtin "ord"), en P "pow" 42 (.builtin "pow"), en P "print" 43 (.builtin "print"), en P "repr" 44 (.builtin "repr"), en P "round" 45 (.builtin "round"), en P "setattr" 46 (.builtin "setattr"), en P "sorted" 47 (.builtin "sorted"), en P "sum" 48 (.builtin "sum"), en P "vars" 49 (.builtin "vars"), en P "None" 50 .none, en P "Ellipsis" 51 .ellipsis, en P "NotImplemented" 52 .notImplemented, en P "False" 53 (.bool false), en P "True" 54 (.bool true), en P "bool" 55 (.type "bool"), en P "memoryview" 56 (.type "memoryview"), en P "bytearray" 57 (.type "bytearray"), en P "bytes" 58 (.type "bytes"), en P "classmethod" 59 (.type "classmethod"), en P "complex" 60 (.type "complex"), en P "dict" 61 (.type "dict"), en P "enumerate" 62 (.type "enumerate"), en P "filter" 63 (.type "filter"), en P "float" 64 (.type "float"), en P "frozenset" 65 (.type "frozenset"), en P "property" 66 (.type "property"), en P "int" 67 (.type "int"), en P "list" 68 (.type "list"), en P "map" 69 (.type "map"), en P "object" 70 (.type "object"), en P "range" 71 (.type "range"), en P "reversed" 72 (.type "reversed"), en P "set" 73 (.type "set"), en P "slice" 74 (.type "slice"), en P "staticmethod" 75 (.type "staticmethod"), en P "str" 76 (.type "str"), en P "super" 77 (.type "super"), en P "tuple" 78 (.type "tuple"), en P "type" 79 (.type "type"), en P "zip" 80 (.type "zip"), en P "__debug__" 81 (.bool true), en P "BaseException" 82 (.type "BaseException"), en P "BaseExceptionGroup" 83 (.type "BaseExceptionGroup"), en P "Exception" 84 (.type "Exception"), en P "GeneratorExit" 85 (.type "GeneratorExit"), en P "KeyboardInterrupt" 86 (.type "KeyboardInterrupt"), en P "SystemExit" 87 (.type "SystemExit"), en P "ArithmeticError" 88 (.type "ArithmeticError"), en P "AssertionError" 89 (.type "AssertionError"), en P "AttributeError" 90 (.type "AttributeError"), en P "BufferError" 91 (.type "BufferError"), en P "EOFError" 92 (.type "EOFError"), en P "ImportError" 93 (.type "ImportError"), en P "LookupError" 94 (.type "LookupError"), en P "MemoryError" 95 (.type "MemoryError"), en P "NameError" 96 (.type "NameError"), en P "OSError" 97 (.type "OSError"), en P "ReferenceError" 98 (.type "ReferenceError"), en P "RuntimeError" 99 (.type "RuntimeError"), en P "StopAsyncIteration" 100 (.type "StopAsyncIteration"), en P "StopIteration" 101 (.type "StopIteration"), en P "SyntaxError" 102 (.type "SyntaxError"), en P "SystemError" 103 (.type "SystemError"), en P "TypeError" 104 (.type "TypeError"), en P "ValueError" 105 (.type "ValueError"), en P "Warning" 106 (.type "Warning"), en P "FloatingPointError" 107 (.type "FloatingPointError"), en P "OverflowError" 108 (.type "OverflowError"), en P "ZeroDivisionError" 109 (.type "ZeroDivisionError"), en P "BytesWarning" 110 (.type "BytesWarning"), en P "DeprecationWarning" 111 (.type "DeprecationWarning"), en P "EncodingWarning" 112 (.type "EncodingWarning"), en P "FutureWarning" 113 (.type "FutureWarning"), en P "ImportWarning" 114 (.type "ImportWarning"), en P "PendingDeprecationWarning" 115 (.type "PendingDeprecationWarning"), en P "ResourceWarning" 116 (.type "ResourceWarning"), en P "RuntimeWarning" 117 (.type "RuntimeWarning"), en P "SyntaxWarning" 118 (.type "SyntaxWarning"), en P "UnicodeWarning" 119 (.type "UnicodeWarning"), en P "UserWarning" 120 (.type "UserWarning"), en P "BlockingIOError" 121 (.type "BlockingIOError"), en P "ChildProcessError" 122 (.type "ChildProcessError"), en P "ConnectionError" 123 (.type "ConnectionError"), en P "FileExistsError" 124 (.type "FileExistsError"), en P "FileNotFoundError" 125 (.type "FileNotFoundError"), en P "InterruptedError" 126 (.type "InterruptedError"), en P "IsADirectoryError" 127 (.type "IsADirectoryError"), en P "NotADirectoryError" 128 (.type "NotADirectoryError"), en P "PermissionError" 129 (.type "PermissionError"), en P "ProcessLookupError" 130 (.type "ProcessLookupError"), en P "TimeoutError" 131 (.type "TimeoutError"), en P "IndentationError" 132 (.type "IndentationError"), en P "_IncompleteInputError" 133 (.type "_IncompleteInputError"), en P "IndexError" 134 (.type "IndexError"), en P "KeyError" 135 (.type "KeyError"), en P "ModuleNotFoundError" 136 (.type "ModuleNotFoundError"), en P "NotImplementedError" 137 (.type "NotImplementedError"), en P "PythonFinalizationError" 138 (.type "PythonFinalizationError"), en P "RecursionError" 139 (.type "RecursionError"), en P "UnboundLocalError" 140 (.type "UnboundLocalError"), en P "UnicodeError" 141 (.type "UnicodeError"), en P "BrokenPipeError" 142 (.type "BrokenPipeError"), en P "ConnectionAbortedError" 143 (.type "ConnectionAbortedError"), en P "ConnectionRefusedError" 144 (.type "ConnectionRefusedError"), en P "ConnectionResetError" 145 (.type "ConnectionResetError"), en P "TabError" 146 (.type "TabError"), en P "UnicodeDecodeError" 147 (.type "UnicodeDecodeError"), en P "UnicodeEncodeError" 148 (.type "UnicodeEncodeError"), en P "UnicodeTranslateError" 149 (.type "UnicodeTranslateError"), en P "ExceptionGroup" 150 (.type "ExceptionGroup"), en P "EnvironmentError" 151 (.type "OSError"), en P "IOError" 152 (.type "OSError"), en P "open" 153 (.builtin "open"), en P "quit" 154 (.builtin "builtins.quit#opaque"), en P "exit" 155 (.builtin "builtins.exit#opaque"), en P "copyright" 156 (.builtin "builtins.copyright#opaque"), en P "credits" 157 (.builtin "builtins.credits#opaque"), en P "license" 158 (.builtin "builtins.license#opaque"), en P "help" 159 (.builtin "builtins.help#opaque")] 159),
(1,oDict [en P "builtins" 162 (vr 4), en P "__main__" 163 (vr 5), en P "math" 284 (vr 13)] 3),
(2,⟨.none, none, (.dict ([en P (PySem.Str.mk #[105, 109, 112, 111, 114, 116, 46, 108, 111, 97, 100, 101, 100, 46, 109, 97, 116, 104]) 185 (.bool true), en P (PySem.Str.mk #[99, 108, 97, 115, 115, 46, 95, 102, 114, 111, 122, 101, 110, 95, 105, 109, 112, 111, 114, 116, 108, 105, 98, 95, 101, 120, 116, 101, 114, 110, 97, 108, 46, 95, 76, 111, 97, 100, 101, 114, 66, 97, 115, 105, 99, 115]) 190 (vr 16), en P (PySem.Str.mk #[119, 97, 116, 99, 104, 101, 100, 46, 105, 109, 112, 111, 114, 116]) 206 (vr 20), en P (PySem.Str.mk #[99, 108, 97, 115, 115, 46, 95, 102, 114, 111, 122, 101, 110, 95, 105, 109, 112, 111, 114, 116, 108, 105, 98, 95, 101, 120, 116, 101, 114, 110, 97, 108, 46, 70, 105, 108, 101, 76, 111, 97, 100, 101, 114]) 207 (vr 22), en P (PySem.Str.mk #[99, 108, 97, 115, 115, 46, 95, 102, 114, 111, 122, 101, 110, 95, 105, 109, 112, 111, 114, 116, 108, 105, 98, 95, 101, 120, 116, 101, 114, 110, 97, 108, 46, 69, 120, 116, 101, 110, 115, 105, 111, 110, 70, 105, 108, 101, 76, 111, 97, 100, 101, 114]) 228 (vr 27), en P (PySem.Str.mk #[99, 108, 97, 115, 115, 46, 95, 102, 114, 111, 122, 101, 110, 95, 105, 109, 112, 111, 114, 116, 108, 105, 98, 46, 77, 111, 100, 117, 108, 101, 83, 112, 101, 99]) 256 (vr 33), en P "sys.modules.booked-epoch" 285 (vi 3), en P (PySem.Str.mk #[105, 109, 112, 111, 114, 116, 46, 108, 97, 116, 101, 114, 45, 108, 97, 105, 100, 46, 109, 97, 116, 104]) 361 (.bool true), en P "watched.library" 363 (vr 38), en P "watched.library-objects" 0 (.str (PySem.Str.mk #[13]) 0)] : List DictEntry).toArray 10), [].toArray⟩),
(3,oDict [en P "__name__" 165 (.str "__main__" 164), en P "__doc__" 166 .none, en P "__package__" 167 .none, en P "__loader__" 168 (.builtin "__main__.__loader__#opaque"), en P "__spec__" 169 .none, en P "__annotations__" 170 (vr 6), en P "__builtins__" 171 (vr 4), en P "__file__" 173 (vc 172), en P "__cached__" 174 .none, en P "gcd" 369 (.builtin "math.gcd")] 10),
(4,⟨(.type "module"), (some 0), .plain, [].toArray⟩),
(5,⟨(.type "module"), (some 3), .plain, [].toArray⟩),
(6,oDict [] 0),
(7,oTup []),
(8,oFld []),
(9,oCd [(.str "<module>" 176), (.str "<module>" 177), (vc 178), (vi 1), (vi 0), (vi 0), (vi 0), (vi 0), (vr 7), (.bool false), (vi 175), (vr 8), .none, .none, .none, .none, (vi 179), (vi 1), (vc 180)]),
(10,⟨(.type "frame"), none, .plain, [(some (vr 9)), (some (vr 3)), (some (vr 3)), none, (some (.str "__main__" 164)), none, (some (vr 0))].toArray⟩),
(11,oTup [(.str "gcd" 182)]),
(12,oDict [en P "__name__" 287 (.str "math" 286), en P "__doc__" 288 (.builtin "off-the-table:math.__doc__:shared#opaque"), en P "__package__" 290 (.str "" 289), en P "__loader__" 291 (.builtin "off-the-table:math.__loader__:shared#opaque"), en P "__spec__" 292 (.builtin "off-the-table:math.__spec__:shared#opaque"), en P "acos" 293 (.builtin "off-the-table:math.acos:shared#opaque"), en P "acosh" 294 (.builtin "off-the-table:math.acosh:shared#opaque"), en P "asin" 295 (.builtin "off-the-table:math.asin:shared#opaque"), en P "asinh" 296 (.builtin "off-the-table:math.asinh:shared#opaque"), en P "atan" 297 (.builtin "off-the-table:math.atan:shared#opaque"), en P "atan2" 298 (.builtin "off-the-table:math.atan2:shared#opaque"), en P "atanh" 299 (.builtin "off-the-table:math.atanh:shared#opaque"), en P "cbrt" 300 (.builtin "off-the-table:math.cbrt:shared#opaque"), en P "ceil" 301 (.builtin "math.ceil"), en P "copysign" 302 (.builtin "math.copysign"), en P "cos" 303 (.builtin "off-the-table:math.cos:shared#opaque"), en P "cosh" 304 (.builtin "off-the-table:math.cosh:shared#opaque"), en P "degrees" 305 (.builtin "math.degrees"), en P "dist" 306 (.builtin "math.dist"), en P "erf" 307 (.builtin "off-the-table:math.erf:shared#opaque"), en P "erfc" 308 (.builtin "off-the-table:math.erfc:shared#opaque"), en P "exp" 309 (.builtin "off-the-table:math.exp:shared#opaque"), en P "exp2" 310 (.builtin "off-the-table:math.exp2:shared#opaque"), en P "expm1" 311 (.builtin "off-the-table:math.expm1:shared#opaque"), en P "fabs" 312 (.builtin "math.fabs"), en P "factorial" 313 (.builtin "math.factorial"), en P "floor" 314 (.builtin "math.floor"), en P "fma" 315 (.builtin "math.fma"), en P "fmod" 316 (.builtin "math.fmod"), en P "frexp" 317 (.builtin "math.frexp"), en P "fsum" 318 (.builtin "math.fsum"), en P "gamma" 319 (.builtin "off-the-table:math.gamma:shared#opaque"), en P "gcd" 320 (.builtin "math.gcd"), en P "hypot" 321 (.builtin "math.hypot"), en P "isclose" 322 (.builtin "math.isclose"), en P "isfinite" 323 (.builtin "math.isfinite"), en P "isinf" 324 (.builtin "math.isinf"), en P "isnan" 325 (.builtin "math.isnan"), en P "isqrt" 326 (.builtin "math.isqrt"), en P "lcm" 327 (.builtin "math.lcm"), en P "ldexp" 328 (.builtin "math.ldexp"), en P "lgamma" 329 (.builtin "off-the-table:math.lgamma:shared#opaque"), en P "log" 330 (.builtin "off-the-table:math.log:shared#opaque"), en P "log1p" 331 (.builtin "off-the-table:math.log1p:shared#opaque"), en P "log10" 332 (.builtin "off-the-table:math.log10:shared#opaque"), en P "log2" 333 (.builtin "off-the-table:math.log2:shared#opaque"), en P "modf" 334 (.builtin "math.modf"), en P "pow" 335 (.builtin "off-the-table:math.pow:shared#opaque"), en P "radians" 336 (.builtin "math.radians"), en P "remainder" 337 (.builtin "math.remainder"), en P "sin" 338 (.builtin "off-the-table:math.sin:shared#opaque"), en P "sinh" 339 (.builtin "off-the-table:math.sinh:shared#opaque"), en P "sqrt" 340 (.builtin "math.sqrt"), en P "tan" 341 (.builtin "off-the-table:math.tan:shared#opaque"), en P "tanh" 342 (.builtin "off-the-table:math.tanh:shared#opaque"), en P "sumprod" 343 (.builtin "math.sumprod"), en P "trunc" 344 (.builtin "math.trunc"), en P "prod" 345 (.builtin "math.prod"), en P "perm" 346 (.builtin "math.perm"), en P "comb" 347 (.builtin "math.comb"), en P "nextafter" 348 (.builtin "math.nextafter"), en P "ulp" 349 (.builtin "math.ulp"), en P "__file__" 350 (.str "/nix/store/wj1f56qky4pmjc7l0r6b6l7whnnw7hp6-python3-3.13.15/lib/python3.13/lib-dynload/math.cpython-313-x86_64-linux-gnu.so" 186), en P "pi" 352 (.float 4614256656552045848 351), en P "e" 354 (.float 4613303445314885481 353), en P "tau" 356 (.float 4618760256179416344 355), en P "inf" 358 (.float 9218868437227405312 357), en P "nan" 360 (.float 9221120237041090560 359)] 68),
(13,⟨(.type "module"), (some 12), .plain, [].toArray⟩),
(14,oDict [en P "name" 188 (.str "math" 187), en P "path" 189 (.str "/nix/store/wj1f56qky4pmjc7l0r6b6l7whnnw7hp6-python3-3.13.15/lib/python3.13/lib-dynload/math.cpython-313-x86_64-linux-gnu.so" 186)] 2),
(15,oDict [en P "__module__" 193 (.str (PySem.Str.mk #[95, 102, 114, 111, 122, 101, 110, 95, 105, 109, 112, 111, 114, 116, 108, 105, 98, 95, 101, 120, 116, 101, 114, 110, 97, 108]) 191), en P "__firstlineno__" 194 (.int 1001 192), en P "__doc__" 195 (.builtin "_frozen_importlib_external._LoaderBasics.__doc__:str#opaque"), en P "is_package" 196 (.builtin "_frozen_importlib_external._LoaderBasics.is_package#opaque"), en P "create_module" 197 (.builtin "_frozen_importlib_external._LoaderBasics.create_module#opaque"), en P "exec_module" 198 (.builtin "_frozen_importlib_external._LoaderBasics.exec_module#opaque"), en P "load_module" 199 (.builtin "_frozen_importlib_external._LoaderBasics.load_module#opaque"), en P "__static_attributes__" 200 (vr 17), en P "__dict__" 202 (vr 18), en P "__weakref__" 204 (vr 19)] 10),
(16,⟨(.type "type"), none, (.cls ⟨"_LoaderBasics", [(.type "object")], [(vr 16), (.type "object")], 15, "_LoaderBasics", true, [], [(vr 27)], false, none, false⟩), [].toArray⟩),
(17,oTup []),
(18,oFldT "getset_descriptor" [(.str "__dict__" 201), (vr 16), (.builtin "function.__dict__"), (.builtin "function.__dict__#set")]),
(19,oFldT "getset_descriptor" [(.str "__weakref__" 203), (vr 16), (.builtin "ExceptionGroup.__weakref__"), .none]),
(20,⟨.none, none, (.seq [(vi 15), (.str (PySem.Str.mk #[6, 193, 10, 95, 95, 109, 111, 100, 117, 108, 101, 95, 95, 6, 191, 26, 95, 102, 114, 111, 122, 101, 110, 95, 105, 109, 112, 111, 114, 116, 108, 105, 98, 95, 101, 120, 116, 101, 114, 110, 97, 108, 6, 194, 15, 95, 95, 102, 105, 114, 115, 116, 108, 105, 110, 101, 110, 111, 95, 95, 4, 192, 0, 1001, 6, 195, 7, 95, 95, 100, 111, 99, 95, 95, 9, 59, 95, 102, 114, 111, 122, 101, 110, 95, 105, 109, 112, 111, 114, 116, 108, 105, 98, 95, 101, 120, 116, 101, 114, 110, 97, 108, 46, 95, 76, 111, 97, 100, 101, 114, 66, 97, 115, 105, 99, 115, 46, 95, 95, 100, 111, 99, 95, 95, 58, 115, 116, 114, 35, 111, 112, 97, 113, 117, 101, 6, 196, 10, 105, 115, 95, 112, 97, 99, 107, 97, 103, 101, 9, 58, 95, 102, 114, 111, 122, 101, 110, 95, 105, 109, 112, 111, 114, 116, 108, 105, 98, 95, 101, 120, 116, 101, 114, 110, 97, 108, 46, 95, 76, 111, 97, 100, 101, 114, 66, 97, 115, 105, 99, 115, 46, 105, 115, 95, 112, 97, 99, 107, 97, 103, 101, 35, 111, 112, 97, 113, 117, 101, 6, 197, 13, 99, 114, 101, 97, 116, 101, 95, 109, 111, 100, 117, 108, 101, 9, 61, 95, 102, 114, 111, 122, 101, 110, 95, 105, 109, 112, 111, 114, 116, 108, 105, 98, 95, 101, 120, 116, 101, 114, 110, 97, 108, 46, 95, 76, 111, 97, 100, 101, 114, 66, 97, 115, 105, 99, 115, 46, 99, 114, 101, 97, 116, 101, 95, 109, 111, 100, 117, 108, 101, 35, 111, 112, 97, 113, 117, 101, 6, 198, 11, 101, 120, 101, 99, 95, 109, 111, 100, 117, 108, 101, 9, 59, 95, 102, 114, 111, 122, 101, 110, 95, 105, 109, 112, 111, 114, 116, 108, 105, 98, 95, 101, 120, 116, 101, 114, 110, 97, 108, 46, 95, 76, 111, 97, 100, 101, 114, 66, 97, 115, 105, 99, 115, 46, 101, 120, 101, 99, 95, 109, 111, 100, 117, 108, 101, 35, 111, 112, 97, 113, 117, 101, 6, 199, 11, 108, 111, 97, 100, 95, 109, 111, 100, 117, 108, 101, 9, 59, 95, 102, 114, 111, 122, 101, 110, 95, 105, 109, 112, 111, 114, 116, 108, 105, 98, 95, 101, 120, 116, 101, 114, 110, 97, 108, 46, 95, 76, 111, 97, 100, 101, 114, 66, 97, 115, 105, 99, 115, 46, 108, 111, 97, 100, 95, 109, 111, 100, 117, 108, 101, 35, 111, 112, 97, 113, 117, 101, 6, 200, 21, 95, 95, 115, 116, 97, 116, 105, 99, 95, 97, 116, 116, 114, 105, 98, 117, 116, 101, 115, 95, 95, 4, 0, 0, 17, 6, 202, 8, 95, 95, 100, 105, 99, 116, 95, 95, 4, 0, 0, 18, 6, 204, 11, 95, 95, 119, 101, 97, 107, 114, 101, 102, 95, 95, 4, 0, 0, 19]) 0), (.bool true), (.bool true), (.str "" 205), (vi 21), (.str (PySem.Str.mk #[6, 212, 10, 95, 95, 109, 111, 100, 117, 108, 101, 95, 95, 6, 208, 26, 95, 102, 114, 111, 122, 101, 110, 95, 105, 109, 112, 111, 114, 116, 108, 105, 98, 95, 101, 120, 116, 101, 114, 110, 97, 108, 6, 213, 15, 95, 95, 102, 105, 114, 115, 116, 108, 105, 110, 101, 110, 111, 95, 95, 4, 209, 0, 1176, 6, 214, 7, 95, 95, 100, 111, 99, 95, 95, 9, 56, 95, 102, 114, 111, 122, 101, 110, 95, 105, 109, 112, 111, 114, 116, 108, 105, 98, 95, 101, 120, 116, 101, 114, 110, 97, 108, 46, 70, 105, 108, 101, 76, 111, 97, 100, 101, 114, 46, 95, 95, 100, 111, 99, 95, 95, 58, 115, 116, 114, 35, 111, 112, 97, 113, 117, 101, 6, 215, 8, 95, 95, 105, 110, 105, 116, 95, 95, 9, 53, 95, 102, 114, 111, 122, 101, 110, 95, 105, 109, 112, 111, 114, 116, 108, 105, 98, 95, 101, 120, 116, 101, 114, 110, 97, 108, 46, 70, 105, 108, 101, 76, 111, 97, 100, 101, 114, 46, 95, 95, 105, 110, 105, 116, 95, 95, 35, 111, 112, 97, 113, 117, 101, 6, 216, 6, 95, 95, 101, 113, 95, 95, 9, 51, 95, 102, 114, 111, 122, 101, 110, 95, 105, 109, 112, 111, 114, 116, 108, 105, 98, 95, 101, 120, 116, 101, 114, 110, 97, 108, 46, 70, 105, 108, 101, 76, 111, 97, 100, 101, 114, 46, 95, 95, 101, 113, 95, 95, 35, 111, 112, 97, 113, 117, 101, 6, 217, 8, 95, 95, 104, 97, 115, 104, 95, 95, 9, 53, 95, 102, 114, 111, 122, 101, 110, 95, 105, 109, 112, 111, 114, 116, 108, 105, 98, 95, 101, 120, 116, 101, 114, 110, 97, 108, 46, 70, 105, 108, 101, 76, 111, 97, 100, 101, 114, 46, 95, 95, 104, 97, 115, 104, 95, 95, 35, 111, 112, 97, 113, 117, 101, 6, 218, 11, 108, 111, 97, 100, 95, 109, 111, 100, 117, 108, 101, 9, 56, 95, 102, 114, 111, 122, 101, 110, 95, 105, 109, 112, 111, 114, 116, 108, 105, 98, 95, 101, 120, 116, 101, 114, 110, 97, 108, 46, 70, 105, 108, 101, 76, 111, 97, 100, 101, 114, 46, 108, 111, 97, 100, 95, 109, 111, 100, 117, 108, 101, 35, 111, 112, 97, 113, 117, 101, 6, 219, 12, 103, 101, 116, 95, 102, 105, 108, 101, 110, 97, 109, 101, 9, 57, 95, 102, 114, 111, 122, 101, 110, 95, 105, 109, 112, 111, 114, 116, 108, 105, 98, 95, 101, 120, 116, 101, 114, 110, 97, 108, 46, 70, 105, 108, 101, 76, 111, 97, 100, 101, 114, 46, 103, 101, 116, 95, 102, 105, 108, 101, 110, 97, 109, 101, 35, 111, 112, 97, 113, 117, 101, 6, 220, 8, 103, 101, 116, 95, 100, 97, 116, 97, 9, 53, 95, 102, 114, 111, 122, 101, 110, 95, 105, 109, 112, 111, 114, 116, 108, 105, 98, 95, 101, 120, 116, 101, 114, 110, 97, 108, 46, 70, 105, 108, 101, 76, 111, 97, 100, 101, 114, 46, 103, 101, 116, 95, 100, 97, 116, 97, 35, 111, 112, 97, 113, 117, 101, 6, 221, 19, 103, 101, 116, 95, 114, 101, 115, 111, 117, 114, 99, 101, 95, 114, 101, 97, 100, 101, 114, 9, 64, 95, 102, 114, 111, 122, 101, 110, 95, 105, 109, 112, 111, 114, 116, 108, 105, 98, 95, 101, 120, 116, 101, 114, 110, 97, 108, 46, 70, 105, 108, 101, 76, 111, 97, 100, 101, 114, 46, 103, 101, 116, 95, 114, 101, 115, 111, 117, 114, 99, 101, 95, 114, 101, 97, 100, 101, 114, 35, 111, 112, 97, 113, 117, 101, 6, 222, 21, 95, 95, 115, 116, 97, 116, 105, 99, 95, 97, 116, 116, 114, 105, 98, 117, 116, 101, 115, 95, 95, 4, 0, 0, 23, 6, 224, 8, 95, 95, 100, 105, 99, 116, 95, 95, 4, 0, 0, 24, 6, 226, 11, 95, 95, 119, 101, 97, 107, 114, 101, 102, 95, 95, 4, 0, 0, 25]) 0), (.bool true), (.bool true), (.str "" 227), (vi 26), (.str (PySem.Str.mk #[6, 233, 10, 95, 95, 109, 111, 100, 117, 108, 101, 95, 95, 6, 229, 26, 95, 102, 114, 111, 122, 101, 110, 95, 105, 109, 112, 111, 114, 116, 108, 105, 98, 95, 101, 120, 116, 101, 114, 110, 97, 108, 6, 234, 15, 95, 95, 102, 105, 114, 115, 116, 108, 105, 110, 101, 110, 111, 95, 95, 4, 230, 0, 1296, 6, 235, 7, 95, 95, 100, 111, 99, 95, 95, 9, 65, 95, 102, 114, 111, 122, 101, 110, 95, 105, 109, 112, 111, 114, 116, 108, 105, 98, 95, 101, 120, 116, 101, 114, 110, 97, 108, 46, 69, 120, 116, 101, 110, 115, 105, 111, 110, 70, 105, 108, 101, 76, 111, 97, 100, 101, 114, 46, 95, 95, 100, 111, 99, 95, 95, 58, 115, 116, 114, 35, 111, 112, 97, 113, 117, 101, 6, 236, 8, 95, 95, 105, 110, 105, 116, 95, 95, 9, 62, 95, 102, 114, 111, 122, 101, 110, 95, 105, 109, 112, 111, 114, 116, 108, 105, 98, 95, 101, 120, 116, 101, 114, 110, 97, 108, 46, 69, 120, 116, 101, 110, 115, 105, 111, 110, 70, 105, 108, 101, 76, 111, 97, 100, 101, 114, 46, 95, 95, 105, 110, 105, 116, 95, 95, 35, 111, 112, 97, 113, 117, 101, 6, 237, 6, 95, 95, 101, 113, 95, 95, 9, 60, 95, 102, 114, 111, 122, 101, 110, 95, 105, 109, 112, 111, 114, 116, 108, 105, 98, 95, 101, 120, 116, 101, 114, 110, 97, 108, 46, 69, 120, 116, 101, 110, 115, 105, 111, 110, 70, 105, 108, 101, 76, 111, 97, 100, 101, 114, 46, 95, 95, 101, 113, 95, 95, 35, 111, 112, 97, 113, 117, 101, 6, 238, 8, 95, 95, 104, 97, 115, 104, 95, 95, 9, 62, 95, 102, 114, 111, 122, 101, 110, 95, 105, 109, 112, 111, 114, 116, 108, 105, 98, 95, 101, 120, 116, 101, 114, 110, 97, 108, 46, 69, 120, 116, 101, 110, 115, 105, 111, 110, 70, 105, 108, 101, 76, 111, 97, 100, 101, 114, 46, 95, 95, 104, 97, 115, 104, 95, 95, 35, 111, 112, 97, 113, 117, 101, 6, 239, 13, 99, 114, 101, 97, 116, 101, 95, 109, 111, 100, 117, 108, 101, 9, 67, 95, 102, 114, 111, 122, 101, 110, 95, 105, 109, 112, 111, 114, 116, 108, 105, 98, 95, 101, 120, 116, 101, 114, 110, 97, 108, 46, 69, 120, 116, 101, 110, 115, 105, 111, 110, 70, 105, 108, 101, 76, 111, 97, 100, 101, 114, 46, 99, 114, 101, 97, 116, 101, 95, 109, 111, 100, 117, 108, 101, 35, 111, 112, 97, 113, 117, 101, 6, 240, 11, 101, 120, 101, 99, 95, 109, 111, 100, 117, 108, 101, 9, 65, 95, 102, 114, 111, 122, 101, 110, 95, 105, 109, 112, 111, 114, 116, 108, 105, 98, 95, 101, 120, 116, 101, 114, 110, 97, 108, 46, 69, 120, 116, 101, 110, 115, 105, 111, 110, 70, 105, 108, 101, 76, 111, 97, 100, 101, 114, 46, 101, 120, 101, 99, 95, 109, 111, 100, 117, 108, 101, 35, 111, 112, 97, 113, 117, 101, 6, 241, 10, 105, 115, 95, 112, 97, 99, 107, 97, 103, 101, 9, 64, 95, 102, 114, 111, 122, 101, 110, 95, 105, 109, 112, 111, 114, 116, 108, 105, 98, 95, 101, 120, 116, 101, 114, 110, 97, 108, 46, 69, 120, 116, 101, 110, 115, 105, 111, 110, 70, 105, 108, 101, 76, 111, 97, 100, 101, 114, 46, 105, 115, 95, 112, 97, 99, 107, 97, 103, 101, 35, 111, 112, 97, 113, 117, 101, 6, 242, 8, 103, 101, 116, 95, 99, 111, 100, 101, 9, 62, 95, 102, 114, 111, 122, 101, 110, 95, 105, 109, 112, 111, 114, 116, 108, 105, 98, 95, 101, 120, 116, 101, 114, 110, 97, 108, 46, 69, 120, 116, 101, 110, 115, 105, 111, 110, 70, 105, 108, 101, 76, 111, 97, 100, 101, 114, 46, 103, 101, 116, 95, 99, 111, 100, 101, 35, 111, 112, 97, 113, 117, 101, 6, 243, 10, 103, 101, 116, 95, 115, 111, 117, 114, 99, 101, 9, 64, 95, 102, 114, 111, 122, 101, 110, 95, 105, 109, 112, 111, 114, 116, 108, 105, 98, 95, 101, 120, 116, 101, 114, 110, 97, 108, 46, 69, 120, 116, 101, 110, 115, 105, 111, 110, 70, 105, 108, 101, 76, 111, 97, 100, 101, 114, 46, 103, 101, 116, 95, 115, 111, 117, 114, 99, 101, 35, 111, 112, 97, 113, 117, 101, 6, 244, 12, 103, 101, 116, 95, 102, 105, 108, 101, 110, 97, 109, 101, 9, 66, 95, 102, 114, 111, 122, 101, 110, 95, 105, 109, 112, 111, 114, 116, 108, 105, 98, 95, 101, 120, 116, 101, 114, 110, 97, 108, 46, 69, 120, 116, 101, 110, 115, 105, 111, 110, 70, 105, 108, 101, 76, 111, 97, 100, 101, 114, 46, 103, 101, 116, 95, 102, 105, 108, 101, 110, 97, 109, 101, 35, 111, 112, 97, 113, 117, 101, 6, 245, 21, 95, 95, 115, 116, 97, 116, 105, 99, 95, 97, 116, 116, 114, 105, 98, 117, 116, 101, 115, 95, 95, 4, 0, 0, 28]) 0), (.bool true), (.bool true), (.str "" 246), (vi 32), (.str (PySem.Str.mk #[6, 267, 10, 95, 95, 109, 111, 100, 117, 108, 101, 95, 95, 6, 257, 17, 95, 102, 114, 111, 122, 101, 110, 95, 105, 109, 112, 111, 114, 116, 108, 105, 98, 6, 268, 15, 95, 95, 102, 105, 114, 115, 116, 108, 105, 110, 101, 110, 111, 95, 95, 4, 258, 0, 562, 6, 269, 7, 95, 95, 100, 111, 99, 95, 95, 9, 47, 95, 102, 114, 111, 122, 101, 110, 95, 105, 109, 112, 111, 114, 116, 108, 105, 98, 46, 77, 111, 100, 117, 108, 101, 83, 112, 101, 99, 46, 95, 95, 100, 111, 99, 95, 95, 58, 115, 116, 114, 35, 111, 112, 97, 113, 117, 101, 6, 270, 8, 95, 95, 105, 110, 105, 116, 95, 95, 9, 44, 95, 102, 114, 111, 122, 101, 110, 95, 105, 109, 112, 111, 114, 116, 108, 105, 98, 46, 77, 111, 100, 117, 108, 101, 83, 112, 101, 99, 46, 95, 95, 105, 110, 105, 116, 95, 95, 35, 111, 112, 97, 113, 117, 101, 6, 271, 8, 95, 95, 114, 101, 112, 114, 95, 95, 9, 44, 95, 102, 114, 111, 122, 101, 110, 95, 105, 109, 112, 111, 114, 116, 108, 105, 98, 46, 77, 111, 100, 117, 108, 101, 83, 112, 101, 99, 46, 95, 95, 114, 101, 112, 114, 95, 95, 35, 111, 112, 97, 113, 117, 101, 6, 272, 6, 95, 95, 101, 113, 95, 95, 9, 42, 95, 102, 114, 111, 122, 101, 110, 95, 105, 109, 112, 111, 114, 116, 108, 105, 98, 46, 77, 111, 100, 117, 108, 101, 83, 112, 101, 99, 46, 95, 95, 101, 113, 95, 95, 35, 111, 112, 97, 113, 117, 101, 6, 273, 6, 99, 97, 99, 104, 101, 100, 9, 42, 95, 102, 114, 111, 122, 101, 110, 95, 105, 109, 112, 111, 114, 116, 108, 105, 98, 46, 77, 111, 100, 117, 108, 101, 83, 112, 101, 99, 46, 99, 97, 99, 104, 101, 100, 35, 111, 112, 97, 113, 117, 101, 6, 274, 6, 112, 97, 114, 101, 110, 116, 9, 42, 95, 102, 114, 111, 122, 101, 110, 95, 105, 109, 112, 111, 114, 116, 108, 105, 98, 46, 77, 111, 100, 117, 108, 101, 83, 112, 101, 99, 46, 112, 97, 114, 101, 110, 116, 35, 111, 112, 97, 113, 117, 101, 6, 275, 12, 104, 97, 115, 95, 108, 111, 99, 97, 116, 105, 111, 110, 9, 48, 95, 102, 114, 111, 122, 101, 110, 95, 105, 109, 112, 111, 114, 116, 108, 105, 98, 46, 77, 111, 100, 117, 108, 101, 83, 112, 101, 99, 46, 104, 97, 115, 95, 108, 111, 99, 97, 116, 105, 111, 110, 35, 111, 112, 97, 113, 117, 101, 6, 276, 21, 95, 95, 115, 116, 97, 116, 105, 99, 95, 97, 116, 116, 114, 105, 98, 117, 116, 101, 115, 95, 95, 4, 0, 0, 34, 6, 278, 8, 95, 95, 100, 105, 99, 116, 95, 95, 4, 0, 0, 35, 6, 280, 11, 95, 95, 119, 101, 97, 107, 114, 101, 102, 95, 95, 4, 0, 0, 36, 6, 281, 8, 95, 95, 104, 97, 115, 104, 95, 95, 0]) 0), (.bool true), (.bool true), (.str "" 282)].toArray 3), [].toArray⟩),
(21,oDict [en P "__module__" 212 (.str (PySem.Str.mk #[95, 102, 114, 111, 122, 101, 110, 95, 105, 109, 112, 111, 114, 116, 108, 105, 98, 95, 101, 120, 116, 101, 114, 110, 97, 108]) 208), en P "__firstlineno__" 213 (.int 1176 209), en P "__doc__" 214 (.builtin "_frozen_importlib_external.FileLoader.__doc__:str#opaque"), en P "__init__" 215 (.builtin "_frozen_importlib_external.FileLoader.__init__#opaque"), en P "__eq__" 216 (.builtin "_frozen_importlib_external.FileLoader.__eq__#opaque"), en P "__hash__" 217 (.builtin "_frozen_importlib_external.FileLoader.__hash__#opaque"), en P "load_module" 218 (.builtin "_frozen_importlib_external.FileLoader.load_module#opaque"), en P "get_filename" 219 (.builtin "_frozen_importlib_external.FileLoader.get_filename#opaque"), en P "get_data" 220 (.builtin "_frozen_importlib_external.FileLoader.get_data#opaque"), en P "get_resource_reader" 221 (.builtin "_frozen_importlib_external.FileLoader.get_resource_reader#opaque"), en P "__static_attributes__" 222 (vr 23), en P "__dict__" 224 (vr 24), en P "__weakref__" 226 (vr 25)] 13),
(22,⟨(.type "type"), none, (.cls ⟨"FileLoader", [(.type "object")], [(vr 22), (.type "object")], 21, "FileLoader", true, [], [(vr 27)], false, none, false⟩), [].toArray⟩),
(23,oTup [(.str "name" 210), (.str "path" 211)]),
(24,oFldT "getset_descriptor" [(.str "__dict__" 223), (vr 22), (.builtin "function.__dict__"), (.builtin "function.__dict__#set")]),
(25,oFldT "getset_descriptor" [(.str "__weakref__" 225), (vr 22), (.builtin "ExceptionGroup.__weakref__"), .none]),
(26,oDict [en P "__module__" 233 (.str (PySem.Str.mk #[95, 102, 114, 111, 122, 101, 110, 95, 105, 109, 112, 111, 114, 116, 108, 105, 98, 95, 101, 120, 116, 101, 114, 110, 97, 108]) 229), en P "__firstlineno__" 234 (.int 1296 230), en P "__doc__" 235 (.builtin "_frozen_importlib_external.ExtensionFileLoader.__doc__:str#opaque"), en P "__init__" 236 (.builtin "_frozen_importlib_external.ExtensionFileLoader.__init__#opaque"), en P "__eq__" 237 (.builtin "_frozen_importlib_external.ExtensionFileLoader.__eq__#opaque"), en P "__hash__" 238 (.builtin "_frozen_importlib_external.ExtensionFileLoader.__hash__#opaque"), en P "create_module" 239 (.builtin "_frozen_importlib_external.ExtensionFileLoader.create_module#opaque"), en P "exec_module" 240 (.builtin "_frozen_importlib_external.ExtensionFileLoader.exec_module#opaque"), en P "is_package" 241 (.builtin "_frozen_importlib_external.ExtensionFileLoader.is_package#opaque"), en P "get_code" 242 (.builtin "_frozen_importlib_external.ExtensionFileLoader.get_code#opaque"), en P "get_source" 243 (.builtin "_frozen_importlib_external.ExtensionFileLoader.get_source#opaque"), en P "get_filename" 244 (.builtin "_frozen_importlib_external.ExtensionFileLoader.get_filename#opaque"), en P "__static_attributes__" 245 (vr 28)] 13),
(27,⟨(.type "type"), none, (.cls ⟨"ExtensionFileLoader", [(vr 22), (vr 16)], [(vr 27), (vr 22), (vr 16), (.type "object")], 26, "ExtensionFileLoader", true, [], [], false, none, false⟩), [].toArray⟩),
(28,oTup [(.str "name" 231), (.str "path" 232)]),
(29,⟨(vr 27), (some 14), .plain, [].toArray⟩),
(30,⟨(.type "list"), none, (.seq [].toArray 0), [].toArray⟩),
(31,oDict [en P "name" 248 (.str "math" 247), en P "loader" 249 (vr 29), en P "origin" 250 (.str "/nix/store/wj1f56qky4pmjc7l0r6b6l7whnnw7hp6-python3-3.13.15/lib/python3.13/lib-dynload/math.cpython-313-x86_64-linux-gnu.so" 186), en P "loader_state" 251 .none, en P "submodule_search_locations" 252 .none, en P "_uninitialized_submodules" 253 (vr 30), en P "_set_fileattr" 254 (.bool true), en P "_cached" 255 .none, en P "_initializing" 283 (.bool false)] 9),
(32,oDict [en P "__module__" 267 (.str (PySem.Str.mk #[95, 102, 114, 111, 122, 101, 110, 95, 105, 109, 112, 111, 114, 116, 108, 105, 98]) 257), en P "__firstlineno__" 268 (.int 562 258), en P "__doc__" 269 (.builtin "_frozen_importlib.ModuleSpec.__doc__:str#opaque"), en P "__init__" 270 (.builtin "_frozen_importlib.ModuleSpec.__init__#opaque"), en P "__repr__" 271 (.builtin "_frozen_importlib.ModuleSpec.__repr__#opaque"), en P "__eq__" 272 (.builtin "_frozen_importlib.ModuleSpec.__eq__#opaque"), en P "cached" 273 (.builtin "_frozen_importlib.ModuleSpec.cached#opaque"), en P "parent" 274 (.builtin "_frozen_importlib.ModuleSpec.parent#opaque"), en P "has_location" 275 (.builtin "_frozen_importlib.ModuleSpec.has_location#opaque"), en P "__static_attributes__" 276 (vr 34), en P "__dict__" 278 (vr 35), en P "__weakref__" 280 (vr 36), en P "__hash__" 281 .none] 13),
(33,⟨(.type "type"), none, (.cls ⟨"ModuleSpec", [(.type "object")], [(vr 33), (.type "object")], 32, "ModuleSpec", true, [], [], false, none, false⟩), [].toArray⟩),
(34,oTup [(.str "_cached" 259), (.str "_set_fileattr" 260), (.str "_uninitialized_submodules" 261), (.str "loader" 262), (.str "loader_state" 263), (.str "name" 264), (.str "origin" 265), (.str "submodule_search_locations" 266)]),
(35,oFldT "getset_descriptor" [(.str "__dict__" 277), (vr 33), (.builtin "function.__dict__"), (.builtin "function.__dict__#set")]),
(36,oFldT "getset_descriptor" [(.str "__weakref__" 279), (vr 33), (.builtin "ExceptionGroup.__weakref__"), .none]),
(37,⟨(vr 33), (some 31), .plain, [].toArray⟩),
(38,⟨.none, none, (.seq [(vi 12), (.str (PySem.Str.mk #[6, 287, 8, 95, 95, 110, 97, 109, 101, 95, 95, 6, 286, 4, 109, 97, 116, 104, 6, 288, 7, 95, 95, 100, 111, 99, 95, 95, 9, 23, 109, 97, 116, 104, 46, 95, 95, 100, 111, 99, 95, 95, 58, 115, 116, 114, 35, 111, 112, 97, 113, 117, 101, 6, 290, 11, 95, 95, 112, 97, 99, 107, 97, 103, 101, 95, 95, 6, 289, 0, 6, 291, 10, 95, 95, 108, 111, 97, 100, 101, 114, 95, 95, 4, 0, 0, 29, 6, 292, 8, 95, 95, 115, 112, 101, 99, 95, 95, 4, 0, 0, 37, 6, 293, 4, 97, 99, 111, 115, 9, 9, 109, 97, 116, 104, 46, 97, 99, 111, 115, 6, 294, 5, 97, 99, 111, 115, 104, 9, 10, 109, 97, 116, 104, 46, 97, 99, 111, 115, 104, 6, 295, 4, 97, 115, 105, 110, 9, 9, 109, 97, 116, 104, 46, 97, 115, 105, 110, 6, 296, 5, 97, 115, 105, 110, 104, 9, 10, 109, 97, 116, 104, 46, 97, 115, 105, 110, 104, 6, 297, 4, 97, 116, 97, 110, 9, 9, 109, 97, 116, 104, 46, 97, 116, 97, 110, 6, 298, 5, 97, 116, 97, 110, 50, 9, 10, 109, 97, 116, 104, 46, 97, 116, 97, 110, 50, 6, 299, 5, 97, 116, 97, 110, 104, 9, 10, 109, 97, 116, 104, 46, 97, 116, 97, 110, 104, 6, 300, 4, 99, 98, 114, 116, 9, 9, 109, 97, 116, 104, 46, 99, 98, 114, 116, 6, 301, 4, 99, 101, 105, 108, 9, 9, 109, 97, 116, 104, 46, 99, 101, 105, 108, 6, 302, 8, 99, 111, 112, 121, 115, 105, 103, 110, 9, 13, 109, 97, 116, 104, 46, 99, 111, 112, 121, 115, 105, 103, 110, 6, 303, 3, 99, 111, 115, 9, 8, 109, 97, 116, 104, 46, 99, 111, 115, 6, 304, 4, 99, 111, 115, 104, 9, 9, 109, 97, 116, 104, 46, 99, 111, 115, 104, 6, 305, 7, 100, 101, 103, 114, 101, 101, 115, 9, 12, 109, 97, 116, 104, 46, 100, 101, 103, 114, 101, 101, 115, 6, 306, 4, 100, 105, 115, 116, 9, 9, 109, 97, 116, 104, 46, 100, 105, 115, 116, 6, 307, 3, 101, 114, 102, 9, 8, 109, 97, 116, 104, 46, 101, 114, 102, 6, 308, 4, 101, 114, 102, 99, 9, 9, 109, 97, 116, 104, 46, 101, 114, 102, 99, 6, 309, 3, 101, 120, 112, 9, 8, 109, 97, 116, 104, 46, 101, 120, 112, 6, 310, 4, 101, 120, 112, 50, 9, 9, 109, 97, 116, 104, 46, 101, 120, 112, 50, 6, 311, 5, 101, 120, 112, 109, 49, 9, 10, 109, 97, 116, 104, 46, 101, 120, 112, 109, 49, 6, 312, 4, 102, 97, 98, 115, 9, 9, 109, 97, 116, 104, 46, 102, 97, 98, 115, 6, 313, 9, 102, 97, 99, 116, 111, 114, 105, 97, 108, 9, 14, 109, 97, 116, 104, 46, 102, 97, 99, 116, 111, 114, 105, 97, 108, 6, 314, 5, 102, 108, 111, 111, 114, 9, 10, 109, 97, 116, 104, 46, 102, 108, 111, 111, 114, 6, 315, 3, 102, 109, 97, 9, 8, 109, 97, 116, 104, 46, 102, 109, 97, 6, 316, 4, 102, 109, 111, 100, 9, 9, 109, 97, 116, 104, 46, 102, 109, 111, 100, 6, 317, 5, 102, 114, 101, 120, 112, 9, 10, 109, 97, 116, 104, 46, 102, 114, 101, 120, 112, 6, 318, 4, 102, 115, 117, 109, 9, 9, 109, 97, 116, 104, 46, 102, 115, 117, 109, 6, 319, 5, 103, 97, 109, 109, 97, 9, 10, 109, 97, 116, 104, 46, 103, 97, 109, 109, 97, 6, 320, 3, 103, 99, 100, 9, 8, 109, 97, 116, 104, 46, 103, 99, 100, 6, 321, 5, 104, 121, 112, 111, 116, 9, 10, 109, 97, 116, 104, 46, 104, 121, 112, 111, 116, 6, 322, 7, 105, 115, 99, 108, 111, 115, 101, 9, 12, 109, 97, 116, 104, 46, 105, 115, 99, 108, 111, 115, 101, 6, 323, 8, 105, 115, 102, 105, 110, 105, 116, 101, 9, 13, 109, 97, 116, 104, 46, 105, 115, 102, 105, 110, 105, 116, 101, 6, 324, 5, 105, 115, 105, 110, 102, 9, 10, 109, 97, 116, 104, 46, 105, 115, 105, 110, 102, 6, 325, 5, 105, 115, 110, 97, 110, 9, 10, 109, 97, 116, 104, 46, 105, 115, 110, 97, 110, 6, 326, 5, 105, 115, 113, 114, 116, 9, 10, 109, 97, 116, 104, 46, 105, 115, 113, 114, 116, 6, 327, 3, 108, 99, 109, 9, 8, 109, 97, 116, 104, 46, 108, 99, 109, 6, 328, 5, 108, 100, 101, 120, 112, 9, 10, 109, 97, 116, 104, 46, 108, 100, 101, 120, 112, 6, 329, 6, 108, 103, 97, 109, 109, 97, 9, 11, 109, 97, 116, 104, 46, 108, 103, 97, 109, 109, 97, 6, 330, 3, 108, 111, 103, 9, 8, 109, 97, 116, 104, 46, 108, 111, 103, 6, 331, 5, 108, 111, 103, 49, 112, 9, 10, 109, 97, 116, 104, 46, 108, 111, 103, 49, 112, 6, 332, 5, 108, 111, 103, 49, 48, 9, 10, 109, 97, 116, 104, 46, 108, 111, 103, 49, 48, 6, 333, 4, 108, 111, 103, 50, 9, 9, 109, 97, 116, 104, 46, 108, 111, 103, 50, 6, 334, 4, 109, 111, 100, 102, 9, 9, 109, 97, 116, 104, 46, 109, 111, 100, 102, 6, 335, 3, 112, 111, 119, 9, 8, 109, 97, 116, 104, 46, 112, 111, 119, 6, 336, 7, 114, 97, 100, 105, 97, 110, 115, 9, 12, 109, 97, 116, 104, 46, 114, 97, 100, 105, 97, 110, 115, 6, 337, 9, 114, 101, 109, 97, 105, 110, 100, 101, 114, 9, 14, 109, 97, 116, 104, 46, 114, 101, 109, 97, 105, 110, 100, 101, 114, 6, 338, 3, 115, 105, 110, 9, 8, 109, 97, 116, 104, 46, 115, 105, 110, 6, 339, 4, 115, 105, 110, 104, 9, 9, 109, 97, 116, 104, 46, 115, 105, 110, 104, 6, 340, 4, 115, 113, 114, 116, 9, 9, 109, 97, 116, 104, 46, 115, 113, 114, 116, 6, 341, 3, 116, 97, 110, 9, 8, 109, 97, 116, 104, 46, 116, 97, 110, 6, 342, 4, 116, 97, 110, 104, 9, 9, 109, 97, 116, 104, 46, 116, 97, 110, 104, 6, 343, 7, 115, 117, 109, 112, 114, 111, 100, 9, 12, 109, 97, 116, 104, 46, 115, 117, 109, 112, 114, 111, 100, 6, 344, 5, 116, 114, 117, 110, 99, 9, 10, 109, 97, 116, 104, 46, 116, 114, 117, 110, 99, 6, 345, 4, 112, 114, 111, 100, 9, 9, 109, 97, 116, 104, 46, 112, 114, 111, 100, 6, 346, 4, 112, 101, 114, 109, 9, 9, 109, 97, 116, 104, 46, 112, 101, 114, 109, 6, 347, 4, 99, 111, 109, 98, 9, 9, 109, 97, 116, 104, 46, 99, 111, 109, 98, 6, 348, 9, 110, 101, 120, 116, 97, 102, 116, 101, 114, 9, 14, 109, 97, 116, 104, 46, 110, 101, 120, 116, 97, 102, 116, 101, 114, 6, 349, 3, 117, 108, 112, 9, 8, 109, 97, 116, 104, 46, 117, 108, 112, 6, 350, 8, 95, 95, 102, 105, 108, 101, 95, 95, 6, 186, 123, 47, 110, 105, 120, 47, 115, 116, 111, 114, 101, 47, 119, 106, 49, 102, 53, 54, 113, 107, 121, 52, 112, 109, 106, 99, 55, 108, 48, 114, 54, 98, 54, 108, 55, 119, 104, 110, 110, 119, 55, 104, 112, 54, 45, 112, 121, 116, 104, 111, 110, 51, 45, 51, 46, 49, 51, 46, 49, 53, 47, 108, 105, 98, 47, 112, 121, 116, 104, 111, 110, 51, 46, 49, 51, 47, 108, 105, 98, 45, 100, 121, 110, 108, 111, 97, 100, 47, 109, 97, 116, 104, 46, 99, 112, 121, 116, 104, 111, 110, 45, 51, 49, 51, 45, 120, 56, 54, 95, 54, 52, 45, 108, 105, 110, 117, 120, 45, 103, 110, 117, 46, 115, 111, 6, 352, 2, 112, 105, 5, 351, 4614256656552045848, 6, 354, 1, 101, 5, 353, 4613303445314885481, 6, 356, 3, 116, 97, 117, 5, 355, 4618760256179416344, 6, 358, 3, 105, 110, 102, 5, 357, 9218868437227405312, 6, 360, 3, 110, 97, 110, 5, 359, 9221120237041090560]) 0), (.bool true), (.bool false), (.str "math" 362)].toArray 0), [].toArray⟩)]
def trX (P : Params) : BT := insAll (obX_0 P) (.nil)
def stX (w : World) : SharedT := ⟨trX w.params, 39, life0, #[], ⟨0, 0, 0, 0⟩, 370, os0⟩
def obA_0 (P : Params) : List (Nat × Obj) := [(39,oTup []),
(40,oFld []),
(41,oC "<module>" 371 "<module>" 372 373 1 0 0 0 0 39 false 40 .none .none .none .none 374 375),
(42,⟨(.type "frame"), none, .plain, [(some (vr 41)), (some (vr 3)), (some (vr 3)), none, (some (.str "__main__" 164)), none, (some (vr 0))].toArray⟩)]
def trA (P : Params) : BT := insAll (obA_0 P) (trX P)
def stA (w : World) : SharedT := ⟨trA w.params, 43, life0, #[], ⟨0, 0, 0, 0⟩, 376, os0⟩
def stB (w : World) : SharedT := ⟨trA w.params, 43, life0, #[], ⟨0, 0, 0, 0⟩, 376, os0⟩
def obS1_0 (P : Params) : List (Nat × Obj) := [(3,oDict [en P "__name__" 165 (.str "law_nearspokes_k06_whole_polys_reckoned" 797), en P "__doc__" 166 .none, en P "__package__" 167 .none, en P "__loader__" 168 (.builtin "__main__.__loader__#opaque"), en P "__spec__" 169 .none, en P "__annotations__" 170 (vr 6), en P "__builtins__" 171 (vr 4), en P "__file__" 173 (vc 172), en P "__cached__" 174 .none, en P "gcd" 369 (.builtin "math.gcd"), en P "_wall" 382 (vr 49), en P "PlaneError" 402 (vr 59), en P "InvalidTerm" 428 (vr 79), en P "InvalidLetter" 454 (vr 98), en P "is_integer" 463 (vr 107), en P "is_number" 472 (vr 114), en P "lowest" 481 (vr 121), en P "LETTERS" 486 (vr 122), en P "check_letter" 493 (vr 129), en P "check_terms" 503 (vr 136), en P "made_of" 509 (vr 141), en P "power_text" 517 (vr 148), en P "term_text" 523 (vr 153), en P "added" 535 (vr 160), en P "multiplied" 551 (vr 167), en P "powers" 561 (vr 174), en P "Poly" 796 (vr 343), en P "_law_bag" 807 (vr 354), en P "_law_pull" 818 (vr 361), en P "_law_of" 826 (vr 368), en P "_law_same" 832 (vr 373), en P "_law_gcd" 841 (vr 380), en P "_law_low" 850 (vr 387), en P "_law_add" 858 (vr 394), en P "_law_sub" 866 (vr 401), en P "_law_mul" 874 (vr 408), en P "_law_ratio" 883 (vr 415), en P "_law_point" 892 (vr 422), en P "_law_to" 902 (vr 429), en P "_law_gathered" 908 (vr 434), en P "_law_terms" 921 (vr 441), en P "_law_terms_plus" 927 (vr 446), en P "_law_terms_times" 933 (vr 451), en P "_law_terms_at" 946 (vr 458), en P "_law_poly" 952 (vr 463), en P "law" 958 (vr 468)] 46),
(40,oFld [(vi 2), (vi 0), (vr 48), (vi 6), (vi 0), (vr 55), (vi 8), (vi 0), (vr 68), (vi 13), (vi 0), (vr 87), (vi 19), (vi 0), (vr 106), (vi 21), (vi 0), (vr 113), (vi 23), (vi 0), (vr 120), (vi 30), (vi 0), (vr 128), (vi 33), (vi 0), (vr 135), (vi 41), (vi 0), (vr 140), (vi 43), (vi 0), (vr 147), (vi 47), (vi 0), (vr 152), (vi 52), (vi 0), (vr 159), (vi 59), (vi 0), (vr 166), (vi 66), (vi 0), (vr 173), (vi 71), (vi 0), (vr 180), (vi 182), (vi 0), (vr 353), (vi 187), (vi 0), (vr 360), (vi 203), (vi 0), (vr 367), (vi 205), (vi 0), (vr 372), (vi 215), (vi 0), (vr 379), (vi 222), (vi 0), (vr 386), (vi 227), (vi 0), (vr 393), (vi 229), (vi 0), (vr 400), (vi 231), (vi 0), (vr 407), (vi 233), (vi 0), (vr 414), (vi 235), (vi 0), (vr 421), (vi 237), (vi 0), (vr 428), (vi 242), (vi 0), (vr 433), (vi 247), (vi 0), (vr 440), (vi 253), (vi 0), (vr 445), (vi 255), (vi 0), (vr 450), (vi 260), (vi 0), (vr 457), (vi 266), (vi 0), (vr 462), (vi 268), (vi 0), (vr 467)]),
(43,oTup []),
(44,oFld []),
(45,oTup [(.str "k" 379)]),
(46,oTup []),
(47,oFn0 "_wall" "_wall" (top 1)),
(48,oC "_wall" 376 "_wall" 377 378 2 1 0 0 3 43 true 44 .none (vr 45) (vr 46) (vr 47) 380 381),
(49,oFn3 "_wall" "_wall" (top 1) "__main__" 164 48),
(50,oTup [(.type "ValueError")]),
(51,oFldT "builtin_function_or_method" [(.builtin "type.__prepare__"), (.type "type")]),
(52,oDict [en P "__module__" 392 (.str "nearspokes.errors" 383), en P "__qualname__" 394 (.str "PlaneError" 393), en P "__firstlineno__" 396 (.int 6 395), en P "__static_attributes__" 397 (vr 57)] 4),
(53,oTup []),
(54,oFld []),
(55,oC "PlaneError" 387 "PlaneError" 388 389 6 0 0 0 0 53 false 54 .none .none .none .none 390 391),
(56,⟨(.type "frame"), none, .plain, [(some (vr 55)), (some (vr 3)), (some (vr 52)), none, (some (.str "nearspokes.errors" 383)), none, (some (vr 0))].toArray⟩),
(57,oTup []),
(58,oDict [en P "__module__" 392 (.str "nearspokes.errors" 383), en P "__firstlineno__" 396 (.int 6 395), en P "__static_attributes__" 397 (vr 57), en P "__weakref__" 399 (vr 60), en P "__doc__" 400 .none] 3),
(59,⟨(.type "type"), none, (.cls ⟨"PlaneError", [(.type "ValueError")], [(vr 59), (.type "ValueError"), (.type "Exception"), (.type "BaseException"), (.type "object")], 58, "PlaneError", true, [], [(vr 79), (vr 98)], false, none, false⟩), [(some (vr 50)), none, (some (.str "PlaneError" 385)), (some (.str "PlaneError" 393)), (some (.builtin "ValueError.__new__")), (some (.bool true))].toArray⟩),
(60,oFldT "getset_descriptor" [(.str "__weakref__" 398), (vr 59), (.builtin "ExceptionGroup.__weakref__"), .none]),
(61,oFldT "super" [(vr 59), (vr 59), (vr 59)]),
(62,oFldT "builtin_function_or_method" [(.builtin "object.__init_subclass__"), (vr 59)]),
(63,oTup [(vr 59)]),
(64,oFldT "builtin_function_or_method" [(.builtin "type.__prepare__"), (.type "type")]),
(65,oDict [en P "__module__" 410 (.str "nearspokes.errors" 383), en P "__qualname__" 412 (.str "InvalidTerm" 411), en P "__firstlineno__" 414 (.int 8 413), en P "__init__" 422 (vr 76), en P "__static_attributes__" 425 (vr 77)] 5),
(66,oTup []),
(67,oFld [(vi 10), (vi 4), (vr 75)]),
(68,oC "InvalidTerm" 405 "InvalidTerm" 406 407 8 0 0 0 0 66 false 67 .none .none .none .none 408 409),
(69,⟨(.type "frame"), none, .plain, [(some (vr 68)), (some (vr 3)), (some (vr 65)), none, (some (.str "nearspokes.errors" 383)), none, (some (vr 0))].toArray⟩),
(70,oTup []),
(71,oFld []),
(72,oTup [(.str "self" 418), (.str "at" 419)]),
(73,oTup []),
(74,oFn0 "__init__" "InvalidTerm.__init__" (sAt 0 (sBody (top 4)))),
(75,oC "__init__" 415 "InvalidTerm.__init__" 416 417 10 2 0 0 3 70 true 71 .none (vr 72) (vr 73) (vr 74) 420 421),
(76,oFn3 "__init__" "InvalidTerm.__init__" (sAt 0 (sBody (top 4))) "nearspokes.errors" 383 75),
(77,oTup [(.str "at" 423), (.str "code" 424)]),
(78,oDict [en P "__module__" 410 (.str "nearspokes.errors" 383), en P "__firstlineno__" 414 (.int 8 413), en P "__init__" 422 (vr 76), en P "__static_attributes__" 425 (vr 77), en P "__doc__" 426 .none] 2),
(79,⟨(.type "type"), none, (.cls ⟨"InvalidTerm", [(vr 59)], [(vr 79), (vr 59), (.type "ValueError"), (.type "Exception"), (.type "BaseException"), (.type "object")], 78, "InvalidTerm", true, [], [], false, none, false⟩), [(some (vr 63)), none, (some (.str "InvalidTerm" 403)), (some (.str "InvalidTerm" 411)), (some (.builtin "ValueError.__new__")), (some (.bool true))].toArray⟩),
(80,oFldT "super" [(vr 79), (vr 79), (vr 79)])]
def obS1_1 (P : Params) : List (Nat × Obj) := [(81,oFldT "builtin_function_or_method" [(.builtin "object.__init_subclass__"), (vr 79)]),
(82,oTup [(vr 59)]),
(83,oFldT "builtin_function_or_method" [(.builtin "type.__prepare__"), (.type "type")]),
(84,oDict [en P "__module__" 436 (.str "nearspokes.errors" 383), en P "__qualname__" 438 (.str "InvalidLetter" 437), en P "__firstlineno__" 440 (.int 13 439), en P "__init__" 448 (vr 95), en P "__static_attributes__" 451 (vr 96)] 5),
(85,oTup []),
(86,oFld [(vi 15), (vi 4), (vr 94)]),
(87,oC "InvalidLetter" 431 "InvalidLetter" 432 433 13 0 0 0 0 85 false 86 .none .none .none .none 434 435),
(88,⟨(.type "frame"), none, .plain, [(some (vr 87)), (some (vr 3)), (some (vr 84)), none, (some (.str "nearspokes.errors" 383)), none, (some (vr 0))].toArray⟩),
(89,oTup []),
(90,oFld []),
(91,oTup [(.str "self" 444), (.str "given" 445)]),
(92,oTup []),
(93,oFn0 "__init__" "InvalidLetter.__init__" (sAt 0 (sBody (top 5)))),
(94,oC "__init__" 441 "InvalidLetter.__init__" 442 443 15 2 0 0 3 89 true 90 .none (vr 91) (vr 92) (vr 93) 446 447),
(95,oFn3 "__init__" "InvalidLetter.__init__" (sAt 0 (sBody (top 5))) "nearspokes.errors" 383 94),
(96,oTup [(.str "code" 449), (.str "given" 450)]),
(97,oDict [en P "__module__" 436 (.str "nearspokes.errors" 383), en P "__firstlineno__" 440 (.int 13 439), en P "__init__" 448 (vr 95), en P "__static_attributes__" 451 (vr 96), en P "__doc__" 452 .none] 2),
(98,⟨(.type "type"), none, (.cls ⟨"InvalidLetter", [(vr 59)], [(vr 98), (vr 59), (.type "ValueError"), (.type "Exception"), (.type "BaseException"), (.type "object")], 97, "InvalidLetter", true, [], [], false, none, false⟩), [(some (vr 82)), none, (some (.str "InvalidLetter" 429)), (some (.str "InvalidLetter" 437)), (some (.builtin "ValueError.__new__")), (some (.bool true))].toArray⟩),
(99,oFldT "super" [(vr 98), (vr 98), (vr 98)]),
(100,oFldT "builtin_function_or_method" [(.builtin "object.__init_subclass__"), (vr 98)]),
(101,oTup []),
(102,oFld []),
(103,oTup [(.str "value" 460)]),
(104,oTup []),
(105,oFn0 "is_integer" "is_integer" (top 7)),
(106,oC "is_integer" 457 "is_integer" 458 459 19 1 0 0 3 101 true 102 .none (vr 103) (vr 104) (vr 105) 461 462),
(107,oFn3 "is_integer" "is_integer" (top 7) "nearspokes.ratios" 455 106),
(108,oTup []),
(109,oFld []),
(110,oTup [(.str "value" 467), (.str "least" 468), (.str "most" 469)]),
(111,oTup []),
(112,oFn0 "is_number" "is_number" (top 8)),
(113,oC "is_number" 464 "is_number" 465 466 21 3 0 0 3 108 true 109 .none (vr 110) (vr 111) (vr 112) 470 471),
(114,oFn3 "is_number" "is_number" (top 8) "nearspokes.ratios" 455 113),
(115,oTup []),
(116,oFld []),
(117,oTup [(.str "top" 476), (.str "bottom" 477), (.str "divisor" 478)]),
(118,oTup []),
(119,oFn0 "lowest" "lowest" (top 9)),
(120,oC "lowest" 473 "lowest" 474 475 23 2 0 0 3 115 true 116 .none (vr 117) (vr 118) (vr 119) 479 480)]
def obS1_2 (P : Params) : List (Nat × Obj) := [(121,oFn3 "lowest" "lowest" (top 9) "nearspokes.ratios" 455 120),
(122,oTup [(.str "x" 484), (.str "y" 485)]),
(123,oTup []),
(124,oFld []),
(125,oTup [(.str "letter" 490)]),
(126,oTup []),
(127,oFn0 "check_letter" "check_letter" (top 12)),
(128,oC "check_letter" 487 "check_letter" 488 489 30 1 0 0 3 123 true 124 .none (vr 125) (vr 126) (vr 127) 491 492),
(129,oFn3 "check_letter" "check_letter" (top 12) "nearspokes.polys" 482 128),
(130,oTup []),
(131,oFld []),
(132,oTup [(.str "terms" 497), (.str "most" 498), (.str "at" 499), (.str "term" 500)]),
(133,oTup []),
(134,oFn0 "check_terms" "check_terms" (top 13)),
(135,oC "check_terms" 494 "check_terms" 495 496 33 2 0 0 3 130 true 131 .none (vr 132) (vr 133) (vr 134) 501 502),
(136,oFn3 "check_terms" "check_terms" (top 13) "nearspokes.polys" 482 135),
(137,oTup []),
(138,oFld []),
(139,oFn0 "made_of" "made_of" (top 14)),
(140,oC "made_of" 504 "made_of" 505 506 41 1 0 0 3 137 true 138 .none .none .none (vr 139) 507 508),
(141,oFn3 "made_of" "made_of" (top 14) "nearspokes.polys" 482 140),
(142,oTup []),
(143,oFld []),
(144,oTup [(.str "letter" 513), (.str "power" 514)]),
(145,oTup []),
(146,oFn0 "power_text" "power_text" (top 15)),
(147,oC "power_text" 510 "power_text" 511 512 43 2 0 0 3 142 true 143 .none (vr 144) (vr 145) (vr 146) 515 516),
(148,oFn3 "power_text" "power_text" (top 15) "nearspokes.polys" 482 147),
(149,oTup []),
(150,oFld []),
(151,oFn0 "term_text" "term_text" (top 16)),
(152,oC "term_text" 518 "term_text" 519 520 47 3 0 0 3 149 true 150 .none .none .none (vr 151) 521 522),
(153,oFn3 "term_text" "term_text" (top 16) "nearspokes.polys" 482 152),
(154,oTup []),
(155,oFld []),
(156,oTup [(.str "one" 527), (.str "other" 528), (.str "times" 529), (.str "cells" 530), (.str "key" 531), (.str "value" 532)]),
(157,oTup []),
(158,oFn0 "added" "added" (top 17)),
(159,oC "added" 524 "added" 525 526 52 3 0 0 3 154 true 155 .none (vr 156) (vr 157) (vr 158) 533 534),
(160,oFn3 "added" "added" (top 17) "nearspokes.polys" 482 159)]
def obS1_3 (P : Params) : List (Nat × Obj) := [(161,oTup []),
(162,oFld []),
(163,oTup [(.str "one" 539), (.str "other" 540), (.str "cells" 541), (.str "i" 542), (.str "j" 543), (.str "value" 544), (.str "k" 545), (.str "m" 546), (.str "factor" 547), (.str "key" 548)]),
(164,oTup []),
(165,oFn0 "multiplied" "multiplied" (top 18)),
(166,oC "multiplied" 536 "multiplied" 537 538 59 2 0 0 3 161 true 162 .none (vr 163) (vr 164) (vr 165) 549 550),
(167,oFn3 "multiplied" "multiplied" (top 18) "nearspokes.polys" 482 166),
(168,oTup []),
(169,oFld []),
(170,oTup [(.str "base" 555), (.str "most" 556), (.str "found" 557), (.str "_" 558)]),
(171,oTup []),
(172,oFn0 "powers" "powers" (top 19)),
(173,oC "powers" 552 "powers" 553 554 66 2 0 0 3 168 true 169 .none (vr 170) (vr 171) (vr 172) 559 560),
(174,oFn3 "powers" "powers" (top 19) "nearspokes.polys" 482 173),
(175,oTup []),
(176,oFldT "builtin_function_or_method" [(.builtin "type.__prepare__"), (.type "type")]),
(177,oDict [en P "__module__" 569 (.str "nearspokes.polys" 482), en P "__qualname__" 571 (.str "Poly" 570), en P "__firstlineno__" 573 (.int 71 572), en P "__init__" 581 (vr 189), en P "constant" 600 (vr 198), en P "letter" 619 (vr 208), en P "degree" 626 (vr 215), en P "degree_in" 632 (vr 220), en P "lead" 639 (vr 227), en P "terms" 645 (vr 232), en P "coefficient" 654 (vr 239), en P "value_at" 676 (vr 246), en P "slope" 684 (vr 253), en P "normal" 691 (vr 260), en P "text" 702 (vr 267), en P "__add__" 710 (vr 274), en P "__radd__" 718 (vr 281), en P "__sub__" 726 (vr 288), en P "__rsub__" 734 (vr 295), en P "__mul__" 740 (vr 300), en P "__rmul__" 748 (vr 307), en P "__neg__" 754 (vr 312), en P "__pow__" 764 (vr 319), en P "__eq__" 772 (vr 326), en P "__bool__" 779 (vr 333), en P "__repr__" 786 (vr 340), en P "__static_attributes__" 788 (vr 341)] 27),
(178,oTup []),
(179,oFld [(vi 73), (vi 4), (vr 188), (vi 82), (vi 4), (vr 195), (vi 86), (vi 4), (vr 205), (vi 91), (vi 4), (vr 213), (vi 94), (vi 4), (vr 219), (vi 99), (vi 4), (vr 226), (vi 102), (vi 4), (vr 231), (vi 105), (vi 4), (vr 238), (vi 108), (vi 4), (vr 245), (vi 118), (vi 4), (vr 252), (vi 121), (vi 4), (vr 259), (vi 124), (vi 4), (vr 266), (vi 134), (vi 4), (vr 273), (vi 141), (vi 4), (vr 280), (vi 144), (vi 4), (vr 287), (vi 151), (vi 4), (vr 294), (vi 154), (vi 4), (vr 299), (vi 161), (vi 4), (vr 306), (vi 164), (vi 4), (vr 311), (vi 167), (vi 4), (vr 318), (vi 173), (vi 4), (vr 325), (vi 176), (vi 4), (vr 332), (vi 179), (vi 4), (vr 339)]),
(180,oC "Poly" 564 "Poly" 565 566 71 0 0 0 0 178 false 179 .none .none .none .none 567 568),
(181,⟨(.type "frame"), none, .plain, [(some (vr 180)), (some (vr 3)), (some (vr 177)), none, (some (.str "nearspokes.polys" 482)), none, (some (vr 0))].toArray⟩),
(182,oTup []),
(183,oTup [(vr 182)]),
(184,oDict [en P "most" 575 (.int 20 574)] 1),
(185,oTup []),
(186,oFld []),
(187,oFn0 "__init__" "Poly.__init__" (sAt 0 (sBody (top 20)))),
(188,oC "__init__" 576 "Poly.__init__" 577 578 73 2 0 1 3 185 true 186 .none .none .none (vr 187) 579 580),
(189,⟨(.type "function"), none, (.func ⟨"__init__", "Poly.__init__", defArgs (sAt 0 (sBody (top 20))), .stmts (defBody (sAt 0 (sBody (top 20)))), defScope (sAt 0 (sBody (top 20))), 3, [], (vr 183), (vr 184), .none, (.str "nearspokes.polys" 482), none, (vr 188), .none, 0⟩), [].toArray⟩),
(190,oTup []),
(191,oFld []),
(192,oTup [(.str "value" 585)]),
(193,oTup []),
(194,oFn0 "constant" "Poly.constant" (sAt 1 (sBody (top 20)))),
(195,oC "constant" 582 "Poly.constant" 583 584 81 1 0 0 3 190 true 191 .none (vr 192) (vr 193) (vr 194) 586 587),
(196,⟨(.type "function"), none, (.func ⟨"constant", "Poly.constant", defArgs (sAt 1 (sBody (top 20))), .stmts (defBody (sAt 1 (sBody (top 20)))), defScope (sAt 1 (sBody (top 20))), 3, [], .none, .none, .none, (.str "nearspokes.polys" 482), (some 199), (vr 195), .none, 0⟩), [].toArray⟩),
(197,oDict [en P "__module__" 589 (.str "nearspokes.polys" 482), en P "__name__" 592 (.str "constant" 591), en P "__qualname__" 595 (.str "Poly.constant" 594), en P "__doc__" 597 .none, en P "__annotations__" 599 (vr 199)] 5),
(198,⟨(.type "staticmethod"), (some 197), (.fields [(vr 196), (.bool false)].toArray), [].toArray⟩),
(199,oDict [] 0),
(200,oTup [])]
def obS1_4 (P : Params) : List (Nat × Obj) := [(201,oFld []),
(202,oTup [(.str "name" 604)]),
(203,oTup []),
(204,oFn0 "letter" "Poly.letter" (sAt 2 (sBody (top 20)))),
(205,oC "letter" 601 "Poly.letter" 602 603 85 1 0 0 3 200 true 201 .none (vr 202) (vr 203) (vr 204) 605 606),
(206,⟨(.type "function"), none, (.func ⟨"letter", "Poly.letter", defArgs (sAt 2 (sBody (top 20))), .stmts (defBody (sAt 2 (sBody (top 20)))), defScope (sAt 2 (sBody (top 20))), 3, [], .none, .none, .none, (.str "nearspokes.polys" 482), (some 209), (vr 205), .none, 0⟩), [].toArray⟩),
(207,oDict [en P "__module__" 608 (.str "nearspokes.polys" 482), en P "__name__" 611 (.str "letter" 610), en P "__qualname__" 614 (.str "Poly.letter" 613), en P "__doc__" 616 .none, en P "__annotations__" 618 (vr 209)] 5),
(208,⟨(.type "staticmethod"), (some 207), (.fields [(vr 206), (.bool false)].toArray), [].toArray⟩),
(209,oDict [] 0),
(210,oTup []),
(211,oFld []),
(212,oFn0 "degree" "Poly.degree" (sAt 3 (sBody (top 20)))),
(213,oC "degree" 620 "Poly.degree" 621 622 90 1 0 0 3 210 true 211 .none .none .none (vr 212) 623 624),
(214,oFn3 "degree" "Poly.degree" (sAt 3 (sBody (top 20))) "nearspokes.polys" 482 213),
(215,oFldT "property" [(vr 214), .none, .none, .none, (.str "degree" 626), (.bool false)]),
(216,oTup []),
(217,oFld []),
(218,oFn0 "degree_in" "Poly.degree_in" (sAt 4 (sBody (top 20)))),
(219,oC "degree_in" 627 "Poly.degree_in" 628 629 94 2 0 0 3 216 true 217 .none .none .none (vr 218) 630 631),
(220,oFn3 "degree_in" "Poly.degree_in" (sAt 4 (sBody (top 20))) "nearspokes.polys" 482 219),
(221,oTup []),
(222,oFld []),
(223,oTup [(.str "self" 636)]),
(224,oTup []),
(225,oFn0 "lead" "Poly.lead" (sAt 5 (sBody (top 20)))),
(226,oC "lead" 633 "Poly.lead" 634 635 99 1 0 0 3 221 true 222 .none (vr 223) (vr 224) (vr 225) 637 638),
(227,oFn3 "lead" "Poly.lead" (sAt 5 (sBody (top 20))) "nearspokes.polys" 482 226),
(228,oTup []),
(229,oFld []),
(230,oFn0 "terms" "Poly.terms" (sAt 6 (sBody (top 20)))),
(231,oC "terms" 640 "Poly.terms" 641 642 102 1 0 0 3 228 true 229 .none .none .none (vr 230) 643 644),
(232,oFn3 "terms" "Poly.terms" (sAt 6 (sBody (top 20))) "nearspokes.polys" 482 231),
(233,oTup []),
(234,oFld []),
(235,oTup [(.str "self" 649), (.str "i" 650), (.str "j" 651)]),
(236,oTup []),
(237,oFn0 "coefficient" "Poly.coefficient" (sAt 7 (sBody (top 20)))),
(238,oC "coefficient" 646 "Poly.coefficient" 647 648 105 3 0 0 3 233 true 234 .none (vr 235) (vr 236) (vr 237) 652 653),
(239,oFn3 "coefficient" "Poly.coefficient" (sAt 7 (sBody (top 20))) "nearspokes.polys" 482 238),
(240,oTup [])]
def obS1_5 (P : Params) : List (Nat × Obj) := [(241,oFld []),
(242,oTup [(.str "self" 658), (.str "point" 659), (.str "a" 660), (.str "b" 661), (.str "c" 662), (.str "d" 663), (.str "high" 664), (.str "far" 665), (.str "tops" 666), (.str "bottoms" 667), (.str "others" 668), (.str "belows" 669), (.str "total" 670), (.str "i" 671), (.str "j" 672), (.str "value" 673)]),
(243,oTup []),
(244,oFn0 "value_at" "Poly.value_at" (sAt 8 (sBody (top 20)))),
(245,oC "value_at" 655 "Poly.value_at" 656 657 108 2 0 0 3 240 true 241 .none (vr 242) (vr 243) (vr 244) 674 675),
(246,oFn3 "value_at" "Poly.value_at" (sAt 8 (sBody (top 20))) "nearspokes.polys" 482 245),
(247,oTup []),
(248,oFld []),
(249,oTup [(.str "self" 680), (.str "letter" 681)]),
(250,oTup []),
(251,oFn0 "slope" "Poly.slope" (sAt 9 (sBody (top 20)))),
(252,oC "slope" 677 "Poly.slope" 678 679 118 2 0 0 3 247 true 248 .none (vr 249) (vr 250) (vr 251) 682 683),
(253,oFn3 "slope" "Poly.slope" (sAt 9 (sBody (top 20))) "nearspokes.polys" 482 252),
(254,oTup []),
(255,oFld []),
(256,oTup [(.str "self" 688)]),
(257,oTup []),
(258,oFn0 "normal" "Poly.normal" (sAt 10 (sBody (top 20)))),
(259,oC "normal" 685 "Poly.normal" 686 687 121 1 0 0 3 254 true 255 .none (vr 256) (vr 257) (vr 258) 689 690),
(260,oFn3 "normal" "Poly.normal" (sAt 10 (sBody (top 20))) "nearspokes.polys" 482 259),
(261,oTup []),
(262,oFld []),
(263,oTup [(.str "self" 695), (.str "words" 696), (.str "i" 697), (.str "j" 698), (.str "value" 699)]),
(264,oTup []),
(265,oFn0 "text" "Poly.text" (sAt 11 (sBody (top 20)))),
(266,oC "text" 692 "Poly.text" 693 694 124 1 0 0 3 261 true 262 .none (vr 263) (vr 264) (vr 265) 700 701),
(267,oFn3 "text" "Poly.text" (sAt 11 (sBody (top 20))) "nearspokes.polys" 482 266),
(268,oTup []),
(269,oFld []),
(270,oTup [(.str "self" 706), (.str "other" 707)]),
(271,oTup []),
(272,oFn0 "__add__" "Poly.__add__" (sAt 12 (sBody (top 20)))),
(273,oC "__add__" 703 "Poly.__add__" 704 705 134 2 0 0 3 268 true 269 .none (vr 270) (vr 271) (vr 272) 708 709),
(274,oFn3 "__add__" "Poly.__add__" (sAt 12 (sBody (top 20))) "nearspokes.polys" 482 273),
(275,oTup []),
(276,oFld []),
(277,oTup [(.str "self" 714), (.str "other" 715)]),
(278,oTup []),
(279,oFn0 "__radd__" "Poly.__radd__" (sAt 13 (sBody (top 20)))),
(280,oC "__radd__" 711 "Poly.__radd__" 712 713 141 2 0 0 3 275 true 276 .none (vr 277) (vr 278) (vr 279) 716 717)]
def obS1_6 (P : Params) : List (Nat × Obj) := [(281,oFn3 "__radd__" "Poly.__radd__" (sAt 13 (sBody (top 20))) "nearspokes.polys" 482 280),
(282,oTup []),
(283,oFld []),
(284,oTup [(.str "self" 722), (.str "other" 723)]),
(285,oTup []),
(286,oFn0 "__sub__" "Poly.__sub__" (sAt 14 (sBody (top 20)))),
(287,oC "__sub__" 719 "Poly.__sub__" 720 721 144 2 0 0 3 282 true 283 .none (vr 284) (vr 285) (vr 286) 724 725),
(288,oFn3 "__sub__" "Poly.__sub__" (sAt 14 (sBody (top 20))) "nearspokes.polys" 482 287),
(289,oTup []),
(290,oFld []),
(291,oTup [(.str "self" 730), (.str "other" 731)]),
(292,oTup []),
(293,oFn0 "__rsub__" "Poly.__rsub__" (sAt 15 (sBody (top 20)))),
(294,oC "__rsub__" 727 "Poly.__rsub__" 728 729 151 2 0 0 3 289 true 290 .none (vr 291) (vr 292) (vr 293) 732 733),
(295,oFn3 "__rsub__" "Poly.__rsub__" (sAt 15 (sBody (top 20))) "nearspokes.polys" 482 294),
(296,oTup []),
(297,oFld []),
(298,oFn0 "__mul__" "Poly.__mul__" (sAt 16 (sBody (top 20)))),
(299,oC "__mul__" 735 "Poly.__mul__" 736 737 154 2 0 0 3 296 true 297 .none .none .none (vr 298) 738 739),
(300,oFn3 "__mul__" "Poly.__mul__" (sAt 16 (sBody (top 20))) "nearspokes.polys" 482 299),
(301,oTup []),
(302,oFld []),
(303,oTup [(.str "self" 744), (.str "other" 745)]),
(304,oTup []),
(305,oFn0 "__rmul__" "Poly.__rmul__" (sAt 17 (sBody (top 20)))),
(306,oC "__rmul__" 741 "Poly.__rmul__" 742 743 161 2 0 0 3 301 true 302 .none (vr 303) (vr 304) (vr 305) 746 747),
(307,oFn3 "__rmul__" "Poly.__rmul__" (sAt 17 (sBody (top 20))) "nearspokes.polys" 482 306),
(308,oTup []),
(309,oFld []),
(310,oFn0 "__neg__" "Poly.__neg__" (sAt 18 (sBody (top 20)))),
(311,oC "__neg__" 749 "Poly.__neg__" 750 751 164 1 0 0 3 308 true 309 .none .none .none (vr 310) 752 753),
(312,oFn3 "__neg__" "Poly.__neg__" (sAt 18 (sBody (top 20))) "nearspokes.polys" 482 311),
(313,oTup []),
(314,oFld []),
(315,oTup [(.str "self" 758), (.str "times" 759), (.str "found" 760), (.str "_" 761)]),
(316,oTup []),
(317,oFn0 "__pow__" "Poly.__pow__" (sAt 19 (sBody (top 20)))),
(318,oC "__pow__" 755 "Poly.__pow__" 756 757 167 2 0 0 3 313 true 314 .none (vr 315) (vr 316) (vr 317) 762 763),
(319,oFn3 "__pow__" "Poly.__pow__" (sAt 19 (sBody (top 20))) "nearspokes.polys" 482 318),
(320,oTup [])]
def obS1_7 (P : Params) : List (Nat × Obj) := [(321,oFld []),
(322,oTup [(.str "self" 768), (.str "other" 769)]),
(323,oTup []),
(324,oFn0 "__eq__" "Poly.__eq__" (sAt 20 (sBody (top 20)))),
(325,oC "__eq__" 765 "Poly.__eq__" 766 767 173 2 0 0 3 320 true 321 .none (vr 322) (vr 323) (vr 324) 770 771),
(326,oFn3 "__eq__" "Poly.__eq__" (sAt 20 (sBody (top 20))) "nearspokes.polys" 482 325),
(327,oTup []),
(328,oFld []),
(329,oTup [(.str "self" 776)]),
(330,oTup []),
(331,oFn0 "__bool__" "Poly.__bool__" (sAt 21 (sBody (top 20)))),
(332,oC "__bool__" 773 "Poly.__bool__" 774 775 176 1 0 0 3 327 true 328 .none (vr 329) (vr 330) (vr 331) 777 778),
(333,oFn3 "__bool__" "Poly.__bool__" (sAt 21 (sBody (top 20))) "nearspokes.polys" 482 332),
(334,oTup []),
(335,oFld []),
(336,oTup [(.str "self" 783)]),
(337,oTup []),
(338,oFn0 "__repr__" "Poly.__repr__" (sAt 22 (sBody (top 20)))),
(339,oC "__repr__" 780 "Poly.__repr__" 781 782 179 1 0 0 3 334 true 335 .none (vr 336) (vr 337) (vr 338) 784 785),
(340,oFn3 "__repr__" "Poly.__repr__" (sAt 22 (sBody (top 20))) "nearspokes.polys" 482 339),
(341,oTup [(.str "cells" 787)]),
(342,oDict [en P "__module__" 569 (.str "nearspokes.polys" 482), en P "__firstlineno__" 573 (.int 71 572), en P "__init__" 581 (vr 189), en P "constant" 600 (vr 198), en P "letter" 619 (vr 208), en P "degree" 626 (vr 215), en P "degree_in" 632 (vr 220), en P "lead" 639 (vr 227), en P "terms" 645 (vr 232), en P "coefficient" 654 (vr 239), en P "value_at" 676 (vr 246), en P "slope" 684 (vr 253), en P "normal" 691 (vr 260), en P "text" 702 (vr 267), en P "__add__" 710 (vr 274), en P "__radd__" 718 (vr 281), en P "__sub__" 726 (vr 288), en P "__rsub__" 734 (vr 295), en P "__mul__" 740 (vr 300), en P "__rmul__" 748 (vr 307), en P "__neg__" 754 (vr 312), en P "__pow__" 764 (vr 319), en P "__eq__" 772 (vr 326), en P "__bool__" 779 (vr 333), en P "__repr__" 786 (vr 340), en P "__static_attributes__" 788 (vr 341), en P "__dict__" 790 (vr 344), en P "__weakref__" 792 (vr 345), en P "__doc__" 793 .none, en P "__hash__" 794 .none] 5),
(343,⟨(.type "type"), none, (.cls ⟨"Poly", [(.type "object")], [(vr 343), (.type "object")], 342, "Poly", true, [], [], false, none, false⟩), [none, none, (some (.str "Poly" 562)), (some (.str "Poly" 570)), (some (.builtin "object.__new__")), (some (.bool true))].toArray⟩),
(344,oFldT "getset_descriptor" [(.str "__dict__" 789), (vr 343), (.builtin "function.__dict__"), (.builtin "function.__dict__#set")]),
(345,oFldT "getset_descriptor" [(.str "__weakref__" 791), (vr 343), (.builtin "ExceptionGroup.__weakref__"), .none]),
(346,oFldT "super" [(vr 343), (vr 343), (vr 343)]),
(347,oFldT "builtin_function_or_method" [(.builtin "object.__init_subclass__"), (vr 343)]),
(348,oTup []),
(349,oFld []),
(350,oTup [(.str "_law_script" 802), (.str "_law_mixed" 803), (.str "_law_cell" 804)]),
(351,oTup []),
(352,oFn0 "_law_bag" "_law_bag" (top 22)),
(353,oC "_law_bag" 799 "_law_bag" 800 801 182 1 0 0 3 348 true 349 .none (vr 350) (vr 351) (vr 352) 805 806),
(354,oFn3 "_law_bag" "_law_bag" (top 22) "law_nearspokes_k06_whole_polys_reckoned" 797 353),
(355,oTup []),
(356,oFld []),
(357,oTup [(.str "_law_bag_here" 811), (.str "_law_many" 812), (.str "_law_cell" 813), (.str "_law_digit" 814), (.str "_law_seed" 815)]),
(358,oTup []),
(359,oFn0 "_law_pull" "_law_pull" (top 23)),
(360,oC "_law_pull" 808 "_law_pull" 809 810 187 2 0 0 3 355 true 356 .none (vr 357) (vr 358) (vr 359) 816 817)]
def obS1_8 (P : Params) : List (Nat × Obj) := [(361,oFn3 "_law_pull" "_law_pull" (top 23) "law_nearspokes_k06_whole_polys_reckoned" 797 360),
(362,oTup []),
(363,oFld []),
(364,oTup [(.str "_law_bag_here" 822), (.str "_law_some" 823)]),
(365,oTup []),
(366,oFn0 "_law_of" "_law_of" (top 24)),
(367,oC "_law_of" 819 "_law_of" 820 821 203 2 0 0 3 362 true 363 .none (vr 364) (vr 365) (vr 366) 824 825),
(368,oFn3 "_law_of" "_law_of" (top 24) "law_nearspokes_k06_whole_polys_reckoned" 797 367),
(369,oTup []),
(370,oFld []),
(371,oFn0 "_law_same" "_law_same" (top 25)),
(372,oC "_law_same" 827 "_law_same" 828 829 205 2 0 0 3 369 true 370 .none .none .none (vr 371) 830 831),
(373,oFn3 "_law_same" "_law_same" (top 25) "law_nearspokes_k06_whole_polys_reckoned" 797 372),
(374,oTup []),
(375,oFld []),
(376,oTup [(.str "_law_one" 836), (.str "_law_two" 837), (.str "_law_k" 838)]),
(377,oTup []),
(378,oFn0 "_law_gcd" "_law_gcd" (top 26)),
(379,oC "_law_gcd" 833 "_law_gcd" 834 835 215 2 0 0 3 374 true 375 .none (vr 376) (vr 377) (vr 378) 839 840),
(380,oFn3 "_law_gcd" "_law_gcd" (top 26) "law_nearspokes_k06_whole_polys_reckoned" 797 379),
(381,oTup []),
(382,oFld []),
(383,oTup [(.str "_law_top" 845), (.str "_law_under" 846), (.str "_law_shared" 847)]),
(384,oTup []),
(385,oFn0 "_law_low" "_law_low" (top 27)),
(386,oC "_law_low" 842 "_law_low" 843 844 222 2 0 0 3 381 true 382 .none (vr 383) (vr 384) (vr 385) 848 849),
(387,oFn3 "_law_low" "_law_low" (top 27) "law_nearspokes_k06_whole_polys_reckoned" 797 386),
(388,oTup []),
(389,oFld []),
(390,oTup [(.str "_law_one" 854), (.str "_law_two" 855)]),
(391,oTup []),
(392,oFn0 "_law_add" "_law_add" (top 28)),
(393,oC "_law_add" 851 "_law_add" 852 853 227 2 0 0 3 388 true 389 .none (vr 390) (vr 391) (vr 392) 856 857),
(394,oFn3 "_law_add" "_law_add" (top 28) "law_nearspokes_k06_whole_polys_reckoned" 797 393),
(395,oTup []),
(396,oFld []),
(397,oTup [(.str "_law_one" 862), (.str "_law_two" 863)]),
(398,oTup []),
(399,oFn0 "_law_sub" "_law_sub" (top 29)),
(400,oC "_law_sub" 859 "_law_sub" 860 861 229 2 0 0 3 395 true 396 .none (vr 397) (vr 398) (vr 399) 864 865)]
def obS1_9 (P : Params) : List (Nat × Obj) := [(401,oFn3 "_law_sub" "_law_sub" (top 29) "law_nearspokes_k06_whole_polys_reckoned" 797 400),
(402,oTup []),
(403,oFld []),
(404,oTup [(.str "_law_one" 870), (.str "_law_two" 871)]),
(405,oTup []),
(406,oFn0 "_law_mul" "_law_mul" (top 30)),
(407,oC "_law_mul" 867 "_law_mul" 868 869 231 2 0 0 3 402 true 403 .none (vr 404) (vr 405) (vr 406) 872 873),
(408,oFn3 "_law_mul" "_law_mul" (top 30) "law_nearspokes_k06_whole_polys_reckoned" 797 407),
(409,oTup []),
(410,oFld []),
(411,oTup [(.str "_law_bag_here" 878), (.str "_law_high" 879), (.str "_law_under" 880)]),
(412,oTup []),
(413,oFn0 "_law_ratio" "_law_ratio" (top 31)),
(414,oC "_law_ratio" 875 "_law_ratio" 876 877 233 3 0 0 3 409 true 410 .none (vr 411) (vr 412) (vr 413) 881 882),
(415,oFn3 "_law_ratio" "_law_ratio" (top 31) "law_nearspokes_k06_whole_polys_reckoned" 797 414),
(416,oTup []),
(417,oFld []),
(418,oTup [(.str "_law_bag_here" 887), (.str "_law_high" 888), (.str "_law_under" 889)]),
(419,oTup []),
(420,oFn0 "_law_point" "_law_point" (top 32)),
(421,oC "_law_point" 884 "_law_point" 885 886 235 3 0 0 3 416 true 417 .none (vr 418) (vr 419) (vr 420) 890 891),
(422,oFn3 "_law_point" "_law_point" (top 32) "law_nearspokes_k06_whole_polys_reckoned" 797 421),
(423,oTup []),
(424,oFld []),
(425,oTup [(.str "_law_base" 896), (.str "_law_often_z" 897), (.str "_law_found" 898), (.str "_law_k" 899)]),
(426,oTup []),
(427,oFn0 "_law_to" "_law_to" (top 33)),
(428,oC "_law_to" 893 "_law_to" 894 895 237 2 0 0 3 423 true 424 .none (vr 425) (vr 426) (vr 427) 900 901),
(429,oFn3 "_law_to" "_law_to" (top 33) "law_nearspokes_k06_whole_polys_reckoned" 797 428),
(430,oTup []),
(431,oFld []),
(432,oFn0 "_law_gathered" "_law_gathered" (top 34)),
(433,oC "_law_gathered" 903 "_law_gathered" 904 905 242 1 0 0 3 430 true 431 .none .none .none (vr 432) 906 907),
(434,oFn3 "_law_gathered" "_law_gathered" (top 34) "law_nearspokes_k06_whole_polys_reckoned" 797 433),
(435,oTup []),
(436,oFld []),
(437,oTup [(.str "_law_bag_here" 912), (.str "_law_high" 913), (.str "_law_many" 914), (.str "_law_size" 915), (.str "_law_found" 916), (.str "_law_k" 917), (.str "_law_i" 918)]),
(438,oTup []),
(439,oFn0 "_law_terms" "_law_terms" (top 35)),
(440,oC "_law_terms" 909 "_law_terms" 910 911 247 4 0 0 3 435 true 436 .none (vr 437) (vr 438) (vr 439) 919 920)]
def obS1_10 (P : Params) : List (Nat × Obj) := [(441,oFn3 "_law_terms" "_law_terms" (top 35) "law_nearspokes_k06_whole_polys_reckoned" 797 440),
(442,oTup []),
(443,oFld []),
(444,oFn0 "_law_terms_plus" "_law_terms_plus" (top 36)),
(445,oC "_law_terms_plus" 922 "_law_terms_plus" 923 924 253 3 0 0 3 442 true 443 .none .none .none (vr 444) 925 926),
(446,oFn3 "_law_terms_plus" "_law_terms_plus" (top 36) "law_nearspokes_k06_whole_polys_reckoned" 797 445),
(447,oTup []),
(448,oFld []),
(449,oFn0 "_law_terms_times" "_law_terms_times" (top 37)),
(450,oC "_law_terms_times" 928 "_law_terms_times" 929 930 255 2 0 0 3 447 true 448 .none .none .none (vr 449) 931 932),
(451,oFn3 "_law_terms_times" "_law_terms_times" (top 37) "law_nearspokes_k06_whole_polys_reckoned" 797 450),
(452,oTup []),
(453,oFld []),
(454,oTup [(.str "_law_terms_z" 937), (.str "_law_spot_z" 938), (.str "_law_found" 939), (.str "_law_i" 940), (.str "_law_j" 941), (.str "_law_worth_z" 942), (.str "_law_one" 943)]),
(455,oTup []),
(456,oFn0 "_law_terms_at" "_law_terms_at" (top 38)),
(457,oC "_law_terms_at" 934 "_law_terms_at" 935 936 260 2 0 0 3 452 true 453 .none (vr 454) (vr 455) (vr 456) 944 945),
(458,oFn3 "_law_terms_at" "_law_terms_at" (top 38) "law_nearspokes_k06_whole_polys_reckoned" 797 457),
(459,oTup []),
(460,oFld []),
(461,oFn0 "_law_poly" "_law_poly" (top 39)),
(462,oC "_law_poly" 947 "_law_poly" 948 949 266 1 0 0 3 459 true 460 .none .none .none (vr 461) 950 951),
(463,oFn3 "_law_poly" "_law_poly" (top 39) "law_nearspokes_k06_whole_polys_reckoned" 797 462),
(464,oTup []),
(465,oFld []),
(466,oFn0 "law" "law" (top 40)),
(467,oC "law" 953 "law" 954 955 268 1 0 0 3 464 true 465 .none .none .none (vr 466) 956 957),
(468,oFn3 "law" "law" (top 40) "law_nearspokes_k06_whole_polys_reckoned" 797 467)]
def trS1 (P : Params) : BT := insAll (obS1_10 P) (insAll (obS1_9 P) (insAll (obS1_8 P) (insAll (obS1_7 P) (insAll (obS1_6 P) (insAll (obS1_5 P) (insAll (obS1_4 P) (insAll (obS1_3 P) (insAll (obS1_2 P) (insAll (obS1_1 P) (insAll (obS1_0 P) (trA P)))))))))))
def stS1 (w : World) : SharedT := ⟨trS1 w.params, 469, life0, #[], ⟨0, 0, 0, 0⟩, 959, os0⟩
def stF (w : World) : SharedT := ⟨trS1 w.params, 469, life0, #[], ⟨0, 0, 0, 0⟩, 959, os0⟩
def l1 : List Stmt := (bdy.drop 0).take 40
def Opn (w : World) : Prop := openF (fun q => stepQ (denQ tabQ) q w) fenceQ 40000 RR0.prog = some (stX w, ann0)
set_option maxHeartbeats 0 in
theorem Opn_0 (w : World) : Opn w := by
  unfold Opn
  kernel_rfl
def Pre (w : World) : Prop := goK (stepQ (denQ tabQ) RR0.prog w) 39 ann0 12 (stX w) (topStub RR0.prog) = some (stA w, ⟨denQ tabQ cd0, cd0, ⟨0, 0, 0, 0⟩, [topFrame q0]⟩)
set_option maxHeartbeats 0 in
theorem Pre_0 (w : World) : Pre w := by
  unfold Pre
  kernel_rfl
def Blk (w : World) : Prop := segF (stepQ (denQ tabQ) RR0.prog w) 39 ann0 1 (stA w) (blockOfQ bdy env0 cd0 ⟨0, 0, 0, 0⟩ [topFrame q0]) = some (.next, stB w, cd0, ⟨0, 0, 0, 0⟩)
set_option maxHeartbeats 0 in
theorem Blk_0 (w : World) : Blk w := by
  unfold Blk
  kernel_rfl
def Sg1 (w : World) : Prop := segF (stepQ (denQ tabQ) RR0.prog w) 39 ann0 2913 (stB w) (piecesQ l1 env0 cd0 ⟨0, 0, 0, 0⟩ [topFrame q0]) = some (.next, stS1 w, cd0, ⟨268, 0, 305, 122⟩)
set_option maxHeartbeats 0 in
theorem Sg1_0 (w : World) : Sg1 w := by
  unfold Sg1
  kernel_rfl
def Fin (w : World) : Prop := goF (stepQ (denQ tabQ) RR0.prog w) 39 ann0 5 (stS1 w) ⟨doneF .next, cd0, ⟨268, 0, 305, 122⟩, [topFrame q0]⟩ = some (stF w)
set_option maxHeartbeats 0 in
theorem Fin_0 (w : World) : Fin w := by
  unfold Fin
  kernel_rfl
theorem bdy_eq : bdy = l1 ++ [] := by kernel_rfl
theorem run_of (w : World) (hX : Opn w) (hA : Pre w) (hB : Blk w) (h1 : Sg1 w) (hF : Fin w) : fencedOpening treeTable RR0.prog w 40000 = some (stX w).abs ∧ ((stX w).abs.heap.isNs mainGlobals && (stX w).abs.gens.size == 0) = true ∧ topRun treeTable RR0.prog w (stX w).abs.heap.objs.size ((stX w).abs.heap.nsMap mainGlobals "__annotations__") 40000 (stX w).abs (topStub RR0.prog) = some (stF w).abs := by
  obtain ⟨a, b, c, d⟩ := openF_ok (opn_of hX)
  refine ⟨a, b, ?_⟩
  rw [c, d]
  have z0 : topRun treeTable RR0.prog w 39 ann0 ((2913 + 5)) (stB w).abs (restOf (l1 ++ []) env0 cd0 ⟨0, 0, 0, 0⟩ [topFrame q0]) = some (stF w).abs := (piece_app (seg_of h1) (piece_nil (fin_of hF)))
  have z : topRun treeTable RR0.prog w 39 ann0 (12 + (1 + (2913 + 5))) (stX w).abs (topStub RR0.prog) = some (stF w).abs := go_top (pre_of hA) (piece_block (blk_of hB) (by rw [bdy_eq] ; exact z0))
  exact topRun_mono 37069 _ _ _ _ z
end
end Seg
end T06
namespace DL
open PySem L2
/-- a lambda without parameters, or with one whose default is 0: its words, its parameters, the names that it captures -/
structure LamF where
  params : Arguments
  body : Expr
  scope : Scope
  qual : Str
  ps : List Str
  fr : List Str
/-- a value as a whole: what can be seen of it; fnv: a lambda of the running def, cl its cells; clo: a lambda and what its cells hold; tab: a table of code objects; ptr: a thing of the ledger, a def, a class; kt: a tuple of ints and texts that may be a dict's key -/
inductive D where
  | non | bl (b : Bool) | int (i : Int) | str (x : Str)
  | lst (xs : List D) | tup (xs : List D) | ro (xs : List D)
  | dk (ks : List Key) (vs : List D) | dt (ks : List (List Key)) (vs : List D)
  | obj (C : Addr) (ns : List Str) (vs : List D)
  | exc (C : Addr) (ns : List Str) (vs : List D)
  | fnv (F : LamF) (cl : List (Str × Addr))
  | clo (F : LamF) (ds : List D)
  | tab (q : Str)
  | ptr (a : Addr) | ty (n : String) | kt (ks : List Key)
/-- mutable things, by address -/
abbrev Led := List (Addr × D)
def inL (L : Led) (a : Addr) : Prop := a ∈ L.map (·.1)
def SqL' (L : Led) (K : PySem.W.Frag) (H : Hp) (a : Addr) (xs : List V) : Prop :=
  (¬ inL L a ∧ Rd H a (.lst xs)) ∨
    ∃ (o : Obj) (its : Array Value) (n : Nat), K.lookup a = some o ∧ o.cls = .type "list" ∧ o.dict = none ∧ o.data = .seq its n ∧ its.size ≤ sizeLine ∧ Vals xs its.toList
def SqT' (L : Led) (K : PySem.W.Frag) (H : Hp) (a : Addr) (xs : List V) : Prop :=
  (¬ inL L a ∧ Rd H a (.tup xs)) ∨
    ∃ (o : Obj) (its : Array Value) (n : Nat), K.lookup a = some o ∧ o.cls = .type "tuple" ∧ o.data = .seq its n ∧ its.size ≤ sizeLine ∧ Vals xs its.toList
theorem SqL'.sq {L K H a xs} (h : SqL' L K H a xs) : SqL K H a xs := h.elim (fun z => .inl z.2) .inr
theorem SqT'.sq {L K H a xs} (h : SqT' L K H a xs) : SqT K H a xs := h.elim (fun z => .inl z.2) .inr
/-- an error of the class at C stands at a, its own dict at d -/
def ExcAt (h : Heap) (a C d : Addr) : Prop := ∃ (oe : Obj) (vs : Array Value), h.get? a = some oe ∧ oe.cls = .ref C ∧ oe.dict = some d ∧ oe.data = .fields vs
def XDict (H : Hp) (d : Addr) (fs : List (Str × V)) : Prop := H d = some (.xd fs) ∨ H d = some (exd d fs)
/-- the object at f is the lambda F with the cells cl, the defaults dV, the code object at c -/
def LamO (f : Addr) (F : LamF) (cl : List (Str × Addr)) (dV : Value) (c : Addr) : HO := .ext fun h => ∃ (od : Option Addr) (sl : Array (Option Value)) (doc pm ctv : Value), h.get? f = some (⟨.type "function", od, .func (PySem.W.kdv_fn "<lambda>" F.qual F.params (.expr F.body) F.scope cl dV doc pm (.ref c) ctv), sl⟩ : Obj)
def DvAt (L : Led) (H : Hp) (n : Nat) (dV : Value) : Prop := (n = 0 ∧ dV = .none) ∨ (n ≠ 0 ∧ ∃ t, dV = .ref t ∧ ¬ inL L t ∧ H t = some (.tup (List.replicate n (.int 0))))
structure FnvAt (L : Led) (H : Hp) (f : Addr) (F : LamF) (cl : List (Str × Addr)) : Prop where
  nf : ¬ inL L f
  ex : ∃ (c : Addr) (dV : Value), H f = some (LamO f F cl dV c) ∧ ¬ inL L c ∧ H c = some (LamX.CodeO c F.qual) ∧ DvAt L H F.ps.length dV
/-- a cell that is known to the object -/
abbrev celO (o : Obj) : HO := .frz o (.own 0)
/-- .. and its cells are known: they hold vs -/
structure CloAt (L : Led) (H : Hp) (f : Addr) (F : LamF) (vs : List V) : Prop where
  ex : ∃ cl : List (Str × Addr), FnvAt L H f F cl ∧ vs.length = F.fr.length ∧ (∀ x y c, cl.lookup x = some c → cl.lookup y = some c → x = y) ∧ (∀ y c, cl.lookup y = some c → y ∈ F.fr) ∧
    ∀ (i : Nat) (y : Str), F.fr[i]? = some y → ∃ (cc : Addr) (oc : Obj) (u : Value) (v : V), cl.lookup y = some cc ∧ ¬ inL L cc ∧ H cc = some (celO oc) ∧ oc.data = .cell (some u) ∧ vs[i]? = some v ∧ RelV v u
mutual
inductive Rp (L : Led) (K : PySem.W.Frag) (H : Hp) : V → D → Prop
  | non : Rp L K H .non .non
  | bl (b : Bool) : Rp L K H (.bl b) (.bl b)
  | int (i : Int) : Rp L K H (.int i) (.int i)
  | str (x : Str) : Rp L K H (.str x) (.str x)
  | ty (n : String) : Rp L K H (.ty n) (.ty n)
  | ptr (a : Addr) : Rp L K H (.ref a) (.ptr a)
  | lst {a : Addr} {xs : List V} {ds : List D} : ¬ inL L a → H a = some (.lst xs) → RpAll L K H xs ds → Rp L K H (.ref a) (.lst ds)
  | ro {a : Addr} {xs : List V} {ds : List D} : SqL' L K H a xs → RpAll L K H xs ds → Rp L K H (.ref a) (.ro ds)
  | tup {a : Addr} {xs : List V} {ds : List D} : SqT' L K H a xs → RpAll L K H xs ds → Rp L K H (.ref a) (.tup ds)
  | dk {a : Addr} {ks : List Key} {xs : List V} {ds : List D} : ¬ inL L a → Rd H a (.dK (ks.zip xs)) → ks.length = xs.length → RpAll L K H xs ds → Rp L K H (.ref a) (.dk ks ds)
  | dt {a : Addr} {ks : List (List Key)} {xs : List V} {ds : List D} : ¬ inL L a → Rd H a (.dT (ks.zip xs)) → ks.length = xs.length → RpAll L K H xs ds → Rp L K H (.ref a) (.dt ks ds)
  | obj {a C dx : Addr} {ns : List Str} {xs : List V} {ds : List D} : ¬ inL L a → H a = some (.ins C dx (ns.zip xs)) → ns.length = xs.length → RpAll L K H xs ds → Rp L K H (.ref a) (.obj C ns ds)
  | exc {a C d : Addr} {φ : Heap → Prop} {ns : List Str} {xs : List V} {ds : List D} : ¬ inL L a → ¬ inL L d → H a = some (.ext φ) → (∀ h, φ h → ExcAt h a C d) → XDict H d (ns.zip xs) → ns.length = xs.length → RpAll L K H xs ds → Rp L K H (.ref a) (.exc C ns ds)
  | fnv {f : Addr} {F : LamF} {cl : List (Str × Addr)} : FnvAt L H f F cl → Rp L K H (.ref f) (.fnv F cl)
  | clo {f : Addr} {F : LamF} {xs : List V} {ds : List D} : CloAt L H f F xs → RpAll L K H xs ds → Rp L K H (.ref f) (.clo F ds)
  | kt {a : Addr} {ks : List Key} : ¬ inL L a → H a = some (.tup (ks.map kV)) → Rp L K H (.ref a) (.kt ks)
inductive RpAll (L : Led) (K : PySem.W.Frag) (H : Hp) : List V → List D → Prop
  | nil : RpAll L K H [] []
  | cons {v : V} {vs : List V} {d : D} {ds : List D} : Rp L K H v d → RpAll L K H vs ds → RpAll L K H (v :: vs) (d :: ds)
end
/-- a dict's content -/
def dicO : HO → Bool
  | .dK _ => true
  | .dT _ => true
  | _ => false
/-- o stands there, or o locked, if it is a dict -/
def GoO (o : HO) (r : Option HO) : Prop := r = some o ∨ (dicO o = true ∧ ∃ ob, r = some (.frz ob o))
theorem GoO.ex {o : HO} {r : Option HO} (g : GoO o r) (h : dicO o = false) : r = some o := g.elim id fun z => by rw [h] at z; cases z.1
/-- from (L, H) to (L', H'): what is not of the ledger stands (a dict may be locked meanwhile) -/
def Go (L L' : Led) (H H' : Hp) : Prop := ∀ a o, ¬ inL L a → H a = some o → ¬ inL L' a ∧ GoO o (H' a)
theorem Go.refl (L : Led) (H : Hp) : Go L L H H := fun _ _ n h => ⟨n, .inl h⟩
theorem Go.mk' {L L' : Led} {H H' : Hp} (h : ∀ a o, ¬ inL L a → H a = some o → ¬ inL L' a ∧ H' a = some o) : Go L L' H H' := fun a o n e => ⟨(h a o n e).1, .inl (h a o n e).2⟩
theorem Go.at' {L L' : Led} {H H' : Hp} (g : Go L L' H H') {a : Addr} {o : HO} (n : ¬ inL L a) (h : H a = some o) (hd : dicO o = false := by rfl) : ¬ inL L' a ∧ H' a = some o := ⟨(g a o n h).1, (g a o n h).2.ex hd⟩
theorem Go.trans {L L1 L2 : Led} {H H1 H2 : Hp} (a : Go L L1 H H1) (b : Go L1 L2 H1 H2) : Go L L2 H H2 := fun x o n h => by
  obtain ⟨n1, h1⟩ := a x o n h
  rcases h1 with h1 | ⟨hd, ob, h1⟩
  · exact b x o n1 h1
  · obtain ⟨n2, h2⟩ := b.at' n1 h1
    exact ⟨n2, .inr ⟨hd, ob, h2⟩⟩
theorem Go.same {L : Led} {H H' : Hp} (s : Same H H') : Go L L H H' := .mk' fun a o n h => ⟨n, s a o h⟩
theorem Go.rd {L L' : Led} {H H' : Hp} {a : Addr} {u : HO} (g : Go L L' H H') (n : ¬ inL L a) (h : Rd H a u) : ¬ inL L' a ∧ Rd H' a u := by
  rcases h with h | ⟨o, h⟩
  · exact ⟨(g a _ n h).1, (g a _ n h).2.elim .inl fun z => .inr z.2⟩
  · exact ⟨(g a _ n h).1, .inr ⟨o, (g.at' n h).2⟩⟩
theorem Go.sqL {L L' K H H' a xs} (g : Go L L' H H') (h : SqL' L K H a xs) : SqL' L' K H' a xs := h.elim (fun z => .inl (g.rd z.1 z.2)) .inr
theorem Go.sqT {L L' K H H' a xs} (g : Go L L' H H') (h : SqT' L K H a xs) : SqT' L' K H' a xs := h.elim (fun z => .inl (g.rd z.1 z.2)) .inr
theorem Go.xdict {L L' : Led} {H H' : Hp} {d : Addr} {fs : List (Str × V)} (g : Go L L' H H') (n : ¬ inL L d) (h : XDict H d fs) : ¬ inL L' d ∧ XDict H' d fs := by
  rcases h with h | h
  · exact ⟨(g d _ n h).1, .inl (g.at' n h).2⟩
  · exact ⟨(g d _ n h).1, .inr (g.at' n h).2⟩
theorem Go.fnv {L L' : Led} {H H' : Hp} {f : Addr} {F : LamF} {cl : List (Str × Addr)} (g : Go L L' H H') (h : FnvAt L H f F cl) : FnvAt L' H' f F cl := by
  obtain ⟨nf, c, dV, h1, n2, h2, h3⟩ := h
  refine ⟨(g _ _ nf h1).1, c, dV, (g.at' nf h1).2, (g _ _ n2 h2).1, (g.at' n2 h2).2, ?_⟩
  rcases h3 with h3 | ⟨z, t, e, n, h3⟩
  · exact .inl h3
  · exact .inr ⟨z, t, e, (g _ _ n h3).1, (g.at' n h3).2⟩
theorem Go.clo {L L' : Led} {H H' : Hp} {f : Addr} {F : LamF} {vs : List V} (g : Go L L' H H') (h : CloAt L H f F vs) : CloAt L' H' f F vs := by
  obtain ⟨cl, h1, h2, h3, h4, h5⟩ := h
  refine ⟨cl, g.fnv h1, h2, h3, h4, fun i y e => ?_⟩
  obtain ⟨cc, oc, u, v, q1, n, q2, q3⟩ := h5 i y e
  exact ⟨cc, oc, u, v, q1, (g _ _ n q2).1, (g.at' n q2).2, q3⟩
mutual
theorem Rp.go {L L' : Led} {K : PySem.W.Frag} {H H' : Hp} (g : Go L L' H H') : ∀ {v : V} {d : D}, Rp L K H v d → Rp L' K H' v d
  | _, _, .non => .non
  | _, _, .bl b => .bl b
  | _, _, .int i => .int i
  | _, _, .str x => .str x
  | _, _, .ty n => .ty n
  | _, _, .ptr a => .ptr a
  | _, _, .lst n h r => .lst (g _ _ n h).1 (g.at' n h).2 (RpAll.go g r)
  | _, _, .ro s r => .ro (g.sqL s) (RpAll.go g r)
  | _, _, .tup s r => .tup (g.sqT s) (RpAll.go g r)
  | _, _, .dk n h e r => .dk (g.rd n h).1 (g.rd n h).2 e (RpAll.go g r)
  | _, _, .dt n h e r => .dt (g.rd n h).1 (g.rd n h).2 e (RpAll.go g r)
  | _, _, .obj n h e r => .obj (g _ _ n h).1 (g.at' n h).2 e (RpAll.go g r)
  | _, _, .exc n m h p x e r => .exc (g _ _ n h).1 (g.xdict m x).1 (g.at' n h).2 p (g.xdict m x).2 e (RpAll.go g r)
  | _, _, .fnv h => .fnv (g.fnv h)
  | _, _, .clo h r => .clo (g.clo h) (RpAll.go g r)
  | _, _, .kt n h => .kt (g _ _ n h).1 (g.at' n h).2
theorem RpAll.go {L L' : Led} {K : PySem.W.Frag} {H H' : Hp} (g : Go L L' H H') : ∀ {vs : List V} {ds : List D}, RpAll L K H vs ds → RpAll L' K H' vs ds
  | _, _, .nil => .nil
  | _, _, .cons h r => .cons (Rp.go g h) (RpAll.go g r)
end
section
variable {L : Led} {K : PySem.W.Frag} {H : Hp}
theorem RpAll.length : ∀ {vs : List V} {ds : List D}, RpAll L K H vs ds → vs.length = ds.length
  | _, _, .nil => rfl
  | _, _, .cons _ r => by rw [List.length_cons, List.length_cons, RpAll.length r]
theorem RpAll.get : ∀ {vs : List V} {ds : List D} {i : Nat} {d : D}, RpAll L K H vs ds → ds[i]? = some d → ∃ v, vs[i]? = some v ∧ Rp L K H v d
  | _, _, _, _, .nil, e => by simp at e
  | _, _, 0, _, .cons h _, e => by simp at e; subst e; exact ⟨_, rfl, h⟩
  | _, _, i + 1, d, .cons _ r, e => by
    obtain ⟨v, e1, h⟩ := RpAll.get (i := i) (d := d) r (by simpa using e)
    exact ⟨v, by simpa using e1, h⟩
theorem RpAll.append : ∀ {vs ws : List V} {ds es : List D}, RpAll L K H vs ds → RpAll L K H ws es → RpAll L K H (vs ++ ws) (ds ++ es)
  | _, _, _, _, .nil, s => s
  | _, _, _, _, .cons h r, s => .cons h (RpAll.append r s)
theorem RpAll.take : ∀ {vs : List V} {ds : List D} (n : Nat), RpAll L K H vs ds → RpAll L K H (vs.take n) (ds.take n)
  | _, _, 0, _ => .nil
  | _, _, _ + 1, .nil => .nil
  | _, _, n + 1, .cons h r => .cons h (RpAll.take n r)
theorem RpAll.drop : ∀ {vs : List V} {ds : List D} (n : Nat), RpAll L K H vs ds → RpAll L K H (vs.drop n) (ds.drop n)
  | _, _, 0, h => h
  | _, _, _ + 1, .nil => .nil
  | _, _, n + 1, .cons _ r => RpAll.drop n r
theorem RpAll.set {v : V} {d : D} (h : Rp L K H v d) : ∀ {vs : List V} {ds : List D} (i : Nat), RpAll L K H vs ds → RpAll L K H (vs.set i v) (ds.set i d)
  | _, _, _, .nil => .nil
  | _, _, 0, .cons _ r => .cons h r
  | _, _, i + 1, .cons a r => .cons a (RpAll.set h i r)
theorem RpAll.ints : ∀ (ns : List Int), RpAll L K H (ns.map V.int) (ns.map D.int)
  | [] => .nil
  | n :: r => .cons (.int n) (RpAll.ints r)
theorem RpAll.ofInts : ∀ {vs : List V} (ns : List Int), RpAll L K H vs (ns.map D.int) → vs = ns.map V.int
  | _, [], .nil => rfl
  | _, _ :: r, .cons h t => by cases h; rw [RpAll.ofInts r t]; rfl
theorem RpAll.ofBls : ∀ {vs : List V} (ns : List Bool), RpAll L K H vs (ns.map D.bl) → vs = ns.map V.bl
  | _, [], .nil => rfl
  | _, _ :: r, .cons h t => by cases h; rw [RpAll.ofBls r t]; rfl
end
/-- what stands at a, of the ledger -/
def Own (L : Led) (K : PySem.W.Frag) (H : Hp) (a : Addr) : D → Prop
  | .lst ds => ∃ vs, H a = some (.lst vs) ∧ RpAll L K H vs ds
  | .dk ks ds => ∃ vs, H a = some (.dK (ks.zip vs)) ∧ ks.length = vs.length ∧ RpAll L K H vs ds
  | .dt ks ds => ∃ vs, H a = some (.dT (ks.zip vs)) ∧ ks.length = vs.length ∧ RpAll L K H vs ds
  | .obj C ns ds => ∃ dx vs, H a = some (.ins C dx (ns.zip vs)) ∧ ns.length = vs.length ∧ RpAll L K H vs ds
  | .tab q => ∃ ps : Array Value, H a = some (.tbl ps) ∧ TriplesOk ps.toList ∧ ∀ (pos : Pos) (cv : Value), codeAmong pos ps.toList = some cv → ∃ c, cv = .ref c ∧ ¬ inL L c ∧ H c = some (LamX.CodeO c q)
  | _ => False
structure JL (K : PySem.W.Frag) (L : Led) (H : Hp) : Prop where
  nd : (L.map (·.1)).Nodup
  own : ∀ a d, (a, d) ∈ L → Own L K H a d
section
variable {L L' : Led} {K : PySem.W.Frag} {H H' : Hp} {a p : Addr} {d : D}
theorem Own.there (h : Own L K H a d) : ∃ o, H a = some o := by
  cases d with
  | lst ds => exact ⟨_, h.choose_spec.1⟩
  | dk ks ds => exact ⟨_, h.choose_spec.1⟩
  | dt ks ds => exact ⟨_, h.choose_spec.1⟩
  | obj C ns ds => obtain ⟨dx, vs, e, _⟩ := h; exact ⟨_, e⟩
  | tab q => obtain ⟨ps, e, _⟩ := h; exact ⟨_, e⟩
  | _ => exact h.elim
theorem Own.move (h : Own L K H a d) (g : Go L L' H H') (e : ∀ o, H a = some o → H' a = some o) : Own L' K H' a d := by
  cases d with
  | lst ds => obtain ⟨vs, h1, h2⟩ := h; exact ⟨vs, e _ h1, h2.go g⟩
  | dk ks ds => obtain ⟨vs, h1, h3, h2⟩ := h; exact ⟨vs, e _ h1, h3, h2.go g⟩
  | dt ks ds => obtain ⟨vs, h1, h3, h2⟩ := h; exact ⟨vs, e _ h1, h3, h2.go g⟩
  | obj C ns ds => obtain ⟨dx, vs, h1, h3, h2⟩ := h; exact ⟨dx, vs, e _ h1, h3, h2.go g⟩
  | tab q =>
    obtain ⟨ps, h1, h2, h3⟩ := h
    refine ⟨ps, e _ h1, h2, fun pos cv hc => ?_⟩
    obtain ⟨c, q1, n, q2⟩ := h3 pos cv hc
    exact ⟨c, q1, (g _ _ n q2).1, (g.at' n q2).2⟩
  | _ => exact h.elim
theorem JL.same (j : JL K L H) (s : Same H H') : JL K L H' := ⟨j.nd, fun a d m => Own.move (j.own a d m) (Go.same s) fun o e => s a o e⟩
theorem JL.notIn (j : JL K L H) (h : H p = none) : ¬ inL L p := fun m => by
  obtain ⟨q, hq, e⟩ := List.mem_map.mp m
  obtain ⟨o, ho⟩ := Own.there (j.own q.1 q.2 hq)
  rw [e, h] at ho
  cases ho
theorem mem_of_lookup : ∀ {L : Led} {a : Addr} {d : D}, L.lookup a = some d → (a, d) ∈ L
  | [], _, _, h => by simp at h
  | (b, e) :: r, a, d, h => by
    by_cases hb : a = b
    · subst hb
      rw [List.lookup_cons_self] at h
      cases h
      exact List.mem_cons_self
    · have q : (a == b) = false := by simpa using hb
      rw [List.lookup_cons, q] at h
      exact List.mem_cons_of_mem _ (mem_of_lookup h)
theorem JL.look (j : JL K L H) (h : L.lookup a = some d) : Own L K H a d := j.own a d (mem_of_lookup h)
/-- what a datum holds, through the ledger -/
def kD : Key → D
  | .inl i => .int i
  | .inr x => .str x
def con (L : Led) : D → D
  | .ptr a => (L.lookup a).getD (.ptr a)
  | .kt ks => .tup (ks.map kD)
  | d => d
theorem con_lst {v : V} {ds : List D} (j : JL K L H) (r : Rp L K H v d) (e : con L d = .lst ds) : ∃ a vs, v = .ref a ∧ H a = some (.lst vs) ∧ RpAll L K H vs ds := by
  cases d with
  | ptr a =>
    cases r
    have e : (L.lookup a).getD (.ptr a) = _ := e
    cases h : L.lookup a with
    | none => rw [h] at e; cases e
    | some c =>
      rw [h] at e
      have e2 : c = .lst ds := e
      subst e2
      obtain ⟨vs, h1, h2⟩ := j.look h
      exact ⟨a, vs, rfl, h1, h2⟩
  | lst xs =>
    have e2 : xs = ds := by unfold con at e; injection e
    subst e2
    cases r with
    | lst n h r => exact ⟨_, _, rfl, h, r⟩
  | _ => cases e
theorem RpAll.keys : ∀ ks : List Key, RpAll L K H (ks.map kV) (ks.map kD)
  | [] => .nil
  | .inl i :: r => .cons (.int i) (RpAll.keys r)
  | .inr x :: r => .cons (.str x) (RpAll.keys r)
theorem con_tup {v : V} {ds : List D} (j : JL K L H) (r : Rp L K H v d) (e : con L d = .tup ds) : ∃ a vs, v = .ref a ∧ SqT K H a vs ∧ RpAll L K H vs ds := by
  cases d with
  | ptr a =>
    cases r
    have e : (L.lookup a).getD (.ptr a) = _ := e
    cases h : L.lookup a with
    | none => rw [h] at e; cases e
    | some c =>
      rw [h] at e
      have e2 : c = .tup ds := e
      subst e2
      exact (j.look h).elim
  | tup xs =>
    have e2 : xs = ds := by unfold con at e; injection e
    subst e2
    cases r with
    | tup s r => exact ⟨_, _, rfl, s.sq, r⟩
  | kt ks =>
    have e2 : ks.map kD = ds := by unfold con at e; injection e
    subst e2
    cases r with
    | kt n h => exact ⟨_, _, rfl, .inl (.inl h), RpAll.keys ks⟩
  | _ => cases e
/-- .. as a tuple -/
theorem con_tupR {v : V} {ds : List D} (j : JL K L H) (r : Rp L K H v d) (e : con L d = .tup ds) : Rp L K H v (.tup ds) := by
  cases d with
  | ptr a =>
    have e : (L.lookup a).getD (.ptr a) = _ := e
    cases h : L.lookup a with
    | none => rw [h] at e; cases e
    | some c =>
      rw [h] at e
      have e2 : c = .tup ds := e
      subst e2
      exact (j.look h).elim
  | kt ks =>
    have e2 : ks.map kD = ds := by unfold con at e; injection e
    subst e2
    cases r with
    | kt n h => exact .tup (.inl ⟨n, .inl h⟩) (RpAll.keys ks)
  | tup xs =>
    have e2 : xs = ds := by unfold con at e; injection e
    subst e2
    exact r
  | _ => cases e
/-- the items of a list or tuple that may be read -/
def seqs : D → Option (List D)
  | .lst ds => some ds
  | .ro ds => some ds
  | .tup ds => some ds
  | _ => none
theorem con_ro {v : V} {ds : List D} (j : JL K L H) (r : Rp L K H v d) (e : con L d = .ro ds) : ∃ a vs, v = .ref a ∧ SqL K H a vs ∧ RpAll L K H vs ds := by
  cases d with
  | ptr a =>
    cases r
    have e : (L.lookup a).getD (.ptr a) = _ := e
    cases h : L.lookup a with
    | none => rw [h] at e; cases e
    | some c =>
      rw [h] at e
      have e2 : c = .ro ds := e
      subst e2
      exact (j.look h).elim
  | ro xs =>
    have e2 : xs = ds := by unfold con at e; injection e
    subst e2
    cases r with
    | ro s r => exact ⟨_, _, rfl, s.sq, r⟩
  | _ => cases e
theorem con_seq {v : V} {ds : List D} (j : JL K L H) (r : Rp L K H v d) (e : seqs (con L d) = some ds) : ∃ a vs, v = .ref a ∧ (SqL K H a vs ∨ SqT K H a vs) ∧ RpAll L K H vs ds := by
  cases h : con L d with
  | lst xs =>
    rw [h] at e; cases e
    obtain ⟨a, vs, h1, h2, h3⟩ := con_lst j r h
    exact ⟨a, vs, h1, .inl (SqL.of h2), h3⟩
  | ro xs =>
    rw [h] at e; cases e
    obtain ⟨a, vs, h1, h2, h3⟩ := con_ro j r h
    exact ⟨a, vs, h1, .inl h2, h3⟩
  | tup xs =>
    rw [h] at e; cases e
    obtain ⟨a, vs, h1, h2, h3⟩ := con_tup j r h
    exact ⟨a, vs, h1, .inr h2, h3⟩
  | _ => rw [h] at e; cases e
theorem same_new (h : H p = none) (o : HO) : Same H (upd H p o) := fun b u q => by rw [upd_ne (ne_of_none q h)]; exact q
/-- a new thing onto the ledger -/
theorem JL.push (j : JL K L H) (hp : H p = none) {o : HO} (ow : Own ((p, d) :: L) K (upd H p o) p d) : JL K ((p, d) :: L) (upd H p o) ∧ Go L ((p, d) :: L) H (upd H p o) := by
  have np := j.notIn hp
  have g : Go L ((p, d) :: L) H (upd H p o) := .mk' fun a u n h => by
    have ne : a ≠ p := ne_of_none h hp
    exact ⟨fun m => by
      rcases List.mem_cons.mp m with e | e
      · exact ne e
      · exact n e, by rw [upd_ne ne]; exact h⟩
  refine ⟨⟨List.nodup_cons.mpr ⟨np, j.nd⟩, fun a e m => ?_⟩, g⟩
  rcases List.mem_cons.mp m with q | q
  · cases q
    exact ow
  · exact Own.move (j.own a e q) g fun u h => by rw [upd_ne (ne_of_none h hp)]; exact h
end
abbrev DEnv := List (Option D)
inductive Sto (L : Led) (K : PySem.W.Frag) (H : Hp) : St → DEnv → Prop
  | nil : Sto L K H [] []
  | sm {v d σ e} : Rp L K H v d → Sto L K H σ e → Sto L K H (some v :: σ) (some d :: e)
  | no {o σ e} : Sto L K H σ e → Sto L K H (o :: σ) (none :: e)
section
variable {L L' : Led} {K : PySem.W.Frag} {H H' : Hp}
theorem Sto.go (g : Go L L' H H') : ∀ {σ : St} {e : DEnv}, Sto L K H σ e → Sto L' K H' σ e
  | _, _, .nil => .nil
  | _, _, .sm h r => .sm (h.go g) (Sto.go g r)
  | _, _, .no r => .no (Sto.go g r)
theorem Sto.get : ∀ {σ : St} {e : DEnv} {i : Nat} {d : D}, Sto L K H σ e → e[i]? = some (some d) → ∃ v, σ[i]? = some (some v) ∧ Rp L K H v d
  | _, _, _, _, .nil, h => by simp at h
  | _, _, 0, _, .sm h _, q => by simp at q; subst q; exact ⟨_, rfl, h⟩
  | _, _, 0, _, .no _, q => by simp at q
  | _, _, i + 1, d, .sm _ r, q => by
    obtain ⟨v, e1, h⟩ := Sto.get (i := i) (d := d) r (by simpa using q)
    exact ⟨v, by simpa using e1, h⟩
  | _, _, i + 1, d, .no r, q => by
    obtain ⟨v, e1, h⟩ := Sto.get (i := i) (d := d) r (by simpa using q)
    exact ⟨v, by simpa using e1, h⟩
theorem Sto.set {v : V} {d : D} (h : Rp L K H v d) : ∀ {σ : St} {e : DEnv} (i : Nat), Sto L K H σ e → Sto L K H (σ.set i (some v)) (e.set i (some d))
  | _, _, _, .nil => .nil
  | _, _, 0, .sm _ r => .sm h r
  | _, _, 0, .no r => .sm h r
  | _, _, i + 1, .sm q r => .sm q (Sto.set h i r)
  | _, _, i + 1, .no r => .no (Sto.set h i r)
theorem Sto.wipe1 {o : Option V} : ∀ {σ : St} {e : DEnv} (i : Nat), Sto L K H σ e → Sto L K H (σ.set i o) (e.set i none)
  | _, _, _, .nil => .nil
  | _, _, 0, .sm _ r => .no r
  | _, _, 0, .no r => .no r
  | _, _, i + 1, .sm q r => .sm q (Sto.wipe1 i r)
  | _, _, i + 1, .no r => .no (Sto.wipe1 i r)
theorem Sto.start : ∀ {vs : List V} {ds : List D} {n : Nat}, RpAll L K H vs ds → Sto L K H (vs.map some ++ List.replicate n none) (ds.map some ++ List.replicate n none)
  | _, _, 0, .nil => .nil
  | _, _, n + 1, .nil => .no (Sto.start (n := n) .nil)
  | _, _, n, .cons h r => .sm h (Sto.start r)
end
end DL
namespace DL
open PySem L2
/-- an error: its class, what its own dict holds -/
structure Exn where
  cls : Value
  ns : List Str
  vs : List D
def ExR (L : Led) (K : PySem.W.Frag) (H : Hp) (a : Addr) (n : Exn) : Prop :=
  ¬ inL L a ∧ ∃ vs, H a = some (.xd (n.ns.zip vs)) ∧ n.ns.length = vs.length ∧ RpAll L K H vs n.vs
abbrev DK := D → Led → Prop
abbrev DX := Exn → DEnv → Led → Prop
abbrev DE := DEnv → Led → DK → DX → Prop
abbrev DT := DEnv → Led → (Bool → Led → Prop) → DX → Prop
abbrev DA := DEnv → Led → (List D → Led → Prop) → DX → Prop
structure DEnds where
  nx : DEnv → Led → Prop
  rt : DK
  ex : DX
  bk : DEnv → Led → Prop
  ct : DEnv → Led → Prop
abbrev DS := DEnds → DEnv → Led → Prop
def StL (K : PySem.W.Frag) (σ : St) (H : Hp) (env : DEnv) (L : Led) : Prop := Sto L K H σ env ∧ JL K L H
theorem StL.go {K : PySem.W.Frag} {σ : St} {H H' : Hp} {env : DEnv} {L L' : Led} (s : StL K σ H env L) (g : Go L L' H H') (j : JL K L' H') : StL K σ H' env L' := ⟨s.1.go g, j⟩
def KOk (K : PySem.W.Frag) (L : Led) (H : Hp) (k : DK) (Q : VK) : Prop := ∀ d L' v H', k d L' → Go L L' H H' → JL K L' H' → Rp L' K H' v d → Q v H'
def XOk (K : PySem.W.Frag) (Wx : WX) (L : Led) (H : Hp) (x : DX) : Prop := ∀ n env' L' a H' σ', x n env' L' → Go L L' H H' → StL K σ' H' env' L' → ExR L' K H' a n → Wx n.cls (some a) σ' H'
structure EOk (K : PySem.W.Frag) (Wx : WX) (L : Led) (H : Hp) (D' : DEnds) (D : Ends) : Prop where
  nx : ∀ env' L' σ' H', D'.nx env' L' → Go L L' H H' → StL K σ' H' env' L' → D.nx σ' H'
  rt : KOk K L H D'.rt D.rt
  ex : XOk K Wx L H D'.ex
  bk : ∀ env' L' σ' H', D'.bk env' L' → Go L L' H H' → StL K σ' H' env' L' → D.bk σ' H'
  ct : ∀ env' L' σ' H', D'.ct env' L' → Go L L' H H' → StL K σ' H' env' L' → D.ct σ' H'
section
variable {K : PySem.W.Frag} {Wx : WX} {L L1 : Led} {H H1 : Hp} {k : DK} {Q : VK} {x : DX} {D' : DEnds} {D : Ends}
theorem KOk.go (h : KOk K L H k Q) (g : Go L L1 H H1) : KOk K L1 H1 k Q := fun d L' v H' q g' j r => h d L' v H' q (g.trans g') j r
theorem XOk.go (h : XOk K Wx L H x) (g : Go L L1 H H1) : XOk K Wx L1 H1 x := fun n e L' a H' σ' q g' s r => h n e L' a H' σ' q (g.trans g') s r
theorem EOk.go (h : EOk K Wx L H D' D) (g : Go L L1 H H1) : EOk K Wx L1 H1 D' D :=
  ⟨fun e L' σ' H' q g' s => h.nx e L' σ' H' q (g.trans g') s, h.rt.go g, h.ex.go g, fun e L' σ' H' q g' s => h.bk e L' σ' H' q (g.trans g') s, fun e L' σ' H' q g' s => h.ct e L' σ' H' q (g.trans g') s⟩
end
def SimE (K : PySem.W.Frag) (Wx : WX) (te : TE) (de : DE) : Prop := ∀ σ H env L k x Q, StL K σ H env L → de env L k x → KOk K L H k Q → XOk K Wx L H x → te σ H Q
def SimT (K : PySem.W.Frag) (Wx : WX) (te : TT) (de : DT) : Prop := ∀ σ H env L k x Q, StL K σ H env L → de env L k x → (∀ b L' H', k b L' → Go L L' H H' → JL K L' H' → Q b H') → XOk K Wx L H x → te σ H Q
def SimA (K : PySem.W.Frag) (Wx : WX) (ta : TA) (da : DA) : Prop := ∀ σ H env L k x Q, StL K σ H env L → da env L k x → (∀ ds L' vs H', k ds L' → Go L L' H H' → JL K L' H' → RpAll L' K H' vs ds → Q vs H') → XOk K Wx L H x → ta σ H Q
def SimS (K : PySem.W.Frag) (Wx : WX) (ts : TS) (ds : DS) : Prop := ∀ σ H env L D' D, StL K σ H env L → ds D' env L → EOk K Wx L H D' D → ts D σ H
structure QE (X : Cx) (Wx : WX) (e : Expr) (de : DE) : Prop where
  ex : ∃ te, PE X e te ∧ SimE X.K Wx te de
structure QT (X : Cx) (Wx : WX) (e : Expr) (dt : DT) : Prop where
  ex : ∃ te, PT X e te ∧ SimT X.K Wx te dt
structure QW (X : Cx) (Wx : WX) (e : Expr) (dt : DT) : Prop where
  ex : ∃ te, PW X e te ∧ SimT X.K Wx te dt
structure QA (X : Cx) (Wx : WX) (es : List Expr) (da : DA) : Prop where
  ex : ∃ ta, PA X es ta ∧ SimA X.K Wx ta da
structure QS (X : Cx) (Wx : WX) (st : Stmt) (ds : DS) : Prop where
  ex : ∃ ts, PS X st ts ∧ SimS X.K Wx ts ds
structure QSs (X : Cx) (Wx : WX) (st : List Stmt) (ds : DS) : Prop where
  ex : ∃ ts, PSs X st ts ∧ SimS X.K Wx ts ds
section
variable {X : Cx} {Wx : WX} {a b c e : Expr} {es : List Expr} {da db dc de : DE} {pos : Pos}
def dVar (i : Nat) : DE := fun env L k _ => match env[i]? with
  | some (some d) => k d L
  | _ => False
theorem qv (i : Nat) {x : Str} {pos : Pos} (hN : X.N[i]? = some x := by rfl) (hv : Vis X.env.scope x := by first | exact Or.inl rfl | exact Or.inr (Or.inl rfl) | exact Or.inr (Or.inr rfl)) (hd : (x == ("__debug__" : Str)) = false := by decide)
    (hcd : (x == ("__classdict__" : Str)) = false := by decide) : QE X Wx (.Name x pos) (dVar i) := by
  refine ⟨tVar i, pv i hN hv hd hcd, fun σ H env L k x Q st h hk _ => ?_⟩
  unfold dVar at h
  split at h
  · rename_i d hd
    obtain ⟨v, e1, r⟩ := st.1.get hd
    exact ⟨v, e1, hk d L v H h (Go.refl L H) st.2 r⟩
  · exact h.elim
def dC (d : D) : DE := fun _ L k _ => k d L
theorem sim_c {K : PySem.W.Frag} {v : V} {d : D} (r : ∀ L H, Rp L K H v d) : SimE K Wx (tC v) (dC d) := fun _ H _ L _ _ _ st h hk _ => hk d L v H h (Go.refl L H) st.2 (r L H)
theorem q_int {i j pos} : QE X Wx (.Constant (.int i) j pos) (dC (.int i)) := ⟨_, pe_int, sim_c fun _ _ => .int i⟩
theorem q_bl {b j pos} : QE X Wx (.Constant (.bool b) j pos) (dC (.bl b)) := ⟨_, pe_bl, sim_c fun _ _ => .bl b⟩
theorem q_non {j pos} : QE X Wx (.Constant .none j pos) (dC .non) := ⟨_, pe_non, sim_c fun _ _ => .non⟩
theorem q_str {x j pos} : QE X Wx (.Constant (.str x) j pos) (dC (.str x)) := ⟨_, pe_str, sim_c fun _ _ => .str x⟩
theorem q_glob {x : Str} {v : V} {d : D} {u : Value} {pos : Pos} (hg : Gl X x) (hm : X.mg x = some u) (r : RelV v u) (rd : ∀ L H, Rp L X.K H v d) (hd : (x == ("__debug__" : Str)) = false := by decide) : QE X Wx (.Name x pos) (dC d) :=
  ⟨_, pe_glob hg hm r hd, sim_c rd⟩
theorem q_bltn {x : Str} {v : V} {d : D} {u : Value} {pos : Pos} (hg : Gl X x) (hm : X.mg x = none) (hv : bootBuiltins x = some u) (r : RelV v u) (rd : ∀ L H, Rp L X.K H v d) (hn : x ≠ "__name__" := by decide) (hd : (x == ("__debug__" : Str)) = false := by decide) : QE X Wx (.Name x pos) (dC d) :=
  ⟨_, pe_bltn hg hm hv r hn hd, sim_c rd⟩
/-- g: two data, the ledger, what is wanted of the answer -/
abbrev G2 := D → D → Led → (D → Prop) → Prop
def ROk (K : PySem.W.Frag) (L : Led) (H : Hp) (k : D → Prop) (Q : VK) : Prop := ∀ d v H', k d → Same H H' → Rp L K H' v d → Q v H'
def Sim2 (K : PySem.W.Frag) (r : R2) (g : G2) : Prop := ∀ H L va vb a b k Q, JL K L H → Rp L K H va a → Rp L K H vb b → g a b L k → ROk K L H k Q → r va vb H Q
def OQ (X : Cx) (f : Value → Value → Sem Value) (g : G2) : Prop := ∃ r, OpR X f r ∧ Sim2 X.K r g
def dOp (g : G2) (da db : DE) : DE := fun env L k x => da env L (fun a L1 => db env L1 (fun b L2 => g a b L2 fun d => k d L2) x) x
theorem sim_op {K : PySem.W.Frag} {ta tb : TE} {r : R2} {g : G2} (sa : SimE K Wx ta da) (sb : SimE K Wx tb db) (sr : Sim2 K r g) : SimE K Wx (tOp r ta tb) (dOp g da db) := by
  intro σ H env L k x Q st h hk hx
  refine sa σ H env L _ x _ st h (fun a L1 va H1 h1 g1 j1 r1 => ?_) hx
  refine sb σ H1 env L1 _ x _ (st.go g1 j1) h1 (fun b L2 vb H2 h2 g2 j2 r2 => ?_) (hx.go g1)
  exact sr H2 L2 va vb a b _ Q j2 (r1.go g2) r2 h2 fun d v H' q s rp => hk d L2 v H' q ((g1.trans g2).trans (Go.same s)) (j2.same s) rp
theorem q_op {op : Operator} {g : G2} (ho : OQ X (binaryOp op) g) (ha : QE X Wx a da) (hb : QE X Wx b db) : QE X Wx (.BinOp a op b pos) (dOp g da db) := by
  obtain ⟨ta, pa, sa⟩ := ha.ex
  obtain ⟨tb, pb, sb⟩ := hb.ex
  obtain ⟨r, hr, sr⟩ := ho
  exact ⟨_, pe_op hr pa pb, sim_op sa sb sr⟩
theorem q_cmp {op : CmpOp} {g : G2} (ho : OQ X (compareOp op) g) (ha : QE X Wx a da) (hb : QE X Wx b db) (hm : behindInMarks op b = false := by rfl) : QE X Wx (.Compare a [op] [b] pos) (dOp g da db) := by
  obtain ⟨ta, pa, sa⟩ := ha.ex
  obtain ⟨tb, pb, sb⟩ := hb.ex
  obtain ⟨r, hr, sr⟩ := ho
  exact ⟨_, pe_cmpR hr pa pb hm, sim_op sa sb sr⟩
/-- two rules for one operator -/
theorem opr_or {f : Value → Value → Sem Value} {r1 r2 : R2} (h1 : OpR X f r1) (h2 : OpR X f r2) : OpR X f (fun x y H Q => r1 x y H Q ∨ r2 x y H Q) := fun pins s σ H x y u v Q I rx ry h =>
  h.elim (fun q => h1 pins s σ H x y u v Q I rx ry q) (fun q => h2 pins s σ H x y u v Q I rx ry q)
theorem OQ.or {f : Value → Value → Sem Value} {g1 g2 g : G2} (h1 : OQ X f g1) (h2 : OQ X f g2) (hg : ∀ a b L k, g a b L k → g1 a b L k ∨ g2 a b L k) : OQ X f g := by
  obtain ⟨r1, o1, s1⟩ := h1
  obtain ⟨r2, o2, s2⟩ := h2
  exact ⟨_, opr_or o1 o2, fun H L va vb a b k Q j ra rb h hk => (hg a b L k h).elim (fun q => .inl (s1 H L va vb a b k Q j ra rb q hk)) (fun q => .inr (s2 H L va vb a b k Q j ra rb q hk))⟩
/-- two ints -/
def gI (C : Int → Int → Prop) (f : Int → Int → D) : G2 := fun a b _ k => match a, b with
  | .int i, .int j => C i j ∧ k (f i j)
  | _, _ => False
def gI0 (f : Int → Int → D) : G2 := fun a b _ k => match a, b with
  | .int i, .int j => k (f i j)
  | _, _ => False
theorem sim2_I {K : PySem.W.Frag} {C : Int → Int → Prop} {f : Int → Int → V} {f' : Int → Int → D} (hf : ∀ i j L H, Rp L K H (f i j) (f' i j)) : Sim2 K (rI C f) (gI C f') := by
  intro H L va vb a b k Q j ra rb h hk
  cases ra <;> cases rb <;> first | exact h.elim | skip
  exact ⟨_, _, rfl, rfl, h.1, hk _ _ H h.2 (Same.refl H) (hf _ _ L H)⟩
theorem sim2_I0 {K : PySem.W.Frag} {f : Int → Int → V} {f' : Int → Int → D} (hf : ∀ i j L H, Rp L K H (f i j) (f' i j)) : Sim2 K (rI0 f) (gI0 f') := by
  intro H L va vb a b k Q j ra rb h hk
  cases ra <;> cases rb <;> first | exact h.elim | skip
  exact ⟨_, _, rfl, rfl, hk _ _ H h (Same.refl H) (hf _ _ L H)⟩
abbrev gAddI : G2 := gI0 fun i j => .int (i + j)
abbrev gSubI : G2 := gI0 fun i j => .int (i - j)
def CDivA (_ j : Int) : Prop := j ≠ 0 ∧ j.natAbs.log2 < 9000
abbrev gFdiv : G2 := gI CDivA fun i j => .int (i.fdiv j)
abbrev gMod : G2 := gI (fun _ j => j ≠ 0) fun i j => .int (i.fmod j)
abbrev gPow : G2 := gI CPow fun i j => .int (i ^ j.toNat)
theorem oq_addI : OQ X (binaryOp .Add) gAddI := ⟨_, op_add, sim2_I0 fun _ _ _ _ => .int _⟩
theorem oq_sub : OQ X (binaryOp .Sub) gSubI := ⟨_, op_sub, sim2_I0 fun _ _ _ _ => .int _⟩
theorem op_fdivA : OpR X (binaryOp .FloorDiv) (rI CDivA fun i j => .int (i.fdiv j)) := opI fun i j _ _ _ _ _ hc q =>
  PyProof.Rows.floordiv_int hc.1 q (.inl (PyProof.noPylong_of_log2 hc.2))
theorem oq_fdiv : OQ X (binaryOp .FloorDiv) gFdiv := ⟨_, op_fdivA, sim2_I fun _ _ _ _ => .int _⟩
theorem oq_mod : OQ X (binaryOp .Mod) gMod := ⟨_, op_modN, sim2_I fun _ _ _ _ => .int _⟩
theorem oq_pow : OQ X (binaryOp .Pow) gPow := ⟨_, op_pow, sim2_I fun _ _ _ _ => .int _⟩
abbrev gLt : G2 := gI0 fun i j => .bl (decide (i < j))
abbrev gLe : G2 := gI0 fun i j => .bl (decide (i ≤ j))
abbrev gGt : G2 := gI0 fun i j => .bl (decide (j < i))
abbrev gGe : G2 := gI0 fun i j => .bl (decide (j ≤ i))
theorem oq_lt : OQ X (compareOp .Lt) gLt := ⟨_, op_lt, sim2_I0 fun _ _ _ _ => .bl _⟩
theorem oq_le : OQ X (compareOp .LtE) gLe := ⟨_, op_le, sim2_I0 fun _ _ _ _ => .bl _⟩
theorem oq_gt : OQ X (compareOp .Gt) gGt := ⟨_, op_gt, sim2_I0 fun _ _ _ _ => .bl _⟩
theorem oq_ge : OQ X (compareOp .GtE) gGe := ⟨_, op_ge, sim2_I0 fun _ _ _ _ => .bl _⟩
end
end DL
namespace DL
open PySem L2
mutual
def toPy : D → PyData
  | .non => .none
  | .bl b => .bool b
  | .int i => .int i
  | .str x => .str x
  | .lst xs => .list (toPys xs)
  | .tup xs => .tuple (toPys xs)
  | .ro _ => .dict [] | .dk _ _ => .dict [] | .dt _ _ => .dict [] | .obj _ _ _ => .dict [] | .exc _ _ _ => .dict [] | .fnv _ _ => .dict [] | .clo _ _ => .dict [] | .tab _ => .dict [] | .ptr _ => .dict [] | .ty _ => .dict [] | .kt _ => .dict []
def toPys : List D → List PyData
  | [] => []
  | d :: r => toPy d :: toPys r
end
/-- whether a datum is of None, bools, ints, texts, lists, tuples -/
def shp (d : D) : Bool := SeqAt.shaped (toPy d)
def eqD (a b : D) : Bool := PyData.eqv (toPy a) (toPy b)
mutual
theorem Rp.dp {L : Led} {K : PySem.W.Frag} {H : Hp} : ∀ {v : V} {d : D}, Rp L K H v d → PyData.canLay0 (toPy d) = true → Dp K H v (toPy d)
  | _, _, .non, _ => .non
  | _, _, .bl b, _ => .bl b
  | _, _, .int i, _ => .int i
  | _, _, .str x, _ => .str x
  | _, _, .lst n h r, c => .lst (SqL.of h) (RpAll.dp r (by simpa only [toPy, PyData.canLay0] using c))
  | _, _, .tup s r, c => .tup s.sq (RpAll.dp r (by simpa only [toPy, PyData.canLay0] using c))
  | _, _, .ro _ _, c => by simp [toPy, PyData.canLay0] at c
  | _, _, .ty _, c => by simp [toPy, PyData.canLay0] at c
  | _, _, .kt _ _, c => by simp [toPy, PyData.canLay0] at c
  | _, _, .ptr _, c => by simp [toPy, PyData.canLay0] at c
  | _, _, .dk _ _ _ _, c => by simp [toPy, PyData.canLay0] at c
  | _, _, .dt _ _ _ _, c => by simp [toPy, PyData.canLay0] at c
  | _, _, .obj _ _ _ _, c => by simp [toPy, PyData.canLay0] at c
  | _, _, .exc _ _ _ _ _ _ _, c => by simp [toPy, PyData.canLay0] at c
  | _, _, .fnv _, c => by simp [toPy, PyData.canLay0] at c
  | _, _, .clo _ _, c => by simp [toPy, PyData.canLay0] at c
theorem RpAll.dp {L : Led} {K : PySem.W.Frag} {H : Hp} : ∀ {vs : List V} {ds : List D}, RpAll L K H vs ds → PyData.canLayAll0 (toPys ds) = true → DpAll K H vs (toPys ds)
  | _, _, .nil, _ => .nil
  | _, _, .cons (d := d) (ds := ds) h r, c => by
    have c' : PyData.canLay0 (toPy d) = true ∧ PyData.canLayAll0 (toPys ds) = true := by simpa only [toPys, PyData.canLayAll0, Bool.and_eq_true] using c
    exact .cons (Rp.dp h c'.1) (RpAll.dp r c'.2)
end
def gEq : G2 := fun a b _ k => shp a = true ∧ shp b = true ∧ k (.bl (eqD a b))
def gNe : G2 := fun a b _ k => shp a = true ∧ shp b = true ∧ k (.bl (!eqD a b))
section
variable {X : Cx} {Wx : WX} {a b c e : Expr} {es : List Expr} {da db dc de : DE} {pos : Pos}
theorem oq_eq (hu : X.A.units + 64 < cLine) : OQ X (compareOp .Eq) gEq := ⟨_, op_eqD hu, fun H L va vb a b k Q j ra rb h hk => by
  obtain ⟨h1, h2, h3⟩ := h
  exact ⟨_, _, ra.dp (SeqAt.canLay_of_shaped h1), rb.dp (SeqAt.canLay_of_shaped h2), h1, h2, hk _ _ H h3 (Same.refl H) (.bl _)⟩⟩
theorem oq_ne (hu : X.A.units + 64 < cLine) : OQ X (compareOp .NotEq) gNe := ⟨_, op_neD hu, fun H L va vb a b k Q j ra rb h hk => by
  obtain ⟨h1, h2, h3⟩ := h
  exact ⟨_, _, ra.dp (SeqAt.canLay_of_shaped h1), rb.dp (SeqAt.canLay_of_shaped h2), h1, h2, hk _ _ H h3 (Same.refl H) (.bl _)⟩⟩
/-- flat things: None, bools, ints, texts -/
def scD : D → D → Bool
  | .non, .non => true
  | .bl _, .bl _ => true
  | .int _, .int _ => true
  | .str _, .str _ => true
  | _, _ => false
def flEq : D → D → Bool
  | .non, .non => true
  | .bl a, .bl b => decide (a = b)
  | .int a, .int b => decide (a = b)
  | .str a, .str b => decide (a = b)
  | _, _ => false
def gEqF : G2 := fun a b _ k => scD a b = true ∧ k (.bl (flEq a b))
def gNeF : G2 := fun a b _ k => scD a b = true ∧ k (.bl (!flEq a b))
theorem flEq_of {L : Led} {K : PySem.W.Frag} {H : Hp} {va vb : V} {a b : D} (ra : Rp L K H va a) (rb : Rp L K H vb b) (h : scD a b = true) : scal va vb = true ∧ decide (va = vb) = flEq a b := by
  cases ra <;> cases rb <;> first | exact absurd h Bool.false_ne_true | skip
  · exact ⟨rfl, by simp [flEq]⟩
  · exact ⟨rfl, by simp [flEq]⟩
  · exact ⟨rfl, by simp [flEq]⟩
  · exact ⟨rfl, by simp [flEq]⟩
theorem oq_eqF : OQ X (compareOp .Eq) gEqF := ⟨_, op_eq, fun H L va vb a b k Q j ra rb h hk => by
  obtain ⟨h1, h2⟩ := flEq_of ra rb h.1
  exact ⟨h1, by rw [h2]; exact hk _ _ H h.2 (Same.refl H) (.bl _)⟩⟩
theorem oq_neF : OQ X (compareOp .NotEq) gNeF := ⟨_, op_ne, fun H L va vb a b k Q j ra rb h hk => by
  obtain ⟨h1, h2⟩ := flEq_of ra rb h.1
  exact ⟨h1, by rw [h2]; exact hk _ _ H h.2 (Same.refl H) (.bl _)⟩⟩
def isNon : D → Bool
  | .non => true
  | _ => false
def gIsN : G2 := fun a b _ k => match b with
  | .non => k (.bl (isNon a))
  | _ => False
def gNotN : G2 := fun a b _ k => match b with
  | .non => k (.bl (!isNon a))
  | _ => False
theorem isNon_of {L : Led} {K : PySem.W.Frag} {H : Hp} {va : V} {a : D} (ra : Rp L K H va a) : decide (va = .non) = isNon a := by
  cases ra <;> first | rfl | (exact decide_eq_false (fun h => nomatch h))
theorem oq_isN : OQ X (compareOp .Is) gIsN := ⟨_, op_isN, fun H L va vb a b k Q j ra rb h hk => by
  cases rb <;> first | exact h.elim | skip
  exact ⟨rfl, by rw [isNon_of ra]; exact hk _ _ H h (Same.refl H) (.bl _)⟩⟩
theorem oq_notN : OQ X (compareOp .IsNot) gNotN := ⟨_, op_notN, fun H L va vb a b k Q j ra rb h hk => by
  cases rb <;> first | exact h.elim | skip
  exact ⟨rfl, by rw [isNon_of ra]; exact hk _ _ H h (Same.refl H) (.bl _)⟩⟩
theorem atI_of {L : Led} {K : PySem.W.Frag} {H : Hp} {vs : List V} {ds : List D} {i : Int} {d : D} (r : RpAll L K H vs ds) (h : atI ds i = some d) : ∃ v, atI vs i = some v ∧ Rp L K H v d := by
  unfold atI at h ⊢
  rw [r.length]
  cases e : ixN ds.length i with
  | none => rw [e] at h; cases h
  | some j =>
    rw [e] at h
    exact r.get h
/-- a list, a tuple at a place -/
def gIx : G2 := fun a b L k => match b with
  | .int i => match seqs (con L a) with
    | some ds => match atI ds i with
      | some d => k d
      | none => False
    | none => False
  | _ => False
def rIxQ (K : PySem.W.Frag) : R2 := fun x y H Q => rIxL K x y H Q ∨ rIxT K x y H Q
theorem ix_or {r1 r2 : R2} (h1 : IxR X r1) (h2 : IxR X r2) : IxR X (fun x y H Q => r1 x y H Q ∨ r2 x y H Q) := fun value slice pins s σ H x y v u Q I rx ry h hs =>
  h.elim (fun q => h1 value slice pins s σ H x y v u Q I rx ry q hs) (fun q => h2 value slice pins s σ H x y v u Q I rx ry q hs)
theorem sim_ix {K : PySem.W.Frag} : Sim2 K (rIxQ K) gIx := by
  intro H L va vb a b k Q j ra rb h hk
  cases rb <;> first | exact h.elim | skip
  unfold gIx at h
  simp only at h
  split at h
  · rename_i ds hd
    split at h
    · rename_i d hi
      obtain ⟨p, vs, rfl, hs, r⟩ := con_seq j ra hd
      obtain ⟨v, hv, rv⟩ := atI_of r hi
      rcases hs with hs | hs
      · exact .inl ⟨p, vs, _, v, rfl, rfl, hs, hv, hk _ _ H h (Same.refl H) rv⟩
      · exact .inr ⟨p, vs, _, v, rfl, rfl, hs, hv, hk _ _ H h (Same.refl H) rv⟩
    · exact h.elim
  · exact h.elim
theorem q_ix (ha : QE X Wx a da) (hb : QE X Wx b db) (hs : PlainIx b := by intro _ _; rfl) : QE X Wx (.Subscript a b pos) (dOp gIx da db) := by
  obtain ⟨ta, pa, sa⟩ := ha.ex
  obtain ⟨tb, pb, sb⟩ := hb.ex
  exact ⟨_, pe_ix (ix_or ix_list ix_tup) pa pb hs, sim_op sa sb sim_ix⟩
/-- a text's sign at a place -/
def gIxS : G2 := fun a b _ k => match a, b with
  | .str z, .int i => z.length ≤ sizeLine ∧ match atI z.cps.toList i with
    | some c => k (.str ⟨#[c]⟩)
    | none => False
  | _, _ => False
theorem sim_ixS {K : PySem.W.Frag} : Sim2 K rIxS gIxS := by
  intro H L va vb a b k Q j ra rb h hk
  cases ra <;> cases rb <;> first | exact h.elim | skip
  obtain ⟨hz, h⟩ := h
  split at h
  · rename_i c hc
    exact ⟨_, _, c, rfl, rfl, hz, hc, hk _ _ H h (Same.refl H) (.str _)⟩
  · exact h.elim
end
end DL
namespace DL
open PySem L2
section
variable {X : Cx} {Wx : WX} {a b c e : Expr} {es rest : List Expr} {da db dc de : DE} {dt du : DT} {dl : DA} {pos : Pos}
abbrev G1 := D → Led → (D → Prop) → Prop
def dUn (g : G1) (da : DE) : DE := fun env L k x => da env L (fun a L1 => g a L1 fun d => k d L1) x
def Sim1 (K : PySem.W.Frag) (r : V → Hp → VK → Prop) (g : G1) : Prop := ∀ H L va a k Q, JL K L H → Rp L K H va a → g a L k → ROk K L H k Q → r va H Q
theorem sim_un {K : PySem.W.Frag} {ta : TE} {r : V → Hp → VK → Prop} {g : G1} (sa : SimE K Wx ta da) (sr : Sim1 K r g) : SimE K Wx (tUn r ta) (dUn g da) := by
  intro σ H env L k x Q st h hk hx
  refine sa σ H env L _ x _ st h (fun a L1 va H1 h1 g1 j1 r1 => ?_) hx
  exact sr H1 L1 va a _ Q j1 r1 h1 fun d v H' q s rp => hk d L1 v H' q (g1.trans (Go.same s)) (j1.same s) rp
def gNeg : G1 := fun a _ k => match a with
  | .int i => k (.int (-i))
  | _ => False
theorem q_neg (ha : QE X Wx a da) : QE X Wx (.UnaryOp .USub a pos) (dUn gNeg da) := by
  obtain ⟨ta, pa, sa⟩ := ha.ex
  refine ⟨_, pe_un un_neg pa, sim_un sa fun H L va a k Q j ra h hk => ?_⟩
  cases ra <;> first | exact h.elim | skip
  exact ⟨_, rfl, hk _ _ H h (Same.refl H) (.int _)⟩
def dAndV (da db : DE) : DE := fun env L k x => da env L (fun a L1 => match a with
  | .bl true => db env L1 k x
  | .bl false => k (.bl false) L1
  | _ => False) x
def dNotV (da : DE) : DE := fun env L k x => da env L (fun a L1 => match a with
  | .bl b => k (.bl (!b)) L1
  | _ => False) x
theorem q_one {op} (h : QE X Wx a da) : QE X Wx (.BoolOp op [a] pos) da := by
  obtain ⟨ta, pa, sa⟩ := h.ex
  exact ⟨_, pe_one pa, sa⟩
theorem q_and (ha : QE X Wx a da) (hb : QE X Wx (.BoolOp .And (b :: rest) pos) db) : QE X Wx (.BoolOp .And (a :: b :: rest) pos) (dAndV da db) := by
  obtain ⟨ta, pa, sa⟩ := ha.ex
  obtain ⟨tb, pb, sb⟩ := hb.ex
  refine ⟨_, pe_and pa pb, fun σ H env L k x Q st h hk hx => ?_⟩
  refine sa σ H env L _ x _ st h (fun a L1 va H1 h1 g1 j1 r1 => ?_) hx
  cases r1 <;> first | exact h1.elim | skip
  rename_i b
  refine ⟨b, rfl, ?_⟩
  cases b with
  | true => exact iteT (sb σ H1 env L1 k x Q (st.go g1 j1) h1 (hk.go g1) (hx.go g1))
  | false => exact iteF (hk _ L1 _ H1 h1 g1 j1 (.bl false))
theorem q_not (ha : QE X Wx a da) : QE X Wx (.UnaryOp .Not a pos) (dNotV da) := by
  obtain ⟨ta, pa, sa⟩ := ha.ex
  refine ⟨_, pe_not pa, fun σ H env L k x Q st h hk hx => ?_⟩
  refine sa σ H env L _ x _ st h (fun a L1 va H1 h1 g1 j1 r1 => ?_) hx
  cases r1 <;> first | exact h1.elim | skip
  exact ⟨_, rfl, hk _ L1 _ H1 h1 g1 j1 (.bl _)⟩
def dB (da : DE) : DT := fun env L k x => da env L (fun a L1 => match a with
  | .bl b => k b L1
  | _ => False) x
theorem sim_B {K : PySem.W.Frag} {ta : TE} (sa : SimE K Wx ta da) : SimT K Wx (tB ta) (dB da) := by
  intro σ H env L k x Q st h hk hx
  refine sa σ H env L _ x _ st h (fun a L1 va H1 h1 g1 j1 r1 => ?_) hx
  cases r1 <;> first | exact h1.elim | skip
  exact ⟨_, rfl, hk _ L1 H1 h1 g1 j1⟩
theorem t_val (h : QE X Wx e da) (he : ∀ whole, isTrue e X.env whole = (do let v ← whole; standAt e.pos; holding [v] (truthy v)) := by intro _; rfl) : QT X Wx e (dB da) := by
  obtain ⟨ta, pa, sa⟩ := h.ex
  exact ⟨_, pt_val pa he, sim_B sa⟩
theorem t_cmp {op : CmpOp} {g : G2} (ho : OQ X (compareOp op) g) (ha : QE X Wx a da) (hb : QE X Wx b db) (hm : behindInMarks op b = false := by rfl) : QT X Wx (.Compare a [op] [b] pos) (dB (dOp g da db)) := by
  obtain ⟨ta, pa, sa⟩ := ha.ex
  obtain ⟨tb, pb, sb⟩ := hb.ex
  obtain ⟨r, hr, sr⟩ := ho
  refine ⟨_, pt_cmpR hr pa pb hm, fun σ H env L k x Q st h hk hx => ?_⟩
  exact sim_B (sim_op sa sb sr) σ H env L k x Q st h hk hx
def dTAnd (dt du : DT) : DT := fun env L k x => dt env L (fun b L1 => match b with
  | true => du env L1 k x
  | false => k false L1) x
def dTOr (dt du : DT) : DT := fun env L k x => dt env L (fun b L1 => match b with
  | true => k true L1
  | false => du env L1 k x) x
def dTNot (dt : DT) : DT := fun env L k x => dt env L (fun b L1 => k (!b) L1) x
theorem w_and1 (h : QT X Wx a dt) : QW X Wx (.BoolOp .And [a] pos) dt := by
  obtain ⟨ta, pa, sa⟩ := h.ex
  exact ⟨_, pw_and1 pa, sa⟩
theorem w_or1 (h : QT X Wx a dt) : QW X Wx (.BoolOp .Or [a] pos) dt := by
  obtain ⟨ta, pa, sa⟩ := h.ex
  exact ⟨_, pw_or1 pa, sa⟩
theorem w_and (ha : QT X Wx a dt) (hb : QW X Wx (.BoolOp .And (b :: rest) pos) du) : QW X Wx (.BoolOp .And (a :: b :: rest) pos) (dTAnd dt du) := by
  obtain ⟨ta, pa, sa⟩ := ha.ex
  obtain ⟨tb, pb, sb⟩ := hb.ex
  refine ⟨_, pw_and pa pb, fun σ H env L k x Q st h hk hx => ?_⟩
  refine sa σ H env L _ x _ st h (fun b L1 H1 h1 g1 j1 => ?_) hx
  cases b with
  | true => exact iteT (sb σ H1 env L1 k x Q (st.go g1 j1) h1 (fun b L2 H2 q g j => hk b L2 H2 q (g1.trans g) j) (hx.go g1))
  | false => exact iteF (hk _ L1 H1 h1 g1 j1)
theorem w_or (ha : QT X Wx a dt) (hb : QW X Wx (.BoolOp .Or (b :: rest) pos) du) : QW X Wx (.BoolOp .Or (a :: b :: rest) pos) (dTOr dt du) := by
  obtain ⟨ta, pa, sa⟩ := ha.ex
  obtain ⟨tb, pb, sb⟩ := hb.ex
  refine ⟨_, pw_or pa pb, fun σ H env L k x Q st h hk hx => ?_⟩
  refine sa σ H env L _ x _ st h (fun b L1 H1 h1 g1 j1 => ?_) hx
  cases b with
  | true => exact iteT (hk _ L1 H1 h1 g1 j1)
  | false => exact iteF (sb σ H1 env L1 k x Q (st.go g1 j1) h1 (fun b L2 H2 q g j => hk b L2 H2 q (g1.trans g) j) (hx.go g1))
theorem QW.t (h : QW X Wx e dt) : QT X Wx e dt := by
  obtain ⟨ta, pa, sa⟩ := h.ex
  exact ⟨_, pa.pt, sa⟩
theorem t_not (h : QT X Wx a dt) : QT X Wx (.UnaryOp .Not a pos) (dTNot dt) := by
  obtain ⟨ta, pa, sa⟩ := h.ex
  refine ⟨_, pt_not pa, fun σ H env L k x Q st h hk hx => ?_⟩
  exact sa σ H env L _ x _ st h (fun b L1 H1 h1 g1 j1 => hk _ L1 H1 h1 g1 j1) hx
/-- a if t else b -/
def dIf (dt : DT) (da db : DE) : DE := fun env L k x => dt env L (fun b L1 => match b with
  | true => da env L1 k x
  | false => db env L1 k x) x
theorem q_if (hc : QT X Wx c dt) (ha : QE X Wx a da) (hb : QE X Wx b db) : QE X Wx (.IfExp c a b pos) (dIf dt da db) := by
  obtain ⟨tc, pc, sc⟩ := hc.ex
  obtain ⟨ta, pa, sa⟩ := ha.ex
  obtain ⟨tb, pb, sb⟩ := hb.ex
  refine ⟨_, pe_ifExp pc pa pb, fun σ H env L k x Q st h hk hx => ?_⟩
  refine sc σ H env L _ x _ st h (fun b L1 H1 h1 g1 j1 => ?_) hx
  cases b with
  | true => exact iteT (sa σ H1 env L1 k x Q (st.go g1 j1) h1 (hk.go g1) (hx.go g1))
  | false => exact iteF (sb σ H1 env L1 k x Q (st.go g1 j1) h1 (hk.go g1) (hx.go g1))
/-- a < b < c -/
def dChain (g g' : G2) (da db dc : DE) : DE := fun env L k x => da env L (fun a L1 => db env L1 (fun b L2 => g a b L2 fun z => match z with
  | .bl true => dc env L2 (fun c L3 => g' b c L3 fun d => k d L3) x
  | .bl false => k (.bl false) L2
  | _ => False) x) x
theorem sim_chain {K : PySem.W.Frag} {ta tb tc : TE} {r r' : R2} {g g' : G2} (sa : SimE K Wx ta da) (sb : SimE K Wx tb db) (sc : SimE K Wx tc dc) (sr : Sim2 K r g) (sr' : Sim2 K r' g') : SimE K Wx (tChain r r' ta tb tc) (dChain g g' da db dc) := by
  intro σ H env L k x Q st h hk hx
  refine sa σ H env L _ x _ st h (fun a L1 va H1 h1 g1 j1 r1 => ?_) hx
  refine sb σ H1 env L1 _ x _ (st.go g1 j1) h1 (fun b L2 vb H2 h2 g2 j2 r2 => ?_) (hx.go g1)
  refine sr H2 L2 va vb a b _ _ j2 (r1.go g2) r2 h2 fun z v H' q s rp => ?_
  have g3 : Go L L2 H H' := (g1.trans g2).trans (Go.same s)
  cases rp <;> first | exact q.elim | skip
  rename_i bb
  refine ⟨bb, rfl, ?_⟩
  cases bb with
  | true =>
    refine iteT (sc σ H' env L2 _ x _ (st.go g3 (j2.same s)) q (fun c L3 vc H3 h3 g4 j3 r3 => ?_) (hx.go g3))
    exact sr' H3 L3 vb vc b c _ Q j3 ((r2.go (Go.same s)).go g4) r3 h3 fun d v' H4 q4 s4 rp4 => hk d L3 v' H4 q4 ((g3.trans g4).trans (Go.same s4)) (j3.same s4) rp4
  | false => exact iteF (hk _ L2 _ H' q g3 (j2.same s) (.bl false))
theorem q_chain {op op' : CmpOp} {g g' : G2} (ho : OQ X (compareOp op) g) (ho' : OQ X (compareOp op') g') (ha : QE X Wx a da) (hb : QE X Wx b db) (hc : QE X Wx c dc) (hm : lastMarks [op, op'] [b, c] = false := by rfl) :
    QE X Wx (.Compare a [op, op'] [b, c] pos) (dChain g g' da db dc) := by
  obtain ⟨ta, pa, sa⟩ := ha.ex
  obtain ⟨tb, pb, sb⟩ := hb.ex
  obtain ⟨tc, pc, sc⟩ := hc.ex
  obtain ⟨r, hr, sr⟩ := ho
  obtain ⟨r', hr', sr'⟩ := ho'
  exact ⟨_, pe_chain hr hr' pa pb pc hm, sim_chain sa sb sc sr sr'⟩
def dNil : DA := fun _ L k _ => k [] L
def dCons (de : DE) (dl : DA) : DA := fun env L k x => de env L (fun d L1 => dl env L1 (fun ds L2 => k (d :: ds) L2) x) x
theorem a_nil : QA X Wx [] dNil := ⟨_, pa_nil, fun σ H env L k x Q st h hk hx => hk [] L [] H h (Go.refl L H) st.2 .nil⟩
theorem a_cons (ha : QE X Wx e de) (hr : QA X Wx es dl) (hs : starEach (e :: es) X.env = (false, eval e X.env) :: starEach es X.env := by rfl) : QA X Wx (e :: es) (dCons de dl) := by
  obtain ⟨te, pe, se⟩ := ha.ex
  obtain ⟨ta, pa, sa⟩ := hr.ex
  refine ⟨_, pa_cons pe pa hs, fun σ H env L k x Q st h hk hx => ?_⟩
  refine se σ H env L _ x _ st h (fun d L1 v H1 h1 g1 j1 r1 => ?_) hx
  refine sa σ H1 env L1 _ x _ (st.go g1 j1) h1 (fun ds L2 vs H2 h2 g2 j2 r2 => ?_) (hx.go g1)
  exact hk _ L2 _ H2 h2 (g1.trans g2) j2 (.cons (r1.go g2) r2)
def dTup (dl : DA) : DE := fun env L k x => dl env L (fun ds L1 => ds.length ≤ sizeLine ∧ k (.tup ds) L1) x
def dLst (dl : DA) : DE := fun env L k x => dl env L (fun ds L1 => ds.length ≤ sizeLine ∧ k (.lst ds) L1) x
/-- a list that will change: onto the ledger -/
def dLstM (dl : DA) : DE := fun env L k x => dl env L (fun ds L1 => ds.length ≤ sizeLine ∧ ∀ p, ¬ inL L1 p → k (.ptr p) ((p, .lst ds) :: L1)) x
theorem q_tup {x1} (h : QA X Wx es dl) : QE X Wx (.Tuple es x1 pos) (dTup dl) := by
  obtain ⟨ta, pa, sa⟩ := h.ex
  refine ⟨_, pe_tup pa, fun σ H env L k x Q st h hk hx => ?_⟩
  refine sa σ H env L _ x _ st h (fun ds L1 vs H1 h1 g1 j1 r1 => ?_) hx
  refine ⟨by rw [r1.length]; exact h1.1, fun p hp => ?_⟩
  have s := same_new hp (.tup vs)
  exact hk _ L1 _ _ h1.2 (g1.trans (Go.same s)) (j1.same s) (.tup (.inl ⟨j1.notIn hp, .inl upd_same⟩) (r1.go (Go.same s)))
theorem q_lst (h : QA X Wx es dl) : QE X Wx (.List es pos) (dLst dl) := by
  obtain ⟨ta, pa, sa⟩ := h.ex
  refine ⟨_, pe_lst pa, fun σ H env L k x Q st h hk hx => ?_⟩
  refine sa σ H env L _ x _ st h (fun ds L1 vs H1 h1 g1 j1 r1 => ?_) hx
  refine ⟨by rw [r1.length]; exact h1.1, fun p hp => ?_⟩
  have s := same_new hp (.lst vs)
  exact hk _ L1 _ _ h1.2 (g1.trans (Go.same s)) (j1.same s) (.lst (j1.notIn hp) upd_same (r1.go (Go.same s)))
theorem q_lstM (h : QA X Wx es dl) : QE X Wx (.List es pos) (dLstM dl) := by
  obtain ⟨ta, pa, sa⟩ := h.ex
  refine ⟨_, pe_lst pa, fun σ H env L k x Q st h hk hx => ?_⟩
  refine sa σ H env L _ x _ st h (fun ds L1 vs H1 h1 g1 j1 r1 => ?_) hx
  refine ⟨by rw [r1.length]; exact h1.1, fun p hp => ?_⟩
  have gg : Go L1 ((p, .lst ds) :: L1) H1 (upd H1 p (.lst vs)) := .mk' fun a u n hh => by
    have ne : a ≠ p := ne_of_none hh hp
    exact ⟨fun m => (List.mem_cons.mp m).elim ne n, by rw [upd_ne ne]; exact hh⟩
  obtain ⟨j2, g2⟩ := j1.push (d := .lst ds) hp (o := .lst vs) ⟨vs, upd_same, r1.go gg⟩
  exact hk _ _ _ _ (h1.2 p (j1.notIn hp)) (g1.trans g2) j2 (.ptr p)
end
end DL
namespace DL
open PySem L2
section
variable {X : Cx} {Wx : WX} {a b c e o : Expr} {es rest : List Expr} {da db dc de do' di : DE} {dt du : DT} {dl dk : DA} {pos : Pos}
abbrev DSp := List D → Led → DK → (Exn → Led → Prop) → Prop
def spD (K : PySem.W.Frag) (f : DSp) : Sp := fun vs H Q E => ∃ ds L k x, JL K L H ∧ RpAll L K H vs ds ∧ f ds L k x ∧ KOk K L H k Q ∧ ∀ n L' a H', x n L' → Go L L' H H' → JL K L' H' → ExR L' K H' a n → E n.cls (some a) H'
def dCall (g : DSp) (dd : List D) (dl : DA) : DE := fun env L k x => dl env L (fun ds L1 => g (ds ++ dd) L1 k fun n L' => x n env L') x
theorem q_call {x : Str} {p : Pos} {k : Nat} {f : Addr} {fd : FuncData} {ps : List Str} {g : DSp} {us : List Value} {dvs : List V} {dd : List D} (F : FnOk X.prog X.w X.K X.mg X.base (L2.CX X.prog X.w) k f fd ps (spD X.K g)) (hr : Room k X.A) (hg : Gl X x) (hm : X.mg x = some (.ref f))
    (hk : PySem.W.keepIn X.K (.ref f) = true) (hb : Binds X.K fd ps us) (hd : Vals dvs us) (hdd : ∀ L H, RpAll L X.K H dvs dd) (tk : Takes X Wx) (ha : QA X Wx (e :: es) dl) (hdb : (x == ("__debug__" : Str)) = false := by decide)
    (he : starEach (e :: es) X.env = (false, eval e X.env) :: starEach es X.env := by rfl) (hpl : (backTo pos (starEach es X.env)).any (·.1) = false := by rfl) : QE X Wx (.Call (.Name x p) (e :: es) [] pos) (dCall g dd dl) := by
  obtain ⟨ta, pa, sa⟩ := ha.ex
  refine ⟨_, pe_callSD F hr hg hm hk hb hd (fun σ => passAt tk σ) pa hdb he hpl, fun σ H env L k x Q st h hk hx => ?_⟩
  refine sa σ H env L _ x _ st h (fun ds L1 vs H1 h1 g1 j1 r1 => ?_) hx
  exact ⟨ds ++ dd, L1, k, fun n L' => x n env L', j1, r1.append (hdd L1 H1), h1, hk.go g1, fun n L' a H' q g' j' r => hx n env L' a H' σ q (g1.trans g') (st.go (g1.trans g') j') r⟩
abbrev GC := List D → Led → (D → Prop) → Prop
def CQ (X : Cx) (f : Value) (g : GC) : Prop := ∃ r, CallR X f r ∧ ∀ H L vs ds k Q, JL X.K L H → RpAll L X.K H vs ds → g ds L k → ROk X.K L H k Q → r vs H Q
def dCB (g : GC) (dl : DA) : DE := fun env L k x => dl env L (fun ds L1 => g ds L1 fun d => k d L1) x
theorem sim_cb {K : PySem.W.Frag} {ta : TA} {r : List V → Hp → VK → Prop} {g : GC} (sa : SimA K Wx ta dl) (sr : ∀ H L vs ds k Q, JL K L H → RpAll L K H vs ds → g ds L k → ROk K L H k Q → r vs H Q) : SimE K Wx (tCB r ta) (dCB g dl) := by
  intro σ H env L k x Q st h hk hx
  refine sa σ H env L _ x _ st h (fun ds L1 vs H1 h1 g1 j1 r1 => ?_) hx
  exact sr H1 L1 vs ds _ Q j1 r1 h1 fun d v H' q s rp => hk d L1 v H' q (g1.trans (Go.same s)) (j1.same s) rp
theorem q_callB {x : Str} {p : Pos} {id : String} {g : GC} (hc : CQ X (.builtin id) g) (hg : Gl X x) (hm : X.mg x = none) (hv : bootBuiltins x = some (.builtin id)) (ha : QA X Wx (e :: es) dl) (hn : x ≠ "__name__" := by decide) (hdb : (x == ("__debug__" : Str)) = false := by decide)
    (he : starEach (e :: es) X.env = (false, eval e X.env) :: starEach es X.env := by rfl) (hpl : (backTo pos (starEach es X.env)).any (·.1) = false := by rfl) : QE X Wx (.Call (.Name x p) (e :: es) [] pos) (dCB g dl) := by
  obtain ⟨ta, pa, sa⟩ := ha.ex
  obtain ⟨r, hr, sr⟩ := hc
  exact ⟨_, pe_callB hr hg hm hv pa hn hdb he hpl, sim_cb sa sr⟩
theorem q_callTy {x : Str} {p : Pos} {T : String} {g : GC} (hc : CQ X (.type T) g) (hg : Gl X x) (hm : X.mg x = none) (hv : bootBuiltins x = some (.type T)) (ha : QA X Wx (e :: es) dl) (hn : x ≠ "__name__" := by decide) (hdb : (x == ("__debug__" : Str)) = false := by decide)
    (he : starEach (e :: es) X.env = (false, eval e X.env) :: starEach es X.env := by rfl) (hpl : (backTo pos (starEach es X.env)).any (·.1) = false := by rfl) : QE X Wx (.Call (.Name x p) (e :: es) [] pos) (dCB g dl) := by
  obtain ⟨ta, pa, sa⟩ := ha.ex
  obtain ⟨r, hr, sr⟩ := hc
  exact ⟨_, pe_callTy hr hg hm hv pa hn hdb he hpl, sim_cb sa sr⟩
/-- a module's name for a built-in (gcd) -/
theorem q_callF {x : Str} {p : Pos} {id : String} {g : GC} (hc : CQ X (.builtin id) g) (hg : Gl X x) (hm : X.mg x = some (.builtin id)) (ha : QA X Wx (e :: es) dl) (hdb : (x == ("__debug__" : Str)) = false := by decide)
    (he : starEach (e :: es) X.env = (false, eval e X.env) :: starEach es X.env := by rfl) (hpl : (backTo pos (starEach es X.env)).any (·.1) = false := by rfl) : QE X Wx (.Call (.Name x p) (e :: es) [] pos) (dCB g dl) := by
  obtain ⟨ta, pa, sa⟩ := ha.ex
  obtain ⟨r, hr, sr⟩ := hc
  exact ⟨_, pe_callBfun hr hg hm pa hdb he hpl, sim_cb sa sr⟩
end
abbrev DG := D → DEnv → Led → (DEnv → Prop) → Prop
abbrev DGs := List D → DEnv → Led → (DEnv → Prop) → Prop
section
variable {X : Cx} {Wx : WX} {a b c e o : Expr} {es rest : List Expr} {da db dc de : DE} {dt du : DT} {dl : DA} {pos : Pos}
/-- slots that a target stores -/
def Only' (sl : List Nat) (σ σ' : St) : Prop := ∀ vs : List Nat, (∀ i ∈ sl, i ∈ vs) → wipe σ' vs = wipe σ vs
def SimG (K : PySem.W.Frag) (sl : List Nat) (g : TG) (dg : DG) : Prop := ∀ v d σ H env L k Q, StL K σ H env L → Rp L K H v d → dg d env L k → (∀ σ' env', k env' → StL K σ' H env' L → Only' sl σ σ' → Q σ' H) → g v σ H Q
structure QG (X : Cx) (tg : Expr) (sl : List Nat) (dg : DG) : Prop where
  ex : ∃ g, PG X tg g ∧ SimG X.K sl g dg
structure QGs (X : Cx) (ts : List Expr) (sl : List Nat) (dg : DGs) : Prop where
  ex : ∃ g, PGs X ts g ∧ ∀ vs ds σ H env L k Q, StL X.K σ H env L → RpAll L X.K H vs ds → dg ds env L k → (∀ σ' env', k env' → StL X.K σ' H env' L → Only' sl σ σ' → Q σ' H) → g vs σ H Q
theorem wipe_set {σ : St} {o : Option V} {i : Nat} : ∀ {vs : List Nat}, i ∈ vs → wipe (σ.set i o) vs = wipe σ vs
  | [], h => by cases h
  | v :: vs, h => by
    by_cases e : i ∈ vs
    · unfold wipe
      rw [wipe_set e]
    · have e2 : i = v := by
        rcases List.mem_cons.mp h with q | q
        · exact q
        · exact absurd q e
      subst e2
      unfold wipe
      have key : ∀ (ws : List Nat), i ∉ ws → wipe (σ.set i o) ws = (wipe σ ws).set i o := by
        intro ws
        induction ws with
        | nil => intro _; rfl
        | cons w ws ih =>
          intro hn
          have h1 : i ≠ w := fun z => hn (by rw [z]; exact List.mem_cons_self)
          have h2 : i ∉ ws := fun z => hn (List.mem_cons_of_mem _ z)
          unfold wipe
          rw [ih h2, List.set_comm _ _ h1]
      rw [key vs e, List.set_set]
theorem only_set {σ : St} {o : Option V} {i : Nat} : Only' [i] σ (σ.set i o) := fun vs h => wipe_set (h i (by simp))
def dgName (i : Nat) : DG := fun d env _ k => k (env.set i (some d))
theorem g_name (i : Nat) {x : Str} (hN : X.N.Nodup) (hi : X.N[i]? = some x := by rfl) (hx : Loc X.env.scope x := by first | exact Or.inl rfl | exact Or.inr rfl) (hf : X.fn x = true ∨ X.env.scope.names.lookup x = some .local := by first | exact .inl rfl | exact .inr rfl | assumption) : QG X (.Name x pos) [i] (dgName i) :=
  ⟨_, pg_name hN hi hx hf, fun v d σ H env L k Q st r h hk => hk _ _ h ⟨st.1.set r i, st.2⟩ only_set⟩
def dgNil : DGs := fun ds env _ k => match ds with
  | [] => k env
  | _ => False
def dgCons (dg : DG) (dgs : DGs) : DGs := fun ds env L k => match ds with
  | d :: r => dg d env L fun env' => dgs r env' L k
  | [] => False
theorem gs_nil : QGs X [] [] dgNil := ⟨_, pgs_nil, fun vs ds σ H env L k Q st r h hk => by
  cases r with
  | nil => exact ⟨rfl, hk _ _ h st fun _ _ => rfl⟩
  | cons _ _ => exact h.elim⟩
theorem gs_cons {dg : DG} {dgs : DGs} {sl sl' : List Nat} (h1 : QG X e sl dg) (h2 : QGs X es sl' dgs) (hs : (assignEach (e :: es) X.env).map (·.2) = assign e X.env :: (assignEach es X.env).map (·.2) := by rfl) : QGs X (e :: es) (sl ++ sl') (dgCons dg dgs) := by
  obtain ⟨g, pg, sg⟩ := h1.ex
  obtain ⟨gs, pgs, sgs⟩ := h2.ex
  refine ⟨_, pgs_cons pg pgs hs, fun vs ds σ H env L k Q st r h hk => ?_⟩
  cases r with
  | nil => exact h.elim
  | cons r1 r2 =>
    refine ⟨_, _, rfl, sg _ _ σ H env L _ _ st r1 h fun σ' env' h' st' o1 => ?_⟩
    exact sgs _ _ σ' H env' L _ _ st' r2 h' fun σ2 env2 h2 st2 o2 => hk σ2 env2 h2 st2 fun vs hv => (o2 vs fun i hi => hv i (List.mem_append_right _ hi)).trans (o1 vs fun i hi => hv i (List.mem_append_left _ hi))
def dgTup (n : Nat) (dgs : DGs) : DG := fun d env L k => match d with
  | .tup ds => ds.length = n ∧ dgs ds env L k
  | _ => False
theorem g_tup {kk : Nat} {dgs : DGs} {n : Nat} {sl : List Nat} (hc : X.calm = true) (h : QGs X es sl dgs) (hn : (assignEach es X.env).length = n := by rfl) (hst : (assignEach es X.env).findIdx? (·.1) = none := by rfl) : QG X (.Tuple es kk pos) sl (dgTup n dgs) := by
  obtain ⟨gs, pgs, sgs⟩ := h.ex
  refine ⟨_, pg_tup hc pgs hn hst, fun v d σ H env L k Q st r h hk => ?_⟩
  cases r <;> first | exact h.elim | skip
  rename_i s r
  exact ⟨_, _, rfl, s.sq, by rw [r.length]; exact h.1, sgs _ _ σ H env L k Q st r h.2 hk⟩
def dNext : DS := fun D env L => D.nx env L
def dSeq (t u : DS) : DS := fun D env L => t { D with nx := u D } env L
theorem ss_nil : QSs X Wx [] dNext := ⟨_, pss_nil, fun σ H env L D' D st h ok => ok.nx env L σ H h (Go.refl L H) st⟩
theorem sim_seq {K : PySem.W.Frag} {t u : TS} {dt du : DS} (s1 : SimS K Wx t dt) (s2 : SimS K Wx u du) : SimS K Wx (tSeq t u) (dSeq dt du) := by
  intro σ H env L D' D st h ok
  refine s1 σ H env L _ _ st h ⟨fun env' L' σ' H' h' g' st' => ?_, ok.rt, ok.ex, ok.bk, ok.ct⟩
  exact s2 σ' H' env' L' D' D st' h' (ok.go g')
theorem ss_cons {st : Stmt} {rest : List Stmt} {dt du : DS} (h1 : QS X Wx st dt) (h2 : QSs X Wx rest du) : QSs X Wx (st :: rest) (dSeq dt du) := by
  obtain ⟨t, pt, st1⟩ := h1.ex
  obtain ⟨u, pu, su⟩ := h2.ex
  exact ⟨_, pss_cons pt pu, sim_seq st1 su⟩
theorem ss_one {st : Stmt} {dt : DS} (h1 : QS X Wx st dt) : QSs X Wx [st] dt := by
  obtain ⟨t, pt, st1⟩ := h1.ex
  exact ⟨_, pss_one pt, st1⟩
/-- a word between a statement and what follows -/
def dCut (t u : DS) : DS := fun D env L => ∃ M : DEnv → Led → Prop, t { D with nx := M } env L ∧ ∀ env' L', M env' L' → u D env' L'
theorem ss_cut {st : Stmt} {rest : List Stmt} {dt du : DS} (h1 : QS X Wx st dt) (h2 : QSs X Wx rest du) : QSs X Wx (st :: rest) (dCut dt du) := by
  obtain ⟨t, pt, st1⟩ := h1.ex
  obtain ⟨u, pu, su⟩ := h2.ex
  refine ⟨_, pss_cons pt pu, fun σ H env L D' D st h ok => ?_⟩
  obtain ⟨M, hm, hu⟩ := h
  refine st1 σ H env L _ _ st hm ⟨fun env' L' σ' H' h' g' st' => ?_, ok.rt, ok.ex, ok.bk, ok.ct⟩
  exact su σ' H' env' L' D' D st' (hu env' L' h') (ok.go g')
def dAsg (de : DE) (dg : DG) : DS := fun D env L => de env L (fun d L1 => dg d env L1 fun env' => D.nx env' L1) D.ex
theorem sim_asg {te : TE} {g : TG} {dg : DG} {sl : List Nat} (se : SimE X.K Wx te de) (sg : SimG X.K sl g dg) : SimS X.K Wx (tAsg te g) (dAsg de dg) := by
  intro σ H env L D' D st h ok
  refine se σ H env L _ _ _ st h (fun d L1 v H1 h1 g1 j1 r1 => ?_) ok.ex
  exact sg v d σ H1 env L1 _ _ (st.go g1 j1) r1 h1 fun σ' env' h' st' _ => ok.nx env' L1 σ' H1 h' g1 st'
theorem s_set (i : Nat) {x : Str} {pos' : Pos} (hN : X.N.Nodup) (he : QE X Wx e de) (hi : X.N[i]? = some x := by rfl) (hx : Loc X.env.scope x := by first | exact Or.inl rfl | exact Or.inr rfl) (hs : swapsWith e (some (.Name x pos')) pos.line X.env = pure false := by rfl) (hf : X.fn x = true ∨ X.env.scope.names.lookup x = some .local := by first | exact .inl rfl | exact .inr rfl | assumption) :
    QS X Wx (.Assign [.Name x pos'] e pos) (dAsg de (dgName i)) := by
  obtain ⟨te, pe, se⟩ := he.ex
  exact ⟨_, ps_set hN hi hx pe hs hf, sim_asg (sl := [i]) se fun v d σ H env L k Q st r h hk => hk _ _ h ⟨st.1.set r i, st.2⟩ only_set⟩
theorem s_asg {tg : Expr} {dg : DG} {sl : List Nat} (he : QE X Wx e de) (hg : QG X tg sl dg) (hs : swapsWithSole [tg] e pos.line X.env = pure false := by rfl) (hw : swappedStores [tg] e X.env = pure none := by rfl) (h1 : (assignEach [tg] X.env).map (·.2) = [assign tg X.env] := by rfl) : QS X Wx (.Assign [tg] e pos) (dAsg de dg) := by
  obtain ⟨te, pe, se⟩ := he.ex
  obtain ⟨g, pg, sg⟩ := hg.ex
  exact ⟨_, ps_asg pe pg hs hw h1, sim_asg se sg⟩
/-- a, b = x, y -/
def dPar (i j : Nat) (dl : DA) : DS := fun D env L => dl env L (fun ds L1 => match ds with
  | [d, e] => D.nx ((env.set i (some d)).set j (some e)) L1
  | _ => False) D.ex
theorem s_par (i j : Nat) {x y : Str} {px py pt : Pos} {kt k2 pt2} (hc : X.calm = true) (hN : X.N.Nodup) (ha : QA X Wx [a, b] dl) (hi : X.N[i]? = some x := by rfl) (hj : X.N[j]? = some y := by rfl) (hij : i ≠ j := by decide)
    (hx : X.env.scope.names.lookup x = some .local := by rfl) (hy : X.env.scope.names.lookup y = some .local := by rfl)
    (hw : swappedStores [.Tuple [.Name x px, .Name y py] kt pt] (.Tuple [a, b] k2 pt2) X.env = pure (some [x, y]) := by rfl)
    (hs : swapsWithSole [.Tuple [.Name x px, .Name y py] kt pt] (.Tuple [a, b] k2 pt2) pos.line X.env = pure false := by rfl) :
    QS X Wx (.Assign [.Tuple [.Name x px, .Name y py] kt pt] (.Tuple [a, b] k2 pt2) pos) (dPar i j dl) := by
  obtain ⟨ta, pa, sa⟩ := ha.ex
  refine ⟨_, ps_par hc hN hi hj hij hx hy pa hw hs, fun σ H env L D' D st h ok => ?_⟩
  refine sa σ H env L _ _ _ st h (fun ds L1 vs H1 h1 g1 j1 r1 => ?_) ok.ex
  split at h1
  · rename_i d e
    cases r1 with
    | cons r1 r2 => cases r2 with
      | cons r2 r3 => cases r3 with
        | nil => exact ⟨_, _, rfl, ok.nx _ L1 _ H1 h1 g1 ⟨((st.1.go g1).set r1 i).set r2 j, j1⟩⟩
  · exact h1.elim
def dDrop (de : DE) : DS := fun D env L => de env L (fun _ L1 => D.nx env L1) D.ex
theorem s_expr (he : QE X Wx e de) (hs : swapsWith e none pos.line X.env = pure false := by rfl) : QS X Wx (.Expr e pos) (dDrop de) := by
  obtain ⟨te, pe, se⟩ := he.ex
  refine ⟨_, ps_expr pe hs, fun σ H env L D' D st h ok => ?_⟩
  exact se σ H env L _ _ _ st h (fun d L1 v H1 h1 g1 j1 r1 => ok.nx env L1 σ H1 h1 g1 (st.go g1 j1)) ok.ex
def dRet (de : DE) : DS := fun D env L => de env L D.rt D.ex
theorem s_ret (he : QE X Wx e de) : QS X Wx (.Return (some e) pos) (dRet de) := by
  obtain ⟨te, pe, se⟩ := he.ex
  exact ⟨_, ps_ret pe, fun σ H env L D' D st h ok => se σ H env L _ _ _ st h ok.rt ok.ex⟩
def dIfS (dt : DT) (t u : DS) : DS := fun D env L => dt env L (fun b L1 => match b with
  | true => t D env L1
  | false => u D env L1) D.ex
theorem s_if {as bs : List Stmt} {t u : DS} (hc : QT X Wx c dt) (ha : QSs X Wx as t) (hb : QSs X Wx bs u) : QS X Wx (.If c as bs pos) (dIfS dt t u) := by
  obtain ⟨tc, pc, sc⟩ := hc.ex
  obtain ⟨ta, pa, sa⟩ := ha.ex
  obtain ⟨tb, pb, sb⟩ := hb.ex
  refine ⟨_, ps_if pc pa pb, fun σ H env L D' D st h ok => ?_⟩
  refine sc σ H env L _ _ _ st h (fun b L1 H1 h1 g1 j1 => ?_) ok.ex
  cases b with
  | true => exact iteT (sa σ H1 env L1 D' D (st.go g1 j1) h1 (ok.go g1))
  | false => exact iteF (sb σ H1 env L1 D' D (st.go g1 j1) h1 (ok.go g1))
abbrev DI := DEnv → Led → (List D → Led → Prop) → DX → Prop
def ItD (K : PySem.W.Frag) (L : Led) (H : Hp) (J : It) (ds : List D) : Prop := ∀ L' H', Go L L' H H' → JL K L' H' → ∀ i, (∀ d, ds[i]? = some d → J.go i H' ∧ ∀ x H'', J.yld i H' x H'' → Same H' H'' ∧ Rp L' K H'' x d) ∧ (ds.length ≤ i → J.stop i H')
structure QI (X : Cx) (Wx : WX) (tg iter : Expr) (di : DI) : Prop where
  ex : ∃ wi, PI X tg iter wi ∧ ∀ σ H env L k x R, StL X.K σ H env L → di env L k x → (∀ ds L' J H', k ds L' → Go L L' H H' → JL X.K L' H' → ItD X.K L' H' J ds → R J H') → XOk X.K Wx L H x → wi σ H R
@[irreducible] def forD (dg : DG) (db : DS) (En : DEnds) : List D → DEnv → Led → Prop
  | [], env, L => En.nx env L
  | d :: ds, env, L => dg d env L fun env1 => db { En with nx := forD dg db En ds, ct := forD dg db En ds, bk := En.nx } env1 L
theorem forD_nil {dg : DG} {db : DS} {En : DEnds} {env : DEnv} {L : Led} : forD dg db En [] env L = En.nx env L := by with_unfolding_all rfl
theorem forD_cons {dg : DG} {db : DS} {En : DEnds} {d : D} {ds : List D} {env : DEnv} {L : Led} : forD dg db En (d :: ds) env L = dg d env L fun env1 => db { En with nx := forD dg db En ds, ct := forD dg db En ds, bk := En.nx } env1 L := by with_unfolding_all rfl
def dFor (di : DI) (dg : DG) (db : DS) : DS := fun D env L => di env L (fun ds L1 => forD dg db D ds env L1) D.ex
theorem s_for {tg iter : Expr} {body : List Stmt} {di : DI} {dg : DG} {db : DS} {sl : List Nat} (hp : PassesOwn (model X.prog X.w) X.A X.env X.xe) (hc : X.calm = true) (hi : QI X Wx tg iter di) (hg : QG X tg sl dg) (hb : QSs X Wx body db)
    (hs : ∀ x, foldedSetIterable iter X.env x = pure x := by intro _; rfl) : QS X Wx (.For tg iter body [] pos) (dFor di dg db) := by
  obtain ⟨wi, pi, si⟩ := hi.ex
  obtain ⟨g, pg, sg⟩ := hg.ex
  obtain ⟨tb, pb, sb⟩ := hb.ex
  refine ⟨_, ps_for hp hc pi pg pb hs, fun σ H env L D' D st h ok => ?_⟩
  refine si σ H env L _ _ _ st h (fun ds L1 J H1 h1 g1 j1 it => ?_) ok.ex
  refine ⟨fun i m σ' H' => m = ds.length - i ∧ i ≤ ds.length ∧ ∃ env' L', StL X.K σ' H' env' L' ∧ Go L1 L' H1 H' ∧ forD dg db D' (ds.drop i) env' L', ⟨ds.length, by omega, by omega, env, L1, st.go g1 j1, Go.refl L1 H1, h1⟩, ?_⟩
  rintro i m σ2 H2 ⟨rfl, hi, env2, L2, st2, g2, h2⟩
  obtain ⟨i1, i2⟩ := it L2 H2 g2 st2.2 i
  by_cases hlt : i < ds.length
  · have e : ds[i]? = some ds[i] := List.getElem?_eq_getElem hlt
    obtain ⟨go, yl⟩ := i1 _ e
    rw [List.drop_eq_getElem_cons hlt, forD_cons] at h2
    refine .inr ⟨go, fun σ' H' => ∃ env' L', StL X.K σ' H' env' L' ∧ Go L1 L' H1 H' ∧ forD dg db D' (ds.drop (i + 1)) env' L', fun σ' H' n => ⟨ds.length - (i + 1), by omega, rfl, hlt, n⟩, fun x H' y => ?_⟩
    obtain ⟨s, rx⟩ := yl x H' y
    have g3 : Go L2 L2 H2 H' := Go.same s
    refine sg x _ σ2 H' env2 L2 _ _ (st2.go g3 (st2.2.same s)) rx h2 fun σ3 env3 h3 st3 _ => ?_
    have g4 : Go L1 L2 H1 H' := g2.trans g3
    refine sb σ3 H' env3 L2 _ _ st3 h3 ⟨fun env' L' σ' H'' q g' st' => ⟨env', L', st', g4.trans g', q⟩, (ok.go (g1.trans g4)).rt, (ok.go (g1.trans g4)).ex, (ok.go (g1.trans g4)).nx, fun env' L' σ' H'' q g' st' => ⟨env', L', st', g4.trans g', q⟩⟩
  · have e : i = ds.length := by omega
    subst e
    rw [List.drop_length, forD_nil] at h2
    exact .inl ⟨i2 (Nat.le_refl _), ok.nx env2 L2 σ2 H2 h2 (g1.trans g2) st2⟩
/-- for x in range(n), range(a, b) -/
def rngD (lo : Int) : Nat → List D
  | 0 => []
  | n + 1 => .int lo :: rngD (lo + 1) n
theorem rngD_len : ∀ (n : Nat) (lo : Int), (rngD lo n).length = n
  | 0, _ => rfl
  | n + 1, lo => by show (rngD (lo + 1) n).length + 1 = n + 1; rw [rngD_len n]
theorem rngD_get : ∀ (n : Nat) (lo : Int) (i : Nat) (d : D), (rngD lo n)[i]? = some d → i < n ∧ d = .int (lo + i)
  | 0, _, _, _, h => by simp [rngD] at h
  | n + 1, lo, 0, d, h => by
    simp [rngD] at h
    exact ⟨by omega, by rw [← h]; simp⟩
  | n + 1, lo, i + 1, d, h => by
    obtain ⟨h1, h2⟩ := rngD_get n (lo + 1) i d (by simpa [rngD] using h)
    refine ⟨by omega, ?_⟩
    rw [h2]
    congr 1
    omega
theorem it_rng {K : PySem.W.Frag} {L : Led} {H : Hp} {lo : Int} {n : Nat} : ItD K L H (Itr lo n) (rngD lo n) := fun L' H' g j i => by
  refine ⟨fun d hd => ?_, fun h => ?_⟩
  · obtain ⟨h1, h2⟩ := rngD_get n lo i d hd
    subst h2
    exact ⟨h1, fun x H'' y => by
      obtain ⟨e1, e2⟩ := y
      subst e1 e2
      exact ⟨Same.refl _, .int _⟩⟩
  · rw [rngD_len] at h
    exact h
def diRange (dl : DA) : DI := fun env L k x => dl env L (fun ds L1 => match ds with
  | [.int n] => (-(2 ^ 62) ≤ n ∧ n < 2 ^ 62) ∧ k (rngD 0 n.toNat) L1
  | _ => False) x
theorem i_range1 {tg : Expr} {p : Pos} (hg : Gl X "range") (hm : X.mg "range" = none) (ha : QA X Wx [e] dl) (hs : starEach [e] X.env = [(false, eval e X.env)] := by rfl) : QI X Wx tg (.Call (.Name "range" p) [e] [] pos) (diRange dl) := by
  obtain ⟨ta, pa, sa⟩ := ha.ex
  refine ⟨_, pi_range1 hg hm pa hs, fun σ H env L k x R st h hk hx => ?_⟩
  refine sa σ H env L _ _ _ st h (fun ds L1 vs H1 h1 g1 j1 r1 => ?_) hx
  split at h1
  · rename_i n
    obtain ⟨⟨q1, q2⟩, h1⟩ := h1
    cases r1 with
    | cons r1 r2 =>
      cases r2
      cases r1
      exact ⟨n, rfl, q1, q2, hk _ L1 _ H1 h1 g1 j1 it_rng⟩
  · exact h1.elim
theorem it_list {K : PySem.W.Frag} {L : Led} {H : Hp} {a : Addr} {vs : List V} {ds : List D} (h : SqL' L K H a vs) (r : RpAll L K H vs ds) : ItD K L H (Itl K a) ds := fun L' H' g j i => by
  have h' := (g.sqL h).sq
  have r' := r.go g
  refine ⟨fun d hd => ?_, fun hi => ⟨vs, h', by rw [r.length]; exact hi⟩⟩
  obtain ⟨v, hv, rv⟩ := r'.get hd
  exact ⟨⟨vs, v, h', hv⟩, fun x H'' y => by
    obtain ⟨e1, e2⟩ := y
    subst e1
    have e3 := e2 vs h'
    rw [hv] at e3
    cases e3
    exact ⟨Same.refl _, rv⟩⟩
theorem it_tup {K : PySem.W.Frag} {L : Led} {H : Hp} {a : Addr} {vs : List V} {ds : List D} (h : SqT' L K H a vs) (r : RpAll L K H vs ds) : ItD K L H (Itt K a) ds := fun L' H' g j i => by
  have h' := (g.sqT h).sq
  have r' := r.go g
  refine ⟨fun d hd => ?_, fun hi => ⟨vs, h', by rw [r.length]; exact hi⟩⟩
  obtain ⟨v, hv, rv⟩ := r'.get hd
  exact ⟨⟨vs, v, h', hv⟩, fun x H'' y => by
    obtain ⟨e1, e2⟩ := y
    subst e1
    have e3 := e2 vs h'
    rw [hv] at e3
    cases e3
    exact ⟨Same.refl _, rv⟩⟩
def diL (da : DE) : DI := fun env L k x => da env L (fun d L1 => match d with
  | .lst ds => k ds L1
  | .ro ds => k ds L1
  | _ => False) x
def diT (da : DE) : DI := fun env L k x => da env L (fun d L1 => match d with
  | .tup ds => k ds L1
  | _ => False) x
theorem i_list {tg : Expr} (ha : QE X Wx e da) : QI X Wx tg e (diL da) := by
  obtain ⟨ta, pa, sa⟩ := ha.ex
  refine ⟨_, pi_list pa, fun σ H env L k x R st h hk hx => ?_⟩
  refine sa σ H env L _ _ _ st h (fun d L1 v H1 h1 g1 j1 r1 => ?_) hx
  cases r1 <;> first | exact h1.elim | skip
  · rename_i n s r
    exact ⟨_, rfl, ⟨_, SqL.of s⟩, hk _ L1 _ H1 h1 g1 j1 (it_list (.inl ⟨n, .inl s⟩) r)⟩
  · rename_i s r
    exact ⟨_, rfl, ⟨_, s.sq⟩, hk _ L1 _ H1 h1 g1 j1 (it_list s r)⟩
theorem i_tup {tg : Expr} (ha : QE X Wx e da) : QI X Wx tg e (diT da) := by
  obtain ⟨ta, pa, sa⟩ := ha.ex
  refine ⟨_, pi_tup pa, fun σ H env L k x R st h hk hx => ?_⟩
  refine sa σ H env L _ _ _ st h (fun d L1 v H1 h1 g1 j1 r1 => ?_) hx
  cases r1 <;> first | exact h1.elim | skip
  rename_i s r
  exact ⟨_, rfl, ⟨_, s.sq⟩, hk _ L1 _ H1 h1 g1 j1 (it_tup s r)⟩
end
section
open PySem.Spec PyProof.Rows
variable {P : Program} {w : World} {K : PySem.W.Frag} {mg : Str → Option Value} {base : Heap}
def endsD (k : DK) (x : Exn → Led → Prop) : DEnds := { nx := fun _ L => k .non L, rt := k, ex := fun n _ L => x n L, bk := fun _ _ => False, ct := fun _ _ => False }
def startD (N : List Str) (ds : List D) : DEnv := ds.map some ++ List.replicate (N.length - ds.length) none
abbrev wxOf (E : XK) : WX := fun cls d _ H => E cls d H
theorem fn_ok {x qual : Str} {st : Stmt} {f : Addr} {fd : FuncData} {N ps : List Str} {k : Nat} {g : DSp} (F : Fun K x qual st f fd) (S : FnScope N ps (defScope st)) (len : ∀ ds L k x, g ds L k x → ds.length = ps.length)
    (body : ∀ (cdv : Value) (A : Around) (outer : List Env) (s : Shared) (H : Hp) (E : XK), Room k (A.deeper (envOfC qual (defScope st) s.heap.objs.size f cdv)) →
      ∃ t, QSs (cxOf (L2.CX P w) P w K mg base N qual (defScope st) f cdv A outer s H E) (wxOf E) (defBody st) t ∧ ∀ ds L k x, g ds L k x → t (endsD k x) (startD N ds) L) : FnOk P w K mg base (L2.CX P w) (k + 1) f fd ps (spD K g) := by
  refine F.okX S (fun vs H Q E h => ?_) (fun cdv A outer s H vs Q E hr h => ?_)
  · obtain ⟨ds, L, k, x, j, r, h, _⟩ := h
    rw [r.length]
    exact len ds L k x h
  · obtain ⟨ds, L, k, x, j, r, h, hk, hx⟩ := h
    obtain ⟨t, q, ht⟩ := body cdv A outer s H E hr
    obtain ⟨ts, pts, sts⟩ := q.ex
    refine ⟨ts, pts, sts _ H (startD N ds) L (endsD k x) _ ⟨?_, j⟩ (ht ds L k x h) ?_⟩
    · unfold L2.start startD
      rw [r.length]
      exact Sto.start r
    · exact ⟨fun env' L' σ' H' q g' st' => hk .non L' .non H' q g' st'.2 .non, hk, fun n env' L' a H' σ' q g' st' r' => hx n L' a H' q g' st'.2 r', fun _ _ _ _ q => q.elim, fun _ _ _ _ q => q.elim⟩
end
end DL
namespace DL
open PySem L2
def setL (L : Led) (p : Addr) (d : D) : Led := L.map fun q => if q.1 = p then (p, d) else q
def remL (L : Led) (p : Addr) : Led := L.filter fun q => decide (q.1 ≠ p)
theorem setL_keys (L : Led) (p : Addr) (d : D) : (setL L p d).map (·.1) = L.map (·.1) := by
  unfold setL
  rw [List.map_map]
  refine List.map_congr_left fun q _ => ?_
  show (if q.1 = p then (p, d) else q).1 = q.1
  split
  · rename_i h; exact h.symm
  · rfl
theorem inL_setL {L : Led} {p a : Addr} {d : D} : inL (setL L p d) a ↔ inL L a := by unfold inL; rw [setL_keys]
theorem setL_out {L : Led} {p : Addr} {d : D} (h : ¬ inL L p) : setL L p d = L := by
  unfold setL
  have : ∀ q ∈ L, (if q.1 = p then (p, d) else q) = id q := fun q hq => by
    rw [if_neg fun e => h (List.mem_map.mpr ⟨q, hq, e⟩)]; rfl
  rw [List.map_congr_left this, List.map_id]
theorem setL_top {L : Led} {p : Addr} {c d : D} (h : ¬ inL L p) : setL ((p, c) :: L) p d = (p, d) :: L := by
  show (if p = p then (p, d) else (p, c)) :: setL L p d = _
  rw [if_pos rfl, setL_out h]
theorem setL_ne {L : Led} {p q : Addr} {c d : D} (h : q ≠ p) : setL ((q, c) :: L) p d = (q, c) :: setL L p d := by
  show (if q = p then (p, d) else (q, c)) :: setL L p d = _
  rw [if_neg h]
theorem remL_out {L : Led} {p : Addr} (h : ¬ inL L p) : remL L p = L := by
  unfold remL
  refine List.filter_eq_self.mpr fun q hq => decide_eq_true fun e => h (List.mem_map.mpr ⟨q, hq, e⟩)
theorem remL_top {L : Led} {p : Addr} {c : D} (h : ¬ inL L p) : remL ((p, c) :: L) p = L := by
  unfold remL
  rw [List.filter_cons, if_neg (by simp)]
  exact remL_out h
theorem inL_remL {L : Led} {p a : Addr} : inL (remL L p) a ↔ inL L a ∧ a ≠ p := by
  unfold inL remL
  constructor
  · intro h
    obtain ⟨q, hq, e⟩ := List.mem_map.mp h
    obtain ⟨h1, h2⟩ := List.mem_filter.mp hq
    subst e
    exact ⟨List.mem_map.mpr ⟨q, h1, rfl⟩, of_decide_eq_true h2⟩
  · rintro ⟨h, hn⟩
    obtain ⟨q, hq, e⟩ := List.mem_map.mp h
    subst e
    exact List.mem_map.mpr ⟨q, List.mem_filter.mpr ⟨hq, decide_eq_true hn⟩, rfl⟩
theorem lookup_top {L : Led} {p : Addr} {c : D} : List.lookup p ((p, c) :: L) = some c := List.lookup_cons_self
theorem lookup_ne {L : Led} {p q : Addr} {c : D} (h : p ≠ q) : List.lookup p ((q, c) :: L) = List.lookup p L := by
  have e : (p == q) = false := by simpa using h
  rw [List.lookup_cons, e]
theorem inL_of_lookup {L : Led} {p : Addr} {c : D} (h : L.lookup p = some c) : inL L p := List.mem_map.mpr ⟨_, mem_of_lookup h, rfl⟩
theorem inL_cons {L : Led} {p a : Addr} {c : D} : inL ((p, c) :: L) a ↔ a = p ∨ inL L a := by unfold inL; simp
section
variable {L L' : Led} {K : PySem.W.Frag} {H H' : Hp} {a p : Addr} {d : D} {o : HO}
theorem go_set (h : inL L p) : Go L (setL L p d) H (upd H p o) := .mk' fun a u n e => by
  have ne : a ≠ p := fun z => n (z ▸ h)
  exact ⟨fun m => n (inL_setL.mp m), by rw [upd_ne ne]; exact e⟩
theorem JL.put (j : JL K L H) (h : inL L p) (ow : Own (setL L p d) K (upd H p o) p d) : JL K (setL L p d) (upd H p o) := by
  refine ⟨by rw [setL_keys]; exact j.nd, fun a e m => ?_⟩
  obtain ⟨q, hq, eq⟩ := List.mem_map.mp m
  by_cases hp : q.1 = p
  · rw [if_pos hp] at eq
    cases eq
    exact ow
  · rw [if_neg hp] at eq
    subst eq
    exact Own.move (j.own _ _ hq) (go_set h) fun u e => by rw [upd_ne hp]; exact e
theorem go_rem : Go L (remL L p) H H := .mk' fun a u n e => ⟨fun m => n (inL_remL.mp m).1, e⟩
theorem JL.rem (j : JL K L H) : JL K (remL L p) H := by
  refine ⟨?_, fun a e m => ?_⟩
  · have : ((remL L p).map (·.1)).Sublist (L.map (·.1)) := (List.filter_sublist).map _
    exact j.nd.sublist this
  · exact Own.move (j.own _ _ (List.mem_filter.mp m).1) go_rem fun u e => e
end
section
variable {X : Cx} {Wx : WX} {a b c e o : Expr} {es rest : List Expr} {da db dc de do' di : DE} {dt du : DT} {dl dk : DA} {pos : Pos}
theorem QE.w (h : QE X Wx e de) {de' : DE} (hw : ∀ env L k x, de' env L k x → de env L k x) : QE X Wx e de' := by
  obtain ⟨te, pe, se⟩ := h.ex
  exact ⟨te, pe, fun σ H env L k x Q st h hk hx => se σ H env L k x Q st (hw env L k x h) hk hx⟩
/-- the reading by data, as a reading of the layer -/
def teOf (K : PySem.W.Frag) (Wx : WX) (de : DE) : TE := fun σ H Q => ∃ env L k x, StL K σ H env L ∧ de env L k x ∧ KOk K L H k Q ∧ XOk K Wx L H x
theorem QE.pe (h : QE X Wx e de) : PE X e (teOf X.K Wx de) := by
  obtain ⟨te, pe, se⟩ := h.ex
  refine ⟨fun pins s σ H Q I hw => ?_⟩
  obtain ⟨env, L, k, x, st, h, hk, hx⟩ := hw
  exact pe.run pins s σ H Q I (se σ H env L k x Q st h hk hx)
def ttOf (K : PySem.W.Frag) (Wx : WX) (dt : DT) : TT := fun σ H Q => ∃ env L k x, StL K σ H env L ∧ dt env L k x ∧ (∀ b L' H', k b L' → Go L L' H H' → JL K L' H' → Q b H') ∧ XOk K Wx L H x
theorem QT.pt (h : QT X Wx e dt) : PT X e (ttOf X.K Wx dt) := by
  obtain ⟨te, pe, se⟩ := h.ex
  refine ⟨fun pins s σ H Q I hw => ?_⟩
  obtain ⟨env, L, k, x, st, h, hk, hx⟩ := hw
  exact pe.run pins s σ H Q I (se σ H env L k x Q st h hk hx)
def tgOf (K : PySem.W.Frag) (sl : List Nat) (dg : DG) : TG := fun v σ H Q => ∃ d env L k, StL K σ H env L ∧ Rp L K H v d ∧ dg d env L k ∧ ∀ σ' env', k env' → StL K σ' H env' L → Only' sl σ σ' → Q σ' H
theorem QG.pg {tg : Expr} {sl : List Nat} {dg : DG} (h : QG X tg sl dg) : PG X tg (tgOf X.K sl dg) := by
  obtain ⟨g, pg, sg⟩ := h.ex
  refine ⟨fun pins s σ H v u Q I r hw => ?_⟩
  obtain ⟨d, env, L, k, st, rd, h, hk⟩ := hw
  exact pg.run pins s σ H v u Q I r (sg v d σ H env L k Q st rd h hk)
def dStore (de do' di : DE) : DS := fun D env L => de env L (fun v L1 => do' env L1 (fun o L2 => di env L2 (fun i L3 => match o, i with
  | .ptr p, .int z => match L3.lookup p with
    | some (.lst ds) => match ixN ds.length z with
      | some j => D.nx env (setL L3 p (.lst (ds.set j v)))
      | none => False
    | _ => False
  | _, _ => False) D.ex) D.ex) D.ex
theorem s_store {i : Expr} {ip : Pos} (he : QE X Wx e de) (ho : QE X Wx o do') (hi : QE X Wx i di) (hix : ∀ h0 : PE X o (teOf X.K Wx do'), ∀ h1 : PE X i (teOf X.K Wx di), PG X (.Subscript o i ip) (L2.gSub (teOf X.K Wx do') (teOf X.K Wx di) rSetL) := by exact fun h0 h1 => pg_sub h0 h1 set_list)
    (hs : swapsWithSole [.Subscript o i ip] e pos.line X.env = pure false := by rfl) (hw : swappedStores [.Subscript o i ip] e X.env = pure none := by rfl) (h1 : (assignEach [.Subscript o i ip] X.env).map (·.2) = [assign (.Subscript o i ip) X.env] := by rfl) : QS X Wx (.Assign [.Subscript o i ip] e pos) (dStore de do' di) := by
  obtain ⟨te, pe, se⟩ := he.ex
  refine ⟨_, ps_asg pe (hix ho.pe hi.pe) hs hw h1, fun σ H env L D' D st h ok => ?_⟩
  refine se σ H env L _ _ _ st h (fun v L1 vv H1 h1 g1 j1 r1 => ?_) ok.ex
  refine ⟨env, L1, _, D'.ex, st.go g1 j1, h1, fun o L2 vo H2 h2 g2 j2 r2 => ?_, ok.ex.go g1⟩
  refine ⟨env, L2, _, D'.ex, (st.go g1 j1).go g2 j2, h2, fun i L3 vi H3 h3 g3 j3 r3 => ?_, (ok.ex.go g1).go g2⟩
  have r2 := r2.go g3
  have r1 := (r1.go g2).go g3
  dsimp only at h3 ⊢
  split at h3
  · cases r2 with
    | ptr p =>
    cases r3 with
    | int z =>
    split at h3
    · rename_i ds hl
      split at h3
      · rename_i j hj
        obtain ⟨vs, e1, rv⟩ := j3.look hl
        have hp := inL_of_lookup hl
        refine ⟨_, vs, _, j, rfl, rfl, e1, by rw [rv.length]; exact hj, ?_⟩
        have g4 : Go L3 (setL L3 _ (.lst (ds.set j v))) H3 (upd H3 _ (.lst (vs.set j vv))) := go_set hp
        have j4 : JL X.K (setL L3 _ (.lst (ds.set j v))) (upd H3 _ (.lst (vs.set j vv))) := j3.put hp ⟨_, upd_same, (rv.go g4).set (r1.go g4) j⟩
        exact ok.nx env _ σ _ h3 (((g1.trans g2).trans g3).trans g4) (st.go (((g1.trans g2).trans g3).trans g4) j4)
      · exact h3.elim
    · exact h3.elim
  · exact h3.elim
end
end DL
namespace DL
open PySem L2
section
variable {X : Cx} {Wx : WX} {a b c e o : Expr} {es rest : List Expr} {da db dc de do' di : DE} {dt du : DT} {dl dk : DA} {pos : Pos}
def lenD (L : Led) (d : D) : Option Nat := match seqs (con L d) with
  | some ds => some ds.length
  | none => none
def gLen : GC := fun ds L k => match ds with
  | [.str z] => z.length ≤ sizeLine ∧ k (.int z.length)
  | [d] => match lenD L d with
    | some n => k (.int n)
    | none => False
  | _ => False
theorem cq_len : CQ X (.builtin "len") gLen := ⟨_, call_len, fun H L vs ds k Q j r h hk => by
  unfold gLen at h
  split at h
  · cases r with
    | cons r1 r2 =>
      cases r2
      cases r1
      exact ⟨_, _, rfl, ⟨h.1, rfl⟩, hk _ _ H h.2 (Same.refl H) (.int _)⟩
  · rename_i d _
    cases r with
    | cons r1 r2 =>
      cases r2
      split at h
      · rename_i n hn
        unfold lenD at hn
        split at hn
        · rename_i ds' hd
          cases hn
          obtain ⟨a, vs, rfl, hs, rv⟩ := con_seq j r1 hd
          refine ⟨_, ds'.length, rfl, ?_, hk _ _ H h (Same.refl H) (.int _)⟩
          rcases hs with hs | hs
          · exact .inl ⟨vs, hs, rv.length.symm⟩
          · exact .inr ⟨vs, hs, rv.length.symm⟩
        · cases hn
      · exact h.elim
  · exact h.elim⟩
def gAbs : GC := fun ds _ k => match ds with
  | [.int i] => k (.int (if i < 0 then -i else i))
  | _ => False
theorem cq_abs : CQ X (.builtin "abs") gAbs := ⟨_, call_abs, fun H L vs ds k Q j r h hk => by
  unfold gAbs at h
  split at h
  · cases r with
    | cons r1 r2 =>
      cases r2
      cases r1
      exact ⟨_, rfl, hk _ _ H h (Same.refl H) (.int _)⟩
  · exact h.elim⟩
def gInt : GC := fun ds _ k => match ds with
  | [.int i] => k (.int i)
  | [.bl b] => k (.int (if b then 1 else 0))
  | _ => False
theorem cq_int : CQ X (.type "int") gInt := ⟨_, call_int1, fun H L vs ds k Q j r h hk => by
  unfold gInt at h
  split at h
  · cases r with
    | cons r1 r2 =>
      cases r2
      cases r1
      exact .inl ⟨_, rfl, hk _ _ H h (Same.refl H) (.int _)⟩
  · cases r with
    | cons r1 r2 =>
      cases r2
      cases r1
      exact .inr ⟨_, rfl, hk _ _ H h (Same.refl H) (.int _)⟩
  · exact h.elim⟩
def gList : GC := fun ds L k => match ds with
  | [d] => match seqs (con L d) with
    | some xs => k (.lst xs)
    | none => False
  | _ => False
theorem cq_list : CQ X (.type "list") gList := ⟨_, call_list_of, fun H L vs ds k Q j r h hk => by
  unfold gList at h
  split at h
  · cases r with
    | cons r1 r2 =>
      cases r2
      split at h
      · rename_i xs hd
        obtain ⟨a, vs, rfl, hs, rv⟩ := con_seq j r1 hd
        refine ⟨a, vs, rfl, hs, fun l hl => ?_⟩
        have s := same_new hl (.lst vs)
        exact hk _ _ _ h s (.lst (j.notIn hl) upd_same (rv.go (Go.same s)))
      · exact h.elim
  · exact h.elim⟩
def gGcd : GC := fun ds _ k => match ds with
  | [.int a, .int b] => k (.int ((Nat.gcd a.natAbs b.natAbs : Nat) : Int))
  | _ => False
theorem cq_gcd : CQ X (.builtin "math.gcd") gGcd := ⟨_, cr_gcd, fun H L vs ds k Q j r h hk => by
  unfold gGcd at h
  split at h
  · cases r with
    | cons r1 r2 => cases r2 with
      | cons r2 r3 =>
      cases r3
      cases r1
      cases r2
      exact ⟨_, _, rfl, hk _ _ H h (Same.refl H) (.int _)⟩
  · exact h.elim⟩
def gMax2 : GC := fun ds _ k => match ds with
  | [.int i, .int j] => k (.int (if j > i then j else i))
  | _ => False
theorem cq_max2 (hc : X.calm = true) : CQ X (.builtin "max") gMax2 := ⟨_, call_max2 hc, fun H L vs ds k Q j r h hk => by
  unfold gMax2 at h
  split at h
  · cases r with
    | cons r1 r2 => cases r2 with
      | cons r2 r3 =>
      cases r3
      cases r1
      cases r2
      exact ⟨_, _, rfl, hk _ _ H h (Same.refl H) (.int _)⟩
  · exact h.elim⟩
def blsOf : List D → Option (List Bool)
  | [] => some []
  | .bl b :: r => match blsOf r with
    | some bs => some (b :: bs)
    | none => none
  | _ => none
theorem blsOf_eq : ∀ {ds : List D} {bs : List Bool}, blsOf ds = some bs → ds = bs.map D.bl
  | [], bs, h => by cases h; rfl
  | d :: r, bs, h => by
    cases d <;> first | (cases h; done) | skip
    unfold blsOf at h
    split at h
    · rename_i bs' hb
      cases h
      rw [blsOf_eq hb]; rfl
    · cases h
theorem blsOf_map : ∀ (bs : List Bool), blsOf (bs.map D.bl) = some bs
  | [] => rfl
  | b :: r => by show (match blsOf (r.map D.bl) with | some bs => some (b :: bs) | none => none) = _; rw [blsOf_map r]
def gAll : GC := fun ds L k => match ds with
  | [d] => match con L d with
    | .lst xs => match blsOf xs with
      | some bs => k (.bl (bs.all id))
      | none => False
    | _ => False
  | _ => False
theorem cq_all (hc : X.calm = true) : CQ X (.builtin "all") gAll := ⟨_, cr_all hc, fun H L vs ds k Q j r h hk => by
  unfold gAll at h
  split at h
  · cases r with
    | cons r1 r2 =>
      cases r2
      split at h
      · rename_i xs hd
        split at h
        · rename_i bs hb
          obtain ⟨a, vs, rfl, hs, rv⟩ := con_lst j r1 hd
          rw [blsOf_eq hb] at rv
          have e := rv.ofBls
          subst e
          exact ⟨a, bs, rfl, SqL.of hs, hk _ _ H h (Same.refl H) (.bl _)⟩
        · exact h.elim
      · exact h.elim
  · exact h.elim⟩
inductive Ty where
  | non | bl | int | str | lst | tup | dct
  deriving DecidableEq
def Ty.nm : Ty → String
  | .non => "NoneType" | .bl => "bool" | .int => "int" | .str => "str" | .lst => "list" | .tup => "tuple" | .dct => "dict"
def tyD : D → Option Ty
  | .non => some .non
  | .bl _ => some .bl
  | .int _ => some .int
  | .str _ => some .str
  | .lst _ => some .lst
  | .ro _ => some .lst
  | .tup _ => some .tup
  | .dk _ _ => some .dct
  | .kt _ => some .tup
  | _ => none
def isTy : Ty → Ty → Bool
  | .bl, .int => true
  | .bl, .bl => true
  | .int, .int => true
  | .str, .str => true
  | .lst, .lst => true
  | .tup, .tup => true
  | .dct, .dct => true
  | .non, .non => true
  | _, _ => false
theorem kit_isTy (t c : Ty) (h : c ≠ .non) : kitB t.nm c.nm = some (isTy t c) := by
  cases t <;> cases c <;> first | exact absurd rfl h | decide +kernel
theorem ty_of {L : Led} {K : PySem.W.Frag} {H : Hp} {v : V} {d : D} {t : Ty} (r : Rp L K H v d) (h : tyD d = some t) : TyX K H v (.type t.nm) := by
  cases r <;> first | (cases h; done) | skip
  all_goals cases h
  · exact .base .non
  · exact .base (.bl _)
  · exact .base (.int _)
  · exact .base (.str _)
  · rename_i n e r
    exact .base (.lst e)
  · rename_i s r
    rcases s with ⟨_, s | ⟨o, s⟩⟩ | ⟨o, its, n, h1, h2, _⟩
    · exact .base (.lst s)
    · exact .base (.frz s)
    · exact .kList h1 h2
  · rename_i s r
    rcases s with ⟨_, s | ⟨o, s⟩⟩ | ⟨o, its, n, h1, h2, _⟩
    · exact .base (.tup s)
    · exact .fTuple s
    · exact .kTuple h1 h2
  · rename_i n s _ _
    rcases s with s | ⟨o, s⟩
    · exact .base (.dK s)
    · exact .fDict s
  · rename_i n s
    exact .base (.tup s)
end
end DL
namespace DL
open PySem L2
section
variable {X : Cx} {Wx : WX} {a b c e o : Expr} {es rest : List Expr} {da db dc de do' di : DE} {dt du : DT} {dl dk : DA} {pos : Pos}
/-- isinstance(x, T) -/
def gIsi (c : Ty) : G1 := fun a L k => match tyD (con L a) with
  | some t => k (.bl (isTy t c))
  | none => False
def gIsi2 (c c' : Ty) : G1 := fun a L k => match tyD (con L a) with
  | some t => k (.bl (isTy t c || isTy t c'))
  | none => False
theorem tyX_con {L : Led} {K : PySem.W.Frag} {H : Hp} {v : V} {d : D} {t : Ty} (j : JL K L H) (r : Rp L K H v d) (h : tyD (con L d) = some t) : TyX K H v (.type t.nm) := by
  cases d with
  | ptr a =>
    cases r
    have h : tyD ((L.lookup a).getD (.ptr a)) = some t := h
    cases q : L.lookup a with
    | none => rw [q] at h; cases h
    | some c =>
      rw [q] at h
      have h : tyD c = some t := h
      have ow := j.look q
      cases c with
      | lst ds => cases h; obtain ⟨vs, e, _⟩ := ow; exact .base (.lst e)
      | dk ks ds => cases h; obtain ⟨vs, e, _⟩ := ow; exact .base (.dK e)
      | _ => first | exact ow.elim | cases h
  | _ => exact ty_of r h
def gcIsi (c : Ty) : GC := fun ds L k => match ds with
  | [d, .ty n] => n = c.nm ∧ gIsi c d L k
  | _ => False
theorem cq_isi {c : Ty} (hc : c ≠ .non) : CQ X (.builtin "isinstance") (gcIsi c) := ⟨_, call_isi, fun H L vs ds k Q j r h hk => by
  unfold gcIsi at h
  split at h
  · rename_i d n
    obtain ⟨rfl, h⟩ := h
    unfold gIsi at h
    split at h
    · rename_i t ht
      cases r with
      | cons r1 r2 => cases r2 with
        | cons r2 r3 =>
        cases r3
        cases r2
        exact ⟨_, _, _, _, _, rfl, .ty _, tyX_con j r1 ht, kit_ty (kit_isTy t c hc), hk _ _ H h (Same.refl H) (.bl _)⟩
    · exact h.elim
  · exact h.elim⟩
theorem q_isi {p p2 : Pos} {T : Str} (c : Ty) (ha : QE X Wx e da) (hg : Gl X "isinstance") (hm : X.mg "isinstance" = none) (hgT : Gl X T) (hmT : X.mg T = none) (hv : bootBuiltins T = some (.type c.nm)) (hc : c ≠ .non := by decide)
    (hn : T ≠ "__name__" := by decide) (hd : (T == ("__debug__" : Str)) = false := by decide) (hs : starEach (e :: [.Name T p2]) X.env = (false, eval e X.env) :: starEach [.Name T p2] X.env := by rfl) (hv0 : bootBuiltins "isinstance" = some (.builtin "isinstance") := by decide +kernel) :
    QE X Wx (.Call (.Name "isinstance" p) [e, .Name T p2] [] pos) (dUn (gIsi c) da) := by
  refine (q_callB (g := gcIsi c) (cq_isi hc) hg hm hv0 (a_cons ha (a_cons (q_bltn (v := .ty c.nm) (d := .ty c.nm) hgT hmT hv rfl (fun _ _ => .ty _) hn hd) a_nil (by rfl)) hs) (by decide) (by decide) hs (by rfl)).w ?_
  intro env L k x h
  exact (show dCB (gcIsi c) (dCons da (dCons (dC (.ty c.nm)) dNil)) env L k x from by
    unfold dCB dCons dC dNil
    unfold dUn at h
    refine cast ?_ h
    congr 1
    funext a L1
    show _ = (c.nm = c.nm ∧ _)
    simp)
/-- isinstance(x, (T, T')): the tuple is made on the spot -/
theorem q_isi2 {p p2 p3 p4 : Pos} {kk : Nat} {T T' : Str} (c c' : Ty) (ha : QE X Wx e da) (hg : Gl X "isinstance") (hm : X.mg "isinstance" = none) (hgT : Gl X T) (hmT : X.mg T = none) (hv : bootBuiltins T = some (.type c.nm)) (hgT' : Gl X T') (hmT' : X.mg T' = none) (hv' : bootBuiltins T' = some (.type c'.nm)) (hc : c ≠ .non := by decide) (hc' : c' ≠ .non := by decide)
    (hn : T ≠ "__name__" := by decide) (hd : (T == ("__debug__" : Str)) = false := by decide) (hn' : T' ≠ "__name__" := by decide) (hd' : (T' == ("__debug__" : Str)) = false := by decide) (hs : starEach (e :: [.Tuple [.Name T p2, .Name T' p3] kk p4]) X.env = (false, eval e X.env) :: starEach [.Tuple [.Name T p2, .Name T' p3] kk p4] X.env := by rfl) (hv0 : bootBuiltins "isinstance" = some (.builtin "isinstance") := by decide +kernel) :
    QE X Wx (.Call (.Name "isinstance" p) [e, .Tuple [.Name T p2, .Name T' p3] kk p4] [] pos) (dUn (gIsi2 c c') da) := by
  obtain ⟨ta, pa, sa⟩ := ha.ex
  refine ⟨_, pe_callB call_isiT hg hm hv0 (pa_cons pa (pa_cons (pe_tup (pa_cons (pe_bltn (v := .ty c.nm) hgT hmT hv rfl hn hd) (pa_cons (pe_bltn (v := .ty c'.nm) hgT' hmT' hv' rfl hn' hd') pa_nil (by rfl)) (by rfl))) pa_nil (by rfl)) hs) (by decide) (by decide) hs (by rfl), fun σ H env L k x Q st h hk hx => ?_⟩
  refine sa σ H env L _ x _ st h (fun d L1 v H1 h1 g1 j1 r1 => ?_) hx
  refine ⟨show 2 ≤ sizeLine by decide, fun t ht => ?_⟩
  have s := same_new ht (.tup [.ty c.nm, .ty c'.nm])
  unfold gIsi2 at h1
  split at h1
  · rename_i ty hty
    refine ⟨v, t, _, _, [.type c.nm, .type c'.nm], (isTy ty c || isTy ty c'), rfl, upd_same, .cons (.ty _) (.cons (.ty _) .nil), tyX_con (j1.same s) (r1.go (Go.same s)) hty, ?_, hk _ L1 _ _ h1 (g1.trans (Go.same s)) (j1.same s) (.bl _)⟩
    refine kitAny_cons (kit_ty (kit_isTy ty c hc)) (fun h0 => ?_) (fun h0 => by rw [h0, Bool.true_or])
    rw [h0, Bool.false_or]
    exact kitAny_cons (r := isTy ty c') (kit_ty (kit_isTy ty c' hc')) (fun h1 => by rw [h1]; exact kitAny_nil) (fun h1 => h1)
  · exact h1.elim
def gAdd : G2 := fun a b L k => match con L a, con L b with
  | .int i, .int j => k (.int (i + j))
  | .str x, .str y => x.length + y.length ≤ sizeLine ∧ k (.str (x ++ y))
  | .lst xs, .lst ys => xs.length + ys.length ≤ sizeLine ∧ k (.lst (xs ++ ys))
  | .tup xs, .tup ys => xs.length + ys.length ≤ sizeLine ∧ k (.tup (xs ++ ys))
  | _, _ => False
theorem con_flat {L : Led} {K : PySem.W.Frag} {H : Hp} {v : V} {d c : D} (j : JL K L H) (r : Rp L K H v d) (e : con L d = c) (hc : match c with | .int _ => True | .str _ => True | .bl _ => True | .non => True | _ => False) : d = c := by
  cases d with
  | ptr a =>
    have e : (L.lookup a).getD (.ptr a) = c := e
    cases q : L.lookup a with
    | none => rw [q] at e; subst e; exact hc.elim
    | some c' =>
      rw [q] at e
      have e : c' = c := e
      subst e
      have ow := j.look q
      cases c' <;> first | exact ow.elim | exact hc.elim
  | kt ks =>
    have e : D.tup (ks.map kD) = c := e
    subst e
    exact hc.elim
  | _ => exact e
theorem oq_addL : OQ X (binaryOp .Add) (fun a b L k => match con L a, con L b with
    | .lst xs, .lst ys => xs.length + ys.length ≤ sizeLine ∧ k (.lst (xs ++ ys))
    | _, _ => False) := ⟨_, op_cat, fun H L va vb a b k Q j ra rb h hk => by
  dsimp only at h
  split at h
  · rename_i xs ys ea eb
    obtain ⟨p, vs, rfl, hp, rv⟩ := con_lst j ra ea
    obtain ⟨q, ws, rfl, hq, rw'⟩ := con_lst j rb eb
    refine ⟨p, q, vs, ws, rfl, rfl, hp, hq, by rw [rv.length, rw'.length]; exact h.1, fun l hl => ?_⟩
    have s := same_new hl (.lst (vs ++ ws))
    exact hk _ _ _ h.2 s (.lst (j.notIn hl) upd_same ((rv.append rw').go (Go.same s)))
  · exact h.elim⟩
theorem oq_addT : OQ X (binaryOp .Add) (fun a b L k => match con L a, con L b with
    | .tup xs, .tup ys => xs.length + ys.length ≤ sizeLine ∧ k (.tup (xs ++ ys))
    | _, _ => False) := ⟨_, op_catA, fun H L va vb a b k Q j ra rb h hk => by
  dsimp only at h
  split at h
  · rename_i xs ys ea eb
    obtain ⟨p, vs, ep, hp, rv⟩ := con_tup j ra ea
    obtain ⟨q, ws, eq, hq, rw'⟩ := con_tup j rb eb
    have ra' := con_tupR j ra ea
    have rb' := con_tupR j rb eb
    subst ep eq
    refine ⟨p, q, vs, ws, rfl, rfl, hp, hq, by rw [rv.length, rw'.length]; exact h.1, fun e0 => ?_, fun _ e0 => ?_, fun _ _ l hl => ?_⟩
    · subst e0
      cases rv
      exact hk _ _ H h.2 (Same.refl H) rb'
    · subst e0
      cases rw'
      have h2 := h.2
      rw [List.append_nil] at h2
      exact hk _ _ H h2 (Same.refl H) ra'
    · have s := same_new hl (.tup (vs ++ ws))
      exact hk _ _ _ h.2 s (.tup (.inl ⟨j.notIn hl, .inl upd_same⟩) ((rv.append rw').go (Go.same s)))
  · exact h.elim⟩
theorem oq_addS : OQ X (binaryOp .Add) (fun a b L k => match a, b with
    | .str x, .str y => x.length + y.length ≤ sizeLine ∧ k (.str (x ++ y))
    | _, _ => False) := ⟨_, op_add_str, fun H L va vb a b k Q j ra rb h hk => by
  dsimp only at h
  split at h
  · cases ra
    cases rb
    exact ⟨_, _, rfl, rfl, h.1, hk _ _ H h.2 (Same.refl H) (.str _)⟩
  · exact h.elim⟩
theorem oq_add : OQ X (binaryOp .Add) gAdd := by
  obtain ⟨r1, o1, s1⟩ := oq_addI (X := X)
  obtain ⟨r2, o2, s2⟩ := oq_addS (X := X)
  obtain ⟨r3, o3, s3⟩ := oq_addL (X := X)
  obtain ⟨r4, o4, s4⟩ := oq_addT (X := X)
  refine ⟨_, opr_or o1 (opr_or o2 (opr_or o3 o4)), fun H L va vb a b k Q j ra rb h hk => ?_⟩
  unfold gAdd at h
  split at h
  · rename_i i i' ea eb
    have e1 := con_flat j ra ea trivial
    have e2 := con_flat j rb eb trivial
    subst e1 e2
    exact .inl (s1 H L va vb _ _ k Q j ra rb h hk)
  · rename_i i i' ea eb
    have e1 := con_flat j ra ea trivial
    have e2 := con_flat j rb eb trivial
    subst e1 e2
    exact .inr (.inl (s2 H L va vb _ _ k Q j ra rb h hk))
  · rename_i xs ys ea eb
    exact .inr (.inr (.inl (s3 H L va vb _ _ k Q j ra rb (by dsimp only; rw [ea, eb]; exact h) hk)))
  · rename_i xs ys ea eb
    exact .inr (.inr (.inr (s4 H L va vb _ _ k Q j ra rb (by dsimp only; rw [ea, eb]; exact h) hk)))
  · exact h.elim
/-- a list times a number -/
def gRep : G2 := fun a b L k => match con L a, b with
  | .lst xs, .int n => -(2 ^ 63) ≤ n ∧ n < 2 ^ 63 ∧ xs.length * n.toNat ≤ sizeLine ∧ k (.lst (List.replicate n.toNat xs).flatten)
  | _, _ => False
theorem rep_all {L : Led} {K : PySem.W.Frag} {H : Hp} {vs : List V} {ds : List D} (r : RpAll L K H vs ds) : ∀ n : Nat, RpAll L K H (List.replicate n vs).flatten (List.replicate n ds).flatten
  | 0 => .nil
  | n + 1 => by
    rw [List.replicate_succ, List.replicate_succ, List.flatten_cons, List.flatten_cons]
    exact r.append (rep_all r n)
theorem oq_rep : OQ X (binaryOp .Mult) gRep := ⟨_, op_rep, fun H L va vb a b k Q j ra rb h hk => by
  unfold gRep at h
  split at h
  · rename_i xs n ea
    obtain ⟨p, vs, rfl, hp, rv⟩ := con_lst j ra ea
    cases rb
    obtain ⟨h1, h2, h3, h4⟩ := h
    refine ⟨p, n, vs, rfl, rfl, hp, h1, h2, by rw [rv.length]; exact h3, fun l hl => ?_⟩
    have s := same_new hl (.lst (List.replicate n.toNat vs).flatten)
    exact hk _ _ _ h4 s (.lst (j.notIn hl) upd_same ((rep_all rv _).go (Go.same s)))
  · exact h.elim⟩
abbrev DO := DEnv → Led → (Option Int → Led → Prop) → DX → Prop
structure QO (X : Cx) (Wx : WX) (e : Option Expr) (do' : DO) : Prop where
  ex : ∃ to, PO X e to ∧ ∀ σ H env L k x Q, StL X.K σ H env L → do' env L k x → (∀ i L' H', k i L' → Go L L' H H' → JL X.K L' H' → Q i H') → XOk X.K Wx L H x → to σ H Q
def dNo : DO := fun _ L k _ => k none L
def dPart (da : DE) : DO := fun env L k x => da env L (fun d L1 => match d with
  | .int i => k (some i) L1
  | _ => False) x
theorem o_none : QO X Wx none dNo := ⟨_, po_none, fun σ H env L k x Q st h hk hx => hk none L H h (Go.refl L H) st.2⟩
theorem o_some (h : QE X Wx e da) : QO X Wx (some e) (dPart da) := by
  obtain ⟨ta, pa, sa⟩ := h.ex
  refine ⟨_, po_some pa, fun σ H env L k x Q st h hk hx => ?_⟩
  refine sa σ H env L _ x _ st h (fun d L1 v H1 h1 g1 j1 r1 => ?_) hx
  cases r1 <;> first | exact h1.elim | skip
  exact ⟨_, rfl, hk _ L1 H1 h1 g1 j1⟩
def cutD (xs : List D) (lo hi : Option Int) : List D := (xs.drop (HT.sIx xs.length 0 lo)).take (HT.sIx xs.length xs.length hi - HT.sIx xs.length 0 lo)
def gSl (a : D) (lo hi : Option Int) (L : Led) (k : D → Prop) : Prop := match con L a with
  | .lst xs => k (.lst (cutD xs lo hi))
  | .ro xs => k (.lst (cutD xs lo hi))
  | .tup xs => k (.tup (cutD xs lo hi))
  | .str z => z.length ≤ sizeLine ∧ k (.str (cutS z lo hi))
  | _ => False
def dSl (da : DE) (dl dh : DO) : DE := fun env L k x => da env L (fun a L1 => dl env L1 (fun lo L2 => dh env L2 (fun hi L3 => gSl a lo hi L3 fun d => k d L3) x) x) x
theorem cut_all {L : Led} {K : PySem.W.Frag} {H : Hp} {vs : List V} {ds : List D} (r : RpAll L K H vs ds) (lo hi : Option Int) : RpAll L K H (cutV vs lo hi) (cutD ds lo hi) := by
  unfold cutV cutD
  rw [r.length]
  exact (r.drop _).take _
theorem q_slice {lo hi : Option Expr} {p2 : Pos} {dl dh : DO} (he : QE X Wx e da) (hl : QO X Wx lo dl) (hh : QO X Wx hi dh) : QE X Wx (.Subscript e (.Slice lo hi none p2) pos) (dSl da dl dh) := by
  obtain ⟨ta, pa, sa⟩ := he.ex
  obtain ⟨tl, pl, sl⟩ := hl.ex
  obtain ⟨th, ph, sh⟩ := hh.ex
  refine ⟨_, pe_slice (SlR.or sl_list (SlR.or sl_tupA sl_str)) pa pl ph, fun σ H env L k x Q st h hk hx => ?_⟩
  refine sa σ H env L _ x _ st h (fun a L1 va H1 h1 g1 j1 r1 => ?_) hx
  refine sl σ H1 env L1 _ x _ (st.go g1 j1) h1 (fun lo L2 H2 h2 g2 j2 => ?_) (hx.go g1)
  refine sh σ H2 env L2 _ x _ ((st.go g1 j1).go g2 j2) h2 (fun hi L3 H3 h3 g3 j3 => ?_) ((hx.go g1).go g2)
  have gg := (g1.trans g2).trans g3
  have r1 := (r1.go g2).go g3
  unfold gSl at h3
  split at h3
  · rename_i xs ea
    obtain ⟨p, vs, rfl, hp, rv⟩ := con_lst j3 r1 ea
    refine .inl ⟨p, vs, rfl, SqL.of hp, fun l hl => ?_⟩
    have s := same_new hl (.lst (cutV vs lo hi))
    exact hk _ _ _ _ h3 (gg.trans (Go.same s)) (j3.same s) (.lst (j3.notIn hl) upd_same ((cut_all rv lo hi).go (Go.same s)))
  · rename_i xs ea
    obtain ⟨p, vs, rfl, hp, rv⟩ := con_ro j3 r1 ea
    refine .inl ⟨p, vs, rfl, hp, fun l hl => ?_⟩
    have s := same_new hl (.lst (cutV vs lo hi))
    exact hk _ _ _ _ h3 (gg.trans (Go.same s)) (j3.same s) (.lst (j3.notIn hl) upd_same ((cut_all rv lo hi).go (Go.same s)))
  · rename_i xs ea
    have r1' := con_tupR j3 r1 ea
    obtain ⟨p, vs, ep, hp, rv⟩ := con_tup j3 r1 ea
    subst ep
    refine .inr (.inl ⟨p, vs, rfl, hp, fun hw => ?_, fun _ l hl => ?_⟩)
    · have e : cutD xs lo hi = xs := by
        unfold cutD
        rw [← rv.length, hw.1, hw.2, List.drop_zero, Nat.sub_zero, rv.length]
        exact List.take_length
      rw [e] at h3
      exact hk _ _ _ H3 h3 gg j3 r1'
    · have s := same_new hl (.tup (cutV vs lo hi))
      exact hk _ _ _ _ h3 (gg.trans (Go.same s)) (j3.same s) (.tup (.inl ⟨j3.notIn hl, .inl upd_same⟩) ((cut_all rv lo hi).go (Go.same s)))
  · rename_i z ea
    have e1 := con_flat j3 r1 ea trivial
    subst e1
    cases r1
    exact .inr (.inr ⟨_, rfl, h3.1, hk _ _ _ H3 h3.2 gg j3 (.str _)⟩)
  · exact h3.elim
end
end DL
namespace DL
open PySem L2 RZ
section
variable {X : Cx} {Wx : WX} {a b c e o : Expr} {es rest : List Expr} {da db dc de do' : DE} {dt du : DT} {dl dk : DA} {pos : Pos}
def wipeD (env : DEnv) : List Nat → DEnv
  | [] => env
  | v :: vs => (wipeD env vs).set v none
theorem Sto.wipes {L : Led} {K : PySem.W.Frag} {H : Hp} {σ : St} {env : DEnv} (h : Sto L K H σ env) : ∀ vs : List Nat, Sto L K H (wipe σ vs) (wipeD env vs)
  | [] => h
  | v :: vs => (Sto.wipes h vs).wipe1 v
structure QTs (X : Cx) (Wx : WX) (ifs : List Expr) (dt : DT) : Prop where
  pt : PTs X ifs (ttOf X.K Wx dt)
def dYes : DT := fun _ L k _ => k true L
theorem ts_nil : QTs X Wx [] dYes := ⟨⟨fun pins s σ H Q I hw => by
  obtain ⟨env, L, k, x, st, h, hk, hx⟩ := hw
  exact pts_nil.run pins s σ H Q I (hk true L H h (Go.refl L H) st.2)⟩⟩
theorem ts_one (h : QT X Wx c dt) : QTs X Wx [c] dt := ⟨pts_one h.pt⟩
abbrev Wx0 : WX := fun _ _ _ _ => False
@[irreducible] def lcD (dg : DG) (dt : DT) (de : DE) (env0 : DEnv) (p : Addr) (k : DK) : List D → List D → Led → Prop
  | [], acc, L => k (.lst acc) (remL L p)
  | d :: ds, acc, L => dg d env0 L fun env1 => dt env1 L (fun b L2 => match b with
    | true => de env1 L2 (fun y L3 => L3.lookup p = some (.lst acc) ∧ acc.length < sizeLine ∧ lcD dg dt de env0 p k ds (acc ++ [y]) (setL L3 p (.lst (acc ++ [y])))) (fun _ _ _ => False)
    | false => L2.lookup p = some (.lst acc) ∧ lcD dg dt de env0 p k ds acc L2) (fun _ _ _ => False)
theorem lcD_nil {dg : DG} {dt : DT} {de : DE} {env0 : DEnv} {p : Addr} {k : DK} {acc : List D} {L : Led} : lcD dg dt de env0 p k [] acc L = k (.lst acc) (remL L p) := by with_unfolding_all rfl
theorem lcD_cons {dg : DG} {dt : DT} {de : DE} {env0 : DEnv} {p : Addr} {k : DK} {d : D} {ds acc : List D} {L : Led} : lcD dg dt de env0 p k (d :: ds) acc L = dg d env0 L fun env1 => dt env1 L (fun b L2 => match b with
    | true => de env1 L2 (fun y L3 => L3.lookup p = some (.lst acc) ∧ acc.length < sizeLine ∧ lcD dg dt de env0 p k ds (acc ++ [y]) (setL L3 p (.lst (acc ++ [y])))) (fun _ _ _ => False)
    | false => L2.lookup p = some (.lst acc) ∧ lcD dg dt de env0 p k ds acc L2) (fun _ _ _ => False) := by with_unfolding_all rfl
def dLc (di : DI) (dg : DG) (dt : DT) (de : DE) (vs : List Nat) : DE := fun env L k x => di env L (fun ds L1 => ∀ p, ¬ inL L1 p → lcD dg dt de (wipeD env vs) p k ds [] ((p, .lst []) :: L1)) x
theorem sim_lc {K : PySem.W.Frag} {wi : TI} {di : DI} {dg : DG} {sl vs : List Nat} (hsl : ∀ i ∈ sl, i ∈ vs)
    (si : ∀ σ H env L k x R, StL K σ H env L → di env L k x → (∀ ds L' J H', k ds L' → Go L L' H H' → JL K L' H' → ItD K L' H' J ds → R J H') → XOk K Wx L H x → wi σ H R) :
    SimE K Wx (tLc wi (tgOf K sl dg) (ttOf K Wx0 dt) (teOf K Wx0 de) vs) (dLc di dg dt de vs) := by
  intro σ H env L k x Q st h hk hx
  refine si σ H env L _ x _ st h (fun ds L1 J H1 h1 g1 j1 it => ?_) hx
  intro p hp
  have s0 := same_new hp (.lst [])
  obtain ⟨j2, g2⟩ := j1.push (d := .lst []) hp (o := .lst []) ⟨[], upd_same, .nil⟩
  refine ⟨fun i m H2 => m = ds.length - i ∧ i ≤ ds.length ∧ ∃ acc L2, StL K (wipe σ vs) H2 (wipeD env vs) L2 ∧ Go L1 L2 H1 H2 ∧ L2.lookup p = some (.lst acc) ∧ lcD dg dt de (wipeD env vs) p k (ds.drop i) acc L2, ⟨ds.length, by omega, by omega, [], _, ⟨((st.go g1 j1).go g2 j2).1.wipes vs, j2⟩, g2, lookup_top, h1 p (j1.notIn hp)⟩, ?_⟩
  rintro i m H2 ⟨rfl, hi, acc, L2, st2, g3, hl, h2⟩
  obtain ⟨i1, i2⟩ := it L2 H2 g3 st2.2 i
  by_cases hlt : i < ds.length
  · have e : ds[i]? = some ds[i] := List.getElem?_eq_getElem hlt
    obtain ⟨go, yl⟩ := i1 _ e
    rw [List.drop_eq_getElem_cons hlt, lcD_cons] at h2
    refine .inr ⟨go, fun H' => ∃ acc L2, StL K (wipe σ vs) H' (wipeD env vs) L2 ∧ Go L1 L2 H1 H' ∧ L2.lookup p = some (.lst acc) ∧ lcD dg dt de (wipeD env vs) p k (ds.drop (i + 1)) acc L2, fun H' n => ⟨ds.length - (i + 1), by omega, rfl, hlt, n⟩, fun x H' y => ?_⟩
    obtain ⟨s, rx⟩ := yl x H' y
    have g4 : Go L2 L2 H2 H' := Go.same s
    have st3 := st2.go g4 (st2.2.same s)
    refine ⟨_, _, L2, _, st3, rx, h2, fun σ3 env3 h3 st4 on => ⟨?_, ?_⟩⟩
    · have := on vs hsl
      rw [this]
      clear this
      have w2 : ∀ (ws us : List Nat), (∀ i ∈ us, i ∈ ws) → ∀ σ : St, wipe (wipe σ us) ws = wipe σ ws := by
        intro ws us
        induction us with
        | nil => intro _ σ; rfl
        | cons u us ih =>
          intro hu σ
          show wipe ((wipe σ us).set u none) ws = _
          rw [wipe_set (hu u List.mem_cons_self), ih (fun i hi => hu i (List.mem_cons_of_mem _ hi))]
      exact w2 vs vs (fun _ h => h) σ
    · refine ⟨env3, L2, _, _, st4, h3, fun b L5 H5 h5 g5 j5 => ?_, fun _ _ _ _ _ _ q => q.elim⟩
      have gA : Go L1 L5 H1 H5 := (g3.trans g4).trans g5
      cases b with
      | false => exact iteF ⟨acc, L5, ⟨(st3.1.go g5), j5⟩, gA, h5.1, h5.2⟩
      | true =>
        refine iteT ⟨env3, L5, _, _, st4.go g5 j5, h5, fun y L6 vy H6 h6 g6 j6 r6 => ?_, fun _ _ _ _ _ _ q => q.elim⟩
        obtain ⟨q1, q2, q3⟩ := h6
        obtain ⟨ws, e1, rv⟩ := j6.look q1
        have hp6 := inL_of_lookup q1
        refine ⟨ws, e1, by rw [rv.length]; exact q2, acc ++ [y], _, ?_, ?_, ?_, q3⟩
        · have g7 : Go L6 (setL L6 p (.lst (acc ++ [y]))) H6 (upd H6 p (.lst (ws ++ [vy]))) := go_set hp6
          have j7 : JL K (setL L6 p (.lst (acc ++ [y]))) (upd H6 p (.lst (ws ++ [vy]))) := j6.put hp6 ⟨_, upd_same, (rv.append (.cons r6 .nil)).go g7⟩
          exact ⟨((st3.1.go g5).go g6).go g7, j7⟩
        · exact (gA.trans g6).trans (go_set hp6)
        · have hm := mem_of_lookup q1
          clear q3 h5 h3 h2
          have key : ∀ (M : Led), inL M p → List.lookup p (setL M p (.lst (acc ++ [y]))) = some (.lst (acc ++ [y])) := by
            intro M
            induction M with
            | nil => intro h; simp [inL] at h
            | cons q M ih =>
              intro h
              by_cases hq : q.1 = p
              · obtain ⟨z1, z2⟩ := q
                have hq : z1 = p := hq
                show List.lookup p ((if z1 = p then (p, D.lst (acc ++ [y])) else (z1, z2)) :: setL M p _) = _
                rw [if_pos hq]
                exact lookup_top
              · obtain ⟨z1, z2⟩ := q
                have hq : z1 ≠ p := hq
                rw [setL_ne hq, lookup_ne (Ne.symm hq)]
                exact ih ((inL_cons.mp h).resolve_left (Ne.symm hq))
          exact key L6 hp6
  · have e : i = ds.length := by omega
    subst e
    rw [List.drop_length, lcD_nil] at h2
    obtain ⟨ws, e1, rv⟩ := st2.2.look hl
    refine .inl ⟨i2 (Nat.le_refl _), hk _ _ _ H2 h2 ((g1.trans g3).trans go_rem) st2.2.rem (.lst (fun m => (inL_remL.mp m).2 rfl) e1 (rv.go go_rem))⟩
theorem q_lc {elt tg iter : Expr} {ifs : List Expr} {scope : Scope} {own : List (Str × Nat)} {di : DI} {dg : DG} {sl : List Nat} (hc : X.calm = true) (hN : X.N.Nodup) (hi : QI X Wx tg iter di) (ok : BlkOk X.N X.env.scope scope own)
    (hg : ∀ (s : Shared) (H : Hp) (C : Addr) (cl : List (Str × Addr)) (fp : List Addr), QG (X.blk s H scope (compEnvC scope cl C X.env) fp) tg sl dg) (ht : ∀ (s : Shared) (H : Hp) (C : Addr) (cl : List (Str × Addr)) (fp : List Addr), QTs (X.blk s H scope (compEnvC scope cl C X.env) fp) Wx0 ifs dt)
    (he : ∀ (s : Shared) (H : Hp) (C : Addr) (cl : List (Str × Addr)) (fp : List Addr), QE (X.blk s H scope (compEnvC scope cl C X.env) fp) Wx0 elt de) (hsl : ∀ i ∈ sl, i ∈ own.map (·.2) := by decide) (hs : ∀ x, foldedSetIterable iter X.env x = pure x := by intro _; rfl) :
    QE X Wx (.ListComp elt [⟨tg, iter, ifs, 0⟩] scope pos) (dLc di dg dt de (own.map (·.2))) := by
  obtain ⟨wi, pi, si⟩ := hi.ex
  exact ⟨_, pe_lc hc hN pi ok (fun s H C cl fp => (hg s H C cl fp).pg) (fun s H C cl fp => (ht s H C cl fp).pt) (fun s H C cl fp => (he s H C cl fp).pe) hs, sim_lc hsl si⟩
def zipD : List D → List D → List D
  | a :: as, b :: bs => .tup [a, b] :: zipD as bs
  | _, _ => []
theorem zipD_get : ∀ (as bs : List D) (i : Nat) (d : D), (zipD as bs)[i]? = some d → ∃ x y, as[i]? = some x ∧ bs[i]? = some y ∧ d = .tup [x, y]
  | [], _, _, _, h => by simp [zipD] at h
  | _ :: _, [], _, _, h => by simp [zipD] at h
  | a :: as, b :: bs, 0, d, h => by
    simp [zipD] at h
    exact ⟨a, b, rfl, rfl, h.symm⟩
  | a :: as, b :: bs, i + 1, d, h => by
    obtain ⟨x, y, h1, h2, h3⟩ := zipD_get as bs i d (by simpa [zipD] using h)
    exact ⟨x, y, by simpa using h1, by simpa using h2, h3⟩
theorem zipD_len : ∀ (as bs : List D), (zipD as bs).length = min as.length bs.length
  | [], _ => by simp [zipD]
  | _ :: _, [] => by simp [zipD]
  | a :: as, b :: bs => by simp [zipD, zipD_len as bs]
def diZip (dl : DA) : DI := fun env L k x => dl env L (fun ds L1 => match ds with
  | [.lst as, .lst bs] => k (zipD as bs) L1
  | [.tup as, .tup bs] => k (zipD as bs) L1
  | _ => False) x
theorem it_zip {K : PySem.W.Frag} {L : Led} {H : Hp} {a b : Addr} {vs ws : List V} {as bs : List D} (h : SqL' L K H a vs) (r : RpAll L K H vs as) (h' : SqL' L K H b ws) (r' : RpAll L K H ws bs) : ItD K L H (Itz K a b) (zipD as bs) := fun L' H' g j i => by
  have e1 := (g.sqL h).sq
  have e2 := (g.sqL h').sq
  refine ⟨fun d hd => ?_, fun hi => ⟨vs, ws, e1, e2, by rw [zipD_len] at hi; rw [r.length, r'.length]; omega⟩⟩
  obtain ⟨x, y, q1, q2, rfl⟩ := zipD_get as bs i d hd
  obtain ⟨vx, hx, rx⟩ := (r.go g).get q1
  obtain ⟨vy, hy, ry⟩ := (r'.go g).get q2
  refine ⟨⟨vs, ws, vx, vy, e1, e2, hx, hy⟩, fun z H'' yl => ?_⟩
  obtain ⟨T, x', y', rfl, nT, rfl, f1, f2⟩ := yl
  have k1 := f1 vs e1
  rw [hx] at k1
  cases k1
  have k2 := f2 ws e2
  rw [hy] at k2
  cases k2
  have s := same_new nT (.tup [vx, vy])
  exact ⟨s, .tup (.inl ⟨j.notIn nT, .inl upd_same⟩) (.cons (rx.go (Go.same s)) (.cons (ry.go (Go.same s)) .nil))⟩
theorem it_zipT {K : PySem.W.Frag} {L : Led} {H : Hp} {a b : Addr} {vs ws : List V} {as bs : List D} (h : SqT' L K H a vs) (r : RpAll L K H vs as) (h' : SqT' L K H b ws) (r' : RpAll L K H ws bs) : ItD K L H (ItzT K a b) (zipD as bs) := fun L' H' g j i => by
  have e1 := (g.sqT h).sq
  have e2 := (g.sqT h').sq
  refine ⟨fun d hd => ?_, fun hi => ⟨vs, ws, e1, e2, by rw [zipD_len] at hi; rw [r.length, r'.length]; omega⟩⟩
  obtain ⟨x, y, q1, q2, rfl⟩ := zipD_get as bs i d hd
  obtain ⟨vx, hx, rx⟩ := (r.go g).get q1
  obtain ⟨vy, hy, ry⟩ := (r'.go g).get q2
  refine ⟨⟨vs, ws, vx, vy, e1, e2, hx, hy⟩, fun z H'' yl => ?_⟩
  obtain ⟨T, x', y', rfl, nT, rfl, f1, f2⟩ := yl
  have k1 := f1 vs e1
  rw [hx] at k1
  cases k1
  have k2 := f2 ws e2
  rw [hy] at k2
  cases k2
  have s := same_new nT (.tup [vx, vy])
  exact ⟨s, .tup (.inl ⟨j.notIn nT, .inl upd_same⟩) (.cons (rx.go (Go.same s)) (.cons (ry.go (Go.same s)) .nil))⟩
theorem i_zip {e2 : Expr} {p tpos : Pos} {elts : List Expr} {kk : Nat} (hg : Gl X "zip") (hm : X.mg "zip" = none) (ha : QA X Wx [e, e2] dl)
    (hs : starEach [e, e2] X.env = (false, eval e X.env) :: starEach [e2] X.env := by rfl) (hpl : (backTo pos (starEach [e2] X.env)).any (·.1) = false := by rfl) : QI X Wx (.Tuple elts kk tpos) (.Call (.Name "zip" p) [e, e2] [] pos) (diZip dl) := by
  obtain ⟨ta, pa, sa⟩ := ha.ex
  refine ⟨_, pi_zipA hg hm pa hs hpl, fun σ H env L k x R st h hk hx => ?_⟩
  refine sa σ H env L _ x _ st h (fun ds L1 vs H1 h1 g1 j1 r1 => ?_) hx
  split at h1
  · cases r1 with
    | cons r1 r2 => cases r2 with
      | cons r2 r3 =>
      cases r3
      cases r1 with
      | lst n1 s1 q1 => cases r2 with
        | lst n2 s2 q2 => exact ⟨_, _, _, _, rfl, .inl ⟨SqL.of s1, SqL.of s2, hk _ L1 _ H1 h1 g1 j1 (it_zip (.inl ⟨n1, .inl s1⟩) q1 (.inl ⟨n2, .inl s2⟩) q2)⟩⟩
  · cases r1 with
    | cons r1 r2 => cases r2 with
      | cons r2 r3 =>
      cases r3
      cases r1 with
      | tup s1 q1 => cases r2 with
        | tup s2 q2 => exact ⟨_, _, _, _, rfl, .inr ⟨s1.sq, s2.sq, hk _ L1 _ H1 h1 g1 j1 (it_zipT s1 q1 s2 q2)⟩⟩
  · exact h1.elim
end
end DL
namespace DL
open PySem L2
section
variable {X : Cx} {Wx : WX} {a b c e o : Expr} {es rest : List Expr} {da db dc de do' : DE} {dt du : DT} {dl dk : DA} {pos : Pos}
structure QK (X : Cx) (Wx : WX) (kws : List Keyword) (da : DA) : Prop where
  ex : ∃ ta, PK X kws ta ∧ SimA X.K Wx ta da
theorem k_nil : QK X Wx [] dNil := ⟨_, pk_nil, fun σ H env L k x Q st h hk hx => hk [] L [] H h (Go.refl L H) st.2 .nil⟩
theorem k_cons {nm : Option Str} {kpos : Pos} {kws : List Keyword} (ha : QE X Wx e de) (hr : QK X Wx kws dl) : QK X Wx (⟨nm, e, kpos⟩ :: kws) (dCons de dl) := by
  obtain ⟨te, pe, se⟩ := ha.ex
  obtain ⟨ta, pa, sa⟩ := hr.ex
  refine ⟨_, pk_cons pe pa, fun σ H env L k x Q st h hk hx => ?_⟩
  refine se σ H env L _ x _ st h (fun d L1 v H1 h1 g1 j1 r1 => ?_) hx
  refine sa σ H1 env L1 _ x _ (st.go g1 j1) h1 (fun ds L2 vs H2 h2 g2 j2 r2 => ?_) (hx.go g1)
  exact hk _ L2 _ H2 h2 (g1.trans g2) j2 (.cons (r1.go g2) r2)
/-- how positional values and keywords' values come to the parameters: a choice of places, the same for values and data; ds: defaults -/
abbrev Perm3 := {α : Type} → List α → List α → List α → List α
structure PermOk (g : Perm3) : Prop where
  map : ∀ {α β : Type} {R : α → β → Prop} {vs zs ws : List α} {us ys xs : List β}, Paired R vs us → Paired R zs ys → Paired R ws xs → Paired R (g vs zs ws) (g us ys xs)
structure KwB (K : PySem.W.Frag) (fd : FuncData) (ps : List Str) (n : Nat) (ks : List Str) (dus : List Value) (g : Perm3) : Prop where
  to : ∀ (s : Shared) (us ws : List Value), K.In s.heap → us.length = n → ws.length = ks.length → BindsTo s fd ⟨us, ks.zip ws⟩ (ps.zip (g us ws dus))
theorem rp_paired {L : Led} {K : PySem.W.Frag} {H : Hp} : ∀ {vs : List V} {ds : List D}, RpAll L K H vs ds → Paired (Rp L K H) vs ds
  | _, _, .nil => .nil
  | _, _, .cons h r => .cons h (rp_paired r)
theorem paired_rp {L : Led} {K : PySem.W.Frag} {H : Hp} : ∀ {vs : List V} {ds : List D}, Paired (Rp L K H) vs ds → RpAll L K H vs ds
  | _, _, .nil => .nil
  | _, _, .cons h r => .cons h (paired_rp r)
theorem run_fnW {CX : CXT} {k n : Nat} {f : Addr} {fd : FuncData} {ps ks : List Str} {sp : Sp} {E : XK} {dus : List Value} {dvs : List V} {g : Perm3} {pins : List (Addr × Obj)} {σ : St} {H : Hp} {s : Shared} {Q : VK} {us ws : List Value} {vs zs : List V} (F : FnOk X.prog X.w X.K X.mg X.base CX k f fd ps sp) (hr : Room k X.A) (hb : KwB X.K fd ps n ks dus g) (hp : PermOk @g) (hd : Vals dvs dus) (hx : PassesAt CX X σ E)
    (I : Inv X pins σ H s) (r : Vals vs us) (rz : Vals zs ws) (l1 : vs.length = n) (l2 : zs.length = ks.length) (h : sp (g vs zs dvs) H Q E) : wpAny (model X.prog X.w) X.A (call (.ref f) us (ks.zip ws)) (EP X pins σ Q) X.xe s := by
  have r2 : Vals (g vs zs dvs) (g us ws dus) := hp.map r rz hd
  refine wpAny_call (codeAny_mono (F.run X.A X.stack s H ⟨us, ks.zip ws⟩ (g us ws dus) (g vs zs dvs) Q E hr I.env0 (hb.to s us ws I.kIn (r.length.symm.trans l1) (rz.length.symm.trans l2)) r2 h) fun r s' hq => ?_)
  cases r with
  | error e => exact hx pins H s e s' I hq
  | ok fl =>
    cases fl with
    | ret u => exact I.after hq
    | next => exact False.elim hq
    | brk => exact False.elim hq
    | cont => exact False.elim hq
end
end DL
namespace DL
open PySem L2
section
variable {X : Cx} {Wx : WX} {a b c e o : Expr} {es rest : List Expr} {da db dc de do' : DE} {dt du : DT} {dl dk : DA} {pos : Pos}
def gEqU : G2 := fun a b _ k => match scD a b with
  | true => k (.bl (flEq a b))
  | false => shp a = true ∧ shp b = true ∧ k (.bl (eqD a b))
def gNeU : G2 := fun a b _ k => match scD a b with
  | true => k (.bl (!flEq a b))
  | false => shp a = true ∧ shp b = true ∧ k (.bl (!eqD a b))
theorem oq_eqU (hu : X.A.units + 64 < cLine) : OQ X (compareOp .Eq) gEqU := OQ.or oq_eqF (oq_eq hu) fun a b L k h => by
  unfold gEqU at h
  split at h
  · rename_i hs; exact .inl ⟨hs, h⟩
  · exact .inr h
theorem oq_neU (hu : X.A.units + 64 < cLine) : OQ X (compareOp .NotEq) gNeU := OQ.or oq_neF (oq_ne hu) fun a b L k h => by
  unfold gNeU at h
  split at h
  · rename_i hs; exact .inl ⟨hs, h⟩
  · exact .inr h
def MulOk (i j : Int) : Prop := (i.natAbs < 2 ^ 63 ∨ j.natAbs < 2 ^ 63) ∨ CMulW i j
theorem MulOk.ok {i j : Int} (h : MulOk i j) : IntMulOk i j := by
  have key : ∀ z : Int, z.natAbs < 2 ^ 63 → Builtin.Int.intBits z ≤ 64 := fun z hz => intBits_le_64 (by omega) (by omega)
  rcases h with (h | h) | h
  · exact .of_left (key i h)
  · exact .of_right (key j h)
  · exact h.ok
theorem op_mulU : OpR X (binaryOp .Mult) (rI MulOk fun i j => .int (i * j)) := opI fun _ _ _ _ _ _ _ hc q => PyProof.Rows.mul_int q (MulOk.ok hc)
abbrev gMulU : G2 := gI MulOk fun i j => .int (i * j)
theorem oq_mulU : OQ X (binaryOp .Mult) gMulU := ⟨_, op_mulU, sim2_I fun _ _ _ _ => .int _⟩
structure Cal (P : Program) (w : World) (K : PySem.W.Frag) (mg : Str → Option Value) (base : Heap) (n : Nat) (x : Str) (ps : List Str) (dd : List D) (g : DSp) : Prop where
  ex : ∃ (f : Addr) (fd : FuncData) (us : List Value) (dvs : List V), FnOk P w K mg base (L2.CX P w) n f fd ps (spD K g) ∧ mg x = some (.ref f) ∧ PySem.W.keepIn K (.ref f) = true ∧ Binds K fd ps us ∧ Vals dvs us ∧ ∀ L H, RpAll L K H dvs dd
theorem q_cal {x : Str} {p : Pos} {n k : Nat} {ps : List Str} {g : DSp} {dd : List D} (F : Cal X.prog X.w X.K X.mg X.base n x ps dd g) (hn : n ≤ k) (hr : Room k X.A) (tk : Takes X Wx) (hg : Gl X x) (ha : QA X Wx (e :: es) dl) (hdb : (x == ("__debug__" : Str)) = false := by decide)
    (he : starEach (e :: es) X.env = (false, eval e X.env) :: starEach es X.env := by rfl) (hpl : (backTo pos (starEach es X.env)).any (·.1) = false := by rfl) : QE X Wx (.Call (.Name x p) (e :: es) [] pos) (dCall g dd dl) := by
  obtain ⟨f, fd, us, dvs, F, hm, hk, hb, hd, hdd⟩ := F.ex
  exact q_call F (hr.mono hn) hg hm hk hb hd hdd tk ha hdb he hpl
end
theorem bb_len : bootBuiltins "len" = some (.builtin "len") := by decide +kernel
theorem bb_abs : bootBuiltins "abs" = some (.builtin "abs") := by decide +kernel
theorem bb_max : bootBuiltins "max" = some (.builtin "max") := by decide +kernel
theorem bb_all : bootBuiltins "all" = some (.builtin "all") := by decide +kernel
theorem bb_sorted : bootBuiltins "sorted" = some (.builtin "sorted") := by decide +kernel
theorem bb_int : bootBuiltins "int" = some (.type "int") := by decide +kernel
theorem bb_str : bootBuiltins "str" = some (.type "str") := by decide +kernel
theorem bb_list : bootBuiltins "list" = some (.type "list") := by decide +kernel
theorem bb_tuple : bootBuiltins "tuple" = some (.type "tuple") := by decide +kernel
theorem bb_bool : bootBuiltins "bool" = some (.type "bool") := by decide +kernel
end DL
namespace DL
open PySem PySem.Spec PyProof.Rows L2
section
variable {X : Cx} {Wx : WX} {a b c e o : Expr} {es rest : List Expr} {da db dc de do' : DE} {dt du : DT} {dl dk : DA} {pos : Pos}
theorem lookup_rp {L : Led} {K : PySem.W.Frag} {H : Hp} {f : Str} : ∀ {ns : List Str} {xs : List V} {ds : List D} {d : D}, RpAll L K H xs ds → (ns.zip ds).lookup f = some d → ∃ v, (ns.zip xs).lookup f = some v ∧ Rp L K H v d
  | [], _, _, _, _, h => by simp at h
  | _ :: _, _, _, _, .nil, h => by simp at h
  | n :: ns, _, _, d, .cons (v := v) (vs := vs) (d := e) (ds := ds) r t, h => by
    by_cases hf : f = n
    · subst hf
      have h' : List.lookup f ((f, e) :: ns.zip ds) = some d := h
      rw [List.lookup_cons_self] at h'
      cases h'
      exact ⟨v, List.lookup_cons_self, r⟩
    · have q : (f == n) = false := by simpa using hf
      have h' : List.lookup f ((n, e) :: ns.zip ds) = some d := h
      rw [List.lookup_cons, q] at h'
      obtain ⟨w, h1, h2⟩ := lookup_rp t h'
      refine ⟨w, ?_, h2⟩
      show List.lookup f ((n, v) :: ns.zip vs) = some w
      rw [List.lookup_cons, q]
      exact h1
end
end DL
namespace DL
open PySem PySem.Spec PyProof.Rows L2
section
end
section
end
end DL
namespace DL
open PySem PySem.Spec PyProof.Rows L2
section
section
end
end
structure CloOk (P : Program) (w : World) (K : PySem.W.Frag) (mg : Str → Option Value) (base : Heap) (n : Nat) (G : LamF → DSp) : Prop where
  run : ∀ (A : Around) (outer : List Env) (s : Shared) (H : Hp) (f : Addr) (F : LamF) (vs : List V) (ds : List D) (L : Led) (k : DK) (x : Exn → Led → Prop) (Q : VK) (E : XK), Room n A → Env0 P w K mg base A outer s H → CloAt L H f F vs → JL K L H → RpAll L K H vs ds → G F ds L k x →
    KOk K L H k Q → (∀ n L' a H', x n L' → Go L L' H H' → JL K L' H' → ExR L' K H' a n → E n.cls (some a) H') → codeAny (model P w) A (.call (.ref f) ⟨[], []⟩) (CR (L2.CX P w) outer P w H s Q E) s
theorem CloOk.mono {P : Program} {w : World} {K : PySem.W.Frag} {mg : Str → Option Value} {base : Heap} {n m : Nat} {G : LamF → DSp} (c : CloOk P w K mg base n G) (h : n ≤ m) : CloOk P w K mg base m G :=
  ⟨fun A outer s H f F vs ds L k x Q E hr => c.run A outer s H f F vs ds L k x Q E (hr.mono h)⟩
theorem CloOk.or {P : Program} {w : World} {K : PySem.W.Frag} {mg : Str → Option Value} {base : Heap} {n : Nat} {G G' : LamF → DSp} (c : CloOk P w K mg base n G) (c' : CloOk P w K mg base n G') : CloOk P w K mg base n (fun F ds L k x => G F ds L k x ∨ G' F ds L k x) :=
  ⟨fun A outer s H f F vs ds L k x Q E hr e0 ca j r g hk hx => g.elim (fun g => c.run A outer s H f F vs ds L k x Q E hr e0 ca j r g hk hx) (fun g => c'.run A outer s H f F vs ds L k x Q E hr e0 ca j r g hk hx)⟩
section
end
end DL
namespace DL
open PySem PySem.Spec PyProof.Rows L2
section
section
end
end
end DL
namespace DL
open PySem PySem.Spec PyProof.Rows L2
section
end
section
end
end DL
namespace DL
open PySem PySem.Spec PyProof.Rows L2
section
end
section
end
section
end
end DL
namespace DL
open PySem PySem.Spec PyProof.Rows L2
section
variable {X : Cx} {Wx : WX} {a b c e o : Expr} {es rest : List Expr} {da db dc de do' : DE} {dt du : DT} {dl dk : DA} {pos : Pos}
def dNever : DS := fun _ _ _ => False
theorem s_never {st : Stmt} : QS X Wx st dNever := ⟨_, ps_never, fun _ _ _ _ _ _ _ h _ => h.elim⟩
def flD : D → Option V
  | .non => some .non
  | .bl b => some (.bl b)
  | .int i => some (.int i)
  | .str x => some (.str x)
  | _ => none
def flDs : List D → Option (List V)
  | [] => some []
  | d :: r => match flD d, flDs r with
    | some v, some vs => some (v :: vs)
    | _, _ => none
theorem flD_of {L : Led} {K : PySem.W.Frag} {H : Hp} {v v' : V} {d : D} (r : Rp L K H v d) (h : flD d = some v') : v = v' ∧ flatV v = true := by
  cases r <;> first | (cases h; done) | skip
  all_goals (cases h; exact ⟨rfl, rfl⟩)
theorem flDs_of {L : Led} {K : PySem.W.Frag} {H : Hp} : ∀ {vs vs' : List V} {ds : List D}, RpAll L K H vs ds → flDs ds = some vs' → vs = vs' ∧ vs.all flatV = true
  | _, _, _, .nil, h => by cases h; exact ⟨rfl, rfl⟩
  | _, _, _, .cons (d := d) (ds := ds) r t, h => by
    unfold flDs at h
    split at h
    · rename_i v vs h1 h2
      cases h
      obtain ⟨e1, f1⟩ := flD_of r h1
      obtain ⟨e2, f2⟩ := flDs_of t h2
      subst e1 e2
      exact ⟨rfl, by rw [List.all_cons, f1, f2]; rfl⟩
    · cases h
def gIn (neg : Bool) : G2 := fun a b L k => match flD a, seqs (con L b) with
  | some v, some ds => match flDs ds with
    | some vs => k (.bl (if neg then !inV v vs else inV v vs))
    | none => False
  | _, _ => False
theorem sim_in {K : PySem.W.Frag} {neg : Bool} : Sim2 K (rIn K neg) (gIn neg) := by
  intro H L va vb a b k Q j ra rb h hk
  unfold gIn at h
  split at h
  · rename_i v ds h1 h2
    split at h
    · rename_i vs h3
      obtain ⟨e1, f1⟩ := flD_of ra h1
      subst e1
      obtain ⟨p, ws, rfl, hs, rv⟩ := con_seq j rb h2
      obtain ⟨e2, f2⟩ := flDs_of rv h3
      subst e2
      exact ⟨p, ws, rfl, hs, f1, f2, hk _ _ H h (Same.refl H) (.bl _)⟩
    · exact h.elim
  · exact h.elim
theorem oq_notInQ : OQ X (compareOp .NotIn) (gIn true) := ⟨_, op_notIn_seq, sim_in⟩
end
section
end
section
end
end DL
namespace DL
open PySem L2
section
variable {X : Cx} {Wx : WX} {a b c e o : Expr} {es : List Expr} {da db dc de do' : DE} {dl : DA} {pos : Pos}
def dAppend (do' de : DE) : DE := fun env L k x => do' env L (fun o L1 => match o with
  | .ptr p => match L1.lookup p with
    | some (.lst _) => de env L1 (fun d L2 => match L2.lookup p with
      | some (.lst ds) => ds.length < sizeLine ∧ k .non (setL L2 p (.lst (ds ++ [d])))
      | _ => False) x
    | _ => False
  | _ => False) x
theorem q_append {apos : Pos} (ho : QE X Wx o do') (he : QE X Wx e de)
    (hbase : attributeBase o "append" X.env (eval o X.env) = eval o X.env := by rfl)
    (hfew : ((backTo pos (starEach (e :: []) X.env)).all (fun x => !x.1) && (backToKw pos (keywordEach [] X.env)).all (fun x => x.1.isSome)
      && decide ((e :: []).length + ([] : List Keyword).length + (if ([] : List Keyword).isEmpty then 0 else 1) < 30)) = true := by rfl)
    (hline : (apos.endLine == pos.line) = true := by rfl) (hs : starEach (e :: []) X.env = (false, eval e X.env) :: starEach [] X.env := by rfl) (hplain : (backTo pos (starEach [] X.env)).any (·.1) = false := by rfl) :
    QE X Wx (.Call (.Attribute o "append" apos) [e] [] pos) (dAppend do' de) := by
  obtain ⟨to, po, so⟩ := ho.ex
  obtain ⟨ta, pa, sa⟩ := (a_cons he a_nil hs).ex
  refine ⟨_, pe_bm PySem.F.plainAttrs_list PySem.F.slot_list_append PySem.F.type_list_append mt_append po pa hbase hfew hline hs hplain, fun σ H env L k x Q st h hk hx => ?_⟩
  refine so σ H env L _ x _ st h (fun o L1 vo H1 h1 g1 j1 r1 => ?_) hx
  split at h1
  · rename_i p
    cases r1
    split at h1
    · rename_i ds0 hl
      obtain ⟨vs0, e0, rv0⟩ := j1.look hl
      refine ⟨.inl ⟨rfl, _, SqL.of e0⟩, ?_⟩
      refine sa σ H1 env L1 (fun ds L2 => match ds with
        | [d] => (match L2.lookup p with
          | some (.lst ds) => ds.length < sizeLine ∧ k .non (setL L2 p (.lst (ds ++ [d])))
          | _ => False)
        | _ => False) x _ (st.go g1 j1) h1 (fun ds L2 vs H2 h2 g2 j2 r2 => ?_) (hx.go g1)
      split at h2
      · rename_i d
        cases r2 with
        | @cons vd _ _ _ rd r0 =>
        cases r0
        split at h2
        · rename_i ds1 hl2
          obtain ⟨vs1, e1, rv1⟩ := j2.look hl2
          have hp := inL_of_lookup hl2
          refine ⟨p, vs1, _, rfl, rfl, e1, by rw [rv1.length]; exact h2.1, ?_⟩
          have g4 : Go L2 (setL L2 p (.lst (ds1 ++ [d]))) H2 (upd H2 p (.lst (vs1 ++ [vd]))) := go_set hp
          have j4 : JL X.K (setL L2 p (.lst (ds1 ++ [d]))) (upd H2 p (.lst (vs1 ++ [vd]))) := j2.put hp ⟨_, upd_same, (rv1.go g4).append (.cons (rd.go g4) .nil)⟩
          exact hk _ _ _ _ h2.2 ((g1.trans g2).trans g4) j4 .non
        · exact h2.elim
      · exact h2.elim
    · exact h1.elim
  · exact h1.elim
/-- the signs of a text, one by one -/
def sgD (l : List Nat) : List D := l.map fun c => .str ⟨#[c]⟩
end
end DL
namespace DL
open PySem L2
section
variable {X : Cx} {Wx : WX} {a b c e o : Expr} {es : List Expr} {da db dc de do' : DE} {dl : DA} {pos : Pos}
def gIxA : G2 := fun a b L k => match b with
  | .int i => match a with
    | .str z => z.length ≤ sizeLine ∧ match atI z.cps.toList i with
      | some c => k (.str ⟨#[c]⟩)
      | none => False
    | _ => match seqs (con L a) with
      | some ds => match atI ds i with
        | some d => k d
        | none => False
      | none => False
  | _ => False
theorem sim_ixA {K : PySem.W.Frag} : Sim2 K (fun x y H Q => rIxQ K x y H Q ∨ rIxS x y H Q) gIxA := by
  intro H L va vb a b k Q j ra rb h hk
  cases rb <;> first | exact h.elim | skip
  rename_i i
  by_cases ha : ∃ z, a = .str z
  · obtain ⟨z, rfl⟩ := ha
    exact .inr (sim_ixS H L va _ (.str z) (.int i) k Q j ra (.int i) h hk)
  · refine .inl (sim_ix H L va _ a (.int i) k Q j ra (.int i) ?_ hk)
    cases a <;> first | exact h | exact absurd ⟨_, rfl⟩ ha
theorem q_ixA (ha : QE X Wx a da) (hb : QE X Wx b db) (hs : PlainIx b := by intro _ _; rfl) : QE X Wx (.Subscript a b pos) (dOp gIxA da db) := by
  obtain ⟨ta, pa, sa⟩ := ha.ex
  obtain ⟨tb, pb, sb⟩ := hb.ex
  exact ⟨_, pe_ix (ix_or (ix_or ix_list ix_tup) ix_str) pa pb hs, sim_op sa sb sim_ixA⟩
/-- the name x of the top holds d -/
def GlbD (K : PySem.W.Frag) (mg : Str → Option Value) (x : Str) (d : D) : Prop := ∃ u v, mg x = some u ∧ RelV v u ∧ ∀ L H, Rp L K H v d
theorem q_globD {x : Str} {d : D} (h : GlbD X.K X.mg x d) (hg : Gl X x) (hd : (x == ("__debug__" : Str)) = false := by decide) : QE X Wx (.Name x pos) (dC d) := by
  obtain ⟨u, v, h1, h2, h3⟩ := h
  exact q_glob hg h1 h2 h3 hd
theorem glb_tup {K : PySem.W.Frag} {mg : Str → Option Value} {x : Str} {a : Addr} {d : D} (h : mg x = some (.ref a)) (r : ∀ L H, Rp L K H (.ref a) d) : GlbD K mg x d := ⟨_, .ref a, h, rfl, r⟩
end
end DL
namespace DL
open PySem L2
section
variable {X : Cx} {Wx : WX} {a b c e o : Expr} {es : List Expr} {da db dc de do' : DE} {dl : DA} {pos : Pos}
abbrev G2L := D → D → Led → (D → Led → Prop) → Prop
def Sim2L (K : PySem.W.Frag) (r : R2) (g : G2L) : Prop := ∀ H L va vb a b k Q, JL K L H → Rp L K H va a → Rp L K H vb b → g a b L k → KOk K L H k Q → r va vb H Q
def OQL (X : Cx) (op : Operator) (g : G2L) : Prop := ∃ r, PIp X op r ∧ Sim2L X.K r g
def dAug (i : Nat) (g : G2L) (de : DE) : DS := fun D env L => match env[i]? with
  | some (some a) => de env L (fun b L1 => g a b L1 fun d L2 => D.nx (env.set i (some d)) L2) D.ex
  | _ => False
theorem s_aug (i : Nat) {x : Str} {op : Operator} {pos' : Pos} {g : G2L} (hN : X.N.Nodup) (he : QE X Wx e de) (ho : OQL X op g) (hi : X.N[i]? = some x := by rfl) (hx : Loc X.env.scope x := by first | exact Or.inl rfl | exact Or.inr rfl) (hf : X.fn x = true ∨ X.env.scope.names.lookup x = some .local := by first | exact .inl rfl | exact .inr rfl | assumption) :
    QS X Wx (.AugAssign (.Name x pos') op e pos) (dAug i g de) := by
  obtain ⟨te, pe, se⟩ := he.ex
  obtain ⟨r, hr, sr⟩ := ho
  refine ⟨_, ps_aug hN hi hx pe hr hf, fun σ H env L D' D st h ok => ?_⟩
  unfold dAug at h
  split at h
  · rename_i a hd
    obtain ⟨v, e1, rv⟩ := st.1.get hd
    refine ⟨v, e1, ?_⟩
    refine se σ H env L _ _ _ st h (fun b L1 vb H1 h1 g1 j1 r1 => ?_) ok.ex
    refine sr H1 L1 v vb a b _ _ j1 (rv.go g1) r1 h1 fun d L2 vd H2 h2 g2 j2 r2 => ?_
    exact ok.nx _ L2 _ H2 h2 (g1.trans g2) ⟨(st.1.go (g1.trans g2)).set r2 i, j2⟩
  · exact h.elim
def gAugAdd : G2L := fun a b L k => match a with
  | .int i => (match b with
    | .int j => k (.int (i + j)) L
    | _ => False)
  | .str x => (match b with
    | .str y => x.length + y.length ≤ sizeLine ∧ k (.str (x ++ y)) L
    | _ => False)
  | .ptr p => (match L.lookup p with
    | some (.lst xs) => (match con L b with
      | .lst ys => xs.length + ys.length ≤ sizeLine ∧ k (.ptr p) (setL L p (.lst (xs ++ ys)))
      | _ => False)
    | _ => False)
  | _ => False
theorem ip_addQ : OQL X .Add gAugAdd := by
  refine ⟨_, opr_or (opr_or iop_add iop_add_str) iop_ext, fun H L va vb a b k Q j ra rb h hk => ?_⟩
  unfold gAugAdd at h
  split at h
  · split at h
    · cases ra
      cases rb
      exact .inl (.inl ⟨_, _, rfl, rfl, hk _ L _ H h (Go.refl L H) j (.int _)⟩)
    · exact h.elim
  · split at h
    · cases ra
      cases rb
      exact .inl (.inr ⟨_, _, rfl, rfl, h.1, hk _ L _ H h.2 (Go.refl L H) j (.str _)⟩)
    · exact h.elim
  · rename_i p
    cases ra
    split at h
    · rename_i xs hl
      split at h
      · rename_i ys hb
        obtain ⟨vs, e1, rv⟩ := j.look hl
        obtain ⟨q, ws, rfl, e2, rw'⟩ := con_lst j rb hb
        have hp := inL_of_lookup hl
        refine .inr ⟨p, q, vs, ws, rfl, rfl, e1, e2, by rw [rv.length, rw'.length]; exact h.1, ?_⟩
        have g4 : Go L (setL L p (.lst (xs ++ ys))) H (upd H p (.lst (vs ++ ws))) := go_set hp
        have j4 : JL X.K (setL L p (.lst (xs ++ ys))) (upd H p (.lst (vs ++ ws))) := j.put hp ⟨_, upd_same, (rv.go g4).append (rw'.go g4)⟩
        exact hk _ _ _ _ h.2 g4 j4 (.ptr p)
      · exact h.elim
    · exact h.elim
  · exact h.elim
end
end DL
namespace DL
open PySem L2 TL
section
end
end DL
namespace DL
open PySem PySem.Spec PyProof.Rows L2
theorem con_obj {L : Led} {K : PySem.W.Frag} {H : Hp} {v : V} {d : D} {C : Addr} {ns : List Str} {ds : List D} (j : JL K L H) (r : Rp L K H v d) (e : con L d = .obj C ns ds) : ∃ a dx vs, v = .ref a ∧ H a = some (.ins C dx (ns.zip vs)) ∧ ns.length = vs.length ∧ RpAll L K H vs ds := by
  cases d with
  | ptr a =>
    cases r
    have e : (L.lookup a).getD (.ptr a) = _ := e
    cases h : L.lookup a with
    | none => rw [h] at e; cases e
    | some c =>
      rw [h] at e
      have e2 : c = .obj C ns ds := e
      subst e2
      obtain ⟨dx, vs, h1, h2, h3⟩ := j.look h
      exact ⟨a, dx, vs, rfl, h1, h2, h3⟩
  | obj C' ns' ds' =>
    have e2 : D.obj C' ns' ds' = .obj C ns ds := e
    cases e2
    cases r with
    | obj n h e r => exact ⟨_, _, _, rfl, h, e, r⟩
  | _ => cases e
def putNs (f : Str) : List Str → List Str
  | [] => [f]
  | g :: r => if g = f then g :: r else g :: putNs f r
def putVs {α : Type} (f : Str) (v : α) : List Str → List α → List α
  | [], _ => [v]
  | g :: r, x :: xs => if g = f then v :: xs else x :: putVs f v r xs
  | _ :: _, [] => []
theorem put_zip (f : Str) (v : V) : ∀ (ns : List Str) (xs : List V), ns.length = xs.length → putF f v (ns.zip xs) = (putNs f ns).zip (putVs f v ns xs) ∧ (putNs f ns).length = (putVs f v ns xs).length
  | [], [], _ => ⟨rfl, rfl⟩
  | [], _ :: _, h => by cases h
  | _ :: _, [], h => by cases h
  | g :: r, x :: xs, h => by
    obtain ⟨h1, h2⟩ := put_zip f v r xs (by simpa using h)
    show (if g = f then (g, v) :: r.zip xs else (g, x) :: putF f v (r.zip xs)) = (if g = f then g :: r else g :: putNs f r).zip (if g = f then v :: xs else x :: putVs f v r xs) ∧ (if g = f then g :: r else g :: putNs f r).length = (if g = f then v :: xs else x :: putVs f v r xs).length
    by_cases e : g = f
    · rw [if_pos e, if_pos e, if_pos e]
      exact ⟨rfl, h⟩
    · rw [if_neg e, if_neg e, if_neg e, h1]
      exact ⟨rfl, by rw [List.length_cons, List.length_cons, h2]⟩
theorem put_rp {L : Led} {K : PySem.W.Frag} {H : Hp} {f : Str} {v : V} {d : D} (r : Rp L K H v d) : ∀ (ns : List Str) {xs : List V} {ds : List D}, RpAll L K H xs ds → RpAll L K H (putVs f v ns xs) (putVs f d ns ds)
  | [], _, _, _ => .cons r .nil
  | g :: ns, _, _, .nil => .nil
  | g :: ns, _, _, .cons (v := x) (d := y) h t => by
    unfold putVs
    by_cases e : g = f
    · rw [if_pos e, if_pos e]; exact .cons r t
    · rw [if_neg e, if_neg e]; exact .cons h (put_rp r ns t)
section
variable {X : Cx} {Wx : WX} {a b c e o : Expr} {es : List Expr} {da db dc de do' : DE} {dl : DA} {pos apos : Pos}
/-- e.f -/
def dFld (K : PySem.W.Frag) (f : Str) (da : DE) : DE := fun env L k x => da env L (fun a L1 => match con L1 a with
  | .obj C ns ds => (Cls K C ∧ NoAttr K C f) ∧ match (ns.zip ds).lookup f with
    | some d => k d L1
    | none => False
  | _ => False) x
theorem q_fld {K : PySem.W.Frag} {f : Str} (hK : X.K = K) (he : QE X Wx e da) (hb : attributeBase e f X.env (eval e X.env) = eval e X.env := by rfl) : QE X Wx (.Attribute e f pos) (dFld K f da) := by
  subst hK
  obtain ⟨ta, pa, sa⟩ := he.ex
  refine ⟨_, pe_fld pa hb, fun σ H env L k x Q st h hk hx => ?_⟩
  refine sa σ H env L _ x _ st h (fun a L1 va H1 h1 g1 j1 r1 => ?_) hx
  split at h1
  · rename_i C ns ds hc
    obtain ⟨q, dx, vs, rfl, hq, hl, rv⟩ := con_obj j1 r1 hc
    obtain ⟨⟨h2, h3⟩, h1⟩ := h1
    split at h1
    · rename_i d hd
      obtain ⟨v, e1, r⟩ := lookup_rp rv hd
      exact ⟨q, C, dx, _, v, rfl, hq, h2, h3, e1, hk d L1 v H1 h1 g1 j1 r⟩
    · exact h1.elim
  · exact h1.elim
/-- o.f = e, o of the ledger -/
def dFldS (K : PySem.W.Frag) (f : Str) (de do' : DE) : DS := fun D env L => de env L (fun v L1 => do' env L1 (fun o L2 => match o with
  | .ptr p => match L2.lookup p with
    | some (.obj C ns ds) => (Cls K C ∧ NoAttr K C f ∧ ns.length < 1000) ∧ D.nx env (setL L2 p (.obj C (putNs f ns) (putVs f v ns ds)))
    | _ => False
  | _ => False) D.ex) D.ex
theorem s_fld {K : PySem.W.Frag} {f : Str} {p' : Pos} (hK : X.K = K) (he : QE X Wx e de) (ho : QE X Wx o do') (hs : swapsWith e (some (.Attribute o f p')) pos.line X.env = pure false := by rfl) : QS X Wx (.Assign [.Attribute o f p'] e pos) (dFldS K f de do') := by
  subst hK
  obtain ⟨te, pe, se⟩ := he.ex
  obtain ⟨to, po, so⟩ := ho.ex
  refine ⟨_, ps_fld po pe hs, fun σ H env L D' D st h ok => ?_⟩
  refine se σ H env L _ _ _ st h (fun v L1 vv H1 h1 g1 j1 r1 => ?_) ok.ex
  refine so σ H1 env L1 _ _ _ (st.go g1 j1) h1 (fun o L2 vo H2 h2 g2 j2 r2 => ?_) (ok.ex.go g1)
  split at h2
  · rename_i p
    cases r2
    split at h2
    · rename_i C ns ds hl
      obtain ⟨dx, vs, e1, e2, rv⟩ := j2.look hl
      obtain ⟨⟨c1, c2, c3⟩, h2⟩ := h2
      have hp := inL_of_lookup hl
      obtain ⟨z1, z2⟩ := put_zip f vv ns vs e2
      refine ⟨p, C, dx, _, rfl, e1, c1, c2, by rw [List.length_zip]; omega, ?_⟩
      rw [z1]
      have g4 : Go L2 (setL L2 p (.obj C (putNs f ns) (putVs f v ns ds))) H2 (upd H2 p (.ins C dx ((putNs f ns).zip (putVs f vv ns vs)))) := go_set hp
      have j4 : JL X.K (setL L2 p (.obj C (putNs f ns) (putVs f v ns ds))) (upd H2 p (.ins C dx ((putNs f ns).zip (putVs f vv ns vs)))) := j2.put hp ⟨dx, _, upd_same, z2, put_rp ((r1.go g2).go g4) ns (rv.go g4)⟩
      exact ok.nx env _ σ _ h2 ((g1.trans g2).trans g4) (st.go ((g1.trans g2).trans g4) j4)
    · exact h2.elim
  · exact h2.elim
section
variable {CX : CXT} {k : Nat} {C f : Addr} {m : Str} {fd : FuncData} {ps : List Str} {sp : Sp} {E : L2.St → XK} {ds : List Value} {dvs : List V} {ta : TE} {t : TA} {pl : Sem Bool}
def tMethE (C : Addr) (m : Str) (sp : Sp) (dvs : List V) (E : L2.St → XK) (ta : TE) (t : TA) : TE := fun σ H Q => ta σ H fun x H1 => ∃ a dx fs, x = .ref a ∧ H1 a = some (.ins C dx fs) ∧ fs.lookup m = none ∧ t σ H1 fun vs H2 => sp (x :: (vs ++ dvs)) H2 Q (E σ)
theorem pe_methE (hO : PE X o ta) (hC : Cls X.K C) (hM : Meth X.K C m f) (F : FnOk X.prog X.w X.K X.mg X.base CX k f fd ps sp) (hr : Room k X.A) (hb : Binds X.K fd ps ds) (hd : Vals dvs ds) (hx : ∀ σ, PassesAt CX X σ (E σ)) (hA : PA X (e :: es) t)
    (h1 : starEach (e :: es) X.env = (false, eval e X.env) :: starEach es X.env := by rfl) (h2 : (backTo pos (starEach es X.env)).any (·.1) = false := by rfl)
    (h3 : eval (.Call (.Attribute o m apos) (e :: es) [] pos) X.env = (do let ov ← eval o X.env; standAt apos.atName; let (f, first) ← holding [ov] (getMethod ov m pl); callWith pos f first (backTo pos (starEach (e :: es) X.env)) (backToKw pos (keywordEach [] X.env))) := by rfl) :
    PE X (.Call (.Attribute o m apos) (e :: es) [] pos) (tMethE C m sp dvs E ta t) := ⟨fun pins s σ H Q I h => by
  refine PySem.W.methodCall_KW (pl := pl) (thn (hO.run pins s σ H _ I h) fun u s1 ⟨_, H1, I1, rx, a, _, _, ez, ea, l, q⟩ => ?_) h3
  subst ez
  cases rx
  refine getmeth_ok I1 ea hC hM l (PySem.W.callWith_K (first := [.ref a]) (h₀ := X.base) I.ok.mod.kin hM.kp (thn (hA.run pos pins s1 σ H1 _ I1 q) fun us _ ⟨vs, _, I2, r, q2⟩ => ⟨I2.kIn, ?_⟩) h1 h2)
  exact run_fnSD (us := .ref a :: us) (vs := .ref a :: vs) F hr hb hd (hx σ) I2 (.cons rfl r) q2⟩
theorem pe_meth0E (hO : PE X o ta) (hC : Cls X.K C) (hM : Meth X.K C m f) (F : FnOk X.prog X.w X.K X.mg X.base CX k f fd ps sp) (hr : Room k X.A) (hb : Binds X.K fd ps ds) (hd : Vals dvs ds) (hx : ∀ σ, PassesAt CX X σ (E σ))
    (h3 : eval (.Call (.Attribute o m apos) [] [] pos) X.env = (do let ov ← eval o X.env; standAt apos.atName; let (f, first) ← holding [ov] (getMethod ov m pl); callWith pos f first (backTo pos (starEach [] X.env)) (backToKw pos (keywordEach [] X.env))) := by rfl) :
    PE X (.Call (.Attribute o m apos) [] [] pos) (tMethE C m sp dvs E ta tNil) := ⟨fun pins s σ H Q I h => by
  refine PySem.W.methodCall_KW (pl := pl) (thn (hO.run pins s σ H _ I h) fun u s1 ⟨_, H1, I1, rx, a, _, _, ez, ea, l, q⟩ => ?_) h3
  subst ez
  cases rx
  exact getmeth_ok I1 ea hC hM l (PySem.W.callWith_K0 (first := [.ref a]) I1.kIn hM.kp (run_fnSD (us := [.ref a]) (vs := [.ref a]) F hr hb hd (hx σ) I1 (.cons rfl .nil) q))⟩
end
/-- a method by its class and name -/
structure MCal (P : Program) (w : World) (K : PySem.W.Frag) (mg : Str → Option Value) (base : Heap) (n : Nat) (C : Addr) (m : Str) (ps : List Str) (dd : List D) (g : DSp) : Prop where
  ex : ∃ f fd us dvs, FnOk P w K mg base (L2.CX P w) n f fd ps (spD K g) ∧ Cls K C ∧ Meth K C m f ∧ Binds K fd ps us ∧ Vals dvs us ∧ ∀ L H, RpAll L K H dvs dd
def dMeth (C : Addr) (m : Str) (g : DSp) (dd : List D) (da : DE) (dl : DA) : DE := fun env L k x => da env L (fun a L1 => match con L1 a with
  | .obj C' ns vs => (C' = C ∧ (ns.zip vs).lookup m = none) ∧ dl env L1 (fun ds L2 => g (a :: (ds ++ dd)) L2 k fun n L' => x n env L') x
  | _ => False) x
theorem lookup_none {f : Str} : ∀ {ns : List Str} {xs : List V} {ds : List D}, xs.length = ds.length → (ns.zip ds).lookup f = none → (ns.zip xs).lookup f = none
  | [], _, _, _, _ => rfl
  | _ :: _, [], [], _, _ => rfl
  | _ :: _, [], _ :: _, h, _ => by cases h
  | _ :: _, _ :: _, [], h, _ => by cases h
  | n :: ns, x :: xs, d :: ds, h, e => by
    rw [List.zip_cons_cons, List.lookup_cons] at e ⊢
    cases hb : f == n with
    | true => rw [hb] at e; cases e
    | false => rw [hb] at e; exact lookup_none (by simpa using h) e
theorem q_meth {C : Addr} {m : Str} {n k : Nat} {ps : List Str} {g : DSp} {dd : List D} {pl : Sem Bool} (F : MCal X.prog X.w X.K X.mg X.base n C m ps dd g) (hn : n ≤ k) (hr : Room k X.A) (tk : Takes X Wx) (ho : QE X Wx o do') (ha : QA X Wx (e :: es) dl)
    (h1 : starEach (e :: es) X.env = (false, eval e X.env) :: starEach es X.env := by rfl) (h2 : (backTo pos (starEach es X.env)).any (·.1) = false := by rfl)
    (h3 : eval (.Call (.Attribute o m apos) (e :: es) [] pos) X.env = (do let ov ← eval o X.env; standAt apos.atName; let (f, first) ← holding [ov] (getMethod ov m pl); callWith pos f first (backTo pos (starEach (e :: es) X.env)) (backToKw pos (keywordEach [] X.env))) := by rfl) :
    QE X Wx (.Call (.Attribute o m apos) (e :: es) [] pos) (dMeth C m g dd do' dl) := by
  obtain ⟨f, fd, us, dvs, F, hC, hM, hb, hd, hdd⟩ := F.ex
  obtain ⟨to, po, so⟩ := ho.ex
  obtain ⟨ta, pa, sa⟩ := ha.ex
  refine ⟨_, pe_methE po hC hM F (hr.mono hn) hb hd (fun σ => passAt tk σ) pa h1 h2 h3, fun σ H env L k x Q st h hk hx => ?_⟩
  refine so σ H env L _ x _ st h (fun a L1 va H1 h1 g1 j1 r1 => ?_) hx
  split at h1
  · rename_i C' ns ds hc
    obtain ⟨⟨rfl, h2⟩, h1⟩ := h1
    obtain ⟨q, dx, vs, rfl, hq, hl, rv⟩ := con_obj j1 r1 hc
    refine ⟨q, dx, _, rfl, hq, lookup_none rv.length h2, ?_⟩
    refine sa σ H1 env L1 _ x _ (st.go g1 j1) h1 (fun ds L2 vs H2 h2 g2 j2 r2 => ?_) (hx.go g1)
    exact ⟨a :: (ds ++ dd), L2, k, fun n L' => x n env L', j2, .cons (r1.go g2) (r2.append (hdd L2 H2)), h2, (hk.go g1).go g2, fun n L' a H' q g' j' r => hx n env L' a H' σ q ((g1.trans g2).trans g') (st.go ((g1.trans g2).trans g') j') r⟩
  · exact h1.elim
def dMeth0 (C : Addr) (m : Str) (g : DSp) (dd : List D) (da : DE) : DE := fun env L k x => da env L (fun a L1 => match con L1 a with
  | .obj C' ns vs => (C' = C ∧ (ns.zip vs).lookup m = none) ∧ g (a :: dd) L1 k fun n L' => x n env L'
  | _ => False) x
theorem q_meth0 {C : Addr} {m : Str} {n k : Nat} {ps : List Str} {g : DSp} {dd : List D} {pl : Sem Bool} (F : MCal X.prog X.w X.K X.mg X.base n C m ps dd g) (hn : n ≤ k) (hr : Room k X.A) (tk : Takes X Wx) (ho : QE X Wx o do')
    (h3 : eval (.Call (.Attribute o m apos) [] [] pos) X.env = (do let ov ← eval o X.env; standAt apos.atName; let (f, first) ← holding [ov] (getMethod ov m pl); callWith pos f first (backTo pos (starEach [] X.env)) (backToKw pos (keywordEach [] X.env))) := by rfl) :
    QE X Wx (.Call (.Attribute o m apos) [] [] pos) (dMeth0 C m g dd do') := by
  obtain ⟨f, fd, us, dvs, F, hC, hM, hb, hd, hdd⟩ := F.ex
  obtain ⟨to, po, so⟩ := ho.ex
  refine ⟨_, pe_meth0E po hC hM F (hr.mono hn) hb hd (fun σ => passAt tk σ) h3, fun σ H env L k x Q st h hk hx => ?_⟩
  refine so σ H env L _ x _ st h (fun a L1 va H1 h1 g1 j1 r1 => ?_) hx
  split at h1
  · rename_i C' ns ds hc
    obtain ⟨⟨rfl, h2⟩, h1⟩ := h1
    obtain ⟨q, dx, vs, rfl, hq, hl, rv⟩ := con_obj j1 r1 hc
    refine ⟨q, dx, _, rfl, hq, lookup_none rv.length h2, ?_⟩
    exact ⟨a :: dd, L1, k, fun n L' => x n env L', j1, .cons r1 (hdd L1 H1), h1, hk.go g1, fun n L' a H' q g' j' r => hx n env L' a H' σ q (g1.trans g') (st.go (g1.trans g') j') r⟩
  · exact h1.elim
end
end DL
namespace DL
open PySem PySem.Spec PyProof.Rows L2
section
variable {X : Cx} {Wx : WX} {a b c e o : Expr} {es : List Expr} {da db dc de do' : DE} {dl : DA} {pos apos : Pos}
section
variable {CX : CXT} {k : Nat} {C f : Addr} {x : Str} {p : Pos} {fd : FuncData} {ps : List Str} {sp : Sp} {E : L2.St → XK} {ds : List Value} {dvs : List V} {t : TA}
def tMakeE (C : Addr) (sp : Sp) (dvs : List V) (E : L2.St → XK) (t : TA) : TE := fun σ H Q => t σ H fun vs H1 => ∀ x dx, H1 x = none → H1 dx = none → dx ≠ x → sp (.ref x :: (vs ++ dvs)) (upd (upd H1 dx (.own x)) x (.ins C dx [])) (fun v H2 => v = .non ∧ Q (.ref x) H2) (E σ)
theorem run_makeE {pins : List (Addr × Obj)} {σ : L2.St} {H : Hp} {s : Shared} {Q : VK} {us : List Value} {vs : List V} (M : Mk X.K C f) (F : FnOk X.prog X.w X.K X.mg X.base CX k f fd ps sp) (hr : Room (k + 1) X.A) (hb : Binds X.K fd ps ds) (hd : Vals dvs ds) (hx : PassesAt CX X σ (E σ)) (I : Inv X pins σ H s) (r : Vals vs us)
    (h : ∀ x dx, H x = none → H dx = none → dx ≠ x → sp (.ref x :: (vs ++ dvs)) (upd (upd H dx (.own x)) x (.ins C dx [])) (fun v H2 => v = .non ∧ Q (.ref x) H2) (E σ)) : wpAny (model X.prog X.w) X.A (call (.ref C) us) (EP X pins σ Q) X.xe s := by
  have q0 := h (s.heap.objs.size + 1) s.heap.objs.size (I.hok.fresh (Nat.le_succ _)) (I.hok.fresh (Nat.le_refl _)) (Nat.ne_of_lt (Nat.lt_succ_self _))
  have I2 := Inv.made (C := C) I
  have rr : Vals (V.ref (s.heap.objs.size + 1) :: (vs ++ dvs)) (.ref (s.heap.objs.size + 1) :: (us ++ ds)) := .cons rfl (r.append hd)
  have ll : (Value.ref (s.heap.objs.size + 1) :: us ++ ds).length = ps.length := rr.length.symm.trans (F.len _ _ _ _ q0)
  have run := F.run _ X.stack _ _ ⟨.ref (s.heap.objs.size + 1) :: us, []⟩ (.ref (s.heap.objs.size + 1) :: (us ++ ds)) _ _ (E σ) (hr.make C us []) (I2.env0.make C us []) (hb _ (.ref (s.heap.objs.size + 1) :: us) I2.kIn ll) rr q0
  refine wpAny_call (make_map (f := f) I.kIn M.makes M.init (beq_iff_eq.mp M.fn) (codeAny_mono run fun w s' hw => ?_))
  cases w with
  | error er => exact hx pins _ _ er s' I2 hw
  | ok fl =>
  cases fl with
  | brk => exact hw.elim
  | cont => exact hw.elim
  | next => exact hw.elim
  | ret u =>
  obtain ⟨_, H3, I3, rv, ev, q3⟩ := I2.after hw
  subst ev
  exact ⟨rv, ⟨.ref (s.heap.objs.size + 1), H3, I3, rfl, q3⟩⟩
theorem pe_makeE (M : Mk X.K C f) (F : FnOk X.prog X.w X.K X.mg X.base CX k f fd ps sp) (hr : Room (k + 1) X.A) (hg : Gl X x) (hm : X.mg x = some (.ref C)) (hb : Binds X.K fd ps ds) (hd : Vals dvs ds) (hx : ∀ σ, PassesAt CX X σ (E σ)) (hA : PA X (e :: es) t)
    (h0 : (x == ("__debug__" : Str)) = false := by decide) (h1 : starEach (e :: es) X.env = (false, eval e X.env) :: starEach es X.env := by rfl) (h2 : (backTo pos (starEach es X.env)).any (·.1) = false := by rfl) : PE X (.Call (.Name x p) (e :: es) [] pos) (tMakeE C sp dvs E t) :=
  ⟨fun pins s σ H Q I h => wpAny_Call_Name_kw (ld_glob I hg hm (PySem.W.callWith_K (h₀ := X.base) I.ok.mod.kin M.kp (thn (hA.run pos pins s σ H _ I h) fun us _ ⟨vs, _, I1, r, q⟩ => ⟨I1.kIn, run_makeE M F hr hb hd (hx σ) I1 r q⟩) h1 h2) h0)⟩
end
/-- a class by name: what its __init__ promises of the new thing of the ledger -/
structure KCal (P : Program) (w : World) (K : PySem.W.Frag) (mg : Str → Option Value) (base : Heap) (n : Nat) (x : Str) (C : Addr) (ps : List Str) (dd : List D) (g : DSp) : Prop where
  ex : ∃ f fd us dvs, FnOk P w K mg base (L2.CX P w) n f fd ps (spD K g) ∧ Mk K C f ∧ mg x = some (.ref C) ∧ Binds K fd ps us ∧ Vals dvs us ∧ ∀ L H, RpAll L K H dvs dd
/-- .. it is from then on a plain datum -/
def dMakeD (C : Addr) (g : DSp) (dd : List D) (dl : DA) : DE := fun env L k x => dl env L (fun ds L1 => ∀ q, ¬ inL L1 q → g (.ptr q :: (ds ++ dd)) ((q, .obj C [] []) :: L1) (fun v L2 => v = .non ∧ match L2.lookup q with
  | some (.obj C' ns vs) => k (.obj C' ns vs) (remL L2 q)
  | _ => False) fun n L' => x n env (remL L' q)) x
theorem made_jl {K : PySem.W.Frag} {L : Led} {H : Hp} {q dx C : Addr} (j : JL K L H) (hq : H q = none) (hd : H dx = none) (hne : dx ≠ q) : ¬ inL L q ∧ JL K ((q, .obj C [] []) :: L) (upd (upd H dx (.own q)) q (.ins C dx [])) ∧ Go L ((q, .obj C [] []) :: L) H (upd (upd H dx (.own q)) q (.ins C dx [])) := by
  have s := same_new hd (.own q)
  have hq' : (upd H dx (.own q)) q = none := by rw [upd_ne (Ne.symm hne)]; exact hq
  obtain ⟨j2, g2⟩ := (j.same s).push (d := .obj C [] []) hq' (o := .ins C dx []) ⟨dx, [], upd_same, rfl, .nil⟩
  exact ⟨j.notIn hq, j2, (Go.same s).trans g2⟩
theorem exR_go {L L' : Led} {K : PySem.W.Frag} {H H' : Hp} {a : Addr} {n : Exn} (g : Go L L' H H') (h : ExR L K H a n) : ExR L' K H' a n := by
  obtain ⟨na, vs, e1, e2, e3⟩ := h
  exact ⟨(g _ _ na e1).1, vs, (g.at' na e1).2, e2, e3.go g⟩
theorem q_makeD {x : Str} {p : Pos} {n k : Nat} {C : Addr} {ps : List Str} {g : DSp} {dd : List D} (F : KCal X.prog X.w X.K X.mg X.base n x C ps dd g) (hn : n + 1 ≤ k) (hr : Room k X.A) (tk : Takes X Wx) (hg : Gl X x) (ha : QA X Wx (e :: es) dl)
    (h0 : (x == ("__debug__" : Str)) = false := by decide) (h1 : starEach (e :: es) X.env = (false, eval e X.env) :: starEach es X.env := by rfl) (h2 : (backTo pos (starEach es X.env)).any (·.1) = false := by rfl) : QE X Wx (.Call (.Name x p) (e :: es) [] pos) (dMakeD C g dd dl) := by
  obtain ⟨f, fd, us, dvs, F, hM, hm, hb, hd, hdd⟩ := F.ex
  obtain ⟨ta, pa, sa⟩ := ha.ex
  refine ⟨_, pe_makeE hM F (hr.mono hn) hg hm hb hd (fun σ => passAt tk σ) pa h0 h1 h2, fun σ H env L k x Q st h hk hx => ?_⟩
  refine sa σ H env L _ x _ st h (fun ds L1 vs H1 h1 g1 j1 r1 q dx hq hdx hne => ?_) hx
  obtain ⟨nq, j2, g2⟩ := made_jl (C := C) j1 hq hdx hne
  refine ⟨_, _, _, _, j2, .cons (.ptr q) ((r1.go g2).append (hdd _ _)), h1 q nq, fun d L' v H' ⟨ed, hkq⟩ g' j' r' => ?_, fun n L' a H' hxq g' j' r => ?_⟩
  · subst ed
    cases r'
    refine ⟨rfl, ?_⟩
    split at hkq
    · rename_i C' ns vs' hl
      obtain ⟨dx', ws, e1, e2, rv⟩ := j'.look hl
      exact hk _ _ _ H' hkq (((g1.trans g2).trans g').trans go_rem) j'.rem (.obj (fun m => (inL_remL.mp m).2 rfl) e1 e2 (rv.go go_rem))
    · exact hkq.elim
  · exact hx n env _ a H' σ hxq (((g1.trans g2).trans g').trans go_rem) (st.go (((g1.trans g2).trans g').trans go_rem) j'.rem) (exR_go go_rem r)
end
end DL
namespace DL
open PySem PySem.Spec PyProof.Rows PySem.W L2
section
end
end DL
namespace DL
open PySem L2
def keyD : D → Option Key
  | .int i => some (.inl i)
  | .str z => some (.inr z)
  | _ => none
theorem key_of {L : Led} {K : PySem.W.Frag} {H : Hp} {v : V} {d : D} {k : Key} (r : Rp L K H v d) (h : keyD d = some k) : v = kV k := by
  cases d <;> first | (cases h; done) | skip
  · cases h; cases r; rfl
  · cases h; cases r; rfl
def lookK {α : Type} : List Key → List α → Key → Option α
  | a :: ks, d :: ds, k => if a = k then some d else lookK ks ds k
  | _, _, _ => none
theorem look_val : ∀ (ks : List Key) (vs : List V) (k : Key), valV (ks.zip vs) k = lookK ks vs k
  | [], _, _ => rfl
  | _ :: _, [], _ => rfl
  | a :: ks, v :: vs, k => by
    show ((((a, v) :: ks.zip vs).find? fun kv => decide (kv.1 = k)).map (·.2)) = if a = k then some v else lookK ks vs k
    rw [List.find?_cons]
    by_cases e : a = k
    · rw [decide_eq_true e, if_pos e]; rfl
    · rw [decide_eq_false e, if_neg e]; exact look_val ks vs k
section
variable {X : Cx} {Wx : WX} {a b c e o : Expr} {es : List Expr} {da db dc de do' : DE} {dl : DA} {pos apos : Pos}
theorem rem_set (L : Led) (p : Addr) (d : D) : remL (setL L p d) p = remL L p := by
  unfold remL setL
  induction L with
  | nil => rfl
  | cons q r ih =>
    rw [List.map_cons]
    by_cases e : q.1 = p
    · rw [if_pos e, List.filter_cons, List.filter_cons, decide_eq_false (fun h => h rfl), decide_eq_false (fun h => h e)]
      exact ih
    · rw [if_neg e, List.filter_cons, List.filter_cons, decide_eq_true e, if_pos rfl, if_pos rfl, ih]
end
end DL
namespace DL
open PySem L2
def keepL (L L' : Led) : Led := L'.filter fun q => decide (q.1 ∈ L.map (·.1))
theorem inL_keep {L L' : Led} {a : Addr} : inL (keepL L L') a ↔ inL L' a ∧ inL L a := by
  unfold inL keepL
  constructor
  · intro h
    obtain ⟨q, hq, rfl⟩ := List.mem_map.mp h
    obtain ⟨h1, h2⟩ := List.mem_filter.mp hq
    exact ⟨List.mem_map.mpr ⟨q, h1, rfl⟩, of_decide_eq_true h2⟩
  · rintro ⟨h1, h2⟩
    obtain ⟨q, hq, rfl⟩ := List.mem_map.mp h1
    exact List.mem_map.mpr ⟨q, List.mem_filter.mpr ⟨hq, decide_eq_true h2⟩, rfl⟩
theorem go_keep {L L' : Led} {H : Hp} : Go L' (keepL L L') H H := .mk' fun a o n h => ⟨fun m => n (inL_keep.mp m).1, h⟩
theorem JL.keep {K : PySem.W.Frag} {L L' : Led} {H : Hp} (j : JL K L' H) : JL K (keepL L L') H := by
  refine ⟨?_, fun a d m => ?_⟩
  · exact List.Nodup.sublist (List.Sublist.map _ List.filter_sublist) j.nd
  · exact Own.move (j.own a d (List.mem_filter.mp m).1) go_keep fun o e => e
theorem keep_out {L L' : Led} {p : Addr} {d : D} (h : ¬ inL L p) : keepL L ((p, d) :: L') = keepL L L' := by
  unfold keepL
  rw [List.filter_cons, decide_eq_false (show ¬ p ∈ L.map (·.1) from h)]
  rfl
theorem keep_same {L L' : Led} (h : L'.map (·.1) = L.map (·.1)) : keepL L L' = L' := by
  unfold keepL
  refine List.filter_eq_self.mpr fun q hq => decide_eq_true ?_
  rw [← h]
  exact List.mem_map.mpr ⟨q, hq, rfl⟩
end DL
namespace DL
open PySem L2
def isInt : D → Bool
  | .int _ => true
  | _ => false
def okT (d : D) : Bool := (tyD d).isSome
structure Bag where
  cells : List Int
  at_ : Int
  rest : Int
  mix : Int
  cnt : Int
def bagC (b : Bag) : D := .lst [.lst (b.cells.map .int), .int b.at_, .int b.rest, .int b.mix, .int b.cnt]
structure BagOk (b : Bag) : Prop where
  a0 : 0 ≤ b.at_
  a1 : b.at_ ≤ b.cells.length
  r0 : 0 ≤ b.rest
  m0 : 0 ≤ b.mix
  m1 : b.mix < 2147483497
def bagS : DSp := fun ds L k _ => ∃ ns : List Int, ds = [.ro (ns.map .int)] ∧ ∀ p b, ¬ inL L p → BagOk b → k (.ptr p) ((p, bagC b) :: L)
def pullS : DSp := fun ds L k _ => ∃ (p : Addr) (b : Bag) (m : Int), ds = [.ptr p, .int m] ∧ L.lookup p = some (bagC b) ∧ BagOk b ∧ 0 < m ∧ m.natAbs.log2 < 9000 ∧ ∀ r b', 0 ≤ r → r < m → BagOk b' → k (.int r) (setL L p (bagC b'))
theorem con_ptr {L : Led} {p : Addr} {c : D} (h : L.lookup p = some c) : con L (.ptr p) = c := by
  show (L.lookup p).getD (.ptr p) = c
  rw [h]; rfl
theorem setL_setL (L : Led) (p : Addr) (c d : D) : setL (setL L p c) p d = setL L p d := by
  unfold setL
  rw [List.map_map]
  refine List.map_congr_left fun q _ => ?_
  show (if (if q.1 = p then (p, c) else q).1 = p then (p, d) else (if q.1 = p then (p, c) else q)) = _
  by_cases h : q.1 = p
  · simp [h]
  · simp [h]
theorem lookup_setL : ∀ {L : Led} {p : Addr} {c d : D}, L.lookup p = some c → (setL L p d).lookup p = some d
  | [], _, _, _, h => by simp at h
  | (q, e) :: L, p, c, d, h => by
    by_cases hq : q = p
    · subst hq
      show List.lookup q ((if q = q then (q, d) else (q, e)) :: setL L q d) = _
      rw [if_pos rfl]
      exact lookup_top
    · rw [setL_ne hq, lookup_ne (Ne.symm hq)]
      rw [lookup_ne (Ne.symm hq)] at h
      exact lookup_setL h
mutual
def okP : D → Bool
  | .non => true | .bl _ => true | .int _ => true | .str _ => true
  | .lst xs => decide (xs.length < 100000) && okPs xs
  | .tup xs => decide (xs.length < 100000) && okPs xs
  | .ro _ => false | .dk _ _ => false | .dt _ _ => false | .obj _ _ _ => false | .exc _ _ _ => false | .fnv _ _ => false | .clo _ _ => false | .tab _ => false | .ptr _ => false | .ty _ => false | .kt _ => false
def okPs : List D → Bool
  | [] => true
  | d :: r => okP d && okPs r
end
mutual
def dep : D → Nat
  | .lst xs => deps xs + 1
  | .tup xs => deps xs + 1
  | .non => 0 | .bl _ => 0 | .int _ => 0 | .str _ => 0 | .ro _ => 0 | .dk _ _ => 0 | .dt _ _ => 0 | .obj _ _ _ => 0 | .exc _ _ _ => 0 | .fnv _ _ => 0 | .clo _ _ => 0 | .tab _ => 0 | .ptr _ => 0 | .ty _ => 0 | .kt _ => 0
def deps : List D → Nat
  | [] => 0
  | d :: r => max (dep d) (deps r)
end
mutual
def sameD : D → D → Bool
  | .lst xs, .lst ys => sameL xs ys
  | .tup xs, .tup ys => sameL xs ys
  | .non, .non => true
  | .bl a, .bl b => decide (a = b)
  | .int a, .int b => decide (a = b)
  | .str a, .str b => decide (a = b)
  | _, _ => false
def sameL : List D → List D → Bool
  | [], [] => true
  | x :: xs, y :: ys => sameD x y && sameL xs ys
  | _, _ => false
end
mutual
theorem sameD_refl : ∀ d : D, okP d = true → sameD d d = true
  | .non, _ => by unfold sameD; rfl
  | .bl _, _ => by unfold sameD; simp
  | .int _, _ => by unfold sameD; simp
  | .str _, _ => by unfold sameD; simp
  | .lst xs, h => by unfold sameD; exact sameL_refl xs (by unfold okP at h; rw [Bool.and_eq_true] at h; exact h.2)
  | .tup xs, h => by unfold sameD; exact sameL_refl xs (by unfold okP at h; rw [Bool.and_eq_true] at h; exact h.2)
  | .ro _, h => by simp [okP] at h
  | .dk _ _, h => by simp [okP] at h
  | .dt _ _, h => by simp [okP] at h
  | .obj _ _ _, h => by simp [okP] at h
  | .exc _ _ _, h => by simp [okP] at h
  | .fnv _ _, h => by simp [okP] at h
  | .clo _ _, h => by simp [okP] at h
  | .tab _, h => by simp [okP] at h
  | .ptr _, h => by simp [okP] at h
  | .ty _, h => by simp [okP] at h
  | .kt _, h => by simp [okP] at h
theorem sameL_refl : ∀ ds : List D, okPs ds = true → sameL ds ds = true
  | [], _ => by unfold sameL; rfl
  | d :: r, h => by
    unfold okPs at h
    rw [Bool.and_eq_true] at h
    unfold sameL
    rw [sameD_refl d h.1, sameL_refl r h.2]; rfl
end
theorem sameL_len : ∀ {xs ys : List D}, xs.length ≠ ys.length → sameL xs ys = false
  | [], [], h => absurd rfl h
  | [], _ :: _, _ => by simp [sameL]
  | _ :: _, [], _ => by simp [sameL]
  | x :: xs, y :: ys, h => by
    unfold sameL
    rw [sameL_len (xs := xs) (ys := ys) (fun e => h (by simp [e])), Bool.and_false]
def sameS (n : Nat) : DSp := fun ds L k _ => ∃ a b, ds = [a, b] ∧ okP a = true ∧ okP b = true ∧ dep b < n ∧ k (.bl (sameD a b)) L
def gcdI (a b : Int) : Int := ((Nat.gcd a.natAbs b.natAbs : Nat) : Int)
def gcdS : DSp := fun ds L k _ => ∃ a b : Int, ds = [.int a, .int b] ∧ a.natAbs < 2 ^ 1990 ∧ b.natAbs < 2 ^ 1990 ∧ k (.int (gcdI a b)) L
theorem gcdI_step {x y : Int} (hx : 0 ≤ x) (hy : 0 < y) : gcdI y (x.fmod y) = gcdI x y := by
  unfold gcdI
  rw [Int.fmod_eq_emod_of_nonneg x (Int.le_of_lt hy)]
  have h1 : (x % y).natAbs = x.natAbs % y.natAbs := by
    obtain ⟨a, rfl⟩ := Int.eq_ofNat_of_zero_le hx
    obtain ⟨b, rfl⟩ := Int.eq_ofNat_of_zero_le (Int.le_of_lt hy)
    rfl
  rw [h1, Nat.gcd_comm x.natAbs y.natAbs, Nat.gcd_rec y.natAbs x.natAbs, Nat.gcd_comm]
theorem gcdI_zero {x : Int} (hx : 0 ≤ x) : gcdI x 0 = x := by
  unfold gcdI
  rw [show (0 : Int).natAbs = 0 from rfl, Nat.gcd_zero_right]
  omega
theorem gcdI_abs (a b : Int) : gcdI (if a < 0 then -a else a) (if b < 0 then -b else b) = gcdI a b := by
  unfold gcdI
  have h : ∀ z : Int, (if z < 0 then -z else z).natAbs = z.natAbs := fun z => by split <;> omega
  rw [h, h]
theorem fmod_bounds {x y : Int} (hx : 0 ≤ x) (hy : 0 < y) : 0 ≤ x.fmod y ∧ x.fmod y < y ∧ x.fmod y ≤ x := by
  rw [Int.fmod_eq_emod_of_nonneg x (Int.le_of_lt hy)]
  have e : x = y * (x / y) + x % y := (Int.mul_ediv_add_emod x y).symm
  have q : 0 ≤ y * (x / y) := Int.mul_nonneg (Int.le_of_lt hy) (Int.ediv_nonneg hx (Int.le_of_lt hy))
  exact ⟨Int.emod_nonneg _ (by omega), Int.emod_lt_of_pos _ hy, by omega⟩
/-- Euclid's steps: the product falls by half -/
theorem half_step {x y : Int} (hy : 0 < y) (h : y ≤ x) : 2 * (y * x.fmod y) ≤ x * y := by
  obtain ⟨h0, h1, _⟩ := fmod_bounds (x := x) (y := y) (by omega) hy
  have e : x = y * (x / y) + x % y := (Int.mul_ediv_add_emod x y).symm
  have e2 : x.fmod y = x % y := Int.fmod_eq_emod_of_nonneg x (Int.le_of_lt hy)
  have q1 : 1 ≤ x / y := by
    have := Int.ediv_le_ediv hy h
    rw [Int.ediv_self (by omega)] at this
    exact this
  have q2 : y * 1 ≤ y * (x / y) := Int.mul_le_mul_of_nonneg_left q1 (Int.le_of_lt hy)
  have q3 : 2 * x.fmod y ≤ x := by rw [e2]; rw [e2] at h1; omega
  have q4 : y * (2 * x.fmod y) ≤ y * x := Int.mul_le_mul_of_nonneg_left q3 (Int.le_of_lt hy)
  rw [Int.mul_comm x y, ← Int.mul_assoc, Int.mul_comm 2 y, Int.mul_assoc]
  exact q4
def lowI (t u : Int) : Int × Int := let g := if u < 0 then 0 - gcdI t u else gcdI t u; (t.fdiv g, u.fdiv g)
def lowS : DSp := fun ds L k _ => ∃ t u : Int, ds = [.int t, .int u] ∧ u ≠ 0 ∧ t.natAbs < 2 ^ 1990 ∧ u.natAbs < 2 ^ 1990 ∧ k (.tup [.int (lowI t u).1, .int (lowI t u).2]) L
theorem gcdI_nonneg (a b : Int) : 0 ≤ gcdI a b := Int.natCast_nonneg _
theorem gcdI_pos {a b : Int} (h : b ≠ 0) : 0 < gcdI a b := by
  unfold gcdI
  have : 0 < Nat.gcd a.natAbs b.natAbs := Nat.gcd_pos_of_pos_right _ (by omega)
  omega
theorem gcdI_dvd_left (a b : Int) : gcdI a b ∣ a := Int.natAbs_dvd_natAbs.mp (by unfold gcdI; rw [Int.natAbs_natCast]; exact Nat.gcd_dvd_left _ _)
theorem gcdI_dvd_right (a b : Int) : gcdI a b ∣ b := Int.natAbs_dvd_natAbs.mp (by unfold gcdI; rw [Int.natAbs_natCast]; exact Nat.gcd_dvd_right _ _)
theorem gcdI_le {a b : Int} (h : b ≠ 0) : gcdI a b ≤ b.natAbs := by
  unfold gcdI
  have : Nat.gcd a.natAbs b.natAbs ≤ b.natAbs := Nat.gcd_le_right _ (by omega)
  omega
theorem fdiv_exact {a g : Int} (hg : g ≠ 0) (h : g ∣ a) : a.fdiv g * g = a := by
  obtain ⟨c, rfl⟩ := h
  rw [Int.mul_comm g c, Int.mul_fdiv_cancel _ hg]
/-- what lowest terms are: t / u = p / q, q above 0, no common divisor -/
theorem lowI_spec {t u : Int} (hu : u ≠ 0) : 0 < (lowI t u).2 ∧ gcdI (lowI t u).1 (lowI t u).2 = 1 ∧ (lowI t u).1 * u = t * (lowI t u).2 := by
  have hg := gcdI_pos (a := t) hu
  have hs : ∃ s : Int, s ≠ 0 ∧ (s = gcdI t u ∨ s = - gcdI t u) ∧ lowI t u = (t.fdiv s, u.fdiv s) ∧ (0 < u → 0 < s) ∧ (u < 0 → s < 0) := by
    unfold lowI
    by_cases h : u < 0
    · exact ⟨0 - gcdI t u, by omega, by omega, by simp only [if_pos h], by omega, by omega⟩
    · exact ⟨gcdI t u, by omega, by omega, by simp only [if_neg h], by omega, by omega⟩
  obtain ⟨s, s0, s1, e, sp, sn⟩ := hs
  have d1 : s ∣ t := by
    rcases s1 with h | h
    · rw [h]; exact gcdI_dvd_left t u
    · rw [h]; exact Int.neg_dvd.mpr (gcdI_dvd_left t u)
  have d2 : s ∣ u := by
    rcases s1 with h | h
    · rw [h]; exact gcdI_dvd_right t u
    · rw [h]; exact Int.neg_dvd.mpr (gcdI_dvd_right t u)
  have e1 := fdiv_exact s0 d1
  have e2 := fdiv_exact s0 d2
  rw [e]
  dsimp only
  generalize t.fdiv s = p at *
  generalize u.fdiv s = q at *
  have hq : 0 < q := by
    rcases Int.lt_or_lt_of_ne hu with h | h
    · have := sn h
      rcases Int.lt_trichotomy q 0 with z | z | z
      · have := Int.mul_pos_of_neg_of_neg z this; omega
      · rw [z] at e2; omega
      · exact z
    · have := sp h
      rcases Int.lt_trichotomy q 0 with z | z | z
      · have := Int.mul_neg_of_neg_of_pos z this; omega
      · rw [z] at e2; omega
      · exact z
  refine ⟨hq, ?_, ?_⟩
  · have sa : s.natAbs = Nat.gcd t.natAbs u.natAbs := by
      have : (gcdI t u).natAbs = Nat.gcd t.natAbs u.natAbs := by unfold gcdI; rw [Int.natAbs_natCast]
      rcases s1 with h | h
      · rw [h, this]
      · rw [h, Int.natAbs_neg, this]
    have ta : t.natAbs = p.natAbs * s.natAbs := by rw [← e1, Int.natAbs_mul]
    have ua : u.natAbs = q.natAbs * s.natAbs := by rw [← e2, Int.natAbs_mul]
    have hs0 : 0 < s.natAbs := by omega
    have k : Nat.gcd p.natAbs q.natAbs * s.natAbs = 1 * s.natAbs := by
      rw [← Nat.gcd_mul_right, ← ta, ← ua, ← sa, Nat.one_mul]
    unfold gcdI
    rw [Nat.eq_of_mul_eq_mul_right hs0 k]
    rfl
  · have e1' : t = p * s := e1.symm
    have e2' : u = q * s := e2.symm
    rw [e1', e2', Int.mul_assoc, Int.mul_comm s q]
theorem lowI_small {t u : Int} (hu : u ≠ 0) : (lowI t u).1.natAbs ≤ t.natAbs ∧ (lowI t u).2.natAbs ≤ u.natAbs := by
  have key : ∀ a s : Int, s ≠ 0 → s ∣ a → (a.fdiv s).natAbs ≤ a.natAbs := fun a s h0 h => by
    have e := congrArg Int.natAbs (fdiv_exact h0 h)
    rw [Int.natAbs_mul] at e
    have : 1 ≤ s.natAbs := by omega
    calc (a.fdiv s).natAbs = (a.fdiv s).natAbs * 1 := (Nat.mul_one _).symm
      _ ≤ (a.fdiv s).natAbs * s.natAbs := Nat.mul_le_mul_left _ this
      _ = a.natAbs := e
  have hg := gcdI_pos (a := t) hu
  unfold lowI
  by_cases h : u < 0
  · simp only [if_pos h]
    have z : (0 : Int) - gcdI t u = - gcdI t u := by omega
    rw [z]
    exact ⟨key t _ (by omega) (Int.neg_dvd.mpr (gcdI_dvd_left t u)), key u _ (by omega) (Int.neg_dvd.mpr (gcdI_dvd_right t u))⟩
  · simp only [if_neg h]
    exact ⟨key t _ (by omega) (gcdI_dvd_left t u), key u _ (by omega) (gcdI_dvd_right t u)⟩
/-- a ratio: lowest terms -/
structure Low (p q : Int) : Prop where
  pos : 0 < q
  one : gcdI p q = 1
def ratS : DSp := fun ds L k _ => ∃ (b : Addr) (g : Bag) (h u : Int), ds = [.ptr b, .int h, .int u] ∧ L.lookup b = some (bagC g) ∧ BagOk g ∧ 0 ≤ h ∧ h < 2 ^ 1900 ∧ 0 < u ∧ u < 2 ^ 1900 ∧
  ∀ p q g', Low p q → -h ≤ p → p ≤ h → q ≤ u → BagOk g' → k (.tup [.int p, .int q]) (setL L b (bagC g'))
theorem sz_ok {n : Nat} (h : Nat.ble n 1000 = true) : n ≤ sizeLine := Nat.le_trans (Nat.le_of_ble_eq_true h) (by decide)
end DL
namespace DL
open PySem PySem.Spec PyProof.Rows L2
end DL
namespace DL
open PySem PySem.Spec PyProof.Rows L2
section
variable {P : Program} {w : World} {K : PySem.W.Frag} {mg : Str → Option Value} {base : Heap}
/-- a def that makes lambdas: its code object is known -/
theorem fn_okC {x qual : Str} {st : Stmt} {f : Addr} {oc kV doc pm cdv ct : Value} {od an : Option Addr} {osl : Array (Option Value)} {N ps : List Str} {k : Nat} {g : DSp} (lk : K.lookup f = some ⟨oc, od, .func (PySem.W.fnOf x qual (defArgs st) (defBody st) (defScope st) .none kV doc pm an cdv ct), osl⟩) (hcd : PySem.W.codeIn K cdv qual = true)
    (S : FnScope N ps (defScope st)) (len : ∀ ds L k x, g ds L k x → ds.length = ps.length)
    (body : ∀ (A : Around) (outer : List Env) (s : Shared) (H : Hp) (E : XK), Room k (A.deeper (envOfC qual (defScope st) s.heap.objs.size f cdv)) →
      ∃ t, QSs (cxOf (L2.CX P w) P w K mg base N qual (defScope st) f cdv A outer s H E) (wxOf E) (defBody st) t ∧ ∀ ds L k x, g ds L k x → t (endsD k x) (startD N ds) L) : FnOk P w K mg base (L2.CX P w) (k + 1) f (PySem.W.fnOf x qual (defArgs st) (defBody st) (defScope st) .none kV doc pm an cdv ct) ps (spD K g) := by
  refine fn_of lk hcd S (fun vs H Q E h => ?_) (fun A outer s H vs Q E hr h => ?_)
  · obtain ⟨ds, L, k, x, j, r, h, _⟩ := h
    rw [r.length]
    exact len ds L k x h
  · obtain ⟨ds, L, k, x, j, r, h, hk, hx⟩ := h
    obtain ⟨t, q, ht⟩ := body A outer s H E hr
    obtain ⟨ts, pts, sts⟩ := q.ex
    refine ⟨ts, pts, sts _ H (startD N ds) L (endsD k x) _ ⟨?_, j⟩ (ht ds L k x h) ?_⟩
    · unfold L2.start startD
      rw [r.length]
      exact Sto.start r
    · exact ⟨fun env' L' σ' H' q g' st' => hk .non L' .non H' q g' st'.2 .non, hk, fun n env' L' a H' σ' q g' st' r' => hx n L' a H' q g' st'.2 r', fun _ _ _ _ q => q.elim, fun _ _ _ _ q => q.elim⟩
end
end DL
namespace DL
open PySem L2
end DL
namespace L2H
theorem RoomH.units {k : Nat} {A : PySem.Around} (r : RoomH k A) : A.units + 64 < PySem.cLine := by have := r.un; omega
end L2H
namespace DL
open PySem L2
end DL
namespace DL
open PySem PySem.Spec PyProof.Rows L2
theorem kwb {K : PySem.W.Frag} {x qual : Str} {st : Stmt} {f : Addr} {fd : FuncData} {ps ks : List Str} {n : Nat} {gp : Perm3} (F : Fun K x qual st f fd)
    (h : ∀ (kV doc pm : Value) (an : Option Addr) (cdv ct : Value) (us ws : List Value), us.length = n → ws.length = ks.length → bindArgs (PySem.W.fnOf x qual (defArgs st) (defBody st) (defScope st) .none kV doc pm an cdv ct) ⟨us, ks.zip ws⟩ = pure (ps.zip (gp us ws []))) : KwB K fd ps n ks [] gp := by
  obtain ⟨oc, od, kV, doc, pm, an, cdv, ct, osl, rfl, lk, hcd⟩ := F.ex
  exact ⟨fun s us ws _ hu hw => .of_eq (h kV doc pm an cdv ct us ws hu hw)⟩
end DL
namespace DL
open PySem PySem.Spec PyProof.Rows L2
section
end
section
end
end DL
namespace DL
open PySem L2
/-- what a class must be known for, that its instances are asked for their class -/
structure InsC (K : PySem.W.Frag) (C : Addr) : Prop where
  cl : Cls K C
  ha : PySem.W.findIn K (.ref C) "__class__" = some (some (.builtin "object.__class__"))
  hn : PySem.W.specialIn K (.builtin "object.__class__") "__get__" = some (some (.builtin "getset_descriptor.__get__"))
  htk : PySem.W.takesIn K (.builtin "object.__class__") = some true
  hm : PySem.W.mroIn K C (.type "object") = some true
section
variable {X : Cx} {Wx : WX} {a b c e o : Expr} {es rest : List Expr} {da db dc de do' di : DE} {dt du : DT} {dl dk : DA} {pos : Pos}
def gIsC (K : PySem.W.Frag) (C : Addr) : G1 := fun a L k => match con L a with
  | .obj C' _ _ => ∃ b, (InsC K C' ∧ PySem.W.kitOne K (.ref C') (.ref C) = some b) ∧ k (.bl b)
  | c => match tyD c with
    | some t => ∃ b, PySem.W.kitOne K (.type t.nm) (.ref C) = some b ∧ k (.bl b)
    | none => False
def gcIsC (K : PySem.W.Frag) (C : Addr) : GC := fun ds L k => match ds with
  | [d, .ptr C'] => C' = C ∧ gIsC K C d L k
  | _ => False
theorem tyX_obj {L : Led} {K : PySem.W.Frag} {H : Hp} {v : V} {d : D} {C : Addr} {ns : List Str} {ds : List D} (j : JL K L H) (r : Rp L K H v d) (h : con L d = .obj C ns ds) (hI : InsC K C) : TyX K H v (.ref C) := by
  obtain ⟨a, dx, vs, rfl, e, _⟩ := con_obj j r h
  exact .base (.ins e hI.cl hI.ha hI.hn hI.htk hI.hm)
theorem cq_isC {K : PySem.W.Frag} (hK : X.K = K) {C : Addr} : CQ X (.builtin "isinstance") (gcIsC K C) := ⟨_, call_isi, fun H L vs ds k Q j r h hk => by
  subst hK
  unfold gcIsC at h
  split at h
  · rename_i d C'
    obtain ⟨rfl, h⟩ := h
    cases r with
    | cons r1 r2 => cases r2 with
      | cons r2 r3 =>
      cases r3
      cases r2
      unfold gIsC at h
      split at h
      · rename_i hc
        obtain ⟨b, ⟨hI, hb⟩, h⟩ := h
        exact ⟨_, _, _, _, _, rfl, .own _, tyX_obj j r1 hc hI, hb, hk _ _ H h (Same.refl H) (.bl _)⟩
      · split at h
        · rename_i t ht
          obtain ⟨b, hb, h⟩ := h
          exact ⟨_, _, _, _, _, rfl, .own _, tyX_con j r1 ht, hb, hk _ _ H h (Same.refl H) (.bl _)⟩
        · exact h.elim
  · exact h.elim⟩
theorem q_isC {K : PySem.W.Frag} {p p2 : Pos} {T : Str} {C : Addr} (hK : X.K = K) (ha : QE X Wx e da) (hmT : X.mg T = some (.ref C)) (hg : Gl X "isinstance") (hm : X.mg "isinstance" = none) (hgT : Gl X T)
    (hd : (T == ("__debug__" : Str)) = false := by decide) (hs : starEach (e :: [.Name T p2]) X.env = (false, eval e X.env) :: starEach [.Name T p2] X.env := by rfl) (hv0 : bootBuiltins "isinstance" = some (.builtin "isinstance") := by decide +kernel) :
    QE X Wx (.Call (.Name "isinstance" p) [e, .Name T p2] [] pos) (dUn (gIsC K C) da) := by
  refine (q_callB (g := gcIsC K C) (cq_isC hK) hg hm hv0 (a_cons ha (a_cons (q_glob (v := .ref C) (d := .ptr C) hgT hmT rfl (fun _ _ => .ptr _) hd) a_nil (by rfl)) hs) (by decide) (by decide) hs (by rfl)).w ?_
  intro env L k x h
  exact (show dCB (gcIsC K C) (dCons da (dCons (dC (.ptr C)) dNil)) env L k x from by
    unfold dCB dCons dC dNil
    unfold dUn at h
    refine cast ?_ h
    congr 1
    funext a L1
    show _ = (C = C ∧ _)
    simp)
end
end DL
namespace DH
open PySem PySem.Spec PyProof.Rows L2 DL
section
variable {fa : List He.Fa} {fn : List He.DefD} {K : Frag}
/-- a def without defaults -/
theorem defN (c : He.SaysD fa fn K) (i : Nat) {d : He.DefD} (h : fn[i]? = some d) (h0 : d.dfl = []) : ∃ oc od osl kV doc pm an cdv ct, K.lookup (He.fAd K d.at_) = some ⟨oc, od, .func (PySem.W.fnOf d.name d.qual d.params d.body d.scope .none kV doc pm an cdv ct), osl⟩ ∧ PySem.W.codeIn K cdv d.qual = true ∧ PySem.W.keepIn K (.ref (He.fAd K d.at_)) = true := by
  obtain ⟨fd, F⟩ := c.def_ i h
  obtain ⟨⟨oc, od, dV, kV, doc, pm, an, cdv, ct, osl, rfl, lk, hc, hd, hk⟩, kp⟩ := F
  have e : d.dvs K = [] := by unfold He.DefD.dvs; rw [h0]; rfl
  rw [e] at hd
  rcases hd with ⟨_, rfl⟩ | ⟨hne, _⟩
  · exact ⟨oc, od, osl, kV, doc, pm, an, cdv, ct, lk, hc, kp⟩
  · exact absurd rfl hne
end
/-- a tuple of flat values -/
def dvD : He.Dv → Option D
  | .non => some .non
  | .bl b => some (.bl b)
  | .int i => some (.int i)
  | .str x => some (.str x)
  | _ => none
def dvDs : List He.Dv → Option (List D)
  | [] => some []
  | v :: r => match dvD v, dvDs r with
    | some d, some ds => some (d :: ds)
    | _, _ => none
theorem dvD_rp {K : Frag} {v : He.Dv} {d : D} (h : dvD v = some d) : ∀ L H, Rp L K H (v.v K) d := by
  intro L H
  cases v with
  | non => cases h; exact .non
  | bl b => cases h; exact .bl b
  | int i => cases h; exact .int i
  | str x => cases h; exact .str x
  | _ => cases h
theorem dvDs_rp {K : Frag} : ∀ {vs : List He.Dv} {ds : List D}, dvDs vs = some ds → ∀ L H, RpAll L K H (vs.map (He.Dv.v K)) ds
  | [], _, h, _, _ => by cases h; exact .nil
  | v :: r, ds, h, L, H => by
    unfold dvDs at h
    split at h
    · rename_i d es h1 h2
      cases h
      exact .cons (dvD_rp h1 L H) (dvDs_rp h2 L H)
    · cases h
theorem tup_rp {K : Frag} {x : Str} {vs : List He.Dv} {ds : List D} (h : He.tupB K x vs = true) (hd : dvDs vs = some ds) : ∀ L H, Rp L K H (.ref (He.ga K x)) (.tup ds) := by
  intro L H
  have s := He.tupB_ok h (fun _ => none)
  rcases s with s | s
  · rcases s with s | ⟨o, s⟩ <;> cases s
  · exact .tup (.inr s) (dvDs_rp hd L H)
end DH
namespace DL
open PySem PySem.Spec PyProof.Rows L2
section
section
end
end
end DL
namespace DL
open PySem PySem.Spec PyProof.Rows L2
theorem mul_one (l : Addr) (items : Array Value) (n : Nat) (dd : Option Addr) (sl : Array (Option Value)) (u : Tok) :
    Meets (Builtin.«tuple.__mul__» ⟨[.ref l, .int 1 u], []⟩) (fun _ R s => s.heap.get? l = some { cls := .type "tuple", dict := dd, data := .seq items n, slots := sl } ∧ R (.ok (.ret (Value.ref l))) s) :=
  .of_wp fun prog w A R s h => by
    obtain ⟨hp, g, d, tk, os⟩ := s
    obtain ⟨hl, h⟩ := h
    have f1 := AutoSeq1.idx_int
    wp_walk using wpAny_loadPart' hl
    exact ⟨_, rfl, h⟩
theorem mul_zero (l : Addr) (items : Array Value) (n : Nat) (dd : Option Addr) (sl : Array (Option Value)) (u : Tok) (hn : items.isEmpty = false) :
    Meets (Builtin.«tuple.__mul__» ⟨[.ref l, .int 0 u], []⟩) (fun _ R s => s.heap.get? l = some { cls := .type "tuple", dict := dd, data := .seq items n, slots := sl } ∧
      R (.ok (.ret (Value.ref s.heap.objs.size))) { s with heap := s.heap.push { cls := Value.type "tuple", data := Data.seq #[] }, toks := s.toks }) :=
  .of_wp fun prog w A R s h => by
    obtain ⟨hp, g, d, tk, os⟩ := s
    obtain ⟨hl, h⟩ := h
    have f1 := AutoSeq1.idx_int
    wp_walk using wpAny_loadPart' hl
    exact ⟨_, rfl, h⟩
section
end
end DL
namespace DL
open PySem L2
section
variable {X : Cx} {Wx : WX} {a b c e o : Expr} {es : List Expr} {da db dc de do' di : DE} {dl : DA} {pos apos : Pos}
def enumD : Nat → List D → List D
  | _, [] => []
  | n, d :: r => .tup [.int n, d] :: enumD (n + 1) r
theorem enumD_get : ∀ (ds : List D) (n i : Nat) (d : D), (enumD n ds)[i]? = some d → ∃ y, ds[i]? = some y ∧ d = .tup [.int ((n + i : Nat) : Int), y]
  | [], n, i, d, h => by cases h
  | x :: r, n, 0, d, h => by cases h; exact ⟨x, rfl, rfl⟩
  | x :: r, n, i + 1, d, h => by
    obtain ⟨y, h1, h2⟩ := enumD_get r (n + 1) i d h
    exact ⟨y, h1, by rw [h2, show n + 1 + i = n + (i + 1) by omega]⟩
theorem enumD_len : ∀ (ds : List D) (n : Nat), (enumD n ds).length = ds.length
  | [], _ => rfl
  | _ :: r, n => by show (enumD (n + 1) r).length + 1 = _; rw [enumD_len r]; rfl
theorem it_enum {K : PySem.W.Frag} {L : Led} {H : Hp} {a : Addr} {vs : List V} {as : List D} (h : SqL' L K H a vs) (r : RpAll L K H vs as) : ItD K L H (Ite K a) (enumD 0 as) := fun L' H' g j i => by
  have e1 := (g.sqL h).sq
  refine ⟨fun d hd => ?_, fun hi => ⟨vs, e1, by rw [enumD_len] at hi; rw [r.length]; omega⟩⟩
  obtain ⟨x, q1, rfl⟩ := enumD_get as 0 i d hd
  obtain ⟨vx, hx, rx⟩ := (r.go g).get q1
  refine ⟨⟨vs, vx, e1, hx⟩, fun z H'' yl => ?_⟩
  obtain ⟨T, x', rfl, nT, rfl, f1⟩ := yl
  have k1 := f1 vs e1
  rw [hx] at k1
  cases k1
  have s := same_new nT (.tup [.int ((i : Nat) : Int), vx])
  refine ⟨s, .tup (.inl ⟨j.notIn nT, .inl upd_same⟩) (.cons ?_ (.cons (rx.go (Go.same s)) .nil))⟩
  rw [Nat.zero_add]
  exact .int _
def diEnum (dl : DA) : DI := fun env L k x => dl env L (fun ds L1 => match ds with
  | [.lst as] => k (enumD 0 as) L1
  | [.ro as] => k (enumD 0 as) L1
  | _ => False) x
theorem i_enum {p tpos : Pos} {elts : List Expr} {kk : Nat} (hg : Gl X "enumerate") (hm : X.mg "enumerate" = none) (ha : QA X Wx [e] dl) (hs : starEach [e] X.env = [(false, eval e X.env)] := by rfl) : QI X Wx (.Tuple elts kk tpos) (.Call (.Name "enumerate" p) [e] [] pos) (diEnum dl) := by
  obtain ⟨ta, pa, sa⟩ := ha.ex
  refine ⟨_, pi_enum hg hm pa hs, fun σ H env L k x R st h hk hx => ?_⟩
  refine sa σ H env L _ x _ st h (fun ds L1 vs H1 h1 g1 j1 r1 => ?_) hx
  split at h1
  · cases r1 with
    | cons r1 r2 =>
      cases r2
      cases r1 with
      | lst n1 s1 q1 => exact ⟨_, _, rfl, SqL.of s1, hk _ L1 _ H1 h1 g1 j1 (it_enum (.inl ⟨n1, .inl s1⟩) q1)⟩
  · cases r1 with
    | cons r1 r2 =>
      cases r2
      cases r1 with
      | ro s1 q1 => exact ⟨_, _, rfl, s1.sq, hk _ L1 _ H1 h1 g1 j1 (it_enum s1 q1)⟩
  · exact h1.elim
end
end DL
namespace DL
open PySem PySem.Spec PyProof.Rows L2
section
end
section
variable {X : Cx} {Wx : WX} {a b c e o : Expr} {es : List Expr} {da db dc de do' : DE} {dl dk : DA} {pos apos : Pos}
section
variable {CX : CXT} {k n : Nat} {C f : Addr} {x : Str} {p : Pos} {fd : FuncData} {ps ks : List Str} {sp : Sp} {dus : List Value} {dvs : List V} {g : Perm3} {t : TA}
theorem run_makeW {E : XK} {pins : List (Addr × Obj)} {σ : L2.St} {H : Hp} {s : Shared} {Q : VK} {us ws : List Value} {vs zs : List V} (M : Mk X.K C f) (F : FnOk X.prog X.w X.K X.mg X.base CX k f fd ps sp) (hr : Room (k + 1) X.A) (hb : KwB X.K fd ps (n + 1) ks dus g) (hp : PermOk @g) (hd : Vals dvs dus) (hx : PassesAt CX X σ E) (I : Inv X pins σ H s) (r : Vals vs us) (rz : Vals zs ws) (l1 : vs.length = n) (l2 : zs.length = ks.length)
    (h : ∀ x dx, H x = none → H dx = none → dx ≠ x → sp (g (.ref x :: vs) zs dvs) (upd (upd H dx (.own x)) x (.ins C dx [])) (fun v H2 => v = .non ∧ Q (.ref x) H2) E) : wpAny (model X.prog X.w) X.A (call (.ref C) us (ks.zip ws)) (EP X pins σ Q) X.xe s := by
  have q0 := h (s.heap.objs.size + 1) s.heap.objs.size (I.hok.fresh (Nat.le_succ _)) (I.hok.fresh (Nat.le_refl _)) (Nat.ne_of_lt (Nat.lt_succ_self _))
  have I2 := Inv.made (C := C) I
  have r1 : Vals (V.ref (s.heap.objs.size + 1) :: vs) (Value.ref (s.heap.objs.size + 1) :: us) := .cons rfl r
  have rr : Vals (g (V.ref (s.heap.objs.size + 1) :: vs) zs dvs) (g (Value.ref (s.heap.objs.size + 1) :: us) ws dus) := hp.map r1 rz hd
  have n1 : (Value.ref (s.heap.objs.size + 1) :: us).length = n + 1 := by rw [List.length_cons, ← r.length, l1]
  have run := F.run _ X.stack _ _ ⟨.ref (s.heap.objs.size + 1) :: us, ks.zip ws⟩ (g (Value.ref (s.heap.objs.size + 1) :: us) ws dus) _ _ E (hr.make C us (ks.zip ws)) (I2.env0.make C us (ks.zip ws)) (hb.to _ (.ref (s.heap.objs.size + 1) :: us) ws I2.kIn n1 (rz.length.symm.trans l2)) rr q0
  refine wpAny_call (make_map (f := f) I.kIn M.makes M.init (beq_iff_eq.mp M.fn) (codeAny_mono run fun w s' hw => ?_))
  cases w with
  | error er => exact hx pins _ _ er s' I2 hw
  | ok fl =>
  cases fl with
  | brk => exact hw.elim
  | cont => exact hw.elim
  | next => exact hw.elim
  | ret u =>
  obtain ⟨_, H3, I3, rv, ev, q3⟩ := I2.after hw
  subst ev
  exact ⟨rv, ⟨.ref (s.heap.objs.size + 1), H3, I3, rfl, q3⟩⟩
def tMakeW (C : Addr) (n m : Nat) (sp : Sp) (gV : List V → List V → List V) (E : L2.St → XK) (t tk : TA) : TE := fun σ H Q => t σ H fun vs H1 => tk σ H1 fun zs H2 => vs.length = n ∧ zs.length = m ∧ ∀ x dx, H2 x = none → H2 dx = none → dx ≠ x →
  sp (gV (.ref x :: vs) zs) (upd (upd H2 dx (.own x)) x (.ins C dx [])) (fun v H3 => v = .non ∧ Q (.ref x) H3) (E σ)
theorem pe_make00 {E : L2.St → XK} (M : Mk X.K C f) (F : FnOk X.prog X.w X.K X.mg X.base CX k f fd ps sp) (hr : Room (k + 1) X.A) (hg : Gl X x) (hm : X.mg x = some (.ref C)) (hb : KwB X.K fd ps 1 [] dus g) (hp : PermOk @g) (hd : Vals dvs dus) (hx : ∀ σ, PassesAt CX X σ (E σ))
    (hdb : (x == ("__debug__" : Str)) = false := by decide) :
    PE X (.Call (.Name x p) [] [] pos) (tMakeW C 0 0 sp (fun vs zs => g vs zs dvs) E tNil tNil) := by
  refine ⟨fun pins s σ H Q I h => ?_⟩
  obtain ⟨_, _, q⟩ := h
  exact wpAny_Call_Name_kw (ld_glob I hg hm (PySem.W.callWith_K0 I.kIn M.kp (run_makeW (ks := []) (us := []) (ws := []) (vs := []) (zs := []) M F hr hb hp hd (hx σ) I .nil .nil rfl rfl q)) hdb)
end
/-- a class by name, called by keywords alone (or with nothing) -/
structure KCalW (P : Program) (w : World) (K : PySem.W.Frag) (mg : Str → Option Value) (base : Heap) (n : Nat) (x : Str) (C : Addr) (ks : List Str) (dd : List D) (gp : Perm3) (g : DSp) : Prop where
  ex : ∃ f fd ps us dvs, FnOk P w K mg base (L2.CX P w) n f fd ps (spD K g) ∧ Mk K C f ∧ mg x = some (.ref C) ∧ KwB K fd ps 1 ks us gp ∧ PermOk @gp ∧ Vals dvs us ∧ ∀ L H, RpAll L K H dvs dd
def dMakeW (C : Addr) (m : Nat) (g : DSp) (gp : Perm3) (dd : List D) (dk : DA) : DE := fun env L k x => dk env L (fun es L1 => es.length = m ∧ ∀ q, ¬ inL L1 q → g (gp [.ptr q] es dd) ((q, .obj C [] []) :: L1) (fun v L2 => v = .non ∧ k (.ptr q) L2) fun n L' => x n env L') x
theorem sim_makeW {K : PySem.W.Frag} {C : Addr} {m : Nat} {g : DSp} {gp : Perm3} {dvs : List V} {dd : List D} {tk : TA} (hp : PermOk @gp) (hdd : ∀ L H, RpAll L K H dvs dd) (sk : SimA K Wx tk dk) : SimE K Wx (tMakeW C 0 m (spD K g) (fun vs zs => gp vs zs dvs) (WE Wx) tNil tk) (dMakeW C m g gp dd dk) := by
  intro σ H env L k x Q st h hk hx
  refine sk σ H env L _ x _ st h (fun es L1 zs H1 h1 g1 j1 r1 => ?_) hx
  obtain ⟨l2, h1⟩ := h1
  refine ⟨rfl, by rw [r1.length]; exact l2, fun q dx hq hdx hne => ?_⟩
  obtain ⟨nq, j2, g2⟩ := made_jl (C := C) j1 hq hdx hne
  have rr : RpAll ((q, .obj C [] []) :: L1) K (upd (upd H1 dx (.own q)) q (.ins C dx [])) (gp [.ref q] zs dvs) (gp [.ptr q] es dd) := paired_rp (hp.map (rp_paired (.cons (.ptr q) .nil)) (rp_paired (r1.go g2)) (rp_paired (hdd _ _)))
  exact ⟨_, _, _, _, j2, rr, h1 q nq, fun d L' v H' ⟨ed, hkq⟩ g' j' r' => by subst ed; cases r'; exact ⟨rfl, hk _ L' _ H' hkq ((g1.trans g2).trans g') j' (.ptr q)⟩, fun n L' a H' hxq g' j' r => hx n env L' a H' σ hxq ((g1.trans g2).trans g') (st.go ((g1.trans g2).trans g') j') r⟩
theorem q_make00 {x : Str} {p : Pos} {n k : Nat} {C : Addr} {g : DSp} {gp : Perm3} {dd : List D} (F : KCalW X.prog X.w X.K X.mg X.base n x C [] dd gp g) (hn : n + 1 ≤ k) (hr : Room k X.A) (tk : Takes X Wx) (hg : Gl X x) (hdb : (x == ("__debug__" : Str)) = false := by decide) : QE X Wx (.Call (.Name x p) [] [] pos) (dMakeW C 0 g gp dd dNil) := by
  obtain ⟨f, fd, ps, us, dvs, F, hM, hm, hb, hp, hd, hdd⟩ := F.ex
  exact ⟨_, pe_make00 hM F (hr.mono hn) hg hm hb hp hd (fun σ => passAt tk σ) hdb, sim_makeW hp hdd (fun σ H env L k x Q st h hk hx => hk [] L [] H h (Go.refl L H) st.2 .nil)⟩
end
end DL
namespace PySem
namespace GEX
open Builtin Builtin.ObjectAttr PySem.Spec PyProof.Rows PySem.HandSPX
section
end
end GEX
end PySem
namespace DL
open PySem PySem.Spec PyProof.Rows L2
/-- a built-in error class: its order of classes, its __new__ -/
structure BaseF (t : List Value) (newId : String) : Prop where
  ex : ∃ B initId, ExcBaseFacts B newId initId t
  ob : t.contains (.type "object") = true
  go : ∀ self : Value, refuseLoop self "__setattr__" t = pure ()
section
end
end DL
namespace PySem
namespace GEX
open Builtin Builtin.ObjectAttr PySem.Spec PyProof.Rows PySem.HandSPX
section
end
section
end
end GEX
end PySem
namespace PySem.GEX
open PySem PySem.Spec PySem.Calls PyProof.Rows PySem.W
section
end
end PySem.GEX
namespace DL
open PySem PySem.Spec PyProof.Rows L2
section
end
end DL
namespace DL
open PySem PySem.Spec PyProof.Rows L2
section
end
end DL
namespace DL
open PySem PySem.Spec PyProof.Rows L2
section
end
section
end
end DL
namespace DL
open PySem PySem.Spec PyProof.Rows L2
section
end
structure EC (K : PySem.W.Frag) (C : Addr) (rs : List Addr) (t : List Value) (fs : List Str) : Prop where
  cls : ∃ nm q N bs sn sub ab col dd k0 k1 k2 k3 k5 newId, K.lookup C = some (excClassObj nm q C N bs (rs.map Value.ref ++ t) true sn sub ab col dd k0 k1 k2 k3 k5 newId) ∧ BaseF t newId
  sa : PySem.W.findIn K (.ref C) "__setattr__" = some (some (.builtin "object.__setattr__"))
  exC : PySem.W.subIn K (.ref C) (.type "BaseException") = some true
  tyC : PySem.W.typeIn K (.ref C) = some (.type "type")
  kC : PySem.W.keepIn K (.ref C) = true
  ga : PySem.W.findIn K (.ref C) "__getattribute__" = some (some (.builtin "BaseException.__getattribute__"))
  gg : PySem.W.findIn K (.ref C) "__getattr__" = some none
  hd : PySem.W.hasDictIn K C = true
  ca : PySem.W.findIn K (.ref C) "__class__" = some (some (.builtin "object.__class__"))
  no : ∀ f ∈ fs, PySem.W.findIn K (.ref C) f = some none
section
variable {K : PySem.W.Frag} {C : Addr} {rs : List Addr} {t : List Value} {fs : List Str}
theorem EC.clsIn (e : EC K C rs t fs) : ∃ cd, PySem.W.clsIn K C = some cd ∧ cd.mro = .ref C :: (rs.map Value.ref ++ t) := by
  obtain ⟨nm, q, N, bs, sn, sub, ab, col, dd, k0, k1, k2, k3, k5, ni, h, b⟩ := e.cls
  refine ⟨{ name := nm, bases := bs, mro := .ref C :: (rs.map Value.ref ++ t), ns := N, qualname := q, hasDict := true, slotNames := sn, subclasses := sub, abstract := ab, collection := col, hasDel := false }, ?_, rfl⟩
  unfold PySem.W.clsIn
  rw [h] <;> rfl
theorem EC.sub (e : EC K C rs t fs) (b : Value) : PySem.W.subIn K (.ref C) b = some ((Value.ref C :: (rs.map Value.ref ++ t)).contains b) := by
  obtain ⟨cd, h, m⟩ := e.clsIn
  show PySem.W.mroIn K C b = _
  unfold PySem.W.mroIn
  rw [h, Option.bind_some, m]
  rfl
end
section
end
end DL
namespace DL
open PySem PySem.Spec PyProof.Rows L2
section
end
section
section
end
end
end DL
namespace DL
open PySem PySem.Spec PyProof.Rows L2
section
end
end DL
namespace DL
open PySem PySem.Spec PyProof.Rows L2
set_option maxHeartbeats 4000000 in
theorem meets_enumT {v : Value} {o : Obj} {H : Heap → Prop} (B : Begins v o H) :
    Meets (Builtin.«enumerate.__new__» ⟨[.type "enumerate", v], []⟩) (fun _ R s => H s.heap ∧
      R (.ok (.ret (.ref (s.heap.push o).objs.size))) { s with heap := (s.heap.push o).push { cls := .type "enumerate", data := .fields #[.none, .bool false, .ref s.heap.objs.size, rawInt 0, .none, .none] } }) :=
  .of_wp fun prog w A R s h => by
    obtain ⟨hp, g, d, tk, os⟩ := s; obtain ⟨h1, h⟩ := h
    have hsub := sub_enumerate
    have q1 : ∀ {A' : Around} {E : Value → Shared → Prop} {Q : Value → Shared → Prop}, Q (.ref hp.objs.size) ⟨hp.push o, g, d, tk, os⟩ → wpAny (model prog w) A' (pyIter v) Q E ⟨hp, g, d, tk, os⟩ :=
      fun q => B.iter prog w _ _ ⟨hp, g, d, tk, os⟩ _ h1 q
    wp_walk using q1
    refine wpAny_stack_any fun st => wpAny_pure ?_
    split
    · rename_i c _ _ _ _ _
      cases (c == Value.type "enumerate")
      · wp_walk using q1
        exact ⟨_, rfl, h⟩
      · wp_walk using q1
        exact ⟨_, rfl, h⟩
    · wp_walk using q1
      exact ⟨_, rfl, h⟩
theorem call_enumT {prog : Program} {w : World} {A : Around} {E : Value → Shared → Prop} {s : Shared} {v : Value} {o : Obj} {H : Heap → Prop} {Q : Value → Shared → Prop} (B : Begins v o H) (h1 : H s.heap)
    (h : ∀ h', IsEnum h' (s.heap.objs.size + 1) s.heap.objs.size 0 .none → h'.get? s.heap.objs.size = some o → h'.objs.size = s.heap.objs.size + 2 →
      (∀ b o, s.heap.get? b = some o → h'.get? b = some o) → Q (.ref (s.heap.objs.size + 1)) { s with heap := h' }) :
    wpAny (model prog w) A (call (.type "enumerate") [v]) Q E s := by
  refine callType_new F.called_enumerate (by decide) (F.typeCall_enumerate_1 _) (F.newCall_enumerate_1 _) (fun obj => F.args_object_init_2 obj _) F.entry_enumerate_new
    (meets_enumT B) ⟨h1, ?_⟩
  have hz : (s.heap.push o).objs.size = s.heap.objs.size + 1 := Heap.size_push ..
  show _ ∧ _
  rw [hz]
  have he : IsEnum ((s.heap.push o).push { cls := .type "enumerate", data := .fields #[.none, .bool false, .ref s.heap.objs.size, rawInt 0, .none, .none] }) (s.heap.objs.size + 1) s.heap.objs.size 0 .none := by
    have := Heap.get?_push_size (s.heap.push o) (o := { cls := .type "enumerate", data := .fields #[.none, .bool false, .ref s.heap.objs.size, rawInt 0, .none, .none] }) rfl
    rw [hz] at this; exact this
  refine ⟨⟨_, he, rfl⟩, h _ he (Heap.get?_push_of_some _ (Heap.get?_push_size _ B.free)) (by rw [Heap.size_push, hz]) fun b o x => Heap.get?_push_of_some _ (Heap.get?_push_of_some _ x)⟩
def IteT (K : PySem.W.Frag) (a : Addr) : L2.It :=
  ⟨fun i H => ∃ (xs : List V) (x : V), SqT K H a xs ∧ xs[i]? = some x, fun i H v H' => ∃ T x, v = .ref T ∧ H T = none ∧ H' = upd H T (.tup [.int (i : Nat), x]) ∧ ∀ xs, SqT K H a xs → xs[i]? = some x, fun i H => ∃ xs : List V, SqT K H a xs ∧ xs.length ≤ i⟩
theorem turn_enumT {P : Program} {w : World} {K : PySem.W.Frag} {elts : List Expr} {kk : Nat} {tpos : Pos} (a e it : Addr) :
    Turn P w K (.Tuple elts kk tpos) (IteT K a) [e, it] e (fun i h => (∃ old, IsEnum h e it ((i : Nat) : Int) old) ∧ h.IsTupleIter it a i ∧ e ≠ it ∧ a ≠ it ∧ a ≠ e) where
  mem := by simp
  obj := fun i h st b hb => by
    obtain ⟨⟨old, he⟩, ⟨o, ho, hc, hd⟩, _⟩ := st
    have e' : b = e ∨ b = it := by simpa using hb
    rcases e' with z | z
    · rw [z]; exact ⟨_, he, fun v q => nomatch q⟩
    · rw [z]; exact ⟨o, ho, fun v q => by rw [hd] at q; cases q⟩
  keep := fun i h h' st k => let ⟨⟨old, he⟩, hi, hne⟩ := st; ⟨⟨old, k e (by simp) _ he⟩, hi.at fun o q => k it (by simp) o q, hne⟩
  item := by
    intro X hP hw hK hc i pins s σ H E I hf st hg
    subst hP hw hK
    obtain ⟨⟨old, he⟩, hit, hne, hai, hae⟩ := st
    obtain ⟨xs, x, hq, hx⟩ := hg
    obtain ⟨its, rv, p, hz⟩ := I.tuple hq
    obtain ⟨u, hu, ru⟩ := rv.get hx
    have hel : e < s.heap.objs.size := Heap.lt_size he
    have hil : it < s.heap.objs.size := by obtain ⟨_, q, _⟩ := hit; exact Heap.lt_size q
    have hlt : i < its.toArray.size := by
      have := (List.getElem?_eq_some_iff.mp hu).1
      simpa using this
    refine wpAny_pyNext_enum_itemD (Draws.tuple (A := X.A.in1) (show X.A.in1.handled = none from I.ok.hd hc) it a hai its.toArray) he ⟨hit, p⟩ hlt hne (by simp; exact ⟨hne, fun q => hae q.symm⟩) fun y h' tk hy ho hst hT hsz hk => ?_
    have hyu : y = u := by
      have : its[i]? = some y := by simpa using hy
      rw [hu] at this
      exact (Option.some.inj this).symm
    subst hyu
    have hit' := hst.1
    refine ⟨_, rfl, wpAny_letOwnedTupleGo_enum (s := { s with heap := h', toks := tk + 1 }) ho fun h'' he' sb => ?_⟩
    have hT2 : h''.get? s.heap.objs.size = some { cls := .type "tuple", data := .seq #[.int i tk, y] } := (sb.2 _ (Nat.ne_of_gt hel)).trans hT
    have new : ObjOk X.prog X.w (upd H s.heap.objs.size (.tup [.int (i : Nat), x])) h'' s.heap.objs.size (.tup [.int (i : Nat), x]) :=
      ⟨by show 2 ≤ sizeLine; decide, [.int i tk, y], .cons ⟨_, rfl⟩ (.cons ru .nil), ⟨_, hT2, rfl, _, rfl⟩⟩
    have I1 : Inv X pins σ (upd H s.heap.objs.size (.tup [.int (i : Nat), x])) { s with heap := h'', toks := tk + 1 } :=
      I.turnedNew (ch := [e, it]) (fun b ob hb q => (sb.2 b (fun z => hb (by simp [z]))).trans (hk b ob (fun z => hb (by simp [z])) (fun z => hb (by simp [z])) q)) hf (Nat.le_refl _) new
    refine ⟨.ref s.heap.objs.size, _, I1, rfl, ⟨_, x, rfl, I.hok.fresh (Nat.le_refl _), rfl, fun ys hy => by rw [I.tuple_inj hy hq]; exact hx⟩, ⟨⟨y, ?_⟩, hit'.at fun o q => (sb.2 it (Ne.symm hne)).trans q, hne, hai, hae⟩, fun b hb => ?_⟩
    · have e1 : ((i + 1 : Nat) : Int) = (i : Int) + 1 := by omega
      rw [e1]; exact he'
    · have hb' : b < s.heap.objs.size := by
        have e' : b = e ∨ b = it := by simpa using hb
        rcases e' with z | z
        · rw [z]; exact hel
        · rw [z]; exact hil
      rw [upd_ne (Nat.ne_of_lt hb')]
      exact (hf b hb).1
  done := by
    intro X hP hw hK hc i pins s σ H E I hf st hg
    subst hP hw hK
    obtain ⟨⟨old, he⟩, hit, hne, hai, hae⟩ := st
    obtain ⟨xs, hq, hx⟩ := hg
    obtain ⟨its, rv, p, hz⟩ := I.tuple hq
    obtain ⟨f0, f1, f2, f3, f4, f5⟩ := hf it (by simp)
    have hl := rv.length
    have hno : its.toArray[i]? = none := by simp; omega
    have D : Draws X.prog X.w X.A.in1 it [it, a] i (fun _ _ => True) (fun j h => h.IsTupleIter it a j ∧ h.IsTuple a its.toArray ∧ i ≤ j) :=
      { live := fun _ _ st => let ⟨o, ho, _⟩ := st.1; ⟨o, ho⟩
        frame := fun _ _ _ st hk => ⟨st.1.at fun o e => hk it (by simp) o e, st.2.1.at fun o e => hk a (by simp) o e, st.2.2⟩
        item := fun j s Q E hi st hQ => absurd hi (Nat.not_lt_of_le st.2.2)
        done := fun s Q E st hE => wpAny_nextOf_tuple_end (show X.A.in1.handled = none from I.ok.hd hc) st.1 st.2.1 hno hE }
    exact wpAny_pyNext_enum_endD D he ⟨hit, p, Nat.le_refl _⟩ fun h' eb => ⟨rfl, I.turned (t' := s.toks) (fun b o hb q => eb b o hb q) f0 f1 f3 f4 f5⟩
  self := fun A i s Q E st h => let ⟨⟨_, he⟩, _⟩ := st; wpAny_pyIter_enum he h
def iEnumT (K : PySem.W.Frag) (ta : TA) : TI := fun σ H R => ta σ H fun vs H1 => ∃ a xs, vs = [.ref a] ∧ SqT K H1 a xs ∧ R (IteT K a) H1
theorem pi_enumT {X : Cx} {e : Expr} {ta : TA} {p pos tpos : Pos} {elts : List Expr} {kk : Nat} (hg : Gl X "enumerate") (hm : X.mg "enumerate" = none) (ha : PA X [e] ta) (hs : starEach [e] X.env = [(false, eval e X.env)] := by rfl) :
    PI X (.Tuple elts kk tpos) (.Call (.Name "enumerate" p) [e] [] pos) (iEnumT X.K ta) := by
  refine ⟨fun pins s σ H R I h => ?_⟩
  refine Call_ (ld_blt I hg hm boot_enumerate (PyProof.Rows.callWith_type1 (thn (ha.run pos pins s σ H _ I h) fun us s1 ⟨vs, H1, I1, r1, q1⟩ => ?_) hs rfl))
  obtain ⟨a, xs, ex, hq, q⟩ := q1
  subst ex
  cases r1 with
  | cons r rr =>
    cases rr
    cases r
    obtain ⟨its, rv, p', hz⟩ := I1.tuple hq
    have hal : a < s1.heap.objs.size := by obtain ⟨_, q, _⟩ := p'; exact Heap.lt_size q
    refine call_enumT (begins_tuple a its.toArray) p' fun h' he hit hsz hk => wpAny_pyIter_enum he ?_
    have I2 : Inv X pins σ H1 { s1 with heap := h' } := I1.kept (t' := s1.toks) hk
    refine ⟨s1.heap.objs.size + 1, [s1.heap.objs.size + 1, s1.heap.objs.size], _, _, H1, rfl, I2, turn_enumT a (s1.heap.objs.size + 1) s1.heap.objs.size, ⟨⟨.none, he⟩, ⟨_, hit, rfl, rfl⟩, Nat.succ_ne_self _, Nat.ne_of_lt hal, Nat.ne_of_lt (Nat.lt_succ_of_lt hal)⟩, fun b hb => ?_, q⟩
    have e' : b = s1.heap.objs.size + 1 ∨ b = s1.heap.objs.size := by simpa using hb
    have hle : s1.heap.objs.size ≤ b := by
      rcases e' with z | z
      · rw [z]; exact Nat.le_add_right _ _
      · rw [z]; exact Nat.le_refl _
    exact I1.fpOk hle (I1.hok.fresh hle)
theorem it_enumT {K : PySem.W.Frag} {L : Led} {H : Hp} {a : Addr} {vs : List V} {as : List D} (h : SqT' L K H a vs) (r : RpAll L K H vs as) : ItD K L H (IteT K a) (enumD 0 as) := fun L' H' g j i => by
  have e1 := (g.sqT h).sq
  refine ⟨fun d hd => ?_, fun hi => ⟨vs, e1, by rw [enumD_len] at hi; rw [r.length]; omega⟩⟩
  obtain ⟨x, q1, rfl⟩ := enumD_get as 0 i d hd
  obtain ⟨vx, hx, rx⟩ := (r.go g).get q1
  refine ⟨⟨vs, vx, e1, hx⟩, fun z H'' yl => ?_⟩
  obtain ⟨T, x', rfl, nT, rfl, f1⟩ := yl
  have k1 := f1 vs e1
  rw [hx] at k1
  cases k1
  have s := same_new nT (.tup [.int ((i : Nat) : Int), vx])
  refine ⟨s, .tup (.inl ⟨j.notIn nT, .inl upd_same⟩) (.cons ?_ (.cons (rx.go (Go.same s)) .nil))⟩
  rw [Nat.zero_add]
  exact .int _
section
variable {X : Cx} {Wx : WX} {e : Expr} {es : List Expr} {de do' df : DE} {dl : DA} {pos : Pos} {ta : TA} {p : Pos}
def diEnumT (dl : DA) : DI := fun env L k x => dl env L (fun ds L1 => match ds with
  | [.tup as] => k (enumD 0 as) L1
  | _ => False) x
theorem i_enumT {p tpos : Pos} {elts : List Expr} {kk : Nat} (hg : Gl X "enumerate") (hm : X.mg "enumerate" = none) (ha : QA X Wx [e] dl) (hs : starEach [e] X.env = [(false, eval e X.env)] := by rfl) : QI X Wx (.Tuple elts kk tpos) (.Call (.Name "enumerate" p) [e] [] pos) (diEnumT dl) := by
  obtain ⟨ta, pa, sa⟩ := ha.ex
  refine ⟨_, pi_enumT hg hm pa hs, fun σ H env L k x R st h hk hx => ?_⟩
  refine sa σ H env L _ x _ st h (fun ds L1 vs H1 h1 g1 j1 r1 => ?_) hx
  split at h1
  · cases r1 with
    | cons r1 r2 =>
      cases r2
      cases r1 with
      | tup s1 q1 => exact ⟨_, _, rfl, s1.sq, hk _ L1 _ H1 h1 g1 j1 (it_enumT s1 q1)⟩
  · exact h1.elim
end
end DL
namespace DH
open PySem PySem.Spec PyProof.Rows L2 DL
def fnWa (K : Frag) (a : Addr) : He.FnW := match K.lookup a with
  | some ⟨_, _, .func fd, _⟩ => some (fd.name, fd.qualname, fd.params, fd.body, fd.scope, fd.globals, fd.closure, fd.builtins)
  | _ => none
def fnPl (K : Frag) (a : Addr) (q : Str) : Bool := match K.lookup a with
  | some ⟨_, _, .func fd, _⟩ => PySem.W.codeIn K fd.code q && decide (fd.defaults = .none)
  | _ => false
theorem fnWa_ok {K : Frag} {a : Addr} {name qual : Str} {params : Arguments} {body : List Stmt} {scope : Scope} (e : fnWa K a = some (name, qual, params, .stmts body, scope, mainGlobals, [], builtinsNs)) (c : fnPl K a qual = true) :
    ∃ oc od osl kV doc pm an cdv ct, K.lookup a = some ⟨oc, od, .func (PySem.W.fnOf name qual params body scope .none kV doc pm an cdv ct), osl⟩ ∧ PySem.W.codeIn K cdv qual = true := by
  unfold fnWa at e
  unfold fnPl at c
  cases q : K.lookup a with
  | none => rw [q] at c; cases c
  | some o =>
    obtain ⟨oc, od, dt, osl⟩ := o
    rw [q] at c e
    cases dt with
    | func fd =>
      obtain ⟨n1, n2, n3, n4, n5, n6, n7, n8, n9, n10, n11, n12, n13, n14, n15⟩ := fd
      have e2 : (some (n1, n2, n3, n4, n5, n6, n7, n15) : He.FnW) = some (name, qual, params, .stmts body, scope, mainGlobals, [], builtinsNs) := e
      simp only [Option.some.injEq, Prod.mk.injEq] at e2
      obtain ⟨h1, h2, h3, h4, h5, h6, h7, h8⟩ := e2
      subst h1 h2 h3 h4 h5 h6 h7 h8
      obtain ⟨k1, k2⟩ := He.ba c
      have k2 := of_decide_eq_true k2
      subst k2
      exact ⟨oc, od, osl, n9, n10, n11, n12, n13, n14, rfl, k1⟩
    | _ => cases c
def proG (K : Frag) (p : Addr) : Addr := match PySem.W.recIn K p "property" with
  | some (.ref g :: _) => g
  | _ => 0
def proB (K : Frag) (C : Addr) (f : Str) : Bool := decide (PySem.W.findIn K (.ref C) f = some (some (.ref (He.ma K C f)))) && (decide (PySem.W.specialIn K (.ref (He.ma K C f)) "__get__" = some (some (.builtin "property.__get__"))) && (decide (PySem.W.takesIn K (.ref (He.ma K C f)) = some true) && (match PySem.W.recIn K (He.ma K C f) "property" with
  | some (.ref _ :: _) => true
  | _ => false)))
theorem proB_ok {K : Frag} {C : Addr} {f : Str} (h : proB K C f = true) : PropOf K C f (He.ma K C f) (proG K (He.ma K C f)) := by
  obtain ⟨h1, h⟩ := He.ba h
  obtain ⟨h2, h⟩ := He.ba h
  obtain ⟨h3, h⟩ := He.ba h
  refine ⟨of_decide_eq_true h1, of_decide_eq_true h2, of_decide_eq_true h3, ?_⟩
  unfold proG
  cases e : PySem.W.recIn K (He.ma K C f) "property" with
  | none => rw [e] at h; cases h
  | some l =>
    rw [e] at h
    cases l with
    | nil => cases h
    | cons v r =>
      cases v with
      | ref g => exact ⟨r, rfl⟩
      | _ => cases h
theorem law1 {l : PySem.W.OpenLaw} {w : World} {K : Frag} {CX : CXT} {k n : Nat} {x : Str} {mg : Str → Option Value} {fa c Pt : Addr} {h : Heap} {lawS : Addr → DSp} {q : Str}
    (h1 : PySem.W.CodeHd h c Pt) (h2 : h.get? Pt = some { cls := .none, data := .fields #[] }) (hn : K.lookup Pt = none)
    (A : ∃ fd : FuncData, (∀ (s : Shared) (v : Value), BindsTo s fd ⟨[v], []⟩ [(x, v)]) ∧ ∀ base : Heap, K.In base → base.Ns mainGlobals mg → LamX.TabB base mg c Pt → FnOk l.prog w K mg base CX k fa fd [x] (spD K (lawS Pt)))
    (hL : ∀ (ns : List Int), ns.length ≤ n → lawS Pt [.ro (ns.map .int)] [(Pt, .tab q)] (fun d _ => d = .bl true) fun _ _ => False) : LamX.LawAtS l w K CX k n x mg fa h := by
  obtain ⟨fd, hb, hF⟩ := A
  refine ⟨fd, [(c, Pt)], spD K (lawS Pt), fun p hp => ?_, fun p hp => ?_, fun p hp => ?_, hb, fun H a ns hlen _ hT hS => ?_, fun base b1 b2 b3 => hF base b1 b2 (b3 (c, Pt) (by simp))⟩
  · have e : p = (c, Pt) := by simpa using hp
    subst e; exact h2
  · have e : p = (c, Pt) := by simpa using hp
    subst e; exact hn
  · have e : p = (c, Pt) := by simpa using hp
    subst e; exact h1
  · have hP : H Pt = some (.tbl #[]) := hT (c, Pt) (by simp)
    have nP : ∀ b : Addr, inL [(Pt, D.tab q)] b → b = Pt := fun b hb => by simpa [inL] using hb
    refine ⟨[.ro (ns.map .int)], [(Pt, .tab q)], fun d _ => d = .bl true, fun _ _ => False, ⟨by simp, fun a d m => ?_⟩, .cons (.ro ?_ (RpAll.ints ns)) .nil, hL ns hlen, fun d L' v H' hd _ _ r => ?_, fun n L' a H' h => h.elim⟩
    · have e : (a, d) = (Pt, .tab q) := by simpa using m
      cases e
      exact ⟨#[], hP, True.intro, fun pos cv hc => by
        have z : codeAmong pos [] = some cv := hc
        simp [codeAmong] at z⟩
    · rcases hS with hs | hs
      · refine .inl ⟨fun hi => ?_, hs⟩
        have e := nP a hi
        subst e
        rcases hs with hs | ⟨o, hs⟩
        · rw [hP] at hs; cases hs
        · rw [hP] at hs; cases hs
      · exact .inr hs
    · subst hd
      cases r
      rfl
end DH
namespace DH
open PySem PySem.Spec PyProof.Rows L2 DL
def hookM (as : List Addr) (fn : List He.DefD) (ts : List He.Tab) (tf : List He.Defn) (ex : Frag → Bool) (ga : List (Frag → Addr)) (gv : List He.FnW) : PySem.W.Hook where
  α := He.AlX × List He.FnW
  obs := fun s => (obsL as fn ts tf ex s.heap.get?, ga.map fun a => fnWa (He.frT s.heap.get? as) (a (He.frT s.heap.get? as)))
  val := fun w => (He.valX fn ts w, gv)
  says := fun w h => ∃ K : Frag, K.In h ∧ He.SaysX [] fn ts tf ex w h K ∧ (ga.map fun a => fnWa K (a K)) = gv
  of := fun _ _ e => ⟨_, He.frT_in, saysL (congrArg (fun z : He.AlX × List He.FnW => z.1) e), congrArg (fun z : He.AlX × List He.FnW => z.2) e⟩
  keeps := fun _ _ _ ⟨K, hK, c, e⟩ k => ⟨K, PySem.W.Frag.In.keeps hK k, ⟨c.t, c.more, c.hd, c.out, fun p hp => k _ _ (c.empty p hp)⟩, e⟩
def obsM (as : List Addr) (fn : List He.DefD) (ts : List He.Tab) (tf : List He.Defn) (ex : Frag → Bool) (ga : List (Frag → Addr)) (g : Addr → Option Obj) : He.AlX × List He.FnW := (obsL as fn ts tf ex g, ga.map fun a => fnWa (He.frT g as) (a (He.frT g as)))
theorem obsM_eq {as : List Addr} {fn : List He.DefD} {ts : List He.Tab} {tf : List He.Defn} {ex : Frag → Bool} {ga : List (Frag → Addr)} {gv : List He.FnW} {g : Addr → Option Obj} {s : Shared} (h : ∀ a, g a = s.heap.get? a) : obsM as fn ts tf ex ga g = (hookM as fn ts tf ex ga gv).obs s := by
  have e : g = s.heap.get? := funext h
  rw [e] <;> rfl
theorem eg_at {K : Frag} {ga : List (Frag → Addr)} {gv : List He.FnW} (e : (ga.map fun a => fnWa K (a K)) = gv) (i : Nat) {a : Frag → Addr} {v : He.FnW} (h1 : ga[i]? = some a) (h2 : gv[i]? = some v) : fnWa K (a K) = v := by
  have q := congrArg (fun l => l[i]?) e
  simp only [List.getElem?_map, h1, h2, Option.map_some] at q
  exact Option.some.inj q
end DH
namespace DL
open PySem PySem.Spec PyProof.Rows L2
section
variable {X : Cx} {Wx : WX} {a b c e o f : Expr} {da db dc de do' df : DE} {dt : DT} {pos : Pos}
theorem nox_cx {P : Program} {w : World} {Y : Cx} : Passes (L2.CX P w) Y (fun _ _ _ => False) := fun _ _ _ _ _ _ _ z => by
  obtain ⟨_, _, _, _, _, _, _, _, _, _, _, _, z⟩ := z
  exact z.elim
theorem run_in1 {CX : CXT} {k : Nat} {f : Addr} {fd : FuncData} {ps : List Str} {sp : Sp} {E : XK} {E' : Value → Shared → Prop} {pins : List (Addr × Obj)} {σ : L2.St} {H : Hp} {s : Shared} {Q : VK} {us : List Value} {vs : List V}
    (F : FnOk X.prog X.w X.K X.mg X.base CX k f fd ps sp) (hr : Room (k + 1) X.A) (hb : Binds X.K fd ps []) (hx : Passes CX X.nox E) (I : Inv X pins σ H s) (r : Vals vs us) (h : sp vs H Q E) :
    wpAny (model X.prog X.w) X.A.in1 (call (.ref f) us) (EP X pins σ Q) E' s := by
  have hl : us.length = ps.length := by rw [← r.length]; exact F.len _ _ _ _ h
  have b := hb s us I.kIn (by rw [List.append_nil]; exact hl)
  rw [List.append_nil] at b
  refine wpAny_call (codeAny_mono (F.run X.A.in1 X.stack s H ⟨us, []⟩ us vs Q E hr.in1 I.env0.in1 b r h) fun r s' hq => ?_)
  cases r with
  | error er => exact False.elim (hx pins σ H s er s' (I.wish _) hq)
  | ok fl =>
    cases fl with
    | ret u => exact I.after hq
    | next => exact False.elim hq
    | brk => exact False.elim hq
    | cont => exact False.elim hq
/-- such a method by its class -/
def dOwn1 (C : Addr) (g : DSp) (back : D → Prop) (da : DE) : DE := fun env L k x => da env L (fun a L1 => match con L1 a with
  | .obj C' ns vs => C' = C ∧ g [a] L1 (fun d L2 => back d ∧ k d L2) (fun _ _ => False)
  | _ => False) x
end
end DL
namespace DL
open PySem PySem.Spec PyProof.Rows L2 RZ
section
variable {X : Cx} {Wx : WX} {a b c e o f : Expr} {es : List Expr} {da db dc de do' df : DE} {dt : DT} {dl : DA} {pos apos : Pos}
theorem look_set {M : Led} {p : Addr} {d : D} : inL M p → List.lookup p (setL M p d) = some d := by
  induction M with
  | nil => intro h; simp [inL] at h
  | cons q M ih =>
    intro h
    obtain ⟨z1, z2⟩ := q
    by_cases hq : z1 = p
    · show List.lookup p ((if z1 = p then (p, d) else (z1, z2)) :: setL M p _) = _
      rw [if_pos hq]
      exact lookup_top
    · rw [setL_ne hq, lookup_ne (Ne.symm hq)]
      exact ih ((inL_cons.mp h).resolve_left (Ne.symm hq))
theorem wipe_two (ws : List Nat) : ∀ (us : List Nat), (∀ i ∈ us, i ∈ ws) → ∀ σ : L2.St, wipe (wipe σ us) ws = wipe σ ws := by
  intro us
  induction us with
  | nil => intro _ σ; rfl
  | cons u us ih =>
    intro hu σ
    show wipe ((wipe σ us).set u none) ws = _
    rw [wipe_set (hu u List.mem_cons_self), ih (fun i hi => hu i (List.mem_cons_of_mem _ hi))]
def tyOk (K : PySem.W.Frag) (C : Addr) (L : Led) (b : D) : Prop := match con L b with
  | .obj C' _ _ => InsC K C' ∧ PySem.W.notFirst K C (.ref C') = true
  | c => match tyD c with
    | some t => PySem.W.notFirst K C (.type t.nm) = true
    | none => False
theorem kit_self {K : PySem.W.Frag} {C : Addr} : PySem.W.kitOne K (.ref C) (.ref C) = some true := by
  unfold PySem.W.kitOne
  rw [if_pos (by simp)]
theorem nf_self {K : PySem.W.Frag} {C : Addr} : PySem.W.notFirst K C (.ref C) = true := by
  unfold PySem.W.notFirst
  simp
end
end DL
namespace DL
open PySem PySem.Spec PyProof.Rows L2
section
variable {X : Cx} {Wx : WX} {a b c e o f : Expr} {es : List Expr} {da db' dc de do' df : DE} {pos apos : Pos}
/-- behind the statement the slot's list leaves the ledger -/
def dSealA (i : Nat) (ds : DS) : DS := fun D env L => ds { D with nx := fun env' L' => match env'[i]? with
  | some (some (.ptr p)) => match L'.lookup p with
    | some (.lst xs) => D.nx (env'.set i (some (.lst xs))) (remL L' p)
    | _ => False
  | _ => False } env L
theorem s_sealA (i : Nat) {st : Stmt} {ds : DS} (h : QS X Wx st ds) : QS X Wx st (dSealA i ds) := by
  obtain ⟨t, pt, s1⟩ := h.ex
  refine ⟨t, pt, fun σ H env L D' D st h ok => ?_⟩
  refine s1 σ H env L _ _ st h ⟨fun env' L' σ' H' h' g' st' => ?_, ok.rt, ok.ex, ok.bk, ok.ct⟩
  have h' : (match env'[i]? with
    | some (some (.ptr p)) => match L'.lookup p with
      | some (.lst xs) => D'.nx (env'.set i (some (.lst xs))) (remL L' p)
      | _ => False
    | _ => False) := h'
  split at h'
  · rename_i p hd
    split at h'
    · rename_i xs hl
      obtain ⟨v, e1, r⟩ := st'.1.get hd
      cases r
      obtain ⟨vs, e2, rv⟩ := st'.2.look hl
      have g2 : Go L' (remL L' p) H' H' := go_rem
      have s2 := st'.1.go g2
      have r2 : Rp (remL L' p) X.K H' (.ref p) (.lst xs) := .lst (fun m => (inL_remL.mp m).2 rfl) e2 (rv.go go_rem)
      have s3 := s2.set r2 i
      have e3 : σ'.set i (some (V.ref p)) = σ' := by
        apply List.ext_getElem?
        intro j
        rw [List.getElem?_set]
        by_cases hj : i = j
        · subst hj
          rw [if_pos rfl]
          rw [e1]
          have hlt : i < σ'.length := by
            rcases Nat.lt_or_ge i σ'.length with h | h
            · exact h
            · rw [List.getElem?_eq_none h] at e1; cases e1
          rw [if_pos hlt]
        · rw [if_neg hj]
      rw [e3] at s3
      exact ok.nx _ _ σ' H' h' (g'.trans g2) ⟨s3, st'.2.rem⟩
    · exact h'.elim
  · exact h'.elim
section
end
def dPar3 (i j l : Nat) (dl : DA) : DS := fun D env L => dl env L (fun ds L1 => match ds with
  | [d, e, f] => D.nx (((env.set i (some d)).set j (some e)).set l (some f)) L1
  | _ => False) D.ex
theorem s_par3 (i j l : Nat) {x y z : Str} {px py pz pt : Pos} {kt k2 pt2} {dl : DA} (hc : X.calm = true) (hN : X.N.Nodup) (ha : QA X Wx [a, b, c] dl) (hi : X.N[i]? = some x := by rfl) (hj : X.N[j]? = some y := by rfl) (hl : X.N[l]? = some z := by rfl) (hij : i ≠ j := by decide) (hil : i ≠ l := by decide) (hjl : j ≠ l := by decide)
    (hx : X.env.scope.names.lookup x = some .local := by rfl) (hy : X.env.scope.names.lookup y = some .local := by rfl) (hz : X.env.scope.names.lookup z = some .local := by rfl)
    (hw : swappedStores [.Tuple [.Name x px, .Name y py, .Name z pz] kt pt] (.Tuple [a, b, c] k2 pt2) X.env = pure (some [x, y, z]) := by rfl)
    (hs : swapsWithSole [.Tuple [.Name x px, .Name y py, .Name z pz] kt pt] (.Tuple [a, b, c] k2 pt2) pos.line X.env = pure false := by rfl) :
    QS X Wx (.Assign [.Tuple [.Name x px, .Name y py, .Name z pz] kt pt] (.Tuple [a, b, c] k2 pt2) pos) (dPar3 i j l dl) := by
  obtain ⟨ta, pa, sa⟩ := ha.ex
  refine ⟨_, ps_par3 hc hN hi hj hl hij hil hjl hx hy hz pa hw hs, fun σ H env L D' D st h ok => ?_⟩
  refine sa σ H env L _ _ _ st h (fun ds L1 vs H1 h1 g1 j1 r1 => ?_) ok.ex
  split at h1
  · rename_i d e f
    cases r1 with
    | cons r1 r2 => cases r2 with
      | cons r2 r3 => cases r3 with
        | cons r3 r4 => cases r4 with
          | nil => exact ⟨_, _, _, rfl, ok.nx _ L1 _ H1 h1 g1 ⟨(((st.1.go g1).set r1 i).set r2 j).set r3 l, j1⟩⟩
  · exact h1.elim
end
end DL
namespace DL
open PySem L2
def itemsD : D → Option (List D)
  | .lst xs => some xs
  | .str z => some (sgD z.cps.toList)
  | _ => none
def ofA : DSp := fun ds L k _ => ∃ (p : Addr) (b : Bag) (s : D) (xs : List D), ds = [.ptr p, s] ∧ itemsD s = some xs ∧ L.lookup p = some (bagC b) ∧ BagOk b ∧ 0 < xs.length ∧ xs.length < 1000 ∧ ∀ d b', d ∈ xs → BagOk b' → k d (setL L p (bagC b'))
mutual
def okW : D → Bool
  | .non => true | .bl _ => true | .int _ => true
  | .str z => decide (z.length ≤ 100000)
  | .lst xs => decide (xs.length < 100000) && okWs xs
  | .tup xs => decide (xs.length < 100000) && okWs xs
  | .ro _ => false | .dk _ _ => false | .dt _ _ => false | .obj _ _ _ => false | .exc _ _ _ => false | .fnv _ _ => false | .clo _ _ => false | .tab _ => false | .ptr _ => false | .ty _ => false | .kt _ => false
def okWs : List D → Bool
  | [] => true
  | d :: r => okW d && okWs r
end
theorem okWs_mk {d : D} {l : List D} (h1 : okW d = true) (h2 : okWs l = true) : okWs (d :: l) = true := by
  unfold okWs
  rw [h1, h2]; rfl
theorem okW_mk {l : List D} (h1 : l.length < 100000) (h2 : okWs l = true) : okW (.tup l) = true := by
  unfold okW
  rw [decide_eq_true h1, h2]; rfl
/-- a for by what is left of its items -/
theorem forD_rec {dg : DG} {db : DS} {En : DEnds} (I : List D → DEnv → Led → Prop) (step : ∀ (E' : DEnds) (d : D) (ds : List D) (env : DEnv) (L : Led), E'.rt = En.rt → E'.ex = En.ex → E'.bk = En.nx → E'.ct = E'.nx → I (d :: ds) env L → (∀ env' L', I ds env' L' → E'.nx env' L') → dg d env L fun env1 => db E' env1 L)
    (stop : ∀ env L, I [] env L → En.nx env L) : ∀ (ds : List D) (env : DEnv) (L : Led), I ds env L → forD dg db En ds env L
  | [], env, L, h => by rw [forD_nil]; exact stop env L h
  | d :: ds, env, L, h => by
    rw [forD_cons]
    exact step _ d ds env L rfl rfl rfl rfl h fun env' L' h' => forD_rec I step stop ds env' L' h'
def reserved : List Str := ["x", "y", "let", "if", "else", "end", "repeat", "stop"]
def letters : Str := "abcdefghijklmnopqrstuvwxyz"
def nameOk (z : Str) : Bool := decide (1 ≤ z.length) && (decide (z.length ≤ 6) && (!decide (z ∈ reserved) && z.cps.toList.all fun c => decide (c ∈ letters.cps.toList)))
def isNameD : D → Bool
  | .str z => nameOk z
  | _ => false
def numIn (lo hi : Int) : D → Bool
  | .int i => decide (lo ≤ i) && decide (i ≤ hi)
  | _ => false
def signsT : List (Str × D) := [("add", .str "+"), ("sub", .str "-"), ("mul", .str "*"), ("div", .str "/")]
def testsT : List (Str × D) := [("less", .str "<"), ("equal", .str "="), ("upto", .str "<=")]
def isTestD : D → Bool
  | .str z => (testsT.lookup z).isSome
  | _ => false
def exprOk : Nat → D → Bool
  | 0, _ => false
  | n + 1, v => match v with
    | .tup (.str w :: r) =>
      if w = "x" ∨ w = "y" then r.isEmpty
      else if w = "num" then (match r with | [a] => numIn (-999) 999 a | _ => false)
      else if w = "name" then (match r with | [a] => isNameD a | _ => false)
      else if w = "call" then (match r with | [f, a, b] => isNameD f && (exprOk n a && exprOk n b) | _ => false)
      else if (signsT.lookup w).isSome then (match r with | [a, b] => exprOk n a && exprOk n b | _ => false)
      else false
    | _ => false
/-- how many are counted, or the number of the first wrong one -/
inductive Vis where
  | ok (c : Nat)
  | bad (c : Nat)
deriving DecidableEq
inductive Ex where
  | num (i : Int) | lx | ly | nm (z : Str) | call (f : Str) (a b : Ex) | bin (o : Str) (a b : Ex)
def Ex.d : Ex → D
  | .num i => .tup [.str "num", .int i]
  | .lx => .tup [.str "x"]
  | .ly => .tup [.str "y"]
  | .nm z => .tup [.str "name", .str z]
  | .call f a b => .tup [.str "call", .str f, a.d, b.d]
  | .bin o a b => .tup [.str o, a.d, b.d]
def Ex.dp : Ex → Nat
  | .call _ a b => max a.dp b.dp + 1
  | .bin _ a b => max a.dp b.dp + 1
  | _ => 1
inductive Ex.Wf (ns ks : List Str) : Ex → Prop
  | num {i : Int} : -999 ≤ i → i ≤ 999 → Ex.Wf ns ks (.num i)
  | lx : Ex.Wf ns ks .lx
  | ly : Ex.Wf ns ks .ly
  | nm {z : Str} : z ∈ ns → Ex.Wf ns ks (.nm z)
  | call {f : Str} {a b : Ex} : f ∈ ks → Ex.Wf ns ks a → Ex.Wf ns ks b → Ex.Wf ns ks (.call f a b)
  | bin {o : Str} {a b : Ex} : o ∈ (["add", "sub", "mul", "div"] : List Str) → Ex.Wf ns ks a → Ex.Wf ns ks b → Ex.Wf ns ks (.bin o a b)
theorem Ex.Wf.ok {ns ks : List Str} (hn : ∀ z ∈ ns, nameOk z = true) (hk : ∀ z ∈ ks, nameOk z = true) {e : Ex} (h : e.Wf ns ks) : ∀ n, e.dp ≤ n → exprOk n e.d = true := by
  induction h with
  | num h1 h2 =>
    intro n hn
    cases n with
    | zero => exact absurd hn (by show ¬ 1 ≤ 0; decide)
    | succ n =>
      show (decide (_ ≤ _) && decide (_ ≤ _)) = true
      rw [decide_eq_true h1, decide_eq_true h2]; rfl
  | lx => intro n hn; cases n with
    | zero => exact absurd hn (by show ¬ 1 ≤ 0; decide)
    | succ n => rfl
  | ly => intro n hn; cases n with
    | zero => exact absurd hn (by show ¬ 1 ≤ 0; decide)
    | succ n => rfl
  | nm h => intro n hn'; cases n with
    | zero => exact absurd hn' (by show ¬ 1 ≤ 0; decide)
    | succ n => exact hn _ h
  | call hf ha hb iha ihb => intro n hn'; cases n with
    | zero => exact absurd hn' (Nat.not_succ_le_zero _)
    | succ n =>
      have h := Nat.le_of_succ_le_succ hn'
      show (nameOk _ && (exprOk n _ && exprOk n _)) = true
      rw [hk _ hf, iha n (Nat.le_trans (Nat.le_max_left _ _) h), ihb n (Nat.le_trans (Nat.le_max_right _ _) h)]; rfl
  | bin ho ha hb iha ihb => intro n hn'; cases n with
    | zero => exact absurd hn' (Nat.not_succ_le_zero _)
    | succ n =>
      have h := Nat.le_of_succ_le_succ hn'
      have e1 := iha n (Nat.le_trans (Nat.le_max_left _ _) h)
      have e2 := ihb n (Nat.le_trans (Nat.le_max_right _ _) h)
      simp only [List.mem_cons, List.not_mem_nil, or_false] at ho
      rcases ho with e | e | e | e <;> subst e <;> (show (exprOk n _ && exprOk n _) = true; rw [e1, e2]; rfl)
end DL
namespace DL
open PySem L2 TL
/-- the bag stands at p, once -/
structure BagAt (L : Led) (p : Addr) (b : Bag) : Prop where
  lk : L.lookup p = some (bagC b)
  self : setL L p (bagC b) = L
  ok : BagOk b
theorem BagAt.set {L : Led} {p : Addr} {b b' : Bag} (h : BagAt L p b) (ok : BagOk b') : BagAt (setL L p (bagC b')) p b' := ⟨lookup_setL h.lk, setL_setL _ _ _ _, ok⟩
theorem BagAt.top {L : Led} {p : Addr} {b : Bag} (h : ¬ inL L p) (ok : BagOk b) : BagAt ((p, bagC b) :: L) p b := ⟨lookup_top, setL_top h, ok⟩
theorem nameOk_len {z : Str} (h : nameOk z = true) : z.length ≤ 6 := by
  unfold nameOk at h
  simp only [Bool.and_eq_true] at h
  exact of_decide_eq_true h.2.1
end DL
namespace DL
open PySem L2
abbrev VAL := (Int × Int) × Int
/-- ends without a value -/
inductive EE where
  | unset (z : Str) | heavy | zero | long | none
def EE.l : EE → List Str
  | .unset z => ["unset", z]
  | .heavy => ["heavy"]
  | .zero => ["zero"]
  | .long => ["long"]
  | .none => ["none"]
def EE.d (e : EE) : D := .tup (e.l.map D.str)
structure RSt where
  outs : List Str
  steps : Nat
inductive R1 where
  | ok (v : VAL) | halt (e : EE)
def rAddL (a b : Int × Int) : Int × Int := lowI (a.1 * b.2 + b.1 * a.2) (a.2 * b.2)
def rSubL (a b : Int × Int) : Int × Int := lowI (a.1 * b.2 - b.1 * a.2) (a.2 * b.2)
def rMulL (a b : Int × Int) : Int × Int := lowI (a.1 * b.1) (a.2 * b.2)
def rDivL (a b : Int × Int) : Int × Int := lowI (a.1 * b.2) (a.2 * b.1)
def joinR (o : Str) (a b : Int × Int) : Int × Int := if o = "add" then rAddL a b else if o = "sub" then rSubL a b else if o = "mul" then rMulL a b else rDivL a b
inductive Sm where
  | letS (z : Str) (e : Ex) | stop (e : Ex) | rep (n : Nat) (b : List Sm) | ifS (t : Str) (a b : Ex) (p q : List Sm)
mutual
def Sm.d : Sm → D
  | .letS z e => .tup [.str "let", .str z, e.d]
  | .stop e => .tup [.str "stop", e.d]
  | .rep n b => .tup [.str "repeat", .int n, .tup (Sm.ds b)]
  | .ifS t a b p q => .tup [.str "if", .str t, a.d, b.d, .tup (Sm.ds p), .tup (Sm.ds q)]
def Sm.ds : List Sm → List D
  | [] => []
  | s :: r => s.d :: Sm.ds r
end
structure VOk (v : VAL) : Prop where
  w1 : 1 ≤ v.2
  w2 : v.2 ≤ 10
  pos : 0 < v.1.2
  low : gcdI v.1.1 v.1.2 = 1
  top : v.1.1.natAbs < 2 ^ (64 * v.2.toNat - 1)
  bot : v.1.2.natAbs < 2 ^ (64 * v.2.toNat - 1)
theorem mul_lt {a b : Int} {n m : Nat} (ha : a.natAbs < 2 ^ n) (hb : b.natAbs < 2 ^ m) : (a * b).natAbs < 2 ^ (n + m) := by
  rw [Int.natAbs_mul, Nat.pow_add]
  exact Nat.mul_lt_mul'' ha hb
theorem VOk.join {v w : VAL} (hv : VOk v) (hw : VOk w) (o : Str) (h10 : ¬ 10 < v.2 + w.2) (hz : ¬ (o = "div" ∧ w.1.1 = 0)) (ho : o ∈ (["add", "sub", "mul", "div"] : List Str)) : VOk (joinR o v.1 w.1, v.2 + w.2) := by
  have e : (64 * v.2.toNat - 1) + (64 * w.2.toNat - 1) + 1 = 64 * (v.2 + w.2).toNat - 1 := by have := hv.w1; have := hw.w1; omega
  have p1 := mul_lt hv.top hw.bot
  have p2 := mul_lt hw.top hv.bot
  have p3 := mul_lt hv.bot hw.bot
  have p4 := mul_lt hv.top hw.top
  have p5 := mul_lt hv.bot hw.top
  have e2 : (2 : Nat) ^ (64 * (v.2 + w.2).toNat - 1) = 2 ^ ((64 * v.2.toNat - 1) + (64 * w.2.toNat - 1)) + 2 ^ ((64 * v.2.toNat - 1) + (64 * w.2.toNat - 1)) := by rw [← e, Nat.pow_succ]; omega
  rw [Nat.add_comm (64 * w.2.toNat - 1)] at p2
  have mk : ∀ t u : Int, u ≠ 0 → t.natAbs < 2 ^ (64 * (v.2 + w.2).toNat - 1) → u.natAbs < 2 ^ (64 * (v.2 + w.2).toNat - 1) → VOk (lowI t u, v.2 + w.2) := fun t u hu ht hb => by
    obtain ⟨s1, s2⟩ := lowI_small (t := t) hu
    obtain ⟨l1, l2, _⟩ := lowI_spec (t := t) hu
    exact ⟨by show 1 ≤ v.2 + w.2; have := hv.w1; have := hw.w1; omega, by show v.2 + w.2 ≤ 10; omega, l1, l2, Nat.lt_of_le_of_lt s1 ht, Nat.lt_of_le_of_lt s2 hb⟩
  have nz : v.1.2 * w.1.2 ≠ 0 := Int.mul_ne_zero (by have := hv.pos; omega) (by have := hw.pos; omega)
  unfold joinR
  simp only [List.mem_cons, List.not_mem_nil, or_false] at ho
  rcases ho with q | q | q | q <;> subst q
  · rw [if_pos rfl]
    exact mk _ _ nz (by omega) (by omega)
  · rw [if_neg (by decide), if_pos rfl]
    exact mk _ _ nz (by omega) (by omega)
  · rw [if_neg (by decide), if_neg (by decide), if_pos rfl]
    exact mk _ _ nz (by omega) (by omega)
  · rw [if_neg (by decide), if_neg (by decide), if_neg (by decide)]
    exact mk _ _ (Int.mul_ne_zero (by have := hv.pos; omega) fun z => hz ⟨rfl, z⟩) (by omega) (by omega)
end DL
namespace DL
open PySem L2
theorem setL_comm {p q : Addr} (h : p ≠ q) (c d : D) (L : Led) : setL (setL L p c) q d = setL (setL L q d) p c := by
  unfold setL
  rw [List.map_map, List.map_map]
  refine List.map_congr_left fun a _ => ?_
  show (if (if a.1 = p then (p, c) else a).1 = q then (q, d) else (if a.1 = p then (p, c) else a)) = (if (if a.1 = q then (q, d) else a).1 = p then (p, c) else (if a.1 = q then (q, d) else a))
  by_cases e : a.1 = p
  · rw [if_pos e, if_neg (show ¬ (p, c).1 = q from h), if_neg (show ¬ a.1 = q from fun z => h (e.symm.trans z)), if_pos e]
  · rw [if_neg e]
    by_cases e2 : a.1 = q
    · rw [if_pos e2, if_neg (show ¬ (q, d).1 = p from Ne.symm h)]
    · rw [if_neg e2, if_neg e]
def fldsR : List Str := ["arithmetic", "programs", "outcomes", "steps"]
def runD (cP cR : Addr) (tb : D) (o : Addr) (n : Nat) : D := .obj cR fldsR [.obj cP [] [], tb, .ptr o, .int n]
structure RR where
  cP : Addr
  cR : Addr
  r : Addr
  o : Addr
  tb : D
@[irreducible] def st2 (R : RR) (L : Led) (s : RSt) : Led := setL (setL L R.r (runD R.cP R.cR R.tb R.o s.steps)) R.o (.lst (s.outs.map D.str))
structure B2 (R : RR) (L : Led) : Prop where
  r : inL L R.r
  o : inL L R.o
  ne : R.r ≠ R.o
section
variable {R : RR} {L : Led} {s : RSt}
theorem B2.set (b : B2 R L) (q : Addr) (d : D) : B2 R (setL L q d) := ⟨inL_setL.mpr b.r, inL_setL.mpr b.o, b.ne⟩
theorem B2.cons (b : B2 R L) (q : Addr) (d : D) : B2 R ((q, d) :: L) := ⟨inL_cons.mpr (.inr b.r), inL_cons.mpr (.inr b.o), b.ne⟩
end
end DL
namespace DL
open PySem L2
inductive XpOk (ks : Str → Prop) : Nat → Ex → Prop
  | num {m : Nat} {i : Int} : -999 ≤ i → i ≤ 999 → XpOk ks m (.num i)
  | lx {m : Nat} : XpOk ks m .lx
  | ly {m : Nat} : XpOk ks m .ly
  | nm {m : Nat} {z : Str} : XpOk ks m (.nm z)
  | call {m : Nat} {f : Str} {a b : Ex} : ks f → XpOk ks m a → XpOk ks m b → XpOk ks (m + 1) (.call f a b)
  | bin {m : Nat} {o : Str} {a b : Ex} : o ∈ (["add", "sub", "mul", "div"] : List Str) → XpOk ks m a → XpOk ks m b → XpOk ks (m + 1) (.bin o a b)
def tests : List Str := ["less", "equal", "upto"]
theorem XpOk.mono {ks : Str → Prop} {m : Nat} {e : Ex} (h : XpOk ks m e) : ∀ {m' : Nat}, m ≤ m' → XpOk ks m' e := by
  induction h with
  | num h1 h2 => intro _ _; exact .num h1 h2
  | lx => intro _ _; exact .lx
  | ly => intro _ _; exact .ly
  | nm => intro _ _; exact .nm
  | call hf _ _ ia ib =>
    intro m' hm
    obtain ⟨k, rfl⟩ : ∃ k, m' = k + 1 := ⟨m' - 1, by omega⟩
    exact .call hf (ia (by omega)) (ib (by omega))
  | bin ho _ _ ia ib =>
    intro m' hm
    obtain ⟨k, rfl⟩ : ∃ k, m' = k + 1 := ⟨m' - 1, by omega⟩
    exact .bin ho (ia (by omega)) (ib (by omega))
structure Gd (s : RSt) (r : R1 × RSt) : Prop where
  lim : r.2.steps ≤ 60
  mono : s.steps ≤ r.2.steps
  grow : r.2.outs.length + s.steps ≤ s.outs.length + r.2.steps
  v : ∀ v, r.1 = .ok v → VOk v
theorem Gd.refl {s : RSt} {r : R1} (h : s.steps ≤ 60) (hv : ∀ v, r = .ok v → VOk v) : Gd s (r, s) := ⟨h, Nat.le_refl _, Nat.le_refl _, hv⟩
theorem Gd.halt {s s1 : RSt} {r1 : R1} {e : EE} (a : Gd s (r1, s1)) : Gd s (.halt e, s1) := ⟨a.lim, a.mono, a.grow, fun v e => by cases e⟩
theorem VOk.num {i : Int} (h1 : -999 ≤ i) (h2 : i ≤ 999) : VOk ((i, 1), 1) := by
  have e : (2 : Nat) ^ (64 * (1 : Int).toNat - 1) = 9223372036854775808 := by decide
  refine ⟨Int.le_refl _, by show (1 : Int) ≤ 10; decide, by show (0 : Int) < 1; decide, ?_, ?_, ?_⟩
  · show gcdI i 1 = 1
    unfold gcdI
    rw [show (1 : Int).natAbs = 1 from rfl, Nat.gcd_one_right]
    rfl
  · show i.natAbs < 2 ^ (64 * (1 : Int).toNat - 1)
    rw [e]; omega
  · show (1 : Int).natAbs < 2 ^ (64 * (1 : Int).toNat - 1)
    rw [e]; decide
end DL
namespace DL
open PySem L2 TL
mutual
def cntS : Sm → Nat
  | .letS _ _ => 1
  | .stop _ => 1
  | .rep _ b => cntB b + 1
  | .ifS _ _ _ p q => cntB p + cntB q + 1
def cntB : List Sm → Nat
  | [] => 0
  | s :: r => cntS s + cntB r
end
def pst (L : Led) (p q : Addr) (b : Bag) (m : Nat) : Led := setL (setL L p (bagC b)) q (.lst [.int m])
structure PB (L : Led) (p q : Addr) : Prop where
  ip : inL L p
  iq : inL L q
  ne : p ≠ q
theorem lookup_inL {L : Led} {p : Addr} {d : D} (h : inL L p) : (setL L p d).lookup p = some d := by
  have : ∃ c, L.lookup p = some c := by
    clear d
    induction L with
    | nil => unfold inL at h; simp at h
    | cons z r ih =>
      by_cases e : p = z.1
      · subst e; exact ⟨_, List.lookup_cons_self⟩
      · have hr : inL r p := by
          unfold inL at h ⊢
          rw [List.map_cons] at h
          exact (List.mem_cons.mp h).resolve_left e
        obtain ⟨c, hc⟩ := ih hr
        exact ⟨c, by rw [show z = (z.1, z.2) from rfl, lookup_ne e]; exact hc⟩
  exact lookup_setL this.choose_spec
theorem lookup_set_ne {L : Led} {p q : Addr} {d : D} (h : q ≠ p) : (setL L p d).lookup q = L.lookup q := by
  induction L with
  | nil => rfl
  | cons z r ih =>
    by_cases e : z.1 = p
    · show List.lookup q ((if z.1 = p then (p, d) else z) :: setL r p d) = _
      rw [if_pos e, lookup_ne h, ih, show z = (z.1, z.2) from rfl, lookup_ne (by rw [e]; exact h)]
    · show List.lookup q ((if z.1 = p then (p, d) else z) :: setL r p d) = _
      rw [if_neg e]
      by_cases e2 : q = z.1
      · subst e2; rw [show z = (z.1, z.2) from rfl, List.lookup_cons_self, List.lookup_cons_self]
      · rw [show z = (z.1, z.2) from rfl, lookup_ne e2, lookup_ne e2, ih]
section
variable {L : Led} {p q : Addr} {b b' : Bag} {m m' : Nat}
theorem PB.lp (h : PB L p q) : (pst L p q b m).lookup p = some (bagC b) := by
  unfold pst
  rw [lookup_set_ne h.ne, lookup_inL h.ip]
theorem pst_bag (h : PB L p q) : setL (pst L p q b m) p (bagC b') = pst L p q b' m := by
  unfold pst
  rw [← setL_comm h.ne, setL_setL]
theorem PB.at (h : PB L p q) (ok : BagOk b) : BagAt (pst L p q b m) p b := ⟨h.lp, pst_bag h, ok⟩
theorem PB.cons (h : PB L p q) (f : Addr) (d : D) : PB ((f, d) :: L) p q := ⟨inL_cons.mpr (.inr h.ip), inL_cons.mpr (.inr h.iq), h.ne⟩
end
end DL
namespace DL
open PySem L2 TL NumText
def figs : Str := "0123456789"
def topVal : List Nat → Int
  | 45 :: cs => -((digitsVal cs : Nat) : Int)
  | l => ((digitsVal l : Nat) : Int)
end DL
namespace DL
open PySem PySem.Spec PyProof.Rows L2 TL NumText
section
end
def exprsX : Sm → List Ex
  | .letS _ e => [e]
  | .stop e => [e]
  | .rep _ _ => []
  | .ifS _ a b _ _ => [a, b]
def blocksX : Sm → List (List Sm)
  | .rep _ b => [b]
  | .ifS _ _ _ p q => [p, q]
  | _ => []
inductive It where
  | ex (e : Ex) | bl (b : List Sm) | st (z : Str) | nu (n : Nat)
def It.d : It → D
  | .ex e => e.d
  | .bl b => .tup (Sm.ds b)
  | .st z => .str z
  | .nu n => .int n
theorem nameOk_w {z : Str} (h : nameOk z = true) : okW (.str z) = true := by unfold okW; exact decide_eq_true (Nat.le_trans (nameOk_len h) (by decide))
theorem test_w {t : Str} (h : t ∈ tests) : okW (.str t) = true ∧ isTestD (.str t) = true := by
  simp only [tests, List.mem_cons, List.not_mem_nil, or_false] at h
  rcases h with rfl | rfl | rfl <;> exact ⟨by decide +kernel, by decide +kernel⟩
def sgnW (o : Str) : Str := if o = "add" then " + " else if o = "sub" then " - " else if o = "mul" then " * " else " / "
def exT : Ex → Str
  | .num i => toString i
  | .lx => "x"
  | .ly => "y"
  | .nm z => z
  | .call f a b => f ++ "(" ++ exT a ++ ", " ++ exT b ++ ")"
  | .bin o a b => "(" ++ exT a ++ sgnW o ++ exT b ++ ")"
end DL
namespace DL
open PySem PySem.Spec PyProof.Rows L2 TL NumText
abbrev mkS (l : List Nat) : Str := ⟨l.toArray⟩
def figB (c : Nat) : Bool := decide (c ∈ tl figs)
def letB (c : Nat) : Bool := decide (c ∈ tl letters)
inductive Fx where
  | deep | num (i : Int) | lx | ly | nm (z : Str) | call (f : Str) (a b : Fx) | bin (o : Str) (a b : Fx)
def Fx.d : Fx → D
  | .deep => .tup [.str "deep"]
  | .num i => .tup [.str "num", .int i]
  | .lx => .tup [.str "x"]
  | .ly => .tup [.str "y"]
  | .nm z => .tup [.str "name", .str z]
  | .call f a b => .tup [.str "call", .str f, a.d, b.d]
  | .bin o a b => .tup [.str o, a.d, b.d]
def Fx.dp : Fx → Nat
  | .deep => 7
  | .call _ a b => max a.dp b.dp + 1
  | .bin _ a b => max a.dp b.dp + 1
  | _ => 1
inductive Fx.W : Fx → Prop
  | deep : Fx.W .deep
  | num {i : Int} : i.natAbs < 1000 → Fx.W (.num i)
  | lx : Fx.W .lx
  | ly : Fx.W .ly
  | nm {z : Str} : nameOk z = true → Fx.W (.nm z)
  | call {f : Str} {a b : Fx} : nameOk f = true → Fx.W a → Fx.W b → Fx.W (.call f a b)
  | bin {o : Str} {a b : Fx} : o ∈ (["add", "sub", "mul", "div"] : List Str) → Fx.W a → Fx.W b → Fx.W (.bin o a b)
/-- what a frame or an answer holds -/
def Fx.sm (v : Fx) : Prop := v.W ∧ (v = .deep ∨ v.dp ≤ 6)
def numF (cs : List Nat) : Fx := if (topVal cs).natAbs < 1000 then .num (topVal cs) else .deep
def figOk (w : List Nat) : Bool := decide (w ≠ []) && (decide (w = [48]) || decide (w.head? ≠ some 48))
def leafT (l : List Nat) : Option (Fx × List Nat) :=
  let w := l.takeWhile letB
  if w = [120] then some (.lx, l.drop w.length) else if w = [121] then some (.ly, l.drop w.length) else if nameOk (mkS w) = true then some (.nm (mkS w), l.drop w.length) else none
def leafL : List Nat → Option (Fx × List Nat)
  | [] => leafT []
  | c :: r =>
    if c = 45 then
      let w := r.takeWhile figB
      if (figOk w && !decide (w = [48])) = true then some (numF (45 :: w), r.drop w.length) else none
    else if figB c = true then
      let w := (c :: r).takeWhile figB
      if figOk w = true then some (numF w, (c :: r).drop w.length) else none
    else leafT (c :: r)
structure Frm where
  w : Str
  n : Str
  v : Option Fx
def Frm.d (f : Frm) : D := .lst [.str f.w, .str f.n, match f.v with
  | some v => v.d
  | none => .non]
def joinT (f : Frm) (a v : Fx) : Fx := if f.w = "call" then .call f.n a v else .bin f.w a v
def joinF (f : Frm) (a v : Fx) : Fx := if (joinT f a v).dp ≤ 6 then joinT f a v else .deep
def openL (l : List Nat) : Option (Frm × List Nat) :=
  if l.head? = some 40 then some (⟨"", "", none⟩, l.drop 1) else
  let w := l.takeWhile letB
  if nameOk (mkS w) = true ∧ (l.drop w.length).head? = some 40 then some (⟨"call", mkS w, none⟩, l.drop (w.length + 1)) else none
def wordsT : List (Str × D) := [("+", .str "add"), ("-", .str "sub"), ("*", .str "mul"), ("/", .str "div")]
def wordOf (c : Nat) : Option Str := if c = 43 then some "add" else if c = 45 then some "sub" else if c = 42 then some "mul" else if c = 47 then some "div" else none
def contL (f : Frm) (v : Fx) (l : List Nat) : Option (Frm × List Nat) :=
  if f.w = "call" then (if l.take 2 = [44, 32] then some (⟨f.w, f.n, some v⟩, l.drop 2) else none)
  else match l with
    | 32 :: c :: 32 :: r => (match wordOf c with
      | some o => some (⟨o, f.n, some v⟩, r)
      | none => none)
    | _ => none
def closeL : List Frm → Fx → List Nat → Option (List Frm × Fx × List Nat)
  | [], v, l => some ([], v, l)
  | f :: fs, v, l => match f.v with
    | none => some (f :: fs, v, l)
    | some a => if l.head? = some 41 then closeL fs (joinF f a v) (l.drop 1) else none
def rdL : Nat → List Frm → List Nat → Option (Fx × List Nat)
  | 0, _, _ => none
  | n + 1, fs, l => match openL l with
    | some (f, r) => rdL n (f :: fs) r
    | none => match leafL l with
      | none => none
      | some (v, r) => match closeL fs v r with
        | none => none
        | some ([], v', r') => some (v', r')
        | some (f :: fs', v', r') => match contL f v' r' with
          | none => none
          | some (f', r2) => rdL n (f' :: fs') r2
theorem Fx.W.okw {v : Fx} (h : v.W) : okW v.d = true := by
  induction h with
  | deep => decide +kernel
  | num _ => unfold Fx.d; exact okW_mk (by show 2 < 100000; decide) (okWs_mk (by decide +kernel) (okWs_mk (by unfold okW; rfl) (by unfold okWs; rfl)))
  | lx => decide +kernel
  | ly => decide +kernel
  | nm h => unfold Fx.d; exact okW_mk (by show 2 < 100000; decide) (okWs_mk (by decide +kernel) (okWs_mk (nameOk_w h) (by unfold okWs; rfl)))
  | call h _ _ h1 h2 => unfold Fx.d; exact okW_mk (by show 4 < 100000; decide) (okWs_mk (by decide +kernel) (okWs_mk (nameOk_w h) (okWs_mk h1 (okWs_mk h2 (by unfold okWs; rfl)))))
  | bin h _ _ h1 h2 =>
    unfold Fx.d
    refine okW_mk (by show 3 < 100000; decide) (okWs_mk ?_ (okWs_mk h1 (okWs_mk h2 (by unfold okWs; rfl))))
    revert h
    rename_i o _ _ _ _
    intro h
    simp only [List.mem_cons, List.not_mem_nil, or_false] at h
    rcases h with rfl | rfl | rfl | rfl <;> decide +kernel
end DL
namespace DL
open PySem PySem.Spec PyProof.Rows L2 TL NumText
section
open PySem.Calls PySem.W PySem.W.KIN
end
section
end
end DL
namespace DL
open PySem PySem.Spec PyProof.Rows L2 TL NumText
/-- a text that may be read -/
structure OkZ (z : Str) : Prop where
  len : z.length ≤ 90000
  run : ∀ a : Nat, (((tl z).drop a).takeWhile figB).length ≤ 4200
theorem OkZ.sz {z : Str} (h : OkZ z) : z.length ≤ sizeLine := Nat.le_trans h.len (by decide)
end DL
namespace DL
open PySem PySem.Spec PyProof.Rows L2 TL NumText
theorem keep_set {L L' : Led} {p : Addr} {d : D} (h : ¬ inL L p) : keepL L (setL L' p d) = keepL L L' := by
  unfold keepL setL
  induction L' with
  | nil => rfl
  | cons q r ih =>
    rw [List.map_cons, List.filter_cons, List.filter_cons, ih]
    by_cases e : q.1 = p
    · rw [if_pos e]
      rw [decide_eq_false (show ¬ p ∈ L.map (·.1) from h), decide_eq_false (show ¬ q.1 ∈ L.map (·.1) by rw [e]; exact h)]
      rfl
    · rw [if_neg e]
structure FsL (L L' : Led) (P : Addr) (ps : List Addr) (fs : List Frm) : Prop where
  keep : keepL L L' = L
  np : ¬ inL L P
  top : L'.lookup P = some (.lst (ps.reverse.map D.ptr))
  all : Paired (fun p f => L'.lookup p = some f.d ∧ ¬ inL L p ∧ p ≠ P) ps fs
  nd : ps.Nodup
theorem paired_mono {α β : Type} {R R' : α → β → Prop} : ∀ {xs : List α} {ys : List β}, (∀ x ∈ xs, ∀ y, R x y → R' x y) → Paired R xs ys → Paired R' xs ys
  | _, _, _, .nil => .nil
  | _, _, h, .cons r t => .cons (h _ List.mem_cons_self _ r) (paired_mono (fun x m y => h x (List.mem_cons_of_mem _ m) y) t)
section
variable {L L' : Led} {P p : Addr} {ps : List Addr} {f f' : Frm} {fs : List Frm}
theorem FsL.start {Q : Addr} (h : ¬ inL L Q) : FsL L ((Q, .lst []) :: L) Q [] [] := ⟨by rw [keep_out h]; exact keep_same rfl, h, lookup_top, .nil, List.nodup_nil⟩
theorem mem_in {ps : List Addr} {fs : List Frm} (h : Paired (fun p f => L'.lookup p = some f.d ∧ ¬ inL L p ∧ p ≠ P) ps fs) : ∀ q ∈ ps, inL L' q ∧ q ≠ P := by
  induction h with
  | nil => intro q m; cases m
  | cons r _ ih =>
    intro q m
    rcases List.mem_cons.mp m with e | m
    · subst e; exact ⟨inL_of_lookup r.1, r.2.2⟩
    · exact ih q m
theorem FsL.push (h : FsL L L' P ps fs) (hp : ¬ inL L' p) (hL : ∀ a, inL L a → inL L' a) : FsL L (setL ((p, f.d) :: L') P (.lst ((ps.reverse.map D.ptr) ++ [.ptr p]))) P (p :: ps) (f :: fs) := by
  have pP : p ≠ P := fun e => hp (by rw [e]; exact inL_of_lookup h.top)
  have npl : ¬ inL L p := fun m => hp (hL _ m)
  refine ⟨?_, h.np, ?_, ?_, ?_⟩
  · rw [keep_set h.np, keep_out npl]; exact h.keep
  · rw [List.reverse_cons, List.map_append]
    exact lookup_setL (by rw [lookup_ne (Ne.symm pP)]; exact h.top)
  · refine .cons ⟨?_, npl, pP⟩ (paired_mono (fun q m g r => ⟨?_, r.2.1, r.2.2⟩) h.all)
    · rw [lookup_set_ne pP]; exact lookup_top
    · rw [lookup_set_ne r.2.2, lookup_ne (fun e => hp (by rw [← e]; exact (mem_in h.all q m).1))]
      exact r.1
  · exact List.nodup_cons.mpr ⟨fun m => hp (mem_in h.all p m).1, h.nd⟩
theorem FsL.put (h : FsL L L' P (p :: ps) (f :: fs)) : FsL L (setL L' p f'.d) P (p :: ps) (f' :: fs) := by
  obtain ⟨hk, hn, ht, ha, hd⟩ := h
  cases ha with
  | cons r ha =>
    have hd' := List.nodup_cons.mp hd
    refine ⟨by rw [keep_set r.2.1]; exact hk, hn, by rw [lookup_set_ne (Ne.symm r.2.2)]; exact ht, .cons ⟨lookup_setL r.1, r.2.1, r.2.2⟩ (paired_mono (fun q m g r' => ⟨?_, r'.2.1, r'.2.2⟩) ha), hd⟩
    rw [lookup_set_ne (fun e => hd'.1 (by rw [← e]; exact m))]
    exact r'.1
theorem FsL.look (h : FsL L L' P (p :: ps) (f :: fs)) : L'.lookup p = some f.d := by
  cases h.all with
  | cons r _ => exact r.1
end
theorem keep_keys {L L' : Led} (h : keepL L L' = L) : ∀ a, inL L a → inL L' a := fun a m => by
  rw [← h] at m
  exact (inL_keep.mp m).1
end DL
namespace DL
open PySem PySem.Spec PyProof.Rows L2 TL NumText
def rdA (l : List Nat) : Option (Fx × List Nat) := rdL (l.length + 1) [] l
def wholeL (l : List Nat) : Option Fx := match rdA l with
  | some (v, []) => some v
  | _ => none
inductive Itm where
  | aLet (z : Str) (v : Fx) | aIf (w : Str) (a b : Fx) | aRep (n : Int) | aStop (v : Fx)
def Itm.d : Itm → List D
  | .aLet z v => [.str "let", .str z, v.d]
  | .aIf w a b => [.str "if", .str w, a.d, b.d]
  | .aRep n => [.str "repeat", .int n]
  | .aStop v => [.str "stop", v.d]
def testR (v : Fx) (r : List Nat) : Option Itm :=
  if pre [32, 60, 61, 32] r = true then (wholeL (r.drop 4)).map (.aIf "upto" v) else if pre [32, 60, 32] r = true then (wholeL (r.drop 3)).map (.aIf "less" v) else if pre [32, 61, 32] r = true then (wholeL (r.drop 3)).map (.aIf "equal" v) else none
def testL (l : List Nat) : Option Itm := match rdA (l.drop 3) with
  | none => none
  | some (v, r) => testR v r
def letL (l : List Nat) : Option Itm :=
  let w := (l.drop 4).takeWhile letB
  let r := (l.drop 4).drop w.length
  match (if r.take 3 = [32, 61, 32] then wholeL (r.drop 3) else none) with
  | none => none
  | some v => if nameOk (mkS w) = true then some (.aLet (mkS w) v) else none
def repL (l : List Nat) : Option Itm := match leafL (l.drop 7) with
  | some (.num n, []) => some (.aRep n)
  | some (.deep, []) => some (.aRep (-1))
  | _ => none
def ifP : List Nat := [105, 102, 32]
def stopP : List Nat := [115, 116, 111, 112, 32]
def letP : List Nat := [108, 101, 116, 32]
def repP : List Nat := [114, 101, 112, 101, 97, 116, 32]
def lineL (l : List Nat) : Option Itm :=
  if pre ifP l = true then testL l else if pre stopP l = true then (wholeL (l.drop 5)).map .aStop else if pre letP l = true then letL l else if pre repP l = true then repL l else none
def Itm.ok : Itm → Prop
  | .aLet z v => nameOk z = true ∧ v.sm
  | .aIf w a b => w ∈ tests ∧ a.sm ∧ b.sm
  | .aRep n => n.natAbs < 1000
  | .aStop v => v.sm
theorem map_some {α β : Type} {f : α → β} {o : Option α} {y : β} (h : o.map f = some y) : ∃ x, o = some x ∧ y = f x := by
  cases o with
  | none => cases h
  | some x => exact ⟨x, rfl, by cases h; rfl⟩
structure Blk where
  items : List D
  blk : List D
  els : Option (List D)
def opens : Itm → Bool
  | .aIf _ _ _ => true
  | .aRep _ => true
  | _ => false
inductive Rd where
  | bad (n : Nat)
  | ok (l : List D)
def prog0 : Blk := ⟨[.str "program"], [], none⟩
end DL
namespace DL
open PySem PySem.Spec PyProof.Rows L2 TL NumText
structure FA where
  q : Addr
  b : Addr
  c : Option Addr
def FA.adr (fa : FA) : List Addr := fa.q :: fa.b :: fa.c.toList
def FA.d (fa : FA) (m : Blk) : D := .lst [.lst m.items, .ptr fa.b, match fa.c with
  | some c => .ptr c
  | none => .non]
structure BlkAt (L L' : Led) (fa : FA) (m : Blk) : Prop where
  q : L'.lookup fa.q = some (fa.d m)
  b : L'.lookup fa.b = some (.lst m.blk)
  c : match fa.c, m.els with
    | none, none => True
    | some c, some e => L'.lookup c = some (.lst e)
    | _, _ => False
  out : ∀ a ∈ fa.adr, ¬ inL L a
def adrs (fas : List FA) : List Addr := fas.flatMap FA.adr
structure BsL (L L' : Led) (P : Addr) (fas : List FA) (ms : List Blk) : Prop where
  keep : keepL L L' = L
  np : ¬ inL L P
  top : L'.lookup P = some (.lst (fas.reverse.map fun fa => D.ptr fa.q))
  all : Paired (BlkAt L L') fas ms
  nd : (P :: adrs fas).Nodup
section
variable {L L' L2 : Led} {P p : Addr} {fa fa' : FA} {fas : List FA} {m m' : Blk} {ms : List Blk}
theorem BlkAt.inl (h : BlkAt L L' fa m) : ∀ a ∈ fa.adr, inL L' a := fun a ha => by
  unfold FA.adr at ha
  rcases List.mem_cons.mp ha with e | ha
  · subst e; exact inL_of_lookup h.q
  · rcases List.mem_cons.mp ha with e | ha
    · subst e; exact inL_of_lookup h.b
    · have hc := h.c
      cases e : fa.c with
      | none => rw [e] at ha; cases ha
      | some c =>
        rw [e] at ha hc
        cases List.mem_singleton.mp ha
        cases e2 : m.els with
        | none => rw [e2] at hc; exact hc.elim
        | some x => rw [e2] at hc; exact inL_of_lookup hc
theorem BlkAt.eqv (h : BlkAt L L' fa m) (e : ∀ a ∈ fa.adr, L2.lookup a = L'.lookup a) : BlkAt L L2 fa m := by
  refine ⟨by rw [e _ List.mem_cons_self]; exact h.q, by rw [e _ (List.mem_cons_of_mem _ List.mem_cons_self)]; exact h.b, ?_, h.out⟩
  have hc := h.c
  cases e1 : fa.c with
  | none =>
    rw [e1] at hc
    cases e2 : m.els with
    | none => trivial
    | some x => rw [e2] at hc; exact hc.elim
  | some c =>
    rw [e1] at hc
    cases e2 : m.els with
    | none => rw [e2] at hc; exact hc.elim
    | some x =>
      rw [e2] at hc
      have : c ∈ fa.adr := by unfold FA.adr; rw [e1]; simp
      show L2.lookup c = _
      rw [e c this]
      exact hc
theorem mem_adrs {a : Addr} : a ∈ adrs (fa :: fas) ↔ a ∈ fa.adr ∨ a ∈ adrs fas := by unfold adrs; rw [List.flatMap_cons, List.mem_append]
theorem all_inl (h : Paired (BlkAt L L') fas ms) : ∀ a ∈ adrs fas, inL L' a := by
  induction h with
  | nil => intro a ha; cases ha
  | cons r _ ih =>
    intro a ha
    rcases mem_adrs.mp ha with e | e
    · exact r.inl a e
    · exact ih a e
theorem BsL.inl (h : BsL L L' P fas ms) : ∀ a ∈ P :: adrs fas, inL L' a := fun a ha => by
  rcases List.mem_cons.mp ha with e | e
  · subst e; exact inL_of_lookup h.top
  · exact all_inl h.all a e
theorem all_eqv (h : Paired (BlkAt L L') fas ms) (e : ∀ a ∈ adrs fas, L2.lookup a = L'.lookup a) : Paired (BlkAt L L2) fas ms := by
  induction h with
  | nil => exact .nil
  | cons r _ ih => exact .cons (r.eqv fun a ha => e a (mem_adrs.mpr (.inl ha))) (ih fun a ha => e a (mem_adrs.mpr (.inr ha)))
/-- the top one changed -/
theorem BsL.mod (h : BsL L L' P (fa :: fas) (m :: ms)) (hb : BlkAt L L2 fa' m') (hk : keepL L L2 = L) (ho : ∀ a, a = P ∨ a ∈ adrs fas → L2.lookup a = L'.lookup a) (hq : fa'.q = fa.q) (nd : (P :: adrs (fa' :: fas)).Nodup) : BsL L L2 P (fa' :: fas) (m' :: ms) := by
  refine ⟨hk, h.np, ?_, ?_, nd⟩
  · rw [ho P (.inl rfl), h.top, List.reverse_cons, List.reverse_cons, List.map_append, List.map_append, List.map_singleton, List.map_singleton, hq]
  · cases h.all with
    | cons r t => exact .cons hb (all_eqv t fun a ha => ho a (.inr ha))
theorem BsL.push {items : List D} {b q : Addr} (h : BsL L L' P fas ms) (hb : ¬ inL L' b) (hq : ¬ inL ((b, .lst []) :: L') q) :
    BsL L (setL ((q, FA.d ⟨q, b, none⟩ ⟨items, [], none⟩) :: (b, .lst []) :: L') P (.lst ((fas.reverse.map fun fa => D.ptr fa.q) ++ [.ptr q]))) P (⟨q, b, none⟩ :: fas) (⟨items, [], none⟩ :: ms) := by
  have hin := h.inl
  have qb : q ≠ b := fun e => hq (by rw [e]; exact inL_cons.mpr (.inl rfl))
  have hq' : ¬ inL L' q := fun m => hq (inL_cons.mpr (.inr m))
  have bP : b ≠ P := fun e => hb (by rw [e]; exact hin P List.mem_cons_self)
  have qP : q ≠ P := fun e => hq' (by rw [e]; exact hin P List.mem_cons_self)
  have bl : ¬ inL L b := fun m => hb (keep_keys h.keep _ m)
  have ql : ¬ inL L q := fun m => hq' (keep_keys h.keep _ m)
  refine ⟨?_, h.np, ?_, .cons ⟨?_, ?_, trivial, ?_⟩ (all_eqv h.all fun a ha => ?_), ?_⟩
  · rw [keep_set h.np, keep_out ql, keep_out bl]; exact h.keep
  · rw [List.reverse_cons, List.map_append]
    exact lookup_setL (by rw [lookup_ne (Ne.symm qP), lookup_ne (Ne.symm bP)]; exact h.top)
  · rw [lookup_set_ne qP]; exact lookup_top
  · rw [lookup_set_ne bP, lookup_ne (Ne.symm qb)]; exact lookup_top
  · intro a ha
    unfold FA.adr at ha
    simp only [Option.toList_none, List.mem_cons, List.not_mem_nil, or_false] at ha
    rcases ha with e | e <;> subst e <;> assumption
  · have aP : a ≠ P := fun e => (List.nodup_cons.mp h.nd).1 (e ▸ ha)
    have ai := hin a (List.mem_cons_of_mem _ ha)
    rw [lookup_set_ne aP, lookup_ne (fun e => hq' (by rw [← e]; exact ai)), lookup_ne (fun e => hb (by rw [← e]; exact ai))]
  · have nd := List.nodup_cons.mp h.nd
    show (P :: q :: b :: adrs fas).Nodup
    have qn : q ∉ adrs fas := fun m => hq' (hin q (List.mem_cons_of_mem _ m))
    have bn : b ∉ adrs fas := fun m => hb (hin b (List.mem_cons_of_mem _ m))
    refine List.nodup_cons.mpr ⟨?_, List.nodup_cons.mpr ⟨?_, List.nodup_cons.mpr ⟨bn, nd.2⟩⟩⟩
    · intro m
      rcases List.mem_cons.mp m with e | m
      · exact qP e.symm
      · rcases List.mem_cons.mp m with e | m
        · exact bP e.symm
        · exact nd.1 m
    · intro m
      rcases List.mem_cons.mp m with e | m
      · exact qb e
      · exact qn m
theorem BsL.start {b q P : Addr} (hb : ¬ inL L b) (hq : ¬ inL ((b, .lst []) :: L) q) (hP : ¬ inL ((q, FA.d ⟨q, b, none⟩ prog0) :: (b, .lst []) :: L) P) :
    BsL L ((P, .lst [.ptr q]) :: (q, FA.d ⟨q, b, none⟩ prog0) :: (b, .lst []) :: L) P [⟨q, b, none⟩] [prog0] := by
  have qb : q ≠ b := fun e => hq (by rw [e]; exact inL_cons.mpr (.inl rfl))
  have hq' : ¬ inL L q := fun m => hq (inL_cons.mpr (.inr m))
  have Pq : P ≠ q := fun e => hP (by rw [e]; exact inL_cons.mpr (.inl rfl))
  have Pb : P ≠ b := fun e => hP (by rw [e]; exact inL_cons.mpr (.inr (inL_cons.mpr (.inl rfl))))
  have hP' : ¬ inL L P := fun m => hP (inL_cons.mpr (.inr (inL_cons.mpr (.inr m))))
  refine ⟨?_, hP', lookup_top, .cons ⟨?_, ?_, trivial, ?_⟩ .nil, ?_⟩
  · rw [keep_out hP', keep_out hq', keep_out hb]; exact keep_same rfl
  · rw [lookup_ne (Ne.symm Pq)]; exact lookup_top
  · rw [lookup_ne (Ne.symm Pb), lookup_ne (Ne.symm qb)]; exact lookup_top
  · intro a ha
    unfold FA.adr at ha
    simp only [Option.toList_none, List.mem_cons, List.not_mem_nil, or_false] at ha
    rcases ha with e | e <;> subst e <;> assumption
  · show [P, q, b].Nodup
    simp [Pq, Pb, qb]
/-- else: -/
theorem BsL.els {c : Addr} (h : BsL L L' P (fa :: fas) (m :: ms)) (hc : ¬ inL L' c) (hn : m.els = none) :
    ∃ fa', FA.d fa' m = .lst [.lst m.items, .ptr fa.b, .ptr c] ∧ BsL L (setL ((c, .lst []) :: L') fa.q (.lst [.lst m.items, .ptr fa.b, .ptr c])) P (fa' :: fas) ({ m with els := some [] } :: ms) := by
  have hin := h.inl
  have nd := h.nd
  have cl : ¬ inL L c := fun m => hc (keep_keys h.keep _ m)
  have hr : BlkAt L L' fa m := by cases h.all with | cons r _ => exact r
  have hfc : fa.c = none := by
    have := hr.c
    rw [hn] at this
    cases e : fa.c with
    | none => rfl
    | some x => rw [e] at this; exact this.elim
  have hadr : fa.adr = [fa.q, fa.b] := by unfold FA.adr; rw [hfc]; rfl
  have hnd : (P :: fa.q :: fa.b :: adrs fas).Nodup := by
    have : adrs (fa :: fas) = fa.q :: fa.b :: adrs fas := by unfold adrs; rw [List.flatMap_cons, hadr]; rfl
    rw [this] at nd; exact nd
  have hm : ∀ a, a = P ∨ a = fa.q ∨ a = fa.b ∨ a ∈ adrs fas → inL L' a := fun a ha => by
    rcases ha with e | e | e | e
    · subst e; exact hin _ List.mem_cons_self
    · subst e; exact inL_of_lookup hr.q
    · subst e; exact inL_of_lookup hr.b
    · exact hin a (List.mem_cons_of_mem _ (mem_adrs.mpr (.inr e)))
  have hcn : ∀ a, a = P ∨ a = fa.q ∨ a = fa.b ∨ a ∈ adrs fas → a ≠ c := fun a ha e => hc (by rw [← e]; exact hm a ha)
  have n1 := List.nodup_cons.mp hnd
  have n2 := List.nodup_cons.mp n1.2
  have n3 := List.nodup_cons.mp n2.2
  have qc : fa.q ≠ c := hcn _ (.inr (.inl rfl))
  have bq : fa.b ≠ fa.q := fun e => n2.1 (by rw [← e]; exact List.mem_cons_self)
  refine ⟨⟨fa.q, fa.b, some c⟩, rfl, h.mod (fa' := ⟨fa.q, fa.b, some c⟩) ⟨lookup_setL (by rw [lookup_ne qc]; exact hr.q), ?_, ?_, ?_⟩ ?_ (fun a ha => ?_) rfl ?_⟩
  · show List.lookup fa.b _ = _
    rw [lookup_set_ne bq, lookup_ne (hcn _ (.inr (.inr (.inl rfl))))]; exact hr.b
  · show List.lookup c _ = _
    rw [lookup_set_ne (Ne.symm qc)]; exact lookup_top
  · intro a ha
    unfold FA.adr at ha
    simp only [Option.toList_some, List.mem_cons, List.not_mem_nil, or_false] at ha
    have ho := hr.out
    rw [hadr] at ho
    rcases ha with e | e | e
    · subst e; exact ho _ List.mem_cons_self
    · subst e; exact ho _ (List.mem_cons_of_mem _ List.mem_cons_self)
    · subst e; exact cl
  · rw [keep_set (hr.out _ List.mem_cons_self), keep_out cl]; exact h.keep
  · have aq : a ≠ fa.q := by
      rcases ha with e | e
      · subst e; intro e; exact n1.1 (by rw [e]; exact List.mem_cons_self)
      · intro e2; exact n2.1 (by rw [← e2]; exact List.mem_cons_of_mem _ e)
    rw [lookup_set_ne aq, lookup_ne (hcn a (ha.elim .inl fun e => .inr (.inr (.inr e))))]
  · show (P :: fa.q :: fa.b :: c :: adrs fas).Nodup
    refine List.nodup_cons.mpr ⟨?_, List.nodup_cons.mpr ⟨?_, List.nodup_cons.mpr ⟨?_, List.nodup_cons.mpr ⟨fun m => hcn c (.inr (.inr (.inr m))) rfl, n3.2⟩⟩⟩⟩
    · intro m
      rcases List.mem_cons.mp m with e | m
      · exact n1.1 (by rw [e]; exact List.mem_cons_self)
      · rcases List.mem_cons.mp m with e | m
        · exact n1.1 (by rw [e]; exact List.mem_cons_of_mem _ List.mem_cons_self)
        · rcases List.mem_cons.mp m with e | m
          · exact hcn P (.inl rfl) e
          · exact n1.1 (List.mem_cons_of_mem _ (List.mem_cons_of_mem _ m))
    · intro m
      rcases List.mem_cons.mp m with e | m
      · exact bq e.symm
      · rcases List.mem_cons.mp m with e | m
        · exact qc e
        · exact n2.1 (List.mem_cons_of_mem _ m)
    · intro m
      rcases List.mem_cons.mp m with e | m
      · exact hcn _ (.inr (.inr (.inl rfl))) e
      · exact n3.1 m
end
theorem Itm.ok.w {i : Itm} (h : i.ok) : okWs i.d = true ∧ ∃ z r, i.d = .str z :: r ∧ r.length ≤ 3 := by
  have nil : okWs [] = true := by unfold okWs; rfl
  cases i with
  | aLet z v => exact ⟨okWs_mk (by decide +kernel) (okWs_mk (nameOk_w h.1) (okWs_mk h.2.1.okw nil)), _, _, rfl, by show 2 ≤ 3; decide⟩
  | aIf w a b =>
    exact ⟨okWs_mk (by decide +kernel) (okWs_mk (test_w h.1).1 (okWs_mk h.2.1.1.okw (okWs_mk h.2.2.1.okw nil))), _, _, rfl, by show 3 ≤ 3; decide⟩
  | aRep n => exact ⟨okWs_mk (by decide +kernel) (okWs_mk (by unfold okW; rfl) nil), _, _, rfl, by show 1 ≤ 3; decide⟩
  | aStop v => exact ⟨okWs_mk (by decide +kernel) (okWs_mk h.1.okw nil), _, _, rfl, by show 1 ≤ 3; decide⟩
end DL
namespace DL
open PySem PySem.Spec PyProof.Rows L2 TL NumText
def exOk (e : Ex) : Prop := ∃ ns ks : List Str, e.Wf ns ks ∧ e.dp ≤ 6 ∧ (∀ z ∈ ns, nameOk z = true) ∧ ∀ z ∈ ks, nameOk z = true
mutual
def smT : Nat → Sm → Prop
  | _, .letS z e => nameOk z = true ∧ exOk e
  | _, .stop e => exOk e
  | m, .rep n b => n ≤ 9 ∧ ∃ m', m = m' + 1 ∧ smsT m' b
  | m, .ifS t a b p q => t ∈ tests ∧ exOk a ∧ exOk b ∧ ∃ m', m = m' + 1 ∧ smsT m' p ∧ smsT m' q
def smsT : Nat → List Sm → Prop
  | _, [] => True
  | m, s :: r => smT m s ∧ smsT m r
end
end DL
namespace DL
open PySem PySem.Spec PyProof.Rows L2 TL NumText
end DL
namespace DL
open PySem PySem.Spec PyProof.Rows L2 TL NumText
end DL
namespace DL
open PySem PySem.Spec PyProof.Rows L2 TL NumText
end DL
namespace DL
open PySem PySem.Spec PyProof.Rows L2 TL NumText
end DL
namespace DL
open PySem PySem.Spec PyProof.Rows L2 TL NumText
/-- the expression that is read -/
def Fx.ex : Fx → Ex
  | .deep => .lx
  | .num i => .num i
  | .lx => .lx
  | .ly => .ly
  | .nm z => .nm z
  | .call f a b => .call f a.ex b.ex
  | .bin o a b => .bin o a.ex b.ex
def fT (v : Fx) : List Nat := tl (exT v.ex)
/-- the text of a frame that is open -/
def frT (f : Frm) : List Nat := match f.v with
  | none => if f.w = "call" then tl f.n ++ [40] else [40]
  | some a => if f.w = "call" then tl f.n ++ 40 :: (fT a ++ [44, 32]) else 40 :: (fT a ++ tl (sgnW f.w))
def Fx.nms : Fx → List Str
  | .nm z => [z]
  | .call _ a b => a.nms ++ b.nms
  | .bin _ a b => a.nms ++ b.nms
  | _ => []
def Fx.cls : Fx → List Str
  | .call f a b => f :: (a.cls ++ b.cls)
  | .bin _ a b => a.cls ++ b.cls
  | _ => []
theorem Fx.names {v : Fx} (h : v.W) : (∀ z ∈ v.nms, nameOk z = true) ∧ ∀ z ∈ v.cls, nameOk z = true := by
  induction h with
  | nm hz => exact ⟨fun z m => by rw [List.mem_singleton.mp m]; exact hz, fun z m => absurd m (by simp [Fx.cls])⟩
  | @call f a b hf _ _ ia ib => exact ⟨fun z m => (List.mem_append.mp m).elim (ia.1 z) (ib.1 z), fun z m => (List.mem_cons.mp m).elim (fun e => e ▸ hf) fun m => (List.mem_append.mp m).elim (ia.2 z) (ib.2 z)⟩
  | @bin o a b ho _ _ ia ib => exact ⟨fun z m => (List.mem_append.mp m).elim (ia.1 z) (ib.1 z), fun z m => (List.mem_append.mp m).elim (ia.2 z) (ib.2 z)⟩
  | _ => exact ⟨fun z m => absurd m (by simp [Fx.nms]), fun z m => absurd m (by simp [Fx.cls])⟩
end DL
namespace DL
open PySem PySem.Spec PyProof.Rows L2 TL NumText
inductive Rs where
  | flat (l : List Nat) (i : Itm) | blk (l : List Nat) (i : Itm) (p q : List Rs)
def isIfI : Itm → Bool
  | .aIf _ _ _ => true
  | _ => false
mutual
def Rs.d : Rs → D
  | .flat _ i => .tup i.d
  | .blk _ i p q => .tup (i.d ++ [.tup (rsD p)] ++ if isIfI i = true then [.tup (rsD q)] else [])
def rsD : List Rs → List D
  | [] => []
  | s :: r => s.d :: rsD r
end
mutual
def Rs.Ok : Rs → Prop
  | .flat l i => lineL l = some i ∧ opens i = false
  | .blk l i p q => lineL l = some i ∧ opens i = true ∧ rsO p ∧ rsO q ∧ (isIfI i = false → q = [])
def rsO : List Rs → Prop
  | [] => True
  | s :: r => s.Ok ∧ rsO r
end
structure TB where
  hd : Option (List Nat × Itm)
  p : List Rs
  e : Option (List Rs)
def hdD : Option (List Nat × Itm) → List D
  | none => [.str "program"]
  | some (_, i) => i.d
def TB.blk (t : TB) : Blk := ⟨hdD t.hd, rsD t.p, t.e.map rsD⟩
structure TBOk (t : TB) : Prop where
  p : rsO t.p
  e : ∀ q, t.e = some q → rsO q
  hd : ∀ l i, t.hd = some (l, i) → lineL l = some i ∧ opens i = true ∧ (t.e ≠ none → isIfI i = true)
def StOk : List TB → Prop
  | [] => False
  | [t] => t.hd = none ∧ t.e = none ∧ TBOk t
  | t :: u :: r => t.hd ≠ none ∧ TBOk t ∧ StOk (u :: r)
theorem StOk.top {t : TB} {r : List TB} (h : StOk (t :: r)) : TBOk t := by
  cases r with
  | nil => exact h.2.2
  | cons u r => exact h.2.1
end DL
namespace DL
open PySem PySem.Spec PyProof.Rows L2 TL NumText
end DL
namespace NumText
open PySem L2 DL
def ItT (m : Nat) (s : Sm) : DL.It → Prop
  | .ex e => e ∈ exprsX s ∧ exOk e
  | .bl b => b ∈ blocksX s ∧ ∃ m', m = m' + 1 ∧ smsT m' b ∧ cntB b ≤ cntS s
  | .st z => PyData.strOk z = true
  | .nu _ => True
end NumText
namespace DL
open PySem PySem.Spec PyProof.Rows L2 RZ
section
end
end DL
namespace DL
open PySem PySem.Spec PyProof.Rows L2 RZ
section
variable {X : Cx} {Wx : WX} {a b c e o f : Expr} {es : List Expr} {da db dc de do' df : DE} {dl dk : DA} {pos apos : Pos}
theorem pe_makeWn {CX : CXT} {k n : Nat} {C f : Addr} {x : Str} {p : Pos} {fd : FuncData} {ps ks : List Str} {sp : Sp} {dus : List Value} {dvs : List V} {g : Perm3} {t : TA} {E : L2.St → XK} {kws : List Keyword} {tk : TA} (M : Mk X.K C f) (F : FnOk X.prog X.w X.K X.mg X.base CX k f fd ps sp) (hr : Room (k + 1) X.A) (hg : Gl X x) (hm : X.mg x = some (.ref C)) (hb : KwB X.K fd ps (n + 1) ks dus g) (hp : PermOk @g) (hd : Vals dvs dus) (hx : ∀ σ, PassesAt CX X σ (E σ)) (ha : PA X (e :: es) t) (hkw : PK X kws tk)
    (hall : (backToKw pos (keywordEach kws X.env)).all (·.1.isSome) = true := by rfl) (hks : (backToKw pos (keywordEach kws X.env)).filterMap (·.1) = ks := by rfl) (hdb : (x == ("__debug__" : Str)) = false := by decide) (he : starEach (e :: es) X.env = (false, eval e X.env) :: starEach es X.env := by rfl)
    (hpl : ((backTo pos (starEach (e :: es) X.env)).any (·.1) || (backToKw pos (keywordEach kws X.env)).any (·.1.isNone)) = false := by rfl) :
    PE X (.Call (.Name x p) (e :: es) kws pos) (tMakeW C n ks.length sp (fun vs zs => g vs zs dvs) E t tk) := by
  refine ⟨fun pins s σ H Q I h => ?_⟩
  refine wpAny_Call_Name_kw (ld_glob I hg hm ?_ hdb)
  refine PySem.W.callWith_KW (first := []) (h₀ := X.base) I.ok.mod.kin M.kp hall ?_ hpl he
  refine thn (ha.run pos pins s σ H _ I h) fun us s1 ⟨vs, H1, I1, r1, q1⟩ => ?_
  refine thn (hkw.run pos pins s1 σ H1 _ I1 q1) fun ws s2 ⟨zs, H2, I2, rz, l1, l2, q2⟩ => ⟨I2.kIn, ?_⟩
  rw [hks]
  exact run_makeW (us := us) (vs := vs) M F hr hb hp hd (hx σ) I2 r1 rz l1 l2 q2
/-- a class by name, called by position and keywords -/
structure KCalN (P : Program) (w : World) (K : PySem.W.Frag) (mg : Str → Option Value) (base : Heap) (n : Nat) (x : Str) (C : Addr) (np : Nat) (ks : List Str) (dd : List D) (gp : Perm3) (g : DSp) : Prop where
  ex : ∃ f fd ps us dvs, FnOk P w K mg base (L2.CX P w) n f fd ps (spD K g) ∧ Mk K C f ∧ mg x = some (.ref C) ∧ KwB K fd ps (np + 1) ks us gp ∧ PermOk @gp ∧ Vals dvs us ∧ ∀ L H, RpAll L K H dvs dd
def dMakeN (C : Addr) (np m : Nat) (g : DSp) (gp : Perm3) (dd : List D) (dl dk : DA) : DE := fun env L k x => dl env L (fun as L0 => dk env L0 (fun es L1 => as.length = np ∧ es.length = m ∧ ∀ q, ¬ inL L1 q → g (gp (.ptr q :: as) es dd) ((q, .obj C [] []) :: L1) (fun v L2 => v = .non ∧ k (.ptr q) L2) fun n L' => x n env L') x) x
theorem q_makeN {x : Str} {p : Pos} {n k np : Nat} {C : Addr} {ks : List Str} {g : DSp} {gp : Perm3} {dd : List D} {kws : List Keyword} (F : KCalN X.prog X.w X.K X.mg X.base n x C np ks dd gp g) (hn : n + 1 ≤ k) (hr : Room k X.A) (tk : Takes X Wx) (hg : Gl X x) (ha : QA X Wx (e :: es) dl) (hkw : QK X Wx kws dk)
    (hall : (backToKw pos (keywordEach kws X.env)).all (·.1.isSome) = true := by rfl) (hks : (backToKw pos (keywordEach kws X.env)).filterMap (·.1) = ks := by rfl) (hdb : (x == ("__debug__" : Str)) = false := by decide) (he : starEach (e :: es) X.env = (false, eval e X.env) :: starEach es X.env := by rfl)
    (hpl : ((backTo pos (starEach (e :: es) X.env)).any (·.1) || (backToKw pos (keywordEach kws X.env)).any (·.1.isNone)) = false := by rfl) : QE X Wx (.Call (.Name x p) (e :: es) kws pos) (dMakeN C np ks.length g gp dd dl dk) := by
  obtain ⟨f, fd, ps, us, dvs, F, hM, hm, hb, hp, hd, hdd⟩ := F.ex
  obtain ⟨ta, pa, sa⟩ := ha.ex
  obtain ⟨tk2, pk, sk⟩ := hkw.ex
  refine ⟨_, pe_makeWn hM F (hr.mono hn) hg hm hb hp hd (fun σ => passAt tk σ) pa pk hall hks hdb he hpl, fun σ H env L k x Q st h hk hx => ?_⟩
  refine sa σ H env L _ x _ st h (fun as L0 vs H0 h0 g0 j0 r0 => ?_) hx
  refine sk σ H0 env L0 _ x _ (st.go g0 j0) h0 (fun es L1 zs H1 h1 g1 j1 r1 => ?_) (hx.go g0)
  obtain ⟨l1, l2, h1⟩ := h1
  refine ⟨by rw [r0.length]; exact l1, by rw [r1.length]; exact l2, fun q dx hq hdx hne => ?_⟩
  obtain ⟨nq, j2, g2⟩ := made_jl (C := C) j1 hq hdx hne
  have rr : RpAll ((q, .obj C [] []) :: L1) X.K (upd (upd H1 dx (.own q)) q (.ins C dx [])) (gp (.ref q :: vs) zs dvs) (gp (.ptr q :: as) es dd) := paired_rp (hp.map (rp_paired (.cons (.ptr q) ((r0.go g1).go g2))) (rp_paired (r1.go g2)) (rp_paired (hdd _ _)))
  exact ⟨_, _, _, _, j2, rr, h1 q nq, fun d L' v H' ⟨ed, hkq⟩ g' j' r' => by subst ed; cases r'; exact ⟨rfl, hk _ L' _ H' hkq (((g0.trans g1).trans g2).trans g') j' (.ptr q)⟩, fun n L' a H' hxq g' j' r => hx n env L' a H' σ hxq (((g0.trans g1).trans g2).trans g') (st.go (((g0.trans g1).trans g2).trans g') j') r⟩
end
end DL
namespace HNe
open PySem PySem.Spec PyProof.Rows PySem.SeqAt
section
variable {M : Model} {prog : Program} {w : World} {A : Around} {E : Value → Shared → Prop} {s : Shared} {K : PySem.W.Frag} {x C f L : Addr} {ox : Obj} {od : Option Obj} {h₀ : Heap} {m : Str → Option Value} {b tb : Value}
theorem ifBound_objNe {args : List Value} {Q : Option Value → Shared → Prop} (X : K.In s.heap) (I : PySem.W.InstAt s.heap x ox C od) (hs : PySem.W.findIn K (.ref C) "__ne__" = some (some (.builtin "object.__ne__")))
    (h : wpAny M A (call (.builtin "object.__ne__") (.ref x :: args)) (fun v => Q (some v)) E s) : wpAny M A (callSpecialIfBound? (.ref x) "__ne__" args) Q E s := by
  simp only [callSpecialIfBound?, bindSpecialIfBound?]
  refine wpAny_holding (wpAny_bind (wpAny_bind (wpAny_bind (I.type.here ((PySem.W.looks_findIn X hs).here ?_)))))
  refine wpAny_bind (wpAny_askSetting (wpAny_ite ?_))
  have fin : wpAny M A (call (.builtin "object.__ne__") ([.ref x] ++ args) >>= fun v => pure (some v)) Q E s := wpAny_bind (wpAny_mono h (fun v s' h' => wpAny_pure h') fun _ _ h' => h')
  split
  · exact wpAny_bind (wpAny_of_eq (F.cmp_object.ne.bind _) (wpAny_pure (by exact fin)))
  · exact wpAny_tryCatch (wpAny_bind (wpAny_of_eq (F.cmp_object.ne.bind _) (wpAny_pure (by exact fin))))
theorem objNe_entry (X : K.In s.heap) (I : PySem.W.InstAt s.heap x ox C od) (he : PySem.W.findIn K (.ref C) "__eq__" = some (some (.ref f))) (hf : PySem.W.isFn K (.ref f) = true) (hu : A.units < cLine) {Q : Fin → Shared → Prop}
    (h : wpAny (model prog w) A (call (.ref f) [.ref x, b]) (fun v s' => ∃ r, v = .bool r ∧ Q (.done (.ret (.bool (!r)))) s') E s) : wpAny (model prog w) A (Builtin.«object.__ne__» ⟨[.ref x, b], []⟩) Q E s := by
  unfold Builtin.«object.__ne__»
  repeat (first
    | with_reducible refine wpAny_cRoomFor hu ?_
    | (refine wpAny_bind (m := callSpecialIfBound? (.ref x) (Str.ofString "__eq__") [b])
        (PySem.W.ifBound_K X I he hf (wpAny_mono h (fun v s' hr => by
          obtain ⟨r, rfl, hq⟩ := hr
          repeat (first | exact hq | exact wpAny_pure hq | exact wpAny_truthy_bool hq | (refine wpAny_bind (m := truthy (.bool _)) (wpAny_truthy_bool ?_)) | wp_step)) fun _ _ e => e)))
    | wp_step)
theorem ne_K {Q : Value → Shared → Prop} (hu : A.units + 1 < cLine) (G : PyProof.Rows.Fr h₀ L s.heap m) (X₀ : K.In h₀) (I : PySem.W.InstAt s.heap x ox C od) (hb : PySem.W.Looks (model prog w) s.heap (typeOf b) tb) (hn : PySem.W.notFirst K C tb = true)
    (hne : PySem.W.findIn K (.ref C) "__ne__" = some (some (.builtin "object.__ne__"))) (hm : PySem.W.mroIn K C (.type "object") = some true) (he : PySem.W.findIn K (.ref C) "__eq__" = some (some (.ref f))) (hf : PySem.W.isFn K (.ref f) = true)
    (h : wpAny (model prog w) A.in1 (call (.ref f) [.ref x, b]) (fun v s' => ∃ r, v = .bool r ∧ Q (.bool (!r)) s') E s) : wpAny (model prog w) A (richCompare .NotEq (.ref x) b) Q E s := by
  have X := X₀.keeps G.keep
  have one : wpAny (model prog w) A (tryCompare (.ref x) (cmpInfo .NotEq).2.1 b) (fun r s' => ∃ v, r = some v ∧ Q v s') E s := by
    show wpAny (model prog w) A (tryCompare (.ref x) "__ne__" b) _ E s
    unfold tryCompare
    refine wpAny_bind (ifBound_objNe X I hne (wpAny_call (codeAny_call_builtin F.cmp_object.ne.plain F.cmpEntry_ne (PySem.W.check_slot F.cmpKind_ne F.cmpSplit_ne (I.type.andThen (PySem.W.looks_mroIn X hm)) (F.cmpArgs_ne _ _)
      (objNe_entry (A := A.in1) X I he hf hu (wpAny_mono h (fun v s' hv => ?_) fun _ _ e => e))))))
    obtain ⟨r, rfl, hq⟩ := hv
    exact ⟨r, rfl, wpAny_pure ⟨_, rfl, hq⟩⟩
  unfold richCompare
  simp only [oneThing_ref]
  refine wpAny_holding (wpAny_bind (wpAny_cRoomFor (Nat.lt_of_succ_lt hu) ?_))
  refine wpAny_bind (I.type.here (wpAny_bind (hb.here ?_)))
  split
  · rename_i q
    have e : PySem.W.subIn K tb (.ref C) = some false := by
      rcases Bool.or_eq_true_iff.mp hn with e | e
      · rw [beq_iff_eq.mp e] at q; simp at q
      · exact beq_iff_eq.mp e
    refine wpAny_bind ((PySem.W.looks_subIn X e).here ?_)
    simp only [Bool.false_eq_true, if_false]
    refine wpAny_bind (wpAny_mono one (fun r s' z => ?_) fun _ _ e => e)
    obtain ⟨v, rfl, hq⟩ := z
    exact wpAny_pure hq
  · refine wpAny_bind (wpAny_pure ?_)
    simp only [Bool.false_eq_true, if_false]
    refine wpAny_bind (wpAny_mono one (fun r s' z => ?_) fun _ _ e => e)
    obtain ⟨v, rfl, hq⟩ := z
    exact wpAny_pure hq
end
end HNe
namespace DL
open PySem PySem.Spec PyProof.Rows L2 RZ
section
variable {X : Cx} {Wx : WX} {a b c e o f : Expr} {es : List Expr} {da db dc de do' df : DE} {pos apos : Pos}
/-- what a class with an own __eq__ and no own __ne__ has -/
structure NeC (K : PySem.W.Frag) (C : Addr) : Prop where
  ne : PySem.W.findIn K (.ref C) "__ne__" = some (some (.builtin "object.__ne__"))
  ob : PySem.W.mroIn K C (.type "object") = some true
theorem op_neO {k : Nat} {f : Addr} {fd : FuncData} {C : Addr} {g : DSp} (F : FnOk X.prog X.w X.K X.mg X.base (L2.CX X.prog X.w) k f fd ["self", "other"] (spD X.K g)) (hM : Meth X.K C "__eq__" f) (hN : NeC X.K C) (hr : Room (k + 1) X.A) (hb : Binds X.K fd ["self", "other"] []) :
    OpR X (compareOp .NotEq) (fun x y H Q => ∃ a dx fs t, (x = .ref a ∧ H a = some (.ins C dx fs)) ∧ (TyX X.K H y t ∧ PySem.W.notFirst X.K C t = true) ∧ spD X.K g [.ref a, y] H (fun v H' => ∃ b : Bool, v = .bl b ∧ Q (.bl (!b)) H') (fun _ _ _ => False)) := fun pins s σ H x y v u Q I rx ry ⟨a, dx, fs, t, ⟨ea, hq⟩, ⟨ty, nf⟩, h⟩ => by
  subst ea
  cases rx
  obtain ⟨m, fr⟩ := I.fr
  obtain ⟨mA, O, _⟩ := ins_get I.hok hq
  obtain ⟨od, J, _⟩ := O.look
  obtain ⟨P, Z, p, _⟩ := kit_of I ry ty
  show wpAny (model X.prog X.w) X.A (richCompare .NotEq (.ref a) u) (EP X pins σ Q) X.xe s
  refine HNe.ne_K (show X.A.units + 1 < cLine from hr.in1.units0) fr I.ok.mod.kin J (Z.ty _ _ I.kIn p) nf hN.ne hN.ob hM.at_ hM.fn (wpAny_mono (run_in1 (us := [.ref a, u]) (vs := [.ref a, y]) F hr hb nox_cx I (.cons rfl (.cons ry .nil)) h) (fun u s' z => ?_) fun _ _ z => z)
  obtain ⟨v, H', I', rv', b, ev, q⟩ := z
  subst ev
  obtain rfl : u = Value.bool b := rv'
  exact ⟨b, rfl, .bl (!b), H', I', rfl, q⟩
def dNeO (K : PySem.W.Frag) (C : Addr) (g : DSp) (da db : DE) : DE := fun env L k x => da env L (fun a L1 => db env L1 (fun b L2 => match con L2 a with
  | .obj C' _ _ => C' = C ∧ tyOk K C L2 b ∧ g [a, b] L2 (fun d L3 => ∃ r : Bool, d = .bl r ∧ k (.bl (!r)) L3) (fun _ _ => False)
  | _ => False) x) x
theorem ne_both {K : PySem.W.Frag} {n k : Nat} {C : Addr} {g : DSp} (hK : X.K = K) (F : MCal X.prog X.w X.K X.mg X.base n C "__eq__" ["self", "other"] [] g) (hN : NeC X.K C) (hn : n + 1 ≤ k) (hr : Room k X.A) (ha : QE X Wx a da) (hb : QE X Wx b db) (hmk : behindInMarks .NotEq b = false := by rfl) : ∃ te : TE, (PE X (.Compare a [.NotEq] [b] pos) te ∧ PT X (.Compare a [.NotEq] [b] pos) (tB te)) ∧ SimE X.K Wx te (dNeO K C g da db) := by
  subst hK
  obtain ⟨f, fd, us, dvs, F, hC, hM, hbi, hd, hdd⟩ := F.ex
  obtain rfl : dvs = [] := by cases hdd [] (fun _ => none); rfl
  cases hd
  obtain ⟨ta, pa, sa⟩ := ha.ex
  obtain ⟨tb, pb, sb⟩ := hb.ex
  refine ⟨_, ⟨pe_cmpR (op_neO F hM hN (hr.mono hn) hbi) pa pb hmk, pt_cmpR (op_neO F hM hN (hr.mono hn) hbi) pa pb hmk⟩, fun σ H env L k x Q st h hk hx => ?_⟩
  refine sa σ H env L _ x _ st h (fun a L1 va H1 h1 g1 j1 r1 => ?_) hx
  refine sb σ H1 env L1 _ x _ (st.go g1 j1) h1 (fun o L2 vo H2 h2 g2 j2 r2 => ?_) (hx.go g1)
  split at h2
  · rename_i C' ns ds hc
    obtain ⟨rfl, ht, h2⟩ := h2
    obtain ⟨q, dx, vs, rfl, hq, hl, rv⟩ := con_obj j2 (r1.go g2) hc
    have hty : ∃ t, TyX X.K H2 vo t ∧ PySem.W.notFirst X.K C' t = true := by
      unfold tyOk at ht
      split at ht
      · rename_i hc2
        exact ⟨_, tyX_obj j2 r2 hc2 ht.1, ht.2⟩
      · split at ht
        · rename_i t e
          exact ⟨_, tyX_con j2 r2 e, ht⟩
        · exact ht.elim
    obtain ⟨t, h3, h4⟩ := hty
    exact ⟨q, dx, _, t, ⟨rfl, hq⟩, ⟨h3, h4⟩, [a, o], L2, _, _, j2, .cons (r1.go g2) (.cons r2 .nil), h2, fun d L3 v H3 h3 g3 j3 r3 => by
      obtain ⟨b, e, h3⟩ := h3
      subst e
      cases r3
      exact ⟨b, rfl, hk _ L3 _ H3 h3 ((g1.trans g2).trans g3) j3 (.bl !b)⟩, fun n L' a H' z _ _ _ => z⟩
  · exact h2.elim
theorem t_neO {K : PySem.W.Frag} {n k : Nat} {C : Addr} {g : DSp} (hK : X.K = K) (F : MCal X.prog X.w X.K X.mg X.base n C "__eq__" ["self", "other"] [] g) (hN : NeC X.K C) (hn : n + 1 ≤ k) (hr : Room k X.A) (ha : QE X Wx a da) (hb : QE X Wx b db) (hmk : behindInMarks .NotEq b = false := by rfl) : QT X Wx (.Compare a [.NotEq] [b] pos) (dB (dNeO K C g da db)) := by
  obtain ⟨te, h, s⟩ := ne_both (Wx := Wx) (pos := pos) hK F hN hn hr ha hb hmk
  exact ⟨_, h.2, sim_B s⟩
end
end DL
namespace DL
open PySem PySem.Spec PyProof.Rows L2 RZ
section
end
section
open PySem.W PySem.Builtin PySem.Builtin.Str PySem.Builtin.Float
variable {prog : Program} {w : World} {A : Around} {E : Value → Shared → Prop} {s : Shared} {t : Tok} {x : Str}
abbrev f6 : FormatSpec := { fill := 32, align := 60, width := some 6 }
end
section
end
end DL
namespace DL
open PySem PySem.Spec PyProof.Rows L2 RZ
section
end
end DL
namespace DL
open PySem PySem.Spec PyProof.Rows L2
section
end
section
end
section
end
end DL
namespace DL
open PySem PySem.Spec PyProof.Rows L2
section
end
end DL
namespace DL
open PySem PySem.Spec PyProof.Rows L2
section
variable {κ : Type} [DecidableEq κ]
def lookG {α : Type} : List κ → List α → κ → Option α
  | a :: ks, d :: ds, k => if a = k then some d else lookG ks ds k
  | _, _, _ => none
def setG {α : Type} (k : κ) (v : α) : List κ → List α → List α
  | a :: ks, d :: ds => (if a = k then v else d) :: setG k v ks ds
  | _, _ => []
def putGk (k : κ) (ks : List κ) : List κ := if ks.any (fun a => decide (a = k)) = true then ks else ks ++ [k]
def putGv {α : Type} (k : κ) (v : α) (ks : List κ) (vs : List α) : List α := if ks.any (fun a => decide (a = k)) = true then setG k v ks vs else vs ++ [v]
theorem look_valG : ∀ (ks : List κ) (vs : List V) (k : κ), valV (ks.zip vs) k = lookG ks vs k
  | [], _, _ => rfl
  | _ :: _, [], _ => rfl
  | a :: ks, v :: vs, k => by
    show ((((a, v) :: ks.zip vs).find? fun kv => decide (kv.1 = k)).map (·.2)) = if a = k then some v else lookG ks vs k
    rw [List.find?_cons]
    by_cases e : a = k
    · rw [decide_eq_true e, if_pos e]; rfl
    · rw [decide_eq_false e, if_neg e]; exact look_valG ks vs k
theorem look_rpG {L : Led} {K : PySem.W.Frag} {H : Hp} (k : κ) : ∀ (ks : List κ) {vs : List V} {ds : List D}, RpAll L K H vs ds → match lookG ks ds k with
    | some d => ∃ v, lookG ks vs k = some v ∧ Rp L K H v d
    | none => lookG ks vs k = none
  | [], _, _, _ => rfl
  | a :: ks, _, _, .nil => rfl
  | a :: ks, _, _, .cons (v := v) (vs := vs) (d := d) (ds := ds) h r => by
    have ih := look_rpG k ks r
    show match (if a = k then some d else lookG ks ds k) with | some d => ∃ v', (if a = k then some v else lookG ks vs k) = some v' ∧ Rp L K H v' d | none => (if a = k then some v else lookG ks vs k) = none
    by_cases e : a = k
    · rw [if_pos e, if_pos e]; exact ⟨v, rfl, h⟩
    · rw [if_neg e, if_neg e]; exact ih
theorem setG_len {α : Type} (k : κ) (v : α) : ∀ (ks : List κ) (vs : List α), ks.length = vs.length → (setG k v ks vs).length = vs.length
  | [], [], _ => rfl
  | [], _ :: _, h => by cases h
  | _ :: _, [], h => by cases h
  | a :: ks, x :: vs, h => by
    show (setG k v ks vs).length + 1 = vs.length + 1
    rw [setG_len k v ks vs (by simpa using h)]
theorem set_zipG (k : κ) (v : V) : ∀ (ks : List κ) (vs : List V), (ks.zip vs).map (fun kv => if kv.1 = k then (kv.1, v) else kv) = ks.zip (setG k v ks vs)
  | [], _ => rfl
  | _ :: _, [] => rfl
  | a :: ks, x :: vs => by
    show (if a = k then (a, v) else (a, x)) :: (ks.zip vs).map _ = (a, if a = k then v else x) :: ks.zip (setG k v ks vs)
    rw [set_zipG k v ks vs]
    by_cases e : a = k
    · rw [if_pos e, if_pos e]
    · rw [if_neg e, if_neg e]
theorem any_zipG (k : κ) : ∀ (ks : List κ) (vs : List V), ks.length = vs.length → ((ks.zip vs).any fun kv => decide (kv.1 = k)) = ks.any fun a => decide (a = k)
  | [], _, _ => rfl
  | _ :: _, [], h => by cases h
  | a :: ks, x :: vs, h => by
    show (decide (a = k) || (ks.zip vs).any _) = (decide (a = k) || ks.any _)
    rw [any_zipG k ks vs (by simpa using h)]
theorem putG_zip (k : κ) (v : V) (ks : List κ) (vs : List V) (h : ks.length = vs.length) : putK (ks.zip vs) k v = (putGk k ks).zip (putGv k v ks vs) ∧ (putGk k ks).length = (putGv k v ks vs).length := by
  unfold putK putGk putGv
  rw [any_zipG k ks vs h]
  by_cases e : (ks.any fun a => decide (a = k)) = true
  · rw [if_pos e, if_pos e, if_pos e]
    exact ⟨set_zipG k v ks vs, by rw [setG_len k v ks vs h]; exact h⟩
  · rw [if_neg e, if_neg e, if_neg e]
    refine ⟨?_, by rw [List.length_append, List.length_append, h]; rfl⟩
    rw [List.zip_append h]
    rfl
theorem setG_rp {L : Led} {K : PySem.W.Frag} {H : Hp} {v : V} {d : D} (r : Rp L K H v d) (k : κ) : ∀ (ks : List κ) {vs : List V} {ds : List D}, RpAll L K H vs ds → RpAll L K H (setG k v ks vs) (setG k d ks ds)
  | [], _, _, _ => .nil
  | _ :: _, _, _, .nil => .nil
  | a :: ks, _, _, .cons h t => by
    unfold setG
    by_cases e : a = k
    · rw [if_pos e, if_pos e]; exact .cons r (setG_rp r k ks t)
    · rw [if_neg e, if_neg e]; exact .cons h (setG_rp r k ks t)
theorem putGv_rp {L : Led} {K : PySem.W.Frag} {H : Hp} {v : V} {d : D} (r : Rp L K H v d) (k : κ) (ks : List κ) {vs : List V} {ds : List D} (h : RpAll L K H vs ds) : RpAll L K H (putGv k v ks vs) (putGv k d ks ds) := by
  unfold putGv
  split
  · exact setG_rp r k ks h
  · exact h.append (.cons r .nil)
end
theorem con_dt {L : Led} {K : PySem.W.Frag} {H : Hp} {v : V} {d : D} {ks : List (List Key)} {ds : List D} (j : JL K L H) (r : Rp L K H v d) (e : con L d = .dt ks ds) : ∃ a vs, v = .ref a ∧ L2.Rd H a (.dT (ks.zip vs)) ∧ ks.length = vs.length ∧ RpAll L K H vs ds := by
  cases d with
  | ptr a =>
    cases r
    have e : (L.lookup a).getD (.ptr a) = _ := e
    cases h : L.lookup a with
    | none => rw [h] at e; cases e
    | some c =>
      rw [h] at e
      have e2 : c = .dt ks ds := e
      subst e2
      obtain ⟨vs, h1, h2, h3⟩ := j.look h
      exact ⟨a, vs, rfl, .inl h1, h2, h3⟩
  | dt ks2 ds2 =>
    have e2 : D.dt ks2 ds2 = .dt ks ds := e
    cases e2
    cases r with
    | dt n h e r => exact ⟨_, _, rfl, h, e, r⟩
  | _ => cases e
/-- a tuple of ints and texts, made here -/
def keysD : List D → Option (List Key)
  | [] => some []
  | .int i :: r => (keysD r).map (Sum.inl i :: ·)
  | .str z :: r => (keysD r).map (Sum.inr z :: ·)
  | _ => none
theorem keysD_rp {L : Led} {K : PySem.W.Frag} {H : Hp} : ∀ {ds : List D} {ks : List Key} {vs : List V}, keysD ds = some ks → RpAll L K H vs ds → vs = ks.map kV
  | [], ks, _, h, .nil => by cases h; rfl
  | d :: ds, ks, _, h, .cons h1 h2 => by
    cases d <;> first | (cases h; done) | skip
    · unfold keysD at h
      obtain ⟨l, hl, rfl⟩ := Option.map_eq_some_iff.mp h
      cases h1
      rw [keysD_rp hl h2]
      rfl
    · unfold keysD at h
      obtain ⟨l, hl, rfl⟩ := Option.map_eq_some_iff.mp h
      cases h1
      rw [keysD_rp hl h2]
      rfl
section
variable {X : Cx} {Wx : WX} {a b c e o f : Expr} {es : List Expr} {da db dc de do' df : DE} {dl : DA} {pos apos : Pos}
def dKt (dl : DA) : DE := fun env L k x => dl env L (fun ds L1 => match keysD ds with
  | some ks => ds.length ≤ sizeLine ∧ k (.kt ks) L1
  | none => False) x
theorem q_kt {x1} (h : QA X Wx es dl) : QE X Wx (.Tuple es x1 pos) (dKt dl) := by
  obtain ⟨ta, pa, sa⟩ := h.ex
  refine ⟨_, pe_tup pa, fun σ H env L k x Q st h hk hx => ?_⟩
  refine sa σ H env L _ x _ st h (fun ds L1 vs H1 h1 g1 j1 r1 => ?_) hx
  split at h1
  · rename_i ks hks
    have e := keysD_rp hks r1
    refine ⟨by rw [r1.length]; exact h1.1, fun p hp => ?_⟩
    have s := same_new hp (.tup vs)
    exact hk _ L1 _ _ h1.2 (g1.trans (Go.same s)) (j1.same s) (.kt (j1.notIn hp) (by rw [← e]; exact upd_same))
  · exact h1.elim
theorem kt_of {L : Led} {K : PySem.W.Frag} {H : Hp} {v : V} {ks : List Key} (r : Rp L K H v (.kt ks)) : ∃ b, v = .ref b ∧ ¬ inL L b ∧ H b = some (.tup (ks.map kV)) := by
  cases r with
  | kt n h => exact ⟨_, rfl, n, h⟩
/-- {} with tuples as keys, onto the ledger -/
def dDNewT : DE := fun _ L k _ => ∀ p, ¬ inL L p → k (.ptr p) ((p, .dt [] []) :: L)
theorem q_dnewT : QE X Wx (.Dict [] [] pos) dDNewT := ⟨_, pe_dnewT, fun σ H env L k x Q st h hk hx p hp => by
  obtain ⟨j2, g2⟩ := st.2.push (d := .dt [] []) hp (o := .dT []) ⟨[], upd_same, rfl, .nil⟩
  exact hk _ _ _ _ (h p (st.2.notIn hp)) g2 j2 (.ptr p)⟩
def keyT : D → Option (List Key)
  | .kt ks => some ks
  | _ => none
theorem keyT_of {L : Led} {K : PySem.W.Frag} {H : Hp} {v : V} {d : D} {q : List Key} (r : Rp L K H v d) (h : keyT d = some q) : ∃ b, v = .ref b ∧ ¬ inL L b ∧ H b = some (.tup (q.map kV)) := by
  cases d <;> first | (cases h; done) | skip
  cases h
  exact kt_of r
/-- d.get(k, x) -/
def dGetT (do' de df : DE) : DE := fun env L k x => do' env L (fun o L1 => (match con L1 o with
  | .dt _ _ => True
  | _ => False) ∧ de env L1 (fun b L2 => df env L2 (fun c L3 => match con L3 o, keyT b with
  | .dt ks ds, some q => k ((lookG ks ds q).getD c) L3
  | _, _ => False) x) x) x
theorem q_getT (hu : X.A.units + 64 < cLine) {apos : Pos} (ho : QE X Wx o do') (he : QE X Wx e de) (hf : QE X Wx f df) (m : M2 X o "get" apos e f pos := by exact ⟨rfl, rfl, rfl, rfl⟩) : QE X Wx (.Call (.Attribute o "get" apos) [e, f] [] pos) (dGetT do' de df) := by
  obtain ⟨to, po, so⟩ := ho.ex
  obtain ⟨te, pe, se⟩ := he.ex
  obtain ⟨tf, pf, sf⟩ := hf.ex
  refine ⟨_, pe_dget2 (by omega) po pe pf m, fun σ H env L k x Q st h hk hx => ?_⟩
  refine so σ H env L _ x _ st h (fun o L1 vo H1 h1 g1 j1 r1 => ?_) hx
  obtain ⟨h0, h1⟩ := h1
  split at h0
  rotate_left
  · exact h0.elim
  rename_i ks0 ds0 hc0
  obtain ⟨p, vs0, rfl, hp0, hl0, rv0⟩ := con_dt j1 r1 hc0
  refine ⟨p, rfl, .inr ⟨_, hp0⟩, ?_⟩
  refine se σ H1 env L1 _ x _ (st.go g1 j1) h1 (fun b L2 vb H2 h2 g2 j2 r2 => ?_) (hx.go g1)
  refine sf σ H2 env L2 _ x _ (st.go (g1.trans g2) j2) h2 (fun c L3 vc H3 h3 g3 j3 r3 => ?_) (hx.go (g1.trans g2))
  split at h3
  · rename_i ks ds q hd hq
    obtain ⟨p1, vs, e1, hp, hl, rv⟩ := con_dt j3 ((r1.go g2).go g3) hd
    cases e1
    obtain ⟨b0, e2, _, hb⟩ := keyT_of (r2.go g3) hq
    subst e2
    have hr := look_rpG q ks rv
    refine ⟨_, .inr ⟨_, q, b0, hp, rfl, hb, rfl⟩, ?_⟩
    rw [look_valG]
    have gg := (g1.trans g2).trans g3
    cases hq2 : lookG ks ds q with
    | some d0 =>
      rw [hq2] at hr h3
      obtain ⟨v0, e3, rv3⟩ := hr
      rw [e3]
      exact hk _ L3 _ H3 h3 gg j3 rv3
    | none =>
      rw [hq2] at hr h3
      have hr : lookG ks vs q = none := hr
      rw [hr]
      exact hk _ L3 _ H3 h3 gg j3 r3
  · exact h3.elim
/-- d[k] -/
def gIxT : G2 := fun a b L k => match con L a, keyT b with
  | .dt ks ds, some q => match lookG ks ds q with
    | some d => k d
    | none => False
  | _, _ => False
theorem q_ixT (hu : X.A.units + 64 < cLine) (ha : QE X Wx a da) (hb : QE X Wx b db) (hs : NoSl b := by intro _ _; rfl) : QE X Wx (.Subscript a b pos) (dOp gIxT da db) := by
  obtain ⟨ta, pa, sa⟩ := ha.ex
  obtain ⟨tb, pb, sb⟩ := hb.ex
  refine ⟨_, pe_dget (by omega) pa pb hs, fun σ H env L k x Q st h hk hx => ?_⟩
  refine sa σ H env L _ x _ st h (fun a L1 va H1 h1 g1 j1 r1 => ?_) hx
  refine sb σ H1 env L1 _ x _ (st.go g1 j1) h1 (fun b L2 vb H2 h2 g2 j2 r2 => ?_) (hx.go g1)
  unfold gIxT at h2
  split at h2
  · rename_i ks ds q hd hq
    obtain ⟨p, vs, rfl, hp, hl, rv⟩ := con_dt j2 (r1.go g2) hd
    obtain ⟨b0, e2, _, hb0⟩ := keyT_of r2 hq
    subst e2
    have hr := look_rpG q ks rv
    split at h2
    · rename_i d hd2
      rw [hd2] at hr
      obtain ⟨v, e1, rv2⟩ := hr
      exact ⟨p, v, rfl, .inr ⟨_, q, b0, hp, rfl, hb0, by rw [look_valG]; exact e1.symm⟩, hk d L2 v H2 h2 (g1.trans g2) j2 rv2⟩
    · exact h2.elim
  · exact h2.elim
/-- d[k] = v, d of the ledger -/
def dStoreT (de do' di : DE) : DS := fun D env L => de env L (fun v L1 => do' env L1 (fun o L2 => di env L2 (fun i L3 => match o, keyT i with
  | .ptr p, some q => match L3.lookup p with
    | some (.dt ks ds) => ks.length < sizeLine ∧ D.nx env (setL L3 p (.dt (putGk q ks) (putGv q v ks ds)))
    | _ => False
  | _, _ => False) D.ex) D.ex) D.ex
theorem s_storeT {i : Expr} {di : DE} {ip : Pos} (hu : X.A.units + 64 < cLine) (he : QE X Wx e de) (ho : QE X Wx o do') (hi : QE X Wx i di) (hs : swapsWith e (some (.Subscript o i ip)) pos.line X.env = pure false := by rfl) : QS X Wx (.Assign [.Subscript o i ip] e pos) (dStoreT de do' di) := by
  obtain ⟨te, pe, se⟩ := he.ex
  obtain ⟨to, po, so⟩ := ho.ex
  obtain ⟨ti, pi, si⟩ := hi.ex
  refine ⟨_, ps_dput (by omega) po pi pe hs, fun σ H env L D2 D st h ok => ?_⟩
  refine se σ H env L _ _ _ st h (fun v L1 vv H1 h1 g1 j1 r1 => ?_) ok.ex
  refine so σ H1 env L1 _ _ _ (st.go g1 j1) h1 (fun o L2 vo H2 h2 g2 j2 r2 => ?_) (ok.ex.go g1)
  refine si σ H2 env L2 _ _ _ ((st.go g1 j1).go g2 j2) h2 (fun i L3 vi H3 h3 g3 j3 r3 => ?_) ((ok.ex.go g1).go g2)
  replace r2 := r2.go g3
  replace r1 := (r1.go g2).go g3
  split at h3
  · rename_i p q hq
    cases r2 with
    | ptr p =>
    obtain ⟨b0, e2, _, hb0⟩ := keyT_of r3 hq
    subst e2
    split at h3
    · rename_i ks ds hl
      obtain ⟨vs, e1, e2, rv⟩ := j3.look hl
      have hp := inL_of_lookup hl
      obtain ⟨z1, z2⟩ := putG_zip q vv ks vs e2
      refine ⟨p, _, rfl, .inr ⟨_, q, b0, e1, rfl, hb0, by rw [List.length_zip]; have := h3.1; omega, rfl⟩, ?_⟩
      rw [z1]
      have g4 : Go L3 (setL L3 p (.dt (putGk q ks) (putGv q v ks ds))) H3 (upd H3 p (.dT ((putGk q ks).zip (putGv q vv ks vs)))) := go_set hp
      have j4 : JL X.K (setL L3 p (.dt (putGk q ks) (putGv q v ks ds))) (upd H3 p (.dT ((putGk q ks).zip (putGv q vv ks vs)))) := j3.put hp ⟨_, upd_same, z2, putGv_rp (r1.go g4) q ks (rv.go g4)⟩
      exact ok.nx env _ σ _ h3.2 (((g1.trans g2).trans g3).trans g4) (st.go (((g1.trans g2).trans g3).trans g4) j4)
    · exact h3.elim
  · exact h3.elim
end
end DL
namespace DL
open PySem PySem.Spec PyProof.Rows L2
/-- the entries of a locked dict with tuples as keys -/
theorem frzE {X : Cx} {pp : List (Addr × Obj)} {σ : L2.St} {H : Hp} {s : Shared} {m : Addr} {om : Obj} {es : List (List Key × V)} (I : Inv X pp σ H s) (h : H m = some (.frz om (.dT es))) :
    (m == sysModules) = false ∧ es.length ≤ sizeLine ∧ ∃ (en : Array DictEntry) (ep : Nat), DT.Raw s.heap m en ep ∧ om.data = .dict en ep ∧ en.size = es.length ∧
      ∀ (i : Nat) (k : List Key) (v : V), es[i]? = some (k, v) → ∃ (hi : i < en.size) (q : Addr), en[i].key = .ref q ∧ H q = some (.tup (k.map kV)) ∧ RelV v en[i].val := by
  obtain ⟨at1, z, hs, xs, pr, o', en, ep, at2, ex, dat, he, _⟩ := I.hok m _ h
  have eo : o' = om := by rw [at1] at at2; exact (Option.some.inj at2).symm
  subst eo
  have l1 := size_of_entries he
  have l2 := Paired.length pr
  refine ⟨hs, z, en, ep, ⟨o', at1, ex, dat⟩, dat, by omega, fun i k v e => ?_⟩
  obtain ⟨b, hb, e1, e2, e3⟩ := L2.paired_get pr e
  have hq := entry_at he i
  rw [hb] at hq
  obtain ⟨hi, e4⟩ := Array.getElem?_eq_some_iff.mp hq
  refine ⟨hi, b.2.1, by rw [e4]; rfl, e2, ?_⟩
  rw [e4]
  exact e3
/-- the pairs of the locked dict at m, each a new tuple of the key's own tuple and the value -/
def ItT (m : Addr) (om : Obj) (es : List (List Key × V)) : L2.It :=
  ⟨fun i H => H m = some (.frz om (.dT es)) ∧ i < es.length, fun i H x H' => ∃ T q k v, es[i]? = some (k, v) ∧ x = .ref T ∧ H T = none ∧ H q = some (.tup (k.map kV)) ∧ H' = upd H T (.tup [.ref q, v]), fun i H => H m = some (.frz om (.dT es)) ∧ es.length ≤ i⟩
section
variable {P : Program} {w : World} {K : PySem.W.Frag} {om : Obj} {en : Array DictEntry} {ep : Nat} {m : Addr} {es : List (List Key × V)}
theorem turnT {els : List Expr} {kk : Nat} {tp : Pos} (it : Addr) (dat0 : om.data = .dict en ep) : Turn P w K (.Tuple els kk tp) (ItT m om es) [it] it (fun i h => ∃ a b, IsItemIter h it m i es.length ep a b) where
  mem := List.mem_singleton.mpr rfl
  obj := fun i h st b hb => by
    rw [List.mem_singleton.mp hb]
    exact st.elim fun _ z => z.elim fun _ e => ⟨_, e, fun v z => nomatch z⟩
  keep := fun i h h2 st k => st.elim fun a z => z.elim fun b e => ⟨a, b, k it List.mem_cons_self _ e⟩
  item := by
    intro X hP hw hK hc i pp s σ H E I hf st ⟨hd, hi⟩
    subst hP hw hK
    obtain ⟨hs, hz, en2, ep2, raw, dat, hsz, ent⟩ := frzE I hd
    obtain ⟨rfl, rfl⟩ := dict_ep dat0 dat
    obtain ⟨hi2, q, e1, e2, e3⟩ := ent i es[i].1 es[i].2 (List.getElem?_eq_getElem hi)
    obtain ⟨a, b, he⟩ := st
    rw [← hsz] at he
    have low : it < s.heap.objs.size := Heap.lt_size he
    refine DT.nextI he raw hi2 fun h1 out hT hz1 hk => ⟨_, rfl, wpAny_letOwnedTupleGo_items (s := { s with heap := h1 }) out fun h2 he2 sb => ?_⟩
    have hT2 := (sb.2 _ (Nat.ne_of_gt low)).trans hT
    have I1 : Inv X pp σ (upd H s.heap.objs.size (.tup [.ref q, es[i].2])) { s with heap := h2 } := by
      refine I.turnedNew (t' := s.toks) (ch := [it]) (fun c oc hc e => (sb.2 c fun z => hc (List.mem_singleton.mpr z)).trans (hk c oc (fun z => hc (List.mem_singleton.mpr z)) e)) hf (Nat.le_refl _) ?_
      refine ⟨by show 2 ≤ sizeLine; decide, [en2[i].key, en2[i].val], .cons ?_ (.cons e3 .nil), _, hT2, rfl, _, rfl⟩
      rw [e1]
      exact (rfl : Value.ref q = .ref q)
    refine ⟨.ref s.heap.objs.size, _, I1, rfl, ⟨_, q, _, _, List.getElem?_eq_getElem hi, rfl, I.hok.fresh (Nat.le_refl _), e2, rfl⟩, ⟨_, _, by rw [← hsz]; exact he2⟩, fun c hc => ?_⟩
    rw [List.mem_singleton.mp hc, upd_ne (Nat.ne_of_lt low)]
    exact (hf it List.mem_cons_self).1
  done := by
    intro X hP hw hK hc i pp s σ H E I hf st ⟨hd, hi⟩
    subst hP hw hK
    obtain ⟨f0, f1, f2, f3, f4, f5⟩ := hf it List.mem_cons_self
    obtain ⟨hs, hz, en2, ep2, raw, dat, hsz, ent⟩ := frzE I hd
    obtain ⟨rfl, rfl⟩ := dict_ep dat0 dat
    obtain ⟨a, b, he⟩ := st
    rw [← hsz] at he
    exact DT.endI (I.ok.hd hc) he raw (by omega) fun h1 eb => ⟨rfl, I.turned (t' := s.toks) (fun c oc hc e => eb c oc hc e) f0 f1 f3 f4 f5⟩
  self := fun A i s Q E st h => st.elim fun _ z => z.elim fun _ e => PySem.W.kcp_self e h
end
/-- the dict is locked by the loop itself (or was locked before), and stays so -/
def iItemsT (td : TE) : TI := fun σ H R => td σ H fun x H1 => ∃ m es, x = .ref m ∧ ((H1 m = some (.dT es) ∧ ∀ om, R (ItT m om es) (upd H1 m (.frz om (.dT es)))) ∨ ∃ om, H1 m = some (.frz om (.dT es)) ∧ R (ItT m om es) H1)
section
variable {X : Cx} {td : TE} {e : Expr} {apos cpos : Pos}
theorem pi_itemsT {els : List Expr} {kk : Nat} {tp : Pos} (he : PE X e td) (hbase : attributeBase e "items" X.env (eval e X.env) = eval e X.env := by rfl) (hline : (apos.endLine == cpos.line) = true := by rfl) :
    PI X (.Tuple els kk tp) (.Call (.Attribute e "items" apos) [] [] cpos) (iItemsT td) := by
  refine ⟨fun pp s σ H R I h => ?_⟩
  refine wpAny_Call_method (T := "dict") (id := "dict.items") hbase rfl hline F.plainAttrs_dict F.slot_dict_items F.type_dict_items (thn (he.run pp s σ H _ I h) fun u s1 ⟨x, H1, I1, rx, m, es, ex, q⟩ => ?_)
  subst ex
  obtain rfl : u = Value.ref m := rx
  obtain ⟨om, H2, I2, h2, q2⟩ : ∃ om H2, Inv X pp σ H2 s1 ∧ H2 m = some (.frz om (.dT es)) ∧ R (ItT m om es) H2 := by
    rcases q with ⟨h1, q⟩ | ⟨om, h1, q⟩
    · obtain ⟨om, I2⟩ := I1.lock h1 True.intro
      exact ⟨om, _, I2, upd_same, q om⟩
    · exact ⟨om, H1, I1, h1, q⟩
  obtain ⟨hs, hz, en, ep, raw, dat, hsz, ent⟩ := frzE I2 h2
  obtain ⟨t1, t2, _⟩ := isD_at I2 (.inr ⟨es, .inr ⟨om, h2⟩⟩)
  refine ⟨t1, t2, ?_⟩
  have I3 : Inv X pp σ H2 { s1 with heap := s1.heap.push { cls := .type "dict_items", data := .fields #[.ref m] } } := I2.kept (t' := s1.toks) fun b ob z => Heap.get?_push_of_some _ z
  have go : wpAny (model X.prog X.w) X.A (pyIter (.ref s1.heap.objs.size)) (PIE X pp σ (.Tuple els kk tp) R) X.xe { s1 with heap := s1.heap.push { cls := .type "dict_items", data := .fields #[.ref m] } } := by
    refine DT.iterI (d := m) ⟨_, Heap.get?_push_size _ rfl, rfl, rfl⟩ (raw.push _) (pi_one (tk := s1.toks) I3 _ (turnT _ dat) ⟨.none, .none, ?_⟩ q2)
    rw [← hsz]
    exact Heap.get?_push_size _ rfl
  show wpAny _ _ (callWith cpos (.builtin "dict.items") [.ref m] [] []) _ X.xe s1
  exact method_meetsIn F.slot_dict_items F.entry_dict_items rfl (PySem.evalArgs_none ⟨rfl, t1, F.args_dict_items_1 _, _, DT.meetsItems (es := en) (ep := ep) hs, raw, go⟩)
end
end DL
namespace DL
open PySem PySem.Spec PyProof.Rows L2
section
variable {L L' : Led} {K : PySem.W.Frag} {H H' : Hp} {m : Addr} {om : Obj}
/-- no tuple stands in the ledger -/
theorem JL.notTup (j : JL K L H) {q : Addr} {xs : List V} (h : H q = some (.tup xs)) : ¬ inL L q := fun hm => by
  obtain ⟨e, he, rfl⟩ := List.mem_map.mp hm
  have ow := j.own e.1 e.2 he
  cases hd : e.2 with
  | lst ds => rw [hd] at ow; obtain ⟨vs, e1, _⟩ := ow; rw [h] at e1; cases e1
  | dk ks ds => rw [hd] at ow; obtain ⟨vs, e1, _⟩ := ow; rw [h] at e1; cases e1
  | dt ks ds => rw [hd] at ow; obtain ⟨vs, e1, _⟩ := ow; rw [h] at e1; cases e1
  | obj C ns ds => rw [hd] at ow; obtain ⟨dx, vs, e1, _⟩ := ow; rw [h] at e1; cases e1
  | tab q => rw [hd] at ow; obtain ⟨ps, e1, _⟩ := ow; rw [h] at e1; cases e1
  | _ => rw [hd] at ow; exact ow.elim
theorem go_lock {es : List (List Key × V)} (n : ¬ inL L m) (h : H m = some (.dT es)) : Go L L H (upd H m (.frz om (.dT es))) := fun a o na e => by
  by_cases ha : a = m
  · subst ha
    rw [h] at e
    cases e
    exact ⟨na, .inr ⟨rfl, om, upd_same⟩⟩
  · exact ⟨na, .inl (by rw [upd_ne ha]; exact e)⟩
theorem JL.lock {es : List (List Key × V)} (j : JL K L H) (n : ¬ inL L m) (h : H m = some (.dT es)) : JL K L (upd H m (.frz om (.dT es))) :=
  ⟨j.nd, fun a d hm => Own.move (j.own a d hm) (go_lock n h) fun o e => by
    rw [upd_ne (fun z => n (by rw [← z]; exact List.mem_map.mpr ⟨(a, d), hm, rfl⟩))]
    exact e⟩
/-- the pairs of a dict -/
def itmsD : List (List Key) → List D → List D
  | k :: ks, d :: ds => .tup [.kt k, d] :: itmsD ks ds
  | _, _ => []
theorem itmsD_get : ∀ {ks : List (List Key)} {ds : List D} {i : Nat} {d : D}, (itmsD ks ds)[i]? = some d → ∃ k e, ks[i]? = some k ∧ ds[i]? = some e ∧ d = .tup [.kt k, e]
  | [], _, _, _, h => by simp [itmsD] at h
  | _ :: _, [], _, _, h => by simp [itmsD] at h
  | k :: ks, e :: ds, 0, d, h => by
    simp [itmsD] at h
    exact ⟨k, e, rfl, rfl, h.symm⟩
  | k :: ks, e :: ds, i + 1, d, h => by
    obtain ⟨x, y, h1, h2, h3⟩ := itmsD_get (ks := ks) (ds := ds) (i := i) (d := d) (by simpa [itmsD] using h)
    exact ⟨x, y, by simpa using h1, by simpa using h2, h3⟩
theorem itmsD_len : ∀ (ks : List (List Key)) (ds : List D), ks.length = ds.length → (itmsD ks ds).length = ks.length
  | [], [], _ => rfl
  | [], _ :: _, h => by cases h
  | _ :: _, [], h => by cases h
  | k :: ks, d :: ds, h => by
    show (itmsD ks ds).length + 1 = ks.length + 1
    rw [itmsD_len ks ds (by simpa using h)]
theorem it_itemsT {ks : List (List Key)} {vs : List V} {ds : List D} (n : ¬ inL L m) (hm : H m = some (.frz om (.dT (ks.zip vs)))) (hl : ks.length = vs.length) (r : RpAll L K H vs ds) : ItD K L H (ItT m om (ks.zip vs)) (itmsD ks ds) := fun L2 H2 g j i => by
  have hm2 := (g.at' n hm).2
  have hld : ks.length = ds.length := by rw [hl, r.length]
  have hlz : (ks.zip vs).length = ks.length := by rw [List.length_zip]; omega
  refine ⟨fun d hd => ?_, fun hi => ⟨hm2, by rw [itmsD_len ks ds hld] at hi; omega⟩⟩
  obtain ⟨k, e, q1, q2, rfl⟩ := itmsD_get hd
  obtain ⟨ve, hve, re⟩ := (r.go g).get q2
  have hik : i < ks.length := by
    rcases Nat.lt_or_ge i ks.length with z | z
    · exact z
    · rw [List.getElem?_eq_none z] at q1; cases q1
  refine ⟨⟨hm2, by omega⟩, fun x H3 yl => ?_⟩
  obtain ⟨T, q, k2, v2, e1, rfl, nT, hq, rfl⟩ := yl
  have e2 : (ks.zip vs)[i]? = some (k, ve) := by
    rw [List.getElem?_zip_eq_some]
    exact ⟨q1, hve⟩
  rw [e2] at e1
  cases e1
  have s := same_new nT (.tup [.ref q, ve])
  exact ⟨s, .tup (.inl ⟨j.notIn nT, .inl upd_same⟩) (.cons (.kt (j.notTup hq) (s q _ hq)) (.cons (re.go (Go.same s)) .nil))⟩
end
section
variable {X : Cx} {Wx : WX} {a b c e o f : Expr} {es : List Expr} {da db dc de do' df : DE} {dl : DA} {pos apos cpos : Pos}
def diItemsT (da : DE) : DI := fun env L k x => da env L (fun d L1 => match d with
  | .dt ks ds => k (itmsD ks ds) L1
  | _ => False) x
theorem i_itemsT {els : List Expr} {kk : Nat} {tp : Pos} (h : QE X Wx e da) (hbase : attributeBase e "items" X.env (eval e X.env) = eval e X.env := by rfl) (hline : (apos.endLine == cpos.line) = true := by rfl) :
    QI X Wx (.Tuple els kk tp) (.Call (.Attribute e "items" apos) [] [] cpos) (diItemsT da) := by
  obtain ⟨ta, pa, sa⟩ := h.ex
  refine ⟨_, pi_itemsT pa hbase hline, fun σ H env L k x R st h hk hx => ?_⟩
  refine sa σ H env L _ x _ st h (fun d L1 v H1 h1 g1 j1 r1 => ?_) hx
  split at h1
  · rename_i ks ds
    cases r1 with
    | dt n hm hl r =>
    rcases hm with hm | ⟨om, hm⟩
    · refine ⟨_, _, rfl, .inl ⟨hm, fun om => ?_⟩⟩
      have g2 := go_lock (om := om) n hm
      have j2 := j1.lock (om := om) n hm
      exact hk _ L1 _ _ h1 (g1.trans g2) j2 (it_itemsT n upd_same hl (r.go g2))
    · exact ⟨_, _, rfl, .inr ⟨om, hm, hk _ L1 _ H1 h1 g1 j1 (it_itemsT n hm hl r)⟩⟩
  · exact h1.elim
def gListT : GC := fun ds L k => match ds with
  | [d] => match con L d with
    | .dt ks _ => k (.lst (ks.map D.kt))
    | _ => False
  | _ => False
theorem keys_rp {L : Led} {K : PySem.W.Frag} {H : Hp} (j : JL K L H) : ∀ {ks : List (List Key)} {vs : List V} {bs : List Addr}, ks.length = vs.length → IsKeys H (ks.zip vs) bs → RpAll L K H (bs.map V.ref) (ks.map D.kt)
  | [], [], _, _, h => by cases h; exact .nil
  | [], _ :: _, _, h, _ => by cases h
  | _ :: _, [], _, h, _ => by cases h
  | k :: ks, v :: vs, _, hl, h => by
    cases h with
    | cons h t => exact .cons (.kt (j.notTup h) h) (keys_rp j (by simpa using hl) t)
theorem cq_listT (hc : X.calm = true) : CQ X (.type "list") gListT := ⟨_, call_list_dT hc, fun H L vs ds k Q j r h hk => by
  unfold gListT at h
  split at h
  · cases r with
    | cons r1 r2 =>
      cases r2
      split at h
      · rename_i ks us hd
        obtain ⟨a, ws, rfl, hs, hl, rv⟩ := con_dt j r1 hd
        refine ⟨a, _, rfl, hs, fun p bs hp hb => ?_⟩
        have s := same_new hp (.lst (bs.map V.ref))
        exact hk _ _ _ h s (.lst (j.notIn hp) upd_same ((keys_rp j hl hb).go (Go.same s)))
      · exact h.elim
  · exact h.elim⟩
end
end DL
namespace DL
open PySem PySem.Spec PyProof.Rows L2
section
end
section
end
section
end
end DL
namespace DL
open PySem PySem.Spec PyProof.Rows L2
section
variable {X : Cx} {Wx : WX} {a b c e o f : Expr} {es : List Expr} {da db dc de do' df : DE} {dl : DA} {pos apos cpos p : Pos}
def pairT (p : Int × Int) : D := .kt [.inl p.1, .inl p.2]
def pairsT : List D → Option (List (Int × Int))
  | [] => some []
  | .kt [.inl i, .inl j] :: r => (pairsT r).map ((i, j) :: ·)
  | _ => none
theorem pairsT_eq : ∀ {ds : List D} {ps : List (Int × Int)}, pairsT ds = some ps → ds = ps.map pairT
  | [], _, h => by cases h; rfl
  | d :: ds, ps, h => by
    unfold pairsT at h
    split at h
    · rename_i e; cases e
    · rename_i i j r e
      cases e
      obtain ⟨l, hl, rfl⟩ := Option.map_eq_some_iff.mp h
      rw [pairsT_eq hl]
      rfl
    · cases h
theorem pairsT_map : ∀ ps : List (Int × Int), pairsT (ps.map pairT) = some ps
  | [] => rfl
  | (i, j) :: ps => by
    show (pairsT (ps.map pairT)).map ((i, j) :: ·) = some ((i, j) :: ps)
    rw [pairsT_map ps]
    rfl
def gSortP : GC := fun ds L k => match ds with
  | [d] => match con L d with
    | .lst xs => match pairsT xs with
      | some ps => ∀ qs : List (Int × Int), qs.Perm ps → qs.Pairwise (fun x y => SrtO.lexB y x = false) → k (.lst (qs.map pairT))
      | none => False
    | _ => False
  | _ => False
/-- the pair of ints that is tracked at a value -/
def pairOf (H : Hp) : V → Int × Int
  | .ref t => match H t with
    | some (.tup [.int i, .int j]) => (i, j)
    | _ => (0, 0)
  | _ => (0, 0)
theorem rp_pair {L : Led} {K : PySem.W.Frag} {H : Hp} {v : V} {q : Int × Int} (r : Rp L K H v (pairT q)) : ∃ t, v = .ref t ∧ ¬ inL L t ∧ H t = some (.tup [.int q.1, .int q.2]) ∧ pairOf H v = q := by
  obtain ⟨t, rfl, n, h⟩ := kt_of r
  refine ⟨t, rfl, n, h, ?_⟩
  have h2 : H t = some (.tup [.int q.1, .int q.2]) := h
  unfold pairOf
  simp only [h2]
theorem rps_pair {L : Led} {K : PySem.W.Frag} {H : Hp} : ∀ {ps : List (Int × Int)} {vs : List V}, RpAll L K H vs (ps.map pairT) → vs.map (pairOf H) = ps ∧ ∀ v ∈ vs, Rp L K H v (pairT (pairOf H v))
  | [], _, h => by cases h; exact ⟨rfl, fun v h => nomatch h⟩
  | q :: ps, _, h => by
    cases h with
    | cons r t =>
      obtain ⟨i1, i2⟩ := rps_pair t
      obtain ⟨_, _, _, _, e⟩ := rp_pair r
      refine ⟨by rw [List.map_cons, e, i1], fun v hv => ?_⟩
      rcases List.mem_cons.mp hv with rfl | hv
      · rw [e]; exact r
      · exact i2 v hv
theorem rps_all {L : Led} {K : PySem.W.Frag} {H : Hp} {f : V → D} : ∀ {vs : List V}, (∀ v ∈ vs, Rp L K H v (f v)) → RpAll L K H vs (vs.map f)
  | [], _ => .nil
  | _ :: _, h => .cons (h _ List.mem_cons_self) (rps_all fun v hv => h v (List.mem_cons_of_mem _ hv))
theorem cq_sortP : CQ X (.builtin "sorted") gSortP := ⟨_, cr_sortedPO, fun H L vs ds k Q j r h hk => by
  unfold gSortP at h
  split at h
  · cases r with
    | cons r1 r2 =>
      cases r2
      split at h
      · rename_i xs hcd
        split at h
        · rename_i ps hps
          obtain ⟨q, ws, rfl, hq, rw0⟩ := con_lst j r1 hcd
          rw [pairsT_eq hps] at rw0
          obtain ⟨e1, e2⟩ := rps_pair rw0
          refine ⟨q, ws, pairOf H, rfl, SqL.of hq, fun x hx => ?_, fun ys p srt stb hp => ?_⟩
          · obtain ⟨t, et, _, ht, _⟩ := rp_pair (e2 x hx)
            exact ⟨t, et, ht⟩
          · have s := same_new hp (.lst ys)
            have rys : RpAll L X.K H ys (ys.map fun y => pairT (pairOf H y)) := rps_all fun v hv => e2 v (stb.perm.mem_iff.mp hv)
            refine hk (.lst ((ys.map (pairOf H)).map pairT)) _ _ (h (ys.map (pairOf H)) (by rw [← e1]; exact stb.perm.map _) (List.pairwise_map.mpr srt)) s (.lst (j.notIn hp) upd_same ?_)
            rw [List.map_map]
            exact rys.go (Go.same s)
        · exact h.elim
      · exact h.elim
  · exact h.elim⟩
end
end DL
namespace DL
open PySem PySem.Spec PyProof.Rows L2
/-- the comprehension puts v at a tuple -/
theorem dcPut {X : Cx} {pp : List (Addr × Obj)} {σ : L2.St} {H : Hp} {s : Shared} {E : Value → Shared → Prop} {N b : Addr} {es : List (List Key × V)} {k : List Key} {v : V} {r : Value} {Q : Unit → Shared → Prop} (room : X.A.units < cLine) (I : Inv X pp σ H s) (at0 : H N = some (.dT es)) (few : es.length < sizeLine)
    (hb : H b = some (.tup (k.map kV))) (rv : RelV v r) (go : ∀ s2, Inv X pp σ (upd H N (.dT (putK es k v))) s2 → Q () s2) : wpAny (model X.prog X.w) X.A (dictSet N (.ref b) r) Q E s := by
  obtain ⟨z, nm, xs, rel, dd⟩ := dt_of I.hok at0
  have few2 : xs.length ≤ sizeLine := Paired.length rel ▸ z
  have few3 : (putK es k v).length ≤ sizeLine := Nat.le_trans (length_putK es k v) few
  refine wpAny_dictSet_heap (hsz := few2) room (L2.key_of I.hok hb) dd fun h2 dd2 sb => go _ ?_
  obtain ⟨o, en, ep, f1, f2, f3, f4, _, f6⟩ := dd2
  refine d_write I (by rw [at0]; exact True.intro) sb ⟨o, f1⟩ ⟨few3, nm, _, (rel.put k hb rv).keeps fun c ys ec => ?_, o, en, ep, f1, f2, f3, f4, f6⟩
  rw [upd_ne (ne_of ec at0 fun z => nomatch z)]
  exact ec
/-- one entry more -/
def AddT (N : Addr) (y z : V) (H : Hp) (Nx : Hp → Prop) : Prop := ∃ es k b, y = .ref b ∧ H b = some (.tup (k.map kV)) ∧ H N = some (.dT es) ∧ es.length < sizeLine ∧ Nx (upd H N (.dT (putK es k z)))
def tDcT (wi : TI) (g : TG) (tt : TT) (tk tv : TE) (vs : List Nat) : TE := fun σ H Q => wi σ H fun J H1 => ∀ N, H1 N = none → ∃ W : Nat → Nat → Hp → Prop, (∃ m, W 0 m (upd H1 N (.dT []))) ∧ ∀ i m H, W i m H →
  (J.stop i H ∧ Q (.ref N) H) ∨ (J.go i H ∧ ∃ Nx : Hp → Prop, (∀ H2, Nx H2 → ∃ m2, m2 < m ∧ W (i + 1) m2 H2) ∧
    ∀ x H2, J.yld i H x H2 → g x (wipe σ vs) H2 fun σ2 H3 => wipe σ2 vs = wipe σ vs ∧ tt σ2 H3 fun b H4 => if b = true then tk σ2 H4 fun y H5 => tv σ2 H5 fun z H6 => AddT N y z H6 Nx else Nx H4)
section
variable {X : Cx}
theorem pe_dcT {kx vx tg iter : Expr} {ifs : List Expr} {scope : Scope} {own : List (Str × Nat)} {pos : Pos} {wi : TI} {g : TG} {tt : TT} {tk tv : TE} (room : X.A.units < cLine) (hc : X.calm = true) (hN : X.N.Nodup) (hi : PI X tg iter wi) (ok : BlkOk X.N X.env.scope scope own)
    (hg : ∀ (s : Shared) (H : Hp) (C : Addr) (cl : List (Str × Addr)) (fp : List Addr), PG (X.blk s H scope (compEnvC scope cl C X.env) fp) tg g)
    (ht : ∀ (s : Shared) (H : Hp) (C : Addr) (cl : List (Str × Addr)) (fp : List Addr), PTs (X.blk s H scope (compEnvC scope cl C X.env) fp) ifs tt)
    (hk : ∀ (s : Shared) (H : Hp) (C : Addr) (cl : List (Str × Addr)) (fp : List Addr), PE (X.blk s H scope (compEnvC scope cl C X.env) fp) kx tk)
    (hv : ∀ (s : Shared) (H : Hp) (C : Addr) (cl : List (Str × Addr)) (fp : List Addr), PE (X.blk s H scope (compEnvC scope cl C X.env) fp) vx tv)
    (hs : ∀ x, foldedSetIterable iter X.env x = pure x := by intro _; rfl) : PE X (.DictComp kx vx [⟨tg, iter, ifs, 0⟩] scope pos) (tDcT wi g tt tk tv (own.map (·.2))) := by
  refine ⟨fun pp s σ H Q I h => ?_⟩
  rw [arm_eval_DictComp]
  have free : ∀ y ∈ scope.names, y.2 = .free → ∃ c, X.env.cells.lookup y.1 = some c := fun y hy ey => (ok.free y hy ey).elim (fun z => I.ok.has _ (.inl z)) fun z => I.ok.has _ (.inr z)
  refine wpAny_comprehension_free rfl hs (closure_ok free) ok.kind (fun y hy ey => (ok.uniq y hy).trans (by rw [ey])) (thn (hi.run pp s σ H _ I h) fun xv s1 hx => thn hx fun itv s2 ⟨it, fp, tn, J, H1, eit, I1, T, tn0, fpk, q⟩ => ?_)
  subst eit
  refine wpAny_newObj_type (newEnv_comp ?_)
  generalize eN : s2.heap.objs.size = N
  obtain ⟨W, ⟨m0, start⟩, turn⟩ := q N (I1.hok.fresh (Nat.le_of_eq eN))
  generalize e3 : ({ s2 with heap := s2.heap.push { cls := .type "dict", data := .dict #[] } } : Shared) = s3
  have heap3 : s3.heap = s2.heap.push { cls := .type "dict", data := .dict #[] } := by rw [← e3]
  have I3 : Inv X pp σ (upd H1 N (.dT [])) s3 := by
    rw [← e3]
    refine I1.laid (t' := s2.toks) (fun b u eb => Heap.get?_push_of_some _ eb) (Nat.le_of_eq eN) ?_
    rw [← eN]
    exact dt_empty s2.heap I1.big
  have here : ∀ b ∈ fp, b < s2.heap.objs.size := fun b hb => (T.obj _ _ tn0 b hb).elim fun u z => Heap.lt_size z.1
  have fpk3 : ∀ b ∈ fp, FpOk X pp (upd H1 N (.dT [])) b ∧ b < s3.heap.objs.size := fun b hb => by
    refine ⟨⟨?_, (fpk b hb).2⟩, by rw [heap3, Heap.size_push]; exact Nat.lt_succ_of_lt (here b hb)⟩
    rw [upd_ne (eN ▸ Nat.ne_of_lt (here b hb))]
    exact (fpk b hb).1
  have tn3 : tn 0 s3.heap := T.keep _ _ _ tn0 fun b _ u eb => heap3 ▸ Heap.get?_push_of_some _ eb
  have I4 := block_start I3 ok hN fpk3
  have rg := hg s3 (upd H1 N (.dT [])) s3.heap.objs.size (cellsFrom (s3.heap.objs.size + 1) scope.names (cloFrom X.env.cells scope.names [])) fp
  have rt := ht s3 (upd H1 N (.dT [])) s3.heap.objs.size (cellsFrom (s3.heap.objs.size + 1) scope.names (cloFrom X.env.cells scope.names [])) fp
  have rk := hk s3 (upd H1 N (.dT [])) s3.heap.objs.size (cellsFrom (s3.heap.objs.size + 1) scope.names (cloFrom X.env.cells scope.names [])) fp
  have rv := hv s3 (upd H1 N (.dT [])) s3.heap.objs.size (cellsFrom (s3.heap.objs.size + 1) scope.names (cloFrom X.env.cells scope.names [])) fp
  -- what is left to show behind the loop
  have last : ∀ (C : Addr) (s9 : Shared) (m : _) (H9 : Hp), Inv X pp σ H9 s9 → Q (.ref N) H9 → s9.heap.Ns C m → FpOk X pp H9 C → compPost (model X.prog X.w) X.A X.xe none (EP X pp σ Q) (.ref N) C (.ok .next) s9 := fun C s9 m H9 I9 q9 hn f => ⟨m, hn, fun h10 sb => by
    obtain ⟨f0, f1, f2, f3, f4, f5⟩ := f
    exact ⟨.ref N, H9, I9.turned (t' := s9.toks) (fun b u nb eb => (sb.2 b nb).trans eb) f0 f1 f3 f4 f5, rfl, q9⟩⟩
  show codeAny _ _ (.compStart (.DictComp kx vx [⟨tg, iter, ifs, 0⟩] scope pos) 0 (.ref it) (.ref N) (compEnvC scope (cellsFrom (s3.heap.objs.size + 1) scope.names (cloFrom X.env.cells scope.names [])) s3.heap.objs.size X.env)) (compPost (model X.prog X.w) X.A X.xe none (EP X pp σ Q) (.ref N) s3.heap.objs.size) { s3 with heap := pushCells (s3.heap.push { cls := .type "dict", data := .dict #[] }) scope.names }
  have none3 : ∀ b ∈ fp, (upd H1 N (.dT [])) b = none := fun b hb => (fpk3 b hb).1.1
  generalize eC : compEnvC scope (cellsFrom (s3.heap.objs.size + 1) scope.names (cloFrom X.env.cells scope.names [])) s3.heap.objs.size X.env = ce at I4 rg rt rk rv ⊢
  have own3 : ce.locals = s3.heap.objs.size := by subst eC; rfl
  generalize eH : upd H1 N (.dT []) = H3 at I3 I4 rg rt rk rv start none3 fpk3
  generalize e4 : ({ s3 with heap := pushCells (s3.heap.push { cls := .type "dict", data := .dict #[] }) scope.names } : Shared) = s4 at I4 ⊢
  have tn4 : tn 0 s4.heap := T.keep _ _ _ tn3 fun b _ u eb => by rw [← e4]; exact pushCells_keeps _ _ _ _ (Heap.get?_push_of_some _ eb)
  have fpB : ∀ {σ' : L2.St} {H' : Hp} {s' : Shared}, Inv (X.blk s3 H3 scope ce fp) [] σ' H' s' → (∀ b ∈ fp, H' b = none) → ∀ b ∈ fp, FpOk (X.blk s3 H3 scope ce fp) [] H' b := fun I' no b hb =>
    ⟨no b hb, (I'.ok.exf b hb).1, I'.ok.exfs b hb, .inl hb, fun x c ec => (I'.ok.exf b hb).2 x c ec, fun w hw => absurd (show w ∈ ([] : List (Addr × Obj)) ++ [] from hw) (by simp)⟩
  refine (fun loop => codeAny_compStart_dict loop (T.self X.A 0 _ _ _ tn4 loop)) (compLoop_anyD (fun n s' => ∃ i H', Inv (X.blk s3 H3 scope ce fp) [] (wipe σ (own.map (·.2))) H' s' ∧ tn i s'.heap ∧ (∀ b ∈ fp, H' b = none) ∧ W i n H') ?_ m0 ⟨0, H3, I4, tn4, none3, start⟩)
  rintro n s5 ⟨i, H5, I5, tn5, none5, w5⟩
  rcases turn i n H5 w5 with ⟨stop, qq⟩ | ⟨go, Nx, less, step⟩
  · refine thnF (T.done (X.blk s3 H3 scope ce fp) rfl rfl rfl hc i [] s5 _ H5 (fun _ _ => False) I5 (fpB I5 none5) tn5 stop) fun r s6 ⟨er, I6⟩ => ?_
    subst er
    have I7 : Inv X pp σ H5 s6 := I3.call' (ch := fp) I6.os I6.base I6.hok I6.bare fun b hb => by
      obtain ⟨⟨_, g1, _, g3, g4, g5⟩, _⟩ := fpk3 b hb
      exact ⟨g3, g1, g4, g5⟩
    have noC : H5 s3.heap.objs.size = none := own3 ▸ I6.free
    obtain ⟨m, hn, _⟩ := I6.loc
    exact last s3.heap.objs.size s6 m H5 I7 qq (own3 ▸ (show s6.heap.Ns ce.locals m from hn)) (I3.fpOk (Nat.le_refl _) noC)
  · refine thnF (T.item (X.blk s3 H3 scope ce fp) rfl rfl rfl hc i [] s5 _ H5 (fun _ _ => False) I5 (fpB I5 none5) tn5 go) fun r s6 ⟨u, er, more⟩ => ?_
    subst er
    refine thnF more fun _ s7 ⟨x, H7, I7, r7, y7, tn7, none7⟩ => ?_
    refine thnF (rg.run _ s7 _ H7 x u _ (I7.pinned (fpB I7 none7) (T.obj _ _ tn7)) r7 (step x H7 y7)) fun _ s8 ⟨σ8, H8, I8, w8, q8⟩ => ?_
    refine thnF (rt.run _ s8 σ8 H8 _ I8 q8) fun b s9 ⟨H9, I9, q9⟩ => ?_
    -- behind a turn
    have next : ∀ {s' : Shared} {H' : Hp}, Inv (X.blk s3 H3 scope ce fp) ([] ++ pinsAt fp s7.heap) σ8 H' s' → Nx H' → ∃ m, m < n ∧ ∃ i H', Inv (X.blk s3 H3 scope ce fp) [] (wipe σ (own.map (·.2))) H' s' ∧ tn i s'.heap ∧ (∀ b ∈ fp, H' b = none) ∧ W i m H' := fun {s' H'} I' nx => by
      obtain ⟨m', lt', w'⟩ := less H' nx
      have pinned : ∀ b ∈ fp, ∀ o, s7.heap.get? b = some o → s'.heap.get? b = some o ∧ H' b = none := fun b hb o eb =>
        (fun z => ⟨z.1, z.2.1⟩) (I'.pin (b, o) (List.mem_append_right _ (List.mem_append_right _ (mem_pinsAt hb eb))))
      have len8 : (wipe σ (own.map (·.2))).length = σ8.length := by rw [← w8, wipe_length]
      refine ⟨m', lt', i + 1, H', (I'.unpinned (pins := [])).weak len8 (fun j v ej => (wipe_some (w8 ▸ ej : (wipe σ8 (own.map (·.2)))[j]? = some (some v))).1), T.keep _ _ _ tn7 fun b hb o eb => (pinned b hb o eb).1, fun b hb => ?_, w'⟩
      obtain ⟨o, eb, _⟩ := T.obj _ _ tn7 b hb
      exact (pinned b hb o eb).2
    cases b with
    | false =>
      simp only [Bool.false_eq_true, if_false] at q9 ⊢
      exact next I9 q9
    | true =>
      simp only [if_true] at q9 ⊢
      refine thnF (rk.run _ s9 σ8 H9 _ I9 q9) fun ky s10 ⟨yk, H10, I10, r10, q10⟩ => ?_
      refine thnF (rv.run _ s10 σ8 H10 _ I10 q10) fun vy s11 ⟨yv, H11, I11, r11, es, k, b, ek, eb, eD, few, nx⟩ => ?_
      subst ek
      obtain rfl : ky = Value.ref b := r10
      exact dcPut (X := X.blk s3 H3 scope ce fp) room I11 eD few eb r11 fun s12 I12 => next I12 nx
end
end DL
namespace DL
open PySem PySem.Spec PyProof.Rows L2
section
variable {X : Cx} {Wx : WX}
@[irreducible] def dcTD (dg : DG) (dt : DT) (dk dv : DE) (env0 : DEnv) (p : Addr) (k : DK) : List D → List (List Key) → List D → Led → Prop
  | [], ks, vs, L => k (.dt ks vs) (remL L p)
  | d :: ds, ks, vs, L => dg d env0 L fun env1 => dt env1 L (fun b L2 => match b with
    | true => dk env1 L2 (fun y L3 => dv env1 L3 (fun z L4 => ∃ q, keyT y = some q ∧ L4.lookup p = some (.dt ks vs) ∧ ks.length < sizeLine ∧ dcTD dg dt dk dv env0 p k ds (putGk q ks) (putGv q z ks vs) (setL L4 p (.dt (putGk q ks) (putGv q z ks vs)))) (fun _ _ _ => False)) (fun _ _ _ => False)
    | false => L2.lookup p = some (.dt ks vs) ∧ dcTD dg dt dk dv env0 p k ds ks vs L2) (fun _ _ _ => False)
theorem dcTD_nil {dg : DG} {dt : DT} {dk dv : DE} {env0 : DEnv} {p : Addr} {k : DK} {ks : List (List Key)} {vs : List D} {L : Led} : dcTD dg dt dk dv env0 p k [] ks vs L = k (.dt ks vs) (remL L p) := by with_unfolding_all rfl
theorem dcTD_cons {dg : DG} {dt : DT} {dk dv : DE} {env0 : DEnv} {p : Addr} {k : DK} {d : D} {ds : List D} {ks : List (List Key)} {vs : List D} {L : Led} : dcTD dg dt dk dv env0 p k (d :: ds) ks vs L = dg d env0 L fun env1 => dt env1 L (fun b L2 => match b with
    | true => dk env1 L2 (fun y L3 => dv env1 L3 (fun z L4 => ∃ q, keyT y = some q ∧ L4.lookup p = some (.dt ks vs) ∧ ks.length < sizeLine ∧ dcTD dg dt dk dv env0 p k ds (putGk q ks) (putGv q z ks vs) (setL L4 p (.dt (putGk q ks) (putGv q z ks vs)))) (fun _ _ _ => False)) (fun _ _ _ => False)
    | false => L2.lookup p = some (.dt ks vs) ∧ dcTD dg dt dk dv env0 p k ds ks vs L2) (fun _ _ _ => False) := by with_unfolding_all rfl
def dDcT (di : DI) (dg : DG) (dt : DT) (dk dv : DE) (vs : List Nat) : DE := fun env L k x => di env L (fun ds L1 => ∀ p, ¬ inL L1 p → dcTD dg dt dk dv (wipeD env vs) p k ds [] [] ((p, .dt [] []) :: L1)) x
theorem sim_dcT {K : PySem.W.Frag} {wi : TI} {di : DI} {dg : DG} {dt : DT} {dk dv : DE} {sl vs : List Nat} (hsl : ∀ i ∈ sl, i ∈ vs)
    (si : ∀ σ H env L k x R, StL K σ H env L → di env L k x → (∀ ds L' J H', k ds L' → Go L L' H H' → JL K L' H' → ItD K L' H' J ds → R J H') → XOk K Wx L H x → wi σ H R) :
    SimE K Wx (tDcT wi (tgOf K sl dg) (ttOf K Wx0 dt) (teOf K Wx0 dk) (teOf K Wx0 dv) vs) (dDcT di dg dt dk dv vs) := by
  intro σ H env L k x Q st h hk hx
  refine si σ H env L _ x _ st h (fun ds L1 J H1 h1 g1 j1 it => ?_) hx
  intro p hp
  have s0 := same_new hp (.dT [])
  obtain ⟨j2, g2⟩ := j1.push (d := .dt [] []) hp (o := .dT []) ⟨[], upd_same, rfl, .nil⟩
  refine ⟨fun i m H2 => m = ds.length - i ∧ i ≤ ds.length ∧ ∃ ks us L2, StL K (wipe σ vs) H2 (wipeD env vs) L2 ∧ Go L1 L2 H1 H2 ∧ L2.lookup p = some (.dt ks us) ∧ dcTD dg dt dk dv (wipeD env vs) p k (ds.drop i) ks us L2, ⟨ds.length, by omega, by omega, [], [], _, ⟨((st.go g1 j1).go g2 j2).1.wipes vs, j2⟩, g2, lookup_top, h1 p (j1.notIn hp)⟩, ?_⟩
  rintro i m H2 ⟨rfl, hi, ks, us, L2, st2, g3, hl, h2⟩
  obtain ⟨i1, i2⟩ := it L2 H2 g3 st2.2 i
  by_cases hlt : i < ds.length
  · have e : ds[i]? = some ds[i] := List.getElem?_eq_getElem hlt
    obtain ⟨go, yl⟩ := i1 _ e
    rw [List.drop_eq_getElem_cons hlt, dcTD_cons] at h2
    refine .inr ⟨go, fun H' => ∃ ks us L2, StL K (wipe σ vs) H' (wipeD env vs) L2 ∧ Go L1 L2 H1 H' ∧ L2.lookup p = some (.dt ks us) ∧ dcTD dg dt dk dv (wipeD env vs) p k (ds.drop (i + 1)) ks us L2, fun H' n => ⟨ds.length - (i + 1), by omega, rfl, hlt, n⟩, fun x H' y => ?_⟩
    obtain ⟨s, rx⟩ := yl x H' y
    have g4 : Go L2 L2 H2 H' := Go.same s
    have st3 := st2.go g4 (st2.2.same s)
    refine ⟨_, _, L2, _, st3, rx, h2, fun σ3 env3 h3 st4 on => ⟨?_, ?_⟩⟩
    · rw [on vs hsl]
      exact wipe_two vs vs (fun _ h => h) σ
    · refine ⟨env3, L2, _, _, st4, h3, fun b L5 H5 h5 g5 j5 => ?_, fun _ _ _ _ _ _ q => q.elim⟩
      have gA : Go L1 L5 H1 H5 := (g3.trans g4).trans g5
      cases b with
      | false => exact iteF ⟨ks, us, L5, ⟨(st3.1.go g5), j5⟩, gA, h5.1, h5.2⟩
      | true =>
        refine iteT ⟨env3, L5, _, _, st4.go g5 j5, h5, fun y L6 vy H6 h6 g6 j6 r6 => ?_, fun _ _ _ _ _ _ q => q.elim⟩
        refine ⟨env3, L6, _, _, (st4.go g5 j5).go g6 j6, h6, fun z L7 vz H7 h7 g7 j7 r7 => ?_, fun _ _ _ _ _ _ q => q.elim⟩
        obtain ⟨q, hq, q1, q2, q3⟩ := h7
        obtain ⟨b0, ey, _, hb0⟩ := keyT_of (r6.go g7) hq
        obtain ⟨ws, e1, hlw, rv⟩ := j7.look q1
        have hp7 := inL_of_lookup q1
        have pz := putG_zip q vz ks ws hlw
        refine ⟨ks.zip ws, q, b0, ey, hb0, e1, by rw [List.length_zip]; omega, putGk q ks, putGv q z ks us, _, ?_, ?_, look_set hp7, q3⟩
        · rw [pz.1]
          have g8 : Go L7 (setL L7 p (.dt (putGk q ks) (putGv q z ks us))) H7 (upd H7 p (.dT ((putGk q ks).zip (putGv q vz ks ws)))) := go_set hp7
          have j8 : JL K (setL L7 p (.dt (putGk q ks) (putGv q z ks us))) (upd H7 p (.dT ((putGk q ks).zip (putGv q vz ks ws)))) := j7.put hp7 ⟨_, upd_same, pz.2, putGv_rp (r7.go g8) q ks (rv.go g8)⟩
          exact ⟨(((st3.1.go g5).go g6).go g7).go g8, j8⟩
        · rw [pz.1]
          exact ((gA.trans g6).trans g7).trans (go_set hp7)
  · have e : i = ds.length := by omega
    subst e
    rw [List.drop_length, dcTD_nil] at h2
    obtain ⟨ws, e1, hlw, rv⟩ := st2.2.look hl
    exact .inl ⟨i2 (Nat.le_refl _), hk _ _ _ H2 h2 ((g1.trans g3).trans go_rem) st2.2.rem (.dt (fun m => (inL_remL.mp m).2 rfl) (.inl e1) hlw (rv.go go_rem))⟩
theorem q_dcT {kx vx tg iter : Expr} {ifs : List Expr} {scope : Scope} {own : List (Str × Nat)} {pos : Pos} {di : DI} {dg : DG} {dt : DT} {dk dv : DE} {sl : List Nat} (hu : X.A.units + 64 < cLine) (hc : X.calm = true) (hN : X.N.Nodup) (hi : QI X Wx tg iter di) (ok : BlkOk X.N X.env.scope scope own)
    (hg : ∀ (s : Shared) (H : Hp) (C : Addr) (cl : List (Str × Addr)) (fp : List Addr), QG (X.blk s H scope (compEnvC scope cl C X.env) fp) tg sl dg) (ht : ∀ (s : Shared) (H : Hp) (C : Addr) (cl : List (Str × Addr)) (fp : List Addr), QTs (X.blk s H scope (compEnvC scope cl C X.env) fp) Wx0 ifs dt)
    (hk : ∀ (s : Shared) (H : Hp) (C : Addr) (cl : List (Str × Addr)) (fp : List Addr), QE (X.blk s H scope (compEnvC scope cl C X.env) fp) Wx0 kx dk)
    (he : ∀ (s : Shared) (H : Hp) (C : Addr) (cl : List (Str × Addr)) (fp : List Addr), QE (X.blk s H scope (compEnvC scope cl C X.env) fp) Wx0 vx dv) (hsl : ∀ i ∈ sl, i ∈ own.map (·.2) := by decide) (hs : ∀ x, foldedSetIterable iter X.env x = pure x := by intro _; rfl) :
    QE X Wx (.DictComp kx vx [⟨tg, iter, ifs, 0⟩] scope pos) (dDcT di dg dt dk dv (own.map (·.2))) := by
  obtain ⟨wi, pi, si⟩ := hi.ex
  exact ⟨_, pe_dcT (by omega) hc hN pi ok (fun s H C cl fp => (hg s H C cl fp).pg) (fun s H C cl fp => (ht s H C cl fp).pt) (fun s H C cl fp => (hk s H C cl fp).pe) (fun s H C cl fp => (he s H C cl fp).pe) hs, sim_dcT hsl si⟩
end
end DL
namespace DL
open PySem PySem.Spec PyProof.Rows L2
section
variable {P : Program} {w : World} {κ : Type} [DecidableEq κ] {hk : HeapKind P w κ} {A : Around} {E : Value → Shared → Prop} {s : Shared}
/-- what the entries of the one dict tell against the other one's, as far as is looked -/
inductive Agr {κ : Type} [DecidableEq κ] (A : Around) (s : Shared) (zs : List (κ × Addr × Value)) : List (κ × Addr × Value) → Bool → Prop
  | end : Agr A s zs [] true
  | lack {x : κ × Addr × Value} {r : List (κ × Addr × Value)} : atKey zs x.1 = none → Agr A s zs (x :: r) false
  | find {x : κ × Addr × Value} {r : List (κ × Addr × Value)} {q : Addr × Value} {e b : Bool} : atKey zs x.1 = some q → SeqAt.EqAt A s x.2.2 q.2 e → Agr A s zs r b → Agr A s zs (x :: r) (e && b)
theorem pairsH {nm : String} {a b : Addr} {xs zs : List (κ × Addr × Value)} {r : Bool} {Q : Bool → Shared → Prop} (room : hk.room A) (na : (a == sysModules) = false) (nb : (b == sysModules) = false) (da : s.heap.DictOfH hk a xs) (db : s.heap.DictOfH hk b zs)
    (agr : xs.length = zs.length → Agr A s zs xs r) (fin : Q (xs.length == zs.length && r) s) : wpAny (model P w) A (Builtin.Dict.samePairs nm a b) Q E s := by
  obtain ⟨oa, ea, pa, ha1, _, ha3, ha4, ha5, ha6⟩ := da
  obtain ⟨ob, eb, pb, hb1, _, hb3, hb4, hb5, hb6⟩ := db
  have la : ea.size = xs.length := size_of_entries ha4
  have lb : eb.size = zs.length := size_of_entries hb4
  unfold Builtin.Dict.samePairs Builtin.Dict.showsAll
  rw [if_neg (by rw [na]; exact Bool.false_ne_true), if_neg (by rw [nb]; exact Bool.false_ne_true)]
  refine wpAny_bind (wpAny_pure (wpAny_bind (wpAny_pure ?_)))
  refine wpAny_bind (wpAny_dictEntries ha1 ha3 ?_)
  dsimp only
  refine wpAny_bind (wpAny_dictEntries hb1 hb3 ?_)
  by_cases same : ea.size = eb.size
  case neg =>
    rw [if_pos (by simpa using same)]
    have ne : (xs.length == zs.length) = false := by rw [← la, ← lb]; simpa using same
    rw [ne, Bool.false_and] at fin
    exact wpAny_bind (wpAny_rule (wpAny_pure fin))
  case pos =>
    have eq : xs.length = zs.length := by omega
    have fin2 : Q r s := by rw [eq] at fin; simpa using fin
    rw [if_neg (by rw [same]; simp)]
    refine wpAny_bind (wpAny_dictEpoch ha1 ha3 (wpAny_bind ?_))
    simp only [Std.Legacy.Range.forIn_eq_forIn_range', Std.Legacy.Range.size, Nat.sub_zero, Nat.div_one, Nat.add_sub_cancel]
    refine wpAny_forIn_list _ (fun left q s2 => s2 = s ∧ q = (none, ()) ∧ ∃ i, left = List.range' i (ea.size - i) ∧ i ≤ ea.size ∧ Agr A s zs (xs.drop i) r) _ (fun i left q s2 h => ?_) (fun q s2 h => ?_) _ _ ⟨rfl, rfl, 0, by simp, Nat.zero_le _, agr eq⟩
    · obtain ⟨rfl, rfl, j, hl, hj, ag⟩ := h
      have lt : j < ea.size := by
        rcases Nat.lt_or_ge j ea.size with z | z
        · exact z
        · rw [Nat.sub_eq_zero_of_le z] at hl; simp at hl
      have one : ea.size - j = (ea.size - (j + 1)) + 1 := by omega
      rw [one, List.range'_succ] at hl
      injection hl with h1 h2
      subst h1
      have ltx : i < xs.length := by omega
      have at_ := entry_at ha4 i
      rw [List.getElem?_eq_getElem ltx, Array.getElem?_eq_getElem lt] at at_
      have ek : ea[i] = entryOfKey hk xs[i] := Option.some.inj at_
      refine wpAny_bind (wpAny_dictEntries ha1 ha3 ?_)
      rw [Array.getElem?_eq_getElem lt, ek]
      rw [List.drop_eq_getElem_cons ltx] at ag
      show wpAny _ _ (holding [.ref xs[i].2.1, xs[i].2.2] _ >>= _) _ _ _
      refine wpAny_bind (wpAny_holding (wpAny_bind (wpAny_dictFind_heap room (ha5 _ (List.getElem_mem ltx)) hb1 hb3 hb4 hb5 hb6 (fun no => ?_) fun m q hq => ?_)))
      · have gone := atKey_none_of_get no
        generalize hr : r = r0 at ag
        cases ag with
        | lack _ =>
          refine wpAny_pure ?_
          show wpAny _ _ (if (!false) = true then _ else _) _ _ _
          rw [if_pos (by decide)]
          rw [hr] at fin2
          exact wpAny_pure (wpAny_pure fin2)
        | find f1 _ _ => rw [gone] at f1; cases f1
      · have is := atKey_of_get hb6 hq
        have ltm : m < eb.size := by
          have := (List.getElem?_eq_some_iff.mp hq).1
          omega
        have at2 := entry_at hb4 m
        rw [hq] at at2
        refine wpAny_bind (wpAny_dictEntries hb1 hb3 ?_)
        rw [at2]
        generalize hr : r = r0 at ag
        cases ag with
        | lack f1 => rw [is] at f1; cases f1
        | @find _ _ q2 e b2 f1 f2 f3 =>
          rw [is] at f1
          cases f1
          refine wpAny_holding (f2 _ _ _ _ ?_)
          cases e with
          | false =>
            show wpAny _ _ (if (!false) = true then _ else _) _ _ _
            rw [if_pos (by decide)]
            rw [hr, Bool.false_and] at fin2
            exact wpAny_pure (wpAny_pure fin2)
          | true =>
            show wpAny _ _ (if (!true) = true then _ else _) _ _ _
            rw [if_neg (by decide)]
            refine wpAny_bind (wpAny_dictEpoch ha1 ha3 ?_)
            rw [if_neg (by simp)]
            refine wpAny_pure ⟨rfl, rfl, i + 1, h2, lt, ?_⟩
            rw [Bool.true_and]
            exact f3
    · obtain ⟨rfl, rfl, j, hl, hj, ag⟩ := h
      have ej : j = ea.size := by
        rcases Nat.lt_or_ge j ea.size with z | z
        · have one : ea.size - j = (ea.size - (j + 1)) + 1 := by omega
          rw [one, List.range'_succ] at hl
          cases hl
        · omega
      refine wpAny_pure ?_
      rw [ej, la, List.drop_length] at ag
      generalize hr : r = r0 at ag
      cases ag
      rw [hr] at fin2
      exact fin2
/-- the way to == and != of two dicts -/
theorem eqH {p q : Addr} {xs zs : List (κ × Addr × Value)} {r : Bool} (room : hk.room A.in1) (np : (p == sysModules) = false) (nq : (q == sysModules) = false) (tp : s.heap.DictOfH hk p xs) (tq : s.heap.DictOfH hk q zs) (hu : A.units < cLine)
    (agr : xs.length = zs.length → Agr A.in1 s zs xs r) {Q : Value → Shared → Prop} (fin : Q (.bool (xs.length == zs.length && r)) s) : wpAny (model P w) A (compareOp .Eq (.ref p) (.ref q)) Q E s := by
  refine wpAny_richCompare_same_room (op := .Eq) tp.typeIs tq.typeIs F.slot_dict_eq (wpAny_call_entry F.slot_dict_eq tp.typeIs F.entry_dict_eq ?_ (F.args_dict_eq_2 _ _)) hu
  show wpAny _ _ (Builtin.Dict.dictSlotArgs "__eq__" ⟨[.ref p, .ref q], []⟩ >>= _) _ _ s
  refine wpAny_bind ?_
  unfold Builtin.Dict.dictSlotArgs
  refine wpAny_bind (wpAny_notOrdered_dict tp.typeIs ?_)
  show wpAny _ _ (pure (Value.ref p, Value.ref q)) _ _ s
  refine wpAny_pure (wpAny_bind (wpAny_isInstance (T := "dict") tq.typeIs F.sub_dict_dict ?_))
  simp only [Bool.not_true, if_false, Bool.false_eq_true]
  refine wpAny_bind (wpAny_pure (wpAny_bind (wpAny_pure (wpAny_bind (pairsH room np nq tp tq agr ?_)))))
  exact wpAny_pure ⟨_, rfl, (fun x => nomatch x), by simpa using fin⟩
end
end DL
namespace DL
open PySem PySem.Spec PyProof.Rows L2
def allT (ls : List (List Key)) (js : List Int) (ps : List (List Key × Int)) : Bool := ps.all fun p => decide (lookG ls js p.1 = some p.2)
def eqDT (ks : List (List Key)) (is : List Int) (ls : List (List Key)) (js : List Int) : Bool := ks.length == ls.length && allT ls js (ks.zip is)
theorem lookG_map {κ α β : Type} [DecidableEq κ] (f : α → β) (k : κ) : ∀ (ks : List κ) (vs : List α), lookG ks (vs.map f) k = (lookG ks vs k).map f
  | [], _ => rfl
  | _ :: _, [] => rfl
  | a :: ks, v :: vs => by
    show (if a = k then some (f v) else lookG ks (vs.map f) k) = (if a = k then some v else lookG ks vs k).map f
    split
    · rfl
    · exact lookG_map f k ks vs
theorem ints_rp {L : Led} {K : PySem.W.Frag} {H : Hp} : ∀ {is : List Int} {vs : List V}, RpAll L K H vs (is.map D.int) → vs = is.map V.int
  | [], _, h => by cases h; rfl
  | _ :: is, _, h => by
    cases h with
    | cons h t =>
      cases h
      rw [ints_rp t]
      rfl
theorem eqI (A : Around) (s : Shared) (i : Int) (t : Tok) (j : Int) (u : Tok) : SeqAt.EqAt A s (.int i t) (.int j u) (decide (j = i)) := by
  refine (SeqAt.EqAt.int_int i t j u).cast ?_
  by_cases e : j = i
  · subst e; simp
  · have e2 : ¬ i = j := fun z => e z.symm
    simp [e, e2]
theorem agr_of {A : Around} {s : Shared} {H : Hp} {zs : List (List Key × Addr × Value)} {ls : List (List Key)} {js : List Int} (rz : KT H (ls.zip (js.map V.int)) zs) : ∀ {ps : List (List Key × Int)} {xs : List (List Key × Addr × Value)}, KT H (ps.map fun p => (p.1, V.int p.2)) xs → Agr A s zs xs (allT ls js ps)
  | [], _, h => by cases h; exact .end
  | (k, i) :: ps, _, h => by
    cases h with
    | @cons _ x _ xs h t =>
      obtain ⟨e1, _, t0, e3⟩ := h
      have e1 : k = x.1 := e1
      have e3 : x.2.2 = .int i t0 := e3
      have ih := agr_of (A := A) (s := s) rz t
      have v := rz.val k
      rw [look_valG, lookG_map] at v
      show Agr A s zs (x :: xs) (decide (lookG ls js k = some i) && allT ls js ps)
      cases hl : lookG ls js k with
      | none =>
        rw [hl] at v
        cases ha : atKey zs k with
        | none =>
          refine (?_ : Agr A s zs (x :: xs) false)
          exact .lack (e1 ▸ ha)
        | some q => rw [ha] at v; exact v.elim
      | some j =>
        rw [hl] at v
        cases ha : atKey zs k with
        | none => rw [ha] at v; exact v.elim
        | some q =>
          rw [ha] at v
          obtain ⟨t1, e4⟩ := (show RelV (.int j) q.2 from v)
          have e4 : q.2 = .int j t1 := e4
          have eq := eqI A s i t0 j t1
          rw [← e3, ← e4] at eq
          have dd : decide (some j = some i) = decide (j = i) := by simp
          rw [dd]
          exact .find (e1 ▸ ha) eq ih
def rCmpT (neg : Bool) : R2 := fun x y H Q => ∃ a b ks is ls js, x = .ref a ∧ y = .ref b ∧ L2.Rd H a (.dT (ks.zip (is.map V.int))) ∧ L2.Rd H b (.dT (ls.zip (js.map V.int))) ∧ ks.length = is.length ∧ ls.length = js.length ∧ Q (.bl (xor neg (eqDT ks is ls js))) H
section
variable {X : Cx}
theorem cmpT {pp : List (Addr × Obj)} {σ : L2.St} {s : Shared} {H : Hp} {a b : Addr} {ks ls : List (List Key)} {is js : List Int} (I : Inv X pp σ H s) (ha : L2.Rd H a (.dT (ks.zip (is.map V.int)))) (hb : L2.Rd H b (.dT (ls.zip (js.map V.int)))) (la : ks.length = is.length) (lb : ls.length = js.length) :
    (a == sysModules) = false ∧ (b == sysModules) = false ∧ ∃ xs zs, s.heap.DictOfH (tupleKind (mixKind X.prog X.w)) a xs ∧ s.heap.DictOfH (tupleKind (mixKind X.prog X.w)) b zs ∧ ∀ A, (xs.length == zs.length && allT ls js (ks.zip is)) = eqDT ks is ls js ∧ Agr A s zs xs (allT ls js (ks.zip is)) := by
  obtain ⟨_, na, xs, ra, da⟩ := dt_rd I.hok ha
  obtain ⟨_, nb, zs, rb, db⟩ := dt_rd I.hok hb
  have h1 := Paired.length ra
  have h2 := Paired.length rb
  rw [List.length_zip, List.length_map] at h1 h2
  refine ⟨na, nb, xs, zs, da, db, fun A => ⟨?_, agr_of rb ?_⟩⟩
  · unfold eqDT
    rw [← h1, ← h2, ← la, ← lb, Nat.min_self, Nat.min_self]
  · rw [List.zip_map_right] at ra
    exact ra
theorem op_eqT (hu : X.A.units + 64 < cLine) : OpR X (compareOp .Eq) (rCmpT false) := fun pp s σ H x y v u Q I rx ry h => by
  obtain ⟨a, b, ks, is, ls, js, rfl, rfl, ha, hb, la, lb, q⟩ := h
  obtain rfl : v = Value.ref a := rx
  obtain rfl : u = Value.ref b := ry
  obtain ⟨na, nb, xs, zs, da, db, f⟩ := cmpT I ha hb la lb
  have room : (tupleKind (mixKind X.prog X.w)).room X.A.in1 := tupleKind_room_in1 (by omega)
  refine eqH room na nb da db (by omega) (fun _ => (f X.A.in1).2) ?_
  rw [(f X.A.in1).1]
  exact fin_bl I q (by simp)
def intsD : List D → Option (List Int)
  | [] => some []
  | .int i :: r => (intsD r).map (i :: ·)
  | _ => none
theorem intsD_eq : ∀ {ds : List D} {is : List Int}, intsD ds = some is → ds = is.map D.int
  | [], _, h => by cases h; rfl
  | d :: ds, is, h => by
    unfold intsD at h
    split at h
    · rename_i e; cases e
    · rename_i i r e
      cases e
      obtain ⟨l, hl, rfl⟩ := Option.map_eq_some_iff.mp h
      rw [intsD_eq hl]
      rfl
    · cases h
theorem intsD_map : ∀ is : List Int, intsD (is.map D.int) = some is
  | [] => rfl
  | i :: is => by
    show (intsD (is.map D.int)).map (i :: ·) = some (i :: is)
    rw [intsD_map is]
    rfl
def gCmpT (neg : Bool) : G2 := fun a b L k => match con L a, con L b with
  | .dt ks ds, .dt ls es => match intsD ds, intsD es with
    | some is, some js => k (.bl (xor neg (eqDT ks is ls js)))
    | _, _ => False
  | _, _ => False
theorem sim_cmpT {K : PySem.W.Frag} {neg : Bool} : Sim2 K (rCmpT neg) (gCmpT neg) := fun H L va vb a b k Q j ra rb h hk => by
  unfold gCmpT at h
  split at h
  · rename_i ks ds ls es h1 h2
    obtain ⟨p, vs, rfl, hp, hl, rv⟩ := con_dt j ra h1
    obtain ⟨q, ws, rfl, hq, hl2, rw2⟩ := con_dt j rb h2
    split at h
    · rename_i is js e1 e2
      rw [intsD_eq e1] at rv
      rw [intsD_eq e2] at rw2
      have ev := ints_rp rv
      have ew := ints_rp rw2
      subst ev ew
      rw [List.length_map] at hl hl2
      exact ⟨p, q, ks, is, ls, js, rfl, rfl, hp, hq, hl, hl2, hk _ _ H h (Same.refl H) (.bl _)⟩
    · exact h.elim
  · exact h.elim
theorem oq_eqT (hu : X.A.units + 64 < cLine) : OQ X (compareOp .Eq) (gCmpT false) := ⟨_, op_eqT hu, sim_cmpT⟩
end
end DL
namespace HBool
open PySem PySem.Spec PyProof.Rows
section
end
end HBool
namespace DL
open PySem PySem.Spec PyProof.Rows L2
section
end
end DL
namespace DL
open PySem PySem.Spec PyProof.Rows L2 RZ
section
variable {X : Cx} {Wx : WX} {a b c e o f : Expr} {es : List Expr} {da db dc de do' df : DE} {dl dk : DA} {pos apos : Pos}
section
variable {CX : CXT} {k : Nat} {C f : Addr} {m : Str} {fd : FuncData} {ps ks : List Str} {sp : Sp} {E : L2.St → XK} {dus : List Value} {dvs : List V} {ta : TE} {tk : TA} {pl : Sem Bool} {g : Perm3} {kws : List Keyword}
def tMethK (C : Addr) (m : Str) (nk : Nat) (sp : Sp) (g : Perm3) (dvs : List V) (E : L2.St → XK) (ta : TE) (tk : TA) : TE := fun σ H Q => ta σ H fun x H1 => ∃ a dx fs, x = .ref a ∧ H1 a = some (.ins C dx fs) ∧ fs.lookup m = none ∧ tk σ H1 fun zs H2 => zs.length = nk ∧ sp (g [x] zs dvs) H2 Q (E σ)
theorem pe_methK (hO : PE X o ta) (hC : Cls X.K C) (hM : Meth X.K C m f) (F : FnOk X.prog X.w X.K X.mg X.base CX k f fd ps sp) (hr : Room k X.A) (hb : KwB X.K fd ps 1 ks dus g) (hp : PermOk @g) (hd : Vals dvs dus) (hx : ∀ σ, PassesAt CX X σ (E σ)) (hkw : PK X kws tk)
    (hall : (backToKw pos (keywordEach kws X.env)).all (·.1.isSome) = true := by rfl) (hks : (backToKw pos (keywordEach kws X.env)).filterMap (·.1) = ks := by rfl)
    (hpl : ((backTo pos (starEach [] X.env)).any (·.1) || (backToKw pos (keywordEach kws X.env)).any (·.1.isNone)) = false := by rfl)
    (h3 : eval (.Call (.Attribute o m apos) [] kws pos) X.env = (do let ov ← eval o X.env; standAt apos.atName; let (f, first) ← holding [ov] (getMethod ov m pl); callWith pos f first (backTo pos (starEach [] X.env)) (backToKw pos (keywordEach kws X.env))) := by rfl) :
    PE X (.Call (.Attribute o m apos) [] kws pos) (tMethK C m ks.length sp @g dvs E ta tk) := ⟨fun pp s σ H Q I h => by
  refine PySem.W.methodCall_KW (pl := pl) (thn (hO.run pp s σ H _ I h) fun u s1 ⟨_, H1, I1, rx, a, _, _, ez, ea, l, q⟩ => ?_) h3
  subst ez
  cases rx
  refine getmeth_ok I1 ea hC hM l (PySem.W.callWith_KW0 (first := [.ref a]) (h₀ := X.base) I.ok.mod.kin hM.kp hall (thn (hkw.run pos pp s1 σ H1 _ I1 q) fun ws s2 ⟨zs, H2, I2, rz, l2, q2⟩ => ⟨I2.kIn, ?_⟩) hpl)
  rw [hks]
  exact run_fnW (us := [.ref a]) (vs := [.ref a]) F hr hb hp hd (hx σ) I2 (.cons rfl .nil) rz rfl l2 q2⟩
end
/-- a method called by keywords alone -/
structure MCalK (P : Program) (w : World) (K : PySem.W.Frag) (mg : Str → Option Value) (base : Heap) (n : Nat) (C : Addr) (m : Str) (ks : List Str) (dd : List D) (gp : Perm3) (g : DSp) : Prop where
  ex : ∃ f fd ps us dvs, FnOk P w K mg base (L2.CX P w) n f fd ps (spD K g) ∧ Cls K C ∧ Meth K C m f ∧ KwB K fd ps 1 ks us gp ∧ PermOk @gp ∧ Vals dvs us ∧ ∀ L H, RpAll L K H dvs dd
def dMethK (C : Addr) (m : Str) (nk : Nat) (g : DSp) (gp : Perm3) (dd : List D) (da : DE) (dk : DA) : DE := fun env L k x => da env L (fun a L1 => match con L1 a with
  | .obj C' ns vs => (C' = C ∧ (ns.zip vs).lookup m = none) ∧ dk env L1 (fun es L2 => es.length = nk ∧ g (gp [a] es dd) L2 k fun n L' => x n env L') x
  | _ => False) x
theorem q_methK {C : Addr} {m : Str} {n k : Nat} {ks : List Str} {g : DSp} {gp : Perm3} {dd : List D} {pl : Sem Bool} {kws : List Keyword} (F : MCalK X.prog X.w X.K X.mg X.base n C m ks dd gp g) (hn : n ≤ k) (hr : Room k X.A) (tk : Takes X Wx) (ho : QE X Wx o do') (hkw : QK X Wx kws dk)
    (hall : (backToKw pos (keywordEach kws X.env)).all (·.1.isSome) = true := by rfl) (hks : (backToKw pos (keywordEach kws X.env)).filterMap (·.1) = ks := by rfl)
    (hpl : ((backTo pos (starEach [] X.env)).any (·.1) || (backToKw pos (keywordEach kws X.env)).any (·.1.isNone)) = false := by rfl)
    (h3 : eval (.Call (.Attribute o m apos) [] kws pos) X.env = (do let ov ← eval o X.env; standAt apos.atName; let (f, first) ← holding [ov] (getMethod ov m pl); callWith pos f first (backTo pos (starEach [] X.env)) (backToKw pos (keywordEach kws X.env))) := by rfl) :
    QE X Wx (.Call (.Attribute o m apos) [] kws pos) (dMethK C m ks.length g gp dd do' dk) := by
  obtain ⟨f, fd, ps, us, dvs, F, hC, hM, hb, hp, hd, hdd⟩ := F.ex
  obtain ⟨to, po, so⟩ := ho.ex
  obtain ⟨tk2, pk, sk⟩ := hkw.ex
  refine ⟨_, pe_methK po hC hM F (hr.mono hn) hb hp hd (fun σ => passAt tk σ) pk hall hks hpl h3, fun σ H env L k x Q st h hk hx => ?_⟩
  refine so σ H env L _ x _ st h (fun a L1 va H1 h1 g1 j1 r1 => ?_) hx
  split at h1
  · rename_i C' ns ds hc
    obtain ⟨⟨rfl, h2⟩, h1⟩ := h1
    obtain ⟨q, dx, vs, rfl, hq, hl, rv⟩ := con_obj j1 r1 hc
    refine ⟨q, dx, _, rfl, hq, lookup_none rv.length h2, ?_⟩
    refine sk σ H1 env L1 _ x _ (st.go g1 j1) h1 (fun es L2 zs H2 h2 g2 j2 r2 => ?_) (hx.go g1)
    obtain ⟨l2, h2⟩ := h2
    refine ⟨by rw [r2.length]; exact l2, gp [a] es dd, L2, k, fun n L' => x n env L', j2, paired_rp (hp.map (rp_paired (.cons (r1.go g2) .nil)) (rp_paired r2) (rp_paired (hdd L2 H2))), h2, (hk.go g1).go g2, fun n L' a H' q g' j' r => hx n env L' a H' σ q ((g1.trans g2).trans g') (st.go ((g1.trans g2).trans g') j') r⟩
  · exact h1.elim
/-- a new object of the ledger, from then on a plain datum -/
def dSealE (de : DE) : DE := fun env L k x => de env L (fun d L1 => match d with
  | .ptr q => match L1.lookup q with
    | some (.obj C ns vs) => k (.obj C ns vs) (remL L1 q)
    | _ => False
  | _ => False) x
theorem q_sealE (h : QE X Wx e de) : QE X Wx e (dSealE de) := by
  obtain ⟨te, pe, se⟩ := h.ex
  refine ⟨te, pe, fun σ H env L k x Q st h hk hx => se σ H env L _ x _ st h (fun d L1 v H1 h1 g1 j1 r1 => ?_) hx⟩
  split at h1
  · rename_i q
    cases r1
    split at h1
    · rename_i C ns vs hl
      obtain ⟨dx, ws, e1, e2, rv⟩ := j1.look hl
      exact hk _ _ _ H1 h1 (g1.trans go_rem) j1.rem (.obj (fun m => (inL_remL.mp m).2 rfl) e1 e2 (rv.go go_rem))
    · exact h1.elim
  · exact h1.elim
/-- one of two walks -/
def diOr (d1 d2 : DI) : DI := fun env L k x => d1 env L k x ∨ d2 env L k x
theorem i_or {tg iter : Expr} {d1 d2 : DI} (h1 : QI X Wx tg iter d1) (h2 : QI X Wx tg iter d2) : QI X Wx tg iter (diOr d1 d2) := by
  obtain ⟨w1, p1, s1⟩ := h1.ex
  obtain ⟨w2, p2, s2⟩ := h2.ex
  refine ⟨fun σ H R => w1 σ H R ∨ w2 σ H R, ⟨fun pp s σ H R I h => h.elim (p1.run pp s σ H R I) (p2.run pp s σ H R I)⟩, fun σ H env L k x R st h hk hx => ?_⟩
  rcases h with h | h
  · exact .inl (s1 σ H env L k x R st h hk hx)
  · exact .inr (s2 σ H env L k x R st h hk hx)
/-- the targets (i, j), of a tuple that is a key -/
def dgKt (n : Nat) (dgs : DGs) : DG := fun d env L k => match d with
  | .kt ks => ks.length = n ∧ dgs (ks.map kD) env L k
  | _ => False
theorem g_kt {kk : Nat} {dgs : DGs} {n : Nat} {sl : List Nat} (hc : X.calm = true) (h : QGs X es sl dgs) (hn : (assignEach es X.env).length = n := by rfl) (hst : (assignEach es X.env).findIdx? (·.1) = none := by rfl) : QG X (.Tuple es kk pos) sl (dgKt n dgs) := by
  obtain ⟨gs, pgs, sgs⟩ := h.ex
  refine ⟨_, pg_tup hc pgs hn hst, fun v d σ H env L k Q st r h hk => ?_⟩
  cases d <;> first | exact h.elim | skip
  rename_i ks
  have r2 : Rp L X.K H v (.tup (ks.map kD)) := con_tupR st.2 r rfl
  generalize hd : D.tup (ks.map kD) = d at r2
  cases r2 <;> first | (cases hd; done) | skip
  rename_i s r3
  cases hd
  exact ⟨_, _, rfl, s.sq, by rw [r3.length, List.length_map]; exact h.1, sgs _ _ σ H env L k Q st r3 h.2 hk⟩
end
end DL
namespace DL
open PySem PySem.Spec PyProof.Rows L2 RZ
section
variable {X : Cx} {Wx : WX}
/-- behind the statement the slot's dict leaves the ledger -/
def dSealT (i : Nat) (ds : DS) : DS := fun D env L => ds { D with nx := fun env' L' => match env'[i]? with
  | some (some (.ptr p)) => match L'.lookup p with
    | some (.dt ks vs) => D.nx (env'.set i (some (.dt ks vs))) (remL L' p)
    | _ => False
  | _ => False } env L
theorem s_sealT (i : Nat) {st : Stmt} {ds : DS} (h : QS X Wx st ds) : QS X Wx st (dSealT i ds) := by
  obtain ⟨t, pt, s1⟩ := h.ex
  refine ⟨t, pt, fun σ H env L D' D st h ok => ?_⟩
  refine s1 σ H env L _ _ st h ⟨fun env' L' σ' H' h' g' st' => ?_, ok.rt, ok.ex, ok.bk, ok.ct⟩
  have h' : (match env'[i]? with
    | some (some (.ptr p)) => match L'.lookup p with
      | some (.dt ks vs) => D'.nx (env'.set i (some (.dt ks vs))) (remL L' p)
      | _ => False
    | _ => False) := h'
  split at h'
  · rename_i p hd
    split at h'
    · rename_i ks ds hl
      obtain ⟨v, e1, r⟩ := st'.1.get hd
      cases r
      obtain ⟨vs, e2, hn, rv⟩ := st'.2.look hl
      have g2 : Go L' (remL L' p) H' H' := go_rem
      have s2 := st'.1.go g2
      have r2 : Rp (remL L' p) X.K H' (.ref p) (.dt ks ds) := .dt (fun m => (inL_remL.mp m).2 rfl) (.inl e2) hn (rv.go go_rem)
      have s3 := s2.set r2 i
      have e3 : σ'.set i (some (V.ref p)) = σ' := by
        apply List.ext_getElem?
        intro j
        rw [List.getElem?_set]
        by_cases hj : i = j
        · subst hj
          rw [if_pos rfl, e1]
          have hlt : i < σ'.length := by
            rcases Nat.lt_or_ge i σ'.length with h | h
            · exact h
            · rw [List.getElem?_eq_none h] at e1; cases e1
          rw [if_pos hlt]
        · rw [if_neg hj]
      rw [e3] at s3
      exact ok.nx _ _ σ' H' h' (g'.trans g2) ⟨s3, st'.2.rem⟩
    · exact h'.elim
  · exact h'.elim
end
section
variable {P : Program} {w : World} {K : PySem.W.Frag} {mg : Str → Option Value} {base : Heap}
/-- a def with defaults, by position and keyword-only -/
abbrev FunF (K : PySem.W.Frag) (x qual : Str) (st : Stmt) (dvs : List V) (kws : List (Str × V)) (f : Addr) (fd : FuncData) : Prop := FunD K x qual (defArgs st) (defBody st) (defScope st) dvs kws f fd
theorem fn_okF {x qual : Str} {st : Stmt} {f : Addr} {fd : FuncData} {dvs : List V} {kws : List (Str × V)} {N ps : List Str} {k : Nat} {g : DSp} (F : FunF K x qual st dvs kws f fd) (S : FnScope N ps (defScope st)) (len : ∀ ds L k x, g ds L k x → ds.length = ps.length)
    (body : ∀ (cdv : Value) (A : Around) (outer : List Env) (s : Shared) (H : Hp) (E : XK), Room k (A.deeper (envOfC qual (defScope st) s.heap.objs.size f cdv)) →
      ∃ t, QSs (cxOf (L2.CX P w) P w K mg base N qual (defScope st) f cdv A outer s H E) (wxOf E) (defBody st) t ∧ ∀ ds L k x, g ds L k x → t (endsD k x) (startD N ds) L) : FnOk P w K mg base (L2.CX P w) (k + 1) f fd ps (spD K g) := by
  refine F.ok S (fun vs H Q E ⟨ds, L, k, x, j, r, h, _⟩ => by rw [r.length]; exact len ds L k x h) (fun cdv A outer s H vs Q E hr ⟨ds, L, k, x, j, r, h, hk, hx⟩ => ?_)
  obtain ⟨t, q, ht⟩ := body cdv A outer s H E hr
  obtain ⟨ts, pts, sts⟩ := q.ex
  refine ⟨ts, pts, sts _ H (startD N ds) L (endsD k x) _ ⟨?_, j⟩ (ht ds L k x h) ⟨fun env' L' σ' H' q g' st' => hk .non L' .non H' q g' st'.2 .non, hk, fun n env' L' a H' σ' q g' st' r' => hx n L' a H' q g' st'.2 r', fun _ _ _ _ q => q.elim, fun _ _ _ _ q => q.elim⟩⟩
  unfold L2.start startD
  rw [r.length]
  exact Sto.start r
/-- all defaults by themselves, as keywords that lack -/
theorem kwb_of {fd : FuncData} {ps : List Str} {n : Nat} {us : List Value} (b : Binds K fd ps us) (hn : n + us.length = ps.length) : KwB K fd ps n [] us (fun a _ c => a ++ c) :=
  ⟨fun s as ws X l1 l2 => b s as X (by rw [List.length_append]; omega)⟩
end
end DL
namespace DL
open PySem PySem.Spec PyProof.Rows L2 RZ
/-- C.m is a static method: its record at p, its def at g -/
structure SMet (K : PySem.W.Frag) (C : Addr) (mc : Value) (m : Str) (p g : Addr) : Prop where
  at_ : PySem.W.findCls K (.ref C) mc m = some (.get (.builtin "staticmethod.__get__") (.ref p) .none (.ref C))
  rc : ∃ rest, PySem.W.recIn K p "staticmethod" = some (.ref g :: rest)
  kp : PySem.W.keepIn K (.ref g) = true
section
variable {X : Cx} {Wx : WX} {a b c e o f : Expr} {es : List Expr} {da db dc de do' df : DE} {dl dk : DA} {pos apos : Pos}
theorem getsm_ok {pp : List (Addr × Obj)} {σ : L2.St} {H : Hp} {s : Shared} {C p g : Addr} {mc : Value} {m : Str} {A : Around} {E : Value → Shared → Prop} {pl : Sem Bool} {Q : Value × List Value → Shared → Prop} (I : Inv X pp σ H s) (r : ClX.CRead X.K C mc) (k : SMet X.K C mc m p g)
    (h : ∀ s', Inv X pp σ H s' → Q (.ref g, []) s') : wpAny (model X.prog X.w) A (getMethod (.ref C) m pl) Q E s := by
  obtain ⟨rest, hp⟩ := k.rc
  refine PySem.W.method_cls I.kIn r.ga (PySem.W.cls_bind I.kIn r.rd k.at_ (wpAny_call (PySem.W.sm_get (s := { s with toks := s.toks + 1 }) I.kIn hp (PySem.W.handed_on (handed_of (show RelV (.ref g) (.ref g) from rfl)) ?_))))
  exact h _ (I.tok _)
/-- C.m(..), a static method by its class and name -/
structure SCal (P : Program) (w : World) (K : PySem.W.Frag) (mg : Str → Option Value) (base : Heap) (n : Nat) (x : Str) (C : Addr) (m : Str) (ps : List Str) (dd : List D) (g : DSp) : Prop where
  ex : ∃ mc p f fd us dvs, FnOk P w K mg base (L2.CX P w) n f fd ps (spD K g) ∧ mg x = some (.ref C) ∧ ClX.CRead K C mc ∧ SMet K C mc m p f ∧ Binds K fd ps us ∧ Vals dvs us ∧ ∀ L H, RpAll L K H dvs dd
theorem q_stat {x m : Str} {p : Pos} {C : Addr} {n k : Nat} {ps : List Str} {g : DSp} {dd : List D} {pl : Sem Bool} (F : SCal X.prog X.w X.K X.mg X.base n x C m ps dd g) (hn : n ≤ k) (hr : Room k X.A) (tk : Takes X Wx) (hg : Gl X x) (ha : QA X Wx (e :: es) dl) (hdb : (x == ("__debug__" : Str)) = false := by decide)
    (h1 : starEach (e :: es) X.env = (false, eval e X.env) :: starEach es X.env := by rfl) (h2 : (backTo pos (starEach es X.env)).any (·.1) = false := by rfl)
    (h3 : eval (.Call (.Attribute (.Name x p) m apos) (e :: es) [] pos) X.env = (do let ov ← eval (.Name x p) X.env; standAt apos.atName; let (f, first) ← holding [ov] (getMethod ov m pl); callWith pos f first (backTo pos (starEach (e :: es) X.env)) (backToKw pos (keywordEach [] X.env))) := by rfl) :
    QE X Wx (.Call (.Attribute (.Name x p) m apos) (e :: es) [] pos) (dCall g dd dl) := by
  obtain ⟨mc, q, f, fd, us, dvs, F, hm, rd, sm, hb, hd, hdd⟩ := F.ex
  obtain ⟨ta, pa, sa⟩ := ha.ex
  refine ⟨tCallSD (spD X.K g) dvs (WE Wx) ta, ⟨fun pp s σ H Q I h => ?_⟩, fun σ H env L k x Q st h hk hx => ?_⟩
  · refine PySem.W.methodCall_KW (pl := pl) (thn ((pe_glob (v := .ref C) hg hm rfl hdb).run pp s σ H (fun v H1 => v = .ref C ∧ tCallSD (spD X.K g) dvs (WE Wx) ta σ H1 Q) I ⟨rfl, h⟩) fun u s1 ⟨v, H1, I1, rv, ev, q1⟩ => ?_) h3
    subst ev
    obtain rfl : u = Value.ref C := rv
    refine getsm_ok I1 rd sm fun s2 I2 => PySem.W.callWith_K (first := []) (h₀ := X.base) I.ok.mod.kin sm.kp (thn (pa.run pos pp s2 σ H1 _ I2 q1) fun us2 _ ⟨vs, _, I3, r, q2⟩ => ⟨I3.kIn, ?_⟩) h1 h2
    exact run_fnSD F (hr.mono hn) hb hd (passAt tk σ) I3 r q2
  · refine sa σ H env L _ x _ st h (fun ds L1 vs H1 h1 g1 j1 r1 => ?_) hx
    exact ⟨ds ++ dd, L1, k, fun n L' => x n env L', j1, r1.append (hdd L1 H1), h1, hk.go g1, fun n L' a H' q g' j' r => hx n env L' a H' σ q (g1.trans g') (st.go (g1.trans g') j') r⟩
/-- o.f, a property whose getter is a def of its own (it raises nothing) -/
structure PropM (P : Program) (w : World) (K : PySem.W.Frag) (mg : Str → Option Value) (base : Heap) (n : Nat) (C : Addr) (f : Str) (g : DSp) : Prop where
  ex : ∃ p q fd, Cls K C ∧ PropOf K C f p q ∧ FnOk P w K mg base (L2.CX P w) n q fd ["self"] (spD K g) ∧ Binds K fd ["self"] []
theorem q_propM {C : Addr} {f : Str} {n k : Nat} {g : DSp} (F : PropM X.prog X.w X.K X.mg X.base n C f g) (hn : n + 1 ≤ k) (hr : Room k X.A) (he : QE X Wx e de) (hab : attributeBase e f X.env (eval e X.env) = eval e X.env := by rfl) : QE X Wx (.Attribute e f pos) (dOwn1 C g (fun _ => True) de) := by
  obtain ⟨p, q, fd, c, hp, F, hb⟩ := F.ex
  obtain ⟨te, pe, se⟩ := he.ex
  refine ⟨_, pe_prop pe c hp F (hr.mono hn) hb .nil (E := fun _ _ _ => False) nox_cx hab, fun σ H env L kk x Q st hh hk hx => ?_⟩
  refine se σ H env L _ x _ st hh (fun a L1 va H1 h1 g1 j1 r1 => ?_) hx
  split at h1
  · rename_i C' ns ds hc
    obtain ⟨rfl, h1⟩ := h1
    obtain ⟨z, dx, vs, rfl, hz, hl, rv⟩ := con_obj j1 r1 hc
    exact ⟨z, dx, _, rfl, hz, [a], L1, _, _, j1, .cons r1 .nil, h1, fun d L2 v H2 h2 g2 j2 r2 => hk d L2 v H2 h2.2 (g1.trans g2) j2 r2, fun n L' a H' z _ _ _ => z⟩
  · exact h1.elim
end
end DL
namespace DL
open PySem PySem.Spec PyProof.Rows L2 RZ
section
variable {X : Cx} {Wx : WX} {a b c e o f : Expr} {es : List Expr} {da db dc de do' df : DE} {dl dk : DA} {pos apos : Pos}
structure GTup (K : PySem.W.Frag) (mg : Str → Option Value) (x : Str) (zs : List Str) : Prop where
  ex : ∃ (a : Addr) (o : Obj) (its : Array Value) (n : Nat), mg x = some (.ref a) ∧ K.lookup a = some o ∧ o.cls = .type "tuple" ∧ o.dict = none ∧ o.data = .seq its n ∧ its.size ≤ sizeLine ∧ Vals (zs.map V.str) its.toList
def dIdxG (zs : List Str) (de : DE) : DE := fun env L k x => de env L (fun b L2 => match b with
  | .str z => ∃ j : Nat, zs[j]? = some z ∧ (∀ m : Nat, m < j → zs[m]? ≠ some z) ∧ k (.int (j : Int)) L2
  | _ => False) x
theorem q_indexG {x : Str} {p : Pos} {zs : List Str} (T : GTup X.K X.mg x zs) (hg : Gl X x) (he : QE X Wx e de) (hdb : (x == ("__debug__" : Str)) = false := by decide)
    (hbase : attributeBase (.Name x p) "index" X.env (eval (.Name x p) X.env) = eval (.Name x p) X.env := by rfl)
    (hfew : ((backTo pos (starEach (e :: []) X.env)).all (fun x => !x.1) && (backToKw pos (keywordEach [] X.env)).all (fun x => x.1.isSome)
      && decide ((e :: []).length + ([] : List Keyword).length + (if ([] : List Keyword).isEmpty then 0 else 1) < 30)) = true := by rfl)
    (hline : (apos.endLine == pos.line) = true := by rfl) (hs : starEach (e :: []) X.env = (false, eval e X.env) :: starEach [] X.env := by rfl) (hplain : (backTo pos (starEach [] X.env)).any (·.1) = false := by rfl) :
    QE X Wx (.Call (.Attribute (.Name x p) "index" apos) [e] [] pos) (dIdxG zs de) := by
  obtain ⟨a, o, its, n, hm, lk, hc, hd, hdat, hz, rv⟩ := T.ex
  obtain ⟨ta, pa, sa⟩ := (a_cons he a_nil hs).ex
  refine ⟨_, pe_bm PySem.F.plainAttrs_tuple PySem.F.slot_tuple_index PySem.F.type_tuple_index mt_tup_index (pe_glob (v := .ref a) hg hm rfl hdb) pa hbase hfew hline hs hplain, fun σ H env L k x Q st h hk hx => ?_⟩
  refine ⟨.inr (.inl ⟨rfl, o, lk, hc, hd⟩), ?_⟩
  refine sa σ H env L (fun ds L2 => match ds with
    | [b] => (match b with
      | .str z => ∃ j : Nat, zs[j]? = some z ∧ (∀ m : Nat, m < j → zs[m]? ≠ some z) ∧ k (.int (j : Int)) L2
      | _ => False)
    | _ => False) x _ st h (fun ds L2 vs H2 h2 g2 j2 r2 => ?_) hx
  split at h2
  · rename_i b
    cases r2 with
    | @cons vb _ _ _ rb r0 =>
    cases r0
    split at h2
    · rename_i z
      cases rb
      obtain ⟨j, hj, hno, h2⟩ := h2
      exact ⟨a, zs, z, j, rfl, rfl, .inr ⟨o, its, n, lk, hc, hdat, hz, rv⟩, hj, hno, hk _ L2 _ H2 h2 g2 j2 (.int _)⟩
    · exact h2.elim
  · exact h2.elim
def rMaxDf (K : PySem.W.Frag) : List V → List V → Hp → VK → Prop := fun vs zs H Q => ∃ (a : Addr) (ns : List Int) (d : Int), vs = [V.ref a] ∧ zs = [V.int d] ∧ SqL K H a (ns.map V.int) ∧ (ns = [] → Q (.int d) H) ∧ ∀ m, m ∈ ns → (∀ y, y ∈ ns → y ≤ m) → Q (.int m) H
theorem hold_ints {h : Heap} : ∀ {ns : List Int} {its : List Value}, Vals (ns.map V.int) its → PySem.W.HoldAll h its ns
  | [], _, r => by cases r; exact PySem.W.HoldAll.nil
  | n :: ns, _, r => by
    cases r with
    | cons r rs =>
      obtain ⟨t, rfl⟩ := r
      exact PySem.W.HoldAll.cons (PySem.W.holds_int n t) (hold_ints rs)
theorem max_is : ∀ (ys : List Int) (y : Int), (PySem.W.maxOf y ys = y ∨ PySem.W.maxOf y ys ∈ ys) ∧ y ≤ PySem.W.maxOf y ys ∧ ∀ z ∈ ys, z ≤ PySem.W.maxOf y ys
  | [], y => ⟨.inl rfl, Int.le_refl _, fun _ h => nomatch h⟩
  | x :: xs, y => by
    have e : PySem.W.maxOf y (x :: xs) = PySem.W.maxOf (if decide (y < x) = true then x else y) xs := rfl
    rw [e]
    by_cases h : y < x
    · rw [if_pos (decide_eq_true h)]
      obtain ⟨p, q, r⟩ := max_is xs x
      refine ⟨.inr ?_, by omega, fun z hz => ?_⟩
      · rcases p with p | p
        · rw [p]; exact .head _
        · exact .tail _ p
      · cases hz with
        | head => exact q
        | tail _ hz => exact r z hz
    · rw [if_neg (by rw [decide_eq_true_eq]; exact h)]
      obtain ⟨p, q, r⟩ := max_is xs y
      refine ⟨p.imp id (.tail _), q, fun z hz => ?_⟩
      cases hz with
      | head => omega
      | tail _ hz => exact r z hz
theorem int_at : ∀ {ns : List Int} {its : List Value} {i : Nat} {v : Value}, Vals (ns.map V.int) its → its[i]? = some v → ∃ n t, v = .int n t
  | [], _, _, _, r, h => by cases r; cases h
  | n :: ns, _, i, v, r, h => by
    cases r with
    | cons r rs =>
      cases i with
      | zero =>
        obtain ⟨t, rfl⟩ := r
        cases h
        exact ⟨n, t, rfl⟩
      | succ i => exact int_at rs h
theorem call_maxDf (hc : X.calm = true) (hu : X.A.units + 64 < cLine) : CallRK X (.builtin "max") ["default"] (rMaxDf X.K) := fun pp s σ H xs zs us ws Q I r rz h => by
  obtain ⟨a, ns, d, rfl, rfl, hs, q0, q1⟩ := h
  obtain ⟨its, rv, hl, _⟩ := I.list hs
  rw [Vals.ref1 r]
  obtain ⟨u, rfl, rd⟩ := vals1 rz
  obtain ⟨t, rfl⟩ := rd
  refine PySem.W.max_list_datum_default (α := Int) (I.ok.hd hc) hl.isList (hold_ints rv) (by show X.A.units + 1 + 0 < cLine; omega) (fun e h2 tk kp => ⟨.int d, H, I.kept kp, ⟨_, rfl⟩, q0 e⟩) (fun y ys i v h2 tk e hi hv kp => ?_)
  subst e
  rw [← Array.getElem?_toList] at hi
  obtain ⟨n, t, rfl⟩ := int_at rv hi
  have en : n = PySem.W.maxOf y ys := by
    obtain ⟨as, hv⟩ := hv
    cases hv
    rfl
  obtain ⟨p, q, r⟩ := max_is ys y
  refine ⟨.int n, H, I.kept kp, ⟨_, rfl⟩, q1 n ?_ fun z hz => ?_⟩
  · rw [en]
    rcases p with p | p
    · rw [p]; exact .head _
    · exact .tail _ p
  · rw [en]
    cases hz with
    | head => exact q
    | tail _ hz => exact r z hz
end
end DL
namespace DH
open PySem PySem.Spec PyProof.Rows L2 DL
def smG (K : Frag) (p : Addr) : Addr := match PySem.W.recIn K p "staticmethod" with
  | some (.ref g :: _) => g
  | _ => 0
def smP (K : Frag) (C : Addr) (m : Str) : Addr := match PySem.W.findCls K (.ref C) (.type "type") m with
  | some (.get _ (.ref p) _ _) => p
  | _ => 0
def smB (K : Frag) (C : Addr) (m : Str) : Bool := (match PySem.W.findCls K (.ref C) (.type "type") m with
  | some (.get (.builtin n) (.ref _) .none (.ref c)) => decide (n = "staticmethod.__get__") && decide (c = C)
  | _ => false) && (match PySem.W.recIn K (smP K C m) "staticmethod" with
  | some (.ref g :: _) => PySem.W.keepIn K (.ref g)
  | _ => false)
theorem smB_ok {K : Frag} {C : Addr} {m : Str} (h : smB K C m = true) : SMet K C (.type "type") m (smP K C m) (smG K (smP K C m)) := by
  obtain ⟨h1, h2⟩ := He.ba h
  have e1 : PySem.W.findCls K (.ref C) (.type "type") m = some (.get (.builtin "staticmethod.__get__") (.ref (smP K C m)) .none (.ref C)) := by
    unfold smP
    split at h1
    · rename_i n p c e
      obtain ⟨k1, k2⟩ := He.ba h1
      have k1 := of_decide_eq_true k1
      have k2 := of_decide_eq_true k2
      subst k1 k2
      rw [e]
    · cases h1
  cases e : PySem.W.recIn K (smP K C m) "staticmethod" with
  | none => rw [e] at h2; cases h2
  | some l =>
    rw [e] at h2
    cases l with
    | nil => cases h2
    | cons v r =>
      cases v with
      | ref g =>
        have eg : smG K (smP K C m) = g := by
          unfold smG
          rw [e]
        rw [eg]
        exact ⟨e1, ⟨r, e⟩, h2⟩
      | _ => cases h2
def crB (K : Frag) (C : Addr) : Bool := PySem.W.readsIn K C (.type "type") && decide (PySem.W.specialIn K (.ref C) "__getattribute__" = some (some (.builtin "type.__getattribute__")))
theorem crB_ok {K : Frag} {C : Addr} (h : crB K C = true) : ClX.CRead K C (.type "type") := by
  obtain ⟨h1, h2⟩ := He.ba h
  exact ⟨h1, of_decide_eq_true h2⟩
def gtB (K : Frag) (a : Addr) (zs : List Str) : Bool := match K.lookup a with
  | some ⟨.type c, none, .seq its _, _⟩ => decide (c = "tuple") && (decide (its.size ≤ sizeLine) && He.relAll (zs.map V.str) its.toList)
  | _ => false
theorem gtB_ok {K : Frag} {mg : Str → Option Value} {x : Str} {a : Addr} {zs : List Str} (h : gtB K a zs = true) (m : mg x = some (.ref a)) : GTup K mg x zs := by
  unfold gtB at h
  split at h
  · rename_i c its n sl e
    obtain ⟨h1, h2⟩ := He.ba h
    obtain ⟨h3, h4⟩ := He.ba h2
    exact ⟨a, _, its, n, m, e, congrArg Value.type (of_decide_eq_true h1), rfl, rfl, of_decide_eq_true h3, He.relAll_ok h4⟩
  · cases h
/-- an empty tuple -/
def emB (K : Frag) (a : Addr) : Bool := match K.lookup a with
  | some ⟨c, _, .seq its _, _⟩ => (c == .type "tuple") && its.isEmpty
  | _ => false
theorem emB_rp {K : Frag} {a : Addr} (h : emB K a = true) : ∀ L H, Rp L K H (.ref a) (.tup []) := fun L H => by
  unfold emB at h
  split at h
  · rename_i c d its n sl e
    rw [Bool.and_eq_true] at h
    obtain ⟨h1, h2⟩ := h
    have hi : its = #[] := Array.isEmpty_iff.mp h2
    subst hi
    exact .tup (.inr ⟨_, #[], n, e, beq_iff_eq.mp h1, rfl, Nat.zero_le _, .nil⟩) .nil
  · cases h
end DH
namespace T06
open PySem L2 DL
abbrev sPolyInit : Stmt := sAt 0 (sBody (top 20))
abbrev sPolyLetter : Stmt := sAt 2 (sBody (top 20))
abbrev sPolyDegree : Stmt := sAt 3 (sBody (top 20))
abbrev sPolyDegreeIn : Stmt := sAt 4 (sBody (top 20))
abbrev sPolyTerms : Stmt := sAt 6 (sBody (top 20))
abbrev sPolyValueAt : Stmt := sAt 8 (sBody (top 20))
abbrev sPolyAdd : Stmt := sAt 12 (sBody (top 20))
abbrev sPolyRadd : Stmt := sAt 13 (sBody (top 20))
abbrev sPolySub : Stmt := sAt 14 (sBody (top 20))
abbrev sPolyRsub : Stmt := sAt 15 (sBody (top 20))
abbrev sPolyMul : Stmt := sAt 16 (sBody (top 20))
abbrev sPolyRmul : Stmt := sAt 17 (sBody (top 20))
abbrev sPolyNeg : Stmt := sAt 18 (sBody (top 20))
abbrev sPolyPow : Stmt := sAt 19 (sBody (top 20))
abbrev sPolyEq : Stmt := sAt 20 (sBody (top 20))
end T06
namespace T06
open PySem L2 DL TL NumText
abbrev sGet0 : Stmt := sAt 3 (sBody (top 20))
namespace Hd
def t0 : PySem.W.Frag → Bool := fun K => decide (PySem.W.nsIn K mainGlobals "Poly" = some (some (.ref (He.ga K "Poly"))))
def t1 : PySem.W.Frag → Bool := fun K => decide (PySem.W.nsIn K mainGlobals "is_integer" = some (some (.ref (He.fAd K ("is_integer", none)))))
def t2 : PySem.W.Frag → Bool := fun K => decide (PySem.W.nsIn K mainGlobals "is_number" = some (some (.ref (He.fAd K ("is_number", none)))))
def t3 : PySem.W.Frag → Bool := fun K => decide (PySem.W.nsIn K mainGlobals "lowest" = some (some (.ref (He.fAd K ("lowest", none)))))
def t4 : PySem.W.Frag → Bool := fun K => decide (PySem.W.nsIn K mainGlobals "check_letter" = some (some (.ref (He.fAd K ("check_letter", none)))))
def t5 : PySem.W.Frag → Bool := fun K => decide (PySem.W.nsIn K mainGlobals "check_terms" = some (some (.ref (He.fAd K ("check_terms", none)))))
def t6 : PySem.W.Frag → Bool := fun K => decide (PySem.W.nsIn K mainGlobals "made_of" = some (some (.ref (He.fAd K ("made_of", none)))))
def t7 : PySem.W.Frag → Bool := fun K => decide (PySem.W.nsIn K mainGlobals "added" = some (some (.ref (He.fAd K ("added", none)))))
def t8 : PySem.W.Frag → Bool := fun K => decide (PySem.W.nsIn K mainGlobals "multiplied" = some (some (.ref (He.fAd K ("multiplied", none)))))
def t9 : PySem.W.Frag → Bool := fun K => decide (PySem.W.nsIn K mainGlobals "powers" = some (some (.ref (He.fAd K ("powers", none)))))
def t10 : PySem.W.Frag → Bool := fun K => decide (PySem.W.nsIn K mainGlobals "_law_bag" = some (some (.ref (He.fAd K ("_law_bag", none)))))
def t11 : PySem.W.Frag → Bool := fun K => decide (PySem.W.nsIn K mainGlobals "_law_pull" = some (some (.ref (He.fAd K ("_law_pull", none)))))
def t12 : PySem.W.Frag → Bool := fun K => decide (PySem.W.nsIn K mainGlobals "_law_of" = some (some (.ref (He.fAd K ("_law_of", none)))))
def t13 : PySem.W.Frag → Bool := fun K => decide (PySem.W.nsIn K mainGlobals "_law_same" = some (some (.ref (He.fAd K ("_law_same", none)))))
def t14 : PySem.W.Frag → Bool := fun K => decide (PySem.W.nsIn K mainGlobals "_law_gcd" = some (some (.ref (He.fAd K ("_law_gcd", none)))))
def t15 : PySem.W.Frag → Bool := fun K => decide (PySem.W.nsIn K mainGlobals "_law_low" = some (some (.ref (He.fAd K ("_law_low", none)))))
def t16 : PySem.W.Frag → Bool := fun K => decide (PySem.W.nsIn K mainGlobals "_law_add" = some (some (.ref (He.fAd K ("_law_add", none)))))
def t17 : PySem.W.Frag → Bool := fun K => decide (PySem.W.nsIn K mainGlobals "_law_sub" = some (some (.ref (He.fAd K ("_law_sub", none)))))
def t18 : PySem.W.Frag → Bool := fun K => decide (PySem.W.nsIn K mainGlobals "_law_mul" = some (some (.ref (He.fAd K ("_law_mul", none)))))
def t19 : PySem.W.Frag → Bool := fun K => decide (PySem.W.nsIn K mainGlobals "_law_ratio" = some (some (.ref (He.fAd K ("_law_ratio", none)))))
def t20 : PySem.W.Frag → Bool := fun K => decide (PySem.W.nsIn K mainGlobals "_law_point" = some (some (.ref (He.fAd K ("_law_point", none)))))
def t21 : PySem.W.Frag → Bool := fun K => decide (PySem.W.nsIn K mainGlobals "_law_to" = some (some (.ref (He.fAd K ("_law_to", none)))))
def t22 : PySem.W.Frag → Bool := fun K => decide (PySem.W.nsIn K mainGlobals "_law_gathered" = some (some (.ref (He.fAd K ("_law_gathered", none)))))
def t23 : PySem.W.Frag → Bool := fun K => decide (PySem.W.nsIn K mainGlobals "_law_terms" = some (some (.ref (He.fAd K ("_law_terms", none)))))
def t24 : PySem.W.Frag → Bool := fun K => decide (PySem.W.nsIn K mainGlobals "_law_terms_plus" = some (some (.ref (He.fAd K ("_law_terms_plus", none)))))
def t25 : PySem.W.Frag → Bool := fun K => decide (PySem.W.nsIn K mainGlobals "_law_terms_times" = some (some (.ref (He.fAd K ("_law_terms_times", none)))))
def t26 : PySem.W.Frag → Bool := fun K => decide (PySem.W.nsIn K mainGlobals "_law_terms_at" = some (some (.ref (He.fAd K ("_law_terms_at", none)))))
def t27 : PySem.W.Frag → Bool := fun K => decide (PySem.W.nsIn K mainGlobals "_law_poly" = some (some (.ref (He.fAd K ("_law_poly", none)))))
def t28 : PySem.W.Frag → Bool := fun K => decide (PySem.W.nsIn K mainGlobals "law" = some (some (.ref (He.fAd K ("law", none)))))
def t29 : PySem.W.Frag → Bool := fun K => decide (PySem.W.findIn K (.ref (He.ga K "Poly")) "__init__" = some (some (.ref (He.fAd K ("Poly", some "__init__")))))
def t30 : PySem.W.Frag → Bool := fun K => decide (PySem.W.isFn K (.ref (He.fAd K ("Poly", some "__init__"))) = true)
def t31 : PySem.W.Frag → Bool := fun K => DH.emB K (He.dflAt ("Poly", some "__init__") 0 K)
def t32 : PySem.W.Frag → Bool := fun K => decide (PySem.W.findIn K (.ref (He.ga K "Poly")) "degree_in" = some (some (.ref (He.fAd K ("Poly", some "degree_in")))))
def t33 : PySem.W.Frag → Bool := fun K => decide (PySem.W.isFn K (.ref (He.fAd K ("Poly", some "degree_in"))) = true)
def t34 : PySem.W.Frag → Bool := fun K => decide (PySem.W.findIn K (.ref (He.ga K "Poly")) "terms" = some (some (.ref (He.fAd K ("Poly", some "terms")))))
def t35 : PySem.W.Frag → Bool := fun K => decide (PySem.W.isFn K (.ref (He.fAd K ("Poly", some "terms"))) = true)
def t36 : PySem.W.Frag → Bool := fun K => decide (PySem.W.findIn K (.ref (He.ga K "Poly")) "value_at" = some (some (.ref (He.fAd K ("Poly", some "value_at")))))
def t37 : PySem.W.Frag → Bool := fun K => decide (PySem.W.isFn K (.ref (He.fAd K ("Poly", some "value_at"))) = true)
def t38 : PySem.W.Frag → Bool := fun K => decide (PySem.W.findIn K (.ref (He.ga K "Poly")) "__add__" = some (some (.ref (He.fAd K ("Poly", some "__add__")))))
def t39 : PySem.W.Frag → Bool := fun K => decide (PySem.W.isFn K (.ref (He.fAd K ("Poly", some "__add__"))) = true)
def t40 : PySem.W.Frag → Bool := fun K => decide (PySem.W.findIn K (.ref (He.ga K "Poly")) "__radd__" = some (some (.ref (He.fAd K ("Poly", some "__radd__")))))
def t41 : PySem.W.Frag → Bool := fun K => decide (PySem.W.isFn K (.ref (He.fAd K ("Poly", some "__radd__"))) = true)
def t42 : PySem.W.Frag → Bool := fun K => decide (PySem.W.findIn K (.ref (He.ga K "Poly")) "__sub__" = some (some (.ref (He.fAd K ("Poly", some "__sub__")))))
def t43 : PySem.W.Frag → Bool := fun K => decide (PySem.W.isFn K (.ref (He.fAd K ("Poly", some "__sub__"))) = true)
def t44 : PySem.W.Frag → Bool := fun K => decide (PySem.W.findIn K (.ref (He.ga K "Poly")) "__rsub__" = some (some (.ref (He.fAd K ("Poly", some "__rsub__")))))
def t45 : PySem.W.Frag → Bool := fun K => decide (PySem.W.isFn K (.ref (He.fAd K ("Poly", some "__rsub__"))) = true)
def t46 : PySem.W.Frag → Bool := fun K => decide (PySem.W.findIn K (.ref (He.ga K "Poly")) "__mul__" = some (some (.ref (He.fAd K ("Poly", some "__mul__")))))
def t47 : PySem.W.Frag → Bool := fun K => decide (PySem.W.isFn K (.ref (He.fAd K ("Poly", some "__mul__"))) = true)
def t48 : PySem.W.Frag → Bool := fun K => decide (PySem.W.findIn K (.ref (He.ga K "Poly")) "__rmul__" = some (some (.ref (He.fAd K ("Poly", some "__rmul__")))))
def t49 : PySem.W.Frag → Bool := fun K => decide (PySem.W.isFn K (.ref (He.fAd K ("Poly", some "__rmul__"))) = true)
def t50 : PySem.W.Frag → Bool := fun K => decide (PySem.W.findIn K (.ref (He.ga K "Poly")) "__neg__" = some (some (.ref (He.fAd K ("Poly", some "__neg__")))))
def t51 : PySem.W.Frag → Bool := fun K => decide (PySem.W.isFn K (.ref (He.fAd K ("Poly", some "__neg__"))) = true)
def t52 : PySem.W.Frag → Bool := fun K => decide (PySem.W.findIn K (.ref (He.ga K "Poly")) "__pow__" = some (some (.ref (He.fAd K ("Poly", some "__pow__")))))
def t53 : PySem.W.Frag → Bool := fun K => decide (PySem.W.isFn K (.ref (He.fAd K ("Poly", some "__pow__"))) = true)
def t54 : PySem.W.Frag → Bool := fun K => decide (PySem.W.findIn K (.ref (He.ga K "Poly")) "__eq__" = some (some (.ref (He.fAd K ("Poly", some "__eq__")))))
def t55 : PySem.W.Frag → Bool := fun K => decide (PySem.W.isFn K (.ref (He.fAd K ("Poly", some "__eq__"))) = true)
def t56 : PySem.W.Frag → Bool := fun K => decide (PySem.W.nsIn K mainGlobals "isinstance" = some none)
def t57 : PySem.W.Frag → Bool := fun K => decide (PySem.W.nsIn K mainGlobals "int" = some none)
def t58 : PySem.W.Frag → Bool := fun K => decide (PySem.W.nsIn K mainGlobals "bool" = some none)
def t59 : PySem.W.Frag → Bool := fun K => decide (PySem.W.nsIn K mainGlobals "str" = some none)
def t60 : PySem.W.Frag → Bool := fun K => decide (PySem.W.nsIn K mainGlobals "list" = some none)
def t61 : PySem.W.Frag → Bool := fun K => decide (PySem.W.nsIn K mainGlobals "tuple" = some none)
def t62 : PySem.W.Frag → Bool := fun K => decide (PySem.W.nsIn K mainGlobals "len" = some none)
def t63 : PySem.W.Frag → Bool := fun K => decide (PySem.W.nsIn K mainGlobals "abs" = some none)
def t64 : PySem.W.Frag → Bool := fun K => decide (PySem.W.nsIn K mainGlobals "all" = some none)
def t65 : PySem.W.Frag → Bool := fun K => decide (PySem.W.nsIn K mainGlobals "range" = some none)
def t66 : PySem.W.Frag → Bool := fun K => decide (PySem.W.nsIn K mainGlobals "zip" = some none)
def t67 : PySem.W.Frag → Bool := fun K => decide (PySem.W.nsIn K mainGlobals "enumerate" = some none)
def t68 : PySem.W.Frag → Bool := fun K => decide (PySem.W.nsIn K mainGlobals "sorted" = some none)
def t69 : PySem.W.Frag → Bool := fun K => decide (PySem.W.nsIn K mainGlobals "reversed" = some none)
def t70 : PySem.W.Frag → Bool := fun K => decide (PySem.W.nsIn K mainGlobals "repr" = some none)
def t71 : PySem.W.Frag → Bool := fun K => decide (PySem.W.nsIn K mainGlobals "max" = some none)
def t72 : PySem.W.Frag → Bool := fun K => decide (PySem.W.nsIn K mainGlobals "gcd" = some (some (.builtin "math.gcd")))
def t73 : PySem.W.Frag → Bool := fun K => decide (PySem.W.nsIn K mainGlobals "LETTERS" = some (some (.ref (He.ga K "LETTERS"))))
def t74 : PySem.W.Frag → Bool := fun K => He.tupB K "LETTERS" [.str "x", .str "y"]
def t75 : PySem.W.Frag → Bool := fun K => DH.gtB K (He.ga K "LETTERS") ["x", "y"]
def t76 : PySem.W.Frag → Bool := fun K => decide (PySem.W.plainGet K (He.ga K "Poly") Str.empty = true)
def t77 : PySem.W.Frag → Bool := fun K => decide (PySem.W.hasDictIn K (He.ga K "Poly") = true)
def t78 : PySem.W.Frag → Bool := fun K => decide (PySem.W.plainOver K (He.ga K "Poly") = true)
def t79 : PySem.W.Frag → Bool := fun K => decide (PySem.W.findIn K (.ref (He.ga K "Poly")) "__setattr__" = some (some (.builtin "object.__setattr__")))
def t80 : PySem.W.Frag → Bool := fun K => decide (PySem.W.makesIn K (He.ga K "Poly") = true)
def t81 : PySem.W.Frag → Bool := fun K => decide (PySem.W.keepIn K (.ref (He.ga K "Poly")) = true)
def t82 : PySem.W.Frag → Bool := fun K => decide (PySem.W.findIn K (.ref (He.ga K "Poly")) "cells" = some none)
def t83 : PySem.W.Frag → Bool := fun K => decide (PySem.W.findIn K (.ref (He.ga K "Poly")) "__class__" = some (some (.builtin "object.__class__")))
def t84 : PySem.W.Frag → Bool := fun K => decide (PySem.W.specialIn K (.builtin "object.__class__") "__get__" = some (some (.builtin "getset_descriptor.__get__")))
def t85 : PySem.W.Frag → Bool := fun K => decide (PySem.W.takesIn K (.builtin "object.__class__") = some true)
def t86 : PySem.W.Frag → Bool := fun K => decide (PySem.W.mroIn K (He.ga K "Poly") (.type "object") = some true)
def t87 : PySem.W.Frag → Bool := fun K => decide (PySem.W.findIn K (.ref (He.ga K "Poly")) "__ne__" = some (some (.builtin "object.__ne__")))
def t88 : PySem.W.Frag → Bool := fun K => decide (PySem.W.kitOne K (.ref (He.ga K "Poly")) (.type "int") = some false)
def t89 : PySem.W.Frag → Bool := fun K => decide (PySem.W.selfFirst K (He.ga K "Poly") = true)
def t90 : PySem.W.Frag → Bool := fun K => decide (PySem.W.subIn K (.type "int") (.ref (He.ga K "Poly")) = some false)
def t91 : PySem.W.Frag → Bool := fun K => decide (PySem.W.subIn K (.ref (He.ga K "Poly")) (.type "int") = some false)
def t92 : PySem.W.Frag → Bool := fun K => decide ((PySem.W.clsIn K (He.ga K "Poly")).map (fun d => d.mro) = some [.ref (He.ga K "Poly"), .type "object"])
def t93 : PySem.W.Frag → Bool := fun K => decide (PySem.W.findIn K (.ref (He.ga K "Poly")) (dunderR "pow") = some none)
def t94 : PySem.W.Frag → Bool := fun K => decide (PySem.W.findIn K (.type "int") (PySem.dunder "add") = some (some (.builtin "int.__add__")))
def t95 : PySem.W.Frag → Bool := fun K => decide (PySem.W.findIn K (.type "int") (dunderR "add") = some (some (.builtin "int.__radd__")))
def t96 : PySem.W.Frag → Bool := fun K => decide (PySem.W.findIn K (.type "int") (PySem.dunder "sub") = some (some (.builtin "int.__sub__")))
def t97 : PySem.W.Frag → Bool := fun K => decide (PySem.W.findIn K (.type "int") (dunderR "sub") = some (some (.builtin "int.__rsub__")))
def t98 : PySem.W.Frag → Bool := fun K => decide (PySem.W.findIn K (.type "int") (PySem.dunder "mul") = some (some (.builtin "int.__mul__")))
def t99 : PySem.W.Frag → Bool := fun K => decide (PySem.W.findIn K (.type "int") (dunderR "mul") = some (some (.builtin "int.__rmul__")))
def t100 : PySem.W.Frag → Bool := fun K => decide (PySem.W.findIn K (.type "int") (PySem.dunder "pow") = some (some (.builtin "int.__pow__")))
def t101 : PySem.W.Frag → Bool := fun K => decide (PySem.W.findIn K (.type "int") (dunderR "pow") = some (some (.builtin "int.__rpow__")))
def t102 : PySem.W.Frag → Bool := fun K => decide (PySem.W.findIn K (.ref (He.ga K "Poly")) (dunderI "add") = some none)
def t103 : PySem.W.Frag → Bool := fun K => decide (PySem.W.findIn K (.type "object") (dunderI "add") = some none)
def t104 : PySem.W.Frag → Bool := fun K => decide (PySem.W.findIn K (.ref (He.ga K "Poly")) (dunderI "sub") = some none)
def t105 : PySem.W.Frag → Bool := fun K => decide (PySem.W.findIn K (.type "object") (dunderI "sub") = some none)
def t106 : PySem.W.Frag → Bool := fun K => DH.smB K (He.ga K "Poly") "letter"
def t107 : PySem.W.Frag → Bool := fun K => DH.fnPl K (DH.smG K (DH.smP K (He.ga K "Poly") "letter")) "Poly.letter"
def t108 : PySem.W.Frag → Bool := fun K => DH.crB K (He.ga K "Poly")
def t109 : PySem.W.Frag → Bool := fun K => DH.proB K (He.ga K "Poly") "degree"
def t110 : PySem.W.Frag → Bool := fun K => DH.fnPl K (DH.proG K (He.ma K (He.ga K "Poly") "degree")) "Poly.degree"
def t111 : PySem.W.Frag → Bool := fun K => decide (PySem.W.keepIn K (.ref (DH.proG K (He.ma K (He.ga K "Poly") "degree"))) = true)
def tsts : List (PySem.W.Frag → Bool) := [t0, t1, t2, t3, t4, t5, t6, t7, t8, t9, t10, t11, t12, t13, t14, t15, t16, t17, t18, t19, t20, t21, t22, t23, t24, t25, t26, t27, t28, t29, t30, t31, t32, t33, t34, t35, t36, t37, t38, t39, t40, t41, t42, t43, t44, t45, t46, t47, t48, t49, t50, t51, t52, t53, t54, t55, t56, t57, t58, t59, t60, t61, t62, t63, t64, t65, t66, t67, t68, t69, t70, t71, t72, t73, t74, t75, t76, t77, t78, t79, t80, t81, t82, t83, t84, t85, t86, t87, t88, t89, t90, t91, t92, t93, t94, t95, t96, t97, t98, t99, t100, t101, t102, t103, t104, t105, t106, t107, t108, t109, t110, t111]
def d0 : He.DefD := ⟨("is_integer", none), "is_integer", "is_integer", defArgs sIsInteger, defBody sIsInteger, defScope sIsInteger, [], []⟩
def d1 : He.DefD := ⟨("is_number", none), "is_number", "is_number", defArgs sIsNumber, defBody sIsNumber, defScope sIsNumber, [], []⟩
def d2 : He.DefD := ⟨("lowest", none), "lowest", "lowest", defArgs sLowest, defBody sLowest, defScope sLowest, [], []⟩
def d3 : He.DefD := ⟨("check_letter", none), "check_letter", "check_letter", defArgs sCheckLetter, defBody sCheckLetter, defScope sCheckLetter, [], []⟩
def d4 : He.DefD := ⟨("check_terms", none), "check_terms", "check_terms", defArgs sCheckTerms, defBody sCheckTerms, defScope sCheckTerms, [], []⟩
def d5 : He.DefD := ⟨("made_of", none), "made_of", "made_of", defArgs sMadeOf, defBody sMadeOf, defScope sMadeOf, [], []⟩
def d6 : He.DefD := ⟨("added", none), "added", "added", defArgs sAdded, defBody sAdded, defScope sAdded, [], []⟩
def d7 : He.DefD := ⟨("multiplied", none), "multiplied", "multiplied", defArgs sMultiplied, defBody sMultiplied, defScope sMultiplied, [], []⟩
def d8 : He.DefD := ⟨("powers", none), "powers", "powers", defArgs sPowers, defBody sPowers, defScope sPowers, [], []⟩
def d9 : He.DefD := ⟨("_law_bag", none), "_law_bag", "_law_bag", defArgs sLBag, defBody sLBag, defScope sLBag, [], []⟩
def d10 : He.DefD := ⟨("_law_pull", none), "_law_pull", "_law_pull", defArgs sLPull, defBody sLPull, defScope sLPull, [], []⟩
def d11 : He.DefD := ⟨("_law_of", none), "_law_of", "_law_of", defArgs sLOf, defBody sLOf, defScope sLOf, [], []⟩
def d12 : He.DefD := ⟨("_law_same", none), "_law_same", "_law_same", defArgs sLSame, defBody sLSame, defScope sLSame, [], []⟩
def d13 : He.DefD := ⟨("_law_gcd", none), "_law_gcd", "_law_gcd", defArgs sLGcd, defBody sLGcd, defScope sLGcd, [], []⟩
def d14 : He.DefD := ⟨("_law_low", none), "_law_low", "_law_low", defArgs sLLow, defBody sLLow, defScope sLLow, [], []⟩
def d15 : He.DefD := ⟨("_law_add", none), "_law_add", "_law_add", defArgs sLAdd, defBody sLAdd, defScope sLAdd, [], []⟩
def d16 : He.DefD := ⟨("_law_sub", none), "_law_sub", "_law_sub", defArgs sLSub, defBody sLSub, defScope sLSub, [], []⟩
def d17 : He.DefD := ⟨("_law_mul", none), "_law_mul", "_law_mul", defArgs sLMul, defBody sLMul, defScope sLMul, [], []⟩
def d18 : He.DefD := ⟨("_law_ratio", none), "_law_ratio", "_law_ratio", defArgs sLRatio, defBody sLRatio, defScope sLRatio, [], []⟩
def d19 : He.DefD := ⟨("_law_point", none), "_law_point", "_law_point", defArgs sLPoint, defBody sLPoint, defScope sLPoint, [], []⟩
def d20 : He.DefD := ⟨("_law_to", none), "_law_to", "_law_to", defArgs sLTo, defBody sLTo, defScope sLTo, [], []⟩
def d21 : He.DefD := ⟨("_law_gathered", none), "_law_gathered", "_law_gathered", defArgs sLGathered, defBody sLGathered, defScope sLGathered, [], []⟩
def d22 : He.DefD := ⟨("_law_terms", none), "_law_terms", "_law_terms", defArgs sLTerms, defBody sLTerms, defScope sLTerms, [], []⟩
def d23 : He.DefD := ⟨("_law_terms_plus", none), "_law_terms_plus", "_law_terms_plus", defArgs sLTermsPlus, defBody sLTermsPlus, defScope sLTermsPlus, [], []⟩
def d24 : He.DefD := ⟨("_law_terms_times", none), "_law_terms_times", "_law_terms_times", defArgs sLTermsTimes, defBody sLTermsTimes, defScope sLTermsTimes, [], []⟩
def d25 : He.DefD := ⟨("_law_terms_at", none), "_law_terms_at", "_law_terms_at", defArgs sLTermsAt, defBody sLTermsAt, defScope sLTermsAt, [], []⟩
def d26 : He.DefD := ⟨("_law_poly", none), "_law_poly", "_law_poly", defArgs sLPoly, defBody sLPoly, defScope sLPoly, [], []⟩
def d27 : He.DefD := ⟨("law", none), "law", "law", defArgs sLaw, defBody sLaw, defScope sLaw, [], []⟩
def d28 : He.DefD := ⟨("Poly", some "__init__"), "__init__", "Poly.__init__", defArgs sPolyInit, defBody sPolyInit, defScope sPolyInit, [.adr (He.dflAt ("Poly", some "__init__") 0)], [("most", .int 20)]⟩
def d29 : He.DefD := ⟨("Poly", some "degree_in"), "degree_in", "Poly.degree_in", defArgs sPolyDegreeIn, defBody sPolyDegreeIn, defScope sPolyDegreeIn, [], []⟩
def d30 : He.DefD := ⟨("Poly", some "terms"), "terms", "Poly.terms", defArgs sPolyTerms, defBody sPolyTerms, defScope sPolyTerms, [], []⟩
def d31 : He.DefD := ⟨("Poly", some "value_at"), "value_at", "Poly.value_at", defArgs sPolyValueAt, defBody sPolyValueAt, defScope sPolyValueAt, [], []⟩
def d32 : He.DefD := ⟨("Poly", some "__add__"), "__add__", "Poly.__add__", defArgs sPolyAdd, defBody sPolyAdd, defScope sPolyAdd, [], []⟩
def d33 : He.DefD := ⟨("Poly", some "__radd__"), "__radd__", "Poly.__radd__", defArgs sPolyRadd, defBody sPolyRadd, defScope sPolyRadd, [], []⟩
def d34 : He.DefD := ⟨("Poly", some "__sub__"), "__sub__", "Poly.__sub__", defArgs sPolySub, defBody sPolySub, defScope sPolySub, [], []⟩
def d35 : He.DefD := ⟨("Poly", some "__rsub__"), "__rsub__", "Poly.__rsub__", defArgs sPolyRsub, defBody sPolyRsub, defScope sPolyRsub, [], []⟩
def d36 : He.DefD := ⟨("Poly", some "__mul__"), "__mul__", "Poly.__mul__", defArgs sPolyMul, defBody sPolyMul, defScope sPolyMul, [], []⟩
def d37 : He.DefD := ⟨("Poly", some "__rmul__"), "__rmul__", "Poly.__rmul__", defArgs sPolyRmul, defBody sPolyRmul, defScope sPolyRmul, [], []⟩
def d38 : He.DefD := ⟨("Poly", some "__neg__"), "__neg__", "Poly.__neg__", defArgs sPolyNeg, defBody sPolyNeg, defScope sPolyNeg, [], []⟩
def d39 : He.DefD := ⟨("Poly", some "__pow__"), "__pow__", "Poly.__pow__", defArgs sPolyPow, defBody sPolyPow, defScope sPolyPow, [], []⟩
def d40 : He.DefD := ⟨("Poly", some "__eq__"), "__eq__", "Poly.__eq__", defArgs sPolyEq, defBody sPolyEq, defScope sPolyEq, [], []⟩
def fnL : List He.DefD := [d0, d1, d2, d3, d4, d5, d6, d7, d8, d9, d10, d11, d12, d13, d14, d15, d16, d17, d18, d19, d20, d21, d22, d23, d24, d25, d26, d27, d28, d29, d30, d31, d32, d33, d34, d35, d36, d37, d38, d39, d40]
def tabL : List He.Tab := []
def nm0 : List PySem.Str := ["_wall", "PlaneError", "InvalidTerm", "InvalidLetter", "is_integer", "is_number", "lowest", "LETTERS", "check_letter", "check_terms", "made_of", "power_text", "term_text", "added", "multiplied", "powers", "Poly", "_law_bag", "_law_pull", "_law_of", "_law_same", "_law_gcd", "_law_low", "_law_add", "_law_sub", "_law_mul", "_law_ratio", "_law_point", "_law_to", "_law_gathered"]
def nm1 : List PySem.Str := ["_law_terms", "_law_terms_plus", "_law_terms_times", "_law_terms_at", "_law_poly"]
def nms : List PySem.Str := nm0 ++ nm1
def asL : List Addr := ([2, 3, 107, 114, 121, 122, 129, 136, 141, 160, 167, 174, 343, 354, 361, 368, 373, 380, 387, 394, 401, 408, 415, 422, 429, 434, 441, 446, 451, 458, 463, 468, 106, 113, 120, 128, 135, 140, 159, 166] : List Addr) ++ ([173, 342, 353, 360, 367, 372, 379, 386, 393, 400, 407, 414, 421, 428, 433, 440, 445, 450, 457, 462, 467, 189, 208, 215, 220, 232, 246, 274, 281, 288, 295, 300, 307, 312, 319, 326, 188, 183, 184, 206] : List Addr) ++ ([214, 219, 231, 245, 273, 280, 287, 294, 299, 306, 311, 318, 325, 182, 205, 213] : List Addr)
def tf : List He.Defn := [("law", none)]
def gA : List (PySem.W.Frag → Addr) := [fun K => DH.proG K (He.ma K (He.ga K "Poly") "degree"), fun K => DH.smG K (DH.smP K (He.ga K "Poly") "letter")]
def gV : List He.FnW := [some ("degree", "Poly.degree", defArgs sGet0, .stmts (defBody sGet0), defScope sGet0, mainGlobals, [], builtinsNs), some ("letter", "Poly.letter", defArgs sPolyLetter, .stmts (defBody sPolyLetter), defScope sPolyLetter, mainGlobals, [], builtinsNs)]
abbrev hk : PySem.W.Hook := DH.hookM asL fnL tabL tf (DH.exAll tsts) gA gV
def ob (s : PySem.W.SharedT) : He.AlX × List He.FnW := DH.obsM asL fnL tabL tf (DH.exAll tsts) gA (HandSHeadRun.getT s)
theorem ob_eq (s : PySem.W.SharedT) : ob s = hk.obs s.abs := DH.obsM_eq (HandSHeadRun.getT_eq s)
set_option maxHeartbeats 0 in
theorem LkA_0 (w : World) : HandSHeadRun.looksF RR0.prog (Seg.stX w).abs.heap (Seg.stF w).abs = true := by
  kernel_rfl
set_option maxHeartbeats 0 in
theorem LkB_0 (w : World) : HandSHeadRun.seenQ (PySem.W.view RR0.prog [0, 40]) nms (PySem.importedModules RR0.prog.main.body) (fun s => PySem.W.xlAt (PySem.W.view RR0.prog [0, 40]) [] s && PySem.W.recOk RR0.toRowW.records s) (Seg.stF w).abs = PySem.W.openGood (PySem.W.view RR0.prog [0, 40]) nms := by
  kernel_rfl
set_option maxHeartbeats 0 in
theorem LkC_0 (w : World) : ob (Seg.stF w) = hk.val w := by
  kernel_rfl
theorem run0 (w : World) : DS.Run RR0 (PySem.W.view RR0.prog [0, 40]) hk ob 40000 nms w := by
  obtain ⟨a, b, c⟩ := Seg.run_of _ (Seg.Opn_0 w) (Seg.Pre_0 w) (Seg.Blk_0 w) (Seg.Sg1_0 w) (Seg.Fin_0 w)
  exact ⟨_, _, a, b, c, by rw [LkA_0, LkB_0, LkC_0]⟩
theorem run (w : World) : DS.Run RR0 (PySem.W.view RR0.prog [0, 40]) hk ob 40000 nms w := run0 w
end Hd
end T06
namespace DL
open PySem L2 TL NumText
end DL
namespace PO
open PySem L2 DL
abbrev T3 := Int × Int × Int
abbrev ky (t : T3) : Int × Int := (t.1, t.2.1)
abbrev kk (p : Int × Int) : List Key := [.inl p.1, .inl p.2]
abbrev tD (t : T3) : D := .tup [.int t.1, .int t.2.1, .int t.2.2]
abbrev ksD (es : List T3) : List (List Key) := es.map fun t => kk (ky t)
abbrev vsI (es : List T3) : List Int := es.map fun t => t.2.2
abbrev vsD (es : List T3) : List D := es.map fun t => .int t.2.2
theorem kk_inj {p q : Int × Int} (h : kk p = kk q) : p = q := by
  obtain ⟨a, b⟩ := p
  obtain ⟨c, d⟩ := q
  simp only [kk, List.cons.injEq, Sum.inl.injEq, and_true] at h
  rw [h.1, h.2]
def look (es : List T3) (p : Int × Int) : Option Int := match es with
  | [] => none
  | t :: r => if ky t = p then some t.2.2 else look r p
def has (es : List T3) (p : Int × Int) : Bool := es.any fun t => decide (ky t = p)
def put (es : List T3) (p : Int × Int) (v : Int) : List T3 := if has es p = true then es.map (fun t => if ky t = p then (p.1, p.2, v) else t) else es ++ [(p.1, p.2, v)]
theorem look_d (p : Int × Int) : ∀ es : List T3, lookG (ksD es) (vsD es) (kk p) = (look es p).map D.int
  | [] => rfl
  | t :: r => by
    show (if kk (ky t) = kk p then some (D.int t.2.2) else lookG (ksD r) (vsD r) (kk p)) = (if ky t = p then some t.2.2 else look r p).map D.int
    by_cases e : ky t = p
    · rw [if_pos (by rw [e]), if_pos e]; rfl
    · rw [if_neg (fun z => e (kk_inj z)), if_neg e]; exact look_d p r
theorem has_d (p : Int × Int) : ∀ es : List T3, ((ksD es).any fun a => decide (a = kk p)) = has es p
  | [] => rfl
  | t :: r => by
    show (decide (kk (ky t) = kk p) || (ksD r).any _) = (decide (ky t = p) || has r p)
    rw [has_d p r]
    by_cases e : ky t = p
    · rw [decide_eq_true e, decide_eq_true (by rw [e])]
    · rw [decide_eq_false e, decide_eq_false (fun z => e (kk_inj z))]
theorem set_d (p : Int × Int) (v : Int) : ∀ es : List T3, setG (kk p) (D.int v) (ksD es) (vsD es) = vsD (es.map fun t => if ky t = p then (p.1, p.2, v) else t)
  | [] => rfl
  | t :: r => by
    show (if kk (ky t) = kk p then D.int v else D.int t.2.2) :: setG (kk p) (D.int v) (ksD r) (vsD r) = D.int (if ky t = p then ((p.1, p.2, v) : T3) else t).2.2 :: vsD (r.map _)
    rw [set_d p v r]
    by_cases e : ky t = p
    · rw [if_pos (by rw [e]), if_pos e]
    · rw [if_neg (fun z => e (kk_inj z)), if_neg e]
theorem keys_set (p : Int × Int) (v : Int) : ∀ es : List T3, (es.map fun t => if ky t = p then ((p.1, p.2, v) : T3) else t).map ky = es.map ky
  | [] => rfl
  | t :: r => by
    rw [List.map_cons, List.map_cons, List.map_cons, keys_set p v r]
    by_cases e : ky t = p
    · rw [if_pos e, e]
    · rw [if_neg e]
theorem ksD_eq (es : List T3) : ksD es = (es.map ky).map kk := by rw [List.map_map]; rfl
theorem putk_d (es : List T3) (p : Int × Int) (v : Int) : putGk (kk p) (ksD es) = ksD (put es p v) := by
  unfold putGk put
  rw [has_d]
  split
  · rw [ksD_eq, ksD_eq, keys_set]
  · rw [ksD_eq, ksD_eq, List.map_append, List.map_append]; rfl
theorem putv_d (es : List T3) (p : Int × Int) (v : Int) : putGv (kk p) (D.int v) (ksD es) (vsD es) = vsD (put es p v) := by
  unfold putGv put
  rw [has_d]
  split
  · exact set_d p v es
  · unfold vsD; rw [List.map_append]; rfl
def NK (es : List T3) : Prop := (es.map ky).Nodup
theorem has_iff {es : List T3} {p : Int × Int} : has es p = true ↔ p ∈ es.map ky := by
  unfold has
  rw [List.any_eq_true]
  constructor
  · rintro ⟨t, ht, h⟩
    exact List.mem_map.mpr ⟨t, ht, of_decide_eq_true h⟩
  · intro h
    obtain ⟨t, ht, e⟩ := List.mem_map.mp h
    exact ⟨t, ht, decide_eq_true e⟩
theorem put_keys (es : List T3) (p : Int × Int) (v : Int) : (put es p v).map ky = if has es p = true then es.map ky else es.map ky ++ [p] := by
  unfold put
  split
  · exact keys_set p v es
  · rw [List.map_append]; rfl
theorem put_nk {es : List T3} (h : NK es) (p : Int × Int) (v : Int) : NK (put es p v) := by
  unfold NK
  rw [put_keys]
  split
  · exact h
  · rename_i n
    rw [List.nodup_append]
    refine ⟨h, by simp, fun a ha b hb e => ?_⟩
    rw [List.mem_singleton] at hb
    subst e hb
    exact n (has_iff.mpr ha)
theorem put_len (es : List T3) (p : Int × Int) (v : Int) : (put es p v).length ≤ es.length + 1 := by
  unfold put
  split
  · rw [List.length_map]; omega
  · rw [List.length_append]; simp
theorem look_none {p : Int × Int} : ∀ {es : List T3}, p ∉ es.map ky → look es p = none
  | [], _ => rfl
  | t :: r, h => by
    show (if ky t = p then some t.2.2 else look r p) = none
    rw [if_neg (fun e => h (by rw [List.map_cons, e]; exact List.mem_cons_self))]
    exact look_none fun m => h (by rw [List.map_cons]; exact List.mem_cons_of_mem _ m)
theorem put_new {p : Int × Int} {es : List T3} (h : p ∉ es.map ky) (v : Int) : put es p v = es ++ [(p.1, p.2, v)] := by
  unfold put
  rw [if_neg (fun z => h (has_iff.mp z))]
theorem look_mem {p : Int × Int} {v : Int} : ∀ {es : List T3}, look es p = some v → (p.1, p.2, v) ∈ es
  | [], h => by cases h
  | t :: r, h => by
    have h : (if ky t = p then some t.2.2 else look r p) = some v := h
    by_cases e : ky t = p
    · rw [if_pos e] at h
      cases h
      subst e
      exact List.mem_cons_self
    · rw [if_neg e] at h
      exact List.mem_cons_of_mem _ (look_mem h)
theorem look_of {t : T3} : ∀ {es : List T3}, NK es → t ∈ es → look es (ky t) = some t.2.2
  | [], _, h => by cases h
  | u :: r, n, h => by
    have n : (ky u :: r.map ky).Nodup := n
    rw [List.nodup_cons] at n
    show (if ky u = ky t then some u.2.2 else look r (ky t)) = _
    rcases List.mem_cons.mp h with e | h
    · rw [if_pos (by rw [e]), e]
    · rw [if_neg (fun e => n.1 (by rw [e]; exact List.mem_map.mpr ⟨t, h, rfl⟩))]
      exact look_of n.2 h
/-- the terms put together -/
def add1 (es : List T3) (t : T3) : List T3 := put es (ky t) ((look es (ky t)).getD 0 + t.2.2)
def gat (ts : List T3) : List T3 := ts.foldl add1 []
theorem gat_nk_from {ts es : List T3} (h : NK es) : NK (ts.foldl add1 es) := by
  induction ts generalizing es with
  | nil => exact h
  | cons t r ih => exact ih (put_nk h _ _)
theorem gat_nk (ts : List T3) : NK (gat ts) := gat_nk_from (es := []) List.nodup_nil
theorem gat_from : ∀ (ts es : List T3), NK (es ++ ts) → ts.foldl add1 es = es ++ ts
  | [], es, _ => by rw [List.append_nil]; rfl
  | t :: r, es, h => by
    have hn : ky t ∉ es.map ky := by
      have h : ((es ++ t :: r).map ky).Nodup := h
      rw [List.map_append, List.nodup_append] at h
      exact fun m => h.2.2 _ m _ (by rw [List.map_cons]; exact List.mem_cons_self) rfl
    show r.foldl add1 (add1 es t) = _
    have e : add1 es t = es ++ [t] := by
      unfold add1
      rw [look_none hn, put_new hn]
      simp
    rw [e, gat_from r (es ++ [t]) (by rw [List.append_assoc]; exact h), List.append_assoc]
    rfl
theorem gat_same {ts : List T3} (h : NK ts) : gat ts = ts := gat_from ts [] h
def Asc (ps : List (Int × Int)) : Prop := ps.Pairwise fun x y => SrtO.lexB y x = false
/-- the terms that are told: keys ascending, no zeros -/
structure Can (es : List T3) : Prop where
  asc : (es.map ky).Pairwise fun x y => SrtO.lexB x y = true
  nz : ∀ t ∈ es, t.2.2 ≠ 0
def val (es : List T3) (p : Int × Int) : Int := (look es p).getD 0
def sel (es : List T3) (qs : List (Int × Int)) : List T3 := (qs.filter fun q => decide (val es q ≠ 0)).map fun q => (q.1, q.2, val es q)
theorem lex_ne {x y : Int × Int} (h1 : SrtO.lexB y x = false) (h2 : x ≠ y) : SrtO.lexB x y = true := by
  have a := SrtO.lexB_no.mp h1
  refine SrtO.lexB_iff.mpr ?_
  obtain ⟨x1, x2⟩ := x
  obtain ⟨y1, y2⟩ := y
  have h3 : ¬ (x1 = y1 ∧ x2 = y2) := fun z => h2 (by rw [z.1, z.2])
  simp only at a ⊢
  omega
theorem lex_asym {x y : Int × Int} (h1 : SrtO.lexB x y = true) : SrtO.lexB y x = false := by
  have a := SrtO.lexB_iff.mp h1
  refine SrtO.lexB_no.mpr ?_
  omega
theorem lex_irr {x y : Int × Int} (h1 : SrtO.lexB x y = true) : x ≠ y := fun e => by
  have a := SrtO.lexB_iff.mp h1
  rw [e] at a
  omega
theorem asc_strict {qs : List (Int × Int)} (h : Asc qs) (n : qs.Nodup) : qs.Pairwise fun x y => SrtO.lexB x y = true := by
  have := h.and n
  exact this.imp fun z => lex_ne z.1 z.2
theorem strict_asc {qs : List (Int × Int)} (h : qs.Pairwise fun x y => SrtO.lexB x y = true) : Asc qs := h.imp lex_asym
theorem strict_nodup {qs : List (Int × Int)} (h : qs.Pairwise fun x y => SrtO.lexB x y = true) : qs.Nodup := h.imp lex_irr
theorem Can.nk {es : List T3} (h : Can es) : NK es := strict_nodup h.asc
/-- there is just one sorted list of the same keys -/
theorem asc_one {ps qs : List (Int × Int)} (h : qs.Perm ps) (n : ps.Nodup) (hp : Asc ps) (hq : Asc qs) : qs = ps := by
  refine List.Perm.eq_of_pairwise (le := fun x y => SrtO.lexB y x = false) (fun x y _ _ h1 h2 => ?_) hq hp h
  have a := SrtO.lexB_no.mp h1
  have b := SrtO.lexB_no.mp h2
  obtain ⟨x1, x2⟩ := x
  obtain ⟨y1, y2⟩ := y
  simp only at a b
  have e1 : x1 = y1 := by omega
  have e2 : x2 = y2 := by omega
  rw [e1, e2]
theorem sel_keys (es : List T3) (qs : List (Int × Int)) : (sel es qs).map ky = qs.filter fun q => decide (val es q ≠ 0) := by
  unfold sel
  rw [List.map_map]
  exact List.map_id' _
theorem sel_can {es : List T3} {qs : List (Int × Int)} (h : Asc qs) (n : qs.Nodup) : Can (sel es qs) := by
  refine ⟨?_, fun t ht => ?_⟩
  · rw [sel_keys]
    exact (asc_strict h n).filter _
  · unfold sel at ht
    obtain ⟨q, hq, rfl⟩ := List.mem_map.mp ht
    exact of_decide_eq_true (List.mem_filter.mp hq).2
theorem sel_sub {es : List T3} {qs : List (Int × Int)} : ∀ t ∈ sel es qs, t ∈ es := fun t ht => by
  unfold sel at ht
  obtain ⟨q, hq, rfl⟩ := List.mem_map.mp ht
  have hz : val es q ≠ 0 := of_decide_eq_true (List.mem_filter.mp hq).2
  unfold val at hz
  cases e : look es q with
  | none => rw [e] at hz; exact absurd rfl hz
  | some v =>
    have := look_mem e
    show (q.1, q.2, (look es q).getD 0) ∈ es
    rw [e]
    exact this
theorem sel_all {es : List T3} (h : NK es) (nz : ∀ t ∈ es, t.2.2 ≠ 0) : sel es (es.map ky) = es := by
  unfold sel
  rw [List.filter_eq_self.mpr, List.map_map]
  · have : ∀ t ∈ es, ((fun q : Int × Int => ((q.1, q.2, val es q) : T3)) ∘ ky) t = id t := fun t ht => by
      show ((t.1, t.2.1, (look es (ky t)).getD 0) : T3) = t
      rw [look_of h ht]
      rfl
    rw [List.map_congr_left this, List.map_id]
  · intro q hq
    obtain ⟨t, ht, rfl⟩ := List.mem_map.mp hq
    refine decide_eq_true ?_
    unfold val
    rw [look_of h ht]
    exact nz t ht
theorem can_sel {es : List T3} (h : Can es) {qs : List (Int × Int)} (p : qs.Perm (es.map ky)) (hq : Asc qs) : sel es qs = es := by
  rw [asc_one p h.nk (strict_asc h.asc) hq]
  exact sel_all h.nk h.nz
end PO
namespace PO
open PySem L2 DL TL
abbrev nS (i : Int) : Str := Str.ofString (toString i)
def letT (l : Str) (p : Int) : List Str := if p = 0 then [] else if p = 1 then [l] else [l ++ "^" ++ nS p]
def wordsT (i j : Int) : List Str := letT "x" i ++ letT "y" j
def termW (i j s : Int) : List Str := if wordsT i j = [] ∨ s ≠ 1 then nS s :: wordsT i j else wordsT i j
def termT (i j s : Int) : Str := Txt.join "*" (termW i j s)
/-- what the parts of a term keep -/
structure TermOk (i j s : Int) : Prop where
  i0 : 0 ≤ i
  i1 : i ≤ 1000
  j0 : 0 ≤ j
  j1 : j ≤ 1000
  s0 : -10 ^ 30 < s
  s1 : s < 10 ^ 30
/-- the sign ahead of a term -/
def sgT (first : Bool) (v : Int) : Str := if first = true then (if v < 0 then "-" else "") else (if v < 0 then " - " else " + ")
def absI (v : Int) : Int := if v < 0 then -v else v
def stepT (f : Str) (t : T3) : Str := f ++ sgT (decide (f = "")) t.2.2 ++ termT t.1 t.2.1 (absI t.2.2)
/-- of a whole poly -/
structure PolyOk (es : List T3) : Prop where
  few : es.length ≤ 1000
  all : ∀ t ∈ es, TermOk t.1 t.2.1 t.2.2
def gcds (a : Int) (vs : List Int) : Int := vs.foldl gcdI a
def cont (es : List T3) : Int := gcds 0 (vsI es)
end PO
namespace PO
open PySem L2 DL TL
def lastV (es : List T3) : Int := (vsI es).getLastD 0
def dvs (es : List T3) : Int := if lastV es < 0 then -cont es else cont es
def scl (s : Int) (es : List T3) : List T3 := es.map fun t => (t.1, t.2.1, t.2.2 * s)
theorem eq_self {es : List T3} (h : NK es) : eqDT (ksD es) (vsI es) (ksD es) (vsI es) = true := by
  unfold eqDT allT
  rw [beq_self_eq_true, Bool.true_and, List.all_eq_true]
  intro p hp
  have e : (ksD es).zip (vsI es) = es.map fun t => (kk (ky t), t.2.2) := by
    unfold ksD vsI
    rw [List.zip_map']
  rw [e] at hp
  obtain ⟨t, ht, rfl⟩ := List.mem_map.mp hp
  refine decide_eq_true ?_
  have h1 := look_d (ky t) es
  rw [look_of h ht] at h1
  have h2 : vsD es = (vsI es).map D.int := by unfold vsD vsI; rw [List.map_map]; rfl
  rw [h2, lookG_map] at h1
  cases hl : lookG (ksD es) (vsI es) (kk (ky t)) with
  | none => rw [hl] at h1; cases h1
  | some v => rw [hl] at h1; cases h1; rfl
end PO
namespace PO
open PySem L2 DL TL
abbrev dtD (es : List T3) : D := .dt (ksD es) (vsD es)
abbrev pD (C : Addr) (es : List T3) : D := .obj C ["cells"] [.dt (ksD es) (vsD es)]
/-- a list or a tuple of terms -/
def tsB (T : D) (ts : List T3) : Prop := T = .lst (ts.map tD) ∨ T = .tup (ts.map tD)
def pw20 (ts : List T3) : Prop := ∀ t ∈ ts, (0 ≤ t.1 ∧ t.1 ≤ 20) ∧ (0 ≤ t.2.1 ∧ t.2.1 ≤ 20)
def cLetS : DSp := fun ds L k _ => ∃ z : Str, ds = [.str z] ∧ (z = "x" ∨ z = "y") ∧ k .non L
def cTermsS : DSp := fun ds L k _ => ∃ T ts, ds = [T, .int 20] ∧ tsB T ts ∧ pw20 ts ∧ ts.length < 100000 ∧ k .non L
/-- Poly(terms, most=..): every sorted list of the keys gives the poly -/
def initS (C : Addr) : DSp := fun ds L k _ => ∃ (p : Addr) (T m : D) (ts : List T3), ds = [.ptr p, T, m] ∧ L.lookup p = some (.obj C [] []) ∧ tsB T ts ∧ (m = .non ∨ (m = .int 20 ∧ pw20 ts)) ∧ ts.length < 100000 ∧
  ∀ qs, qs.Perm ((gat ts).map ky) → Asc qs → k .non (setL L p (pD C (sel (gat ts) qs)))
def madeS (C : Addr) : DSp := fun ds L k _ => ∃ es, ds = [.dt (ksD es) (vsD es)] ∧ NK es ∧ es.length < 100000 ∧ ∀ qs, qs.Perm (es.map ky) → Asc qs → k (pD C (sel es qs)) L
def tellS (C : Addr) : DSp := fun ds L k _ => ∃ es, ds = [pD C es] ∧ es.length < 100000 ∧ k (.lst (es.map tD)) L
def eqS (C : Addr) : DSp := fun ds L k _ => ∃ es fs, ds = [pD C es, pD C fs] ∧ k (.bl (eqDT (ksD es) (vsI es) (ksD fs) (vsI fs))) L
theorem vsD_int (es : List T3) : vsD es = (vsI es).map D.int := by
  unfold vsD vsI
  rw [List.map_map]
  rfl
theorem ints_vs (es : List T3) : intsD (vsD es) = some (vsI es) := by
  rw [vsD_int]
  exact intsD_map _
/-- a list comprehension with a test -/
theorem lcD_pick {α : Type} {dg : DG} {dt : DT} {de : DE} {env0 : DEnv} {p : Addr} {k : DK} {L : Led} (f g : α → D) (P : α → Bool) (hp : ¬ inL L p) : ∀ (l : List α) (acc : List D), acc.length + l.length ≤ 200000 →
    (∀ a ∈ l, ∀ (acc : List D) (T F : Led → Prop) (KK : DK), (P a = true → KK (g a) ((p, .lst acc) :: L)) → (P a = false → F ((p, .lst acc) :: L)) → dg (f a) env0 ((p, .lst acc) :: L) fun env1 => dt env1 ((p, .lst acc) :: L) (fun b L2 => match b with
      | true => de env1 L2 KK (fun _ _ _ => False)
      | false => F L2) (fun _ _ _ => False)) →
    k (.lst (acc ++ (l.filter P).map g)) L → lcD dg dt de env0 p k (l.map f) acc ((p, .lst acc) :: L)
  | [], acc, _, _, h => by
    rw [List.map_nil, lcD_nil, remL_top hp]
    have h : k (.lst (acc ++ [])) L := h
    rw [List.append_nil] at h
    exact h
  | a :: l, acc, hz, hs, h => by
    rw [List.map_cons, lcD_cons]
    rw [List.length_cons] at hz
    have hlt : acc.length < sizeLine := Nat.lt_of_lt_of_le (show acc.length < 200000 by omega) (by decide)
    refine hs a List.mem_cons_self acc (fun _ => True) (fun L2 => L2.lookup p = some (.lst acc) ∧ lcD dg dt de env0 p k (l.map f) acc L2) _ (fun hP => ⟨lookup_top, hlt, ?_⟩) fun hP => ⟨lookup_top, ?_⟩
    · rw [setL_top hp]
      refine lcD_pick f g P hp l (acc ++ [g a]) (by rw [List.length_append, List.length_singleton]; omega) (fun b hb => hs b (List.mem_cons_of_mem _ hb)) ?_
      rw [List.append_assoc]
      rw [List.filter_cons_of_pos hP] at h
      exact h
    · refine lcD_pick f g P hp l acc (by omega) (fun b hb => hs b (List.mem_cons_of_mem _ hb)) ?_
      rw [List.filter_cons_of_neg (by rw [hP]; exact Bool.false_ne_true)] at h
      exact h
theorem nk_app {es : List T3} {t : T3} {r : List T3} (h : NK (es ++ t :: r)) : ky t ∉ es.map ky := by
  have h : ((es ++ t :: r).map ky).Nodup := h
  rw [List.map_append, List.nodup_append] at h
  exact fun m => h.2.2 _ m _ (by rw [List.map_cons]; exact List.mem_cons_self) rfl
/-- a dict comprehension of terms with different keys -/
theorem dcT_pick {α : Type} {dg : DG} {dt : DT} {dk dv : DE} {env0 : DEnv} {p : Addr} {k : DK} {L : Led} (f : α → D) (g : α → T3) (P : α → Bool) (hp : ¬ inL L p) : ∀ (l : List α) (es : List T3), es.length + l.length ≤ 200000 → NK (es ++ (l.filter P).map g) →
    (∀ a ∈ l, ∀ (c : D) (N : D → D → Led → Prop) (F : Led → Prop), (P a = true → N (.kt (kk (ky (g a)))) (.int (g a).2.2) ((p, c) :: L)) → (P a = false → F ((p, c) :: L)) → dg (f a) env0 ((p, c) :: L) fun env1 => dt env1 ((p, c) :: L) (fun b L2 => match b with
      | true => dk env1 L2 (fun y L3 => dv env1 L3 (fun z L4 => N y z L4) (fun _ _ _ => False)) (fun _ _ _ => False)
      | false => F L2) (fun _ _ _ => False)) →
    k (dtD (es ++ (l.filter P).map g)) L → dcTD dg dt dk dv env0 p k (l.map f) (ksD es) (vsD es) ((p, dtD es) :: L)
  | [], es, _, _, _, h => by
    rw [List.map_nil, dcTD_nil, remL_top hp]
    have h : k (dtD (es ++ [])) L := h
    rw [List.append_nil] at h
    exact h
  | a :: l, es, hz, hn, hs, h => by
    rw [List.map_cons, dcTD_cons]
    rw [List.length_cons] at hz
    have hlt : (ksD es).length < sizeLine := by
      rw [List.length_map]
      exact Nat.lt_of_lt_of_le (show es.length < 200000 by omega) (by decide)
    refine hs a List.mem_cons_self (dtD es) (fun y z L4 => ∃ q, keyT y = some q ∧ L4.lookup p = some (.dt (ksD es) (vsD es)) ∧ (ksD es).length < sizeLine ∧ dcTD dg dt dk dv env0 p k (l.map f) (putGk q (ksD es)) (putGv q z (ksD es) (vsD es)) (setL L4 p (.dt (putGk q (ksD es)) (putGv q z (ksD es) (vsD es))))) (fun L2 => L2.lookup p = some (.dt (ksD es) (vsD es)) ∧ dcTD dg dt dk dv env0 p k (l.map f) (ksD es) (vsD es) L2) (fun hP => ⟨_, rfl, lookup_top, hlt, ?_⟩) fun hP => ⟨lookup_top, ?_⟩
    · rw [List.filter_cons_of_pos hP, List.map_cons] at h hn
      rw [setL_top hp, putk_d es _ (g a).2.2, putv_d, put_new (nk_app hn)]
      refine dcT_pick f g P hp l (es ++ [g a]) (by rw [List.length_append, List.length_singleton]; omega) ?_ (fun b hb => hs b (List.mem_cons_of_mem _ hb)) ?_
      · rw [List.append_assoc]; exact hn
      · rw [List.append_assoc]; exact h
    · rw [List.filter_cons_of_neg (by rw [hP]; exact Bool.false_ne_true)] at h hn
      exact dcT_pick f g P hp l es (by omega) hn (fun b hb => hs b (List.mem_cons_of_mem _ hb)) h
/-- the items of a dict of terms -/
theorem itms_es : ∀ es : List T3, itmsD (ksD es) (vsD es) = es.map fun t => .tup [.kt (kk (ky t)), .int t.2.2]
  | [] => rfl
  | t :: r => by
    show D.tup [.kt (kk (ky t)), .int t.2.2] :: itmsD (ksD r) (vsD r) = _
    rw [itms_es r]
    rfl
theorem keys_es (es : List T3) : (ksD es).map D.kt = es.map fun t => .kt (kk (ky t)) := by
  unfold ksD
  rw [List.map_map]
  rfl
theorem keys_pairs (es : List T3) : (ksD es).map D.kt = (es.map ky).map pairT := by
  unfold ksD
  rw [List.map_map, List.map_map]
  rfl
theorem lcD_as {dg : DG} {dt : DT} {de : DE} {env0 : DEnv} {p : Addr} {k : DK} {ds ds' acc : List D} {L : Led} (e : ds = ds') (h : lcD dg dt de env0 p k ds' acc L) : lcD dg dt de env0 p k ds acc L := by rw [e]; exact h
theorem forD_as {dg : DG} {db : DS} {En : DEnds} {ds ds' : List D} {env : DEnv} {L : Led} (e : ds = ds') (h : forD dg db En ds' env L) : forD dg db En ds env L := by rw [e]; exact h
theorem filt_true {α : Type} (l : List α) : l.filter (fun _ => true) = l := List.filter_eq_self.mpr fun _ _ => rfl
theorem look_val {es : List T3} {q : Int × Int} (h : q ∈ es.map ky) : lookG (ksD es) (vsD es) (kk q) = some (.int (val es q)) := by
  rw [look_d]
  unfold val
  have : look es q ≠ none := fun e => by
    have : ∀ es : List T3, q ∈ es.map ky → look es q ≠ none := fun es => by
      induction es with
      | nil => intro h; cases h
      | cons t r ih =>
        intro h e
        have e : (if ky t = q then some t.2.2 else look r q) = none := e
        by_cases z : ky t = q
        · rw [if_pos z] at e; cases e
        · rw [if_neg z] at e
          rw [List.map_cons] at h
          rcases List.mem_cons.mp h with y | h
          · exact z y.symm
          · exact ih h e
    exact this es h e
  cases e : look es q with
  | none => exact absurd e this
  | some v => rfl
theorem look_term {es : List T3} (nk : NK es) {t : T3} (ht : t ∈ es) : lookG (ksD es) (vsD es) (kk (ky t)) = some (.int t.2.2) := by
  rw [look_d, look_of nk ht]
  rfl
theorem perm_nodup {es : List T3} (nk : NK es) {qs : List (Int × Int)} (h : qs.Perm (es.map ky)) : qs.Nodup := h.nodup_iff.mpr nk
theorem sel_nk {es : List T3} (nk : NK es) {qs : List (Int × Int)} (h : qs.Perm (es.map ky)) (ha : Asc qs) : NK ([] ++ (qs.filter fun q => decide (val es q ≠ 0)).map fun q => ((q.1, q.2, val es q) : T3)) := (sel_can (es := es) ha (perm_nodup nk h)).nk
theorem gat_len (ts : List T3) : (gat ts).length ≤ ts.length := by
  have : ∀ (ts es : List T3), (ts.foldl add1 es).length ≤ es.length + ts.length := fun ts => by
    induction ts with
    | nil => intro es; exact Nat.le_refl _
    | cons t r ih =>
      intro es
      have h1 := ih (add1 es t)
      have h2 : (add1 es t).length ≤ es.length + 1 := put_len es _ _
      show (r.foldl add1 (add1 es t)).length ≤ es.length + (r.length + 1)
      omega
  have := this ts []
  rw [show ([] : List T3).length = 0 from rfl, Nat.zero_add] at this
  exact this
/-- every item, none left out -/
theorem lcD_each {α : Type} {dg : DG} {dt : DT} {de : DE} {env0 : DEnv} {p : Addr} {k : DK} {L : Led} (f g : α → D) (hp : ¬ inL L p) (l : List α) (hz : l.length ≤ 200000)
    (hs : ∀ a ∈ l, ∀ (acc : List D) (F : Led → Prop) (KK : DK), KK (g a) ((p, .lst acc) :: L) → dg (f a) env0 ((p, .lst acc) :: L) fun env1 => dt env1 ((p, .lst acc) :: L) (fun b L2 => match b with
      | true => de env1 L2 KK (fun _ _ _ => False)
      | false => F L2) (fun _ _ _ => False))
    (h : k (.lst (l.map g)) L) : lcD dg dt de env0 p k (l.map f) [] ((p, .lst []) :: L) := by
  refine lcD_pick f g (fun _ => true) hp l [] (by show 0 + _ ≤ _; omega) (fun a ha acc T F KK h1 _ => hs a ha acc F KK (h1 rfl)) ?_
  rw [filt_true, List.nil_append]
  exact h
theorem dcT_each {α : Type} {dg : DG} {dt : DT} {dk dv : DE} {env0 : DEnv} {p : Addr} {k : DK} {L : Led} (f : α → D) (g : α → T3) (hp : ¬ inL L p) (l : List α) (hz : l.length ≤ 200000) (hn : NK (l.map g))
    (hs : ∀ a ∈ l, ∀ (c : D) (N : D → D → Led → Prop) (F : Led → Prop), N (.kt (kk (ky (g a)))) (.int (g a).2.2) ((p, c) :: L) → dg (f a) env0 ((p, c) :: L) fun env1 => dt env1 ((p, c) :: L) (fun b L2 => match b with
      | true => dk env1 L2 (fun y L3 => dv env1 L3 (fun z L4 => N y z L4) (fun _ _ _ => False)) (fun _ _ _ => False)
      | false => F L2) (fun _ _ _ => False))
    (h : k (dtD (l.map g)) L) : dcTD dg dt dk dv env0 p k (l.map f) [] [] ((p, .dt [] []) :: L) := by
  refine dcT_pick f g (fun _ => true) hp l [] (by show 0 + _ ≤ _; omega) (by rw [filt_true]; exact hn) (fun a ha c N F h1 _ => hs a ha c N F (h1 rfl)) ?_
  rw [filt_true, List.nil_append]
  exact h
theorem log_small {n : Nat} (h : n < 10 ^ 30) : n.log2 < 100 := by
  by_cases z : n = 0
  · rw [z]; decide
  · rw [Nat.log2_lt z]
    exact Nat.lt_trans h (by decide +kernel)
end PO
namespace PO
open PySem L2 DL TL
/-- the sum of what stands at a pair of powers -/
def cf : List T3 → Int × Int → Int
  | [], _ => 0
  | t :: r, q => (if ky t = q then t.2.2 else 0) + cf r q
theorem cf_app (q : Int × Int) : ∀ a b : List T3, cf (a ++ b) q = cf a q + cf b q
  | [], b => by show cf b q = 0 + cf b q; omega
  | t :: a, b => by
    show (if ky t = q then t.2.2 else 0) + cf (a ++ b) q = (if ky t = q then t.2.2 else 0) + cf a q + cf b q
    rw [cf_app q a b]
    omega
theorem look_app (q : Int × Int) : ∀ a b : List T3, look (a ++ b) q = (look a q).or (look b q)
  | [], b => rfl
  | t :: a, b => by
    show (if ky t = q then some t.2.2 else look (a ++ b) q) = (if ky t = q then some t.2.2 else look a q).or (look b q)
    by_cases e : ky t = q
    · rw [if_pos e, if_pos e]; rfl
    · rw [if_neg e, if_neg e, look_app q a b]
theorem look_set_ne {p q : Int × Int} (v : Int) (h : p ≠ q) : ∀ es : List T3, look (es.map fun t => if ky t = p then ((p.1, p.2, v) : T3) else t) q = look es q
  | [] => rfl
  | t :: r => by
    show (if ky (if ky t = p then ((p.1, p.2, v) : T3) else t) = q then some (if ky t = p then ((p.1, p.2, v) : T3) else t).2.2 else look (r.map _) q) = if ky t = q then some t.2.2 else look r q
    rw [look_set_ne v h r]
    by_cases e : ky t = p
    · rw [if_pos e]
      have h1 : ky ((p.1, p.2, v) : T3) = p := rfl
      rw [if_neg (by rw [h1]; exact h), if_neg (by rw [e]; exact h)]
    · rw [if_neg e]
theorem look_set_eq {p : Int × Int} (v : Int) : ∀ es : List T3, has es p = true → look (es.map fun t => if ky t = p then ((p.1, p.2, v) : T3) else t) p = some v
  | [], h => by cases h
  | t :: r, h => by
    show (if ky (if ky t = p then ((p.1, p.2, v) : T3) else t) = p then some (if ky t = p then ((p.1, p.2, v) : T3) else t).2.2 else look (r.map _) p) = some v
    by_cases e : ky t = p
    · rw [if_pos e]
      exact if_pos rfl
    · rw [if_neg e, if_neg e]
      refine look_set_eq v r ?_
      have h : (decide (ky t = p) || has r p) = true := h
      rw [decide_eq_false e] at h
      exact h
theorem val_put (es : List T3) (p q : Int × Int) (v : Int) : val (put es p v) q = if p = q then v else val es q := by
  unfold val put
  by_cases h : has es p = true
  · rw [if_pos h]
    by_cases e : p = q
    · subst e
      rw [if_pos rfl, look_set_eq v es h]
      rfl
    · rw [if_neg e, look_set_ne v e]
  · rw [if_neg h, look_app]
    by_cases e : p = q
    · subst e
      rw [if_pos rfl, look_none (fun m => h (has_iff.mpr m))]
      show ((if ky ((p.1, p.2, v) : T3) = p then some v else none).getD 0) = v
      rw [if_pos rfl]
      rfl
    · rw [if_neg e]
      have : look [((p.1, p.2, v) : T3)] q = none := if_neg e
      rw [this]
      cases look es q <;> rfl
theorem val_fold (q : Int × Int) : ∀ ts es : List T3, val (ts.foldl add1 es) q = val es q + cf ts q
  | [], es => by show val es q = val es q + 0; omega
  | t :: r, es => by
    show val (r.foldl add1 (add1 es t)) q = val es q + ((if ky t = q then t.2.2 else 0) + cf r q)
    rw [val_fold q r]
    have : val (add1 es t) q = val es q + if ky t = q then t.2.2 else 0 := by
      unfold add1
      rw [val_put]
      by_cases e : ky t = q
      · rw [if_pos e, if_pos e, e]; rfl
      · rw [if_neg e, if_neg e]; omega
    omega
theorem val_gat (ts : List T3) (q : Int × Int) : val (gat ts) q = cf ts q := by
  have := val_fold q ts []
  have h0 : val ([] : List T3) q = 0 := rfl
  unfold gat
  omega
theorem val_of {es : List T3} (nk : NK es) {t : T3} (h : t ∈ es) : val es (ky t) = t.2.2 := by
  unfold val
  rw [look_of nk h]
  rfl
theorem val_no {es : List T3} {q : Int × Int} (h : q ∉ es.map ky) : val es q = 0 := by
  unfold val
  rw [look_none h]
  rfl
theorem val_sel {es : List T3} (nk : NK es) {qs : List (Int × Int)} (h : qs.Perm (es.map ky)) (ha : Asc qs) (q : Int × Int) : val (sel es qs) q = val es q := by
  have nk' : NK (sel es qs) := (sel_can ha (perm_nodup nk h)).nk
  by_cases m : q ∈ qs.filter fun q => decide (val es q ≠ 0)
  · have hm : ((q.1, q.2, val es q) : T3) ∈ sel es qs := List.mem_map.mpr ⟨q, m, rfl⟩
    exact val_of nk' hm
  · have e1 : val (sel es qs) q = 0 := val_no (by rw [sel_keys]; exact m)
    rw [e1]
    by_cases z : val es q = 0
    · exact z.symm
    · exact (val_no fun k => m (List.mem_filter.mpr ⟨h.mem_iff.mpr k, decide_eq_true z⟩)).symm
/-- es is what the terms ts tell -/
structure Told (ts es : List T3) : Prop where
  can : Can es
  at_ : ∀ q, val es q = cf ts q
theorem told_of {ts : List T3} {qs : List (Int × Int)} (hp : qs.Perm ((gat ts).map ky)) (ha : Asc qs) : Told ts (sel (gat ts) qs) :=
  ⟨sel_can ha (perm_nodup (gat_nk ts) hp), fun q => by rw [val_sel (gat_nk ts) hp ha, val_gat]⟩
theorem can_mem {es : List T3} (h : Can es) (q : Int × Int) : q ∈ es.map ky ↔ val es q ≠ 0 := by
  constructor
  · intro m
    obtain ⟨t, ht, rfl⟩ := List.mem_map.mp m
    rw [val_of h.nk ht]
    exact h.nz t ht
  · intro z
    by_cases m : q ∈ es.map ky
    · exact m
    · exact absurd (val_no m) z
theorem es_keys {es : List T3} (h : NK es) : es = (es.map ky).map fun q => ((q.1, q.2, val es q) : T3) := by
  rw [List.map_map]
  have : ∀ t ∈ es, ((fun q : Int × Int => ((q.1, q.2, val es q) : T3)) ∘ ky) t = id t := fun t ht => by
    show ((t.1, t.2.1, val es (ky t)) : T3) = t
    rw [val_of h ht]
  rw [List.map_congr_left this, List.map_id]
theorem can_ext {es fs : List T3} (h : Can es) (h' : Can fs) (e : ∀ q, val es q = val fs q) : es = fs := by
  have pm : (es.map ky).Perm (fs.map ky) := (List.perm_ext_iff_of_nodup h.nk h'.nk).mpr fun q => by rw [can_mem h, can_mem h', e]
  have ek : es.map ky = fs.map ky := asc_one pm h'.nk (strict_asc h'.asc) (strict_asc h.asc)
  rw [es_keys h.nk, es_keys h'.nk, ek]
  exact List.map_congr_left fun q _ => by rw [e]
theorem Told.one {ts us es fs : List T3} (a : Told ts es) (b : Told us fs) (e : ∀ q, cf ts q = cf us q) : es = fs :=
  can_ext a.can b.can fun q => by rw [a.at_, b.at_, e]
theorem len_sub : ∀ {l m : List (Int × Int)}, l.Nodup → (∀ x ∈ l, x ∈ m) → l.length ≤ m.length
  | [], _, _, _ => Nat.zero_le _
  | a :: l, m, n, h => by
    have n := List.nodup_cons.mp n
    have ha := h a List.mem_cons_self
    have := len_sub (m := m.erase a) n.2 fun x hx => (List.mem_erase_of_ne (fun (e : x = a) => n.1 (by rw [← e]; exact hx))).mpr (h x (List.mem_cons_of_mem _ hx))
    rw [List.length_erase_of_mem ha] at this
    have hp := List.length_pos_of_mem ha
    rw [List.length_cons]
    omega
theorem cf_ne {q : Int × Int} : ∀ {ts : List T3}, cf ts q ≠ 0 → q ∈ ts.map ky
  | [], h => absurd rfl h
  | t :: r, h => by
    rw [List.map_cons]
    by_cases e : ky t = q
    · rw [e]; exact List.mem_cons_self
    · have h : (if ky t = q then t.2.2 else 0) + cf r q ≠ 0 := h
      rw [if_neg e] at h
      exact List.mem_cons_of_mem _ (cf_ne (by omega))
theorem cf_le {b : Nat} (q : Int × Int) : ∀ {ts : List T3}, (∀ t ∈ ts, t.2.2.natAbs ≤ b) → (cf ts q).natAbs ≤ ts.length * b
  | [], _ => Nat.zero_le _
  | t :: r, h => by
    have h1 := h t List.mem_cons_self
    have h2 := cf_le q (ts := r) fun u hu => h u (List.mem_cons_of_mem _ hu)
    show ((if ky t = q then t.2.2 else 0) + cf r q).natAbs ≤ (r.length + 1) * b
    rw [Nat.succ_mul]
    split <;> omega
theorem Told.sub {ts es : List T3} (a : Told ts es) : ∀ t ∈ es, ky t ∈ ts.map ky ∧ t.2.2 = cf ts (ky t) := fun t ht => by
  have e : t.2.2 = cf ts (ky t) := by rw [← a.at_, val_of a.can.nk ht]
  exact ⟨cf_ne (by rw [← e]; exact a.can.nz t ht), e⟩
theorem Told.few {ts es : List T3} (a : Told ts es) : es.length ≤ ts.length := by
  have := len_sub (l := es.map ky) (m := ts.map ky) a.can.nk fun x hx => by
    obtain ⟨t, ht, rfl⟩ := List.mem_map.mp hx
    exact (a.sub t ht).1
  rwa [List.length_map, List.length_map] at this
theorem Told.ok {ts es : List T3} (a : Told ts es) {b : Nat} (hl : ts.length ≤ 1000) (hp : ∀ t ∈ ts, (0 ≤ t.1 ∧ t.1 ≤ 1000) ∧ (0 ≤ t.2.1 ∧ t.2.1 ≤ 1000)) (hb : ∀ t ∈ ts, t.2.2.natAbs ≤ b) (h30 : 1000 * b < 10 ^ 30) : PolyOk es := by
  refine ⟨Nat.le_trans a.few hl, fun t ht => ?_⟩
  obtain ⟨m, e⟩ := a.sub t ht
  obtain ⟨u, hu, eu⟩ := List.mem_map.mp m
  obtain ⟨⟨u0, u1⟩, u2, u3⟩ := hp u hu
  have e1 : u.1 = t.1 := congrArg (fun z : Int × Int => z.1) eu
  have e2 : u.2.1 = t.2.1 := congrArg (fun z : Int × Int => z.2) eu
  have hc := cf_le (ky t) hb
  rw [← e] at hc
  have h1 : ts.length * b ≤ 1000 * b := Nat.mul_le_mul_right b hl
  have h2 : t.2.2.natAbs < 10 ^ 30 := by omega
  rw [e1] at u0 u1
  rw [e2] at u2 u3
  exact ⟨u0, u1, u2, u3, by omega, by omega⟩
theorem Told.nil {ts : List T3} (a : Told ts []) (q : Int × Int) : cf ts q = 0 := (a.at_ q).symm
end PO
namespace PO
open PySem L2 DL TL
/-- all products of the terms -/
def mulT (a b : List T3) : List T3 := a.flatMap fun t => b.map fun u => (t.1 + u.1, t.2.1 + u.2.1, t.2.2 * u.2.2)
theorem mulT_nil (b : List T3) : mulT [] b = [] := rfl
theorem mulT_cons (t : T3) (a b : List T3) : mulT (t :: a) b = (b.map fun u => ((t.1 + u.1, t.2.1 + u.2.1, t.2.2 * u.2.2) : T3)) ++ mulT a b := rfl
theorem cf_scl (s : Int) (q : Int × Int) : ∀ b : List T3, cf (scl s b) q = cf b q * s
  | [] => by show (0 : Int) = 0 * s; omega
  | t :: b => by
    show (if ky t = q then t.2.2 * s else 0) + cf (scl s b) q = ((if ky t = q then t.2.2 else 0) + cf b q) * s
    rw [cf_scl s q b, Int.add_mul]
    split
    · rfl
    · rw [Int.zero_mul]
/-- what a list of terms and a function of pairs make of a pair -/
def cv (b : List T3) (f : Int × Int → Int) (q : Int × Int) : Int := match b with
  | [] => 0
  | u :: r => u.2.2 * f (q.1 - u.1, q.2 - u.2.1) + cv r f q
theorem key_sub (t : T3) (u : T3) (q : Int × Int) : ((t.1 + u.1, t.2.1 + u.2.1) = q) ↔ (u.1, u.2.1) = ((q.1 - t.1, q.2 - t.2.1) : Int × Int) := by
  constructor
  · intro e
    rw [← e]
    exact Prod.ext (by show u.1 = t.1 + u.1 - t.1; omega) (by show u.2.1 = t.2.1 + u.2.1 - t.2.1; omega)
  · intro e
    have e1 := congrArg Prod.fst e
    have e2 := congrArg Prod.snd e
    simp only at e1 e2
    exact Prod.ext (by show t.1 + u.1 = q.1; omega) (by show t.2.1 + u.2.1 = q.2; omega)
theorem cf_one (t : T3) (q : Int × Int) : ∀ b : List T3, cf (b.map fun u => ((t.1 + u.1, t.2.1 + u.2.1, t.2.2 * u.2.2) : T3)) q = t.2.2 * cf b (q.1 - t.1, q.2 - t.2.1)
  | [] => by show (0 : Int) = t.2.2 * 0; rw [Int.mul_zero]
  | u :: b => by
    show (if (t.1 + u.1, t.2.1 + u.2.1) = q then t.2.2 * u.2.2 else 0) + cf (b.map _) q = t.2.2 * ((if ky u = (q.1 - t.1, q.2 - t.2.1) then u.2.2 else 0) + cf b (q.1 - t.1, q.2 - t.2.1))
    rw [cf_one t q b, Int.mul_add]
    by_cases e : (t.1 + u.1, t.2.1 + u.2.1) = q
    · rw [if_pos e, if_pos ((key_sub t u q).mp e)]
    · rw [if_neg e, if_neg (fun z => e ((key_sub t u q).mpr z)), Int.mul_zero]
theorem cf_mulL (q : Int × Int) (b : List T3) : ∀ a : List T3, cf (mulT a b) q = cv a (cf b) q
  | [] => rfl
  | t :: a => by
    rw [mulT_cons, cf_app, cf_one, cf_mulL q b a]
    rfl
theorem cv_add (f g : Int × Int → Int) (q : Int × Int) : ∀ b : List T3, cv b (fun p => f p + g p) q = cv b f q + cv b g q
  | [] => rfl
  | u :: b => by
    show u.2.2 * (f _ + g _) + cv b (fun p => f p + g p) q = (u.2.2 * f _ + cv b f q) + (u.2.2 * g _ + cv b g q)
    rw [cv_add f g q b, Int.mul_add]
    omega
theorem cv_zero (q : Int × Int) : ∀ b : List T3, cv b (fun _ => 0) q = 0
  | [] => rfl
  | u :: b => by
    show u.2.2 * 0 + cv b (fun _ => 0) q = 0
    rw [cv_zero q b, Int.mul_zero]
    rfl
theorem cv_one (t : T3) (q : Int × Int) : ∀ b : List T3, cv b (fun p => if ky t = p then t.2.2 else 0) q = t.2.2 * cf b (q.1 - t.1, q.2 - t.2.1)
  | [] => by show (0 : Int) = t.2.2 * 0; rw [Int.mul_zero]
  | u :: b => by
    show u.2.2 * (if ky t = (q.1 - u.1, q.2 - u.2.1) then t.2.2 else 0) + cv b _ q = t.2.2 * ((if ky u = (q.1 - t.1, q.2 - t.2.1) then u.2.2 else 0) + cf b (q.1 - t.1, q.2 - t.2.1))
    rw [cv_one t q b, Int.mul_add]
    have k : (ky t = ((q.1 - u.1, q.2 - u.2.1) : Int × Int)) ↔ ky u = ((q.1 - t.1, q.2 - t.2.1) : Int × Int) := by
      rw [← key_sub u t q, ← key_sub t u q, Int.add_comm u.1, Int.add_comm u.2.1]
    by_cases e : ky u = (q.1 - t.1, q.2 - t.2.1)
    · rw [if_pos e, if_pos (k.mpr e), Int.mul_comm]
    · rw [if_neg e, if_neg (fun z => e (k.mp z)), Int.mul_zero, Int.mul_zero]
theorem cf_mulR (q : Int × Int) (b : List T3) : ∀ a : List T3, cf (mulT a b) q = cv b (cf a) q
  | [] => (cv_zero q b).symm
  | t :: a => by
    rw [mulT_cons, cf_app, cf_one, cf_mulR q b a]
    show _ = cv b (fun p => (if ky t = p then t.2.2 else 0) + cf a p) q
    rw [cv_add (fun p => if ky t = p then t.2.2 else 0) (cf a), cv_one]
theorem Told.cf {ts es : List T3} (a : Told ts es) (q : Int × Int) : cf es q = cf ts q := by
  have h : ∀ es : List T3, NK es → PO.cf es q = val es q := fun es => by
    induction es with
    | nil => intro _; rfl
    | cons t r ih =>
      intro n
      have n : (ky t :: r.map ky).Nodup := n
      rw [List.nodup_cons] at n
      show (if ky t = q then t.2.2 else 0) + PO.cf r q = ((if ky t = q then some t.2.2 else look r q).getD 0)
      rw [ih n.2]
      by_cases e : ky t = q
      · rw [if_pos e, if_pos e, val_no (by rw [← e]; exact n.1)]
        show t.2.2 + 0 = t.2.2
        omega
      · rw [if_neg e, if_neg e]
        show 0 + val r q = val r q
        omega
  rw [h es a.can.nk, a.at_]
theorem Told.congr {ts us es : List T3} (a : Told ts es) (h : ∀ q, PO.cf ts q = PO.cf us q) : Told us es := ⟨a.can, fun q => by rw [a.at_, h]⟩
theorem cf_mul_l {a a' b : List T3} (h : ∀ q, cf a q = cf a' q) (q : Int × Int) : cf (mulT a b) q = cf (mulT a' b) q := by
  rw [cf_mulR, cf_mulR, show cf a = cf a' from funext h]
theorem cf_mul_r {a b b' : List T3} (h : ∀ q, cf b q = cf b' q) (q : Int × Int) : cf (mulT a b) q = cf (mulT a b') q := by
  rw [cf_mulL, cf_mulL, show cf b = cf b' from funext h]
def powP (a : List T3) : Nat → List T3
  | 0 => [(0, 0, 1)]
  | n + 1 => mulT (powP a n) a
theorem mulT_len (a b : List T3) : (mulT a b).length = a.length * b.length := by
  induction a with
  | nil => show 0 = 0 * _; omega
  | cons t a ih => rw [mulT_cons, List.length_append, List.length_map, ih, List.length_cons, Nat.succ_mul]; omega
theorem mem_mulT {a b : List T3} {w : T3} (h : w ∈ mulT a b) : ∃ t ∈ a, ∃ u ∈ b, w = (t.1 + u.1, t.2.1 + u.2.1, t.2.2 * u.2.2) := by
  unfold mulT at h
  obtain ⟨t, ht, h⟩ := List.mem_flatMap.mp h
  obtain ⟨u, hu, rfl⟩ := List.mem_map.mp h
  exact ⟨t, ht, u, hu, rfl⟩
/-- all powers are within -/
def Pw (n : Int) (ts : List T3) : Prop := ∀ t ∈ ts, (0 ≤ t.1 ∧ t.1 ≤ n) ∧ (0 ≤ t.2.1 ∧ t.2.1 ≤ n)
theorem Pw.mul {n m : Int} {a b : List T3} (ha : Pw n a) (hb : Pw m b) : Pw (n + m) (mulT a b) := fun w hw => by
  obtain ⟨t, ht, u, hu, rfl⟩ := mem_mulT hw
  have h1 := ha t ht
  have h2 := hb u hu
  exact ⟨⟨by show 0 ≤ t.1 + u.1; omega, by show t.1 + u.1 ≤ n + m; omega⟩, by show 0 ≤ t.2.1 + u.2.1; omega, by show t.2.1 + u.2.1 ≤ n + m; omega⟩
theorem Pw.mono {n m : Int} {a : List T3} (h : Pw n a) (hm : n ≤ m) : Pw m a := fun t ht => by have := h t ht; omega
theorem Pw.app {n : Int} {a b : List T3} (ha : Pw n a) (hb : Pw n b) : Pw n (a ++ b) := fun t ht => (List.mem_append.mp ht).elim (ha t) (hb t)
theorem Pw.scl {n : Int} {a : List T3} (s : Int) (ha : Pw n a) : Pw n (scl s a) := fun t ht => by
  obtain ⟨u, hu, rfl⟩ := List.mem_map.mp ht
  exact ha u hu
theorem Told.pw {n : Int} {ts es : List T3} (a : Told ts es) (h : Pw n ts) : Pw n es := fun t ht => by
  obtain ⟨m, _⟩ := a.sub t ht
  obtain ⟨u, hu, eu⟩ := List.mem_map.mp m
  have e1 : u.1 = t.1 := congrArg (fun z : Int × Int => z.1) eu
  have e2 : u.2.1 = t.2.1 := congrArg (fun z : Int × Int => z.2) eu
  have := h u hu
  rw [e1, e2] at this
  exact this
/-- all numbers are at most b -/
def Sz (b : Nat) (ts : List T3) : Prop := ∀ t ∈ ts, t.2.2.natAbs ≤ b
theorem Sz.mul {b c : Nat} {x y : List T3} (hx : Sz b x) (hy : Sz c y) : Sz (b * c) (mulT x y) := fun w hw => by
  obtain ⟨t, ht, u, hu, rfl⟩ := mem_mulT hw
  show (t.2.2 * u.2.2).natAbs ≤ b * c
  rw [Int.natAbs_mul]
  exact Nat.mul_le_mul (hx t ht) (hy u hu)
theorem Sz.told {b : Nat} {ts es : List T3} (h : Sz b ts) (a : Told ts es) : Sz (ts.length * b) es := fun t ht => by
  rw [(a.sub t ht).2]
  exact cf_le _ h
theorem Sz.mono {b c : Nat} {ts : List T3} (h : Sz b ts) (hc : b ≤ c) : Sz c ts := fun t ht => Nat.le_trans (h t ht) hc
theorem Sz.app {b : Nat} {x y : List T3} (hx : Sz b x) (hy : Sz b y) : Sz b (x ++ y) := fun t ht => (List.mem_append.mp ht).elim (hx t) (hy t)
theorem gcd_of_gcdI {p q : Int} (h : gcdI p q = 1) : p.natAbs.gcd q.natAbs = 1 := by
  unfold gcdI at h
  omega
theorem lowI_rat {t u : Int} (hu : u ≠ 0) : lowI t u = (((t : Rat) / (u : Rat)).num, ((((t : Rat) / (u : Rat)).den : Nat) : Int)) := by
  obtain ⟨h1, h2, h3⟩ := lowI_spec (t := t) hu
  generalize lowI t u = pq at h1 h2 h3 ⊢
  obtain ⟨p, q⟩ := pq
  simp only at h1 h2 h3
  have hq : q.toNat ≠ 0 := by omega
  have eq : ((q.toNat : Nat) : Int) = q := by omega
  have cop : p.natAbs.Coprime q.toNat := by
    have := gcd_of_gcdI h2
    have e : q.natAbs = q.toNat := by omega
    rw [e] at this
    exact this
  have e : (⟨p, q.toNat, hq, cop⟩ : Rat) = (t : Rat) / (u : Rat) := by
    rw [Rat.mk_eq_divInt, ← Rat.divInt_eq_div, eq, Rat.divInt_eq_divInt_iff (by omega) hu]
    exact h3
  rw [← e]
  show (p, q) = (p, ((q.toNat : Nat) : Int))
  rw [eq]
/-- a ratio in lowest terms -/
def ratD (r : Rat) : D := .tup [.int r.num, .int (r.den : Nat)]
theorem low_ratD {t u : Int} (hu : u ≠ 0) : D.tup [.int (lowI t u).1, .int (lowI t u).2] = ratD ((t : Rat) / (u : Rat)) := by
  rw [lowI_rat hu]
  rfl
def lin (m : Int × Int → Rat) : List T3 → Rat
  | [] => 0
  | t :: r => (t.2.2 : Rat) * m (ky t) + lin m r
theorem lin_app (m : Int × Int → Rat) : ∀ a b : List T3, lin m (a ++ b) = lin m a + lin m b
  | [], b => by show lin m b = 0 + lin m b; grind
  | t :: a, b => by
    show _ + lin m (a ++ b) = _ + lin m a + lin m b
    rw [lin_app m a b]
    grind
def ksum (m : Int × Int → Rat) (f : Int × Int → Int) : List (Int × Int) → Rat
  | [] => 0
  | k :: r => (f k : Rat) * m k + ksum m f r
theorem ksum_add (m : Int × Int → Rat) (f g : Int × Int → Int) : ∀ K, ksum m (fun k => f k + g k) K = ksum m f K + ksum m g K
  | [] => by show (0 : Rat) = 0 + 0; grind
  | k :: r => by
    show ((f k + g k : Int) : Rat) * m k + ksum m (fun k => f k + g k) r = (f k : Rat) * m k + ksum m f r + ((g k : Rat) * m k + ksum m g r)
    rw [ksum_add m f g r, Rat.intCast_add]
    grind
theorem ksum_no (m : Int × Int → Rat) (t : T3) : ∀ K : List (Int × Int), ky t ∉ K → ksum m (fun k => if ky t = k then t.2.2 else 0) K = 0
  | [], _ => rfl
  | k :: r, h => by
    show (((if ky t = k then t.2.2 else 0 : Int)) : Rat) * m k + ksum m _ r = 0
    rw [ksum_no m t r (fun z => h (List.mem_cons_of_mem _ z)), if_neg (fun e => h (by rw [e]; exact List.mem_cons_self))]
    grind
theorem ksum_one (m : Int × Int → Rat) (t : T3) : ∀ K : List (Int × Int), K.Nodup → ky t ∈ K → ksum m (fun k => if ky t = k then t.2.2 else 0) K = (t.2.2 : Rat) * m (ky t)
  | [], _, h => nomatch h
  | k :: r, n, h => by
    have n := List.nodup_cons.mp n
    show (((if ky t = k then t.2.2 else 0 : Int)) : Rat) * m k + ksum m _ r = _
    by_cases e : ky t = k
    · rw [ksum_no m t r (by rw [e]; exact n.1), if_pos e, e]
      grind
    · rw [ksum_one m t r n.2 ((List.mem_cons.mp h).resolve_left e), if_neg e]
      grind
theorem ksum_zero (m : Int × Int → Rat) : ∀ K, ksum m (fun _ => 0) K = 0
  | [] => rfl
  | k :: r => by
    show ((0 : Int) : Rat) * m k + ksum m (fun _ => 0) r = 0
    rw [ksum_zero m r]
    grind
theorem lin_ksum (m : Int × Int → Rat) {K : List (Int × Int)} (n : K.Nodup) : ∀ ts : List T3, (∀ t ∈ ts, ky t ∈ K) → lin m ts = ksum m (cf ts) K
  | [], _ => (ksum_zero m K).symm
  | t :: r, h => by
    show (t.2.2 : Rat) * m (ky t) + lin m r = ksum m (fun k => (if ky t = k then t.2.2 else 0) + cf r k) K
    rw [ksum_add m (fun k => if ky t = k then t.2.2 else 0) (cf r), ksum_one m t K n (h t List.mem_cons_self), lin_ksum m n r fun u hu => h u (List.mem_cons_of_mem _ hu)]
/-- each once -/
def once : List (Int × Int) → List (Int × Int)
  | [] => []
  | a :: r => if a ∈ once r then once r else a :: once r
theorem mem_once (x : Int × Int) : ∀ l, x ∈ once l ↔ x ∈ l
  | [] => Iff.rfl
  | a :: r => by
    unfold once
    by_cases h : a ∈ once r
    · rw [if_pos h, mem_once x r, List.mem_cons]
      constructor
      · exact .inr
      · rintro (rfl | h2)
        · exact (mem_once x r).mp h
        · exact h2
    · rw [if_neg h, List.mem_cons, List.mem_cons, mem_once x r]
theorem once_nodup : ∀ l, (once l).Nodup
  | [] => List.nodup_nil
  | a :: r => by
    unfold once
    by_cases h : a ∈ once r
    · rw [if_pos h]; exact once_nodup r
    · rw [if_neg h]; exact List.nodup_cons.mpr ⟨h, once_nodup r⟩
theorem Told.lin {ts es : List T3} (a : Told ts es) (m : Int × Int → Rat) : PO.lin m es = PO.lin m ts := by
  have n := once_nodup (ts.map ky)
  rw [lin_ksum m n es (fun t ht => (mem_once _ _).mpr (a.sub t ht).1), lin_ksum m n ts (fun t ht => (mem_once _ _).mpr (List.mem_map.mpr ⟨t, ht, rfl⟩)), show PO.cf es = PO.cf ts from funext a.cf]
def mon (x y : Rat) (k : Int × Int) : Rat := x ^ k.1.toNat * y ^ k.2.toNat
abbrev ev (x y : Rat) (ts : List T3) : Rat := lin (mon x y) ts
theorem mon_add (x y : Rat) {t u : T3} {n m : Int} (h1 : (0 ≤ t.1 ∧ t.1 ≤ n) ∧ (0 ≤ t.2.1 ∧ t.2.1 ≤ n)) (h2 : (0 ≤ u.1 ∧ u.1 ≤ m) ∧ (0 ≤ u.2.1 ∧ u.2.1 ≤ m)) : mon x y (t.1 + u.1, t.2.1 + u.2.1) = mon x y (ky t) * mon x y (ky u) := by
  unfold mon
  have e1 : (t.1 + u.1).toNat = t.1.toNat + u.1.toNat := by omega
  have e2 : (t.2.1 + u.2.1).toNat = t.2.1.toNat + u.2.1.toNat := by omega
  show x ^ (t.1 + u.1).toNat * y ^ (t.2.1 + u.2.1).toNat = x ^ t.1.toNat * y ^ t.2.1.toNat * (x ^ u.1.toNat * y ^ u.2.1.toNat)
  rw [e1, e2]
  grind
theorem ev_one (x y : Rat) {t : T3} {n m : Int} (ht : (0 ≤ t.1 ∧ t.1 ≤ n) ∧ (0 ≤ t.2.1 ∧ t.2.1 ≤ n)) : ∀ b : List T3, Pw m b → ev x y (b.map fun u => ((t.1 + u.1, t.2.1 + u.2.1, t.2.2 * u.2.2) : T3)) = (t.2.2 : Rat) * mon x y (ky t) * ev x y b
  | [], _ => by show (0 : Rat) = _ * 0; grind
  | u :: b, h => by
    show ((t.2.2 * u.2.2 : Int) : Rat) * mon x y (t.1 + u.1, t.2.1 + u.2.1) + ev x y (b.map _) = (t.2.2 : Rat) * mon x y (ky t) * ((u.2.2 : Rat) * mon x y (ky u) + ev x y b)
    rw [ev_one x y ht b fun z hz => h z (List.mem_cons_of_mem _ hz), mon_add x y ht (h u List.mem_cons_self), Rat.intCast_mul]
    grind
theorem ev_mul (x y : Rat) {n m : Int} {b : List T3} (hb : Pw m b) : ∀ a : List T3, Pw n a → ev x y (mulT a b) = ev x y a * ev x y b
  | [], _ => by show (0 : Rat) = 0 * _; grind
  | t :: a, h => by
    rw [mulT_cons]
    show lin _ (_ ++ _) = _
    rw [lin_app]
    have e1 := ev_one x y (h t List.mem_cons_self) b hb
    have e2 := ev_mul x y hb a fun z hz => h z (List.mem_cons_of_mem _ hz)
    show ev x y _ + ev x y (mulT a b) = ((t.2.2 : Rat) * mon x y (ky t) + ev x y a) * ev x y b
    rw [e1, e2]
    grind
theorem ev_scl (x y : Rat) (s : Int) : ∀ b : List T3, ev x y (scl s b) = ev x y b * (s : Rat)
  | [] => by show (0 : Rat) = 0 * _; grind
  | t :: b => by
    show ((t.2.2 * s : Int) : Rat) * mon x y (ky t) + ev x y (scl s b) = ((t.2.2 : Rat) * mon x y (ky t) + ev x y b) * (s : Rat)
    rw [ev_scl x y s b, Rat.intCast_mul]
    grind
end PO
namespace PO
open PySem L2 DL TL
theorem put_mem {es : List T3} {p : Int × Int} {v : Int} {t : T3} (h : t ∈ put es p v) : t ∈ es ∨ t = (p.1, p.2, v) := by
  unfold put at h
  split at h
  · obtain ⟨u, hu, e⟩ := List.mem_map.mp h
    split at e
    · exact .inr e.symm
    · exact .inl (e ▸ hu)
  · rcases List.mem_append.mp h with h | h
    · exact .inl h
    · exact .inr (List.mem_singleton.mp h)
/-- what the sums keep -/
theorem gat_bound (s : Int) (hs : 0 ≤ s) (P : Int × Int → Prop) : ∀ (ts es : List T3) (n : Nat), (∀ u ∈ ts, -s ≤ u.2.2 ∧ u.2.2 ≤ s ∧ P (ky u)) → (∀ t ∈ es, -(n * s) ≤ t.2.2 ∧ t.2.2 ≤ n * s ∧ P (ky t)) →
    ∀ t ∈ ts.foldl add1 es, -((n + ts.length : Nat) * s) ≤ t.2.2 ∧ t.2.2 ≤ (n + ts.length : Nat) * s ∧ P (ky t)
  | [], es, n, _, h => h
  | u :: ts, es, n, hu, h => by
    obtain ⟨u1, u2, u3⟩ := hu u List.mem_cons_self
    have e : ∀ k : Nat, ((k + 1 : Nat) : Int) * s = k * s + s := fun k => by
      rw [Int.natCast_add, Int.add_mul]
      simp
    have := gat_bound s hs P ts (add1 es u) (n + 1) (fun v hv => hu v (List.mem_cons_of_mem _ hv)) fun t ht => by
      rw [e]
      rcases put_mem ht with ht | rfl
      · obtain ⟨t1, t2, t3⟩ := h t ht
        exact ⟨by omega, by omega, t3⟩
      · show _ ≤ (look es (ky u)).getD 0 + u.2.2 ∧ (look es (ky u)).getD 0 + u.2.2 ≤ _ ∧ _
        cases hl : look es (ky u) with
        | none =>
          have : (0 : Int) ≤ (n : Int) * s := Int.mul_nonneg (Int.natCast_nonneg n) hs
          refine ⟨?_, ?_, u3⟩
          · show _ ≤ (0 : Int) + u.2.2; omega
          · show (0 : Int) + u.2.2 ≤ _; omega
        | some v =>
          obtain ⟨t1, t2, t3⟩ := h _ (look_mem hl)
          have t1 : -(n * s) ≤ v := t1
          have t2 : v ≤ n * s := t2
          refine ⟨?_, ?_, u3⟩
          · show _ ≤ v + u.2.2; omega
          · show v + u.2.2 ≤ _; omega
    rw [show n + (u :: ts).length = n + 1 + ts.length by rw [List.length_cons]; omega]
    exact this
theorem val_nk {q : Int × Int} : ∀ {es : List T3}, NK es → val es q = cf es q
  | [], _ => rfl
  | t :: r, n => by
    have n : (ky t :: r.map ky).Nodup := n
    rw [List.nodup_cons] at n
    show ((if ky t = q then some t.2.2 else look r q).getD 0) = (if ky t = q then t.2.2 else 0) + PO.cf r q
    rw [← val_nk (es := r) n.2]
    by_cases e : ky t = q
    · rw [if_pos e, if_pos e, val_no (by rw [← e]; exact n.1)]
      show t.2.2 = t.2.2 + 0
      omega
    · rw [if_neg e, if_neg e]
      show val r q = 0 + val r q
      omega
theorem told_nk {es ts : List T3} (nk : NK es) (h : ∀ q, val es q = cf ts q) {qs : List (Int × Int)} (hp : qs.Perm (es.map ky)) (ha : Asc qs) : Told ts (sel es qs) := ⟨sel_can ha (perm_nodup nk hp), fun q => by rw [val_sel nk hp ha, h]⟩
theorem Can.told {es : List T3} (h : Can es) : Told es es := ⟨h, fun q => val_nk h.nk⟩
theorem scl_keys (s : Int) (es : List T3) : (scl s es).map ky = es.map ky := by
  unfold scl
  rw [List.map_map]
  rfl
theorem nk_scl {s : Int} {es : List T3} (h : NK es) : NK (scl s es) := by
  show ((scl s es).map ky).Nodup
  rw [scl_keys]
  exact h
theorem scl_len (s : Int) (es : List T3) : (scl s es).length = es.length := List.length_map _
theorem fold_len1 : ∀ ts es : List T3, (ts.foldl add1 es).length ≤ es.length + ts.length
  | [], es => Nat.le_refl _
  | t :: r, es => by
    show (r.foldl add1 (add1 es t)).length ≤ es.length + (r.length + 1)
    have h1 := fold_len1 r (add1 es t)
    have h2 : (add1 es t).length ≤ es.length + 1 := put_len _ _ _
    omega
def pwI (b : Int) (n : Nat) : List D := (List.range (n + 1)).map fun k => .int (b ^ k)
theorem pwI_len (b : Int) (n : Nat) : (pwI b n).length = n + 1 := by unfold pwI; rw [List.length_map, List.length_range]
theorem pwI_succ (b : Int) (n : Nat) : pwI b n ++ [.int (b ^ n * b)] = pwI b (n + 1) := by
  unfold pwI
  rw [List.range_succ (n := n + 1), List.map_append, ← Int.pow_succ]
  rfl
theorem pwI_at (b : Int) {n : Nat} {i : Int} (h0 : 0 ≤ i) (h1 : i ≤ n) : atI (pwI b n) i = some (.int (b ^ i.toNat)) := by
  obtain ⟨k, rfl⟩ := Int.eq_ofNat_of_zero_le h0
  have hk : k < n + 1 := by omega
  refine atI_nat ?_
  unfold pwI
  rw [List.getElem?_map, List.getElem?_range hk]
  rfl
theorem pwI_last (b : Int) (n : Nat) : atI (pwI b n) (-1) = some (.int (b ^ n)) := by
  unfold atI
  have e : ixN (pwI b n).length (-1) = some n := by
    rw [pwI_len]
    unfold ixN
    rw [if_neg (by omega), if_pos (by omega)]
    congr 1
    omega
  rw [e]
  show (pwI b n)[n]? = _
  unfold pwI
  rw [List.getElem?_map, List.getElem?_range (Nat.lt_succ_self n)]
  rfl
theorem pow_le {b : Int} {M : Nat} (h : b.natAbs ≤ M) (n : Nat) : (b ^ n).natAbs ≤ M ^ n := by
  rw [Int.natAbs_pow]
  exact Nat.pow_le_pow_left h n
def tot (a b c d : Int) (H F : Nat) : List T3 → Int
  | [] => 0
  | t :: r => t.2.2 * a ^ t.1.toNat * b ^ (H - t.1.toNat) * c ^ t.2.1.toNat * d ^ (F - t.2.1.toNat) + tot a b c d H F r
theorem div_pow {a b : Rat} (hb : b ≠ 0) : ∀ i : Nat, (a / b) ^ i * b ^ i = a ^ i
  | 0 => by grind
  | i + 1 => by
    have h := div_pow (a := a) hb i
    have e : a / b * b = a := by grind
    calc (a / b) ^ (i + 1) * b ^ (i + 1) = ((a / b) ^ i * b ^ i) * (a / b * b) := by grind
      _ = a ^ (i + 1) := by rw [h, e]; grind
theorem high_pow {a b : Rat} (hb : b ≠ 0) {i H : Nat} (h : i ≤ H) : a ^ i * b ^ (H - i) = (a / b) ^ i * b ^ H := by
  have e : b ^ H = b ^ i * b ^ (H - i) := by
    have : H = i + (H - i) := by omega
    calc b ^ H = b ^ (i + (H - i)) := by rw [← this]
      _ = b ^ i * b ^ (H - i) := by grind
  have h2 := div_pow (a := a) hb i
  calc a ^ i * b ^ (H - i) = ((a / b) ^ i * b ^ i) * b ^ (H - i) := by rw [h2]
    _ = (a / b) ^ i * (b ^ i * b ^ (H - i)) := by grind
    _ = (a / b) ^ i * b ^ H := by rw [← e]
theorem cast_ne {b : Int} (h : b ≠ 0) : (b : Rat) ≠ 0 := fun e => h (Rat.intCast_inj.mp (by rw [e]; rfl))
/-- all powers are at most H and F -/
def Pw2 (H F : Nat) (ts : List T3) : Prop := ∀ t ∈ ts, (0 ≤ t.1 ∧ t.1 ≤ H) ∧ (0 ≤ t.2.1 ∧ t.2.1 ≤ F)
theorem tot_ev {a b c d : Int} (hb : b ≠ 0) (hd : d ≠ 0) {H F : Nat} : ∀ es : List T3, Pw2 H F es → ((tot a b c d H F es : Int) : Rat) = ev ((a : Rat) / b) ((c : Rat) / d) es * ((b : Rat) ^ H * (d : Rat) ^ F)
  | [], _ => by show ((0 : Int) : Rat) = 0 * _; grind
  | t :: r, h => by
    obtain ⟨⟨i0, i1⟩, j0, j1⟩ := h t List.mem_cons_self
    have ih := tot_ev (a := a) (c := c) hb hd r fun u hu => h u (List.mem_cons_of_mem _ hu)
    have e1 := high_pow (a := (a : Rat)) (cast_ne hb) (i := t.1.toNat) (H := H) (by omega)
    have e2 := high_pow (a := (c : Rat)) (cast_ne hd) (i := t.2.1.toNat) (H := F) (by omega)
    show ((t.2.2 * a ^ t.1.toNat * b ^ (H - t.1.toNat) * c ^ t.2.1.toNat * d ^ (F - t.2.1.toNat) + tot a b c d H F r : Int) : Rat) = ((t.2.2 : Rat) * mon _ _ (ky t) + ev _ _ r) * _
    rw [Rat.intCast_add, ih]
    simp only [Rat.intCast_mul, Rat.intCast_pow]
    unfold mon
    calc (t.2.2 : Rat) * (a : Rat) ^ t.1.toNat * (b : Rat) ^ (H - t.1.toNat) * (c : Rat) ^ t.2.1.toNat * (d : Rat) ^ (F - t.2.1.toNat) + ev ((a : Rat) / b) ((c : Rat) / d) r * ((b : Rat) ^ H * (d : Rat) ^ F)
        = (t.2.2 : Rat) * ((a : Rat) ^ t.1.toNat * (b : Rat) ^ (H - t.1.toNat)) * ((c : Rat) ^ t.2.1.toNat * (d : Rat) ^ (F - t.2.1.toNat)) + ev ((a : Rat) / b) ((c : Rat) / d) r * ((b : Rat) ^ H * (d : Rat) ^ F) := by grind
      _ = _ := by
        rw [e1, e2]
        show _ = ((t.2.2 : Rat) * (((a : Rat) / b) ^ t.1.toNat * ((c : Rat) / d) ^ t.2.1.toNat) + ev ((a : Rat) / b) ((c : Rat) / d) r) * ((b : Rat) ^ H * (d : Rat) ^ F)
        grind
theorem tot_le {a b c d : Int} {M V H F : Nat} (ha : a.natAbs ≤ M) (hb : b.natAbs ≤ M) (hc : c.natAbs ≤ M) (hd : d.natAbs ≤ M) : ∀ es : List T3, Pw2 H F es → Sz V es → (tot a b c d H F es).natAbs ≤ es.length * (V * (M ^ H * M ^ F))
  | [], _, _ => Nat.zero_le _
  | t :: r, h, hv => by
    obtain ⟨⟨i0, i1⟩, j0, j1⟩ := h t List.mem_cons_self
    have ih := tot_le ha hb hc hd r (fun u hu => h u (List.mem_cons_of_mem _ hu)) fun u hu => hv u (List.mem_cons_of_mem _ hu)
    have e1 : M ^ t.1.toNat * M ^ (H - t.1.toNat) = M ^ H := by rw [← Nat.pow_add]; congr 1; omega
    have e2 : M ^ t.2.1.toNat * M ^ (F - t.2.1.toNat) = M ^ F := by rw [← Nat.pow_add]; congr 1; omega
    have key : (t.2.2 * a ^ t.1.toNat * b ^ (H - t.1.toNat) * c ^ t.2.1.toNat * d ^ (F - t.2.1.toNat)).natAbs ≤ V * (M ^ H * M ^ F) := by
      rw [Int.natAbs_mul, Int.natAbs_mul, Int.natAbs_mul, Int.natAbs_mul]
      calc _ ≤ V * M ^ t.1.toNat * M ^ (H - t.1.toNat) * M ^ t.2.1.toNat * M ^ (F - t.2.1.toNat) := Nat.mul_le_mul (Nat.mul_le_mul (Nat.mul_le_mul (Nat.mul_le_mul (hv t List.mem_cons_self) (pow_le ha _)) (pow_le hb _)) (pow_le hc _)) (pow_le hd _)
        _ = V * (M ^ t.1.toNat * M ^ (H - t.1.toNat)) * (M ^ t.2.1.toNat * M ^ (F - t.2.1.toNat)) := by simp only [Nat.mul_assoc]
        _ = V * (M ^ H * M ^ F) := by rw [e1, e2, Nat.mul_assoc]
    show (t.2.2 * a ^ t.1.toNat * b ^ (H - t.1.toNat) * c ^ t.2.1.toNat * d ^ (F - t.2.1.toNat) + tot a b c d H F r).natAbs ≤ (r.length + 1) * _
    rw [Nat.succ_mul]
    omega
theorem rat_small {t u : Int} (hu : u ≠ 0) : ((t : Rat) / (u : Rat)).num.natAbs ≤ t.natAbs ∧ ((t : Rat) / (u : Rat)).den ≤ u.natAbs := by
  have h := lowI_small (t := t) hu
  rw [lowI_rat hu] at h
  exact ⟨h.1, h.2⟩
theorem low_pow_ne {b d : Int} (hb : b ≠ 0) (hd : d ≠ 0) (H F : Nat) : b ^ H * d ^ F ≠ 0 := Int.mul_ne_zero (Int.pow_ne_zero hb) (Int.pow_ne_zero hd)
theorem tot_rat {a b c d : Int} (hb : b ≠ 0) (hd : d ≠ 0) {H F : Nat} {es : List T3} (h : Pw2 H F es) : ((tot a b c d H F es : Int) : Rat) / ((b ^ H * d ^ F : Int) : Rat) = ev ((a : Rat) / b) ((c : Rat) / d) es := by
  have n := cast_ne (low_pow_ne hb hd H F)
  have e : ((b ^ H * d ^ F : Int) : Rat) = (b : Rat) ^ H * (d : Rat) ^ F := by simp only [Rat.intCast_mul, Rat.intCast_pow]
  rw [tot_ev hb hd es h, ← e]
  grind
/-- a ratio whose numbers are small -/
def Few (n : Nat) (r : Rat) : Prop := r.num.natAbs < n ∧ r.den < n
theorem ev_few {a b c d : Int} {M V H F n : Nat} (hb0 : b ≠ 0) (hd0 : d ≠ 0) (ha : a.natAbs ≤ M) (hb : b.natAbs ≤ M) (hc : c.natAbs ≤ M) (hd : d.natAbs ≤ M) {es : List T3} (h : Pw2 H F es) (hv : Sz V es) (hn : es.length * (V * (M ^ H * M ^ F)) < n) (hm : M ^ H * M ^ F < n) : Few n (ev ((a : Rat) / b) ((c : Rat) / d) es) := by
  have s := rat_small (t := tot a b c d H F es) (low_pow_ne hb0 hd0 H F)
  rw [tot_rat hb0 hd0 h] at s
  have l := tot_le ha hb hc hd es h hv
  have e : (b ^ H * d ^ F).natAbs ≤ M ^ H * M ^ F := by
    rw [Int.natAbs_mul]
    exact Nat.mul_le_mul (pow_le hb H) (pow_le hd F)
  exact ⟨by omega, by omega⟩
theorem rat_self (r : Rat) : ((r.num : Int) : Rat) / ((r.den : Int) : Rat) = r := by
  rw [← Rat.divInt_eq_div]
  exact Rat.num_divInt_den r
theorem den_ne (r : Rat) : ((r.den : Nat) : Int) ≠ 0 := by have := r.den_nz; omega
end PO
namespace DL
open PySem PySem.Spec PyProof.Rows L2
section
variable {X : Cx} {Wx : WX} {a b c e o f : Expr} {es : List Expr} {da db dc de do' df : DE} {dl dk : DA} {pos apos : Pos}
def dMaxDf (dl dk : DA) : DE := fun env L k x => dl env L (fun ds L1 => dk env L1 (fun es L2 => match ds, es with
  | [a], [.int d] => ∃ ns : List Int, con L2 a = .lst (ns.map D.int) ∧ (ns = [] → k (.int d) L2) ∧ ∀ m, m ∈ ns → (∀ y, y ∈ ns → y ≤ m) → k (.int m) L2
  | _, _ => False) x) x
theorem q_maxDf {p : Pos} {kws : List Keyword} (hc : X.calm = true) (hu : X.A.units + 64 < cLine) (hg : Gl X "max") (hm : X.mg "max" = none) (ha : QA X Wx (e :: []) dl) (hkw : QK X Wx kws dk)
    (he : backTo pos (starEach (e :: []) X.env) = (false, eval e X.env) :: backTo pos (starEach [] X.env) := by rfl) (hpl : (backTo pos (starEach (e :: []) X.env)).any (·.1) = false := by rfl)
    (hall : (backToKw pos (keywordEach kws X.env)).all (·.1.isSome) = true := by rfl) (hnone : (backToKw pos (keywordEach kws X.env)).any (·.1.isNone) = false := by rfl) (hks : (backToKw pos (keywordEach kws X.env)).filterMap (·.1) = [("default" : Str)] := by rfl) :
    QE X Wx (.Call (.Name "max" p) [e] kws pos) (dMaxDf dl dk) := by
  obtain ⟨ta, pa, sa⟩ := ha.ex
  obtain ⟨tk, pk, sk⟩ := hkw.ex
  refine ⟨_, pe_callBK (call_maxDf hc hu) hg hm (by rfl) pa pk (by decide) (by decide) he hpl hall hnone hks, fun σ H env L k x Q st h hk hx => ?_⟩
  refine sa σ H env L _ x _ st h (fun ds L1 vs H1 h1 g1 j1 r1 => ?_) hx
  refine sk σ H1 env L1 _ x _ (st.go g1 j1) h1 (fun es L2 zs H2 h2 g2 j2 r2 => ?_) (hx.go g1)
  have r1 := r1.go g2
  split at h2
  · rename_i a dv
    obtain ⟨ns, hns, h0, h1⟩ := h2
    cases r1 with
    | cons ra r0 =>
    cases r0
    cases r2 with
    | cons rd r0 =>
    cases r0
    cases rd
    obtain ⟨q, ws, rfl, hs, rv⟩ := con_lst j2 ra hns
    have ew := RpAll.ofInts ns rv
    subst ew
    have gg := g1.trans g2
    refine ⟨q, ns, _, rfl, rfl, SqL.of hs, fun z => hk _ L2 _ H2 (h0 z) gg j2 (.int _), fun m hm hy => hk _ L2 _ H2 (h1 m hm hy) gg j2 (.int _)⟩
  · exact h2.elim
def lentO : HO → Bool
  | .lst _ => true
  | .tbl _ => true
  | _ => false
def lents (L : Led) : Bool := L.all fun q => match q.2 with
  | .lst _ => true
  | .tab _ => true
  | _ => false
section
variable {L : Led} {K : PySem.W.Frag} {H : Hp}
abbrev Lent (L : Led) (H : Hp) : Prop := ∀ a, inL L a → ∃ o, H a = some o ∧ lentO o = true
theorem Lent.not (hq : Lent L H) {a : Addr} {o : HO} (h : H a = some o) (n : lentO o = false) : ¬ inL L a := fun m => by
  obtain ⟨o2, e, z⟩ := hq a m
  rw [h] at e
  cases e
  rw [n] at z
  cases z
theorem Lent.rd (hq : Lent L H) {a : Addr} {u : HO} (h : L2.Rd H a u) (n : lentO u = false) : ¬ inL L a := by
  rcases h with h | ⟨o, h⟩
  · exact hq.not h n
  · exact hq.not h rfl
theorem JL.lent (j : JL K L H) (hl : lents L = true) : Lent L H := fun a m => by
  obtain ⟨q, hq, e⟩ := List.mem_map.mp m
  have z := List.all_eq_true.mp hl q hq
  have w := j.own q.1 q.2 hq
  rw [e] at w
  split at z
  · rename_i ds hd
    rw [hd] at w
    exact ⟨_, w.choose_spec.1, rfl⟩
  · rename_i ds hd
    rw [hd] at w
    exact ⟨_, w.choose_spec.1, rfl⟩
  · cases z
end
end
end DL
namespace DL
open PySem PySem.Spec PyProof.Rows L2
section
end
end DL
namespace HOp
open PySem PySem.Spec PyProof.Rows Builtin Builtin.Int PySem.W
/-- what stands at x is no number -/
def NoPrim (x : Addr) (s : Shared) : Prop := ∃ o, s.heap.get? x = some o ∧ o.data = .plain
theorem gives_int {name : String} {f : Int → Int → Sem Fin} (i : Int) (t : Tok) (x : Addr) : GivesAt (NoPrim x) (intBinary name f false ⟨[.int i t, .ref x], []⟩) (.val .notImplemented) := by
  intro prog w A R s ⟨o, e, n⟩ h
  have h : R (.ok (.ret .notImplemented)) s := h
  unfold intBinary slotArgs intOfSelf asInt?
  simp only [List.isEmpty_nil, Bool.not_true, Bool.false_eq_true, if_false, List.length_singleton, bne_self_eq_false, pure_bind, List.headD_cons]
  refine wpAny_bind (wpAny_bind (wpAny_load e ?_))
  rw [n]
  exact wpAny_pure (wpAny_bind (wpAny_rule (wpAny_pure h)))
section
variable {prog : Program} {w : World} {A : Around} {E : Value → Shared → Prop} {s : Shared} {K : Frag} {x C L f g : Addr} {h₀ : Heap} {m : Str → Option Value} {ox : Obj} {od : Option Obj} {nm : String}
/-- what is wanted of binaryOp1 -/
abbrev Some1 (Q : Value → Shared → Prop) : Option Value → Shared → Prop := fun r s' => ∃ v, r = some v ∧ Q v s'
theorem bin1_same {b : Value} {Q : Value → Shared → Prop} (X : K.In s.heap) (I : InstAt s.heap x ox C od) (hb : Looks (model prog w) s.heap (typeOf b) (.ref C)) (hc : selfFirst K C = true)
    (hs : findIn K (.ref C) (PySem.dunder nm) = some (some (.ref f))) (hf : isFn K (.ref f) = true)
    (h : wpAny (model prog w) A (call (.ref f) [.ref x, b]) (W.CmpBack Q) E s) : wpAny (model prog w) A (binaryOp1 nm (.ref x) b) (Some1 Q) E s := by
  obtain ⟨cd, rest, hcd, hm⟩ := ksp_first hc
  have one := ksp_try X I hs hf h
  unfold binaryOp1
  refine wpAny_bind (I.type.here (wpAny_bind (hb.here (wpAny_bind ((fills_K X hcd hm hs).here ?_)))))
  simp only [beq_self_eq_true, if_true]
  refine wpAny_bind (wpAny_pure ?_)
  simp only [Bool.and_false, Bool.false_eq_true, if_false, Bool.false_and]
  refine wpAny_bind (wpAny_pure ?_)
  simp only [Bool.false_eq_true, if_false]
  refine wpAny_bind (m := tryMethod (.ref x) _ b) (wpAny_mono one (fun r s' z => ?_) fun _ _ z => z)
  obtain ⟨v, rfl, hq⟩ := z
  exact wpAny_pure ⟨v, rfl, hq⟩
theorem bin1_type {T : String} {b : Value} {fo ro rc : Option Value} {Q : Value → Shared → Prop} (X : K.In s.heap) (I : InstAt s.heap x ox C od) (hb : typeOf b = pure (.type T)) (hc : selfFirst K C = true)
    (hs : findIn K (.ref C) (PySem.dunder nm) = some (some (.ref f))) (hf : isFn K (.ref f) = true) (hr : findIn K (.ref C) (dunderR nm) = some rc) (hp : rc = none ∨ ∃ g : Addr, rc = some (.ref g))
    (h1 : findIn K (.type T) (PySem.dunder nm) = some fo) (h2 : findIn K (.type T) (dunderR nm) = some ro) (hsub : subIn K (.type T) (.ref C) = some false)
    (h : wpAny (model prog w) A (call (.ref f) [.ref x, b]) (W.CmpBack Q) E s) : wpAny (model prog w) A (binaryOp1 nm (.ref x) b) (Some1 Q) E s := by
  obtain ⟨cd, rest, hcd, hm⟩ := ksp_first hc
  have one := ksp_try X I hs hf h
  obtain ⟨hh, g, d, tt, os⟩ := s
  have L1 : Looks (model prog w) hh (typeOf (.ref x)) (.ref C) := I.type
  have L2 : Looks (model prog w) hh (typeOf b) (.type T) := Looks.of_pure hb
  have L3 : Looks (model prog w) hh (fillsNumberSlot (.ref C) nm) true := fills_K X hcd hm hs
  have L4 : Looks (model prog w) hh (fillsNumberSlot (.type T) nm) ((fo.isSome && !isSeqSlot fo) || (ro.isSome && !isSeqSlot ro)) := ksp_fillsT X h1 h2
  have L5 : Looks (model prog w) hh (isSubtype (.type T) (.ref C)) false := looks_subIn X hsub
  have L6 : Looks (model prog w) hh (numberSlotInPython (.ref C) nm) true := ksp_inPy X hs hr hp
  have L7 : Looks (model prog w) hh (numberSlotInPython (.type T) nm) false := Looks.of_pure rfl
  have L8 : Looks (model prog w) hh (typeLookup (.type T) (dunderR nm)) ro := looks_findIn X h2
  generalize ((fo.isSome && !isSeqSlot fo) || (ro.isSome && !isSeqSlot ro)) = right at L4
  have hne : (Value.ref C == Value.type T) = false := Bool.eq_false_iff.mpr fun q => by cases beq_iff_eq.mp q
  unfold binaryOp1
  refine wpAny_bind (L1.at (wpAny_bind (L2.at (wpAny_bind (L3.at ?_)))))
  simp only [hne, Bool.false_eq_true, if_false]
  cases right with
  | false =>
    ksp_lk
    refine wpAny_mono one (fun r s' hr' => ?_) fun _ _ e => e
    obtain ⟨v, rfl, hq⟩ := hr'
    ksp_lk
    exact ⟨v, rfl, hq⟩
  | true =>
    ksp_lk
    refine wpAny_mono one (fun r s' hr' => ?_) fun _ _ e => e
    obtain ⟨v, rfl, hq⟩ := hr'
    ksp_lk
    exact ⟨v, rfl, hq⟩
/-- a number first, its own method declines, the other one's reflected method answers -/
theorem bin1_refl {id : String} {B : Builtin} {i : Int} {t : Tok} {Q : Value → Shared → Prop} (X : K.In s.heap) (I : InstAt s.heap x ox C od) (np : ox.data = .plain) (hc : selfFirst K C = true)
    (hfT : fillsNumberSlot (.type "int") nm = pure true) (slot : Slot "int" (PySem.dunder nm) id) (entry : entryFor table id = some B) (args : argsOk id ⟨[.int i t, .ref x], []⟩) (hB : GivesAt (NoPrim x) (B ⟨[.int i t, .ref x], []⟩) (.val .notImplemented))
    (hs : findIn K (.ref C) (PySem.dunder nm) = some (some (.ref f))) (hr : findIn K (.ref C) (dunderR nm) = some (some (.ref g))) (hg : isFn K (.ref g) = true) (hsub : subIn K (.ref C) (.type "int") = some false)
    (h : wpAny (model prog w) A (call (.ref g) [.ref x, .int i t]) (W.CmpBack Q) E s) : wpAny (model prog w) A (binaryOp1 nm (.int i t) (.ref x)) (Some1 Q) E s := by
  obtain ⟨cd, rest, hcd, hm⟩ := ksp_first hc
  have hne : (Value.type "int" == Value.ref C) = false := Bool.eq_false_iff.mpr fun q => by cases beq_iff_eq.mp q
  have hpy : numberSlotInPython (.type "int") nm = pure false := rfl
  have one := ksp_try X I hr hg h
  have hT : s.TypeIs (.int i t) "int" := rfl
  unfold binaryOp1
  refine wpAny_bind (wpAny_typeOf hT (wpAny_bind (I.type.here (wpAny_bind (wpAny_of_eq hfT ?_)))))
  simp only [hne, Bool.false_eq_true, if_false]
  refine wpAny_bind ((fills_K X hcd hm hs).here ?_)
  simp only [Bool.and_self, if_true]
  refine wpAny_bind ((looks_subIn X hsub).here ?_)
  simp only [Bool.false_eq_true, if_false, pure_bind, Bool.not_false, Bool.and_self, if_true, hpy]
  refine wpAny_bind (wpAny_tryMethod_declines hT slot (call_givesAt slot hT entry args hB ⟨ox, I.at_, np⟩ ⟨rfl, ?_⟩))
  refine wpAny_bind (m := tryMethod (.ref x) _ (.int i t)) (wpAny_mono one (fun r s' z => ?_) fun _ _ z => z)
  obtain ⟨v, rfl, hq⟩ := z
  exact wpAny_bind (wpAny_rule (wpAny_pure ⟨v, rfl, hq⟩))
theorem op_of {op : Operator} {a b : Value} {Q : Value → Shared → Prop} (h : wpAny (model prog w) A (binaryOp1 op.info.2 a b) (Some1 Q) E s) : wpAny (model prog w) A (binaryOp op a b) Q E s := by
  unfold binaryOp
  refine wpAny_holding (wpAny_bind (wpAny_mono h (fun r s' z => ?_) fun _ _ z => z))
  obtain ⟨v, rfl, hq⟩ := z
  exact wpAny_pure hq
theorem no_ip {add : Bool} {h : Heap} {cd : ClassData} (X : K.In h) (hc : clsIn K C = some cd) (hm : cd.mro = [.ref C, .type "object"]) (h1 : findIn K (.ref C) (dunderI nm) = some none) (h2 : findIn K (.type "object") (dunderI nm) = some none) : Looks (model prog w) h (fillsInplaceSlot (.ref C) nm add) false := by
  intro A Q E s k q
  have Lm : Looks (model prog w) h (mroOf (.ref C)) cd.mro := (looks_clsIn X hc).andThen (f := fun cd => pure cd.mro) .now
  have Lm' := Lm.keeps k
  obtain ⟨hh, g, d, tt, os⟩ := s
  have X' : K.In hh := X.keeps k
  have L1 : Looks (model prog w) hh (typeLookup (.ref C) (dunderI nm)) none := looks_findIn X' h1
  have L2 : Looks (model prog w) hh (typeLookup (.type "object") (dunderI nm)) none := looks_findIn X' h2
  unfold fillsInplaceSlot
  refine wpAny_bind (Lm'.at ?_)
  rw [hm, List.anyM_cons]
  refine wpAny_bind ?_
  repeat lk
  exact q
theorem ip_of {op : Operator} {b : Value} {Q : Value → Shared → Prop} {cd : ClassData} (X : K.In s.heap) (I : InstAt s.heap x ox C od) (hc : clsIn K C = some cd) (hm : cd.mro = [.ref C, .type "object"]) (h1 : findIn K (.ref C) (dunderI op.info.2) = some none) (h2 : findIn K (.type "object") (dunderI op.info.2) = some none)
    (h : wpAny (model prog w) A (binaryOp1 op.info.2 (.ref x) b) (Some1 Q) E s) : wpAny (model prog w) A (inplaceOp op (.ref x) b) Q E s := by
  unfold inplaceOp
  refine wpAny_holding (wpAny_bind (I.type.here (wpAny_bind ((no_ip X hc hm h1 h2).here ?_))))
  simp only [Bool.false_eq_true, if_false]
  refine wpAny_bind (wpAny_mono h (fun r s' z => ?_) fun _ _ z => z)
  obtain ⟨v, rfl, hq⟩ := z
  exact wpAny_pure hq
end
end HOp
namespace DL
open PySem PySem.Spec PyProof.Rows L2 RZ
/-- what the head tells of a class with an own number method nm -/
structure BinF (K : PySem.W.Frag) (C : Addr) (nm : String) : Prop where
  first : PySem.W.selfFirst K C = true
  r : ∃ rc, PySem.W.findIn K (.ref C) (dunderR nm) = some rc ∧ (rc = none ∨ ∃ g : Addr, rc = some (.ref g))
  i1 : ∃ fo, PySem.W.findIn K (.type "int") (PySem.dunder nm) = some fo
  i2 : ∃ ro, PySem.W.findIn K (.type "int") (dunderR nm) = some ro
  sub : PySem.W.subIn K (.type "int") (.ref C) = some false
/-- .. and of x op= e: there is no own __iop__ -/
structure IpF (K : PySem.W.Frag) (C : Addr) (nm : String) : Prop where
  mro : ∃ cd, PySem.W.clsIn K C = some cd ∧ cd.mro = [.ref C, .type "object"]
  h1 : PySem.W.findIn K (.ref C) (dunderI nm) = some none
  h2 : PySem.W.findIn K (.type "object") (dunderI nm) = some none
def isRef : V → Prop
  | .ref _ => True
  | _ => False
section
variable {X : Cx} {Wx : WX} {a b c e o f : Expr} {es : List Expr} {da db dc de do' df : DE} {pos apos : Pos}
theorem back_ref {P : Program} {w : World} {X : Cx} {pins : List (Addr × Obj)} {σ : L2.St} {Q : VK} {u : Value} {s' : Shared} (z : EP X pins σ (fun v H' => isRef v ∧ Q v H') u s') : PySem.W.CmpBack (EP X pins σ Q) u s' := by
  obtain ⟨v, H', I', rv, hr, q⟩ := z
  cases v <;> first | exact hr.elim | skip
  rename_i a
  have e : u = Value.ref a := rv
  subst e
  exact ⟨.ref a, H', I', rv, q⟩
/-- what is done with a left thing of an own class -/
def rBin (K : PySem.W.Frag) (C : Addr) (g : DSp) : R2 := fun x y H Q => ∃ a dx fs, (x = .ref a ∧ H a = some (.ins C dx fs)) ∧ ((∃ i, y = .int i) ∨ TyX K H y (.ref C)) ∧ spD K g [.ref a, y] H (fun v H' => isRef v ∧ Q v H') (fun _ _ _ => False)
theorem bin1_run {k : Nat} {f : Addr} {fd : FuncData} {C : Addr} {g : DSp} {m nm : Str} {nmS : String} (F : FnOk X.prog X.w X.K X.mg X.base (L2.CX X.prog X.w) k f fd ["self", m] (spD X.K g)) (hM : Meth X.K C nm f) (e0 : PySem.dunder nmS = nm) (B : BinF X.K C nmS) (hr : Room k X.A) (hb : Binds X.K fd ["self", m] [])
    {pins : List (Addr × Obj)} {s : Shared} {σ : L2.St} {H : Hp} {y : V} {a : Addr} {dx : Addr} {fs : List (Str × V)} {u : Value} {Q : VK} (I : Inv X pins σ H s) (hq : H a = some (.ins C dx fs)) (ry : RelV y u) (hy : (∃ i, y = .int i) ∨ TyX X.K H y (.ref C)) (h : spD X.K g [.ref a, y] H (fun v H' => isRef v ∧ Q v H') (fun _ _ _ => False)) :
    wpAny (model X.prog X.w) X.A (binaryOp1 nmS (.ref a) u) (HOp.Some1 (EP X pins σ Q)) X.xe s := by
  obtain ⟨mA, O, _⟩ := ins_get I.hok hq
  obtain ⟨od, J, _⟩ := O.look
  have hs : PySem.W.findIn X.K (.ref C) (PySem.dunder nmS) = some (some (.ref f)) := by rw [e0]; exact hM.at_
  have hx : PassesAt (L2.CX X.prog X.w) X σ (fun _ _ _ => False) := fun _ _ _ _ _ _ z => by
    obtain ⟨_, _, _, _, _, _, _, _, _, _, _, _, z⟩ := z
    exact z.elim
  have run := wpAny_mono (run_fnS (us := [.ref a, u]) (vs := [.ref a, y]) (E := fun _ => fun _ _ _ => False) F hr hb hx I (.cons rfl (.cons ry .nil)) h) (fun u s' z => back_ref (P := X.prog) (w := X.w) z) fun _ _ z => z
  rcases hy with ⟨i, rfl⟩ | ty
  · obtain ⟨t, rfl⟩ := (show ∃ t, u = Value.int i t from ry)
    obtain ⟨rc, r1, r2⟩ := B.r
    obtain ⟨fo, h1⟩ := B.i1
    obtain ⟨ro, h2⟩ := B.i2
    exact HOp.bin1_type I.kIn J rfl B.first hs hM.fn r1 r2 h1 h2 B.sub run
  · obtain ⟨P, Z, p, _⟩ := kit_of I ry ty
    exact HOp.bin1_same I.kIn J (Z.ty _ _ I.kIn p) B.first hs hM.fn run
theorem op_bin {op : Operator} {k : Nat} {f : Addr} {fd : FuncData} {C : Addr} {g : DSp} {m nm : Str} (F : FnOk X.prog X.w X.K X.mg X.base (L2.CX X.prog X.w) k f fd ["self", m] (spD X.K g)) (hM : Meth X.K C nm f) (e0 : PySem.dunder op.info.2 = nm) (B : BinF X.K C op.info.2) (hr : Room k X.A) (hb : Binds X.K fd ["self", m] []) : OpR X (binaryOp op) (rBin X.K C g) :=
  fun pins s σ H x y v u Q I rx ry ⟨a, dx, fs, ⟨ea, hq⟩, hy, h⟩ => by
    subst ea
    cases rx
    exact HOp.op_of (bin1_run F hM e0 B hr hb I hq ry hy h)
theorem ip_bin {op : Operator} {k : Nat} {f : Addr} {fd : FuncData} {C : Addr} {g : DSp} {m nm : Str} (F : FnOk X.prog X.w X.K X.mg X.base (L2.CX X.prog X.w) k f fd ["self", m] (spD X.K g)) (hM : Meth X.K C nm f) (e0 : PySem.dunder op.info.2 = nm) (B : BinF X.K C op.info.2) (J : IpF X.K C op.info.2) (hr : Room k X.A) (hb : Binds X.K fd ["self", m] []) : PIp X op (rBin X.K C g) :=
  fun pins s σ H x y v u Q I rx ry ⟨a, dx, fs, ⟨ea, hq⟩, hy, h⟩ => by
    subst ea
    cases rx
    obtain ⟨mA, O, _⟩ := ins_get I.hok hq
    obtain ⟨od, Ia, _⟩ := O.look
    obtain ⟨cd, c1, c2⟩ := J.mro
    exact HOp.ip_of I.kIn Ia c1 c2 J.h1 J.h2 (bin1_run F hM e0 B hr hb I hq ry hy h)
/-- a right operand: of the class, or a number -/
def rgtOk (K : PySem.W.Frag) (C : Addr) (L : Led) (b : D) : Prop := match con L b with
  | .obj C' _ _ => C' = C ∧ InsC K C
  | .int _ => True
  | _ => False
def isObjD : D → Prop
  | .obj _ _ _ => True
  | _ => False
theorem isObj_ref {L : Led} {K : PySem.W.Frag} {H : Hp} {v : V} {d : D} (r : Rp L K H v d) (h : isObjD d) : isRef v := by
  cases r <;> first | exact h.elim | exact True.intro
theorem rgt_ty {L : Led} {K : PySem.W.Frag} {H : Hp} {v : V} {d : D} {C : Addr} (j : JL K L H) (r : Rp L K H v d) (h : rgtOk K C L d) : (∃ i, v = .int i) ∨ TyX K H v (.ref C) := by
  unfold rgtOk at h
  split at h
  · rename_i C' ns vs hc
    obtain ⟨rfl, hI⟩ := h
    exact .inr (tyX_obj j r hc hI)
  · rename_i i hc
    have e := con_flat j r hc True.intro
    subst e
    cases r
    exact .inl ⟨i, rfl⟩
  · exact h.elim
def gBinO (K : PySem.W.Frag) (C : Addr) (g : DSp) (a b : D) (L : Led) (k : DK) : Prop := match con L a with
  | .obj C' _ _ => C' = C ∧ rgtOk K C L b ∧ g [a, b] L (fun d L3 => isObjD d ∧ k d L3) (fun _ _ => False)
  | _ => False
def dBinO (K : PySem.W.Frag) (C : Addr) (g : DSp) (da db : DE) : DE := fun env L k x => da env L (fun a L1 => db env L1 (fun b L2 => gBinO K C g a b L2 k) x) x
theorem sim_bin {K : PySem.W.Frag} {C : Addr} {g : DSp} : Sim2L K (rBin K C g) (gBinO K C g) := by
  intro H L va vb a b k Q j ra rb h hk
  unfold gBinO at h
  split at h
  · rename_i C' ns ds hc
    obtain ⟨rfl, ht, h⟩ := h
    obtain ⟨q, dx, vs, rfl, hq, hl, rv⟩ := con_obj j ra hc
    exact ⟨q, dx, _, ⟨rfl, hq⟩, rgt_ty j rb ht, [a, b], L, _, _, j, .cons ra (.cons rb .nil), h, fun d L3 v H3 h3 g3 j3 r3 => ⟨isObj_ref r3 h3.1, hk d L3 v H3 h3.2 g3 j3 r3⟩, fun n L' a H' z _ _ _ => z⟩
  · exact h.elim
theorem q_binO {K : PySem.W.Frag} {op : Operator} {n k : Nat} {C : Addr} {g : DSp} {m nm : Str} (hK : X.K = K) (F : MCal X.prog X.w X.K X.mg X.base n C nm ["self", m] [] g) (B : BinF K C op.info.2) (hn : n ≤ k) (hr : Room k X.A) (ha : QE X Wx a da) (hb : QE X Wx b db) (e0 : PySem.dunder op.info.2 = nm := by decide +kernel) : QE X Wx (.BinOp a op b pos) (dBinO K C g da db) := by
  subst hK
  obtain ⟨f, fd, us, dvs, F, hC, hM, hbi, hd, hdd⟩ := F.ex
  obtain rfl : dvs = [] := by cases hdd [] (fun _ => none); rfl
  cases hd
  obtain ⟨ta, pa, sa⟩ := ha.ex
  obtain ⟨tb, pb, sb⟩ := hb.ex
  refine ⟨_, pe_op (op_bin F hM e0 B (hr.mono hn) hbi) pa pb, fun σ H env L k x Q st h hk hx => ?_⟩
  refine sa σ H env L _ x _ st h (fun a L1 va H1 h1 g1 j1 r1 => ?_) hx
  refine sb σ H1 env L1 _ x _ (st.go g1 j1) h1 (fun o L2 vo H2 h2 g2 j2 r2 => ?_) (hx.go g1)
  exact sim_bin H2 L2 va vo a o _ _ j2 (r1.go g2) r2 h2 fun d L3 v H3 h3 g3 j3 r3 => hk d L3 v H3 h3 ((g1.trans g2).trans g3) j3 r3
/-- x op= e -/
theorem ip_binO {K : PySem.W.Frag} {op : Operator} {n k : Nat} {C : Addr} {g : DSp} {m nm : Str} (hK : X.K = K) (F : MCal X.prog X.w X.K X.mg X.base n C nm ["self", m] [] g) (B : BinF K C op.info.2) (J : IpF K C op.info.2) (hn : n ≤ k) (hr : Room k X.A) (e0 : PySem.dunder op.info.2 = nm := by decide +kernel) : OQL X op (gBinO K C g) := by
  subst hK
  obtain ⟨f, fd, us, dvs, F, hC, hM, hbi, hd, hdd⟩ := F.ex
  obtain rfl : dvs = [] := by cases hdd [] (fun _ => none); rfl
  cases hd
  exact ⟨_, ip_bin F hM e0 B J (hr.mono hn) hbi, sim_bin⟩
/-- what is known of int's own method -/
structure IntDec (nm : String) : Prop where
  ex : ∃ (id : String) (B : Builtin), fillsNumberSlot (.type "int") nm = pure true ∧ Slot "int" (PySem.dunder nm) id ∧ entryFor table id = some B ∧ (∀ a b : Value, argsOk id ⟨[a, b], []⟩) ∧ ∀ (i : Int) (t : Tok) (x : Addr), GivesAt (HOp.NoPrim x) (B ⟨[.int i t, .ref x], []⟩) (.val .notImplemented)
theorem int_add : IntDec "add" := ⟨_, _, F.fills_int_add, F.slot_int_add, F.entry_int_add, F.args_int_add_2, fun i t x => HOp.gives_int i t x⟩
theorem int_sub : IntDec "sub" := ⟨_, _, F.fills_int_sub, F.slot_int_sub, F.entry_int_sub, F.args_int_sub_2, fun i t x => HOp.gives_int i t x⟩
theorem int_mul : IntDec "mul" := ⟨_, _, F.fills_int_mul, F.slot_int_mul, F.entry_int_mul, F.args_int_mul_2, fun i t x => HOp.gives_int i t x⟩
/-- what the head tells of a class with an own reflected method; f: its plain method -/
structure RefF (K : PySem.W.Frag) (C : Addr) (nm : String) : Prop where
  first : PySem.W.selfFirst K C = true
  own : ∃ f : Addr, PySem.W.findIn K (.ref C) (PySem.dunder nm) = some (some (.ref f))
  sub : PySem.W.subIn K (.ref C) (.type "int") = some false
def rRef (K : PySem.W.Frag) (C : Addr) (g : DSp) : R2 := fun x y H Q => ∃ i a dx fs, x = .int i ∧ (y = .ref a ∧ H a = some (.ins C dx fs)) ∧ spD K g [.ref a, .int i] H (fun v H' => isRef v ∧ Q v H') (fun _ _ _ => False)
theorem op_ref {op : Operator} {k : Nat} {f : Addr} {fd : FuncData} {C : Addr} {g : DSp} {m nm : Str} (F : FnOk X.prog X.w X.K X.mg X.base (L2.CX X.prog X.w) k f fd ["self", m] (spD X.K g)) (hM : Meth X.K C nm f) (e0 : dunderR op.info.2 = nm) (B : RefF X.K C op.info.2) (D' : IntDec op.info.2) (hr : Room k X.A) (hb : Binds X.K fd ["self", m] []) : OpR X (binaryOp op) (rRef X.K C g) :=
  fun pins s σ H x y v u Q I rx ry ⟨i, a, dx, fs, ei, ⟨ea, hq⟩, h⟩ => by
    subst ei ea
    cases ry
    obtain ⟨t, rfl⟩ := (show ∃ t, v = Value.int i t from rx)
    obtain ⟨mA, O, _⟩ := ins_get I.hok hq
    obtain ⟨od, J, _⟩ := O.look
    obtain ⟨id, B0, d1, d2, d3, d4, d5⟩ := D'.ex
    obtain ⟨f0, hf0⟩ := B.own
    have hx : PassesAt (L2.CX X.prog X.w) X σ (fun _ _ _ => False) := fun _ _ _ _ _ _ z => by
      obtain ⟨_, _, _, _, _, _, _, _, _, _, _, _, z⟩ := z
      exact z.elim
    have run := wpAny_mono (run_fnS (us := [.ref a, .int i t]) (vs := [.ref a, .int i]) (E := fun _ => fun _ _ _ => False) F hr hb hx I (.cons rfl (.cons rx .nil)) h) (fun u s' z => back_ref (P := X.prog) (w := X.w) z) fun _ _ z => z
    exact HOp.op_of (HOp.bin1_refl I.kIn J rfl B.first d1 d2 d3 (d4 _ _) (d5 i t a) hf0 (by rw [e0]; exact hM.at_) hM.fn B.sub run)
def dRefO (C : Addr) (g : DSp) (da db : DE) : DE := fun env L k x => da env L (fun a L1 => db env L1 (fun b L2 => match a, con L2 b with
  | .int i, .obj C' _ _ => C' = C ∧ g [b, .int i] L2 (fun d L3 => isObjD d ∧ k d L3) (fun _ _ => False)
  | _, _ => False) x) x
theorem q_refO {op : Operator} {n k : Nat} {C : Addr} {g : DSp} {m nm : Str} (F : MCal X.prog X.w X.K X.mg X.base n C nm ["self", m] [] g) (B : RefF X.K C op.info.2) (D' : IntDec op.info.2) (hn : n ≤ k) (hr : Room k X.A) (ha : QE X Wx a da) (hb : QE X Wx b db) (e0 : dunderR op.info.2 = nm := by decide +kernel) : QE X Wx (.BinOp a op b pos) (dRefO C g da db) := by
  obtain ⟨f, fd, us, dvs, F, hC, hM, hbi, hd, hdd⟩ := F.ex
  obtain rfl : dvs = [] := by cases hdd [] (fun _ => none); rfl
  cases hd
  obtain ⟨ta, pa, sa⟩ := ha.ex
  obtain ⟨tb, pb, sb⟩ := hb.ex
  refine ⟨_, pe_op (op_ref F hM e0 B D' (hr.mono hn) hbi) pa pb, fun σ H env L k x Q st h hk hx => ?_⟩
  refine sa σ H env L _ x _ st h (fun a L1 va H1 h1 g1 j1 r1 => ?_) hx
  refine sb σ H1 env L1 _ x _ (st.go g1 j1) h1 (fun o L2 vo H2 h2 g2 j2 r2 => ?_) (hx.go g1)
  split at h2
  · rename_i i C' ns ds hc
    obtain ⟨rfl, h2⟩ := h2
    obtain ⟨q, dx, vs, rfl, hq, hl, rv⟩ := con_obj j2 r2 hc
    cases r1
    exact ⟨i, q, dx, _, rfl, ⟨rfl, hq⟩, [o, .int i], L2, _, _, j2, .cons r2 (.cons (.int i) .nil), h2, fun d L3 v H3 h3 g3 j3 r3 => ⟨isObj_ref r3 h3.1, hk d L3 v H3 h3.2 ((g1.trans g2).trans g3) j3 r3⟩, fun n L' a H' z _ _ _ => z⟩
  · exact h2.elim
theorem un_negO {k : Nat} {f : Addr} {fd : FuncData} {C : Addr} {g : DSp} (F : FnOk X.prog X.w X.K X.mg X.base (L2.CX X.prog X.w) k f fd ["self"] (spD X.K g)) (hM : Meth X.K C "__neg__" f) (hr : Room k X.A) (hb : Binds X.K fd ["self"] []) :
    UnR X (unaryOp .USub) (fun x H Q => ∃ a dx fs, (x = .ref a ∧ H a = some (.ins C dx fs)) ∧ spD X.K g [.ref a] H Q (fun _ _ _ => False)) := fun pins s σ H x v Q I rx ⟨a, dx, fs, ⟨ea, hq⟩, h⟩ => by
  subst ea
  cases rx
  obtain ⟨m, fr⟩ := I.fr
  obtain ⟨mA, O, _⟩ := ins_get I.hok hq
  obtain ⟨od, J, _⟩ := O.look
  have hx : PassesAt (L2.CX X.prog X.w) X σ (fun _ _ _ => False) := fun _ _ _ _ _ _ z => by
    obtain ⟨_, _, _, _, _, _, _, _, _, _, _, _, z⟩ := z
    exact z.elim
  exact PySem.W.ksp_neg fr I.ok.mod.kin J hM.at_ hM.fn (run_fnS (us := [.ref a]) (vs := [.ref a]) (E := fun _ => fun _ _ _ => False) F hr hb hx I (.cons rfl .nil) h)
def dNegO (C : Addr) (g : DSp) (da : DE) : DE := fun env L k x => da env L (fun a L1 => match con L1 a with
  | .obj C' _ _ => C' = C ∧ g [a] L1 k (fun _ _ => False)
  | _ => False) x
theorem q_negO {n k : Nat} {C : Addr} {g : DSp} (F : MCal X.prog X.w X.K X.mg X.base n C "__neg__" ["self"] [] g) (hn : n ≤ k) (hr : Room k X.A) (ha : QE X Wx a da) : QE X Wx (.UnaryOp .USub a pos) (dNegO C g da) := by
  obtain ⟨f, fd, us, dvs, F, hC, hM, hbi, hd, hdd⟩ := F.ex
  obtain rfl : dvs = [] := by cases hdd [] (fun _ => none); rfl
  cases hd
  obtain ⟨ta, pa, sa⟩ := ha.ex
  refine ⟨_, pe_un (un_negO F hM (hr.mono hn) hbi) pa, fun σ H env L k x Q st h hk hx => ?_⟩
  refine sa σ H env L _ x _ st h (fun a L1 va H1 h1 g1 j1 r1 => ?_) hx
  split at h1
  · rename_i C' ns ds hc
    obtain ⟨rfl, h1⟩ := h1
    obtain ⟨q, dx, vs, rfl, hq, hl, rv⟩ := con_obj j1 r1 hc
    exact ⟨q, dx, _, ⟨rfl, hq⟩, [a], L1, _, _, j1, .cons r1 .nil, h1, fun d L3 v H3 h3 g3 j3 r3 => hk d L3 v H3 h3 (g1.trans g3) j3 r3, fun n L' a H' z _ _ _ => z⟩
  · exact h1.elim
end
end DL
namespace DL
open PySem PySem.Spec PyProof.Rows L2
section
variable {X : Cx} {Wx : WX} {kx vx : Expr} {dk dv : DE} {pos : Pos}
def tDisp1T (tk tv : TE) : TE := fun σ H Q => ∀ p, H p = none → tk σ (upd H p (.dT [])) fun y H1 => tv σ H1 fun z H2 => H2 p = some (.dT []) ∧ ∃ (k : List Key) (b : Addr), y = .ref b ∧ H2 b = some (.tup (k.map kV)) ∧ Q (.ref p) (upd H2 p (.dT [(k, z)]))
theorem pe_disp1T {tk tv : TE} (room : X.A.units < cLine) (hk : PE X kx tk) (hv : PE X vx tv) : PE X (.Dict [some kx] [vx] pos) (tDisp1T tk tv) := by
  refine ⟨fun pins s σ H Q I q => ?_⟩
  have hn := I.hok.fresh (Nat.le_refl s.heap.objs.size)
  have I1 := I.laid (a := s.heap.objs.size) (o := .dT []) (h' := s.heap.push { cls := .type "dict", data := .dict #[] }) (t' := s.toks) (fun _ _ q => Heap.get?_push_of_some _ q) (Nat.le_refl _) (dt_empty s.heap I.big)
  refine wpAny_Dict_any rfl rfl (by simp) (Nat.le_add_left 1 14) (thn ((pps_cons hk hv pps_nil).run pins _ σ _ (fun ps H2 => ∃ y z, ps = [(y, z)] ∧ H2 s.heap.objs.size = some (.dT []) ∧ ∃ (k : List Key) (b : Addr), y = .ref b ∧ H2 b = some (.tup (k.map kV)) ∧ Q (.ref s.heap.objs.size) (upd H2 s.heap.objs.size (.dT [(k, z)]))) I1 ?_) fun ws s2 ⟨ps, H2, I2, rel, y, z, ep, e, k, b, ey, hb, q2⟩ => ?_)
  · have q0 := q _ hn
    show tk σ _ fun y H1 => tv σ H1 fun z H2 => _
    refine cast ?_ q0
    congr 1
    funext y H1
    congr 1
    funext z H2
    refine propext ⟨fun h => ⟨y, z, rfl, h⟩, ?_⟩
    rintro ⟨y', z', e1, h⟩
    cases e1
    exact h
  · subst ep
    subst ey
    cases rel with
    | @cons _ w2 _ _ h t =>
    cases t
    obtain ⟨kv, vv⟩ := w2
    obtain ⟨r1, r2⟩ := h
    obtain rfl : kv = Value.ref b := r1
    unfold storeAll
    rw [List.forIn_cons]
    refine wpAny_bind (wpAny_bind (dcPut (es := []) room I2 e (by rw [sizeLine_eq]; exact Nat.succ_pos _) hb r2 fun s3 I3 => wpAny_pure ?_))
    show wpAny (model X.prog X.w) X.A (forIn ([] : List (Value × Value)) PUnit.unit _) _ X.xe s3
    rw [List.forIn_nil]
    exact wpAny_pure ⟨.ref _, _, I3, rfl, q2⟩
def dDisp1T (dk dv : DE) : DE := fun env L k x => ∀ p, ¬ inL L p → dk env ((p, .dt [] []) :: L) (fun y L1 => dv env L1 (fun z L2 => match keyT y with
  | some q => L2.lookup p = some (.dt [] []) ∧ k (.dt [q] [z]) (remL L2 p)
  | none => False) fun n env' L' => x n env' L') fun n env' L' => x n env' L'
theorem q_disp1T (hu : X.A.units + 64 < cLine) (hk : QE X Wx kx dk) (hv : QE X Wx vx dv) : QE X Wx (.Dict [some kx] [vx] pos) (dDisp1T dk dv) := by
  obtain ⟨tk, pk, sk⟩ := hk.ex
  obtain ⟨tv, pv, sv⟩ := hv.ex
  refine ⟨_, pe_disp1T (by omega) pk pv, fun σ H env L kk x Q st h hq hx p hp => ?_⟩
  obtain ⟨j2, g2⟩ := st.2.push (d := .dt [] []) hp (o := .dT []) ⟨[], upd_same, rfl, .nil⟩
  refine sk σ _ env _ _ _ _ (st.go g2 j2) (h p (st.2.notIn hp)) (fun y L1 vy H1 h1 g1 j1 r1 => ?_) (hx.go g2)
  refine sv σ H1 env L1 _ _ _ ((st.go g2 j2).go g1 j1) h1 (fun z L2 vz H2 h2 g3 j3 r2 => ?_) ((hx.go g2).go g1)
  split at h2
  · rename_i q hk1
    obtain ⟨hl, h2⟩ := h2
    obtain ⟨b, e1, nb, hb⟩ := keyT_of (r1.go g3) hk1
    subst e1
    obtain ⟨vs, e2, e3, _⟩ := j3.look hl
    have hin := inL_of_lookup hl
    have e2 : H2 p = some (.dT []) := by
      cases vs with
      | nil => exact e2
      | cons _ _ => cases e3
    refine ⟨e2, q, b, rfl, hb, ?_⟩
    have g4 : Go L2 (setL L2 p (.dt [q] [z])) H2 (upd H2 p (.dT [(q, vz)])) := go_set hin
    have j4 : JL X.K (setL L2 p (.dt [q] [z])) (upd H2 p (.dT [(q, vz)])) := j3.put hin ⟨[vz], upd_same, rfl, .cons (r2.go g4) .nil⟩
    have g5 : Go (setL L2 p (.dt [q] [z])) (remL (setL L2 p (.dt [q] [z])) p) (upd H2 p (.dT [(q, vz)])) (upd H2 p (.dT [(q, vz)])) := go_rem
    have j5 := j4.rem (p := p)
    rw [rem_set] at j5 g5
    exact hq _ _ _ _ h2 ((((g2.trans g1).trans g3).trans g4).trans g5) j5 (.dt (xs := [vz]) (fun m => (inL_remL.mp m).2 rfl) (.inl upd_same) rfl (.cons ((r2.go g4).go g5) .nil))
  · exact h2.elim
end
end DL
namespace DL
open PySem L2
section
variable {X : Cx} {Wx : WX} {a b c e o : Expr} {es rest : List Expr} {da db dc de do' di : DE} {dt du : DT} {dl dk : DA} {pos : Pos}
def gIsiX (K : PySem.W.Frag) (c : Ty) : G1 := fun a L k => match con L a with
  | .obj C' _ _ => ∃ b, (InsC K C' ∧ PySem.W.kitOne K (.ref C') (.type c.nm) = some b) ∧ k (.bl b)
  | d => match tyD d with
    | some t => k (.bl (isTy t c))
    | none => False
def gcIsiX (K : PySem.W.Frag) (c : Ty) : GC := fun ds L k => match ds with
  | [d, .ty n] => n = c.nm ∧ gIsiX K c d L k
  | _ => False
theorem cq_isiX {K : PySem.W.Frag} (hK : X.K = K) {c : Ty} (hc : c ≠ .non) : CQ X (.builtin "isinstance") (gcIsiX K c) := ⟨_, call_isi, fun H L vs ds k Q j r h hk => by
  subst hK
  unfold gcIsiX at h
  split at h
  · rename_i d n
    obtain ⟨rfl, h⟩ := h
    cases r with
    | cons r1 r2 => cases r2 with
      | cons r2 r3 =>
      cases r3
      cases r2
      unfold gIsiX at h
      split at h
      · rename_i hq
        obtain ⟨b, ⟨hI, hb⟩, h⟩ := h
        exact ⟨_, _, _, _, _, rfl, .ty _, tyX_obj j r1 hq hI, hb, hk _ _ H h (Same.refl H) (.bl _)⟩
      · split at h
        · rename_i t ht
          exact ⟨_, _, _, _, _, rfl, .ty _, tyX_con j r1 ht, kit_ty (kit_isTy t c hc), hk _ _ H h (Same.refl H) (.bl _)⟩
        · exact h.elim
  · exact h.elim⟩
theorem q_isiX {K : PySem.W.Frag} {p p2 : Pos} {T : Str} (hK : X.K = K) (c : Ty) (ha : QE X Wx e da) (hg : Gl X "isinstance") (hm : X.mg "isinstance" = none) (hgT : Gl X T) (hmT : X.mg T = none) (hv : bootBuiltins T = some (.type c.nm)) (hc : c ≠ .non := by decide)
    (hn : T ≠ "__name__" := by decide) (hd : (T == ("__debug__" : Str)) = false := by decide) (hs : starEach (e :: [.Name T p2]) X.env = (false, eval e X.env) :: starEach [.Name T p2] X.env := by rfl) (hv0 : bootBuiltins "isinstance" = some (.builtin "isinstance") := by decide +kernel) :
    QE X Wx (.Call (.Name "isinstance" p) [e, .Name T p2] [] pos) (dUn (gIsiX K c) da) := by
  refine (q_callB (g := gcIsiX K c) (cq_isiX hK hc) hg hm hv0 (a_cons ha (a_cons (q_bltn (v := .ty c.nm) (d := .ty c.nm) hgT hmT hv rfl (fun _ _ => .ty _) hn hd) a_nil (by rfl)) hs) (by decide) (by decide) hs (by rfl)).w ?_
  intro env L k x h
  exact (show dCB (gcIsiX K c) (dCons da (dCons (dC (.ty c.nm)) dNil)) env L k x from by
    unfold dCB dCons dC dNil
    unfold dUn at h
    refine cast ?_ h
    congr 1
    funext a L1
    show _ = (c.nm = c.nm ∧ _)
    simp)
end
end DL
namespace T06
open PySem L2 DL PO
structure Zn (w : World) (K : PySem.W.Frag) (mg : Str → Option Value) (cP : Addr) : Prop where
  z_isinstance : mg "isinstance" = none
  z_int : mg "int" = none
  z_bool : mg "bool" = none
  z_str : mg "str" = none
  z_list : mg "list" = none
  z_tuple : mg "tuple" = none
  z_len : mg "len" = none
  z_abs : mg "abs" = none
  z_all : mg "all" = none
  z_range : mg "range" = none
  z_zip : mg "zip" = none
  z_enumerate : mg "enumerate" = none
  z_sorted : mg "sorted" = none
  z_reversed : mg "reversed" = none
  z_repr : mg "repr" = none
  z_max : mg "max" = none
  g_gcd : mg "gcd" = some (.builtin "math.gcd")
  g_LETTERS : GlbD K mg "LETTERS" (.tup [.str "x", .str "y"])
  t_LETTERS : GTup K mg "LETTERS" ["x", "y"]
  c_P : Cls K cP
  n_P : ∀ f ∈ (["cells"] : List Str), NoAttr K cP f
end T06
namespace T06
open PySem L2 DL PO
def isIntS : DSp := fun ds L k _ => ∃ d, ds = [d] ∧ okT d = true ∧ k (.bl (isInt d)) L
def numS : DSp := fun ds L k _ => ∃ d lo hi, ds = [d, .int lo, .int hi] ∧ okT d = true ∧ k (.bl (numIn lo hi d)) L
/-- the greatest of them, -1 of none -/
structure Mx (ns : List Int) (m : Int) : Prop where
  nil : ns = [] → m = -1
  mem : ns ≠ [] → m ∈ ns
  le : ∀ y, y ∈ ns → y ≤ m
theorem Mx.one {ns : List Int} {m m2 : Int} (h : Mx ns m) (h1 : m2 ∈ ns) (h2 : ∀ y, y ∈ ns → y ≤ m2) : m = m2 := by
  have a := h2 m (h.mem fun e => by rw [e] at h1; cases h1)
  have b := h.le m2 h1
  omega
theorem mx_ex : ∀ ns : List Int, ∃ m, Mx ns m
  | [] => ⟨-1, fun _ => rfl, (fun h => absurd rfl h), (fun _ h => nomatch h)⟩
  | n :: r => by
    obtain ⟨m, hm⟩ := mx_ex r
    by_cases e : r = []
    · subst e
      exact ⟨n, (fun h => nomatch h), (fun _ => List.mem_cons_self), fun y hy => by rw [List.mem_singleton.mp hy]; exact Int.le_refl n⟩
    · by_cases z : n ≤ m
      · exact ⟨m, (fun h => nomatch h), (fun _ => List.mem_cons_of_mem _ (hm.mem e)), fun y hy => (List.mem_cons.mp hy).elim (fun q => by rw [q]; exact z) (hm.le y)⟩
      · exact ⟨n, (fun h => nomatch h), (fun _ => List.mem_cons_self), fun y hy => (List.mem_cons.mp hy).elim (fun q => by rw [q]; exact Int.le_refl n) fun q => by have := hm.le y q; omega⟩
def degS (C : Addr) : DSp := fun ds L k _ => ∃ es m, ds = [pD C es] ∧ es.length < 100000 ∧ Mx (es.map fun t => t.1 + t.2.1) m ∧ k (.int m) L
def dgInS (C : Addr) : DSp := fun ds L k _ => ∃ es, ∃ z : Str, ∃ m, ds = [pD C es, .str z] ∧ es.length < 100000 ∧ ((z = "x" ∧ Mx (es.map fun t => t.1) m) ∨ (z = "y" ∧ Mx (es.map fun t => t.2.1) m)) ∧ k (.int m) L
def oneP (t : T3) : List T3 := if t.2.2 = 0 then [] else [t]
theorem nk_one (t : T3) : NK [t] := by
  show [ky t].Nodup
  simp
theorem one_sel {t : T3} {qs : List (Int × Int)} (h : qs.Perm ((gat [t]).map ky)) : sel (gat [t]) qs = oneP t := by
  have g : gat [t] = [t] := gat_same (nk_one t)
  rw [g] at h ⊢
  obtain rfl : qs = [ky t] := List.perm_singleton.mp h
  have v : val [t] (ky t) = t.2.2 := by unfold val; rw [look_of (nk_one t) List.mem_cons_self]; rfl
  unfold sel oneP
  by_cases z : t.2.2 = 0
  · rw [List.filter_cons_of_neg (by rw [v, decide_eq_true_eq]; exact fun n => n z), if_pos z]
    rfl
  · rw [List.filter_cons_of_pos (by rw [v, decide_eq_true_eq]; exact z), if_neg z]
    show [((ky t).1, (ky t).2, val [t] (ky t))] = [t]
    rw [v]
def ltrS (C : Addr) : DSp := fun ds L k _ => ∃ z : Str, ds = [.str z] ∧ ((z = "x" ∧ k (pD C [(1, 0, 1)]) L) ∨ (z = "y" ∧ k (pD C [(0, 1, 1)]) L))
def lowestR : DSp := fun ds L k _ => ∃ t u : Int, ds = [.int t, .int u] ∧ u ≠ 0 ∧ u.natAbs < 2 ^ 1990 ∧ k (ratD ((t : Rat) / (u : Rat))) L
def addedS : DSp := fun ds L k _ => ∃ (a b : List T3) (s : Int), ds = [dtD a, dtD b, .int s] ∧ NK a ∧ a.length + b.length < 100000 ∧ s.natAbs < 2 ^ 63 ∧ k (dtD ((scl s b).foldl add1 a)) L
def multS : DSp := fun ds L k _ => ∃ a b : List T3, ds = [dtD a, dtD b] ∧ a.length * b.length < 100000 ∧ Sz (2 ^ 62) a ∧ k (dtD (gat (mulT a b))) L
def powersS : DSp := fun ds L k _ => ∃ (b : Int) (n : Nat), ds = [.int b, .int n] ∧ b.natAbs < 2 ^ 63 ∧ n < 1000 ∧ k (.lst (pwI b n)) L
/-- a point whose numbers' powers stay small -/
structure PntOk (M H F : Nat) (a b c d : Int) : Prop where
  b0 : b ≠ 0
  d0 : d ≠ 0
  m1 : 1 ≤ M
  la : a.natAbs ≤ M
  lb : b.natAbs ≤ M
  lc : c.natAbs ≤ M
  ld : d.natAbs ≤ M
  h : M ^ H < 2 ^ 63
  f : M ^ F < 2 ^ 63
  m63 : M < 2 ^ 63
  hH : H < 1000
  hF : F < 1000
def valS (C : Addr) : DSp := fun ds L k _ => ∃ (es : List T3) (a b c d : Int) (M H F : Nat), ds = [pD C es, .tup [.tup [.int a, .int b], .tup [.int c, .int d]]] ∧ PntOk M H F a b c d ∧ es.length < 100000 ∧ Pw2 H F es ∧ k (ratD (ev ((a : Rat) / b) ((c : Rat) / d) es)) L
/-- a right operand and its terms -/
def Rgt (K : PySem.W.Frag) (C : Addr) (o : D) (R : List T3) : Prop := (∃ n : Int, o = .int n ∧ R = [(0, 0, n)]) ∨ o = pD C R
def addO (K : PySem.W.Frag) (C : Addr) (s : Int) : DSp := fun ds L k _ => ∃ (a : List T3) (o : D) (R : List T3), ds = [pD C a, o] ∧ Rgt K C o R ∧ NK a ∧ a.length + R.length < 100000 ∧ ∀ es, Told (a ++ scl s R) es → k (pD C es) L
def mulO (K : PySem.W.Frag) (C : Addr) : DSp := fun ds L k _ => ∃ (a : List T3) (o : D) (R : List T3), ds = [pD C a, o] ∧ Rgt K C o R ∧ NK a ∧ a.length < 100000 ∧ a.length * R.length < 100000 ∧ Sz (2 ^ 62) a ∧ ∀ es, Told (mulT a R) es → k (pD C es) L
def raddO (C : Addr) : DSp := fun ds L k _ => ∃ (a : List T3) (n : Int), ds = [pD C a, .int n] ∧ NK a ∧ a.length < 1000 ∧ ∀ es, Told (a ++ scl 1 [(0, 0, n)]) es → k (pD C es) L
def rsubO (C : Addr) : DSp := fun ds L k _ => ∃ (a : List T3) (n : Int), ds = [pD C a, .int n] ∧ NK a ∧ a.length < 1000 ∧ ∀ es, Told (scl (-1) a ++ scl 1 [(0, 0, n)]) es → k (pD C es) L
def rmulO (C : Addr) : DSp := fun ds L k _ => ∃ (a : List T3) (n : Int), ds = [pD C a, .int n] ∧ NK a ∧ a.length < 1000 ∧ Sz (2 ^ 62) a ∧ ∀ es, Told (mulT a [(0, 0, n)]) es → k (pD C es) L
def negO (C : Addr) : DSp := fun ds L k _ => ∃ a : List T3, ds = [pD C a] ∧ NK a ∧ a.length < 100000 ∧ ∀ es, Told (scl (-1) a) es → k (pD C es) L
def powO (C : Addr) : DSp := fun ds L k _ => ∃ (a : List T3) (n : Nat), ds = [pD C a, .int n] ∧ n < 1000 ∧ (∀ (m : Nat) (es : List T3), m < n → Told (powP a m) es → es.length < 100000 ∧ es.length * a.length < 100000 ∧ Sz (2 ^ 62) es) ∧ ∀ es, Told (powP a n) es → k (pD C es) L
theorem mul_one (a : List T3) (n : Int) : mulT a [(0, 0, n)] = scl n a := by
  unfold mulT scl
  induction a with
  | nil => rfl
  | cons t a ih =>
    rw [List.flatMap_cons, ih]
    show [((t.1 + 0, t.2.1 + 0, t.2.2 * n) : T3)] ++ _ = (t.1, t.2.1, t.2.2 * n) :: _
    rw [Int.add_zero, Int.add_zero]
    rfl
theorem high_of {H : Nat} {ns : List Int} {m : Int} (hm : Mx ns m) (h : ∀ y ∈ ns, 0 ≤ y ∧ y ≤ H) : ∃ hi : Nat, (if (0 : Int) < m then m else 0) = hi ∧ hi ≤ H ∧ ∀ y ∈ ns, y ≤ hi := by
  by_cases e : ns = []
  · exact ⟨0, by rw [hm.nil e]; rfl, Nat.zero_le _, fun y hy => by rw [e] at hy; cases hy⟩
  · have := h m (hm.mem e)
    refine ⟨m.toNat, ?_, by omega, fun y hy => by have := hm.le y hy; omega⟩
    split <;> omega
/-- is_integer of a plain value or of a thing of an own class -/
def isIntE (K : PySem.W.Frag) (C : Addr) : DSp := fun ds L k x => ∃ d, ds = [d] ∧ ((okT d = true ∧ isInt d = true ∧ k (.bl true) L) ∨ (∃ ns vs, d = .obj C ns vs ∧ (InsC K C ∧ PySem.W.kitOne K (.ref C) (.type "int") = some false) ∧ k (.bl false) L))
section
variable {P : Program} {w : World} {K : PySem.W.Frag} {mg : Str → Option Value} {base : Heap} {cP : Addr}
local macro_rules | `(tactic| walk_at "w") => `(tactic| conv => whnf)
local macro_rules | `(tactic| walk_at "v") => `(tactic| ((conv => whnf); try dsimp only))
local macro_rules | `(tactic| walk_at "s") => `(tactic| ((conv => whnf); repeat ((first | refine ⟨sz_ok rfl, ?_⟩ | refine ⟨rfl, ?_⟩); conv => whnf)))
theorem scIsInteger : FnScope ["value"] ["value"] (defScope sIsInteger) := ⟨rfl, rfl, rfl, by decide +kernel, rfl, by decide +kernel, by decide +kernel⟩
theorem ok_IsInteger {f : Addr} {fd : FuncData} (Z : Zn w K mg cP) (F : Fun K "is_integer" "is_integer" sIsInteger f fd) : FnOk P w K mg base (L2.CX P w) 1 f fd ["value"] (spD K isIntS) := by
  refine fn_ok F scIsInteger ?len (fun cdv A outer s H E hr => ?_)
  rotate_left
  · have tk := takes_of (X := cxOf (L2.CX P w) P w K mg base ["value"] "is_integer" (defScope sIsInteger) f cdv A outer s H E) (E := E) rfl rfl rfl rfl
    have hp := passes_of (X := cxOf (L2.CX P w) P w K mg base ["value"] "is_integer" (defScope sIsInteger) f cdv A outer s H E) rfl
    refine ⟨_, (ss_one (s_ret (q_and (q_isiX (K := K) rfl .int (qv 0) (by rfl) Z.z_isinstance (by rfl) Z.z_int bb_int) (q_one (q_not (q_isiX (K := K) rfl .bl (qv 0) (by rfl) Z.z_isinstance (by rfl) Z.z_bool bb_bool)))))), ?_⟩
    clear tk hp
    rintro ds L k x ⟨d, rfl, h1, h⟩
    cases d <;> first | exact h | cases h1
  · rintro ds L k x ⟨d, rfl, _⟩; rfl
theorem ok_IsIntegerE {f : Addr} {fd : FuncData} (Z : Zn w K mg cP) (F : Fun K "is_integer" "is_integer" sIsInteger f fd) : FnOk P w K mg base (L2.CX P w) 1 f fd ["value"] (spD K (isIntE K cP)) := by
  refine fn_ok F scIsInteger ?len (fun cdv A outer s H E hr => ?_)
  rotate_left
  · have tk := takes_of (X := cxOf (L2.CX P w) P w K mg base ["value"] "is_integer" (defScope sIsInteger) f cdv A outer s H E) (E := E) rfl rfl rfl rfl
    have hp := passes_of (X := cxOf (L2.CX P w) P w K mg base ["value"] "is_integer" (defScope sIsInteger) f cdv A outer s H E) rfl
    refine ⟨_, (ss_one (s_ret (q_and (q_isiX (K := K) rfl .int (qv 0) (by rfl) Z.z_isinstance (by rfl) Z.z_int bb_int) (q_one (q_not (q_isiX (K := K) rfl .bl (qv 0) (by rfl) Z.z_isinstance (by rfl) Z.z_bool bb_bool)))))), ?_⟩
    clear tk hp
    rintro ds L k x ⟨d, rfl, h⟩
    rcases h with ⟨h1, h2, h⟩ | ⟨ns, vs, rfl, hc, h⟩
    · cases d <;> first | (cases h2; done) | exact h
    · walk_at "w"
      exact ⟨false, hc, h⟩
  · rintro ds L k x ⟨d, rfl, _⟩; rfl
theorem scIsNumber : FnScope ["value", "least", "most"] ["value", "least", "most"] (defScope sIsNumber) := ⟨rfl, rfl, rfl, by decide +kernel, rfl, by decide +kernel, by decide +kernel⟩
theorem ok_IsNumber {f : Addr} {fd : FuncData} (Z : Zn w K mg cP) (F : Fun K "is_number" "is_number" sIsNumber f fd) (CIsInteger : Cal P w K mg base 1 "is_integer" ["value"] [] isIntS) : FnOk P w K mg base (L2.CX P w) 2 f fd ["value", "least", "most"] (spD K numS) := by
  refine fn_ok F scIsNumber ?len (fun cdv A outer s H E hr => ?_)
  rotate_left
  · have tk := takes_of (X := cxOf (L2.CX P w) P w K mg base ["value", "least", "most"] "is_number" (defScope sIsNumber) f cdv A outer s H E) (E := E) rfl rfl rfl rfl
    have hp := passes_of (X := cxOf (L2.CX P w) P w K mg base ["value", "least", "most"] "is_number" (defScope sIsNumber) f cdv A outer s H E) rfl
    refine ⟨_, (ss_one (s_ret (q_and (q_cal CIsInteger (by first | decide | exact Nat.le_refl _ | omega) hr tk (by rfl) (a_cons (qv 0) a_nil)) (q_one (q_chain oq_le oq_le (qv 1) (qv 0) (qv 2)))))), ?_⟩
    clear tk hp
    rintro ds L k x ⟨d, lo, hi, rfl, h1, h⟩
    walk_at "w"
    refine ⟨d, rfl, h1, ?_⟩
    cases d <;> first | cases h1; done | skip
    all_goals walk_at "v"
    all_goals first | exact h | skip
    rename_i i
    cases hl : decide (lo ≤ i) with
    | true =>
      have h : k (.bl (decide (lo ≤ i) && decide (i ≤ hi))) L := h
      rw [hl] at h
      exact h
    | false =>
      have h : k (.bl (decide (lo ≤ i) && decide (i ≤ hi))) L := h
      rw [hl] at h
      exact h
  · rintro ds L k x ⟨d, lo, hi, rfl, _⟩; rfl
theorem scCheckLetter : FnScope ["letter"] ["letter"] (defScope sCheckLetter) := ⟨rfl, rfl, rfl, by decide +kernel, rfl, by decide +kernel, by decide +kernel⟩
theorem ok_CheckLetter {f : Addr} {fd : FuncData} (Z : Zn w K mg cP) (F : Fun K "check_letter" "check_letter" sCheckLetter f fd) : FnOk P w K mg base (L2.CX P w) 1 f fd ["letter"] (spD K cLetS) := by
  refine fn_ok F scCheckLetter ?len (fun cdv A outer s H E hr => ?_)
  rotate_left
  · have tk := takes_of (X := cxOf (L2.CX P w) P w K mg base ["letter"] "check_letter" (defScope sCheckLetter) f cdv A outer s H E) (E := E) rfl rfl rfl rfl
    have hp := passes_of (X := cxOf (L2.CX P w) P w K mg base ["letter"] "check_letter" (defScope sCheckLetter) f cdv A outer s H E) rfl
    refine ⟨_, (ss_one (s_if (w_or (t_not (t_val (q_isi .str (qv 0) (by rfl) Z.z_isinstance (by rfl) Z.z_str bb_str))) (w_or1 (t_cmp oq_notInQ (qv 0) (q_globD Z.g_LETTERS (by rfl))))).t (ss_one s_never) ss_nil)), ?_⟩
    clear tk hp
    rintro ds L k x ⟨z, rfl, hz, h⟩
    rcases hz with rfl | rfl
    · walk_at "w"
      exact h
    · walk_at "w"
      exact h
  · rintro ds L k x ⟨z, rfl, _⟩; rfl
theorem scCheckTerms : FnScope ["terms", "most", "at", "term"] ["terms", "most"] (defScope sCheckTerms) := ⟨rfl, rfl, rfl, by decide +kernel, rfl, by decide +kernel, by decide +kernel⟩
theorem ok_CheckTerms {f : Addr} {fd : FuncData} (Z : Zn w K mg cP) (F : Fun K "check_terms" "check_terms" sCheckTerms f fd) (CIsNumber : Cal P w K mg base 2 "is_number" ["value", "least", "most"] [] numS) (CIsInteger : Cal P w K mg base 1 "is_integer" ["value"] [] isIntS) : FnOk P w K mg base (L2.CX P w) 3 f fd ["terms", "most"] (spD K cTermsS) := by
  refine fn_ok F scCheckTerms ?len (fun cdv A outer s H E hr => ?_)
  rotate_left
  · have tk := takes_of (X := cxOf (L2.CX P w) P w K mg base ["terms", "most", "at", "term"] "check_terms" (defScope sCheckTerms) f cdv A outer s H E) (E := E) rfl rfl rfl rfl
    have hp := passes_of (X := cxOf (L2.CX P w) P w K mg base ["terms", "most", "at", "term"] "check_terms" (defScope sCheckTerms) f cdv A outer s H E) rfl
    refine ⟨_, (ss_cons (s_if (t_not (t_val (q_isi2 .lst .tup (qv 0) (by rfl) Z.z_isinstance (by rfl) Z.z_list bb_list (by rfl) Z.z_tuple bb_tuple))) (ss_one s_never) ss_nil)
  (ss_one (s_for hp rfl (i_or (i_enum (by rfl) Z.z_enumerate (a_cons (qv 0) a_nil)) (i_enumT (by rfl) Z.z_enumerate (a_cons (qv 0) a_nil))) (g_tup (n := 2) rfl (gs_cons (g_name 2 scCheckTerms.nd) (gs_cons (g_name 3 scCheckTerms.nd) gs_nil))) (ss_cons (s_if (w_or (t_not (t_val (q_isi .tup (qv 3) (by rfl) Z.z_isinstance (by rfl) Z.z_tuple bb_tuple))) (w_or1 (t_cmp (oq_neU hr.units) (q_callB cq_len (by rfl) Z.z_len bb_len (a_cons (qv 3) a_nil)) q_int))).t (ss_one s_never) ss_nil)
  (ss_one (s_if (w_or (t_not (t_val (q_cal CIsNumber (by first | decide | exact Nat.le_refl _ | omega) hr tk (by rfl) (a_cons (q_ix (qv 3) q_int) (a_cons q_int (a_cons (qv 1) a_nil)))))) (w_or (t_not (t_val (q_cal CIsNumber (by first | decide | exact Nat.le_refl _ | omega) hr tk (by rfl) (a_cons (q_ix (qv 3) q_int) (a_cons q_int (a_cons (qv 1) a_nil)))))) (w_or1 (t_not (t_val (q_cal CIsInteger (by first | decide | exact Nat.le_refl _ | omega) hr tk (by rfl) (a_cons (q_ix (qv 3) q_int) a_nil))))))).t (ss_one s_never) ss_nil)))))), ?_⟩
    clear tk hp
    rintro ds L k x ⟨T, ts, rfl, hT, hp, hn, h⟩
    have loop : ∀ (En : DEnds) (db : DS), (∀ o3 o4, En.nx [some T, some (.int 20), o3, o4] L) →
        (∀ (E' : DEnds) (a : Nat) (t : T3), t ∈ ts → (E'.nx [some T, some (.int 20), some (.int a), some (tD t)] L) → db E' [some T, some (.int 20), some (.int a), some (tD t)] L) →
        ∀ (us : List T3) (a : Nat) (o3 o4 : Option D), (∀ t ∈ us, t ∈ ts) → forD (dgTup 2 (dgCons (dgName 2) (dgCons (dgName 3) dgNil))) db En (enumD a (us.map tD)) [some T, some (.int 20), o3, o4] L := by
      intro En db hf hb us
      induction us with
      | nil =>
        intro a o3 o4 _
        show forD _ _ _ [] _ _
        rw [forD_nil]
        exact hf o3 o4
      | cons t us ih =>
        intro a o3 o4 hs
        show forD _ _ _ (.tup [.int a, tD t] :: enumD (a + 1) (us.map tD)) _ _
        rw [forD_cons]
        exact ⟨rfl, hb _ a t (hs t List.mem_cons_self) (ih (a + 1) _ _ fun u hu => hs u (List.mem_cons_of_mem _ hu))⟩
    have num : ∀ i : Int, 0 ≤ i → i ≤ 20 → numIn 0 20 (.int i) = true := fun i h0 h1 => by
      show (decide (0 ≤ i) && decide (i ≤ 20)) = true
      rw [decide_eq_true h0, decide_eq_true h1]
      rfl
    have turn : ∀ (E' : DEnds) (a : Nat) (t : T3), t ∈ ts → (E'.nx [some T, some (.int 20), some (.int a), some (tD t)] L) → (dSeq
      (dIfS
        (dTOr (dTNot (dB (dUn (gIsi Ty.tup) (dVar 3)))) (dB (dOp gNeU (dCB gLen (dCons (dVar 3) dNil)) (dC (D.int 3)))))
        dNever dNext)
      (dIfS
        (dTOr
          (dTNot
            (dB (dCall numS [] (dCons (dOp gIx (dVar 3) (dC (D.int 0))) (dCons (dC (D.int 0)) (dCons (dVar 1) dNil))))))
          (dTOr
            (dTNot
              (dB
                (dCall numS [] (dCons (dOp gIx (dVar 3) (dC (D.int 1))) (dCons (dC (D.int 0)) (dCons (dVar 1) dNil))))))
            (dTNot (dB (dCall isIntS [] (dCons (dOp gIx (dVar 3) (dC (D.int 2))) dNil))))))
        dNever dNext)) E' [some T, some (.int 20), some (.int a), some (tD t)] L := by
      intro E' a t ht hE
      obtain ⟨⟨a0, a1⟩, b0, b1⟩ := hp t ht
      walk_at "w"
      refine ⟨.int t.1, 0, 20, rfl, rfl, ?_⟩
      rw [num _ a0 a1]
      walk_at "w"
      refine ⟨.int t.2.1, 0, 20, rfl, rfl, ?_⟩
      rw [num _ b0 b1]
      walk_at "w"
      exact ⟨.int t.2.2, rfl, rfl, hE⟩
    rcases hT with rfl | rfl
    · walk_at "w"
      refine .inl ?_
      walk_at "w"
      refine loop _ _ (fun o3 o4 => ?_) (fun E' a t ht hE => ?_) ts 0 none none (fun _ h => h)
      · walk_at "w"
        exact h
      · exact turn E' a t ht hE
    · walk_at "w"
      refine .inr ?_
      walk_at "w"
      refine loop _ _ (fun o3 o4 => ?_) (fun E' a t ht hE => ?_) ts 0 none none (fun _ h => h)
      · walk_at "w"
        exact h
      · exact turn E' a t ht hE
  · rintro ds L k x ⟨T, ts, rfl, _⟩; rfl
theorem scLowest : FnScope ["top", "bottom", "divisor"] ["top", "bottom"] (defScope sLowest) := ⟨rfl, rfl, rfl, by decide +kernel, rfl, by decide +kernel, by decide +kernel⟩
theorem ok_Lowest {f : Addr} {fd : FuncData} (Z : Zn w K mg cP) (F : Fun K "lowest" "lowest" sLowest f fd) : FnOk P w K mg base (L2.CX P w) 1 f fd ["top", "bottom"] (spD K lowestR) := by
  refine fn_ok F scLowest ?len (fun cdv A outer s H E hr => ?_)
  rotate_left
  · have tk := takes_of (X := cxOf (L2.CX P w) P w K mg base ["top", "bottom", "divisor"] "lowest" (defScope sLowest) f cdv A outer s H E) (E := E) rfl rfl rfl rfl
    have hp := passes_of (X := cxOf (L2.CX P w) P w K mg base ["top", "bottom", "divisor"] "lowest" (defScope sLowest) f cdv A outer s H E) rfl
    refine ⟨_, (ss_cons (s_set 2 scLowest.nd (q_callF cq_gcd (by rfl) Z.g_gcd (a_cons (qv 0) (a_cons (qv 1) a_nil))))
  (ss_cons (s_if (t_cmp oq_lt (qv 1) q_int) (ss_one (s_set 2 scLowest.nd (q_neg (qv 2)))) ss_nil)
  (ss_one (s_ret (q_tup (a_cons (q_op oq_fdiv (qv 0) (qv 2)) (a_cons (q_op oq_fdiv (qv 1) (qv 2)) a_nil))))))), ?_⟩
    clear tk hp
    rintro ds L k x ⟨t, u, rfl, hu, hz, h⟩
    rw [← low_ratD hu] at h
    have g0 : gcdI t u ≠ 0 := Int.ne_of_gt (gcdI_pos hu)
    have g1 : (gcdI t u).natAbs.log2 < 9000 := by
      have g2 := gcdI_le (a := t) hu
      have g3 := gcdI_nonneg t u
      have g4 : (gcdI t u).natAbs < 2 ^ 1990 := by omega
      by_cases hg : (gcdI t u).natAbs = 0
      · omega
      · exact Nat.lt_trans ((Nat.log2_lt hg).mpr g4) (by decide)
    have h : k (.tup [.int (t.fdiv (if u < 0 then 0 - gcdI t u else gcdI t u)), .int (u.fdiv (if u < 0 then 0 - gcdI t u else gcdI t u))]) L := h
    walk_at "v"
    cases h1 : decide (u < 0) with
    | true =>
      rw [if_pos (of_decide_eq_true h1), Int.zero_sub] at h
      walk_at "w"
      refine ⟨⟨(by show -(gcdI t u) ≠ 0; omega), (by show (-(gcdI t u)).natAbs.log2 < 9000; rw [Int.natAbs_neg]; exact g1)⟩, ?_⟩
      walk_at "w"
      refine ⟨⟨(by show -(gcdI t u) ≠ 0; omega), (by show (-(gcdI t u)).natAbs.log2 < 9000; rw [Int.natAbs_neg]; exact g1)⟩, ?_⟩
      exact ⟨sz_ok rfl, h⟩
    | false =>
      rw [if_neg (of_decide_eq_false h1)] at h
      walk_at "w"
      refine ⟨⟨g0, g1⟩, ?_⟩
      walk_at "w"
      refine ⟨⟨g0, g1⟩, ?_⟩
      exact ⟨sz_ok rfl, h⟩
  · rintro ds L k x ⟨t, u, rfl, _⟩; rfl
theorem scAdded : FnScope ["one", "other", "times", "cells", "key", "value"] ["one", "other", "times"] (defScope sAdded) := ⟨rfl, rfl, rfl, by decide +kernel, rfl, by decide +kernel, by decide +kernel⟩
theorem ok_Added {f : Addr} {fd : FuncData} (Z : Zn w K mg cP) (F : Fun K "added" "added" sAdded f fd) : FnOk P w K mg base (L2.CX P w) 1 f fd ["one", "other", "times"] (spD K addedS) := by
  refine fn_ok F scAdded ?len (fun cdv A outer s H E hr => ?_)
  rotate_left
  · have tk := takes_of (X := cxOf (L2.CX P w) P w K mg base ["one", "other", "times", "cells", "key", "value"] "added" (defScope sAdded) f cdv A outer s H E) (E := E) rfl rfl rfl rfl
    have hp := passes_of (X := cxOf (L2.CX P w) P w K mg base ["one", "other", "times", "cells", "key", "value"] "added" (defScope sAdded) f cdv A outer s H E) rfl
    refine ⟨_, (ss_cons (s_set 3 scAdded.nd q_dnewT)
  (ss_cons (s_for hp rfl (i_itemsT (qv 0)) (g_tup (n := 2) rfl (gs_cons (g_name 4 scAdded.nd) (gs_cons (g_name 5 scAdded.nd) gs_nil))) (ss_one (s_storeT hr.units (qv 5) (qv 3) (qv 4))))
  (ss_cons (s_sealT 3 (s_for hp rfl (i_itemsT (qv 1)) (g_tup (n := 2) rfl (gs_cons (g_name 4 scAdded.nd) (gs_cons (g_name 5 scAdded.nd) gs_nil))) (ss_one (s_storeT hr.units (q_op oq_add (q_getT hr.units (qv 3) (qv 4) q_int) (q_op oq_mulU (qv 2) (qv 5))) (qv 3) (qv 4)))))
  (ss_one (s_ret (qv 3)))))), ?_⟩
    clear tk hp
    rintro ds L k x ⟨a, b, s, rfl, nk, hz, hs, h⟩
    walk_at "w"
    intro q hq
    refine forD_as (itms_es a) (forD_rec (fun r env L2 => ∃ (us es : List T3) (o4 o5 : Option D), r = (us.map fun t => D.tup [.kt (kk (ky t)), .int t.2.2]) ∧ env = [some (dtD a), some (dtD b), some (.int s), some (.ptr q), o4, o5] ∧ L2 = (q, dtD es) :: L ∧ es ++ us = a) ?step ?fin _ _ _ ⟨a, [], none, none, rfl, rfl, rfl, rfl⟩)
    case step =>
      rintro E' d r env L2 _ _ _ _ ⟨us, es, o4, o5, hr, rfl, rfl, e⟩ hnx
      cases us with
      | nil => cases hr
      | cons u us =>
        cases hr
        walk_at "w"
        refine ⟨rfl, ?_⟩
        walk_at "w"
        rw [lookup_top]
        walk_at "w"
        have hl : es.length + (us.length + 1) = a.length := by rw [← e, List.length_append, List.length_cons]
        have hlt : (ksD es).length < sizeLine := by
          rw [List.length_map]
          exact Nat.lt_of_lt_of_le (show es.length < 100000 by omega) (by decide)
        refine ⟨hlt, ?_⟩
        rw [setL_top hq]
        refine hnx _ _ ⟨us, es ++ [u], _, _, rfl, rfl, ?_, by rw [List.append_assoc]; exact e⟩
        show (q, D.dt (putGk (kk (ky u)) (ksD es)) (putGv (kk (ky u)) (D.int u.2.2) (ksD es) (vsD es))) :: L = _
        have nw : put es (ky u) u.2.2 = es ++ [u] := put_new (nk_app (by rw [e]; exact nk)) _
        rw [putk_d es (ky u) u.2.2, putv_d, nw]
    case fin =>
      rintro env L2 ⟨us, es, o4, o5, hr, rfl, rfl, e⟩
      cases us with
      | cons _ _ => cases hr
      | nil =>
        rw [List.append_nil] at e
        subst e
        walk_at "w"
        refine forD_as (itms_es b) (forD_rec (fun r env L2 => ∃ (us fs : List T3) (o4 o5 : Option D), r = (us.map fun t => D.tup [.kt (kk (ky t)), .int t.2.2]) ∧ env = [some (dtD es), some (dtD b), some (.int s), some (.ptr q), o4, o5] ∧ L2 = (q, dtD fs) :: L ∧ (scl s us).foldl add1 fs = (scl s b).foldl add1 es ∧ fs.length + us.length ≤ es.length + b.length) ?step2 ?fin2 _ _ _ ⟨b, es, _, _, rfl, rfl, rfl, rfl, Nat.le_refl _⟩)
        case fin2 =>
          rintro env L2 ⟨us, fs, o4, o5, hr, rfl, rfl, e, _⟩
          cases us with
          | cons _ _ => cases hr
          | nil =>
            have e : fs = (scl s b).foldl add1 es := e
            walk_at "w"
            rw [lookup_top]
            walk_at "w"
            rw [remL_top hq, e]
            exact h
        case step2 =>
          rintro E' d r env L2 _ _ _ _ ⟨us, fs, o4, o5, hr, rfl, rfl, e, hl⟩ hnx
          cases us with
          | nil => cases hr
          | cons u us =>
            cases hr
            rw [List.length_cons] at hl
            walk_at "w"
            refine ⟨rfl, ?_⟩
            walk_at "w"
            rw [con_ptr lookup_top]
            walk_at "w"
            refine ⟨trivial, ?_⟩
            walk_at "w"
            rw [con_ptr lookup_top]
            walk_at "w"
            have e0 : (lookG (ksD fs) (vsD fs) (kk (ky u))).getD (D.int 0) = .int ((look fs (ky u)).getD 0) := by
              rw [look_d]
              cases look fs (ky u) <;> rfl
            rw [e0]
            walk_at "w"
            refine ⟨.inl (.inl hs), ?_⟩
            walk_at "w"
            rw [lookup_top]
            walk_at "w"
            have hlt : (ksD fs).length < sizeLine := by
              rw [List.length_map]
              exact Nat.lt_of_lt_of_le (show fs.length < 100000 by omega) (by decide)
            refine ⟨hlt, ?_⟩
            rw [setL_top hq]
            refine hnx _ _ ⟨us, add1 fs (u.1, u.2.1, u.2.2 * s), _, _, rfl, rfl, ?_, e, ?_⟩
            · show (q, D.dt (putGk (kk (ky u)) (ksD fs)) (putGv (kk (ky u)) (D.int ((look fs (ky u)).getD 0 + s * u.2.2)) (ksD fs) (vsD fs))) :: L = _
              rw [putk_d fs (ky u) ((look fs (ky u)).getD 0 + s * u.2.2), putv_d, Int.mul_comm s]
              rfl
            · have : (add1 fs (u.1, u.2.1, u.2.2 * s)).length ≤ fs.length + 1 := put_len fs (ky u) ((look fs (ky u)).getD 0 + u.2.2 * s)
              omega
  · rintro ds L k x ⟨a, b, s, rfl, _⟩; rfl
theorem scMultiplied : FnScope ["one", "other", "cells", "i", "j", "value", "k", "m", "factor", "key"] ["one", "other"] (defScope sMultiplied) := ⟨rfl, rfl, rfl, by decide +kernel, rfl, by decide +kernel, by decide +kernel⟩
theorem ok_Multiplied {f : Addr} {fd : FuncData} (Z : Zn w K mg cP) (F : Fun K "multiplied" "multiplied" sMultiplied f fd) : FnOk P w K mg base (L2.CX P w) 1 f fd ["one", "other"] (spD K multS) := by
  refine fn_ok F scMultiplied ?len (fun cdv A outer s H E hr => ?_)
  rotate_left
  · have tk := takes_of (X := cxOf (L2.CX P w) P w K mg base ["one", "other", "cells", "i", "j", "value", "k", "m", "factor", "key"] "multiplied" (defScope sMultiplied) f cdv A outer s H E) (E := E) rfl rfl rfl rfl
    have hp := passes_of (X := cxOf (L2.CX P w) P w K mg base ["one", "other", "cells", "i", "j", "value", "k", "m", "factor", "key"] "multiplied" (defScope sMultiplied) f cdv A outer s H E) rfl
    refine ⟨_, (ss_cons (s_set 2 scMultiplied.nd q_dnewT)
  (ss_cons (s_sealT 2 (s_for hp rfl (i_itemsT (qv 0)) (g_tup (n := 2) rfl (gs_cons (g_kt (n := 2) rfl (gs_cons (g_name 3 scMultiplied.nd) (gs_cons (g_name 4 scMultiplied.nd) gs_nil))) (gs_cons (g_name 5 scMultiplied.nd) gs_nil))) (ss_one (s_for hp rfl (i_itemsT (qv 1)) (g_tup (n := 2) rfl (gs_cons (g_kt (n := 2) rfl (gs_cons (g_name 6 scMultiplied.nd) (gs_cons (g_name 7 scMultiplied.nd) gs_nil))) (gs_cons (g_name 8 scMultiplied.nd) gs_nil))) (ss_cons (s_set 9 scMultiplied.nd (q_kt (a_cons (q_op oq_add (qv 3) (qv 6)) (a_cons (q_op oq_add (qv 4) (qv 7)) a_nil))))
  (ss_one (s_storeT hr.units (q_op oq_add (q_getT hr.units (qv 2) (qv 9) q_int) (q_op oq_mulU (qv 5) (qv 8))) (qv 2) (qv 9))))))))
  (ss_one (s_ret (qv 2))))), ?_⟩
    clear tk hp
    rintro ds L k x ⟨a, b, rfl, hz, hs, h⟩
    walk_at "w"
    intro q hq
    refine forD_as (itms_es a) (forD_rec (fun r env L2 => ∃ (us es : List T3) (o3 o4 o5 o6 o7 o8 o9 : Option D), r = (us.map fun t => D.tup [.kt (kk (ky t)), .int t.2.2]) ∧ env = [some (dtD a), some (dtD b), some (.ptr q), o3, o4, o5, o6, o7, o8, o9] ∧ L2 = (q, dtD es) :: L ∧ (mulT us b).foldl add1 es = gat (mulT a b) ∧ es.length + us.length * b.length ≤ a.length * b.length ∧ ∀ t ∈ us, t ∈ a) ?step ?fin _ _ _ ⟨a, [], none, none, none, none, none, none, none, rfl, rfl, rfl, rfl, by show 0 + _ ≤ _; omega, fun t ht => ht⟩)
    case fin =>
      rintro env L2 ⟨us, es, o3, o4, o5, o6, o7, o8, o9, hr, rfl, rfl, e, _⟩
      cases us with
      | cons _ _ => cases hr
      | nil =>
        have e : es = gat (mulT a b) := e
        walk_at "w"
        rw [lookup_top]
        walk_at "w"
        rw [remL_top hq, e]
        exact h
    case step =>
      rintro E' d r env L2 _ _ _ _ ⟨us, es, o3, o4, o5, o6, o7, o8, o9, hr, rfl, rfl, e, hl, hm⟩ hnx
      cases us with
      | nil => cases hr
      | cons u us =>
        cases hr
        rw [List.length_cons, Nat.succ_mul] at hl
        walk_at "w"
        refine ⟨rfl, ?_⟩
        walk_at "w"
        refine ⟨rfl, ?_⟩
        walk_at "w"
        refine forD_as (itms_es b) (forD_rec (fun r env L2 => ∃ (ws es : List T3) (o6 o7 o8 o9 : Option D), r = (ws.map fun t => D.tup [.kt (kk (ky t)), .int t.2.2]) ∧ env = [some (dtD a), some (dtD b), some (.ptr q), some (.int u.1), some (.int u.2.1), some (.int u.2.2), o6, o7, o8, o9] ∧ L2 = (q, dtD es) :: L ∧ ((ws.map fun w => ((u.1 + w.1, u.2.1 + w.2.1, u.2.2 * w.2.2) : T3)) ++ mulT us b).foldl add1 es = gat (mulT a b) ∧ es.length + ws.length + us.length * b.length ≤ a.length * b.length) ?step2 ?fin2 _ _ _ ⟨b, es, _, _, _, _, rfl, rfl, rfl, e, by omega⟩)
        case fin2 =>
          rintro env L2 ⟨ws, es, o6, o7, o8, o9, hr, rfl, rfl, e, hl2⟩
          cases ws with
          | cons _ _ => cases hr
          | nil =>
            exact hnx _ _ ⟨us, es, _, _, _, _, _, _, _, rfl, rfl, rfl, e, by rw [List.length_nil] at hl2; omega, fun t ht => hm t (List.mem_cons_of_mem _ ht)⟩
        case step2 =>
          rintro E2 d2 r2 env L2 _ _ _ _ ⟨ws, es, o6, o7, o8, o9, hr, rfl, rfl, e, hl2⟩ hn2
          cases ws with
          | nil => cases hr
          | cons v ws =>
            cases hr
            rw [List.length_cons] at hl2
            walk_at "w"
            refine ⟨rfl, ?_⟩
            walk_at "w"
            refine ⟨rfl, ?_⟩
            walk_at "w"
            refine ⟨sz_ok rfl, ?_⟩
            walk_at "w"
            rw [con_ptr lookup_top]
            walk_at "w"
            refine ⟨trivial, ?_⟩
            walk_at "w"
            rw [con_ptr lookup_top]
            walk_at "w"
            have e0 : (lookG (ksD es) (vsD es) [Sum.inl (u.1 + v.1), Sum.inl (u.2.1 + v.2.1)]).getD (D.int 0) = .int ((look es (u.1 + v.1, u.2.1 + v.2.1)).getD 0) := by
              rw [show ([Sum.inl (u.1 + v.1), Sum.inl (u.2.1 + v.2.1)] : List Key) = kk (u.1 + v.1, u.2.1 + v.2.1) from rfl, look_d]
              cases look es (u.1 + v.1, u.2.1 + v.2.1) <;> rfl
            rw [e0]
            walk_at "w"
            refine ⟨.inl (.inl (Nat.lt_of_le_of_lt (hs u (hm u List.mem_cons_self)) (by decide))), ?_⟩
            walk_at "w"
            rw [lookup_top]
            walk_at "w"
            have hlt : (ksD es).length < sizeLine := by
              rw [List.length_map]
              exact Nat.lt_of_lt_of_le (show es.length < 100000 by omega) (by decide)
            refine ⟨hlt, ?_⟩
            rw [setL_top hq]
            refine hn2 _ _ ⟨ws, add1 es (u.1 + v.1, u.2.1 + v.2.1, u.2.2 * v.2.2), _, _, _, _, rfl, rfl, ?_, e, ?_⟩
            · show (q, D.dt (putGk (kk (u.1 + v.1, u.2.1 + v.2.1)) (ksD es)) (putGv (kk (u.1 + v.1, u.2.1 + v.2.1)) (D.int ((look es (u.1 + v.1, u.2.1 + v.2.1)).getD 0 + u.2.2 * v.2.2)) (ksD es) (vsD es))) :: L = _
              rw [putk_d es (u.1 + v.1, u.2.1 + v.2.1) ((look es (u.1 + v.1, u.2.1 + v.2.1)).getD 0 + u.2.2 * v.2.2), putv_d]
              rfl
            · have : (add1 es (u.1 + v.1, u.2.1 + v.2.1, u.2.2 * v.2.2)).length ≤ es.length + 1 := put_len _ _ _
              omega
  · rintro ds L k x ⟨a, b, rfl, _⟩; rfl
theorem scPowers : FnScope ["base", "most", "found", "_"] ["base", "most"] (defScope sPowers) := ⟨rfl, rfl, rfl, by decide +kernel, rfl, by decide +kernel, by decide +kernel⟩
theorem ok_Powers {f : Addr} {fd : FuncData} (Z : Zn w K mg cP) (F : Fun K "powers" "powers" sPowers f fd) : FnOk P w K mg base (L2.CX P w) 1 f fd ["base", "most"] (spD K powersS) := by
  refine fn_ok F scPowers ?len (fun cdv A outer s H E hr => ?_)
  rotate_left
  · have tk := takes_of (X := cxOf (L2.CX P w) P w K mg base ["base", "most", "found", "_"] "powers" (defScope sPowers) f cdv A outer s H E) (E := E) rfl rfl rfl rfl
    have hp := passes_of (X := cxOf (L2.CX P w) P w K mg base ["base", "most", "found", "_"] "powers" (defScope sPowers) f cdv A outer s H E) rfl
    refine ⟨_, (ss_cons (s_set 2 scPowers.nd (q_lstM (a_cons q_int a_nil)))
  (ss_cons (s_sealA 2 (s_for hp rfl (i_range1 (by rfl) Z.z_range (a_cons (qv 1) a_nil)) (g_name 3 scPowers.nd) (ss_one (s_expr (q_append (qv 2) (q_op oq_mulU (q_ix (qv 2) (q_neg q_int)) (qv 0)))))))
  (ss_one (s_ret (qv 2))))), ?_⟩
    clear tk hp
    rintro ds L k x ⟨b, n, rfl, hb, hn, h⟩
    walk_at "w"
    refine ⟨sz_ok rfl, fun q hq => ?_⟩
    walk_at "w"
    refine ⟨⟨by omega, by omega⟩, ?_⟩
    walk_at "w"
    refine forD_rec (fun rr env L' => ∃ (m : Nat) (o3 : Option D), env = [some (.int b), some (.int n), some (.ptr q), o3] ∧ L' = (q, .lst (pwI b m)) :: L ∧ m + rr.length = n) ?step ?fin _ _ _ ⟨0, none, rfl, by rw [show pwI b 0 = [.int 1] from by unfold pwI; simp], by rw [rngD_len]; omega⟩
    case fin =>
      rintro env L' ⟨m, o3, rfl, rfl, e⟩
      have e : m = n := e
      subst e
      walk_at "w"
      rw [lookup_top]
      walk_at "w"
      rw [remL_top hq]
      exact h
    case step =>
      rintro E' d rr env L' _ _ _ _ ⟨m, o3, rfl, rfl, e⟩ hnx
      rw [List.length_cons] at e
      walk_at "w"
      rw [lookup_top]
      walk_at "w"
      rw [con_ptr lookup_top]
      walk_at "w"
      rw [pwI_last]
      walk_at "w"
      refine ⟨.inl (.inr hb), ?_⟩
      walk_at "w"
      rw [lookup_top]
      refine ⟨by rw [pwI_len]; exact Nat.lt_of_lt_of_le (show m + 1 < 2000 by omega) (by decide), ?_⟩
      rw [setL_top hq, pwI_succ]
      exact hnx _ _ ⟨m + 1, _, rfl, rfl, by omega⟩
  · rintro ds L k x ⟨b, n, rfl, _⟩; rfl
end
end T06
namespace T06
open PySem L2 DL PO
section
variable {P : Program} {w : World} {K : PySem.W.Frag} {mg : Str → Option Value} {base : Heap} {cP : Addr}
local macro_rules | `(tactic| walk_at "w") => `(tactic| conv => whnf)
local macro_rules | `(tactic| walk_at "v") => `(tactic| ((conv => whnf); try dsimp only))
local macro_rules | `(tactic| walk_at "s") => `(tactic| ((conv => whnf); repeat ((first | refine ⟨sz_ok rfl, ?_⟩ | refine ⟨rfl, ?_⟩); conv => whnf)))
theorem scPolyInit : FnScope ["self", "terms", "most", "cells", "i", "j", "value", "key"] ["self", "terms", "most"] (defScope sPolyInit) := ⟨rfl, rfl, rfl, by decide +kernel, rfl, by decide +kernel, by decide +kernel⟩
theorem ok_PolyInit {f : Addr} {fd : FuncData} (Z : Zn w K mg cP) {dvs : List V} {kws : List (Str × V)} (F : FunF K "__init__" "Poly.__init__" sPolyInit dvs kws f fd) (CCheckTerms : Cal P w K mg base 3 "check_terms" ["terms", "most"] [] cTermsS) : FnOk P w K mg base (L2.CX P w) 4 f fd ["self", "terms", "most"] (spD K (initS cP)) := by
  refine fn_okF F scPolyInit ?len (fun cdv A outer s H E hr => ?_)
  rotate_left
  · have tk := takes_of (X := cxOf (L2.CX P w) P w K mg base ["self", "terms", "most", "cells", "i", "j", "value", "key"] "Poly.__init__" (defScope sPolyInit) f cdv A outer s H E) (E := E) rfl rfl rfl rfl
    have hp := passes_of (X := cxOf (L2.CX P w) P w K mg base ["self", "terms", "most", "cells", "i", "j", "value", "key"] "Poly.__init__" (defScope sPolyInit) f cdv A outer s H E) rfl
    refine ⟨_, (ss_cut (s_if (t_cmp oq_notN (qv 2) q_non) (ss_one (s_expr (q_cal CCheckTerms (by first | decide | exact Nat.le_refl _ | omega) hr tk (by rfl) (a_cons (qv 1) (a_cons (qv 2) a_nil))))) ss_nil)
  (ss_cons (s_set 3 scPolyInit.nd q_dnewT)
  (ss_cons (s_sealT 3 (s_for hp rfl (i_or (i_list (qv 1)) (i_tup (qv 1))) (g_tup (n := 3) rfl (gs_cons (g_name 4 scPolyInit.nd) (gs_cons (g_name 5 scPolyInit.nd) (gs_cons (g_name 6 scPolyInit.nd) gs_nil)))) (ss_one (s_storeT hr.units (q_op oq_add (q_getT hr.units (qv 3) (q_kt (a_cons (qv 4) (a_cons (qv 5) a_nil))) q_int) (qv 6)) (qv 3) (q_kt (a_cons (qv 4) (a_cons (qv 5) a_nil)))))))
  (ss_one (s_fld (K := K) rfl (q_dcT hr.units rfl scPolyInit.nd (i_list (q_callB cq_sortP (by rfl) Z.z_sorted bb_sorted (a_cons (q_callTy (cq_listT rfl) (by rfl) Z.z_list bb_list (a_cons (qv 3) a_nil)) a_nil))) (blkOk_by (own := [("key", 7)]) (N := ["self", "terms", "most", "cells", "i", "j", "value", "key"]) (sc := (defScope sPolyInit)) (by decide +kernel)) (fun _ _ _ _ _ => (g_name 7 scPolyInit.nd)) (fun _ _ _ _ _ => (ts_one (t_cmp (oq_neU hr.units) (q_ixT hr.units (qv 3) (qv 7)) q_int))) (fun _ _ _ _ _ => (qv 7)) (fun _ _ _ _ _ => (q_ixT hr.units (qv 3) (qv 7)))) (qv 0)))))), ?_⟩
    clear tk hp
    rintro ds L k x ⟨p, T, m, ts, rfl, hl, hT, hm, hn, h⟩
    refine ⟨fun env' L' => env' = [some (.ptr p), some T, some m, none, none, none, none, none] ∧ L' = L, ?_, ?_⟩
    · rcases hm with rfl | ⟨rfl, h20⟩
      · walk_at "w"
        exact ⟨rfl, rfl⟩
      · walk_at "w"
        exact ⟨T, ts, rfl, hT, h20, hn, rfl, rfl⟩
    · rintro env' L' ⟨rfl, rfl⟩
      walk_at "w"
      intro q hq
      have nq : p ≠ q := fun e => hq (e ▸ inL_of_lookup hl)
      have loop : ∀ (En : DEnds), (∀ o4 o5 o6, En.nx [some (.ptr p), some T, some m, some (.ptr q), o4, o5, o6, none] ((q, dtD (gat ts)) :: L')) →
          forD (dgTup 3 (dgCons (dgName 4) (dgCons (dgName 5) (dgCons (dgName 6) dgNil))))
            (dStoreT (dOp gAdd (dGetT (dVar 3) (dKt (dCons (dVar 4) (dCons (dVar 5) dNil))) (dC (D.int 0))) (dVar 6)) (dVar 3) (dKt (dCons (dVar 4) (dCons (dVar 5) dNil))))
            En (ts.map tD) [some (.ptr p), some T, some m, some (.ptr q), none, none, none, none] ((q, dtD []) :: L') := by
        intro En hf
        refine forD_rec (fun r env L2 => ∃ (us es : List T3) (o4 o5 o6 : Option D), r = us.map tD ∧ env = [some (.ptr p), some T, some m, some (.ptr q), o4, o5, o6, none] ∧ L2 = (q, dtD es) :: L' ∧ us.foldl add1 es = gat ts ∧ es.length + us.length ≤ ts.length) ?step ?fin (ts.map tD) _ _ ⟨ts, [], none, none, none, rfl, rfl, rfl, rfl, by show 0 + _ ≤ _; omega⟩
        case fin =>
          rintro env L2 ⟨us, es, o4, o5, o6, hr, rfl, rfl, e, hz⟩
          cases us with
          | cons _ _ => cases hr
          | nil =>
            have e : es = gat ts := e
            rw [e]
            exact hf o4 o5 o6
        case step =>
          rintro E' d r env L2 _ _ _ _ ⟨us, es, o4, o5, o6, hr, rfl, rfl, e, hz⟩ hnx
          cases us with
          | nil => cases hr
          | cons u us =>
            cases hr
            walk_at "w"
            refine ⟨rfl, ?_⟩
            walk_at "w"
            rw [con_ptr lookup_top]
            walk_at "w"
            refine ⟨trivial, ?_⟩
            walk_at "w"
            refine ⟨sz_ok rfl, ?_⟩
            walk_at "w"
            rw [con_ptr lookup_top]
            walk_at "w"
            have e0 : (lookG (ksD es) (vsD es) [Sum.inl u.1, Sum.inl u.2.1]).getD (D.int 0) = .int ((look es (ky u)).getD 0) := by
              rw [show ([Sum.inl u.1, Sum.inl u.2.1] : List Key) = kk (ky u) from rfl, look_d]
              cases look es (ky u) <;> rfl
            rw [e0]
            walk_at "w"
            refine ⟨sz_ok rfl, ?_⟩
            walk_at "w"
            rw [lookup_top]
            walk_at "w"
            have hlt : (ksD es).length < sizeLine := by
              rw [List.length_map]
              rw [List.length_cons] at hz
              exact Nat.lt_of_lt_of_le (show es.length < 100000 by omega) (by decide)
            refine ⟨hlt, ?_⟩
            rw [setL_top hq]
            refine hnx _ _ ⟨us, add1 es u, _, _, _, rfl, rfl, ?_, e, ?_⟩
            · show (q, D.dt (putGk (kk (ky u)) (ksD es)) (putGv (kk (ky u)) (D.int ((look es (ky u)).getD 0 + u.2.2)) (ksD es) (vsD es))) :: L' = _
              rw [putk_d es (ky u) ((look es (ky u)).getD 0 + u.2.2), putv_d]
              rfl
            · have := put_len es (ky u) ((look es (ky u)).getD 0 + u.2.2)
              rw [List.length_cons] at hz
              have : (add1 es u).length ≤ es.length + 1 := this
              omega
      rcases hT with rfl | rfl
      · walk_at "w"
        refine .inl ?_
        walk_at "w"
        refine loop _ fun o4 o5 o6 => ?_
        walk_at "w"
        rw [lookup_top]
        walk_at "w"
        rw [remL_top hq]
        rw [keys_pairs, pairsT_map]
        intro qs hp ha
        walk_at "w"
        intro q2 hq2
        refine dcT_pick pairT (fun q => (q.1, q.2, val (gat ts) q)) (fun q => decide (val (gat ts) q ≠ 0)) hq2 qs [] ?_ (sel_nk (gat_nk ts) hp ha) (fun q0 hq0 c N F hT hF => ?_) ?_
        · have := hp.length_eq
          rw [List.length_map] at this
          have := gat_len ts
          show 0 + _ ≤ _
          omega
        · have e0 : lookG (ksD (gat ts)) (vsD (gat ts)) [Sum.inl q0.1, Sum.inl q0.2] = some (.int (val (gat ts) q0)) := look_val (hp.mem_iff.mp hq0)
          walk_at "w"
          rw [e0]
          walk_at "w"
          by_cases z : val (gat ts) q0 = 0
          · rw [show flEq (D.int (val (gat ts) q0)) (D.int 0) = true from decide_eq_true z]
            exact hF (by simp [z])
          · rw [show flEq (D.int (val (gat ts) q0)) (D.int 0) = false from decide_eq_false z]
            walk_at "w"
            rw [e0]
            exact hT (by simp [z])
        · walk_at "w"
          rw [hl]
          walk_at "w"
          refine ⟨⟨Z.c_P, Z.n_P _ (by decide), by decide⟩, ?_⟩
          exact h qs hp ha
      · walk_at "w"
        refine .inr ?_
        walk_at "w"
        refine loop _ fun o4 o5 o6 => ?_
        walk_at "w"
        rw [lookup_top]
        walk_at "w"
        rw [remL_top hq]
        rw [keys_pairs, pairsT_map]
        intro qs hp ha
        walk_at "w"
        intro q2 hq2
        refine dcT_pick pairT (fun q => (q.1, q.2, val (gat ts) q)) (fun q => decide (val (gat ts) q ≠ 0)) hq2 qs [] ?_ (sel_nk (gat_nk ts) hp ha) (fun q0 hq0 c N F hT hF => ?_) ?_
        · have := hp.length_eq
          rw [List.length_map] at this
          have := gat_len ts
          show 0 + _ ≤ _
          omega
        · have e0 : lookG (ksD (gat ts)) (vsD (gat ts)) [Sum.inl q0.1, Sum.inl q0.2] = some (.int (val (gat ts) q0)) := look_val (hp.mem_iff.mp hq0)
          walk_at "w"
          rw [e0]
          walk_at "w"
          by_cases z : val (gat ts) q0 = 0
          · rw [show flEq (D.int (val (gat ts) q0)) (D.int 0) = true from decide_eq_true z]
            exact hF (by simp [z])
          · rw [show flEq (D.int (val (gat ts) q0)) (D.int 0) = false from decide_eq_false z]
            walk_at "w"
            rw [e0]
            exact hT (by simp [z])
        · walk_at "w"
          rw [hl]
          walk_at "w"
          refine ⟨⟨Z.c_P, Z.n_P _ (by decide), by decide⟩, ?_⟩
          exact h qs hp ha
  · rintro ds L k x ⟨p, T, m, ts, rfl, _⟩; rfl
theorem scMadeOf : FnScope ["cells", "key"] ["cells"] (defScope sMadeOf) := ⟨rfl, rfl, rfl, by decide +kernel, rfl, by decide +kernel, by decide +kernel⟩
theorem ok_MadeOf {f : Addr} {fd : FuncData} (Z : Zn w K mg cP) (F : Fun K "made_of" "made_of" sMadeOf f fd) (N_Poly_1_most : KCalN P w K mg base 4 "Poly" cP 1 ["most"] [] (fun a b _ => a ++ b) (initS cP)) : FnOk P w K mg base (L2.CX P w) 6 f fd ["cells"] (spD K (madeS cP)) := by
  refine fn_ok F scMadeOf ?len (fun cdv A outer s H E hr => ?_)
  rotate_left
  · have tk := takes_of (X := cxOf (L2.CX P w) P w K mg base ["cells", "key"] "made_of" (defScope sMadeOf) f cdv A outer s H E) (E := E) rfl rfl rfl rfl
    have hp := passes_of (X := cxOf (L2.CX P w) P w K mg base ["cells", "key"] "made_of" (defScope sMadeOf) f cdv A outer s H E) rfl
    refine ⟨_, (ss_one (s_ret (q_sealE (q_makeN N_Poly_1_most (by first | decide | exact Nat.le_refl _ | omega) hr tk (by rfl) (a_cons (q_lc rfl scMadeOf.nd (i_list (q_callTy (cq_listT rfl) (by rfl) Z.z_list bb_list (a_cons (qv 0) a_nil))) (blkOk_by (own := [("key", 1)]) (N := ["cells", "key"]) (sc := (defScope sMadeOf)) (by decide +kernel)) (fun _ _ _ _ _ => (g_name 1 scMadeOf.nd)) (fun _ _ _ _ _ => ts_nil) (fun _ _ _ _ _ => (q_tup (a_cons (q_ix (qv 1) q_int) (a_cons (q_ix (qv 1) q_int) (a_cons (q_ixT hr.units (qv 0) (qv 1)) a_nil)))))) a_nil) (k_cons q_non k_nil))))), ?_⟩
    clear tk hp
    rintro ds L k x ⟨es, rfl, nk, hn, h⟩
    walk_at "w"
    intro q hq
    refine lcD_as (keys_es es) (lcD_each (fun t => .kt (kk (ky t))) tD hq es (by omega) (fun t ht acc F KK hK => ?_) ?_)
    · walk_at "w"
      rw [show lookG (ksD es) (vsD es) [Sum.inl t.1, Sum.inl t.2.1] = some (.int t.2.2) from look_term nk ht]
      walk_at "w"
      exact ⟨sz_ok rfl, hK⟩
    · walk_at "w"
      refine ⟨rfl, rfl, fun q2 hq2 => ?_⟩
      refine ⟨q2, .lst (es.map tD), .non, es, rfl, lookup_top, .inl rfl, .inl rfl, hn, fun qs hp ha => ⟨rfl, ?_⟩⟩
      rw [gat_same nk] at hp ⊢
      rw [setL_top hq2]
      walk_at "w"
      rw [lookup_top]
      walk_at "w"
      rw [remL_top hq2]
      exact h qs hp ha
  · rintro ds L k x ⟨es, rfl, _⟩; rfl
theorem scPolyDegree : FnScope ["self", "i", "j"] ["self"] (defScope sPolyDegree) := ⟨rfl, rfl, rfl, by decide +kernel, rfl, by decide +kernel, by decide +kernel⟩
theorem ok_PolyDegree {f : Addr} {fd : FuncData} (Z : Zn w K mg cP) (F : Fun K "degree" "Poly.degree" sPolyDegree f fd) : FnOk P w K mg base (L2.CX P w) 1 f fd ["self"] (spD K (degS cP)) := by
  refine fn_ok F scPolyDegree ?len (fun cdv A outer s H E hr => ?_)
  rotate_left
  · have tk := takes_of (X := cxOf (L2.CX P w) P w K mg base ["self", "i", "j"] "Poly.degree" (defScope sPolyDegree) f cdv A outer s H E) (E := E) rfl rfl rfl rfl
    have hp := passes_of (X := cxOf (L2.CX P w) P w K mg base ["self", "i", "j"] "Poly.degree" (defScope sPolyDegree) f cdv A outer s H E) rfl
    refine ⟨_, (ss_one (s_ret (q_maxDf rfl hr.units (by rfl) Z.z_max (a_cons (q_lc rfl scPolyDegree.nd (i_list (q_callTy (cq_listT rfl) (by rfl) Z.z_list bb_list (a_cons (q_fld (K := K) rfl (qv 0)) a_nil))) (blkOk_by (own := [("i", 1), ("j", 2)]) (N := ["self", "i", "j"]) (sc := (defScope sPolyDegree)) (by decide +kernel)) (fun _ _ _ _ _ => (g_kt (n := 2) rfl (gs_cons (g_name 1 scPolyDegree.nd) (gs_cons (g_name 2 scPolyDegree.nd) gs_nil)))) (fun _ _ _ _ _ => ts_nil) (fun _ _ _ _ _ => (q_op oq_add (qv 1) (qv 2)))) a_nil) (k_cons (q_neg q_int) k_nil)))), ?_⟩
    clear tk hp
    rintro ds L k x ⟨es, m, rfl, hn, hm, h⟩
    walk_at "w"
    refine ⟨⟨Z.c_P, Z.n_P _ (by decide)⟩, ?_⟩
    walk_at "w"
    intro q hq
    refine lcD_as (keys_es es) (lcD_each (fun t => .kt (kk (ky t))) (fun t => .int (t.1 + t.2.1)) hq es (by omega) (fun t ht acc F KK hK => ?_) ?_)
    · walk_at "w"
      exact ⟨rfl, hK⟩
    · walk_at "w"
      refine ⟨es.map fun t => t.1 + t.2.1, by rw [List.map_map]; rfl, fun e => ?_, fun m2 h1 h2 => ?_⟩
      · rw [hm.nil e] at h
        exact h
      · rw [hm.one h1 h2] at h
        exact h
  · rintro ds L k x ⟨es, m, rfl, _⟩; rfl
theorem scPolyDegreeIn : FnScope ["self", "letter", "at", "key"] ["self", "letter"] (defScope sPolyDegreeIn) := ⟨rfl, rfl, rfl, by decide +kernel, rfl, by decide +kernel, by decide +kernel⟩
theorem ok_PolyDegreeIn {f : Addr} {fd : FuncData} (Z : Zn w K mg cP) (F : Fun K "degree_in" "Poly.degree_in" sPolyDegreeIn f fd) (CCheckLetter : Cal P w K mg base 1 "check_letter" ["letter"] [] cLetS) : FnOk P w K mg base (L2.CX P w) 2 f fd ["self", "letter"] (spD K (dgInS cP)) := by
  refine fn_ok F scPolyDegreeIn ?len (fun cdv A outer s H E hr => ?_)
  rotate_left
  · have tk := takes_of (X := cxOf (L2.CX P w) P w K mg base ["self", "letter", "at", "key"] "Poly.degree_in" (defScope sPolyDegreeIn) f cdv A outer s H E) (E := E) rfl rfl rfl rfl
    have hp := passes_of (X := cxOf (L2.CX P w) P w K mg base ["self", "letter", "at", "key"] "Poly.degree_in" (defScope sPolyDegreeIn) f cdv A outer s H E) rfl
    refine ⟨_, (ss_cons (s_expr (q_cal CCheckLetter (by first | decide | exact Nat.le_refl _ | omega) hr tk (by rfl) (a_cons (qv 1) a_nil)))
  (ss_cut (s_set 2 scPolyDegreeIn.nd (q_indexG Z.t_LETTERS (by rfl) (qv 1)))
  (ss_one (s_ret (q_maxDf rfl hr.units (by rfl) Z.z_max (a_cons (q_lc rfl scPolyDegreeIn.nd (i_list (q_callTy (cq_listT rfl) (by rfl) Z.z_list bb_list (a_cons (q_fld (K := K) rfl (qv 0)) a_nil))) (blkOk_by (own := [("key", 3)]) (N := ["self", "letter", "at", "key"]) (sc := (defScope sPolyDegreeIn)) (by decide +kernel)) (fun _ _ _ _ _ => (g_name 3 scPolyDegreeIn.nd)) (fun _ _ _ _ _ => ts_nil) (fun _ _ _ _ _ => (q_ix (qv 3) (qv 2)))) a_nil) (k_cons (q_neg q_int) k_nil)))))), ?_⟩
    clear tk hp
    rintro ds L k x ⟨es, z, m, rfl, hn, hz, h⟩
    walk_at "w"
    refine ⟨z, rfl, hz.elim (fun e => .inl e.1) (fun e => .inr e.1), ?_⟩
    rcases hz with ⟨rfl, hm⟩ | ⟨rfl, hm⟩
    · walk_at "w"
      refine ⟨fun env' L' => env' = [some (pD cP es), some (.str "x"), some (.int 0), none] ∧ L' = L, ?_, ?_⟩
      · walk_at "w"
        refine ⟨0, rfl, fun m hm => ?_, ?_⟩
        · exact absurd hm (Nat.not_lt_zero _)
        walk_at "w"
        exact ⟨rfl, rfl⟩
      · rintro env' L' ⟨rfl, rfl⟩
        walk_at "w"
        refine ⟨⟨Z.c_P, Z.n_P _ (by decide)⟩, ?_⟩
        walk_at "w"
        intro q hq
        refine lcD_as (keys_es es) (lcD_each (fun t => .kt (kk (ky t))) (fun t => .int t.1) hq es (by omega) (fun t ht acc F KK hK => ?_) ?_)
        · walk_at "w"
          exact hK
        · walk_at "w"
          refine ⟨es.map fun t => t.1, by rw [List.map_map]; rfl, fun e => ?_, fun m2 h1 h2 => ?_⟩
          · rw [hm.nil e] at h
            exact h
          · rw [hm.one h1 h2] at h
            exact h
    · walk_at "w"
      refine ⟨fun env' L' => env' = [some (pD cP es), some (.str "y"), some (.int 1), none] ∧ L' = L, ?_, ?_⟩
      · walk_at "w"
        refine ⟨1, rfl, fun m hm => ?_, ?_⟩
        · obtain rfl : m = 0 := by omega
          decide +kernel
        walk_at "w"
        exact ⟨rfl, rfl⟩
      · rintro env' L' ⟨rfl, rfl⟩
        walk_at "w"
        refine ⟨⟨Z.c_P, Z.n_P _ (by decide)⟩, ?_⟩
        walk_at "w"
        intro q hq
        refine lcD_as (keys_es es) (lcD_each (fun t => .kt (kk (ky t))) (fun t => .int t.2.1) hq es (by omega) (fun t ht acc F KK hK => ?_) ?_)
        · walk_at "w"
          exact hK
        · walk_at "w"
          refine ⟨es.map fun t => t.2.1, by rw [List.map_map]; rfl, fun e => ?_, fun m2 h1 h2 => ?_⟩
          · rw [hm.nil e] at h
            exact h
          · rw [hm.one h1 h2] at h
            exact h
  · rintro ds L k x ⟨es, z, m, rfl, _⟩; rfl
theorem scPolyLetter : FnScope ["name"] ["name"] (defScope sPolyLetter) := ⟨rfl, rfl, rfl, by decide +kernel, rfl, by decide +kernel, by decide +kernel⟩
theorem ok_PolyLetter {f : Addr} {fd : FuncData} (Z : Zn w K mg cP) (F : Fun K "letter" "Poly.letter" sPolyLetter f fd) (CCheckLetter : Cal P w K mg base 1 "check_letter" ["letter"] [] cLetS) (K_Poly : KCal P w K mg base 4 "Poly" cP ["self", "terms", "most"] [.int 20] (initS cP)) : FnOk P w K mg base (L2.CX P w) 6 f fd ["name"] (spD K (ltrS cP)) := by
  refine fn_ok F scPolyLetter ?len (fun cdv A outer s H E hr => ?_)
  rotate_left
  · have tk := takes_of (X := cxOf (L2.CX P w) P w K mg base ["name"] "Poly.letter" (defScope sPolyLetter) f cdv A outer s H E) (E := E) rfl rfl rfl rfl
    have hp := passes_of (X := cxOf (L2.CX P w) P w K mg base ["name"] "Poly.letter" (defScope sPolyLetter) f cdv A outer s H E) rfl
    refine ⟨_, (ss_cons (s_expr (q_cal CCheckLetter (by first | decide | exact Nat.le_refl _ | omega) hr tk (by rfl) (a_cons (qv 0) a_nil)))
  (ss_one (s_ret (q_if (t_cmp (oq_eqU hr.units) (qv 0) q_str) (q_makeD K_Poly (by first | decide | exact Nat.le_refl _ | omega) hr tk (by rfl) (a_cons (q_lst (a_cons (q_tup (a_cons q_int (a_cons q_int (a_cons q_int a_nil)))) a_nil)) a_nil)) (q_makeD K_Poly (by first | decide | exact Nat.le_refl _ | omega) hr tk (by rfl) (a_cons (q_lst (a_cons (q_tup (a_cons q_int (a_cons q_int (a_cons q_int a_nil)))) a_nil)) a_nil)))))), ?_⟩
    clear tk hp
    rintro ds L k x ⟨z, rfl, h⟩
    walk_at "w"
    refine ⟨z, rfl, h.elim (fun e => .inl e.1) (fun e => .inr e.1), ?_⟩
    rcases h with ⟨rfl, h⟩ | ⟨rfl, h⟩
    · walk_at "w"
      refine ⟨sz_ok rfl, ?_⟩
      walk_at "w"
      refine ⟨sz_ok rfl, ?_⟩
      walk_at "w"
      intro q2 hq2
      refine ⟨q2, .lst [tD (1, 0, 1)], .int 20, [(1, 0, 1)], rfl, lookup_top, .inl rfl, .inr ⟨rfl, fun t ht => by rw [List.mem_singleton.mp ht]; decide⟩, by decide, fun qs hp ha => ⟨rfl, ?_⟩⟩
      rw [one_sel hp]
      rw [setL_top hq2, lookup_top]
      walk_at "w"
      rw [remL_top hq2]
      exact h
    · walk_at "w"
      refine ⟨sz_ok rfl, ?_⟩
      walk_at "w"
      refine ⟨sz_ok rfl, ?_⟩
      walk_at "w"
      intro q2 hq2
      refine ⟨q2, .lst [tD (0, 1, 1)], .int 20, [(0, 1, 1)], rfl, lookup_top, .inl rfl, .inr ⟨rfl, fun t ht => by rw [List.mem_singleton.mp ht]; decide⟩, by decide, fun qs hp ha => ⟨rfl, ?_⟩⟩
      rw [one_sel hp]
      rw [setL_top hq2, lookup_top]
      walk_at "w"
      rw [remL_top hq2]
      exact h
  · rintro ds L k x ⟨z, rfl, _⟩; rfl
theorem scPolyTerms : FnScope ["self", "i", "j", "value"] ["self"] (defScope sPolyTerms) := ⟨rfl, rfl, rfl, by decide +kernel, rfl, by decide +kernel, by decide +kernel⟩
theorem ok_PolyTerms {f : Addr} {fd : FuncData} (Z : Zn w K mg cP) (F : Fun K "terms" "Poly.terms" sPolyTerms f fd) : FnOk P w K mg base (L2.CX P w) 1 f fd ["self"] (spD K (tellS cP)) := by
  refine fn_ok F scPolyTerms ?len (fun cdv A outer s H E hr => ?_)
  rotate_left
  · have tk := takes_of (X := cxOf (L2.CX P w) P w K mg base ["self", "i", "j", "value"] "Poly.terms" (defScope sPolyTerms) f cdv A outer s H E) (E := E) rfl rfl rfl rfl
    have hp := passes_of (X := cxOf (L2.CX P w) P w K mg base ["self", "i", "j", "value"] "Poly.terms" (defScope sPolyTerms) f cdv A outer s H E) rfl
    refine ⟨_, (ss_one (s_ret (q_lc rfl scPolyTerms.nd (i_itemsT (q_fld (K := K) rfl (qv 0))) (blkOk_by (own := [("i", 1), ("j", 2), ("value", 3)]) (N := ["self", "i", "j", "value"]) (sc := (defScope sPolyTerms)) (by decide +kernel)) (fun _ _ _ _ _ => (g_tup (n := 2) rfl (gs_cons (g_kt (n := 2) rfl (gs_cons (g_name 1 scPolyTerms.nd) (gs_cons (g_name 2 scPolyTerms.nd) gs_nil))) (gs_cons (g_name 3 scPolyTerms.nd) gs_nil)))) (fun _ _ _ _ _ => ts_nil) (fun _ _ _ _ _ => (q_tup (a_cons (qv 1) (a_cons (qv 2) (a_cons (qv 3) a_nil)))))))), ?_⟩
    clear tk hp
    rintro ds L k x ⟨es, rfl, hn, h⟩
    walk_at "w"
    refine ⟨⟨Z.c_P, Z.n_P _ (by decide)⟩, ?_⟩
    walk_at "w"
    intro q hq
    refine lcD_as (itms_es es) (lcD_each (fun t => .tup [.kt (kk (ky t)), .int t.2.2]) tD hq es (by omega) (fun t ht acc F KK hK => ?_) ?_)
    · walk_at "w"
      refine ⟨rfl, ?_⟩
      walk_at "w"
      refine ⟨rfl, ?_⟩
      walk_at "w"
      exact ⟨sz_ok rfl, hK⟩
    · exact h
  · rintro ds L k x ⟨es, rfl, _⟩; rfl
theorem scPolyEq : FnScope ["self", "other"] ["self", "other"] (defScope sPolyEq) := ⟨rfl, rfl, rfl, by decide +kernel, rfl, by decide +kernel, by decide +kernel⟩
theorem ok_PolyEq {f : Addr} {fd : FuncData} (Z : Zn w K mg cP) (F : Fun K "__eq__" "Poly.__eq__" sPolyEq f fd) (n_Poly : mg "Poly" = some (.ref cP)) (IB : InsC K cP) (kB : PySem.W.kitOne K (.ref cP) (.ref cP) = some true) : FnOk P w K mg base (L2.CX P w) 1 f fd ["self", "other"] (spD K (eqS cP)) := by
  refine fn_ok F scPolyEq ?len (fun cdv A outer s H E hr => ?_)
  rotate_left
  · have tk := takes_of (X := cxOf (L2.CX P w) P w K mg base ["self", "other"] "Poly.__eq__" (defScope sPolyEq) f cdv A outer s H E) (E := E) rfl rfl rfl rfl
    have hp := passes_of (X := cxOf (L2.CX P w) P w K mg base ["self", "other"] "Poly.__eq__" (defScope sPolyEq) f cdv A outer s H E) rfl
    refine ⟨_, (ss_one (s_ret (q_and (q_isC (K := K) rfl (qv 1) n_Poly (by rfl) Z.z_isinstance (by rfl)) (q_one (q_cmp (oq_eqT hr.units) (q_fld (K := K) rfl (qv 0)) (q_fld (K := K) rfl (qv 1))))))), ?_⟩
    clear tk hp
    rintro ds L k x ⟨es, fs, rfl, h⟩
    walk_at "w"
    refine ⟨true, ⟨IB, kB⟩, ?_⟩
    walk_at "w"
    refine ⟨⟨Z.c_P, Z.n_P _ (by decide)⟩, ?_⟩
    walk_at "w"
    refine ⟨⟨Z.c_P, Z.n_P _ (by decide)⟩, ?_⟩
    walk_at "w"
    rw [ints_vs, ints_vs]
    show k (.bl (xor false (eqDT (ksD es) (vsI es) (ksD fs) (vsI fs)))) L
    rw [Bool.false_xor]
    exact h
  · rintro ds L k x ⟨es, fs, rfl, _⟩; rfl
end
end T06
namespace T06
open PySem L2 DL PO
section
variable {P : Program} {w : World} {K : PySem.W.Frag} {mg : Str → Option Value} {base : Heap} {cP : Addr}
local macro_rules | `(tactic| walk_at "w") => `(tactic| conv => whnf)
local macro_rules | `(tactic| walk_at "v") => `(tactic| ((conv => whnf); try dsimp only))
local macro_rules | `(tactic| walk_at "s") => `(tactic| ((conv => whnf); repeat ((first | refine ⟨sz_ok rfl, ?_⟩ | refine ⟨rfl, ?_⟩); conv => whnf)))
theorem scPolyAdd : FnScope ["self", "other"] ["self", "other"] (defScope sPolyAdd) := ⟨rfl, rfl, rfl, by decide +kernel, rfl, by decide +kernel, by decide +kernel⟩
theorem ok_PolyAdd {f : Addr} {fd : FuncData} (Z : Zn w K mg cP) (F : Fun K "__add__" "Poly.__add__" sPolyAdd f fd) (CIsInteger : Cal P w K mg base 1 "is_integer" ["value"] [] (isIntE K cP)) (CAdded : Cal P w K mg base 1 "added" ["one", "other", "times"] [] addedS) (CMadeOf : Cal P w K mg base 6 "made_of" ["cells"] [] (madeS cP)) (n_Poly : mg "Poly" = some (.ref cP)) (IB : InsC K cP) (kB : PySem.W.kitOne K (.ref cP) (.ref cP) = some true) (kI : PySem.W.kitOne K (.ref cP) (.type "int") = some false) : FnOk P w K mg base (L2.CX P w) 7 f fd ["self", "other"] (spD K (addO K cP 1)) := by
  refine fn_ok F scPolyAdd ?len (fun cdv A outer s H E hr => ?_)
  rotate_left
  · have tk := takes_of (X := cxOf (L2.CX P w) P w K mg base ["self", "other"] "Poly.__add__" (defScope sPolyAdd) f cdv A outer s H E) (E := E) rfl rfl rfl rfl
    have hp := passes_of (X := cxOf (L2.CX P w) P w K mg base ["self", "other"] "Poly.__add__" (defScope sPolyAdd) f cdv A outer s H E) rfl
    refine ⟨_, (ss_cons (s_if (t_val (q_cal CIsInteger (by first | decide | exact Nat.le_refl _ | omega) hr tk (by rfl) (a_cons (qv 1) a_nil))) (ss_one (s_ret (q_cal CMadeOf (by first | decide | exact Nat.le_refl _ | omega) hr tk (by rfl) (a_cons (q_cal CAdded (by first | decide | exact Nat.le_refl _ | omega) hr tk (by rfl) (a_cons (q_fld (K := K) rfl (qv 0)) (a_cons (q_disp1T hr.units (q_kt (a_cons q_int (a_cons q_int a_nil))) (qv 1)) (a_cons q_int a_nil)))) a_nil)))) ss_nil)
  (ss_cons (s_if (t_not (t_val (q_isC (K := K) rfl (qv 1) n_Poly (by rfl) Z.z_isinstance (by rfl)))) (ss_one s_never) ss_nil)
  (ss_one (s_ret (q_cal CMadeOf (by first | decide | exact Nat.le_refl _ | omega) hr tk (by rfl) (a_cons (q_cal CAdded (by first | decide | exact Nat.le_refl _ | omega) hr tk (by rfl) (a_cons (q_fld (K := K) rfl (qv 0)) (a_cons (q_fld (K := K) rfl (qv 1)) (a_cons q_int a_nil)))) a_nil)))))), ?_⟩
    clear tk hp
    rintro ds L k x ⟨a, o, R, rfl, hR, nk, hz, h⟩
    have go : ∀ qs : List (Int × Int), qs.Perm (((scl (1) R).foldl add1 a).map ky) → Asc qs → k (pD cP (sel ((scl (1) R).foldl add1 a) qs)) L := fun qs hp ha => h _ (told_nk (gat_nk_from nk) (fun q => by rw [val_fold, cf_app, val_nk nk]) hp ha)
    have ln := fold_len1 (scl (1) R) a
    rw [scl_len] at ln
    rcases hR with ⟨n, rfl, rfl⟩ | rfl
    · walk_at "w"
      refine ⟨.int n, rfl, .inl ⟨rfl, rfl, ?_⟩⟩
      walk_at "w"
      refine ⟨⟨Z.c_P, Z.n_P _ (by decide)⟩, ?_⟩
      walk_at "w"
      intro p hp
      refine ⟨sz_ok rfl, ?_⟩
      walk_at "w"
      rw [lookup_top]
      refine ⟨rfl, ?_⟩
      rw [remL_top hp]
      walk_at "w"
      refine ⟨a, [(0, 0, n)], 1, rfl, nk, hz, by decide, ?_⟩
      exact ⟨_, rfl, gat_nk_from nk, by omega, go⟩
    · walk_at "w"
      refine ⟨pD cP R, rfl, .inr ⟨_, _, rfl, ⟨IB, kI⟩, ?_⟩⟩
      walk_at "w"
      refine ⟨true, ⟨IB, kB⟩, ?_⟩
      walk_at "w"
      refine ⟨⟨Z.c_P, Z.n_P _ (by decide)⟩, ?_⟩
      walk_at "w"
      refine ⟨⟨Z.c_P, Z.n_P _ (by decide)⟩, ?_⟩
      walk_at "w"
      refine ⟨a, R, 1, rfl, nk, hz, by decide, ?_⟩
      exact ⟨_, rfl, gat_nk_from nk, by omega, go⟩
  · rintro ds L k x ⟨a, o, R, rfl, _⟩; rfl
theorem scPolySub : FnScope ["self", "other"] ["self", "other"] (defScope sPolySub) := ⟨rfl, rfl, rfl, by decide +kernel, rfl, by decide +kernel, by decide +kernel⟩
theorem ok_PolySub {f : Addr} {fd : FuncData} (Z : Zn w K mg cP) (F : Fun K "__sub__" "Poly.__sub__" sPolySub f fd) (CIsInteger : Cal P w K mg base 1 "is_integer" ["value"] [] (isIntE K cP)) (CAdded : Cal P w K mg base 1 "added" ["one", "other", "times"] [] addedS) (CMadeOf : Cal P w K mg base 6 "made_of" ["cells"] [] (madeS cP)) (n_Poly : mg "Poly" = some (.ref cP)) (IB : InsC K cP) (kB : PySem.W.kitOne K (.ref cP) (.ref cP) = some true) (kI : PySem.W.kitOne K (.ref cP) (.type "int") = some false) : FnOk P w K mg base (L2.CX P w) 7 f fd ["self", "other"] (spD K (addO K cP (-1))) := by
  refine fn_ok F scPolySub ?len (fun cdv A outer s H E hr => ?_)
  rotate_left
  · have tk := takes_of (X := cxOf (L2.CX P w) P w K mg base ["self", "other"] "Poly.__sub__" (defScope sPolySub) f cdv A outer s H E) (E := E) rfl rfl rfl rfl
    have hp := passes_of (X := cxOf (L2.CX P w) P w K mg base ["self", "other"] "Poly.__sub__" (defScope sPolySub) f cdv A outer s H E) rfl
    refine ⟨_, (ss_cons (s_if (t_val (q_cal CIsInteger (by first | decide | exact Nat.le_refl _ | omega) hr tk (by rfl) (a_cons (qv 1) a_nil))) (ss_one (s_ret (q_cal CMadeOf (by first | decide | exact Nat.le_refl _ | omega) hr tk (by rfl) (a_cons (q_cal CAdded (by first | decide | exact Nat.le_refl _ | omega) hr tk (by rfl) (a_cons (q_fld (K := K) rfl (qv 0)) (a_cons (q_disp1T hr.units (q_kt (a_cons q_int (a_cons q_int a_nil))) (qv 1)) (a_cons (q_neg q_int) a_nil)))) a_nil)))) ss_nil)
  (ss_cons (s_if (t_not (t_val (q_isC (K := K) rfl (qv 1) n_Poly (by rfl) Z.z_isinstance (by rfl)))) (ss_one s_never) ss_nil)
  (ss_one (s_ret (q_cal CMadeOf (by first | decide | exact Nat.le_refl _ | omega) hr tk (by rfl) (a_cons (q_cal CAdded (by first | decide | exact Nat.le_refl _ | omega) hr tk (by rfl) (a_cons (q_fld (K := K) rfl (qv 0)) (a_cons (q_fld (K := K) rfl (qv 1)) (a_cons (q_neg q_int) a_nil)))) a_nil)))))), ?_⟩
    clear tk hp
    rintro ds L k x ⟨a, o, R, rfl, hR, nk, hz, h⟩
    have go : ∀ qs : List (Int × Int), qs.Perm (((scl (-1) R).foldl add1 a).map ky) → Asc qs → k (pD cP (sel ((scl (-1) R).foldl add1 a) qs)) L := fun qs hp ha => h _ (told_nk (gat_nk_from nk) (fun q => by rw [val_fold, cf_app, val_nk nk]) hp ha)
    have ln := fold_len1 (scl (-1) R) a
    rw [scl_len] at ln
    rcases hR with ⟨n, rfl, rfl⟩ | rfl
    · walk_at "w"
      refine ⟨.int n, rfl, .inl ⟨rfl, rfl, ?_⟩⟩
      walk_at "w"
      refine ⟨⟨Z.c_P, Z.n_P _ (by decide)⟩, ?_⟩
      walk_at "w"
      intro p hp
      refine ⟨sz_ok rfl, ?_⟩
      walk_at "w"
      rw [lookup_top]
      refine ⟨rfl, ?_⟩
      rw [remL_top hp]
      walk_at "w"
      refine ⟨a, [(0, 0, n)], -1, rfl, nk, hz, by decide, ?_⟩
      exact ⟨_, rfl, gat_nk_from nk, by omega, go⟩
    · walk_at "w"
      refine ⟨pD cP R, rfl, .inr ⟨_, _, rfl, ⟨IB, kI⟩, ?_⟩⟩
      walk_at "w"
      refine ⟨true, ⟨IB, kB⟩, ?_⟩
      walk_at "w"
      refine ⟨⟨Z.c_P, Z.n_P _ (by decide)⟩, ?_⟩
      walk_at "w"
      refine ⟨⟨Z.c_P, Z.n_P _ (by decide)⟩, ?_⟩
      walk_at "w"
      refine ⟨a, R, -1, rfl, nk, hz, by decide, ?_⟩
      exact ⟨_, rfl, gat_nk_from nk, by omega, go⟩
  · rintro ds L k x ⟨a, o, R, rfl, _⟩; rfl
theorem scPolyMul : FnScope ["self", "other", "key", "value"] ["self", "other"] (defScope sPolyMul) := ⟨rfl, rfl, rfl, by decide +kernel, rfl, by decide +kernel, by decide +kernel⟩
theorem ok_PolyMul {f : Addr} {fd : FuncData} (Z : Zn w K mg cP) (F : Fun K "__mul__" "Poly.__mul__" sPolyMul f fd) (CIsInteger : Cal P w K mg base 1 "is_integer" ["value"] [] (isIntE K cP)) (CMultiplied : Cal P w K mg base 1 "multiplied" ["one", "other"] [] multS) (CMadeOf : Cal P w K mg base 6 "made_of" ["cells"] [] (madeS cP)) (n_Poly : mg "Poly" = some (.ref cP)) (IB : InsC K cP) (kB : PySem.W.kitOne K (.ref cP) (.ref cP) = some true) (kI : PySem.W.kitOne K (.ref cP) (.type "int") = some false) : FnOk P w K mg base (L2.CX P w) 7 f fd ["self", "other"] (spD K (mulO K cP)) := by
  refine fn_ok F scPolyMul ?len (fun cdv A outer s H E hr => ?_)
  rotate_left
  · have tk := takes_of (X := cxOf (L2.CX P w) P w K mg base ["self", "other", "key", "value"] "Poly.__mul__" (defScope sPolyMul) f cdv A outer s H E) (E := E) rfl rfl rfl rfl
    have hp := passes_of (X := cxOf (L2.CX P w) P w K mg base ["self", "other", "key", "value"] "Poly.__mul__" (defScope sPolyMul) f cdv A outer s H E) rfl
    refine ⟨_, (ss_cons (s_if (t_val (q_cal CIsInteger (by first | decide | exact Nat.le_refl _ | omega) hr tk (by rfl) (a_cons (qv 1) a_nil))) (ss_one (s_ret (q_cal CMadeOf (by first | decide | exact Nat.le_refl _ | omega) hr tk (by rfl) (a_cons (q_dcT hr.units rfl scPolyMul.nd (i_itemsT (q_fld (K := K) rfl (qv 0))) (blkOk_by (own := [("key", 2), ("value", 3)]) (N := ["self", "other", "key", "value"]) (sc := (defScope sPolyMul)) (by decide +kernel)) (fun _ _ _ _ _ => (g_tup (n := 2) rfl (gs_cons (g_name 2 scPolyMul.nd) (gs_cons (g_name 3 scPolyMul.nd) gs_nil)))) (fun _ _ _ _ _ => ts_nil) (fun _ _ _ _ _ => (qv 2)) (fun _ _ _ _ _ => (q_op oq_mulU (qv 3) (qv 1)))) a_nil)))) ss_nil)
  (ss_cons (s_if (t_not (t_val (q_isC (K := K) rfl (qv 1) n_Poly (by rfl) Z.z_isinstance (by rfl)))) (ss_one s_never) ss_nil)
  (ss_one (s_ret (q_cal CMadeOf (by first | decide | exact Nat.le_refl _ | omega) hr tk (by rfl) (a_cons (q_cal CMultiplied (by first | decide | exact Nat.le_refl _ | omega) hr tk (by rfl) (a_cons (q_fld (K := K) rfl (qv 0)) (a_cons (q_fld (K := K) rfl (qv 1)) a_nil))) a_nil)))))), ?_⟩
    clear tk hp
    rintro ds L k x ⟨a, o, R, rfl, hR, nk, hl, hz, hs, h⟩
    rcases hR with ⟨n, rfl, rfl⟩ | rfl
    · rw [mul_one] at h
      walk_at "w"
      refine ⟨.int n, rfl, .inl ⟨rfl, rfl, ?_⟩⟩
      walk_at "w"
      refine ⟨⟨Z.c_P, Z.n_P _ (by decide)⟩, ?_⟩
      walk_at "w"
      intro q hq
      rw [itms_es a]
      refine dcT_each (fun t => .tup [.kt (kk (ky t)), .int t.2.2]) (fun t => (t.1, t.2.1, t.2.2 * n)) hq a (by omega) (nk_scl (s := n) nk) (fun t ht c N F hF => ?_) ?_
      · walk_at "w"
        refine ⟨rfl, ?_⟩
        walk_at "w"
        refine ⟨.inl (.inl (Nat.lt_of_le_of_lt (hs t ht) (by decide))), ?_⟩
        exact hF
      · walk_at "w"
        exact ⟨scl n a, rfl, nk_scl nk, by rw [scl_len]; omega, fun qs hp ha => h _ (told_nk (nk_scl nk) (fun q => val_nk (nk_scl nk)) hp ha)⟩
    · walk_at "w"
      refine ⟨pD cP R, rfl, .inr ⟨_, _, rfl, ⟨IB, kI⟩, ?_⟩⟩
      walk_at "w"
      refine ⟨true, ⟨IB, kB⟩, ?_⟩
      walk_at "w"
      refine ⟨⟨Z.c_P, Z.n_P _ (by decide)⟩, ?_⟩
      walk_at "w"
      refine ⟨⟨Z.c_P, Z.n_P _ (by decide)⟩, ?_⟩
      walk_at "w"
      refine ⟨a, R, rfl, hz, hs, ?_⟩
      have gl := gat_len (mulT a R)
      rw [mulT_len] at gl
      exact ⟨_, rfl, gat_nk _, by omega, fun qs hp ha => h _ (told_nk (gat_nk _) (fun q => val_gat _ q) hp ha)⟩
  · rintro ds L k x ⟨a, o, R, rfl, _⟩; rfl
theorem scPolyNeg : FnScope ["self", "key", "value"] ["self"] (defScope sPolyNeg) := ⟨rfl, rfl, rfl, by decide +kernel, rfl, by decide +kernel, by decide +kernel⟩
theorem ok_PolyNeg {f : Addr} {fd : FuncData} (Z : Zn w K mg cP) (F : Fun K "__neg__" "Poly.__neg__" sPolyNeg f fd) (CMadeOf : Cal P w K mg base 6 "made_of" ["cells"] [] (madeS cP)) : FnOk P w K mg base (L2.CX P w) 7 f fd ["self"] (spD K (negO cP)) := by
  refine fn_ok F scPolyNeg ?len (fun cdv A outer s H E hr => ?_)
  rotate_left
  · have tk := takes_of (X := cxOf (L2.CX P w) P w K mg base ["self", "key", "value"] "Poly.__neg__" (defScope sPolyNeg) f cdv A outer s H E) (E := E) rfl rfl rfl rfl
    have hp := passes_of (X := cxOf (L2.CX P w) P w K mg base ["self", "key", "value"] "Poly.__neg__" (defScope sPolyNeg) f cdv A outer s H E) rfl
    refine ⟨_, (ss_one (s_ret (q_cal CMadeOf (by first | decide | exact Nat.le_refl _ | omega) hr tk (by rfl) (a_cons (q_dcT hr.units rfl scPolyNeg.nd (i_itemsT (q_fld (K := K) rfl (qv 0))) (blkOk_by (own := [("key", 1), ("value", 2)]) (N := ["self", "key", "value"]) (sc := (defScope sPolyNeg)) (by decide +kernel)) (fun _ _ _ _ _ => (g_tup (n := 2) rfl (gs_cons (g_name 1 scPolyNeg.nd) (gs_cons (g_name 2 scPolyNeg.nd) gs_nil)))) (fun _ _ _ _ _ => ts_nil) (fun _ _ _ _ _ => (qv 1)) (fun _ _ _ _ _ => (q_neg (qv 2)))) a_nil)))), ?_⟩
    clear tk hp
    rintro ds L k x ⟨a, rfl, nk, hl, h⟩
    walk_at "w"
    refine ⟨⟨Z.c_P, Z.n_P _ (by decide)⟩, ?_⟩
    walk_at "w"
    intro q hq
    rw [itms_es a]
    refine dcT_each (fun t => .tup [.kt (kk (ky t)), .int t.2.2]) (fun t => (t.1, t.2.1, t.2.2 * -1)) hq a (by omega) (nk_scl (s := -1) nk) (fun t ht c N F hF => ?_) ?_
    · walk_at "w"
      refine ⟨rfl, ?_⟩
      walk_at "w"
      rw [show t.2.2 * -1 = -t.2.2 from by omega] at hF
      exact hF
    · walk_at "w"
      exact ⟨scl (-1) a, rfl, nk_scl nk, by rw [scl_len]; omega, fun qs hp ha => h _ (told_nk (nk_scl nk) (fun q => val_nk (nk_scl nk)) hp ha)⟩
  · rintro ds L k x ⟨a, rfl, _⟩; rfl
theorem scPolyRadd : FnScope ["self", "other"] ["self", "other"] (defScope sPolyRadd) := ⟨rfl, rfl, rfl, by decide +kernel, rfl, by decide +kernel, by decide +kernel⟩
theorem ok_PolyRadd {f : Addr} {fd : FuncData} (Z : Zn w K mg cP) (F : Fun K "__radd__" "Poly.__radd__" sPolyRadd f fd) (MPolyAdd : MCal P w K mg base 7 cP "__add__" ["self", "other"] [] (addO K cP 1)) (B_add : BinF K cP "add") : FnOk P w K mg base (L2.CX P w) 8 f fd ["self", "other"] (spD K (raddO cP)) := by
  refine fn_ok F scPolyRadd ?len (fun cdv A outer s H E hr => ?_)
  rotate_left
  · have tk := takes_of (X := cxOf (L2.CX P w) P w K mg base ["self", "other"] "Poly.__radd__" (defScope sPolyRadd) f cdv A outer s H E) (E := E) rfl rfl rfl rfl
    have hp := passes_of (X := cxOf (L2.CX P w) P w K mg base ["self", "other"] "Poly.__radd__" (defScope sPolyRadd) f cdv A outer s H E) rfl
    refine ⟨_, (ss_one (s_ret (q_binO (K := K) rfl MPolyAdd B_add (by first | decide | exact Nat.le_refl _ | omega) hr (qv 0) (qv 1)))), ?_⟩
    clear tk hp
    rintro ds L k x ⟨a, n, rfl, nk, hz, h⟩
    walk_at "w"
    refine ⟨rfl, True.intro, a, .int n, [(0, 0, n)], rfl, .inl ⟨n, rfl, rfl⟩, nk, (by show a.length + 1 < 100000; omega), fun es he => ⟨True.intro, ?_⟩⟩
    exact h es he
  · rintro ds L k x ⟨a, n, rfl, _⟩; rfl
theorem scPolyRsub : FnScope ["self", "other"] ["self", "other"] (defScope sPolyRsub) := ⟨rfl, rfl, rfl, by decide +kernel, rfl, by decide +kernel, by decide +kernel⟩
theorem ok_PolyRsub {f : Addr} {fd : FuncData} (Z : Zn w K mg cP) (F : Fun K "__rsub__" "Poly.__rsub__" sPolyRsub f fd) (MPolyAdd : MCal P w K mg base 7 cP "__add__" ["self", "other"] [] (addO K cP 1)) (B_add : BinF K cP "add") (MPolyNeg : MCal P w K mg base 7 cP "__neg__" ["self"] [] (negO cP)) : FnOk P w K mg base (L2.CX P w) 8 f fd ["self", "other"] (spD K (rsubO cP)) := by
  refine fn_ok F scPolyRsub ?len (fun cdv A outer s H E hr => ?_)
  rotate_left
  · have tk := takes_of (X := cxOf (L2.CX P w) P w K mg base ["self", "other"] "Poly.__rsub__" (defScope sPolyRsub) f cdv A outer s H E) (E := E) rfl rfl rfl rfl
    have hp := passes_of (X := cxOf (L2.CX P w) P w K mg base ["self", "other"] "Poly.__rsub__" (defScope sPolyRsub) f cdv A outer s H E) rfl
    refine ⟨_, (ss_one (s_ret (q_binO (K := K) rfl MPolyAdd B_add (by first | decide | exact Nat.le_refl _ | omega) hr (q_negO MPolyNeg (by first | decide | exact Nat.le_refl _ | omega) hr (qv 0)) (qv 1)))), ?_⟩
    clear tk hp
    rintro ds L k x ⟨a, n, rfl, nk, hz, h⟩
    walk_at "w"
    refine ⟨rfl, a, rfl, nk, by omega, fun e1 h1 => ?_⟩
    have few := h1.few
    rw [scl_len] at few
    walk_at "w"
    refine ⟨rfl, True.intro, e1, .int n, [(0, 0, n)], rfl, .inl ⟨n, rfl, rfl⟩, h1.can.nk, (by show e1.length + 1 < 100000; omega), fun es he => ⟨True.intro, ?_⟩⟩
    exact h es (he.congr fun q => by rw [cf_app, cf_app, h1.cf])
  · rintro ds L k x ⟨a, n, rfl, _⟩; rfl
theorem scPolyRmul : FnScope ["self", "other"] ["self", "other"] (defScope sPolyRmul) := ⟨rfl, rfl, rfl, by decide +kernel, rfl, by decide +kernel, by decide +kernel⟩
theorem ok_PolyRmul {f : Addr} {fd : FuncData} (Z : Zn w K mg cP) (F : Fun K "__rmul__" "Poly.__rmul__" sPolyRmul f fd) (MPolyMul : MCal P w K mg base 7 cP "__mul__" ["self", "other"] [] (mulO K cP)) (B_mul : BinF K cP "mul") : FnOk P w K mg base (L2.CX P w) 8 f fd ["self", "other"] (spD K (rmulO cP)) := by
  refine fn_ok F scPolyRmul ?len (fun cdv A outer s H E hr => ?_)
  rotate_left
  · have tk := takes_of (X := cxOf (L2.CX P w) P w K mg base ["self", "other"] "Poly.__rmul__" (defScope sPolyRmul) f cdv A outer s H E) (E := E) rfl rfl rfl rfl
    have hp := passes_of (X := cxOf (L2.CX P w) P w K mg base ["self", "other"] "Poly.__rmul__" (defScope sPolyRmul) f cdv A outer s H E) rfl
    refine ⟨_, (ss_one (s_ret (q_binO (K := K) rfl MPolyMul B_mul (by first | decide | exact Nat.le_refl _ | omega) hr (qv 0) (qv 1)))), ?_⟩
    clear tk hp
    rintro ds L k x ⟨a, n, rfl, nk, hz, hs, h⟩
    walk_at "w"
    refine ⟨rfl, True.intro, a, .int n, [(0, 0, n)], rfl, .inl ⟨n, rfl, rfl⟩, nk, by omega, (by show a.length * 1 < 100000; omega), hs, fun es he => ⟨True.intro, ?_⟩⟩
    exact h es he
  · rintro ds L k x ⟨a, n, rfl, _⟩; rfl
theorem scPolyPow : FnScope ["self", "times", "found", "_"] ["self", "times"] (defScope sPolyPow) := ⟨rfl, rfl, rfl, by decide +kernel, rfl, by decide +kernel, by decide +kernel⟩
theorem ok_PolyPow {f : Addr} {fd : FuncData} (Z : Zn w K mg cP) (F : Fun K "__pow__" "Poly.__pow__" sPolyPow f fd) (K_Poly : KCal P w K mg base 4 "Poly" cP ["self", "terms", "most"] [.int 20] (initS cP)) (MPolyMul : MCal P w K mg base 7 cP "__mul__" ["self", "other"] [] (mulO K cP)) (B_mul : BinF K cP "mul") (IB : InsC K cP) : FnOk P w K mg base (L2.CX P w) 8 f fd ["self", "times"] (spD K (powO cP)) := by
  refine fn_ok F scPolyPow ?len (fun cdv A outer s H E hr => ?_)
  rotate_left
  · have tk := takes_of (X := cxOf (L2.CX P w) P w K mg base ["self", "times", "found", "_"] "Poly.__pow__" (defScope sPolyPow) f cdv A outer s H E) (E := E) rfl rfl rfl rfl
    have hp := passes_of (X := cxOf (L2.CX P w) P w K mg base ["self", "times", "found", "_"] "Poly.__pow__" (defScope sPolyPow) f cdv A outer s H E) rfl
    refine ⟨_, (ss_cons (s_set 2 scPolyPow.nd (q_makeD K_Poly (by first | decide | exact Nat.le_refl _ | omega) hr tk (by rfl) (a_cons (q_lst (a_cons (q_tup (a_cons q_int (a_cons q_int (a_cons q_int a_nil)))) a_nil)) a_nil)))
  (ss_cons (s_for hp rfl (i_range1 (by rfl) Z.z_range (a_cons (qv 1) a_nil)) (g_name 3 scPolyPow.nd) (ss_one (s_set 2 scPolyPow.nd (q_binO (K := K) rfl MPolyMul B_mul (by first | decide | exact Nat.le_refl _ | omega) hr (qv 2) (qv 0)))))
  (ss_one (s_ret (qv 2))))), ?_⟩
    clear tk hp
    rintro ds L k x ⟨a, n, rfl, hn, hs, h⟩
    walk_at "w"
    refine ⟨sz_ok rfl, ?_⟩
    walk_at "w"
    refine ⟨sz_ok rfl, ?_⟩
    walk_at "w"
    intro q2 hq2
    refine ⟨q2, .lst [tD (0, 0, 1)], .int 20, [(0, 0, 1)], rfl, lookup_top, .inl rfl, .inr ⟨rfl, fun t ht => by rw [List.mem_singleton.mp ht]; decide⟩, by decide, fun qs hp ha => ⟨rfl, ?_⟩⟩
    have td := told_of hp ha
    generalize sel (gat [(0, 0, 1)]) qs = e0 at td
    rw [setL_top hq2, lookup_top]
    walk_at "w"
    rw [remL_top hq2]
    walk_at "w"
    refine ⟨⟨by omega, by omega⟩, ?_⟩
    walk_at "w"
    refine forD_rec (fun rr env L' => ∃ (m : Nat) (es : List T3) (o3 : Option D), env = [some (pD cP a), some (.int n), some (pD cP es), o3] ∧ L' = L ∧ Told (powP a m) es ∧ m + rr.length = n) ?step ?fin _ _ _ ⟨0, e0, none, rfl, rfl, td, by rw [rngD_len]; omega⟩
    case fin =>
      rintro env L' ⟨m, es, o3, rfl, rfl, td, e⟩
      have e : m = n := e
      subst e
      walk_at "w"
      exact h es td
    case step =>
      rintro E' d rr env L' _ _ _ _ ⟨m, es, o3, rfl, rfl, td, e⟩ hnx
      rw [List.length_cons] at e
      obtain ⟨h0, h1, h2⟩ := hs m es (by omega) td
      walk_at "w"
      refine ⟨rfl, ⟨rfl, IB⟩, es, pD cP a, a, rfl, .inr rfl, td.can.nk, h0, h1, h2, fun fs hf => ⟨True.intro, ?_⟩⟩
      exact hnx _ _ ⟨m + 1, fs, _, rfl, rfl, hf.congr fun q => cf_mul_l (fun q => td.cf q) q, by omega⟩
  · rintro ds L k x ⟨a, n, rfl, _⟩; rfl
theorem scPolyValueAt : FnScope ["self", "point", "a", "b", "c", "d", "high", "far", "tops", "bottoms", "others", "belows", "total", "i", "j", "value"] ["self", "point"] (defScope sPolyValueAt) := ⟨rfl, rfl, rfl, by decide +kernel, rfl, by decide +kernel, by decide +kernel⟩
theorem ok_PolyValueAt {f : Addr} {fd : FuncData} (Z : Zn w K mg cP) (F : Fun K "value_at" "Poly.value_at" sPolyValueAt f fd) (CPowers : Cal P w K mg base 1 "powers" ["base", "most"] [] powersS) (CLowest : Cal P w K mg base 1 "lowest" ["top", "bottom"] [] lowestR) (MPolyDegreeIn : MCal P w K mg base 2 cP "degree_in" ["self", "letter"] [] (dgInS cP)) : FnOk P w K mg base (L2.CX P w) 3 f fd ["self", "point"] (spD K (valS cP)) := by
  refine fn_ok F scPolyValueAt ?len (fun cdv A outer s H E hr => ?_)
  rotate_left
  · have tk := takes_of (X := cxOf (L2.CX P w) P w K mg base ["self", "point", "a", "b", "c", "d", "high", "far", "tops", "bottoms", "others", "belows", "total", "i", "j", "value"] "Poly.value_at" (defScope sPolyValueAt) f cdv A outer s H E) (E := E) rfl rfl rfl rfl
    have hp := passes_of (X := cxOf (L2.CX P w) P w K mg base ["self", "point", "a", "b", "c", "d", "high", "far", "tops", "bottoms", "others", "belows", "total", "i", "j", "value"] "Poly.value_at" (defScope sPolyValueAt) f cdv A outer s H E) rfl
    refine ⟨_, (ss_cons (s_asg (qv 1) (g_tup (n := 2) rfl (gs_cons (g_tup (n := 2) rfl (gs_cons (g_name 2 scPolyValueAt.nd) (gs_cons (g_name 3 scPolyValueAt.nd) gs_nil))) (gs_cons (g_tup (n := 2) rfl (gs_cons (g_name 4 scPolyValueAt.nd) (gs_cons (g_name 5 scPolyValueAt.nd) gs_nil))) gs_nil))))
  (ss_cons (s_par 6 7 rfl scPolyValueAt.nd (a_cons (q_callB (cq_max2 rfl) (by rfl) Z.z_max bb_max (a_cons q_int (a_cons (q_meth MPolyDegreeIn (by first | decide | exact Nat.le_refl _ | omega) hr tk (qv 0) (a_cons q_str a_nil)) a_nil))) (a_cons (q_callB (cq_max2 rfl) (by rfl) Z.z_max bb_max (a_cons q_int (a_cons (q_meth MPolyDegreeIn (by first | decide | exact Nat.le_refl _ | omega) hr tk (qv 0) (a_cons q_str a_nil)) a_nil))) a_nil)))
  (ss_cons (s_par 8 9 rfl scPolyValueAt.nd (a_cons (q_cal CPowers (by first | decide | exact Nat.le_refl _ | omega) hr tk (by rfl) (a_cons (qv 2) (a_cons (qv 6) a_nil))) (a_cons (q_cal CPowers (by first | decide | exact Nat.le_refl _ | omega) hr tk (by rfl) (a_cons (qv 3) (a_cons (qv 6) a_nil))) a_nil)))
  (ss_cons (s_par 10 11 rfl scPolyValueAt.nd (a_cons (q_cal CPowers (by first | decide | exact Nat.le_refl _ | omega) hr tk (by rfl) (a_cons (qv 4) (a_cons (qv 7) a_nil))) (a_cons (q_cal CPowers (by first | decide | exact Nat.le_refl _ | omega) hr tk (by rfl) (a_cons (qv 5) (a_cons (qv 7) a_nil))) a_nil)))
  (ss_cons (s_set 12 scPolyValueAt.nd q_int)
  (ss_cons (s_for hp rfl (i_itemsT (q_fld (K := K) rfl (qv 0))) (g_tup (n := 2) rfl (gs_cons (g_kt (n := 2) rfl (gs_cons (g_name 13 scPolyValueAt.nd) (gs_cons (g_name 14 scPolyValueAt.nd) gs_nil))) (gs_cons (g_name 15 scPolyValueAt.nd) gs_nil))) (ss_one (s_aug 12 scPolyValueAt.nd (q_op oq_mulU (q_op oq_mulU (q_op oq_mulU (q_op oq_mulU (qv 15) (q_ix (qv 8) (qv 13))) (q_ix (qv 9) (q_op oq_sub (qv 6) (qv 13)))) (q_ix (qv 10) (qv 14))) (q_ix (qv 11) (q_op oq_sub (qv 7) (qv 14)))) ip_addQ)))
  (ss_one (s_ret (q_cal CLowest (by first | decide | exact Nat.le_refl _ | omega) hr tk (by rfl) (a_cons (qv 12) (a_cons (q_op oq_mulU (q_ix (qv 9) (qv 6)) (q_ix (qv 11) (qv 7))) a_nil))))))))))), ?_⟩
    clear tk hp
    rintro ds L k x ⟨es, a, b, c, d, M, H, F, rfl, pt, hl, hp, h⟩
    obtain ⟨mx, hmx⟩ := mx_ex (es.map fun t => t.1)
    obtain ⟨my, hmy⟩ := mx_ex (es.map fun t => t.2.1)
    obtain ⟨hi, ehi, hi1, hi2⟩ := high_of (H := H) hmx fun y hy => by obtain ⟨t, ht, rfl⟩ := List.mem_map.mp hy; exact (hp t ht).1
    obtain ⟨fa, efa, fa1, fa2⟩ := high_of (H := F) hmy fun y hy => by obtain ⟨t, ht, rfl⟩ := List.mem_map.mp hy; exact (hp t ht).2
    have pw : Pw2 hi fa es := fun t ht => ⟨⟨(hp t ht).1.1, hi2 _ (List.mem_map.mpr ⟨t, ht, rfl⟩)⟩, (hp t ht).2.1, fa2 _ (List.mem_map.mpr ⟨t, ht, rfl⟩)⟩
    have smH : ∀ (z : Int) (i : Nat), z.natAbs ≤ M → i ≤ hi → (z ^ i).natAbs < 2 ^ 63 := fun z i hz hi3 => Nat.lt_of_le_of_lt (pow_le hz i) (Nat.lt_of_le_of_lt (Nat.pow_le_pow_right pt.m1 (Nat.le_trans hi3 hi1)) pt.h)
    have smF : ∀ (z : Int) (i : Nat), z.natAbs ≤ M → i ≤ fa → (z ^ i).natAbs < 2 ^ 63 := fun z i hz hi3 => Nat.lt_of_le_of_lt (pow_le hz i) (Nat.lt_of_le_of_lt (Nat.pow_le_pow_right pt.m1 (Nat.le_trans hi3 fa1)) pt.f)
    have h1H := pt.hH
    have h1F := pt.hF
    walk_at "w"
    refine ⟨rfl, ?_⟩
    walk_at "w"
    refine ⟨rfl, ?_⟩
    walk_at "w"
    refine ⟨rfl, ?_⟩
    walk_at "w"
    refine ⟨⟨rfl, rfl⟩, es, "x", mx, rfl, hl, .inl ⟨rfl, hmx⟩, ?_⟩
    walk_at "w"
    refine ⟨⟨rfl, rfl⟩, es, "y", my, rfl, hl, .inr ⟨rfl, hmy⟩, ?_⟩
    walk_at "w"
    rw [show (if mx > 0 then mx else 0) = ((hi : Nat) : Int) from ehi, show (if my > 0 then my else 0) = ((fa : Nat) : Int) from efa]
    refine ⟨a, hi, rfl, Nat.lt_of_le_of_lt pt.la pt.m63, by omega, ?_⟩
    walk_at "w"
    refine ⟨b, hi, rfl, Nat.lt_of_le_of_lt pt.lb pt.m63, by omega, ?_⟩
    walk_at "w"
    refine ⟨c, fa, rfl, Nat.lt_of_le_of_lt pt.lc pt.m63, by omega, ?_⟩
    walk_at "w"
    refine ⟨d, fa, rfl, Nat.lt_of_le_of_lt pt.ld pt.m63, by omega, ?_⟩
    walk_at "w"
    refine ⟨⟨Z.c_P, Z.n_P _ (by decide)⟩, ?_⟩
    walk_at "w"
    refine forD_as (itms_es es) (forD_rec (fun r env L2 => ∃ (us : List T3) (tt : Int) (o13 o14 o15 : Option D), r = (us.map fun t => D.tup [.kt (kk (ky t)), .int t.2.2]) ∧ env = [some (pD cP es), some (.tup [.tup [.int a, .int b], .tup [.int c, .int d]]), some (.int a), some (.int b), some (.int c), some (.int d), some (.int hi), some (.int fa), some (.lst (pwI a hi)), some (.lst (pwI b hi)), some (.lst (pwI c fa)), some (.lst (pwI d fa)), some (.int tt), o13, o14, o15] ∧ L2 = L ∧ tt + tot a b c d hi fa us = tot a b c d hi fa es ∧ ∀ t ∈ us, t ∈ es) ?step ?fin _ _ _ ⟨es, 0, none, none, none, rfl, rfl, rfl, Int.zero_add _, fun t ht => ht⟩)
    case fin =>
      rintro env L2 ⟨us, tt, o13, o14, o15, hr, rfl, rfl, e, _⟩
      cases us with
      | cons _ _ => cases hr
      | nil =>
        have e : tt = tot a b c d hi fa es := by rw [← e]; exact (Int.add_zero _).symm
        walk_at "w"
        rw [pwI_at b (Int.natCast_nonneg hi) (Int.le_refl _)]
        walk_at "w"
        rw [pwI_at d (Int.natCast_nonneg fa) (Int.le_refl _)]
        walk_at "w"
        rw [Int.toNat_natCast, Int.toNat_natCast]
        have s2 := smF d fa pt.ld (Nat.le_refl _)
        refine ⟨.inl (.inr s2), ?_⟩
        walk_at "w"
        refine ⟨tt, b ^ hi * d ^ fa, rfl, low_pow_ne pt.b0 pt.d0 hi fa, ?_, ?_⟩
        · rw [Int.natAbs_mul]
          exact Nat.lt_of_le_of_lt (Nat.mul_le_mul (Nat.le_of_lt (smH b hi pt.lb (Nat.le_refl _))) (Nat.le_of_lt s2)) (by decide +kernel)
        · rw [e, tot_rat pt.b0 pt.d0 pw]
          exact h
    case step =>
      rintro E' d0 r env L2 _ _ _ _ ⟨us, tt, o13, o14, o15, hr, rfl, rfl, e, hm⟩ hnx
      cases us with
      | nil => cases hr
      | cons u us =>
        cases hr
        obtain ⟨⟨i0, i1⟩, j0, j1⟩ := pw u (hm u List.mem_cons_self)
        walk_at "w"
        refine ⟨rfl, ?_⟩
        walk_at "w"
        refine ⟨rfl, ?_⟩
        walk_at "w"
        rw [pwI_at a i0 i1]
        walk_at "w"
        refine ⟨.inl (.inr (smH a _ pt.la (by omega))), ?_⟩
        walk_at "w"
        rw [pwI_at b (show 0 ≤ (hi : Int) - u.1 by omega) (show (hi : Int) - u.1 ≤ hi by omega)]
        walk_at "w"
        refine ⟨.inl (.inr (smH b _ pt.lb (by omega))), ?_⟩
        walk_at "w"
        rw [pwI_at c j0 j1]
        walk_at "w"
        refine ⟨.inl (.inr (smF c _ pt.lc (by omega))), ?_⟩
        walk_at "w"
        rw [pwI_at d (show 0 ≤ (fa : Int) - u.2.1 by omega) (show (fa : Int) - u.2.1 ≤ fa by omega)]
        walk_at "w"
        refine ⟨.inl (.inr (smF d _ pt.ld (by omega))), ?_⟩
        walk_at "w"
        refine hnx _ _ ⟨us, _, _, _, _, rfl, rfl, rfl, ?_, fun t ht => hm t (List.mem_cons_of_mem _ ht)⟩
        have e : tt + (u.2.2 * a ^ u.1.toNat * b ^ (hi - u.1.toNat) * c ^ u.2.1.toNat * d ^ (fa - u.2.1.toNat) + tot a b c d hi fa us) = tot a b c d hi fa es := e
        rw [← e, show ((hi : Int) - u.1).toNat = hi - u.1.toNat from by omega, show ((fa : Int) - u.2.1).toNat = fa - u.2.1.toNat from by omega, Int.add_assoc]
  · rintro ds L k x ⟨es, a, b, c, d, M, H, F, rfl, _⟩; rfl
end
end T06
namespace T06
open PySem L2 DL PO
def gathS : DSp := fun ds L k _ => ∃ ts : List T3, ds = [.lst (ts.map tD)] ∧ ts.length < 1000 ∧ ∀ qs, qs.Perm ((gat ts).map ky) → Asc qs → k (.lst ((sel (gat ts) qs).map tD)) L
/-- terms that are drawn -/
structure Drn (h m s : Int) (es : List T3) : Prop where
  can : Can es
  few : (es.length : Int) ≤ m
  pw : ∀ t ∈ es, (0 ≤ t.1 ∧ t.1 ≤ h) ∧ (0 ≤ t.2.1 ∧ t.2.1 ≤ h)
  sz : ∀ t ∈ es, -(m * s) ≤ t.2.2 ∧ t.2.2 ≤ m * s
def termsLS : DSp := fun ds L k _ => ∃ (p : Addr) (b : Bag) (h m s : Int), ds = [.ptr p, .int h, .int m, .int s] ∧ L.lookup p = some (bagC b) ∧ BagOk b ∧ 0 ≤ h ∧ h ≤ 20 ∧ 0 ≤ m ∧ m ≤ 20 ∧ 0 ≤ s ∧ s ≤ 1000000 ∧ ∀ es b', Drn h m s es → BagOk b' → k (.lst (es.map tD)) (setL L p (bagC b'))
def polyLS (C : Addr) : DSp := fun ds L k _ => ∃ es, ds = [.lst (es.map tD)] ∧ Can es ∧ pw20 es ∧ es.length < 1000 ∧ k (pD C es) L
theorem two126 {x y : Int} (hx : x.natAbs < 2 ^ 63) (hy : y.natAbs < 2 ^ 63) : (x * y).natAbs < 2 ^ 127 := by
  rw [Int.natAbs_mul]
  exact Nat.lt_of_le_of_lt (Nat.mul_le_mul (Nat.le_of_lt hx) (Nat.le_of_lt hy)) (by decide +kernel)
theorem lt127 {n : Nat} (h : n < 2 ^ 128) : n < 2 ^ 1990 := Nat.lt_trans h (by decide +kernel)
def arS (f : Rat → Rat → Rat) : DSp := fun ds L k _ => ∃ a b c d : Int, ds = [.tup [.int a, .int b], .tup [.int c, .int d]] ∧ b ≠ 0 ∧ d ≠ 0 ∧ (a.natAbs < 2 ^ 63 ∧ b.natAbs < 2 ^ 63) ∧ (c.natAbs < 2 ^ 63 ∧ d.natAbs < 2 ^ 63) ∧ k (ratD (f ((a : Rat) / (b : Rat)) ((c : Rat) / (d : Rat)))) L
def toS : DSp := fun ds L k _ => ∃ (b : Int) (n : Nat), ds = [.int b, .int n] ∧ b.natAbs < 2 ^ 63 ∧ n < 1000 ∧ k (.int (b ^ n)) L
def pntS : DSp := fun ds L k _ => ∃ (p : Addr) (g : Bag) (h u : Int), ds = [.ptr p, .int h, .int u] ∧ L.lookup p = some (bagC g) ∧ BagOk g ∧ 0 ≤ h ∧ h < 2 ^ 1900 ∧ 0 < u ∧ u < 2 ^ 1900 ∧
  ∀ a b c d g', 0 < b → 0 < d → (-h ≤ a ∧ a ≤ h) → b ≤ u → (-h ≤ c ∧ c ≤ h) → d ≤ u → BagOk g' → k (.tup [.tup [.int a, .int b], .tup [.int c, .int d]]) (setL L p (bagC g'))
def plusS : DSp := fun ds L k _ => ∃ (a b : List T3) (s : Int), ds = [.lst (a.map tD), .lst (b.map tD), .int s] ∧ a.length + b.length < 1000 ∧ s.natAbs < 2 ^ 63 ∧ ∀ es, Told (a ++ scl s b) es → k (.lst (es.map tD)) L
def timesS : DSp := fun ds L k _ => ∃ a b : List T3, ds = [.lst (a.map tD), .lst (b.map tD)] ∧ a.length * b.length < 1000 ∧ b.length < 1000 ∧ Sz (2 ^ 62) a ∧ ∀ es, Told (mulT a b) es → k (.lst (es.map tD)) L
/-- a point at which the law reckons a poly's value -/
structure SptOk (M V : Nat) (a b c d : Int) (es : List T3) : Prop where
  b0 : b ≠ 0
  d0 : d ≠ 0
  m1 : 1 ≤ M
  la : a.natAbs ≤ M
  lb : b.natAbs ≤ M
  lc : c.natAbs ≤ M
  ld : d.natAbs ≤ M
  pw : Pw2 5 5 es
  sz : Sz V es
  few : es.length * (V * (M ^ 5 * M ^ 5)) < 2 ^ 62
  m : M ^ 5 * M ^ 5 < 2 ^ 62
theorem SptOk.m5 {M V : Nat} {a b c d : Int} {es : List T3} (h : SptOk M V a b c d es) : M ^ 5 < 2 ^ 62 := by
  have := h.m
  have p : 1 ≤ M ^ 5 := Nat.one_le_pow _ _ h.m1
  have : M ^ 5 * 1 ≤ M ^ 5 * M ^ 5 := Nat.mul_le_mul_left _ p
  omega
theorem SptOk.pow {M V : Nat} {a b c d : Int} {es : List T3} (h : SptOk M V a b c d es) {z : Int} (hz : z.natAbs ≤ M) {i : Nat} (hi : i ≤ 5) : (z ^ i).natAbs ≤ M ^ 5 := Nat.le_trans (pow_le hz i) (Nat.pow_le_pow_right h.m1 hi)
theorem SptOk.m0 {M V : Nat} {a b c d : Int} {es : List T3} (h : SptOk M V a b c d es) : M < 2 ^ 62 := by
  have p : M ^ 1 ≤ M ^ 5 := Nat.pow_le_pow_right h.m1 (by decide)
  have := h.m5
  rw [Nat.pow_one] at p
  omega
theorem SptOk.part {M V : Nat} {a b c d : Int} {es fs : List T3} (h : SptOk M V a b c d es) (hs : ∀ t ∈ fs, t ∈ es) (hl : fs.length ≤ es.length) : Few (2 ^ 63) (ev ((a : Rat) / b) ((c : Rat) / d) fs) := by
  refine ev_few h.b0 h.d0 h.la h.lb h.lc h.ld (H := 5) (F := 5) (V := V) (fun t ht => h.pw t (hs t ht)) (fun t ht => h.sz t (hs t ht)) ?_ (Nat.lt_trans h.m (by decide))
  exact Nat.lt_of_le_of_lt (Nat.mul_le_mul_right _ hl) (Nat.lt_trans h.few (by decide))
def atS : DSp := fun ds L k _ => ∃ (es : List T3) (a b c d : Int) (M V : Nat), ds = [.lst (es.map tD), .tup [.tup [.int a, .int b], .tup [.int c, .int d]]] ∧ SptOk M V a b c d es ∧ k (ratD (ev ((a : Rat) / b) ((c : Rat) / d) es)) L
theorem one_ev {a b c d : Int} (hb : b ≠ 0) (hd : d ≠ 0) {u : T3} (h : Pw2 5 5 [u]) : ((u.2.2 * a ^ u.1.toNat * c ^ u.2.1.toNat : Int) : Rat) / ((b ^ u.1.toNat * d ^ u.2.1.toNat : Int) : Rat) = ev ((a : Rat) / b) ((c : Rat) / d) [u] := by
  obtain ⟨⟨i0, i1⟩, j0, j1⟩ := h u List.mem_cons_self
  have e := tot_rat (a := a) (c := c) hb hd (H := u.1.toNat) (F := u.2.1.toNat) (es := [u]) (fun t ht => by rw [List.mem_singleton.mp ht]; exact ⟨⟨i0, by omega⟩, j0, by omega⟩)
  rw [← e]
  congr 2
  show _ = u.2.2 * a ^ u.1.toNat * b ^ (u.1.toNat - u.1.toNat) * c ^ u.2.1.toNat * d ^ (u.2.1.toNat - u.2.1.toNat) + 0
  rw [Nat.sub_self, Nat.sub_self, Int.pow_zero, Int.pow_zero, Int.mul_one, Int.mul_one, Int.add_zero]
section
variable {P : Program} {w : World} {K : PySem.W.Frag} {mg : Str → Option Value} {base : Heap} {cP : Addr}
local macro_rules | `(tactic| walk_at "w") => `(tactic| conv => whnf)
local macro_rules | `(tactic| walk_at "v") => `(tactic| ((conv => whnf); try dsimp only))
local macro_rules | `(tactic| walk_at "s") => `(tactic| ((conv => whnf); repeat ((first | refine ⟨sz_ok rfl, ?_⟩ | refine ⟨rfl, ?_⟩); conv => whnf)))
theorem scLBag : FnScope ["_law_script", "_law_mixed", "_law_cell"] ["_law_script"] (defScope sLBag) := ⟨rfl, rfl, rfl, by decide +kernel, rfl, by decide +kernel, by decide +kernel⟩
theorem ok_LBag {f : Addr} {fd : FuncData} (Z : Zn w K mg cP) (F : Fun K "_law_bag" "_law_bag" sLBag f fd) : FnOk P w K mg base (L2.CX P w) 1 f fd ["_law_script"] (spD K bagS) := by
  refine fn_ok F scLBag ?len (fun cdv A outer s H E hr => ?_)
  rotate_left
  · have tk := takes_of (X := cxOf (L2.CX P w) P w K mg base ["_law_script", "_law_mixed", "_law_cell"] "_law_bag" (defScope sLBag) f cdv A outer s H E) (E := E) rfl rfl rfl rfl
    have hp := passes_of (X := cxOf (L2.CX P w) P w K mg base ["_law_script", "_law_mixed", "_law_cell"] "_law_bag" (defScope sLBag) f cdv A outer s H E) rfl
    refine ⟨_, (ss_cons (s_set 1 scLBag.nd q_int)
  (ss_cons (s_for hp rfl (i_list (q_slice (qv 0) o_none (o_some q_int))) (g_name 2 scLBag.nd) (ss_one (s_set 1 scLBag.nd (q_op oq_mod (q_callTy cq_int (by rfl) Z.z_int bb_int (a_cons (q_op oq_add (q_op oq_add (q_op oq_mulU (qv 1) q_int) (q_op oq_mod (q_callTy cq_int (by rfl) Z.z_int bb_int (a_cons (qv 2) a_nil)) q_int)) q_int) a_nil)) q_int))))
  (ss_one (s_ret (q_lstM (a_cons (q_callTy cq_list (by rfl) Z.z_list bb_list (a_cons (q_slice (qv 0) o_none (o_some q_int)) a_nil)) (a_cons q_int (a_cons q_int (a_cons (qv 1) (a_cons q_int a_nil)))))))))), ?_⟩
    clear tk hp
    rintro ds L k x ⟨ns, rfl, h⟩
    obtain ⟨ms, e⟩ : ∃ ms : List Int, cutD (ns.map .int) none (some 63) = ms.map .int := ⟨(ns.drop (HT.sIx (ns.map D.int).length 0 none)).take (HT.sIx (ns.map D.int).length (ns.map D.int).length (some 63) - HT.sIx (ns.map D.int).length 0 none), by unfold cutD; rw [List.map_take, List.map_drop]⟩
    have key : ∀ (En : DEnds) (db : DS), (∀ (m : Int) (o : Option D), 0 ≤ m → m < 2147483497 → En.nx [some (.ro (ns.map .int)), some (.int m), o] L) →
        (∀ (E' : DEnds) (m v : Int), (∀ m' : Int, 0 ≤ m' → m' < 2147483497 → E'.nx [some (.ro (ns.map .int)), some (.int m'), some (.int v)] L) → db E' [some (.ro (ns.map .int)), some (.int m), some (.int v)] L) →
        ∀ (ms : List Int) (m : Int) (o : Option D), 0 ≤ m → m < 2147483497 → forD (dgName 2) db En (ms.map .int) [some (.ro (ns.map .int)), some (.int m), o] L := by
      intro En db hn hb ms
      induction ms with
      | nil => intro m o h0 h1; rw [List.map_nil, forD_nil]; exact hn m o h0 h1
      | cons v r ih => intro m o h0 h1; rw [List.map_cons, forD_cons]; exact hb _ m v fun m' q0 q1 => ih m' (some (.int v)) q0 q1
    walk_at "w"
    rw [e]
    refine key _ _ (fun m o h0 h1 => ?_) (fun E' m v hn => ?_) ms 12019 none (by decide) (by decide)
    · walk_at "w"
      rw [e]
      refine ⟨(by show 5 ≤ sizeLine; decide), fun p hp => ?_⟩
      exact h p ⟨ms, 0, 0, m, 0⟩ hp ⟨Int.le_refl 0, Int.natCast_nonneg _, Int.le_refl 0, h0, h1⟩
    · walk_at "w"
      refine ⟨.inl (.inr (by decide)), ?_⟩
      walk_at "w"
      refine ⟨(by show (2147483423 : Int) ≠ 0; decide), ?_⟩
      walk_at "w"
      refine ⟨(by show (2147483497 : Int) ≠ 0; decide), ?_⟩
      refine hn _ ?_ ?_
      · rw [Int.fmod_eq_emod_of_nonneg _ (by decide)]; exact Int.emod_nonneg _ (by decide)
      · rw [Int.fmod_eq_emod_of_nonneg _ (by decide)]; exact Int.emod_lt_of_pos _ (by decide)
  · rintro ds L k x ⟨ns, rfl, _⟩; rfl
theorem scLPull : FnScope ["_law_bag_here", "_law_many", "_law_cell", "_law_digit", "_law_seed"] ["_law_bag_here", "_law_many"] (defScope sLPull) := ⟨rfl, rfl, rfl, by decide +kernel, rfl, by decide +kernel, by decide +kernel⟩
theorem ok_LPull {f : Addr} {fd : FuncData} (Z : Zn w K mg cP) (F : Fun K "_law_pull" "_law_pull" sLPull f fd) : FnOk P w K mg base (L2.CX P w) 1 f fd ["_law_bag_here", "_law_many"] (spD K pullS) := by
  refine fn_ok F scLPull ?len (fun cdv A outer s H E hr => ?_)
  rotate_left
  · have tk := takes_of (X := cxOf (L2.CX P w) P w K mg base ["_law_bag_here", "_law_many", "_law_cell", "_law_digit", "_law_seed"] "_law_pull" (defScope sLPull) f cdv A outer s H E) (E := E) rfl rfl rfl rfl
    have hp := passes_of (X := cxOf (L2.CX P w) P w K mg base ["_law_bag_here", "_law_many", "_law_cell", "_law_digit", "_law_seed"] "_law_pull" (defScope sLPull) f cdv A outer s H E) rfl
    refine ⟨_, (ss_cons (s_store (q_op oq_add (q_ix (qv 0) q_int) q_int) (qv 0) q_int)
  (ss_cut (s_if (w_and (t_cmp (oq_eqU hr.units) (q_ix (qv 0) q_int) q_int) (w_and1 (t_cmp oq_lt (q_ix (qv 0) q_int) (q_callB cq_len (by rfl) Z.z_len bb_len (a_cons (q_ix (qv 0) q_int) a_nil))))).t (ss_cons (s_set 2 scLPull.nd (q_ix (q_ix (qv 0) q_int) (q_ix (qv 0) q_int)))
  (ss_cons (s_store (q_op oq_add (q_ix (qv 0) q_int) q_int) (qv 0) q_int)
  (ss_one (s_if (t_cmp oq_ge (qv 2) (q_op oq_pow q_int q_int)) (ss_one (s_store (qv 2) (qv 0) q_int)) (ss_one (s_store (q_op oq_mod (q_callTy cq_int (by rfl) Z.z_int bb_int (a_cons (q_op oq_add (q_op oq_add (q_op oq_mulU (q_ix (qv 0) q_int) q_int) (q_op oq_mulU (q_op oq_mod (q_callTy cq_int (by rfl) Z.z_int bb_int (a_cons (qv 2) a_nil)) q_int) q_int)) q_int) a_nil)) q_int) (qv 0) q_int)))))) ss_nil)
  (ss_cons (s_if (t_cmp oq_gt (q_ix (qv 0) q_int) q_int) (ss_cons (s_set 3 scLPull.nd (q_op oq_mod (q_callTy cq_int (by rfl) Z.z_int bb_int (a_cons (q_ix (qv 0) q_int) a_nil)) (qv 1)))
  (ss_cons (s_store (q_op oq_fdiv (q_ix (qv 0) q_int) (qv 1)) (qv 0) q_int)
  (ss_one (s_ret (qv 3))))) ss_nil)
  (ss_cons (s_set 4 scLPull.nd (q_callTy cq_int (by rfl) Z.z_int bb_int (a_cons (q_ix (qv 0) q_int) a_nil)))
  (ss_cons (s_store (q_op oq_mod (q_callTy cq_int (by rfl) Z.z_int bb_int (a_cons (q_op oq_add (q_op oq_add (q_op oq_add (q_op oq_pow (qv 4) q_int) (q_op oq_mulU (qv 4) q_int)) (q_op oq_mulU (q_ix (qv 0) q_int) q_int)) q_int) a_nil)) q_int) (qv 0) q_int)
  (ss_one (s_ret (q_op oq_mod (q_callTy cq_int (by rfl) Z.z_int bb_int (a_cons (q_op oq_add (q_op oq_fdiv (q_ix (qv 0) q_int) q_int) (q_op oq_mulU (q_op oq_mod (q_callTy cq_int (by rfl) Z.z_int bb_int (a_cons (q_ix (qv 0) q_int) a_nil)) q_int) q_int)) a_nil)) (qv 1))))))))), ?_⟩
    clear tk hp
    rintro ds L k x ⟨p, b, m, rfl, hl, ok, m0, m1, h⟩
    obtain ⟨cs, at_, rest, mix, cnt⟩ := b
    have k1 : ∀ d, (setL L p d).lookup p = some d := fun d => lookup_setL hl
    walk_at "w"
    rw [con_ptr hl]
    walk_at "w"
    rw [hl]
    walk_at "w"
    refine ⟨fun env' L' => ∃ (b' : Bag) (o : Option D), BagOk b' ∧ env' = [some (.ptr p), some (.int m), o, none, none] ∧ L' = setL L p (bagC b'), ?_, ?_⟩
    · have st : ∀ (L' : Led) (b' : Bag) (o : Option D), BagOk b' → L' = setL L p (bagC b') → ∃ (b'' : Bag) (o' : Option D), BagOk b'' ∧ [some (D.ptr p), some (D.int m), o, none, none] = [some (.ptr p), some (.int m), o', none, none] ∧ L' = setL L p (bagC b'') := fun L' b' o z e => ⟨b', o, z, rfl, e⟩
      walk_at "w"
      rw [con_ptr (k1 _)]
      walk_at "w"
      try dsimp only
      cases h2 : flEq (D.int rest) (D.int 0) with
      | false => exact st _ ⟨cs, at_, rest, mix, cnt + 1⟩ none ⟨ok.a0, ok.a1, ok.r0, ok.m0, ok.m1⟩ rfl
      | true =>
        walk_at "w"
        rw [con_ptr (k1 _)]
        walk_at "w"
        rw [con_ptr (k1 _)]
        walk_at "w"
        try dsimp only
        cases h3 : decide (at_ < ((cs.map D.int).length : Int)) with
        | false => exact st _ ⟨cs, at_, rest, mix, cnt + 1⟩ none ⟨ok.a0, ok.a1, ok.r0, ok.m0, ok.m1⟩ rfl
        | true =>
          have h3 := of_decide_eq_true h3
          rw [List.length_map] at h3
          have a0 : 0 ≤ at_ := ok.a0
          obtain ⟨n, rfl⟩ := Int.eq_ofNat_of_zero_le a0
          have hn : n < cs.length := by omega
          have hat : atI (cs.map D.int) (n : Int) = some (.int cs[n]) := atI_nat (by rw [List.getElem?_map, List.getElem?_eq_getElem hn]; rfl)
          walk_at "w"
          rw [con_ptr (k1 _)]
          walk_at "w"
          rw [con_ptr (k1 _)]
          walk_at "w"
          rw [show atI (List.map D.int (Bag.mk cs (n : Int) rest mix cnt).cells) (Bag.mk cs (n : Int) rest mix cnt).at_ = some (D.int cs[n]) from hat]
          walk_at "w"
          rw [con_ptr (k1 _)]
          walk_at "w"
          rw [k1]
          walk_at "w"
          rw [setL_setL]
          walk_at "w"
          refine ⟨⟨by decide, by decide, by decide⟩, ?_⟩
          walk_at "w"
          cases h4 : decide ((10 : Int) ^ (Int.toNat 18) ≤ cs[n]) with
          | true =>
            have h4 := of_decide_eq_true h4
            walk_at "w"
            rw [k1]
            walk_at "w"
            rw [setL_setL]
            refine st _ ⟨cs, n + 1, cs[n], mix, cnt + 1⟩ _ ⟨?_, ?_, ?_, ok.m0, ok.m1⟩ rfl
            · show (0 : Int) ≤ n + 1; omega
            · show (n : Int) + 1 ≤ cs.length; omega
            · show 0 ≤ cs[n]
              have : (0 : Int) ≤ 10 ^ (Int.toNat 18) := by decide +kernel
              omega
          | false =>
            walk_at "w"
            rw [con_ptr (k1 _)]
            walk_at "w"
            refine ⟨.inl (.inr (by decide)), ?_⟩
            walk_at "w"
            refine ⟨(by show (2147483423 : Int) ≠ 0; decide), ?_⟩
            walk_at "w"
            refine ⟨.inl (.inr (by decide)), ?_⟩
            walk_at "w"
            refine ⟨(by show (2147483489 : Int) ≠ 0; decide), ?_⟩
            walk_at "w"
            rw [k1]
            walk_at "w"
            rw [setL_setL]
            refine st _ ⟨cs, n + 1, rest, (mix * 39317 + cs[n].fmod 2147483423 * 691 + 43).fmod 2147483489, cnt + 1⟩ _ ⟨?_, ?_, ok.r0, ?_, ?_⟩ rfl
            · show (0 : Int) ≤ n + 1; omega
            · show (n : Int) + 1 ≤ cs.length; omega
            · show (0 : Int) ≤ Int.fmod _ _
              rw [Int.fmod_eq_emod_of_nonneg _ (by decide)]; exact Int.emod_nonneg _ (by decide)
            · show Int.fmod _ _ < (2147483497 : Int)
              rw [Int.fmod_eq_emod_of_nonneg _ (by decide)]
              have := Int.emod_lt_of_pos (mix * 39317 + cs[n].fmod 2147483423 * 691 + 43) (show (0 : Int) < 2147483489 by decide)
              omega
    · rintro env' L' ⟨⟨cs, at_, rest, mix, cnt⟩, o, ok', rfl, rfl⟩
      have r0 : 0 ≤ rest := ok'.r0
      have fm : ∀ z : Int, 0 ≤ z.fmod m ∧ z.fmod m < m := fun z => by
        rw [Int.fmod_eq_emod_of_nonneg _ (Int.le_of_lt m0)]
        exact ⟨Int.emod_nonneg _ (by omega), Int.emod_lt_of_pos _ m0⟩
      walk_at "w"
      rw [con_ptr (k1 _)]
      walk_at "w"
      try dsimp only
      cases h2 : decide (0 < rest) with
      | true =>
        walk_at "w"
        rw [con_ptr (k1 _)]
        walk_at "w"
        refine ⟨(by show m ≠ 0; omega), ?_⟩
        walk_at "w"
        rw [con_ptr (k1 _)]
        walk_at "w"
        refine ⟨⟨(by omega), m1⟩, ?_⟩
        walk_at "w"
        rw [k1]
        walk_at "w"
        rw [setL_setL]
        refine h _ ⟨cs, at_, rest.fdiv m, mix, cnt⟩ (fm rest).1 (fm rest).2 ⟨ok'.a0, ok'.a1, ?_, ok'.m0, ok'.m1⟩
        exact Int.fdiv_nonneg r0 (Int.le_of_lt m0)
      | false =>
        walk_at "w"
        rw [con_ptr (k1 _)]
        walk_at "w"
        have hm0 : 0 ≤ mix := ok'.m0
        have hm1 : mix < 2147483497 := ok'.m1
        refine ⟨⟨by decide, by decide, (by show mix.natAbs < 2 ^ 64; omega)⟩, ?_⟩
        walk_at "w"
        refine ⟨.inl (.inr (by decide)), ?_⟩
        walk_at "w"
        rw [con_ptr (k1 _)]
        walk_at "w"
        refine ⟨.inl (.inr (by decide)), ?_⟩
        walk_at "w"
        refine ⟨(by show (2147483489 : Int) ≠ 0; decide), ?_⟩
        walk_at "w"
        rw [k1]
        walk_at "w"
        rw [setL_setL]
        rw [con_ptr (k1 _)]
        walk_at "w"
        refine ⟨⟨by decide, by decide +kernel⟩, ?_⟩
        walk_at "w"
        rw [con_ptr (k1 _)]
        walk_at "w"
        refine ⟨(by show (7919 : Int) ≠ 0; decide), ?_⟩
        walk_at "w"
        refine ⟨.inl (.inr (by decide)), ?_⟩
        walk_at "w"
        refine ⟨(by show m ≠ 0; omega), ?_⟩
        refine h _ ⟨cs, at_, rest, (mix ^ Int.toNat 3 + mix * 27073 + cnt * 1299827 + 70001).fmod 2147483489, cnt⟩ (fm _).1 (fm _).2 ⟨ok'.a0, ok'.a1, ok'.r0, ?_, ?_⟩
        · show (0 : Int) ≤ Int.fmod _ _
          rw [Int.fmod_eq_emod_of_nonneg _ (by decide)]; exact Int.emod_nonneg _ (by decide)
        · show Int.fmod _ _ < (2147483497 : Int)
          rw [Int.fmod_eq_emod_of_nonneg _ (by decide)]
          have := Int.emod_lt_of_pos (mix ^ Int.toNat 3 + mix * 27073 + cnt * 1299827 + 70001) (show (0 : Int) < 2147483489 by decide)
          omega
  · rintro ds L k x ⟨p, b, m, rfl, _⟩; rfl
theorem scLOf : FnScope ["_law_bag_here", "_law_some"] ["_law_bag_here", "_law_some"] (defScope sLOf) := ⟨rfl, rfl, rfl, by decide +kernel, rfl, by decide +kernel, by decide +kernel⟩
theorem ok_LOf {f : Addr} {fd : FuncData} (Z : Zn w K mg cP) (F : Fun K "_law_of" "_law_of" sLOf f fd) (CLPull : Cal P w K mg base 1 "_law_pull" ["_law_bag_here", "_law_many"] [] pullS) : FnOk P w K mg base (L2.CX P w) 2 f fd ["_law_bag_here", "_law_some"] (spD K ofA) := by
  refine fn_ok F scLOf ?len (fun cdv A outer s H E hr => ?_)
  rotate_left
  · have tk := takes_of (X := cxOf (L2.CX P w) P w K mg base ["_law_bag_here", "_law_some"] "_law_of" (defScope sLOf) f cdv A outer s H E) (E := E) rfl rfl rfl rfl
    have hp := passes_of (X := cxOf (L2.CX P w) P w K mg base ["_law_bag_here", "_law_some"] "_law_of" (defScope sLOf) f cdv A outer s H E) rfl
    refine ⟨_, (ss_one (s_ret (q_ixA (qv 1) (q_cal CLPull (by first | decide | exact Nat.le_refl _ | omega) hr tk (by rfl) (a_cons (qv 0) (a_cons (q_callB cq_len (by rfl) Z.z_len bb_len (a_cons (qv 1) a_nil)) a_nil)))))), ?_⟩
    clear tk hp
    rintro ds L k x ⟨p, b, s, xs, rfl, hs, hl, ok, x0, x1, h⟩
    have lg : ∀ n : Nat, 0 < n → n < 1000 → ((n : Int)).natAbs.log2 < 9000 := fun n n0 n1 => by
      rw [Int.natAbs_natCast]
      have : n.log2 < 10 := by
        rw [Nat.log2_lt (by omega)]
        omega
      omega
    cases s <;> first | cases hs; done | skip
    · rename_i z
      cases hs
      rw [sgD, List.length_map] at x0 x1
      have x0 : 0 < z.length := x0
      have x1 : z.length < 1000 := x1
      have zs : z.length ≤ sizeLine := Nat.le_trans (Nat.le_of_lt x1) (by decide)
      walk_at "w"
      refine ⟨zs, ?_⟩
      walk_at "w"
      refine ⟨p, b, z.length, rfl, hl, ok, by omega, lg _ x0 x1, fun r b' r0 r1 ok' => ?_⟩
      obtain ⟨n, rfl⟩ := Int.eq_ofNat_of_zero_le r0
      have hn : n < z.cps.toList.length := by show n < z.length; omega
      walk_at "w"
      refine ⟨zs, ?_⟩
      rw [show atI z.cps.toList (n : Int) = some z.cps.toList[n] from atI_nat (List.getElem?_eq_getElem hn)]
      exact h _ b' (List.mem_map.mpr ⟨_, List.getElem_mem hn, rfl⟩) ok'
    · rename_i l
      have e : l = xs := by injection hs
      subst e
      walk_at "w"
      refine ⟨p, b, l.length, rfl, hl, ok, by omega, lg _ x0 x1, fun r b' r0 r1 ok' => ?_⟩
      obtain ⟨n, rfl⟩ := Int.eq_ofNat_of_zero_le r0
      have hn : n < l.length := by omega
      walk_at "w"
      rw [show atI l (n : Int) = some l[n] from atI_nat (List.getElem?_eq_getElem hn)]
      exact h _ b' (List.getElem_mem hn) ok'
  · rintro ds L k x ⟨p, b, s, xs, rfl, _⟩; rfl
theorem scLSame : FnScope ["_law_found", "_law_due", "_law_one", "_law_two"] ["_law_found", "_law_due"] (defScope sLSame) := ⟨rfl, rfl, rfl, by decide +kernel, rfl, by decide +kernel, by decide +kernel⟩
theorem ok_LSame {f : Addr} {fd : FuncData} {n : Nat} (Z : Zn w K mg cP) (F : Fun K "_law_same" "_law_same" sLSame f fd) (CLSame : Cal P w K mg base n "_law_same" ["_law_found", "_law_due"] [] (sameS n)) : FnOk P w K mg base (L2.CX P w) (n + 1) f fd ["_law_found", "_law_due"] (spD K (sameS (n + 1))) := by
  refine fn_ok F scLSame ?len (fun cdv A outer s H E hr => ?_)
  rotate_left
  · have tk := takes_of (X := cxOf (L2.CX P w) P w K mg base ["_law_found", "_law_due", "_law_one", "_law_two"] "_law_same" (defScope sLSame) f cdv A outer s H E) (E := E) rfl rfl rfl rfl
    have hp := passes_of (X := cxOf (L2.CX P w) P w K mg base ["_law_found", "_law_due", "_law_one", "_law_two"] "_law_same" (defScope sLSame) f cdv A outer s H E) rfl
    refine ⟨_, (ss_cons (s_if (t_val (q_isi2 .lst .tup (qv 1) (by rfl) Z.z_isinstance (by rfl) Z.z_list bb_list (by rfl) Z.z_tuple bb_tuple)) (ss_cons (s_if (w_or (t_cmp (oq_neU hr.units) (q_isi .lst (qv 0) (by rfl) Z.z_isinstance (by rfl) Z.z_list bb_list) (q_isi .lst (qv 1) (by rfl) Z.z_isinstance (by rfl) Z.z_list bb_list)) (w_or1 (t_cmp (oq_neU hr.units) (q_isi .tup (qv 0) (by rfl) Z.z_isinstance (by rfl) Z.z_tuple bb_tuple) (q_isi .tup (qv 1) (by rfl) Z.z_isinstance (by rfl) Z.z_tuple bb_tuple)))).t (ss_one (s_ret q_bl)) ss_nil)
  (ss_one (s_ret (q_and (q_cmp (oq_eqU hr.units) (q_callB cq_len (by rfl) Z.z_len bb_len (a_cons (qv 0) a_nil)) (q_callB cq_len (by rfl) Z.z_len bb_len (a_cons (qv 1) a_nil))) (q_one (q_callB (cq_all rfl) (by rfl) Z.z_all bb_all (a_cons (q_lc rfl scLSame.nd (i_zip (by rfl) Z.z_zip (a_cons (qv 0) (a_cons (qv 1) a_nil))) (blkOk_by (own := [("_law_one", 2), ("_law_two", 3)]) (N := ["_law_found", "_law_due", "_law_one", "_law_two"]) (sc := (defScope sLSame)) (by decide +kernel)) (fun _ _ _ _ _ => (g_tup (n := 2) rfl (gs_cons (g_name 2 scLSame.nd) (gs_cons (g_name 3 scLSame.nd) gs_nil)))) (fun _ _ _ _ _ => ts_nil) (fun _ _ _ _ _ => (q_cal CLSame (by first | decide | exact Nat.le_refl _ | omega) hr takes0 (by rfl) (a_cons (qv 2) (a_cons (qv 3) a_nil))))) a_nil))))))) ss_nil)
  (ss_cons (s_if (w_or (t_cmp oq_isN (qv 1) q_non) (w_or1 (t_cmp oq_isN (qv 0) q_non))).t (ss_one (s_ret (q_and (q_cmp oq_isN (qv 1) q_non) (q_one (q_cmp oq_isN (qv 0) q_non))))) ss_nil)
  (ss_cons (s_if (w_or (t_cmp (oq_neU hr.units) (q_isi .bl (qv 0) (by rfl) Z.z_isinstance (by rfl) Z.z_bool bb_bool) (q_isi .bl (qv 1) (by rfl) Z.z_isinstance (by rfl) Z.z_bool bb_bool)) (w_or1 (t_cmp (oq_neU hr.units) (q_isi .int (qv 0) (by rfl) Z.z_isinstance (by rfl) Z.z_int bb_int) (q_isi .int (qv 1) (by rfl) Z.z_isinstance (by rfl) Z.z_int bb_int)))).t (ss_one (s_ret q_bl)) ss_nil)
  (ss_one (s_ret (q_and (q_cmp (oq_eqU hr.units) (q_isi .str (qv 0) (by rfl) Z.z_isinstance (by rfl) Z.z_str bb_str) (q_isi .str (qv 1) (by rfl) Z.z_isinstance (by rfl) Z.z_str bb_str)) (q_one (q_cmp (oq_eqU hr.units) (qv 0) (qv 1))))))))), ?_⟩
    clear tk hp
    rintro ds L k x ⟨a, b, rfl, oa, ob, hd, h⟩
    have seq : ∀ (kk : DK) (p : Addr) (e0 : DEnv) (e1 : D → D → DEnv), ¬ inL L p → ∀ (dg : DG) (de : DE), (∀ (x y : D) (L' : Led) (g : DEnv → Prop), g (e1 x y) → dg (.tup [x, y]) e0 L' g) → (∀ (x y : D) (L' : Led) (g : DK) (gx : DX), okP x = true → okP y = true → dep y < n → g (.bl (sameD x y)) L' → de (e1 x y) L' g gx) →
        ∀ (xs ys acc : List D), xs.length = ys.length → okPs xs = true → okPs ys = true → deps ys < n → acc.length + xs.length < 200000 → (∀ bs : List Bool, bs.all id = sameL xs ys → kk (.lst (acc ++ bs.map .bl)) L) → lcD dg dYes de e0 p kk (zipD xs ys) acc ((p, .lst acc) :: L) := by
      intro kk p e0 e1 hp dg de hg he xs
      induction xs with
      | nil =>
        intro ys acc hl _ _ _ _ hk
        cases ys with
        | cons _ _ => simp at hl
        | nil =>
          show lcD _ _ _ _ _ _ [] _ _
          rw [lcD_nil, remL_top hp]
          have := hk [] (by unfold sameL; rfl)
          rw [List.map_nil, List.append_nil] at this
          exact this
      | cons x r ih =>
        intro ys acc hl o1 o2 d2 ha hk
        cases ys with
        | nil => simp at hl
        | cons y s =>
          show lcD _ _ _ _ _ _ (.tup [x, y] :: zipD r s) _ _
          rw [lcD_cons]
          unfold okPs at o1 o2
          rw [Bool.and_eq_true] at o1 o2
          unfold deps at d2
          refine hg x y _ _ ?_
          show de (e1 x y) _ _ _
          refine he x y _ _ _ o1.1 o2.1 (by omega) ⟨lookup_top, ?_, ?_⟩
          · have z : (200000 : Nat) ≤ sizeLine := by decide
            omega
          · rw [setL_top hp]
            refine ih s (acc ++ [.bl (sameD x y)]) (by simpa using hl) o1.2 o2.2 (by omega) (by simp at ha ⊢; omega) fun bs hb => ?_
            have := hk (sameD x y :: bs) (by unfold sameL; rw [List.all_cons, hb]; rfl)
            rw [List.map_cons] at this
            rw [List.append_assoc]
            exact this
    have both : ∀ (xs ys : List D) (kk : DK) (p : Addr) (e0 : DEnv), xs.length = ys.length → okPs xs = true → okPs ys = true → deps ys < n → xs.length < 100000 → (∀ bs : List Bool, bs.all id = sameL xs ys → kk (.lst (bs.map .bl)) L) → ¬ inL L p → ∀ u v, e0 = [u, v, none, none] → lcD (dgTup 2 (dgCons (dgName 2) (dgCons (dgName 3) dgNil))) dYes (dCall (sameS n) [] (dCons (dVar 2) (dCons (dVar 3) dNil))) e0 p kk (zipD xs ys) [] ((p, .lst []) :: L) := by
      intro xs ys kk p e0 hl o1 o2 d2 hz hk hp u v he0
      subst he0
      refine seq kk p _ (fun x y => [u, v, some x, some y]) hp _ _ (fun x y L' g hg => ⟨rfl, hg⟩) (fun x y L' g gx o1 o2 d hg => ?_) xs ys [] hl o1 o2 d2 (by simpa using (by omega : xs.length < 200000)) fun bs hb => hk bs hb
      exact ⟨x, y, rfl, o1, o2, d, hg⟩
    have fin : ∀ (xs ys : List D), okP (.lst xs) = true → okP (.lst ys) = true → deps ys + 1 < n + 1 → sameD a b = sameL xs ys → (decide ((xs.length : Int) = (ys.length : Int)) = false → k (.bl false) L) ∧ (decide ((xs.length : Int) = (ys.length : Int)) = true → xs.length = ys.length ∧ okPs xs = true ∧ okPs ys = true ∧ deps ys < n ∧ xs.length < 100000) := by
      intro xs ys o1 o2 d2 e
      refine ⟨fun z => ?_, fun z => ?_⟩
      · have := of_decide_eq_false z
        rw [e, sameL_len (by omega)] at h
        exact h
      · have := of_decide_eq_true z
        unfold okP at o1 o2
        rw [Bool.and_eq_true] at o1 o2
        exact ⟨by omega, o1.2, o2.2, by omega, of_decide_eq_true o1.1⟩
    have all_ : ∀ (bs : List Bool) (r : Bool), bs.all id = r → k (.bl r) L → gAll [.lst (bs.map .bl)] L fun d => k d L := by
      intro bs r e hk
      show (match blsOf (bs.map .bl) with | some bs => k (.bl (bs.all id)) L | none => False)
      rw [blsOf_map]
      show k (.bl (bs.all id)) L
      rw [e]; exact hk
    cases b with
    | lst ys =>
      cases a with
      | lst xs =>
        have e : sameD (.lst xs) (.lst ys) = sameL xs ys := by unfold sameD; rfl
        rw [e] at h
        unfold dep at hd
        obtain ⟨f1, f2⟩ := fin xs ys oa ob hd e
        walk_at "w"
        cases hh : flEq (D.int (xs.length : Int)) (D.int (ys.length : Int)) with
        | false => exact f1 hh
        | true =>
          obtain ⟨q1, q2, q3, q4, q5⟩ := f2 hh
          walk_at "w"
          intro p hp
          exact both xs ys _ p _ q1 q2 q3 q4 q5 (fun bs hb => all_ bs _ hb h) hp _ _ rfl
      | _ => first | (simp [okP] at oa; done) | (unfold sameD at h; exact h)
    | tup ys =>
      cases a with
      | tup xs =>
        have e : sameD (.tup xs) (.tup ys) = sameL xs ys := by unfold sameD; rfl
        rw [e] at h
        unfold dep at hd
        obtain ⟨f1, f2⟩ := fin xs ys oa ob hd e
        walk_at "w"
        cases hh : flEq (D.int (xs.length : Int)) (D.int (ys.length : Int)) with
        | false => exact f1 hh
        | true =>
          obtain ⟨q1, q2, q3, q4, q5⟩ := f2 hh
          walk_at "w"
          intro p hp
          exact both xs ys _ p _ q1 q2 q3 q4 q5 (fun bs hb => all_ bs _ hb h) hp _ _ rfl
      | _ => first | (simp [okP] at oa; done) | (unfold sameD at h; exact h)
    | non => cases a <;> first | (simp [okP] at oa; done) | (unfold sameD at h; exact h)
    | bl v => cases a <;> first | (simp [okP] at oa; done) | (unfold sameD at h; exact h)
    | int v => cases a <;> first | (simp [okP] at oa; done) | (unfold sameD at h; exact h)
    | str v => cases a <;> first | (simp [okP] at oa; done) | (unfold sameD at h; exact h)
    | _ => simp [okP] at ob
  · rintro ds L k x ⟨a, b, rfl, _⟩; rfl
theorem scLGcd : FnScope ["_law_one", "_law_two", "_law_k"] ["_law_one", "_law_two"] (defScope sLGcd) := ⟨rfl, rfl, rfl, by decide +kernel, rfl, by decide +kernel, by decide +kernel⟩
theorem ok_LGcd {f : Addr} {fd : FuncData} (Z : Zn w K mg cP) (F : Fun K "_law_gcd" "_law_gcd" sLGcd f fd) : FnOk P w K mg base (L2.CX P w) 1 f fd ["_law_one", "_law_two"] (spD K gcdS) := by
  refine fn_ok F scLGcd ?len (fun cdv A outer s H E hr => ?_)
  rotate_left
  · have tk := takes_of (X := cxOf (L2.CX P w) P w K mg base ["_law_one", "_law_two", "_law_k"] "_law_gcd" (defScope sLGcd) f cdv A outer s H E) (E := E) rfl rfl rfl rfl
    have hp := passes_of (X := cxOf (L2.CX P w) P w K mg base ["_law_one", "_law_two", "_law_k"] "_law_gcd" (defScope sLGcd) f cdv A outer s H E) rfl
    refine ⟨_, (ss_cons (s_par 0 1 rfl scLGcd.nd (a_cons (q_callB cq_abs (by rfl) Z.z_abs bb_abs (a_cons (qv 0) a_nil)) (a_cons (q_callB cq_abs (by rfl) Z.z_abs bb_abs (a_cons (qv 1) a_nil)) a_nil)))
  (ss_cons (s_for hp rfl (i_range1 (by rfl) Z.z_range (a_cons q_int a_nil)) (g_name 2 scLGcd.nd) (ss_cons (s_if (t_cmp (oq_eqU hr.units) (qv 1) q_int) (ss_one (s_ret (qv 0))) ss_nil)
  (ss_one (s_par 0 1 rfl scLGcd.nd (a_cons (qv 1) (a_cons (q_op oq_mod (q_callTy cq_int (by rfl) Z.z_int bb_int (a_cons (qv 0) a_nil)) (qv 1)) a_nil))))))
  (ss_one (s_ret (qv 0))))), ?_⟩
    clear tk hp
    rintro ds L k x ⟨a, b, rfl, ha, hb, h⟩
    have key : ∀ (En : DEnds) (db : DS), (∀ (E' : DEnds) (x y j : Int), E'.rt = En.rt → 0 ≤ x → 0 ≤ y → (y = 0 → E'.rt (.int x) L) → (y ≠ 0 → E'.nx [some (.int y), some (.int (x.fmod y)), some (.int j)] L) → db E' [some (.int x), some (.int y), some (.int j)] L) →
        ∀ (n : Nat) (lo x y : Int) (o : Option D), 0 ≤ x → 0 ≤ y → y ≤ x → x * y < 2 ^ n → En.rt (.int (gcdI x y)) L → forD (dgName 2) db En (rngD lo (n + 1)) [some (.int x), some (.int y), o] L := by
      intro En db hb n
      induction n with
      | zero =>
        intro lo x y o hx hy hyx hp hr
        have y0 : y = 0 := by
          rcases Int.lt_or_eq_of_le hy with z | z
          · have : 1 * 1 ≤ x * y := Int.mul_le_mul (by omega) (by omega) (by decide) hx
            omega
          · exact z.symm
        show forD _ _ _ (.int lo :: rngD (lo + 1) 0) _ _
        rw [forD_cons]
        refine hb _ x y lo rfl hx hy (fun _ => ?_) (fun z => absurd y0 z)
        rw [y0, gcdI_zero hx] at hr
        exact hr
      | succ n ih =>
        intro lo x y o hx hy hyx hp hr
        show forD _ _ _ (.int lo :: rngD (lo + 1) (n + 1)) _ _
        rw [forD_cons]
        refine hb _ x y lo rfl hx hy (fun z => ?_) (fun z => ?_)
        · rw [z, gcdI_zero hx] at hr
          exact hr
        · have yp : 0 < y := by omega
          obtain ⟨f0, f1, _⟩ := fmod_bounds hx yp
          refine ih (lo + 1) y (x.fmod y) _ hy f0 (by omega) ?_ ?_
          · have := half_step yp hyx
            rw [Int.pow_succ] at hp
            omega
          · rw [gcdI_step hx yp]
            exact hr
    have abs0 : ∀ z : Int, 0 ≤ (if z < 0 then -z else z) := fun z => by split <;> omega
    have absb : ∀ z : Int, z.natAbs < 2 ^ 1990 → (if z < 0 then -z else z) < 2 ^ 1990 := fun z hz => by
      have e : (if z < 0 then -z else z) = (z.natAbs : Int) := by split <;> omega
      rw [e]
      exact_mod_cast hz
    have hprod : ∀ x y : Int, 0 ≤ x → 0 ≤ y → x < 2 ^ 1990 → y < 2 ^ 1990 → x * y < 2 ^ 3998 := fun x y hx hy h1 h2 => by
      have q1 : x * y ≤ 2 ^ 1990 * 2 ^ 1990 := Int.mul_le_mul (Int.le_of_lt h1) (Int.le_of_lt h2) hy (by exact Int.le_of_lt (Int.pow_pos (by decide)))
      have q2 : (2 : Int) ^ 1990 * 2 ^ 1990 < 2 ^ 3998 := by decide +kernel
      exact Int.lt_of_le_of_lt q1 q2
    have h : (endsD k x).rt (.int (gcdI (if a < 0 then -a else a) (if b < 0 then -b else b))) L := by rw [gcdI_abs]; exact h
    walk_at "w"
    refine ⟨by decide, ?_⟩
    have a0 := abs0 a
    have b0 := abs0 b
    have a1 := absb a ha
    have b1 := absb b hb
    generalize (if a < 0 then -a else a) = x' at *
    generalize (if b < 0 then -b else b) = y' at *
    clear abs0 absb
    have turn : ∀ (E' : DEnds) (x y j : Int), 0 ≤ x → 0 ≤ y → (y = 0 → E'.rt (.int x) L) → (y ≠ 0 → E'.nx [some (.int y), some (.int (x.fmod y)), some (.int j)] L) → (dSeq (dIfS (dB (dOp gEqU (dVar 1) (dC (D.int 0)))) (dRet (dVar 0)) dNext) (dPar 0 1 (dCons (dVar 1) (dCons (dOp gMod (dCB gInt (dCons (dVar 0) dNil)) (dVar 1)) dNil)))) E' [some (.int x), some (.int y), some (.int j)] L := by
      intro E' x y j hx hy h0 h1
      walk_at "w"
      cases h2 : flEq (D.int y) (D.int 0) with
      | true => exact h0 (of_decide_eq_true h2)
      | false =>
        have y0 : y ≠ 0 := of_decide_eq_false h2
        exact ⟨y0, h1 y0⟩
    show forD _ _ _ (rngD 0 4000) _ _
    by_cases hyx : y' ≤ x'
    · exact key _ _ (fun E' x y j _ => turn E' x y j) 3999 0 x' y' none a0 b0 hyx (Int.lt_of_lt_of_le (hprod x' y' a0 b0 a1 b1) (by decide +kernel)) h
    · show forD _ _ _ (.int 0 :: rngD (0 + 1) 3999) _ _
      rw [forD_cons]
      refine turn _ x' y' 0 a0 b0 (fun z => by omega) (fun z => ?_)
      have yp : 0 < y' := by omega
      obtain ⟨f0, f1, f2⟩ := fmod_bounds a0 yp
      refine key _ _ (fun E' x y j _ => turn E' x y j) 3998 (0 + 1) y' (x'.fmod y') _ b0 f0 (by omega) ?_ ?_
      · have q := Int.mul_le_mul_of_nonneg_left f2 b0
        have := hprod y' x' b0 a0 b1 a1
        exact Int.lt_of_le_of_lt q this
      · rw [gcdI_step a0 yp]
        exact h
  · rintro ds L k x ⟨a, b, rfl, _⟩; rfl
theorem scLLow : FnScope ["_law_top", "_law_under", "_law_shared"] ["_law_top", "_law_under"] (defScope sLLow) := ⟨rfl, rfl, rfl, by decide +kernel, rfl, by decide +kernel, by decide +kernel⟩
theorem ok_LLow {f : Addr} {fd : FuncData} (Z : Zn w K mg cP) (F : Fun K "_law_low" "_law_low" sLLow f fd) (CLGcd : Cal P w K mg base 1 "_law_gcd" ["_law_one", "_law_two"] [] gcdS) : FnOk P w K mg base (L2.CX P w) 2 f fd ["_law_top", "_law_under"] (spD K lowS) := by
  refine fn_ok F scLLow ?len (fun cdv A outer s H E hr => ?_)
  rotate_left
  · have tk := takes_of (X := cxOf (L2.CX P w) P w K mg base ["_law_top", "_law_under", "_law_shared"] "_law_low" (defScope sLLow) f cdv A outer s H E) (E := E) rfl rfl rfl rfl
    have hp := passes_of (X := cxOf (L2.CX P w) P w K mg base ["_law_top", "_law_under", "_law_shared"] "_law_low" (defScope sLLow) f cdv A outer s H E) rfl
    refine ⟨_, (ss_cons (s_set 2 scLLow.nd (q_cal CLGcd (by first | decide | exact Nat.le_refl _ | omega) hr tk (by rfl) (a_cons (qv 0) (a_cons (qv 1) a_nil))))
  (ss_cons (s_if (t_cmp oq_lt (qv 1) q_int) (ss_one (s_set 2 scLLow.nd (q_op oq_sub q_int (qv 2)))) ss_nil)
  (ss_one (s_ret (q_tup (a_cons (q_op oq_fdiv (qv 0) (qv 2)) (a_cons (q_op oq_fdiv (qv 1) (qv 2)) a_nil))))))), ?_⟩
    clear tk hp
    rintro ds L k x ⟨t, u, rfl, hu, ht, hu', h⟩
    have hg := gcdI_pos (a := t) hu
    have hl : (gcdI t u).natAbs.log2 < 9000 := by
      have e : (gcdI t u).natAbs ≤ u.natAbs := by have := gcdI_le (a := t) hu; omega
      have : (gcdI t u).natAbs.log2 < 1990 := by
        rw [Nat.log2_lt (by omega)]
        omega
      omega
    unfold lowI at h
    walk_at "w"
    refine ⟨t, u, rfl, ht, hu', ?_⟩
    walk_at "w"
    by_cases hn : u < 0
    · simp only [if_pos hn] at h
      rw [show decide (u < 0) = true from decide_eq_true hn]
      have e0 : (0 - gcdI t u).natAbs = (gcdI t u).natAbs := by omega
      have c : CDivA t (0 - gcdI t u) := ⟨by omega, by rw [e0]; exact hl⟩
      walk_at "w"
      refine ⟨c, ?_⟩
      walk_at "w"
      refine ⟨c, ?_⟩
      walk_at "w"
      exact ⟨(by show 2 ≤ sizeLine; decide), h⟩
    · simp only [if_neg hn] at h
      rw [show decide (u < 0) = false from decide_eq_false hn]
      have c : CDivA t (gcdI t u) := ⟨by omega, hl⟩
      walk_at "w"
      refine ⟨c, ?_⟩
      walk_at "w"
      refine ⟨c, ?_⟩
      walk_at "w"
      exact ⟨(by show 2 ≤ sizeLine; decide), h⟩
  · rintro ds L k x ⟨t, u, rfl, _⟩; rfl
theorem scLRatio : FnScope ["_law_bag_here", "_law_high", "_law_under"] ["_law_bag_here", "_law_high", "_law_under"] (defScope sLRatio) := ⟨rfl, rfl, rfl, by decide +kernel, rfl, by decide +kernel, by decide +kernel⟩
theorem ok_LRatio {f : Addr} {fd : FuncData} (Z : Zn w K mg cP) (F : Fun K "_law_ratio" "_law_ratio" sLRatio f fd) (CLPull : Cal P w K mg base 1 "_law_pull" ["_law_bag_here", "_law_many"] [] pullS) (CLLow : Cal P w K mg base 2 "_law_low" ["_law_top", "_law_under"] [] lowS) : FnOk P w K mg base (L2.CX P w) 3 f fd ["_law_bag_here", "_law_high", "_law_under"] (spD K ratS) := by
  refine fn_ok F scLRatio ?len (fun cdv A outer s H E hr => ?_)
  rotate_left
  · have tk := takes_of (X := cxOf (L2.CX P w) P w K mg base ["_law_bag_here", "_law_high", "_law_under"] "_law_ratio" (defScope sLRatio) f cdv A outer s H E) (E := E) rfl rfl rfl rfl
    have hp := passes_of (X := cxOf (L2.CX P w) P w K mg base ["_law_bag_here", "_law_high", "_law_under"] "_law_ratio" (defScope sLRatio) f cdv A outer s H E) rfl
    refine ⟨_, (ss_one (s_ret (q_cal CLLow (by first | decide | exact Nat.le_refl _ | omega) hr tk (by rfl) (a_cons (q_op oq_sub (q_cal CLPull (by first | decide | exact Nat.le_refl _ | omega) hr tk (by rfl) (a_cons (qv 0) (a_cons (q_op oq_add (q_op oq_mulU q_int (qv 1)) q_int) a_nil))) (qv 1)) (a_cons (q_op oq_add q_int (q_cal CLPull (by first | decide | exact Nat.le_refl _ | omega) hr tk (by rfl) (a_cons (qv 0) (a_cons (qv 2) a_nil)))) a_nil))))), ?_⟩
    clear tk hp
    rintro ds L k x ⟨p, g, hi, u, rfl, hl, ok, h0, h1, u0, u1, h⟩
    have lg : ∀ z : Int, 0 < z → z < 2 ^ 1990 → z.natAbs.log2 < 9000 := fun z z0 z1 => by
      have : z.natAbs.log2 < 1990 := by
        rw [Nat.log2_lt (by omega)]
        omega
      omega
    have two : (2 : Int) ^ 1900 * 2 < 2 ^ 1990 - 1 := by decide +kernel
    walk_at "w"
    refine ⟨.inl (.inl (by decide)), ?_⟩
    walk_at "w"
    refine ⟨p, g, 2 * hi + 1, rfl, hl, ok, by omega, lg _ (by omega) (by omega), fun r g1 r0 r1 ok1 => ?_⟩
    walk_at "w"
    refine ⟨p, g1, u, rfl, lookup_setL hl, ok1, u0, lg u u0 (by omega), fun q g2 q0 q1 ok2 => ?_⟩
    walk_at "w"
    refine ⟨r - hi, 1 + q, rfl, by omega, by omega, by omega, ?_⟩
    rw [setL_setL]
    obtain ⟨s1, s2, s3⟩ := lowI_spec (t := r - hi) (u := 1 + q) (by omega)
    obtain ⟨t1, t2⟩ := lowI_small (t := r - hi) (u := 1 + q) (by omega)
    exact h _ _ g2 ⟨s1, s2⟩ (by omega) (by omega) (by omega) ok2
  · rintro ds L k x ⟨p, g, hi, u, rfl, _⟩; rfl
theorem scLGathered : FnScope ["_law_terms_z", "_law_cells", "_law_i", "_law_j", "_law_worth_z", "_law_key"] ["_law_terms_z"] (defScope sLGathered) := ⟨rfl, rfl, rfl, by decide +kernel, rfl, by decide +kernel, by decide +kernel⟩
theorem ok_LGathered {f : Addr} {fd : FuncData} (Z : Zn w K mg cP) (F : Fun K "_law_gathered" "_law_gathered" sLGathered f fd) : FnOk P w K mg base (L2.CX P w) 1 f fd ["_law_terms_z"] (spD K gathS) := by
  refine fn_ok F scLGathered ?len (fun cdv A outer s H E hr => ?_)
  rotate_left
  · have tk := takes_of (X := cxOf (L2.CX P w) P w K mg base ["_law_terms_z", "_law_cells", "_law_i", "_law_j", "_law_worth_z", "_law_key"] "_law_gathered" (defScope sLGathered) f cdv A outer s H E) (E := E) rfl rfl rfl rfl
    have hp := passes_of (X := cxOf (L2.CX P w) P w K mg base ["_law_terms_z", "_law_cells", "_law_i", "_law_j", "_law_worth_z", "_law_key"] "_law_gathered" (defScope sLGathered) f cdv A outer s H E) rfl
    refine ⟨_, (ss_cons (s_set 1 scLGathered.nd q_dnewT)
  (ss_cons (s_sealT 1 (s_for hp rfl (i_list (qv 0)) (g_tup (n := 3) rfl (gs_cons (g_name 2 scLGathered.nd) (gs_cons (g_name 3 scLGathered.nd) (gs_cons (g_name 4 scLGathered.nd) gs_nil)))) (ss_one (s_storeT hr.units (q_op oq_add (q_getT hr.units (qv 1) (q_kt (a_cons (qv 2) (a_cons (qv 3) a_nil))) q_int) (qv 4)) (qv 1) (q_kt (a_cons (qv 2) (a_cons (qv 3) a_nil)))))))
  (ss_one (s_ret (q_lc rfl scLGathered.nd (i_list (q_callB cq_sortP (by rfl) Z.z_sorted bb_sorted (a_cons (q_callTy (cq_listT rfl) (by rfl) Z.z_list bb_list (a_cons (qv 1) a_nil)) a_nil))) (blkOk_by (own := [("_law_key", 5)]) (N := ["_law_terms_z", "_law_cells", "_law_i", "_law_j", "_law_worth_z", "_law_key"]) (sc := (defScope sLGathered)) (by decide +kernel)) (fun _ _ _ _ _ => (g_name 5 scLGathered.nd)) (fun _ _ _ _ _ => (ts_one (t_cmp (oq_neU hr.units) (q_ixT hr.units (qv 1) (qv 5)) q_int))) (fun _ _ _ _ _ => (q_tup (a_cons (q_ix (qv 5) q_int) (a_cons (q_ix (qv 5) q_int) (a_cons (q_ixT hr.units (qv 1) (qv 5)) a_nil)))))))))), ?_⟩
    clear tk hp
    rintro ds L k x ⟨ts, rfl, hn, h⟩
    walk_at "w"
    intro q hq
    walk_at "w"
    refine forD_rec (fun r env L2 => ∃ (us es : List T3) (o2 o3 o4 : Option D), r = us.map tD ∧ env = [some (.lst (ts.map tD)), some (.ptr q), o2, o3, o4, none] ∧ L2 = (q, dtD es) :: L ∧ us.foldl add1 es = gat ts ∧ es.length + us.length ≤ ts.length) ?step ?fin (ts.map tD) _ _ ⟨ts, [], none, none, none, rfl, rfl, rfl, rfl, by show 0 + _ ≤ _; omega⟩
    case fin =>
      rintro env L2 ⟨us, es, o2, o3, o4, hr, rfl, rfl, e, hz⟩
      cases us with
      | cons _ _ => cases hr
      | nil =>
        have e : es = gat ts := e
        subst e
        walk_at "w"
        rw [lookup_top]
        walk_at "w"
        rw [remL_top hq]
        rw [keys_pairs, pairsT_map]
        intro qs hp ha
        walk_at "w"
        intro q2 hq2
        refine lcD_pick pairT (fun q => tD (q.1, q.2, val (gat ts) q)) (fun q => decide (val (gat ts) q ≠ 0)) hq2 qs [] ?_ (fun q0 hq0 acc T F KK hT hF => ?_) ?_
        · have := hp.length_eq
          rw [List.length_map] at this
          have := gat_len ts
          show 0 + _ ≤ _
          omega
        · have e0 : lookG (ksD (gat ts)) (vsD (gat ts)) [Sum.inl q0.1, Sum.inl q0.2] = some (.int (val (gat ts) q0)) := look_val (hp.mem_iff.mp hq0)
          walk_at "w"
          rw [e0]
          walk_at "w"
          by_cases z : val (gat ts) q0 = 0
          · rw [show flEq (D.int (val (gat ts) q0)) (D.int 0) = true from decide_eq_true z]
            exact hF (by simp [z])
          · rw [show flEq (D.int (val (gat ts) q0)) (D.int 0) = false from decide_eq_false z]
            walk_at "w"
            rw [e0]
            walk_at "w"
            exact ⟨sz_ok rfl, hT (by simp [z])⟩
        · rw [List.nil_append]
          have := h qs hp ha
          unfold sel at this
          rw [List.map_map] at this
          exact this
    case step =>
      rintro E' d r env L2 _ _ _ _ ⟨us, es, o2, o3, o4, hr, rfl, rfl, e, hz⟩ hnx
      cases us with
      | nil => cases hr
      | cons u us =>
        cases hr
        walk_at "w"
        refine ⟨rfl, ?_⟩
        walk_at "w"
        rw [con_ptr lookup_top]
        walk_at "w"
        refine ⟨trivial, ?_⟩
        walk_at "w"
        refine ⟨sz_ok rfl, ?_⟩
        walk_at "w"
        rw [con_ptr lookup_top]
        walk_at "w"
        have e0 : (lookG (ksD es) (vsD es) [Sum.inl u.1, Sum.inl u.2.1]).getD (D.int 0) = .int ((look es (ky u)).getD 0) := by
          rw [show ([Sum.inl u.1, Sum.inl u.2.1] : List Key) = kk (ky u) from rfl, look_d]
          cases look es (ky u) <;> rfl
        rw [e0]
        walk_at "w"
        refine ⟨sz_ok rfl, ?_⟩
        walk_at "w"
        rw [lookup_top]
        walk_at "w"
        rw [List.length_cons] at hz
        have hlt : (ksD es).length < sizeLine := by
          rw [List.length_map]
          exact Nat.lt_of_lt_of_le (show es.length < 100000 by omega) (by decide)
        refine ⟨hlt, ?_⟩
        rw [setL_top hq]
        refine hnx _ _ ⟨us, add1 es u, _, _, _, rfl, rfl, ?_, e, ?_⟩
        · show (q, D.dt (putGk (kk (ky u)) (ksD es)) (putGv (kk (ky u)) (D.int ((look es (ky u)).getD 0 + u.2.2)) (ksD es) (vsD es))) :: L = _
          rw [putk_d es (ky u) ((look es (ky u)).getD 0 + u.2.2), putv_d]
          rfl
        · have : (add1 es u).length ≤ es.length + 1 := put_len es (ky u) ((look es (ky u)).getD 0 + u.2.2)
          omega
  · rintro ds L k x ⟨ts, rfl, _⟩; rfl
theorem scLTerms : FnScope ["_law_bag_here", "_law_high", "_law_many", "_law_size", "_law_found", "_law_k", "_law_i"] ["_law_bag_here", "_law_high", "_law_many", "_law_size"] (defScope sLTerms) := ⟨rfl, rfl, rfl, by decide +kernel, rfl, by decide +kernel, by decide +kernel⟩
theorem ok_LTerms {f : Addr} {fd : FuncData} (Z : Zn w K mg cP) (F : Fun K "_law_terms" "_law_terms" sLTerms f fd) (CLPull : Cal P w K mg base 1 "_law_pull" ["_law_bag_here", "_law_many"] [] pullS) (CLGathered : Cal P w K mg base 1 "_law_gathered" ["_law_terms_z"] [] gathS) : FnOk P w K mg base (L2.CX P w) 2 f fd ["_law_bag_here", "_law_high", "_law_many", "_law_size"] (spD K termsLS) := by
  refine fn_ok F scLTerms ?len (fun cdv A outer s H E hr => ?_)
  rotate_left
  · have tk := takes_of (X := cxOf (L2.CX P w) P w K mg base ["_law_bag_here", "_law_high", "_law_many", "_law_size", "_law_found", "_law_k", "_law_i"] "_law_terms" (defScope sLTerms) f cdv A outer s H E) (E := E) rfl rfl rfl rfl
    have hp := passes_of (X := cxOf (L2.CX P w) P w K mg base ["_law_bag_here", "_law_high", "_law_many", "_law_size", "_law_found", "_law_k", "_law_i"] "_law_terms" (defScope sLTerms) f cdv A outer s H E) rfl
    refine ⟨_, (ss_cons (s_set 4 scLTerms.nd (q_lstM a_nil))
  (ss_cons (s_sealA 4 (s_for hp rfl (i_range1 (by rfl) Z.z_range (a_cons (q_cal CLPull (by first | decide | exact Nat.le_refl _ | omega) hr tk (by rfl) (a_cons (qv 0) (a_cons (q_op oq_add (qv 2) q_int) a_nil))) a_nil)) (g_name 5 scLTerms.nd) (ss_cons (s_set 6 scLTerms.nd (q_cal CLPull (by first | decide | exact Nat.le_refl _ | omega) hr tk (by rfl) (a_cons (qv 0) (a_cons (q_op oq_add (qv 1) q_int) a_nil))))
  (ss_one (s_expr (q_append (qv 4) (q_tup (a_cons (qv 6) (a_cons (q_cal CLPull (by first | decide | exact Nat.le_refl _ | omega) hr tk (by rfl) (a_cons (qv 0) (a_cons (q_op oq_sub (q_op oq_add (qv 1) q_int) (qv 6)) a_nil))) (a_cons (q_op oq_sub (q_cal CLPull (by first | decide | exact Nat.le_refl _ | omega) hr tk (by rfl) (a_cons (qv 0) (a_cons (q_op oq_add (q_op oq_mulU q_int (qv 3)) q_int) a_nil))) (qv 3)) a_nil))))))))))
  (ss_one (s_ret (q_cal CLGathered (by first | decide | exact Nat.le_refl _ | omega) hr tk (by rfl) (a_cons (qv 4) a_nil)))))), ?_⟩
    clear tk hp
    rintro ds L k x ⟨p, b, h0, m, s, rfl, hl, ok, a0, a1, m0, m1, s0, s1, h⟩
    have lg : ∀ z : Int, 0 < z → z < 10000000 → z.natAbs.log2 < 9000 := fun z z0 z1 => by
      have : z.natAbs.log2 < 100 := log_small (Nat.lt_of_lt_of_le (show z.natAbs < 10000000 by omega) (by decide))
      omega
    walk_at "w"
    refine ⟨sz_ok rfl, fun q hq => ?_⟩
    have npq : p ≠ q := fun e => hq (e ▸ inL_of_lookup hl)
    have st : ∀ (g' : Bag) (c d : D), setL ((q, c) :: setL L p (bagC g')) q d = (q, d) :: setL L p (bagC g') := fun g' c d => setL_top (fun mm => hq (inL_setL.mp mm))
    walk_at "w"
    refine ⟨p, b, m + 1, rfl, by rw [lookup_ne npq]; exact hl, ok, by omega, lg _ (by omega) (by omega), fun r g1 r0 r1 ok1 => ?_⟩
    rw [setL_ne (Ne.symm npq)]
    walk_at "w"
    refine ⟨⟨by omega, by omega⟩, ?_⟩
    walk_at "w"
    refine forD_rec (fun rr env L' => ∃ (ts : List T3) (g : Bag) (o5 o6 : Option D), env = [some (.ptr p), some (.int h0), some (.int m), some (.int s), some (.ptr q), o5, o6] ∧ L' = (q, .lst (ts.map tD)) :: setL L p (bagC g) ∧ (ts.length : Int) + rr.length ≤ m ∧ (∀ t ∈ ts, ((0 ≤ t.1 ∧ t.1 ≤ h0) ∧ (0 ≤ t.2.1 ∧ t.2.1 ≤ h0)) ∧ -s ≤ t.2.2 ∧ t.2.2 ≤ s) ∧ BagOk g) ?step ?fin _ _ _ ⟨[], g1, none, none, rfl, rfl, ?_, (fun t h => nomatch h), ok1⟩
    case fin =>
      rintro env L' ⟨ts, g, o5, o6, rfl, rfl, hz, hb, okg⟩
      have hz : (ts.length : Int) ≤ m := by
        have : (([] : List D).length : Int) = 0 := rfl
        omega
      walk_at "w"
      rw [lookup_top]
      walk_at "w"
      rw [remL_top (fun mm => hq (inL_setL.mp mm))]
      refine ⟨ts, rfl, by omega, fun qs hp ha => ?_⟩
      have gb := gat_bound s s0 (fun k => (0 ≤ k.1 ∧ k.1 ≤ h0) ∧ (0 ≤ k.2 ∧ k.2 ≤ h0)) ts [] 0 (fun u hu => ⟨(hb u hu).2.1, (hb u hu).2.2, (hb u hu).1⟩) (fun t ht => nomatch ht)
      have ms : (ts.length : Int) * s ≤ m * s := Int.mul_le_mul_of_nonneg_right hz s0
      refine h _ g ⟨sel_can ha (perm_nodup (gat_nk ts) hp), ?_, fun t ht => (gb t (sel_sub t ht)).2.2, fun t ht => ?_⟩ okg
      · have e1 := hp.length_eq
        rw [List.length_map] at e1
        have e2 := gat_len ts
        have e3 : (sel (gat ts) qs).length ≤ qs.length := by
          unfold sel
          rw [List.length_map]
          exact List.length_filter_le _ _
        omega
      · obtain ⟨b1, b2, _⟩ := gb t (sel_sub t ht)
        rw [Nat.zero_add] at b1 b2
        exact ⟨by omega, by omega⟩
    case step =>
      rintro E' d rr env L' _ _ _ _ ⟨ts, g, o5, o6, rfl, rfl, hz, hb, okg⟩ hnx
      rw [List.length_cons] at hz
      walk_at "w"
      refine ⟨p, g, h0 + 1, rfl, by rw [lookup_ne npq]; exact lookup_setL hl, okg, by omega, lg _ (by omega) (by omega), fun i g2 i0 i1 ok2 => ?_⟩
      rw [setL_ne (Ne.symm npq), setL_setL]
      walk_at "w"
      rw [lookup_top]
      walk_at "w"
      refine ⟨p, g2, h0 + 1 - i, rfl, by rw [lookup_ne npq]; exact lookup_setL hl, ok2, by omega, lg _ (by omega) (by omega), fun j g3 j0 j1 ok3 => ?_⟩
      rw [setL_ne (Ne.symm npq), setL_setL]
      walk_at "w"
      refine ⟨.inl (.inl (by decide)), ?_⟩
      walk_at "w"
      refine ⟨p, g3, 2 * s + 1, rfl, by rw [lookup_ne npq]; exact lookup_setL hl, ok3, by omega, lg _ (by omega) (by omega), fun v g4 v0 v1 ok4 => ?_⟩
      rw [setL_ne (Ne.symm npq), setL_setL]
      walk_at "w"
      refine ⟨sz_ok rfl, ?_⟩
      walk_at "w"
      rw [lookup_top]
      refine ⟨by rw [List.length_map]; exact Nat.lt_of_lt_of_le (show ts.length < 1000 by omega) (by decide), ?_⟩
      rw [st]
      refine hnx _ _ ⟨ts ++ [(i, j, v - s)], g4, _, _, rfl, ?_, ?_, fun t ht => ?_, ok4⟩
      · rw [List.map_append]
        rfl
      · rw [List.length_append, List.length_singleton]
        omega
      · rcases List.mem_append.mp ht with ht | ht
        · exact hb t ht
        · rw [List.mem_singleton.mp ht]
          exact ⟨⟨⟨by show 0 ≤ i; omega, by show i ≤ h0; omega⟩, by show 0 ≤ j; omega, by show j ≤ h0; omega⟩, by show -s ≤ v - s; omega, by show v - s ≤ s; omega⟩
    · rw [rngD_len]
      show (0 : Int) + _ ≤ m
      omega
  · rintro ds L k x ⟨p, b, h0, m, s, rfl, _⟩; rfl
theorem scLPoly : FnScope ["_law_terms_z", "_law_one"] ["_law_terms_z"] (defScope sLPoly) := ⟨rfl, rfl, rfl, by decide +kernel, rfl, by decide +kernel, by decide +kernel⟩
theorem ok_LPoly {f : Addr} {fd : FuncData} (Z : Zn w K mg cP) (F : Fun K "_law_poly" "_law_poly" sLPoly f fd) (K_Poly : KCal P w K mg base 4 "Poly" cP ["self", "terms", "most"] [.int 20] (initS cP)) : FnOk P w K mg base (L2.CX P w) 6 f fd ["_law_terms_z"] (spD K (polyLS cP)) := by
  refine fn_ok F scLPoly ?len (fun cdv A outer s H E hr => ?_)
  rotate_left
  · have tk := takes_of (X := cxOf (L2.CX P w) P w K mg base ["_law_terms_z", "_law_one"] "_law_poly" (defScope sLPoly) f cdv A outer s H E) (E := E) rfl rfl rfl rfl
    have hp := passes_of (X := cxOf (L2.CX P w) P w K mg base ["_law_terms_z", "_law_one"] "_law_poly" (defScope sLPoly) f cdv A outer s H E) rfl
    refine ⟨_, (ss_one (s_ret (q_makeD K_Poly (by first | decide | exact Nat.le_refl _ | omega) hr tk (by rfl) (a_cons (q_lc rfl scLPoly.nd (i_list (qv 0)) (blkOk_by (own := [("_law_one", 1)]) (N := ["_law_terms_z", "_law_one"]) (sc := (defScope sLPoly)) (by decide +kernel)) (fun _ _ _ _ _ => (g_name 1 scLPoly.nd)) (fun _ _ _ _ _ => ts_nil) (fun _ _ _ _ _ => (qv 1))) a_nil)))), ?_⟩
    clear tk hp
    rintro ds L k x ⟨es, rfl, hc, h20, hn, h⟩
    walk_at "w"
    intro q hq
    refine lcD_each tD tD hq es (by omega) (fun t ht acc F KK hK => ?_) ?_
    · walk_at "w"
      exact hK
    · walk_at "w"
      intro q2 hq2
      refine ⟨q2, .lst (es.map tD), .int 20, es, rfl, lookup_top, .inl rfl, .inr ⟨rfl, h20⟩, by omega, fun qs hp ha => ⟨rfl, ?_⟩⟩
      rw [gat_same hc.nk] at hp ⊢
      rw [setL_top hq2, lookup_top]
      walk_at "w"
      rw [remL_top hq2, can_sel hc hp ha]
      exact h
  · rintro ds L k x ⟨es, rfl, _⟩; rfl
theorem scLPoint : FnScope ["_law_bag_here", "_law_high", "_law_under"] ["_law_bag_here", "_law_high", "_law_under"] (defScope sLPoint) := ⟨rfl, rfl, rfl, by decide +kernel, rfl, by decide +kernel, by decide +kernel⟩
theorem ok_LPoint {f : Addr} {fd : FuncData} (Z : Zn w K mg cP) (F : Fun K "_law_point" "_law_point" sLPoint f fd) (CLRatio : Cal P w K mg base 3 "_law_ratio" ["_law_bag_here", "_law_high", "_law_under"] [] ratS) : FnOk P w K mg base (L2.CX P w) 4 f fd ["_law_bag_here", "_law_high", "_law_under"] (spD K pntS) := by
  refine fn_ok F scLPoint ?len (fun cdv A outer s H E hr => ?_)
  rotate_left
  · have tk := takes_of (X := cxOf (L2.CX P w) P w K mg base ["_law_bag_here", "_law_high", "_law_under"] "_law_point" (defScope sLPoint) f cdv A outer s H E) (E := E) rfl rfl rfl rfl
    have hp := passes_of (X := cxOf (L2.CX P w) P w K mg base ["_law_bag_here", "_law_high", "_law_under"] "_law_point" (defScope sLPoint) f cdv A outer s H E) rfl
    refine ⟨_, (ss_one (s_ret (q_tup (a_cons (q_cal CLRatio (by first | decide | exact Nat.le_refl _ | omega) hr tk (by rfl) (a_cons (qv 0) (a_cons (qv 1) (a_cons (qv 2) a_nil)))) (a_cons (q_cal CLRatio (by first | decide | exact Nat.le_refl _ | omega) hr tk (by rfl) (a_cons (qv 0) (a_cons (qv 1) (a_cons (qv 2) a_nil)))) a_nil))))), ?_⟩
    clear tk hp
    rintro ds L k x ⟨p, g, hi, u, rfl, hl, ok, h0, h1, u0, u1, h⟩
    walk_at "w"
    refine ⟨p, g, hi, u, rfl, hl, ok, h0, h1, u0, u1, fun a b g1 lo a0 a1 b1 ok1 => ?_⟩
    walk_at "w"
    refine ⟨p, g1, hi, u, rfl, lookup_setL hl, ok1, h0, h1, u0, u1, fun c d g2 lo2 c0 c1 d1 ok2 => ?_⟩
    walk_at "w"
    rw [setL_setL]
    exact ⟨sz_ok rfl, h a b c d g2 lo.pos lo2.pos ⟨a0, a1⟩ b1 ⟨c0, c1⟩ d1 ok2⟩
  · rintro ds L k x ⟨p, g, hi, u, rfl, _⟩; rfl
theorem scLAdd : FnScope ["_law_one", "_law_two"] ["_law_one", "_law_two"] (defScope sLAdd) := ⟨rfl, rfl, rfl, by decide +kernel, rfl, by decide +kernel, by decide +kernel⟩
theorem ok_LAdd {f : Addr} {fd : FuncData} (Z : Zn w K mg cP) (F : Fun K "_law_add" "_law_add" sLAdd f fd) (CLLow : Cal P w K mg base 2 "_law_low" ["_law_top", "_law_under"] [] lowS) : FnOk P w K mg base (L2.CX P w) 3 f fd ["_law_one", "_law_two"] (spD K (arS fun x y => x + y)) := by
  refine fn_ok F scLAdd ?len (fun cdv A outer s H E hr => ?_)
  rotate_left
  · have tk := takes_of (X := cxOf (L2.CX P w) P w K mg base ["_law_one", "_law_two"] "_law_add" (defScope sLAdd) f cdv A outer s H E) (E := E) rfl rfl rfl rfl
    have hp := passes_of (X := cxOf (L2.CX P w) P w K mg base ["_law_one", "_law_two"] "_law_add" (defScope sLAdd) f cdv A outer s H E) rfl
    refine ⟨_, (ss_one (s_ret (q_cal CLLow (by first | decide | exact Nat.le_refl _ | omega) hr tk (by rfl) (a_cons (q_op oq_add (q_op oq_mulU (q_ix (qv 0) q_int) (q_ix (qv 1) q_int)) (q_op oq_mulU (q_ix (qv 1) q_int) (q_ix (qv 0) q_int))) (a_cons (q_op oq_mulU (q_ix (qv 0) q_int) (q_ix (qv 1) q_int)) a_nil))))), ?_⟩
    clear tk hp
    rintro ds L k x ⟨a, b, c, d, rfl, hb, hd, ⟨la, lb⟩, ⟨lc, ld⟩, h⟩
    have hb' := cast_ne hb
    have hd' := cast_ne hd
    walk_at "w"
    refine ⟨.inl (.inl la), ?_⟩
    walk_at "w"
    refine ⟨.inl (.inl lc), ?_⟩
    walk_at "w"
    refine ⟨.inl (.inl lb), ?_⟩
    walk_at "w"
    have b1 := two126 la ld
    have b2 := two126 lc lb
    have b3 := two126 lb ld
    have b4 := two126 la lc
    refine ⟨a * d + c * b, b * d, rfl, Int.mul_ne_zero hb hd, lt127 (by omega), lt127 (by omega), ?_⟩
    have e : ((a * d + c * b : Int) : Rat) / ((b * d : Int) : Rat) = (a : Rat) / (b : Rat) + (c : Rat) / (d : Rat) := by
      simp only [Rat.intCast_add, Rat.intCast_sub, Rat.intCast_mul]
      grind
    rw [low_ratD (Int.mul_ne_zero hb hd), e]
    exact h
  · rintro ds L k x ⟨a, b, c, d, rfl, _⟩; rfl
theorem scLSub : FnScope ["_law_one", "_law_two"] ["_law_one", "_law_two"] (defScope sLSub) := ⟨rfl, rfl, rfl, by decide +kernel, rfl, by decide +kernel, by decide +kernel⟩
theorem ok_LSub {f : Addr} {fd : FuncData} (Z : Zn w K mg cP) (F : Fun K "_law_sub" "_law_sub" sLSub f fd) (CLLow : Cal P w K mg base 2 "_law_low" ["_law_top", "_law_under"] [] lowS) : FnOk P w K mg base (L2.CX P w) 3 f fd ["_law_one", "_law_two"] (spD K (arS fun x y => x - y)) := by
  refine fn_ok F scLSub ?len (fun cdv A outer s H E hr => ?_)
  rotate_left
  · have tk := takes_of (X := cxOf (L2.CX P w) P w K mg base ["_law_one", "_law_two"] "_law_sub" (defScope sLSub) f cdv A outer s H E) (E := E) rfl rfl rfl rfl
    have hp := passes_of (X := cxOf (L2.CX P w) P w K mg base ["_law_one", "_law_two"] "_law_sub" (defScope sLSub) f cdv A outer s H E) rfl
    refine ⟨_, (ss_one (s_ret (q_cal CLLow (by first | decide | exact Nat.le_refl _ | omega) hr tk (by rfl) (a_cons (q_op oq_sub (q_op oq_mulU (q_ix (qv 0) q_int) (q_ix (qv 1) q_int)) (q_op oq_mulU (q_ix (qv 1) q_int) (q_ix (qv 0) q_int))) (a_cons (q_op oq_mulU (q_ix (qv 0) q_int) (q_ix (qv 1) q_int)) a_nil))))), ?_⟩
    clear tk hp
    rintro ds L k x ⟨a, b, c, d, rfl, hb, hd, ⟨la, lb⟩, ⟨lc, ld⟩, h⟩
    have hb' := cast_ne hb
    have hd' := cast_ne hd
    walk_at "w"
    refine ⟨.inl (.inl la), ?_⟩
    walk_at "w"
    refine ⟨.inl (.inl lc), ?_⟩
    walk_at "w"
    refine ⟨.inl (.inl lb), ?_⟩
    walk_at "w"
    have b1 := two126 la ld
    have b2 := two126 lc lb
    have b3 := two126 lb ld
    have b4 := two126 la lc
    refine ⟨a * d - c * b, b * d, rfl, Int.mul_ne_zero hb hd, lt127 (by omega), lt127 (by omega), ?_⟩
    have e : ((a * d - c * b : Int) : Rat) / ((b * d : Int) : Rat) = (a : Rat) / (b : Rat) - (c : Rat) / (d : Rat) := by
      simp only [Rat.intCast_add, Rat.intCast_sub, Rat.intCast_mul]
      grind
    rw [low_ratD (Int.mul_ne_zero hb hd), e]
    exact h
  · rintro ds L k x ⟨a, b, c, d, rfl, _⟩; rfl
theorem scLMul : FnScope ["_law_one", "_law_two"] ["_law_one", "_law_two"] (defScope sLMul) := ⟨rfl, rfl, rfl, by decide +kernel, rfl, by decide +kernel, by decide +kernel⟩
theorem ok_LMul {f : Addr} {fd : FuncData} (Z : Zn w K mg cP) (F : Fun K "_law_mul" "_law_mul" sLMul f fd) (CLLow : Cal P w K mg base 2 "_law_low" ["_law_top", "_law_under"] [] lowS) : FnOk P w K mg base (L2.CX P w) 3 f fd ["_law_one", "_law_two"] (spD K (arS fun x y => x * y)) := by
  refine fn_ok F scLMul ?len (fun cdv A outer s H E hr => ?_)
  rotate_left
  · have tk := takes_of (X := cxOf (L2.CX P w) P w K mg base ["_law_one", "_law_two"] "_law_mul" (defScope sLMul) f cdv A outer s H E) (E := E) rfl rfl rfl rfl
    have hp := passes_of (X := cxOf (L2.CX P w) P w K mg base ["_law_one", "_law_two"] "_law_mul" (defScope sLMul) f cdv A outer s H E) rfl
    refine ⟨_, (ss_one (s_ret (q_cal CLLow (by first | decide | exact Nat.le_refl _ | omega) hr tk (by rfl) (a_cons (q_op oq_mulU (q_ix (qv 0) q_int) (q_ix (qv 1) q_int)) (a_cons (q_op oq_mulU (q_ix (qv 0) q_int) (q_ix (qv 1) q_int)) a_nil))))), ?_⟩
    clear tk hp
    rintro ds L k x ⟨a, b, c, d, rfl, hb, hd, ⟨la, lb⟩, ⟨lc, ld⟩, h⟩
    have hb' := cast_ne hb
    have hd' := cast_ne hd
    walk_at "w"
    refine ⟨.inl (.inl la), ?_⟩
    walk_at "w"
    refine ⟨.inl (.inl lb), ?_⟩
    walk_at "w"
    have b1 := two126 la ld
    have b2 := two126 lc lb
    have b3 := two126 lb ld
    have b4 := two126 la lc
    refine ⟨a * c, b * d, rfl, Int.mul_ne_zero hb hd, lt127 (by omega), lt127 (by omega), ?_⟩
    have e : ((a * c : Int) : Rat) / ((b * d : Int) : Rat) = (a : Rat) / (b : Rat) * ((c : Rat) / (d : Rat)) := by
      simp only [Rat.intCast_add, Rat.intCast_sub, Rat.intCast_mul]
      grind
    rw [low_ratD (Int.mul_ne_zero hb hd), e]
    exact h
  · rintro ds L k x ⟨a, b, c, d, rfl, _⟩; rfl
theorem scLTo : FnScope ["_law_base", "_law_often_z", "_law_found", "_law_k"] ["_law_base", "_law_often_z"] (defScope sLTo) := ⟨rfl, rfl, rfl, by decide +kernel, rfl, by decide +kernel, by decide +kernel⟩
theorem ok_LTo {f : Addr} {fd : FuncData} (Z : Zn w K mg cP) (F : Fun K "_law_to" "_law_to" sLTo f fd) : FnOk P w K mg base (L2.CX P w) 1 f fd ["_law_base", "_law_often_z"] (spD K toS) := by
  refine fn_ok F scLTo ?len (fun cdv A outer s H E hr => ?_)
  rotate_left
  · have tk := takes_of (X := cxOf (L2.CX P w) P w K mg base ["_law_base", "_law_often_z", "_law_found", "_law_k"] "_law_to" (defScope sLTo) f cdv A outer s H E) (E := E) rfl rfl rfl rfl
    have hp := passes_of (X := cxOf (L2.CX P w) P w K mg base ["_law_base", "_law_often_z", "_law_found", "_law_k"] "_law_to" (defScope sLTo) f cdv A outer s H E) rfl
    refine ⟨_, (ss_cons (s_set 2 scLTo.nd q_int)
  (ss_cons (s_for hp rfl (i_range1 (by rfl) Z.z_range (a_cons (qv 1) a_nil)) (g_name 3 scLTo.nd) (ss_one (s_set 2 scLTo.nd (q_op oq_mulU (qv 2) (qv 0)))))
  (ss_one (s_ret (qv 2))))), ?_⟩
    clear tk hp
    rintro ds L k x ⟨b, n, rfl, hb, hn, h⟩
    walk_at "w"
    refine ⟨⟨by omega, by omega⟩, ?_⟩
    walk_at "w"
    refine forD_rec (fun rr env L' => ∃ (m : Nat) (o3 : Option D), env = [some (.int b), some (.int n), some (.int (b ^ m)), o3] ∧ L' = L ∧ m + rr.length = n) ?step ?fin _ _ _ ⟨0, none, by rw [Int.pow_zero]; rfl, rfl, by rw [rngD_len]; omega⟩
    case fin =>
      rintro env L' ⟨m, o3, rfl, rfl, e⟩
      have e : m = n := e
      subst e
      walk_at "w"
      exact h
    case step =>
      rintro E' d rr env L' _ _ _ _ ⟨m, o3, rfl, rfl, e⟩ hnx
      rw [List.length_cons] at e
      walk_at "w"
      refine ⟨.inl (.inr hb), ?_⟩
      walk_at "w"
      exact hnx _ _ ⟨m + 1, _, by rw [Int.pow_succ]; rfl, rfl, by omega⟩
  · rintro ds L k x ⟨b, n, rfl, _⟩; rfl
theorem scLTermsPlus : FnScope ["_law_one", "_law_two", "_law_often_z", "_law_i", "_law_j", "_law_worth_z"] ["_law_one", "_law_two", "_law_often_z"] (defScope sLTermsPlus) := ⟨rfl, rfl, rfl, by decide +kernel, rfl, by decide +kernel, by decide +kernel⟩
theorem ok_LTermsPlus {f : Addr} {fd : FuncData} (Z : Zn w K mg cP) (F : Fun K "_law_terms_plus" "_law_terms_plus" sLTermsPlus f fd) (CLGathered : Cal P w K mg base 1 "_law_gathered" ["_law_terms_z"] [] gathS) : FnOk P w K mg base (L2.CX P w) 2 f fd ["_law_one", "_law_two", "_law_often_z"] (spD K plusS) := by
  refine fn_ok F scLTermsPlus ?len (fun cdv A outer s H E hr => ?_)
  rotate_left
  · have tk := takes_of (X := cxOf (L2.CX P w) P w K mg base ["_law_one", "_law_two", "_law_often_z", "_law_i", "_law_j", "_law_worth_z"] "_law_terms_plus" (defScope sLTermsPlus) f cdv A outer s H E) (E := E) rfl rfl rfl rfl
    have hp := passes_of (X := cxOf (L2.CX P w) P w K mg base ["_law_one", "_law_two", "_law_often_z", "_law_i", "_law_j", "_law_worth_z"] "_law_terms_plus" (defScope sLTermsPlus) f cdv A outer s H E) rfl
    refine ⟨_, (ss_one (s_ret (q_cal CLGathered (by first | decide | exact Nat.le_refl _ | omega) hr tk (by rfl) (a_cons (q_op oq_add (qv 0) (q_lc rfl scLTermsPlus.nd (i_list (qv 1)) (blkOk_by (own := [("_law_i", 3), ("_law_j", 4), ("_law_worth_z", 5)]) (N := ["_law_one", "_law_two", "_law_often_z", "_law_i", "_law_j", "_law_worth_z"]) (sc := (defScope sLTermsPlus)) (by decide +kernel)) (fun _ _ _ _ _ => (g_tup (n := 3) rfl (gs_cons (g_name 3 scLTermsPlus.nd) (gs_cons (g_name 4 scLTermsPlus.nd) (gs_cons (g_name 5 scLTermsPlus.nd) gs_nil))))) (fun _ _ _ _ _ => ts_nil) (fun _ _ _ _ _ => (q_tup (a_cons (qv 3) (a_cons (qv 4) (a_cons (q_op oq_mulU (qv 5) (qv 2)) a_nil))))))) a_nil)))), ?_⟩
    clear tk hp
    rintro ds L k x ⟨a, b, s, rfl, hl, hs, h⟩
    walk_at "w"
    intro q hq
    refine lcD_each tD (fun t => tD (t.1, t.2.1, t.2.2 * s)) hq b (by omega) (fun t ht acc F KK hK => ?_) ?_
    · walk_at "w"
      refine ⟨rfl, ?_⟩
      walk_at "w"
      refine ⟨.inl (.inr hs), ?_⟩
      walk_at "w"
      exact ⟨sz_ok rfl, hK⟩
    · walk_at "w"
      refine ⟨by rw [List.length_map, List.length_map]; exact Nat.le_trans (show a.length + b.length ≤ 1000 by omega) (by decide), ?_⟩
      walk_at "w"
      refine ⟨a ++ scl s b, ?_, by rw [List.length_append, scl_len]; omega, fun qs hp ha => h _ (told_of hp ha)⟩
      unfold scl
      rw [List.map_append, List.map_map]
      rfl
  · rintro ds L k x ⟨a, b, s, rfl, _⟩; rfl
theorem scLTermsTimes : FnScope ["_law_one", "_law_two", "_law_found", "_law_i", "_law_j", "_law_worth_z", "_law_k", "_law_m", "_law_factor"] ["_law_one", "_law_two"] (defScope sLTermsTimes) := ⟨rfl, rfl, rfl, by decide +kernel, rfl, by decide +kernel, by decide +kernel⟩
theorem ok_LTermsTimes {f : Addr} {fd : FuncData} (Z : Zn w K mg cP) (F : Fun K "_law_terms_times" "_law_terms_times" sLTermsTimes f fd) (CLGathered : Cal P w K mg base 1 "_law_gathered" ["_law_terms_z"] [] gathS) : FnOk P w K mg base (L2.CX P w) 2 f fd ["_law_one", "_law_two"] (spD K timesS) := by
  refine fn_ok F scLTermsTimes ?len (fun cdv A outer s H E hr => ?_)
  rotate_left
  · have tk := takes_of (X := cxOf (L2.CX P w) P w K mg base ["_law_one", "_law_two", "_law_found", "_law_i", "_law_j", "_law_worth_z", "_law_k", "_law_m", "_law_factor"] "_law_terms_times" (defScope sLTermsTimes) f cdv A outer s H E) (E := E) rfl rfl rfl rfl
    have hp := passes_of (X := cxOf (L2.CX P w) P w K mg base ["_law_one", "_law_two", "_law_found", "_law_i", "_law_j", "_law_worth_z", "_law_k", "_law_m", "_law_factor"] "_law_terms_times" (defScope sLTermsTimes) f cdv A outer s H E) rfl
    refine ⟨_, (ss_cons (s_set 2 scLTermsTimes.nd (q_lst a_nil))
  (ss_cons (s_for hp rfl (i_list (qv 0)) (g_tup (n := 3) rfl (gs_cons (g_name 3 scLTermsTimes.nd) (gs_cons (g_name 4 scLTermsTimes.nd) (gs_cons (g_name 5 scLTermsTimes.nd) gs_nil)))) (ss_one (s_set 2 scLTermsTimes.nd (q_op oq_add (qv 2) (q_lc rfl scLTermsTimes.nd (i_list (qv 1)) (blkOk_by (own := [("_law_k", 6), ("_law_m", 7), ("_law_factor", 8)]) (N := ["_law_one", "_law_two", "_law_found", "_law_i", "_law_j", "_law_worth_z", "_law_k", "_law_m", "_law_factor"]) (sc := (defScope sLTermsTimes)) (by decide +kernel)) (fun _ _ _ _ _ => (g_tup (n := 3) rfl (gs_cons (g_name 6 scLTermsTimes.nd) (gs_cons (g_name 7 scLTermsTimes.nd) (gs_cons (g_name 8 scLTermsTimes.nd) gs_nil))))) (fun _ _ _ _ _ => ts_nil) (fun _ _ _ _ _ => (q_tup (a_cons (q_op oq_add (qv 3) (qv 6)) (a_cons (q_op oq_add (qv 4) (qv 7)) (a_cons (q_op oq_mulU (qv 5) (qv 8)) a_nil))))))))))
  (ss_one (s_ret (q_cal CLGathered (by first | decide | exact Nat.le_refl _ | omega) hr tk (by rfl) (a_cons (qv 2) a_nil)))))), ?_⟩
    clear tk hp
    rintro ds L k x ⟨a, b, rfl, hl, hb, hs, h⟩
    walk_at "w"
    refine ⟨sz_ok rfl, ?_⟩
    walk_at "w"
    refine forD_rec (fun r env L2 => ∃ (us fs : List T3) (o3 o4 o5 : Option D), r = us.map tD ∧ env = [some (.lst (a.map tD)), some (.lst (b.map tD)), some (.lst (fs.map tD)), o3, o4, o5, none, none, none] ∧ L2 = L ∧ fs ++ mulT us b = mulT a b ∧ ∀ t ∈ us, t ∈ a) ?step ?fin _ _ _ ⟨a, [], none, none, none, rfl, rfl, rfl, rfl, fun t ht => ht⟩
    case fin =>
      rintro env L2 ⟨us, fs, o3, o4, o5, hr, rfl, rfl, e, _⟩
      cases us with
      | cons _ _ => cases hr
      | nil =>
        have e : fs = mulT a b := by rw [← e]; exact (List.append_nil _).symm
        subst e
        walk_at "w"
        exact ⟨mulT a b, rfl, by rw [mulT_len]; exact hl, fun qs hp ha => h _ (told_of hp ha)⟩
    case step =>
      rintro E' d r env L2 _ _ _ _ ⟨us, fs, o3, o4, o5, hr, rfl, rfl, e, hm⟩ hnx
      cases us with
      | nil => cases hr
      | cons u us =>
        cases hr
        walk_at "w"
        refine ⟨rfl, ?_⟩
        walk_at "w"
        intro q hq
        refine lcD_each tD (fun t => tD (u.1 + t.1, u.2.1 + t.2.1, u.2.2 * t.2.2)) hq b (by omega) (fun t ht acc F KK hK => ?_) ?_
        · walk_at "w"
          refine ⟨rfl, ?_⟩
          walk_at "w"
          refine ⟨.inl (.inl (Nat.lt_of_le_of_lt (hs u (hm u List.mem_cons_self)) (by decide))), ?_⟩
          walk_at "w"
          exact ⟨sz_ok rfl, hK⟩
        · walk_at "w"
          have el := congrArg List.length e
          rw [mulT_cons, List.length_append, List.length_append, List.length_map, mulT_len a b] at el
          refine ⟨by rw [List.length_map, List.length_map]; exact Nat.le_trans (show fs.length + b.length ≤ 1000 by omega) (by decide), ?_⟩
          walk_at "w"
          rw [show List.map tD fs ++ List.map (fun t : T3 => tD (u.1 + t.1, u.2.1 + t.2.1, u.2.2 * t.2.2)) b = (fs ++ (b.map fun t => ((u.1 + t.1, u.2.1 + t.2.1, u.2.2 * t.2.2) : T3))).map tD from by rw [List.map_append, List.map_map]; rfl]
          exact hnx _ _ ⟨us, fs ++ (b.map fun t => ((u.1 + t.1, u.2.1 + t.2.1, u.2.2 * t.2.2) : T3)), _, _, _, rfl, rfl, rfl, by rw [List.append_assoc]; exact e, fun t ht => hm t (List.mem_cons_of_mem _ ht)⟩
  · rintro ds L k x ⟨a, b, rfl, _⟩; rfl
theorem scLTermsAt : FnScope ["_law_terms_z", "_law_spot_z", "_law_found", "_law_i", "_law_j", "_law_worth_z", "_law_one"] ["_law_terms_z", "_law_spot_z"] (defScope sLTermsAt) := ⟨rfl, rfl, rfl, by decide +kernel, rfl, by decide +kernel, by decide +kernel⟩
theorem ok_LTermsAt {f : Addr} {fd : FuncData} (Z : Zn w K mg cP) (F : Fun K "_law_terms_at" "_law_terms_at" sLTermsAt f fd) (CLTo : Cal P w K mg base 1 "_law_to" ["_law_base", "_law_often_z"] [] toS) (CLLow : Cal P w K mg base 2 "_law_low" ["_law_top", "_law_under"] [] lowS) (CLAdd : Cal P w K mg base 3 "_law_add" ["_law_one", "_law_two"] [] (arS fun x y => x + y)) : FnOk P w K mg base (L2.CX P w) 4 f fd ["_law_terms_z", "_law_spot_z"] (spD K atS) := by
  refine fn_ok F scLTermsAt ?len (fun cdv A outer s H E hr => ?_)
  rotate_left
  · have tk := takes_of (X := cxOf (L2.CX P w) P w K mg base ["_law_terms_z", "_law_spot_z", "_law_found", "_law_i", "_law_j", "_law_worth_z", "_law_one"] "_law_terms_at" (defScope sLTermsAt) f cdv A outer s H E) (E := E) rfl rfl rfl rfl
    have hp := passes_of (X := cxOf (L2.CX P w) P w K mg base ["_law_terms_z", "_law_spot_z", "_law_found", "_law_i", "_law_j", "_law_worth_z", "_law_one"] "_law_terms_at" (defScope sLTermsAt) f cdv A outer s H E) rfl
    refine ⟨_, (ss_cons (s_set 2 scLTermsAt.nd (q_tup (a_cons q_int (a_cons q_int a_nil))))
  (ss_cons (s_for hp rfl (i_list (qv 0)) (g_tup (n := 3) rfl (gs_cons (g_name 3 scLTermsAt.nd) (gs_cons (g_name 4 scLTermsAt.nd) (gs_cons (g_name 5 scLTermsAt.nd) gs_nil)))) (ss_cons (s_set 6 scLTermsAt.nd (q_cal CLLow (by first | decide | exact Nat.le_refl _ | omega) hr tk (by rfl) (a_cons (q_op oq_mulU (q_op oq_mulU (qv 5) (q_cal CLTo (by first | decide | exact Nat.le_refl _ | omega) hr tk (by rfl) (a_cons (q_ix (q_ix (qv 1) q_int) q_int) (a_cons (qv 3) a_nil)))) (q_cal CLTo (by first | decide | exact Nat.le_refl _ | omega) hr tk (by rfl) (a_cons (q_ix (q_ix (qv 1) q_int) q_int) (a_cons (qv 4) a_nil)))) (a_cons (q_op oq_mulU (q_cal CLTo (by first | decide | exact Nat.le_refl _ | omega) hr tk (by rfl) (a_cons (q_ix (q_ix (qv 1) q_int) q_int) (a_cons (qv 3) a_nil))) (q_cal CLTo (by first | decide | exact Nat.le_refl _ | omega) hr tk (by rfl) (a_cons (q_ix (q_ix (qv 1) q_int) q_int) (a_cons (qv 4) a_nil)))) a_nil))))
  (ss_one (s_set 2 scLTermsAt.nd (q_cal CLAdd (by first | decide | exact Nat.le_refl _ | omega) hr tk (by rfl) (a_cons (qv 2) (a_cons (qv 6) a_nil)))))))
  (ss_one (s_ret (qv 2))))), ?_⟩
    clear tk hp
    rintro ds L k x ⟨es, a, b, c, d, M, V, rfl, sp, h⟩
    have m5 := sp.m5
    have sm : ∀ (z : Int) (i : Nat), z.natAbs ≤ M → i ≤ 5 → (z ^ i).natAbs < 2 ^ 63 := fun z i hz hi => Nat.lt_of_le_of_lt (sp.pow hz hi) (Nat.lt_trans m5 (by decide))
    walk_at "w"
    refine ⟨sz_ok rfl, ?_⟩
    walk_at "w"
    refine forD_rec (fun r env L2 => ∃ (us ps : List T3) (o3 o4 o5 o6 : Option D), r = us.map tD ∧ env = [some (.lst (es.map tD)), some (.tup [.tup [.int a, .int b], .tup [.int c, .int d]]), some (ratD (ev ((a : Rat) / b) ((c : Rat) / d) ps)), o3, o4, o5, o6] ∧ L2 = L ∧ ps ++ us = es) ?step ?fin _ _ _ ⟨es, [], none, none, none, none, rfl, rfl, rfl, rfl⟩
    case fin =>
      rintro env L2 ⟨us, ps, o3, o4, o5, o6, hr, rfl, rfl, e⟩
      cases us with
      | cons _ _ => cases hr
      | nil =>
        rw [List.append_nil] at e
        subst e
        walk_at "w"
        exact h
    case step =>
      rintro E' d0 r env L2 _ _ _ _ ⟨us, ps, o3, o4, o5, o6, hr, rfl, rfl, e⟩ hnx
      cases us with
      | nil => cases hr
      | cons u us =>
        cases hr
        have hu : u ∈ es := by rw [← e]; exact List.mem_append.mpr (.inr List.mem_cons_self)
        obtain ⟨⟨i0, i1⟩, j0, j1⟩ := sp.pw u hu
        have vu := sp.sz u hu
        have el : ps.length + (us.length + 1) = es.length := by rw [← e, List.length_append, List.length_cons]
        have f1 := sp.part (fs := ps) (fun t ht => by rw [← e]; exact List.mem_append.mpr (.inl ht)) (by omega)
        have f2 := sp.part (fs := [u]) (fun t ht => by rw [List.mem_singleton.mp ht]; exact hu) (by show 1 ≤ _; omega)
        walk_at "w"
        refine ⟨rfl, ?_⟩
        walk_at "w"
        refine ⟨a, u.1.toNat, by rw [show ((u.1.toNat : Nat) : Int) = u.1 from Int.toNat_of_nonneg i0]; rfl, Nat.lt_of_le_of_lt sp.la (Nat.lt_trans sp.m0 (by decide)), by omega, ?_⟩
        walk_at "w"
        refine ⟨.inl (.inr (sm a _ sp.la (by omega))), ?_⟩
        walk_at "w"
        refine ⟨c, u.2.1.toNat, by rw [show ((u.2.1.toNat : Nat) : Int) = u.2.1 from Int.toNat_of_nonneg j0]; rfl, Nat.lt_of_le_of_lt sp.lc (Nat.lt_trans sp.m0 (by decide)), by omega, ?_⟩
        walk_at "w"
        refine ⟨.inl (.inr (sm c _ sp.lc (by omega))), ?_⟩
        walk_at "w"
        refine ⟨b, u.1.toNat, by rw [show ((u.1.toNat : Nat) : Int) = u.1 from Int.toNat_of_nonneg i0]; rfl, Nat.lt_of_le_of_lt sp.lb (Nat.lt_trans sp.m0 (by decide)), by omega, ?_⟩
        walk_at "w"
        refine ⟨d, u.2.1.toNat, by rw [show ((u.2.1.toNat : Nat) : Int) = u.2.1 from Int.toNat_of_nonneg j0]; rfl, Nat.lt_of_le_of_lt sp.ld (Nat.lt_trans sp.m0 (by decide)), by omega, ?_⟩
        walk_at "w"
        refine ⟨.inl (.inr (sm d _ sp.ld (by omega))), ?_⟩
        walk_at "w"
        have n0 := low_pow_ne sp.b0 sp.d0 u.1.toNat u.2.1.toNat
        have big : (V * (M ^ 5 * M ^ 5)) < 2 ^ 62 := by
          have : 1 * (V * (M ^ 5 * M ^ 5)) ≤ es.length * (V * (M ^ 5 * M ^ 5)) := Nat.mul_le_mul_right _ (by omega)
          have := sp.few
          omega
        refine ⟨u.2.2 * a ^ u.1.toNat * c ^ u.2.1.toNat, b ^ u.1.toNat * d ^ u.2.1.toNat, rfl, n0, ?_, ?_, ?_⟩
        · rw [Int.natAbs_mul, Int.natAbs_mul]
          have : u.2.2.natAbs * (a ^ u.1.toNat).natAbs * (c ^ u.2.1.toNat).natAbs ≤ V * M ^ 5 * M ^ 5 := Nat.mul_le_mul (Nat.mul_le_mul vu (sp.pow sp.la (by omega))) (sp.pow sp.lc (by omega))
          rw [Nat.mul_assoc V] at this
          exact lt127 (Nat.lt_of_le_of_lt this (Nat.lt_trans big (by decide)))
        · exact lt127 (Nat.lt_trans (two126 (sm b _ sp.lb (by omega)) (sm d _ sp.ld (by omega))) (by decide))
        rw [low_ratD n0, one_ev sp.b0 sp.d0 (fun t ht => by rw [List.mem_singleton.mp ht]; exact ⟨⟨i0, i1⟩, j0, j1⟩)]
        walk_at "w"
        refine ⟨_, _, _, _, rfl, den_ne _, den_ne _, ⟨f1.1, by rw [Int.natAbs_natCast]; exact f1.2⟩, ⟨f2.1, by rw [Int.natAbs_natCast]; exact f2.2⟩, ?_⟩
        rw [rat_self, rat_self, show (fun x y : Rat => x + y) (ev ((a : Rat) / b) ((c : Rat) / d) ps) (ev ((a : Rat) / b) ((c : Rat) / d) [u]) = ev ((a : Rat) / b) ((c : Rat) / d) (ps ++ [u]) from (lin_app _ ps [u]).symm]
        walk_at "w"
        exact hnx _ _ ⟨us, ps ++ [u], _, _, _, _, rfl, rfl, rfl, by rw [List.append_assoc]; exact e⟩
  · rintro ds L k x ⟨es, a, b, c, d, M, V, rfl, _⟩; rfl
end
end T06
namespace T06
open PySem L2 DL PO
def lawS (Pt : Addr) : DSp := fun ds L k _ => ∃ ns : List Int, ds = [.ro (ns.map .int)] ∧ L = [(Pt, .tab "law.<locals>.<lambda>")] ∧ ∀ L', k (.bl true) L'
/-- what is drawn in a turn -/
structure Ld (es : List T3) : Prop where
  can : Can es
  few : es.length ≤ 6
  pw : Pw 5 es
  sz : Sz 54 es
theorem ld_of {es : List T3} (h : Drn 5 6 9 es) : Ld es := ⟨h.can, by have := h.few; omega, h.pw, fun t ht => by have := h.sz t ht; omega⟩
theorem Ld.sz62 {es : List T3} (h : Ld es) : Sz (2 ^ 62) es := h.sz.mono (by decide)
theorem okT3 : ∀ es : List T3, okPs (es.map tD) = true
  | [] => rfl
  | t :: r => by
    show (okP (tD t) && okPs (r.map tD)) = true
    rw [okT3 r]
    rfl
theorem depT3 : ∀ es : List T3, deps (es.map tD) ≤ 1
  | [] => Nat.zero_le _
  | t :: r => by
    show max (dep (tD t)) (deps (r.map tD)) ≤ 1
    have : dep (tD t) = 1 := rfl
    have := depT3 r
    omega
theorem okTs {es : List T3} (h : es.length ≤ 1000) : okP (.lst (es.map tD)) = true := by
  unfold okP
  rw [okT3, Bool.and_true]
  exact decide_eq_true (by rw [List.length_map]; omega)
/-- lists of lists of terms -/
abbrev telD (es : List T3) : D := .lst (es.map tD)
theorem okLL : ∀ {fs : List (List T3)}, (∀ es ∈ fs, es.length ≤ 1000) → okPs (fs.map telD) = true ∧ deps (fs.map telD) ≤ 2
  | [], _ => ⟨rfl, Nat.zero_le _⟩
  | e :: r, h => by
    obtain ⟨h1, h2⟩ := okLL (fs := r) fun z hz => h z (List.mem_cons_of_mem _ hz)
    constructor
    · show (okP (telD e) && okPs (r.map telD)) = true
      rw [h1, okTs (h e List.mem_cons_self)]
      rfl
    · show max (deps (e.map tD) + 1) (deps (r.map telD)) ≤ 2
      have := depT3 e
      omega
theorem okFs {fs : List (List T3)} (hl : fs.length ≤ 1000) (h : ∀ es ∈ fs, es.length ≤ 1000) : okP (.lst (fs.map telD)) = true ∧ dep (.lst (fs.map telD)) < 9 := by
  obtain ⟨h1, h2⟩ := okLL h
  constructor
  · unfold okP
    rw [h1, Bool.and_true]
    exact decide_eq_true (by rw [List.length_map]; omega)
  · show deps (fs.map telD) + 1 < 9
    omega
theorem mul_unit (b : List T3) : mulT [(0, 0, 1)] b = b := by
  rw [mulT_cons, mulT_nil, List.append_nil]
  have e : ∀ u ∈ b, (fun u : T3 => ((0 + u.1, 0 + u.2.1, 1 * u.2.2) : T3)) u = id u := fun u _ => by
    show ((0 + u.1, 0 + u.2.1, 1 * u.2.2) : T3) = u
    rw [Int.zero_add, Int.zero_add, Int.one_mul]
  show b.map (fun u : T3 => ((0 + u.1, 0 + u.2.1, 1 * u.2.2) : T3)) = b
  rw [List.map_congr_left e, List.map_id]
theorem powP_len (a : List T3) : ∀ m, (powP a m).length = a.length ^ m
  | 0 => by rw [Nat.pow_zero]; rfl
  | m + 1 => by
    show (mulT (powP a m) a).length = _
    rw [mulT_len, powP_len a m, Nat.pow_succ]
theorem powP_sz {a : List T3} {V : Nat} (h : Sz V a) : ∀ m, Sz (V ^ m) (powP a m)
  | 0 => fun t ht => by rw [List.mem_singleton.mp ht]; exact Nat.le_of_eq (by rw [Nat.pow_zero]; rfl)
  | m + 1 => by
    rw [Nat.pow_succ]
    exact (powP_sz h m).mul h
theorem Ld.pow {a : List T3} (h : Ld a) {n m : Nat} {es : List T3} (hn : n ≤ 3) (hm : m < n) (td : Told (powP a m) es) : es.length < 100000 ∧ es.length * a.length < 100000 ∧ Sz (2 ^ 62) es := by
  have few := td.few
  rw [powP_len] at few
  have p1 : a.length ^ m ≤ 6 ^ 2 := Nat.le_trans (Nat.pow_le_pow_left h.few m) (Nat.pow_le_pow_right (by decide) (by omega))
  have e6 := h.few
  have l36 : es.length ≤ 36 := Nat.le_trans few p1
  refine ⟨by omega, ?_, ?_⟩
  · have : es.length * a.length ≤ 36 * 6 := Nat.mul_le_mul l36 e6
    omega
  · refine ((powP_sz h.sz m).told td).mono ?_
    rw [powP_len]
    have p2 : 54 ^ m ≤ 54 ^ 2 := Nat.pow_le_pow_right (by decide) (by omega)
    exact Nat.le_trans (Nat.mul_le_mul p1 p2) (by decide)
/-- all eight sums and products of a turn -/
def Eight (e1 e2 : List T3) (n : Int) (F : List (List T3)) : Prop := ∃ f1 f2 f3 f4 f5 f6 f7 f8, F = [f1, f2, f3, f4, f5, f6, f7, f8] ∧ (Told (e1 ++ scl 1 e2) f1 ∧ Told (e1 ++ scl (-1) e2) f2 ∧ Told (mulT e1 e2) f3 ∧ Told (scl (-1) e1) f4) ∧
  (Told (e1 ++ scl 1 [(0, 0, n)]) f5 ∧ Told (e1 ++ scl 1 [(0, 0, n)]) f6 ∧ Told (e1 ++ scl (-1) [(0, 0, n)]) f7 ∧ Told (scl (-1) e1 ++ scl 1 [(0, 0, n)]) f8)
theorem Eight.few {e1 e2 : List T3} {n : Int} {F : List (List T3)} (h : Eight e1 e2 n F) (h1 : Ld e1) (h2 : Ld e2) : F.length ≤ 1000 ∧ ∀ es ∈ F, es.length ≤ 1000 := by
  obtain ⟨f1, f2, f3, f4, f5, f6, f7, f8, rfl, ⟨t1, t2, t3, t4⟩, t5, t6, t7, t8⟩ := h
  have l1 := h1.few
  have l2 := h2.few
  have few := t1.few
  have few2 := t2.few
  have few3 := t3.few
  have few4 := t4.few
  have few5 := t5.few
  have few6 := t6.few
  have few7 := t7.few
  have few8 := t8.few
  have m : e1.length * e2.length ≤ 6 * 6 := Nat.mul_le_mul l1 l2
  simp only [List.length_append, scl_len, mulT_len, List.length_singleton] at few few2 few3 few4 few5 few6 few7 few8
  refine ⟨Nat.le_of_ble_eq_true rfl, fun es he => ?_⟩
  simp only [List.mem_cons, List.not_mem_nil, or_false] at he
  rcases he with rfl | rfl | rfl | rfl | rfl | rfl | rfl | rfl <;> omega
def xp : List T3 := [(0, 0, 1), (1, 0, 1)]
def binT : Nat → List T3
  | 0 => [(0, 0, 1)]
  | m + 1 => sel (gat (mulT (binT m) xp)) ((gat (mulT (binT m) xp)).map ky)
theorem bin_asc : ∀ m : Nat, m < 20 → ((gat (mulT (binT m) xp)).map ky).Pairwise (fun x y => SrtO.lexB y x = false) := by decide +kernel
theorem nk_u (t : T3) : NK [t] := by
  show [ky t].Nodup
  simp
theorem told_unit : Told [((0, 0, 1) : T3)] [(0, 0, 1)] := by
  have td : Told [((0, 0, 1) : T3)] (sel [(0, 0, 1)] [ky (0, 0, 1)]) := told_nk (nk_u _) (fun q => val_nk (nk_u _)) (List.Perm.refl _) (List.pairwise_singleton _ _)
  exact td
theorem bin_told : ∀ m : Nat, m ≤ 20 → Told (powP xp m) (binT m)
  | 0, _ => told_unit
  | m + 1, h => (told_nk (gat_nk _) (fun q => val_gat (mulT (binT m) xp) q) (List.Perm.refl _) (bin_asc m (by omega))).congr fun q => cf_mul_l (fun q => (bin_told m (by omega)).cf q) q
theorem bin_sz : ∀ m : Nat, m < 21 → (binT m).length ≤ 21 ∧ ∀ t ∈ binT m, t.2.2.natAbs ≤ 1000000 ∧ (0 ≤ t.1 ∧ t.1 ≤ 20) ∧ (0 ≤ t.2.1 ∧ t.2.1 ≤ 0) := by decide +kernel
theorem bin4 : binT 4 = [(0, 0, 1), (1, 0, 4), (2, 0, 6), (3, 0, 4), (4, 0, 1)] := by decide +kernel
theorem xp_of {es : List T3} (h : Told ([(1, 0, 1)] ++ scl 1 [(0, 0, 1)]) es) : es = xp := by
  have t : Told ([(1, 0, 1)] ++ scl 1 [(0, 0, 1)]) (sel (gat ([(1, 0, 1)] ++ scl 1 [(0, 0, 1)])) [(0, 0), (1, 0)]) := told_of (by decide +kernel) (show List.Pairwise _ _ from by decide +kernel)
  rw [h.one t fun _ => rfl]
  decide +kernel
def ns4 : List Nat := [5, 8, 13, 20]
theorem bin_val : ∀ n ∈ ns4, ratD (ev (((1 : Int) : Rat) / ((1 : Int) : Rat)) (((0 : Int) : Rat) / ((1 : Int) : Rat)) (binT n)) = .tup [.int (2 ^ n), .int 1] := by
  have : ∀ n ∈ ns4, ev (((1 : Int) : Rat) / ((1 : Int) : Rat)) (((0 : Int) : Rat) / ((1 : Int) : Rat)) (binT n) = ((2 ^ n : Int) : Rat) := by decide +kernel
  intro n hn
  rw [this n hn]
  rfl
theorem bin_deg : ∀ n ∈ ns4, Mx ((binT n).map fun t => t.1 + t.2.1) (n : Int) := by
  have h : ∀ n ∈ ns4, ((n : Int) ∈ (binT n).map fun t => t.1 + t.2.1) ∧ ∀ y ∈ (binT n).map fun t => t.1 + t.2.1, y ≤ (n : Int) := by decide +kernel
  intro n hn
  obtain ⟨h1, h2⟩ := h n hn
  exact ⟨(fun e => absurd (by rw [e] at h1; exact h1) (List.not_mem_nil)), fun _ => h1, h2⟩
theorem told_one (t : T3) (h : t.2.2 ≠ 0) {ts es : List T3} (he : Told ts es) (e : ts = [t]) : es = [t] := by
  subst e
  have nk : NK [t] := by show [ky t].Nodup; simp
  have td : Told [t] (sel [t] [ky t]) := told_nk nk (fun q => val_nk nk) (List.Perm.refl _) (List.pairwise_singleton _ _)
  have s : sel [t] [ky t] = [t] := sel_all nk fun u hu => by rw [List.mem_singleton.mp hu]; exact h
  rw [s] at td
  exact he.one td fun _ => rfl
theorem powX : ∀ m : Nat, powP [(1, 0, 1)] m = [((m : Int), 0, 1)]
  | 0 => rfl
  | m + 1 => by
    show mulT (powP [(1, 0, 1)] m) [(1, 0, 1)] = _
    rw [powX m]
    show [(((m : Int) + 1, 0 + 0, 1 * 1) : T3)] = _
    rfl
theorem x_told {m : Nat} {es : List T3} (h : Told (powP [(1, 0, 1)] m) es) : es = [((m : Int), 0, 1)] := told_one ((m : Int), 0, 1) (by show (1 : Int) ≠ 0; decide) h (powX m)
theorem xp_told {m : Nat} {es : List T3} (h : Told (powP xp m) es) (hm : m ≤ 20) : es = binT m := h.one (bin_told m hm) fun _ => rfl
theorem x_pow {n m : Nat} {es : List T3} (hm : m < n) (h : Told (powP [(1, 0, 1)] m) es) : es.length < 100000 ∧ es.length * [((1, 0, 1) : T3)].length < 100000 ∧ Sz (2 ^ 62) es := by
  rw [x_told h]
  exact ⟨(by show 1 < 100000; decide), (by show 1 * 1 < 100000; decide), fun t ht => by rw [List.mem_singleton.mp ht]; show (1 : Nat) ≤ 2 ^ 62; decide⟩
theorem xp_pow {n m : Nat} {es : List T3} (hn : n ≤ 20) (hm : m < n) (h : Told (powP xp m) es) : es.length < 100000 ∧ es.length * xp.length < 100000 ∧ Sz (2 ^ 62) es := by
  rw [xp_told h (by omega)]
  obtain ⟨h1, h2⟩ := bin_sz m (by omega)
  refine ⟨by omega, ?_, fun t ht => Nat.le_trans (h2 t ht).1 (by decide)⟩
  show (binT m).length * 2 < 100000
  omega
theorem unit_of {es : List T3} {a : List T3} (h : Told (powP a 0) es) : es = [(0, 0, 1)] := told_one (0, 0, 1) (by decide) h rfl
theorem add_small {a b c d : Int} (hb : b ≠ 0) (hd : d ≠ 0) : ((a : Rat) / (b : Rat) + (c : Rat) / (d : Rat)).num.natAbs ≤ (a * d + c * b).natAbs ∧ ((a : Rat) / (b : Rat) + (c : Rat) / (d : Rat)).den ≤ (b * d).natAbs := by
  have hb' := cast_ne hb
  have hd' := cast_ne hd
  have e : ((a * d + c * b : Int) : Rat) / ((b * d : Int) : Rat) = (a : Rat) / (b : Rat) + (c : Rat) / (d : Rat) := by
    simp only [Rat.intCast_add, Rat.intCast_mul]
    grind
  rw [← e]
  exact rat_small (Int.mul_ne_zero hb hd)
theorem Ld.spt {e : List T3} (h : Ld e) {M : Nat} {a b c d : Int} (hM : M = 9 ∨ M = 32) (hb : b ≠ 0) (hd : d ≠ 0) (la : a.natAbs ≤ M) (lb : b.natAbs ≤ M) (lc : c.natAbs ≤ M) (ld : d.natAbs ≤ M) : SptOk M 54 a b c d e := by
  have big : ∀ M : Nat, M = 9 ∨ M = 32 → 6 * (54 * (M ^ 5 * M ^ 5)) < 2 ^ 62 ∧ M ^ 5 * M ^ 5 < 2 ^ 62 ∧ 1 ≤ M := fun M hM => by
    rcases hM with rfl | rfl <;> decide +kernel
  obtain ⟨b1, b2, b3⟩ := big M hM
  exact ⟨hb, hd, b3, la, lb, lc, ld, h.pw, h.sz, Nat.lt_of_le_of_lt (Nat.mul_le_mul_right _ h.few) b1, b2⟩
theorem pnt_of {M H : Nat} {a b c d : Int} (hM : (M = 9 ∧ H = 10) ∨ (M = 9 ∧ H = 5) ∨ (M = 32 ∧ H = 5)) (hb : b ≠ 0) (hd : d ≠ 0) (la : a.natAbs ≤ M) (lb : b.natAbs ≤ M) (lc : c.natAbs ≤ M) (ld : d.natAbs ≤ M) : PntOk M H H a b c d := by
  have big : ∀ M H : Nat, (M = 9 ∧ H = 10) ∨ (M = 9 ∧ H = 5) ∨ (M = 32 ∧ H = 5) → M ^ H < 2 ^ 63 ∧ 1 ≤ M ∧ M < 2 ^ 63 ∧ H < 1000 := fun M H hM => by
    rcases hM with ⟨rfl, rfl⟩ | ⟨rfl, rfl⟩ | ⟨rfl, rfl⟩ <;> decide +kernel
  obtain ⟨b1, b2, b3, b4⟩ := big M H hM
  exact ⟨hb, hd, b2, la, lb, lc, ld, b1, b1, b3, b4, b4⟩
theorem nil_sel {qs : List (Int × Int)} (h : qs.Perm ((gat []).map ky)) : sel (gat []) qs = [] := by
  have e : qs = [] := List.Perm.eq_nil h
  rw [e]
  rfl
theorem mx_one (m : Int) (t : T3) (h : t.1 + t.2.1 = m) : Mx (([t] : List T3).map fun t => t.1 + t.2.1) m := ⟨(fun e => nomatch e), fun _ => by rw [← h]; exact List.mem_cons_self, fun y hy => by rw [List.mem_singleton.mp hy]; exact Int.le_of_eq h⟩
end T06
namespace T06
open PySem L2 DL PO
section
variable {P : Program} {w : World} {K : PySem.W.Frag} {mg : Str → Option Value} {base : Heap} {cP : Addr}
local macro_rules | `(tactic| walk_at "w") => `(tactic| conv => whnf)
local macro_rules | `(tactic| walk_at "v") => `(tactic| ((conv => whnf); try dsimp only))
local macro_rules | `(tactic| walk_at "s") => `(tactic| ((conv => whnf); repeat ((first | refine ⟨sz_ok rfl, ?_⟩ | refine ⟨rfl, ?_⟩); conv => whnf)))
theorem scLaw : FnScope ["_law_script", "_law_bag_here", "_law_turn", "_law_one_z", "_law_two_z", "_law_one", "_law_two", "_law_number_z", "_law_constant_z", "_law_found", "_law_due", "_law_scaled", "_law_square", "_law_spot", "_law_values_z", "_law_first", "_law_second", "_law_beyond", "_law_late", "_law_x", "_law_n", "_law_tall", "_law_wide", "_law_made"] ["_law_script"] (defScope sLaw) := ⟨rfl, rfl, rfl, by decide +kernel, rfl, by decide +kernel, by decide +kernel⟩
theorem ok_Law {f c Pt : Addr} {oc kV doc pm ct : Value} {od an : Option Addr} {osl : Array (Option Value)} (Z : Zn w K mg cP) (lk : K.lookup f = some ⟨oc, od, .func (PySem.W.fnOf "law" "law" (defArgs sLaw) (defBody sLaw) (defScope sLaw) .none kV doc pm an (.ref c) ct), osl⟩) (hcd : PySem.W.codeIn K (.ref c) "law" = true) (TB : LamX.TabB base mg c Pt) (CLBag : Cal P w K mg base 1 "_law_bag" ["_law_script"] [] bagS) (CLPull : Cal P w K mg base 1 "_law_pull" ["_law_bag_here", "_law_many"] [] pullS) (CLOf : Cal P w K mg base 2 "_law_of" ["_law_bag_here", "_law_some"] [] ofA) (CLGathered : Cal P w K mg base 1 "_law_gathered" ["_law_terms_z"] [] gathS) (CLTerms : Cal P w K mg base 2 "_law_terms" ["_law_bag_here", "_law_high", "_law_many", "_law_size"] [] termsLS) (CLPoly : Cal P w K mg base 6 "_law_poly" ["_law_terms_z"] [] (polyLS cP)) (CLSame : Cal P w K mg base 9 "_law_same" ["_law_found", "_law_due"] [] (sameS 9)) (CLPoint : Cal P w K mg base 4 "_law_point" ["_law_bag_here", "_law_high", "_law_under"] [] pntS) (CLTo : Cal P w K mg base 1 "_law_to" ["_law_base", "_law_often_z"] [] toS) (CLAdd : Cal P w K mg base 3 "_law_add" ["_law_one", "_law_two"] [] (arS fun x y => x + y)) (CLSub : Cal P w K mg base 3 "_law_sub" ["_law_one", "_law_two"] [] (arS fun x y => x - y)) (CLMul : Cal P w K mg base 3 "_law_mul" ["_law_one", "_law_two"] [] (arS fun x y => x * y)) (CLTermsPlus : Cal P w K mg base 2 "_law_terms_plus" ["_law_one", "_law_two", "_law_often_z"] [] plusS) (CLTermsTimes : Cal P w K mg base 2 "_law_terms_times" ["_law_one", "_law_two"] [] timesS) (CLTermsAt : Cal P w K mg base 4 "_law_terms_at" ["_law_terms_z", "_law_spot_z"] [] atS) (K_Poly : KCal P w K mg base 4 "Poly" cP ["self", "terms", "most"] [.int 20] (initS cP)) (MPolyTerms : MCal P w K mg base 1 cP "terms" ["self"] [] (tellS cP)) (MPolyValueAt : MCal P w K mg base 3 cP "value_at" ["self", "point"] [] (valS cP)) (MPolyEq : MCal P w K mg base 1 cP "__eq__" ["self", "other"] [] (eqS cP)) (MPolyAdd : MCal P w K mg base 7 cP "__add__" ["self", "other"] [] (addO K cP 1)) (MPolySub : MCal P w K mg base 7 cP "__sub__" ["self", "other"] [] (addO K cP (-1))) (MPolyMul : MCal P w K mg base 7 cP "__mul__" ["self", "other"] [] (mulO K cP)) (MPolyNeg : MCal P w K mg base 7 cP "__neg__" ["self"] [] (negO cP)) (MPolyPow : MCal P w K mg base 8 cP "__pow__" ["self", "times"] [] (powO cP)) (MPolyRadd : MCal P w K mg base 8 cP "__radd__" ["self", "other"] [] (raddO cP)) (MPolyRsub : MCal P w K mg base 8 cP "__rsub__" ["self", "other"] [] (rsubO cP)) (MPolyRmul : MCal P w K mg base 8 cP "__rmul__" ["self", "other"] [] (rmulO cP)) (B_add : BinF K cP "add") (B_sub : BinF K cP "sub") (B_mul : BinF K cP "mul") (B_pow : BinF K cP "pow") (R_add : RefF K cP "add") (R_sub : RefF K cP "sub") (R_mul : RefF K cP "mul") (I_add : IpF K cP "add") (I_sub : IpF K cP "sub") (MK_PolyValueAt_point : MCalK P w K mg base 3 cP "value_at" ["point"] [] (fun a b _ => a ++ b) (valS cP)) (P_degree : PropM P w K mg base 1 cP "degree" (degS cP)) (NePoly : NeC K cP) (W_Poly : KCalW P w K mg base 4 "Poly" cP [] [.tup [], .int 20] (fun a _ c => a ++ c) (initS cP)) (ST_Poly_letter : SCal P w K mg base 6 "Poly" cP "letter" ["name"] [] (ltrS cP)) (IB : InsC K cP) (nf : PySem.W.notFirst K cP (.ref cP) = true) : FnOk P w K mg base (L2.CX P w) 16 f (PySem.W.fnOf "law" "law" (defArgs sLaw) (defBody sLaw) (defScope sLaw) .none kV doc pm an (.ref c) ct) ["_law_script"] (spD K (lawS Pt)) := by
  refine fn_okC lk hcd scLaw ?len (fun A outer s H E hr => ?_)
  rotate_left
  · have tk := takes_of (X := cxOf (L2.CX P w) P w K mg base ["_law_script", "_law_bag_here", "_law_turn", "_law_one_z", "_law_two_z", "_law_one", "_law_two", "_law_number_z", "_law_constant_z", "_law_found", "_law_due", "_law_scaled", "_law_square", "_law_spot", "_law_values_z", "_law_first", "_law_second", "_law_beyond", "_law_late", "_law_x", "_law_n", "_law_tall", "_law_wide", "_law_made"] "law" (defScope sLaw) f (.ref c) A outer s H E) (E := E) rfl rfl rfl rfl
    have hp := passes_of (X := cxOf (L2.CX P w) P w K mg base ["_law_script", "_law_bag_here", "_law_turn", "_law_one_z", "_law_two_z", "_law_one", "_law_two", "_law_number_z", "_law_constant_z", "_law_found", "_law_due", "_law_scaled", "_law_square", "_law_spot", "_law_values_z", "_law_first", "_law_second", "_law_beyond", "_law_late", "_law_x", "_law_n", "_law_tall", "_law_wide", "_law_made"] "law" (defScope sLaw) f (.ref c) A outer s H E) rfl
    have hcode : (cxOf (L2.CX P w) P w K mg base ["_law_script", "_law_bag_here", "_law_turn", "_law_one_z", "_law_two_z", "_law_one", "_law_two", "_law_number_z", "_law_constant_z", "_law_found", "_law_due", "_law_scaled", "_law_square", "_law_spot", "_law_values_z", "_law_first", "_law_second", "_law_beyond", "_law_late", "_law_x", "_law_n", "_law_tall", "_law_wide", "_law_made"] "law" (defScope sLaw) f (.ref c) A outer s H E).env.code = .ref c := rfl
    refine ⟨_, (ss_cons (s_set 1 scLaw.nd (q_cal CLBag (by first | decide | exact Nat.le_refl _ | omega) hr tk (by rfl) (a_cons (qv 0) a_nil)))
  (ss_cons (s_for hp rfl (i_range1 (by rfl) Z.z_range (a_cons q_int a_nil)) (g_name 2 scLaw.nd) (ss_cons (s_par 3 4 rfl scLaw.nd (a_cons (q_cal CLTerms (by first | decide | exact Nat.le_refl _ | omega) hr tk (by rfl) (a_cons (qv 1) (a_cons q_int (a_cons q_int (a_cons q_int a_nil))))) (a_cons (q_cal CLTerms (by first | decide | exact Nat.le_refl _ | omega) hr tk (by rfl) (a_cons (qv 1) (a_cons q_int (a_cons q_int (a_cons q_int a_nil))))) a_nil)))
  (ss_cons (s_par3 5 6 7 rfl scLaw.nd (a_cons (q_cal CLPoly (by first | decide | exact Nat.le_refl _ | omega) hr tk (by rfl) (a_cons (qv 3) a_nil)) (a_cons (q_cal CLPoly (by first | decide | exact Nat.le_refl _ | omega) hr tk (by rfl) (a_cons (qv 4) a_nil)) (a_cons (q_op oq_sub (q_cal CLPull (by first | decide | exact Nat.le_refl _ | omega) hr tk (by rfl) (a_cons (qv 1) (a_cons q_int a_nil))) q_int) a_nil))))
  (ss_cut (s_set 8 scLaw.nd (q_cal CLGathered (by first | decide | exact Nat.le_refl _ | omega) hr tk (by rfl) (a_cons (q_lst (a_cons (q_tup (a_cons q_int (a_cons q_int (a_cons (qv 7) a_nil)))) a_nil)) a_nil)))
  (ss_cut (s_set 9 scLaw.nd (q_lst (a_cons (q_binO (K := K) rfl MPolyAdd B_add (by first | decide | exact Nat.le_refl _ | omega) hr (qv 5) (qv 6)) (a_cons (q_binO (K := K) rfl MPolySub B_sub (by first | decide | exact Nat.le_refl _ | omega) hr (qv 5) (qv 6)) (a_cons (q_binO (K := K) rfl MPolyMul B_mul (by first | decide | exact Nat.le_refl _ | omega) hr (qv 5) (qv 6)) (a_cons (q_negO MPolyNeg (by first | decide | exact Nat.le_refl _ | omega) hr (qv 5)) (a_cons (q_binO (K := K) rfl MPolyAdd B_add (by first | decide | exact Nat.le_refl _ | omega) hr (qv 5) (qv 7)) (a_cons (q_refO MPolyRadd R_add int_add (by first | decide | exact Nat.le_refl _ | omega) hr (qv 7) (qv 5)) (a_cons (q_binO (K := K) rfl MPolySub B_sub (by first | decide | exact Nat.le_refl _ | omega) hr (qv 5) (qv 7)) (a_cons (q_refO MPolyRsub R_sub int_sub (by first | decide | exact Nat.le_refl _ | omega) hr (qv 7) (qv 5)) a_nil))))))))))
  (ss_cons (s_set 10 scLaw.nd (q_lst (a_cons (q_cal CLTermsPlus (by first | decide | exact Nat.le_refl _ | omega) hr tk (by rfl) (a_cons (qv 3) (a_cons (qv 4) (a_cons q_int a_nil)))) (a_cons (q_cal CLTermsPlus (by first | decide | exact Nat.le_refl _ | omega) hr tk (by rfl) (a_cons (qv 3) (a_cons (qv 4) (a_cons (q_neg q_int) a_nil)))) (a_cons (q_cal CLTermsTimes (by first | decide | exact Nat.le_refl _ | omega) hr tk (by rfl) (a_cons (qv 3) (a_cons (qv 4) a_nil))) (a_cons (q_cal CLTermsPlus (by first | decide | exact Nat.le_refl _ | omega) hr tk (by rfl) (a_cons (q_lst a_nil) (a_cons (qv 3) (a_cons (q_neg q_int) a_nil)))) a_nil))))))
  (ss_cut (s_set 10 scLaw.nd (q_op oq_add (q_op oq_add (qv 10) (q_op oq_rep (q_lst (a_cons (q_cal CLTermsPlus (by first | decide | exact Nat.le_refl _ | omega) hr tk (by rfl) (a_cons (qv 3) (a_cons (qv 8) (a_cons q_int a_nil)))) a_nil)) q_int)) (q_lst (a_cons (q_cal CLTermsPlus (by first | decide | exact Nat.le_refl _ | omega) hr tk (by rfl) (a_cons (qv 3) (a_cons (qv 8) (a_cons (q_neg q_int) a_nil)))) (a_cons (q_cal CLTermsPlus (by first | decide | exact Nat.le_refl _ | omega) hr tk (by rfl) (a_cons (qv 8) (a_cons (qv 3) (a_cons (q_neg q_int) a_nil)))) a_nil)))))
  (ss_cut (s_if (t_not (t_val (q_cal CLSame (by first | decide | exact Nat.le_refl _ | omega) hr tk (by rfl) (a_cons (q_lc rfl scLaw.nd (i_list (qv 9)) (blkOk_by (own := [("_law_made", 23)]) (N := ["_law_script", "_law_bag_here", "_law_turn", "_law_one_z", "_law_two_z", "_law_one", "_law_two", "_law_number_z", "_law_constant_z", "_law_found", "_law_due", "_law_scaled", "_law_square", "_law_spot", "_law_values_z", "_law_first", "_law_second", "_law_beyond", "_law_late", "_law_x", "_law_n", "_law_tall", "_law_wide", "_law_made"]) (sc := (defScope sLaw)) (by decide +kernel)) (fun _ _ _ _ _ => (g_name 23 scLaw.nd)) (fun _ _ _ _ _ => ts_nil) (fun _ _ _ _ _ => (q_meth0 MPolyTerms (by first | decide | exact Nat.le_refl _ | omega) hr takes0 (qv 23)))) (a_cons (qv 10) a_nil))))) (ss_one (s_ret q_bl)) ss_nil)
  (ss_cut (s_set 11 scLaw.nd (q_cal CLTermsTimes (by first | decide | exact Nat.le_refl _ | omega) hr tk (by rfl) (a_cons (qv 3) (a_cons (qv 8) a_nil))))
  (ss_cut (s_if (t_not (t_val (q_cal CLSame (by first | decide | exact Nat.le_refl _ | omega) hr tk (by rfl) (a_cons (q_lst (a_cons (q_meth0 MPolyTerms (by first | decide | exact Nat.le_refl _ | omega) hr tk (q_binO (K := K) rfl MPolyMul B_mul (by first | decide | exact Nat.le_refl _ | omega) hr (qv 5) (qv 7))) (a_cons (q_meth0 MPolyTerms (by first | decide | exact Nat.le_refl _ | omega) hr tk (q_refO MPolyRmul R_mul int_mul (by first | decide | exact Nat.le_refl _ | omega) hr (qv 7) (qv 5))) a_nil))) (a_cons (q_lst (a_cons (qv 11) (a_cons (qv 11) a_nil))) a_nil))))) (ss_one (s_ret q_bl)) ss_nil)
  (ss_cons (s_set 12 scLaw.nd (q_cal CLTermsTimes (by first | decide | exact Nat.le_refl _ | omega) hr tk (by rfl) (a_cons (qv 3) (a_cons (qv 3) a_nil))))
  (ss_cut (s_set 9 scLaw.nd (q_lst (a_cons (q_binO (K := K) rfl MPolyPow B_pow (by first | decide | exact Nat.le_refl _ | omega) hr (qv 5) q_int) (a_cons (q_binO (K := K) rfl MPolyPow B_pow (by first | decide | exact Nat.le_refl _ | omega) hr (qv 5) q_int) (a_cons (q_binO (K := K) rfl MPolyPow B_pow (by first | decide | exact Nat.le_refl _ | omega) hr (qv 5) q_int) (a_cons (q_binO (K := K) rfl MPolyPow B_pow (by first | decide | exact Nat.le_refl _ | omega) hr (qv 5) q_int) a_nil))))))
  (ss_cut (s_if (t_not (t_val (q_cal CLSame (by first | decide | exact Nat.le_refl _ | omega) hr tk (by rfl) (a_cons (q_lc rfl scLaw.nd (i_list (qv 9)) (blkOk_by (own := [("_law_made", 23)]) (N := ["_law_script", "_law_bag_here", "_law_turn", "_law_one_z", "_law_two_z", "_law_one", "_law_two", "_law_number_z", "_law_constant_z", "_law_found", "_law_due", "_law_scaled", "_law_square", "_law_spot", "_law_values_z", "_law_first", "_law_second", "_law_beyond", "_law_late", "_law_x", "_law_n", "_law_tall", "_law_wide", "_law_made"]) (sc := (defScope sLaw)) (by decide +kernel)) (fun _ _ _ _ _ => (g_name 23 scLaw.nd)) (fun _ _ _ _ _ => ts_nil) (fun _ _ _ _ _ => (q_meth0 MPolyTerms (by first | decide | exact Nat.le_refl _ | omega) hr takes0 (qv 23)))) (a_cons (q_lst (a_cons (q_lst (a_cons (q_tup (a_cons q_int (a_cons q_int (a_cons q_int a_nil)))) a_nil)) (a_cons (qv 3) (a_cons (qv 12) (a_cons (q_cal CLTermsTimes (by first | decide | exact Nat.le_refl _ | omega) hr tk (by rfl) (a_cons (qv 12) (a_cons (qv 3) a_nil))) a_nil))))) a_nil))))) (ss_one (s_ret q_bl)) ss_nil)
  (ss_cut (s_set 13 scLaw.nd (q_cal CLPoint (by first | decide | exact Nat.le_refl _ | omega) hr tk (by rfl) (a_cons (qv 1) (a_cons q_int (a_cons q_int a_nil)))))
  (ss_cons (s_set 14 scLaw.nd (q_lst (a_cons (q_meth MPolyValueAt (by first | decide | exact Nat.le_refl _ | omega) hr tk (qv 5) (a_cons (qv 13) a_nil)) (a_cons (q_methK MK_PolyValueAt_point (by first | decide | exact Nat.le_refl _ | omega) hr tk (q_binO (K := K) rfl MPolyMul B_mul (by first | decide | exact Nat.le_refl _ | omega) hr (qv 5) (qv 6)) (k_cons (qv 13) k_nil)) (a_cons (q_meth MPolyValueAt (by first | decide | exact Nat.le_refl _ | omega) hr tk (q_binO (K := K) rfl MPolySub B_sub (by first | decide | exact Nat.le_refl _ | omega) hr (qv 5) (qv 6)) (a_cons (qv 13) a_nil)) a_nil)))))
  (ss_cons (s_par 15 16 rfl scLaw.nd (a_cons (q_cal CLTermsAt (by first | decide | exact Nat.le_refl _ | omega) hr tk (by rfl) (a_cons (qv 3) (a_cons (qv 13) a_nil))) (a_cons (q_cal CLTermsAt (by first | decide | exact Nat.le_refl _ | omega) hr tk (by rfl) (a_cons (qv 4) (a_cons (qv 13) a_nil))) a_nil)))
  (ss_cut (s_if (t_not (t_val (q_cal CLSame (by first | decide | exact Nat.le_refl _ | omega) hr tk (by rfl) (a_cons (qv 14) (a_cons (q_lst (a_cons (qv 15) (a_cons (q_cal CLMul (by first | decide | exact Nat.le_refl _ | omega) hr tk (by rfl) (a_cons (qv 15) (a_cons (qv 16) a_nil))) (a_cons (q_cal CLSub (by first | decide | exact Nat.le_refl _ | omega) hr tk (by rfl) (a_cons (qv 15) (a_cons (qv 16) a_nil))) a_nil)))) a_nil))))) (ss_one (s_ret q_bl)) ss_nil)
  (ss_cons (s_set 17 scLaw.nd (q_tup (a_cons (q_cal CLAdd (by first | decide | exact Nat.le_refl _ | omega) hr tk (by rfl) (a_cons (q_ix (qv 13) q_int) (a_cons (q_tup (a_cons q_int (a_cons q_int a_nil))) a_nil))) (a_cons (q_cal CLAdd (by first | decide | exact Nat.le_refl _ | omega) hr tk (by rfl) (a_cons (q_ix (qv 13) q_int) (a_cons (q_tup (a_cons (q_op oq_sub q_int q_int) (a_cons q_int a_nil))) a_nil))) a_nil))))
  (ss_cut (s_if (t_not (t_val (q_cal CLSame (by first | decide | exact Nat.le_refl _ | omega) hr tk (by rfl) (a_cons (q_lst (a_cons (q_meth MPolyValueAt (by first | decide | exact Nat.le_refl _ | omega) hr tk (qv 5) (a_cons (qv 17) a_nil)) (a_cons (q_meth MPolyValueAt (by first | decide | exact Nat.le_refl _ | omega) hr tk (qv 5) (a_cons (qv 13) a_nil)) a_nil))) (a_cons (q_lst (a_cons (q_cal CLTermsAt (by first | decide | exact Nat.le_refl _ | omega) hr tk (by rfl) (a_cons (qv 3) (a_cons (qv 17) a_nil))) (a_cons (qv 15) a_nil))) a_nil))))) (ss_one (s_ret q_bl)) ss_nil)
  (ss_cons (s_set 18 scLaw.nd (qv 5))
  (ss_cons (s_aug 18 scLaw.nd (qv 6) (ip_binO (K := K) rfl MPolyAdd B_add I_add (by first | decide | exact Nat.le_refl _ | omega) hr))
  (ss_cons (s_aug 18 scLaw.nd q_int (ip_binO (K := K) rfl MPolySub B_sub I_sub (by first | decide | exact Nat.le_refl _ | omega) hr))
  (ss_one (s_if (w_or (t_neO (K := K) rfl MPolyEq NePoly (by first | decide | omega) hr (qv 18) (q_binO (K := K) rfl MPolySub B_sub (by first | decide | exact Nat.le_refl _ | omega) hr (q_binO (K := K) rfl MPolyAdd B_add (by first | decide | exact Nat.le_refl _ | omega) hr (qv 5) (qv 6)) q_int)) (w_or1 (t_not (t_val (q_cal CLSame (by first | decide | exact Nat.le_refl _ | omega) hr tk (by rfl) (a_cons (q_lst (a_cons (q_meth0 MPolyTerms (by first | decide | exact Nat.le_refl _ | omega) hr tk (qv 5)) (a_cons (q_meth0 MPolyTerms (by first | decide | exact Nat.le_refl _ | omega) hr tk (qv 6)) a_nil))) (a_cons (q_lst (a_cons (qv 3) (a_cons (qv 4) a_nil))) a_nil))))))).t (ss_one (s_ret q_bl)) ss_nil))))))))))))))))))))))))
  (ss_cons (s_set 19 scLaw.nd (q_stat ST_Poly_letter (by first | decide | exact Nat.le_refl _ | omega) hr tk (by rfl) (a_cons q_str a_nil)))
  (ss_cut (s_if (t_cmp (oq_neU hr.units) (q_meth0 MPolyTerms (by first | decide | exact Nat.le_refl _ | omega) hr tk (q_binO (K := K) rfl MPolyPow B_pow (by first | decide | exact Nat.le_refl _ | omega) hr (q_binO (K := K) rfl MPolyAdd B_add (by first | decide | exact Nat.le_refl _ | omega) hr (qv 19) q_int) q_int)) (q_lst (a_cons (q_tup (a_cons q_int (a_cons q_int (a_cons q_int a_nil)))) (a_cons (q_tup (a_cons q_int (a_cons q_int (a_cons q_int a_nil)))) (a_cons (q_tup (a_cons q_int (a_cons q_int (a_cons q_int a_nil)))) (a_cons (q_tup (a_cons q_int (a_cons q_int (a_cons q_int a_nil)))) (a_cons (q_tup (a_cons q_int (a_cons q_int (a_cons q_int a_nil)))) a_nil))))))) (ss_one (s_ret q_bl)) ss_nil)
  (ss_cut (s_asg (q_cal CLOf (by first | decide | exact Nat.le_refl _ | omega) hr tk (by rfl) (a_cons (qv 1) (a_cons (q_lst (a_cons (q_tup (a_cons q_int (a_cons (q_binO (K := K) rfl MPolyPow B_pow (by first | decide | exact Nat.le_refl _ | omega) hr (q_binO (K := K) rfl MPolyAdd B_add (by first | decide | exact Nat.le_refl _ | omega) hr (qv 19) q_int) q_int) (a_cons (q_binO (K := K) rfl MPolyPow B_pow (by first | decide | exact Nat.le_refl _ | omega) hr (qv 19) q_int) a_nil)))) (a_cons (q_tup (a_cons q_int (a_cons (q_binO (K := K) rfl MPolyPow B_pow (by first | decide | exact Nat.le_refl _ | omega) hr (q_binO (K := K) rfl MPolyAdd B_add (by first | decide | exact Nat.le_refl _ | omega) hr (qv 19) q_int) q_int) (a_cons (q_binO (K := K) rfl MPolyPow B_pow (by first | decide | exact Nat.le_refl _ | omega) hr (qv 19) q_int) a_nil)))) (a_cons (q_tup (a_cons q_int (a_cons (q_binO (K := K) rfl MPolyPow B_pow (by first | decide | exact Nat.le_refl _ | omega) hr (q_binO (K := K) rfl MPolyAdd B_add (by first | decide | exact Nat.le_refl _ | omega) hr (qv 19) q_int) q_int) (a_cons (q_binO (K := K) rfl MPolyPow B_pow (by first | decide | exact Nat.le_refl _ | omega) hr (qv 19) q_int) a_nil)))) (a_cons (q_tup (a_cons q_int (a_cons (q_binO (K := K) rfl MPolyPow B_pow (by first | decide | exact Nat.le_refl _ | omega) hr (q_binO (K := K) rfl MPolyAdd B_add (by first | decide | exact Nat.le_refl _ | omega) hr (qv 19) q_int) q_int) (a_cons (q_binO (K := K) rfl MPolyPow B_pow (by first | decide | exact Nat.le_refl _ | omega) hr (qv 19) q_int) a_nil)))) a_nil))))) a_nil))) (g_tup (n := 3) rfl (gs_cons (g_name 20 scLaw.nd) (gs_cons (g_name 21 scLaw.nd) (gs_cons (g_name 22 scLaw.nd) gs_nil)))))
  (ss_cut (s_if (t_not (t_val (q_cal CLSame (by first | decide | exact Nat.le_refl _ | omega) hr tk (by rfl) (a_cons (q_lst (a_cons (q_meth MPolyValueAt (by first | decide | exact Nat.le_refl _ | omega) hr tk (qv 21) (a_cons (q_tup (a_cons (q_tup (a_cons q_int (a_cons q_int a_nil))) (a_cons (q_tup (a_cons q_int (a_cons q_int a_nil))) a_nil))) a_nil)) (a_cons (q_propM P_degree (by first | decide | exact Nat.le_refl _ | omega) hr (qv 21)) (a_cons (q_meth0 MPolyTerms (by first | decide | exact Nat.le_refl _ | omega) hr tk (q_binO (K := K) rfl MPolyMul B_mul (by first | decide | exact Nat.le_refl _ | omega) hr (q_binO (K := K) rfl MPolyPow B_pow (by first | decide | exact Nat.le_refl _ | omega) hr (qv 19) q_int) (qv 22))) a_nil)))) (a_cons (q_lst (a_cons (q_tup (a_cons (q_cal CLTo (by first | decide | exact Nat.le_refl _ | omega) hr tk (by rfl) (a_cons q_int (a_cons (qv 20) a_nil))) (a_cons q_int a_nil))) (a_cons (qv 20) (a_cons (q_lst (a_cons (q_tup (a_cons (q_op oq_add q_int (qv 20)) (a_cons q_int (a_cons q_int a_nil)))) a_nil)) a_nil)))) a_nil))))) (ss_one (s_ret q_bl)) ss_nil)
  (ss_one (s_ret (q_and (q_cmp (oq_eqU hr.units) (q_meth0 MPolyTerms (by first | decide | exact Nat.le_refl _ | omega) hr tk (q_binO (K := K) rfl MPolyPow B_pow (by first | decide | exact Nat.le_refl _ | omega) hr (qv 19) q_int)) (q_lst (a_cons (q_tup (a_cons q_int (a_cons q_int (a_cons q_int a_nil)))) a_nil))) (q_and (q_cmp (oq_eqU hr.units) (q_meth0 MPolyTerms (by first | decide | exact Nat.le_refl _ | omega) hr tk (q_binO (K := K) rfl MPolyPow B_pow (by first | decide | exact Nat.le_refl _ | omega) hr (q_sealE (q_make00 W_Poly (by first | decide | exact Nat.le_refl _ | omega) hr tk (by rfl))) q_int)) (q_lst (a_cons (q_tup (a_cons q_int (a_cons q_int (a_cons q_int a_nil)))) a_nil))) (q_one (q_cmp (oq_eqU hr.units) (q_propM P_degree (by first | decide | exact Nat.le_refl _ | omega) hr (q_binO (K := K) rfl MPolyPow B_pow (by first | decide | exact Nat.le_refl _ | omega) hr (qv 19) q_int)) q_int)))))))))))), ?_⟩
    clear tk hp hcode
    rintro ds L k x ⟨ns, rfl, rfl, h⟩
    walk_at "w"
    refine ⟨ns, rfl, fun p b0 hp ok0 => ?_⟩
    have np : Pt ≠ p := fun e => hp (by rw [← e]; simp [inL])
    have sp : ∀ c d, setL [(p, c), (Pt, .tab "law.<locals>.<lambda>")] p d = [(p, d), (Pt, .tab "law.<locals>.<lambda>")] := fun c d => setL_top hp
    walk_at "w"
    refine ⟨⟨by decide, by decide⟩, ?_⟩
    refine forD_rec (fun r env L => ∃ (b : Bag) (o2 o3 o4 o5 o6 o7 o8 o9 o10 o11 o12 o13 o14 o15 o16 o17 o18 o19 o20 o21 o22 o23 : Option D), BagOk b ∧ env = [some (.ro (ns.map .int)), some (.ptr p), o2, o3, o4, o5, o6, o7, o8, o9, o10, o11, o12, o13, o14, o15, o16, o17, o18, o19, o20, o21, o22, o23] ∧ L = [(p, bagC b), (Pt, .tab "law.<locals>.<lambda>")]) ?step ?fin _ _ _ ⟨b0, none, none, none, none, none, none, none, none, none, none, none, none, none, none, none, none, none, none, none, none, none, none, ok0, rfl, rfl⟩
    case fin =>
      rintro env L ⟨b, o2, o3, o4, o5, o6, o7, o8, o9, o10, o11, o12, o13, o14, o15, o16, o17, o18, o19, o20, o21, o22, o23, ok, rfl, rfl⟩
      walk_at "w"
      refine ⟨"x", rfl, .inl ⟨rfl, ?_⟩⟩
      walk_at "w"
      refine ⟨fun env' L' => ∃ (b : Bag) (o2 o3 o4 o5 o6 o7 o8 o9 o10 o11 o12 o13 o14 o15 o16 o17 o18 o20 o21 o22 o23 : Option D), BagOk b ∧ env' = [some (.ro (ns.map .int)), some (.ptr p), o2, o3, o4, o5, o6, o7, o8, o9, o10, o11, o12, o13, o14, o15, o16, o17, o18, some (pD cP [(1, 0, 1)]), o20, o21, o22, o23] ∧ L' = [(p, bagC b), (Pt, .tab "law.<locals>.<lambda>")], ?_, ?_⟩
      · walk_at "w"
        refine ⟨rfl, True.intro, [(1, 0, 1)], .int 1, [(0, 0, 1)], rfl, .inl ⟨1, rfl, rfl⟩, nk_u _, (by show 1 + 1 < 100000; decide), fun g hg => ⟨True.intro, ?_⟩⟩
        rw [xp_of hg]
        walk_at "w"
        refine ⟨rfl, True.intro, xp, 4, rfl, by decide, fun m es hm td => xp_pow (n := 4) (by decide) hm td, fun g hg => ⟨True.intro, ?_⟩⟩
        rw [xp_told hg (by decide)]
        walk_at "w"
        rw [bin4]
        refine ⟨⟨rfl, rfl⟩, _, rfl, (by show 5 < 100000; decide), ?_⟩
        walk_at "w"
        repeat (refine ⟨sz_ok rfl, ?_⟩; walk_at "w")
        refine ⟨by decide +kernel, by decide +kernel, ?_⟩
        rw [show eqD (D.lst (List.map tD [(0, 0, 1), (1, 0, 4), (2, 0, 6), (3, 0, 4), (4, 0, 1)])) (D.lst [D.tup [D.int 0, D.int 0, D.int 1], D.tup [D.int 1, D.int 0, D.int 4], D.tup [D.int 2, D.int 0, D.int 6], D.tup [D.int 3, D.int 0, D.int 4], D.tup [D.int 4, D.int 0, D.int 1]]) = true from by decide +kernel]
        walk_at "w"
        exact ⟨b, _, _, _, _, _, _, _, _, _, _, _, _, _, _, _, _, _, _, _, _, _, ok, rfl, rfl⟩
      clear ok
      rintro env' L' ⟨b, o2, o3, o4, o5, o6, o7, o8, o9, o10, o11, o12, o13, o14, o15, o16, o17, o18, o20, o21, o22, o23, ok, rfl, rfl⟩
      refine ⟨fun env' L' => ∃ (b : Bag) (n : Nat) (o2 o3 o4 o5 o6 o7 o8 o9 o10 o11 o12 o13 o14 o15 o16 o17 o18 o23 : Option D), BagOk b ∧ n ∈ ns4 ∧ env' = [some (.ro (ns.map .int)), some (.ptr p), o2, o3, o4, o5, o6, o7, o8, o9, o10, o11, o12, o13, o14, o15, o16, o17, o18, some (pD cP [(1, 0, 1)]), some (.int (n : Int)), some (pD cP (binT n)), some (pD cP [((n : Int), 0, 1)]), o23] ∧ L' = [(p, bagC b), (Pt, .tab "law.<locals>.<lambda>")], ?_, ?_⟩
      · walk_at "w"
        refine ⟨rfl, True.intro, [(1, 0, 1)], .int 1, [(0, 0, 1)], rfl, .inl ⟨1, rfl, rfl⟩, nk_u _, (by show 1 + 1 < 100000; decide), fun g hg => ⟨True.intro, ?_⟩⟩
        rw [xp_of hg]
        walk_at "w"
        refine ⟨rfl, True.intro, xp, 5, rfl, by decide, fun m es hm td => xp_pow (n := 5) (by decide) hm td, fun g hg => ⟨True.intro, ?_⟩⟩
        rw [xp_told hg (by decide)]
        walk_at "w"
        refine ⟨rfl, True.intro, [(1, 0, 1)], 5, rfl, by decide, fun m es hm td => x_pow (n := 5) hm td, fun g hg => ⟨True.intro, ?_⟩⟩
        rw [x_told hg]
        walk_at "w"
        refine ⟨sz_ok rfl, ?_⟩
        walk_at "w"
        refine ⟨rfl, True.intro, [(1, 0, 1)], .int 1, [(0, 0, 1)], rfl, .inl ⟨1, rfl, rfl⟩, nk_u _, (by show 1 + 1 < 100000; decide), fun g hg => ⟨True.intro, ?_⟩⟩
        rw [xp_of hg]
        walk_at "w"
        refine ⟨rfl, True.intro, xp, 8, rfl, by decide, fun m es hm td => xp_pow (n := 8) (by decide) hm td, fun g hg => ⟨True.intro, ?_⟩⟩
        rw [xp_told hg (by decide)]
        walk_at "w"
        refine ⟨rfl, True.intro, [(1, 0, 1)], 8, rfl, by decide, fun m es hm td => x_pow (n := 8) hm td, fun g hg => ⟨True.intro, ?_⟩⟩
        rw [x_told hg]
        walk_at "w"
        refine ⟨sz_ok rfl, ?_⟩
        walk_at "w"
        refine ⟨rfl, True.intro, [(1, 0, 1)], .int 1, [(0, 0, 1)], rfl, .inl ⟨1, rfl, rfl⟩, nk_u _, (by show 1 + 1 < 100000; decide), fun g hg => ⟨True.intro, ?_⟩⟩
        rw [xp_of hg]
        walk_at "w"
        refine ⟨rfl, True.intro, xp, 13, rfl, by decide, fun m es hm td => xp_pow (n := 13) (by decide) hm td, fun g hg => ⟨True.intro, ?_⟩⟩
        rw [xp_told hg (by decide)]
        walk_at "w"
        refine ⟨rfl, True.intro, [(1, 0, 1)], 13, rfl, by decide, fun m es hm td => x_pow (n := 13) hm td, fun g hg => ⟨True.intro, ?_⟩⟩
        rw [x_told hg]
        walk_at "w"
        refine ⟨sz_ok rfl, ?_⟩
        walk_at "w"
        refine ⟨rfl, True.intro, [(1, 0, 1)], .int 1, [(0, 0, 1)], rfl, .inl ⟨1, rfl, rfl⟩, nk_u _, (by show 1 + 1 < 100000; decide), fun g hg => ⟨True.intro, ?_⟩⟩
        rw [xp_of hg]
        walk_at "w"
        refine ⟨rfl, True.intro, xp, 20, rfl, by decide, fun m es hm td => xp_pow (n := 20) (by decide) hm td, fun g hg => ⟨True.intro, ?_⟩⟩
        rw [xp_told hg (by decide)]
        walk_at "w"
        refine ⟨rfl, True.intro, [(1, 0, 1)], 20, rfl, by decide, fun m es hm td => x_pow (n := 20) hm td, fun g hg => ⟨True.intro, ?_⟩⟩
        rw [x_told hg]
        walk_at "w"
        refine ⟨sz_ok rfl, ?_⟩
        walk_at "w"
        refine ⟨sz_ok rfl, ?_⟩
        walk_at "w"
        refine ⟨p, b, _, ns4.map (fun n => D.tup [.int ((n : Nat) : Int), pD cP (binT n), pD cP [(((n : Nat) : Int), 0, 1)]]), rfl, rfl, lookup_top, ok, (by show 0 < 4; decide), (by show 4 < 1000; decide), fun d b' hd ok' => ?_⟩
        obtain ⟨n, hn, rfl⟩ := List.mem_map.mp hd
        rw [sp]
        walk_at "w"
        refine ⟨rfl, ?_⟩
        walk_at "w"
        exact ⟨b', n, _, _, _, _, _, _, _, _, _, _, _, _, _, _, _, _, _, _, ok', hn, rfl, rfl⟩
      clear ok
      rintro env' L' ⟨b, n, o2, o3, o4, o5, o6, o7, o8, o9, o10, o11, o12, o13, o14, o15, o16, o17, o18, o23, ok, hn, rfl, rfl⟩
      have n20 : n ≤ 20 := by
        unfold ns4 at hn
        simp only [List.mem_cons, List.not_mem_nil, or_false] at hn
        omega
      obtain ⟨bs1, bs2⟩ := bin_sz n (by omega)
      have q1 : PntOk 1 20 0 1 1 0 1 := ⟨by decide, by decide, by decide, by decide, by decide, by decide, by decide, by decide, by decide, by decide, by decide, by decide⟩
      refine ⟨fun env' L' => ∃ (b : Bag) (o2 o3 o4 o5 o6 o7 o8 o9 o10 o11 o12 o13 o14 o15 o16 o17 o18 o20 o21 o22 o23 : Option D), BagOk b ∧ env' = [some (.ro (ns.map .int)), some (.ptr p), o2, o3, o4, o5, o6, o7, o8, o9, o10, o11, o12, o13, o14, o15, o16, o17, o18, some (pD cP [(1, 0, 1)]), o20, o21, o22, o23] ∧ L' = [(p, bagC b), (Pt, .tab "law.<locals>.<lambda>")], ?_, ?_⟩
      · walk_at "w"
        refine ⟨⟨rfl, rfl⟩, ?_⟩
        repeat (refine ⟨sz_ok rfl, ?_⟩; walk_at "w")
        refine ⟨binT n, 1, 1, 0, 1, 1, 20, 0, rfl, q1, by omega, fun t ht => (bs2 t ht).2, ?_⟩
        rw [bin_val n hn]
        walk_at "w"
        refine ⟨rfl, binT n, n, rfl, by omega, bin_deg n hn, trivial, ?_⟩
        walk_at "w"
        refine ⟨rfl, True.intro, [(1, 0, 1)], 20, rfl, by decide, fun m es hm td => x_pow (n := 20) hm td, fun g hg => ⟨True.intro, ?_⟩⟩
        rw [x_told hg]
        walk_at "w"
        refine ⟨rfl, ⟨rfl, IB⟩, _, _, [((n : Int), 0, 1)], rfl, .inr rfl, nk_u _, (by show 1 < 100000; decide), (by show 1 * 1 < 100000; decide), (fun t ht => by rw [List.mem_singleton.mp ht]; show (1 : Nat) ≤ 2 ^ 62; decide), fun g hg => ⟨True.intro, ?_⟩⟩
        rw [told_one (20 + (n : Int), 0, 1) (by show (1 : Int) ≠ 0; decide) hg rfl]
        walk_at "w"
        refine ⟨⟨rfl, rfl⟩, _, rfl, (by show 1 < 100000; decide), ?_⟩
        walk_at "w"
        refine ⟨sz_ok rfl, ?_⟩
        walk_at "w"
        refine ⟨2, n, rfl, by decide, by omega, ?_⟩
        walk_at "w"
        repeat (refine ⟨sz_ok rfl, ?_⟩; walk_at "w")
        have o1 : ∀ x y z : Int, okP (.lst [.tup [.int x, .int 1], .int y, .lst [.tup [.int z, .int 0, .int 1]]]) = true := fun _ _ _ => rfl
        refine ⟨_, _, rfl, o1 _ _ _, o1 _ _ _, (by show 3 < 9; decide), ?_⟩
        rw [show sameD (.lst [.tup [.int (2 ^ n), .int 1], .int n, .lst (List.map tD [(20 + (n : Int), 0, 1)])]) (.lst [.tup [.int (2 ^ n), .int 1], .int n, .lst [.tup [.int (20 + (n : Int)), .int 0, .int 1]]]) = true from sameD_refl _ (o1 _ _ _)]
        walk_at "w"
        exact ⟨b, _, _, _, _, _, _, _, _, _, _, _, _, _, _, _, _, _, _, _, _, _, ok, rfl, rfl⟩
      clear ok
      rintro env' L' ⟨b, o2, o3, o4, o5, o6, o7, o8, o9, o10, o11, o12, o13, o14, o15, o16, o17, o18, o20, o21, o22, o23, ok, rfl, rfl⟩
      walk_at "w"
      refine ⟨rfl, True.intro, [(1, 0, 1)], 0, rfl, by decide, fun m es hm td => x_pow (n := 0) hm td, fun g hg => ⟨True.intro, ?_⟩⟩
      rw [unit_of hg]
      walk_at "w"
      refine ⟨⟨rfl, rfl⟩, _, rfl, (by show 1 < 100000; decide), ?_⟩
      walk_at "w"
      repeat (refine ⟨sz_ok rfl, ?_⟩; walk_at "w")
      refine ⟨by decide +kernel, by decide +kernel, ?_⟩
      rw [show eqD (D.lst (List.map tD [(0, 0, 1)])) (D.lst [D.tup [D.int 0, D.int 0, D.int 1]]) = true from by decide +kernel]
      walk_at "w"
      refine ⟨rfl, fun q hq => ?_⟩
      refine ⟨q, .tup [], .int 20, [], rfl, lookup_top, .inr rfl, .inr ⟨rfl, (fun t ht => nomatch ht)⟩, by decide, fun qs hp1 ha1 => ⟨rfl, ?_⟩⟩
      rw [nil_sel hp1, setL_top hq]
      walk_at "w"
      rw [lookup_top]
      walk_at "w"
      rw [remL_top hq]
      walk_at "w"
      refine ⟨rfl, True.intro, [], 0, rfl, by decide, fun m es hm td => absurd hm (Nat.not_lt_zero m), fun g hg => ⟨True.intro, ?_⟩⟩
      rw [unit_of hg]
      walk_at "w"
      refine ⟨⟨rfl, rfl⟩, _, rfl, (by show 1 < 100000; decide), ?_⟩
      walk_at "w"
      repeat (refine ⟨sz_ok rfl, ?_⟩; walk_at "w")
      refine ⟨by decide +kernel, by decide +kernel, ?_⟩
      rw [show eqD (D.lst (List.map tD [(0, 0, 1)])) (D.lst [D.tup [D.int 0, D.int 0, D.int 1]]) = true from by decide +kernel]
      walk_at "w"
      refine ⟨rfl, True.intro, [(1, 0, 1)], 20, rfl, by decide, fun m es hm td => x_pow (n := 20) hm td, fun g hg => ⟨True.intro, ?_⟩⟩
      rw [x_told hg]
      walk_at "w"
      refine ⟨rfl, _, 20, rfl, (by show 1 < 100000; decide), mx_one 20 _ rfl, trivial, ?_⟩
      walk_at "w"
      rw [show flEq (D.int 20) (D.int 20) = true from by decide +kernel]
      exact h _
    case step =>
      rintro E' d r env L hrt hex hbk hct ⟨b, o2, o3, o4, o5, o6, o7, o8, o9, o10, o11, o12, o13, o14, o15, o16, o17, o18, o19, o20, o21, o22, o23, ok, rfl, rfl⟩ hnx
      walk_at "w"
      refine ⟨p, b, 5, 6, 9, rfl, lookup_top, ok, by decide, by decide, by decide, by decide, by decide, by decide, fun e1 b1 D1 ok1 => ?_⟩
      rw [sp]
      walk_at "w"
      refine ⟨p, b1, 5, 6, 9, rfl, lookup_top, ok1, by decide, by decide, by decide, by decide, by decide, by decide, fun e2 b2 D2 ok2 => ?_⟩
      rw [sp]
      have l1 := ld_of D1
      have l2 := ld_of D2
      have w1 := l1.few
      have w2 := l2.few
      walk_at "w"
      refine ⟨e1, rfl, l1.can, fun t ht => by have := l1.pw t ht; omega, by omega, ?_⟩
      walk_at "w"
      refine ⟨e2, rfl, l2.can, fun t ht => by have := l2.pw t ht; omega, by omega, ?_⟩
      walk_at "w"
      refine ⟨p, b2, 15, rfl, lookup_top, ok2, by decide, by decide, fun n0 b3 n00 n01 ok3 => ?_⟩
      rw [sp]
      walk_at "w"
      refine ⟨fun env' L' => ∃ (b : Bag) (n : Int) (cz : List T3) (o2 o9 o10 o11 o12 o13 o14 o15 o16 o17 o18 o19 o20 o21 o22 o23 : Option D), BagOk b ∧ n.natAbs ≤ 7 ∧ Told [(0, 0, n)] cz ∧ env' = [some (.ro (ns.map .int)), some (.ptr p), o2, some (telD e1), some (telD e2), some (pD cP e1), some (pD cP e2), some (.int n), some (telD cz), o9, o10, o11, o12, o13, o14, o15, o16, o17, o18, o19, o20, o21, o22, o23] ∧ L' = [(p, bagC b), (Pt, .tab "law.<locals>.<lambda>")], ?_, ?_⟩
      · walk_at "w"
        refine ⟨sz_ok rfl, ?_⟩
        walk_at "w"
        refine ⟨sz_ok rfl, ?_⟩
        walk_at "w"
        refine ⟨[(0, 0, n0 - 7)], rfl, (by show 1 < 1000; decide), fun qs hp0 ha0 => ?_⟩
        walk_at "w"
        exact ⟨b3, n0 - 7, _, _, _, _, _, _, _, _, _, _, _, _, _, _, _, _, _, ok3, by omega, told_of hp0 ha0, rfl, rfl⟩
      clear ok ok1 ok2 ok3 D1 D2
      rintro env' L' ⟨b, n, cz, o2, o9, o10, o11, o12, o13, o14, o15, o16, o17, o18, o19, o20, o21, o22, o23, ok, hn, tz, rfl, rfl⟩
      have lz : cz.length ≤ 1 := tz.few
      have m36 : e1.length * e2.length ≤ 6 * 6 := Nat.mul_le_mul w1 w2
      have nk1 := l1.can.nk
      refine ⟨fun env' L' => ∃ (b : Bag) (F : List (List T3)) (o2 o10 o11 o12 o13 o14 o15 o16 o17 o18 o19 o20 o21 o22 o23 : Option D), BagOk b ∧ Eight e1 e2 n F ∧ env' = [some (.ro (ns.map .int)), some (.ptr p), o2, some (telD e1), some (telD e2), some (pD cP e1), some (pD cP e2), some (.int n), some (telD cz), some (.lst (F.map (pD cP))), o10, o11, o12, o13, o14, o15, o16, o17, o18, o19, o20, o21, o22, o23] ∧ L' = [(p, bagC b), (Pt, .tab "law.<locals>.<lambda>")], ?_, ?_⟩
      · walk_at "w"
        refine ⟨rfl, ⟨rfl, IB⟩, e1, _, e2, rfl, .inr rfl, nk1, by omega, fun f1 t1 => ⟨True.intro, ?_⟩⟩
        walk_at "w"
        refine ⟨rfl, ⟨rfl, IB⟩, e1, _, e2, rfl, .inr rfl, nk1, by omega, fun f2 t2 => ⟨True.intro, ?_⟩⟩
        walk_at "w"
        refine ⟨rfl, ⟨rfl, IB⟩, e1, _, e2, rfl, .inr rfl, nk1, by omega, by omega, l1.sz62, fun f3 t3 => ⟨True.intro, ?_⟩⟩
        walk_at "w"
        refine ⟨rfl, e1, rfl, nk1, by omega, fun f4 t4 => ?_⟩
        walk_at "w"
        refine ⟨rfl, True.intro, e1, .int n, [(0, 0, n)], rfl, .inl ⟨n, rfl, rfl⟩, nk1, (by show e1.length + 1 < 100000; omega), fun f5 t5 => ⟨True.intro, ?_⟩⟩
        walk_at "w"
        refine ⟨rfl, e1, n, rfl, nk1, by omega, fun f6 t6 => ⟨True.intro, ?_⟩⟩
        walk_at "w"
        refine ⟨rfl, True.intro, e1, .int n, [(0, 0, n)], rfl, .inl ⟨n, rfl, rfl⟩, nk1, (by show e1.length + 1 < 100000; omega), fun f7 t7 => ⟨True.intro, ?_⟩⟩
        walk_at "w"
        refine ⟨rfl, e1, n, rfl, nk1, by omega, fun f8 t8 => ⟨True.intro, ?_⟩⟩
        walk_at "w"
        refine ⟨sz_ok rfl, ?_⟩
        walk_at "w"
        exact ⟨b, [f1, f2, f3, f4, f5, f6, f7, f8], _, _, _, _, _, _, _, _, _, _, _, _, _, _, _, ok, ⟨f1, f2, f3, f4, f5, f6, f7, f8, rfl, ⟨t1, t2, t3, t4⟩, t5, t6, t7, t8⟩, rfl, rfl⟩
      clear ok
      rintro env' L' ⟨b, F, o2, o10, o11, o12, o13, o14, o15, o16, o17, o18, o19, o20, o21, o22, o23, ok, hF, rfl, rfl⟩
      obtain ⟨fw1, fw2⟩ := hF.few l1 l2
      obtain ⟨of1, of2⟩ := okFs fw1 fw2
      obtain ⟨f1, f2, f3, f4, f5, f6, f7, f8, eF, ⟨t1, t2, t3, t4⟩, t5, t6, t7, t8⟩ := hF
      walk_at "w"
      refine ⟨e1, e2, 1, rfl, by omega, by decide, fun g g1 => ?_⟩
      rw [show g = f1 from g1.one t1 fun _ => rfl]
      walk_at "w"
      refine ⟨e1, e2, -1, rfl, by omega, by decide, fun g g2 => ?_⟩
      rw [show g = f2 from g2.one t2 fun _ => rfl]
      walk_at "w"
      refine ⟨e1, e2, rfl, by omega, by omega, l1.sz62, fun g g3 => ?_⟩
      rw [show g = f3 from g3.one t3 fun _ => rfl]
      walk_at "w"
      refine ⟨sz_ok rfl, ?_⟩
      walk_at "w"
      refine ⟨[], e1, -1, rfl, (by show 0 + e1.length < 1000; omega), by decide, fun g g4 => ?_⟩
      rw [show g = f4 from g4.one t4 fun _ => rfl]
      walk_at "w"
      refine ⟨sz_ok rfl, ?_⟩
      walk_at "w"
      refine ⟨fun env' L' => ∃ (b : Bag) (o2 o11 o12 o13 o14 o15 o16 o17 o18 o19 o20 o21 o22 o23 : Option D), BagOk b ∧ env' = [some (.ro (ns.map .int)), some (.ptr p), o2, some (telD e1), some (telD e2), some (pD cP e1), some (pD cP e2), some (.int n), some (telD cz), some (.lst (F.map (pD cP))), some (.lst (F.map telD)), o11, o12, o13, o14, o15, o16, o17, o18, o19, o20, o21, o22, o23] ∧ L' = [(p, bagC b), (Pt, .tab "law.<locals>.<lambda>")], ?_, ?_⟩
      · walk_at "w"
        refine ⟨e1, cz, 1, rfl, by omega, by decide, fun g g5 => ?_⟩
        rw [show g = f5 from g5.one t5 fun q => by rw [cf_app, cf_app, cf_scl, cf_scl, tz.cf]]
        walk_at "w"
        refine ⟨sz_ok rfl, ?_⟩
        walk_at "w"
        refine ⟨by decide, by decide, (by show 1 * 2 ≤ sizeLine; decide), ?_⟩
        walk_at "w"
        refine ⟨sz_ok rfl, ?_⟩
        walk_at "w"
        refine ⟨e1, cz, -1, rfl, by omega, by decide, fun g g7 => ?_⟩
        rw [show g = f7 from g7.one t7 fun q => by rw [cf_app, cf_app, cf_scl, cf_scl, tz.cf]]
        walk_at "w"
        refine ⟨cz, e1, -1, rfl, by omega, by decide, fun g g8 => ?_⟩
        rw [show g = f8 from g8.one t8 fun q => by rw [cf_app, cf_app, cf_scl, cf_scl, tz.cf]; omega]
        walk_at "w"
        refine ⟨sz_ok rfl, ?_⟩
        walk_at "w"
        refine ⟨sz_ok rfl, ?_⟩
        walk_at "w"
        refine ⟨b, o2, o11, o12, o13, o14, o15, o16, o17, o18, o19, o20, o21, o22, o23, ok, ?_, rfl⟩
        rw [eF, t5.one t6 fun _ => rfl]
        rfl
      clear ok
      rintro env' L' ⟨b, o2, o11, o12, o13, o14, o15, o16, o17, o18, o19, o20, o21, o22, o23, ok, rfl, rfl⟩
      refine ⟨fun env' L' => ∃ (b : Bag) (o2 o9 o10 o11 o12 o13 o14 o15 o16 o17 o18 o19 o20 o21 o22 o23 : Option D), BagOk b ∧ env' = [some (.ro (ns.map .int)), some (.ptr p), o2, some (telD e1), some (telD e2), some (pD cP e1), some (pD cP e2), some (.int n), some (telD cz), o9, o10, o11, o12, o13, o14, o15, o16, o17, o18, o19, o20, o21, o22, o23] ∧ L' = [(p, bagC b), (Pt, .tab "law.<locals>.<lambda>")], ?_, ?_⟩
      · walk_at "w"
        intro q hq
        refine lcD_each (pD cP) telD hq F (by omega) (fun es he acc F' KK hK => ?_) ?_
        · walk_at "w"
          refine ⟨⟨rfl, rfl⟩, es, rfl, by have := fw2 es he; omega, ?_⟩
          walk_at "w"
          exact hK
        · walk_at "w"
          refine ⟨_, _, rfl, of1, of1, of2, ?_⟩
          rw [sameD_refl _ of1]
          walk_at "w"
          exact ⟨b, _, _, _, _, _, _, _, _, _, _, _, _, _, _, _, _, ok, rfl, rfl⟩
      clear ok
      rintro env' L' ⟨b, o2, o9, o10, o11, o12, o13, o14, o15, o16, o17, o18, o19, o20, o21, o22, o23, ok, rfl, rfl⟩
      refine ⟨fun env' L' => ∃ (b : Bag) (sc : List T3) (o2 o9 o10 o12 o13 o14 o15 o16 o17 o18 o19 o20 o21 o22 o23 : Option D), BagOk b ∧ Told (mulT e1 cz) sc ∧ env' = [some (.ro (ns.map .int)), some (.ptr p), o2, some (telD e1), some (telD e2), some (pD cP e1), some (pD cP e2), some (.int n), some (telD cz), o9, o10, some (telD sc), o12, o13, o14, o15, o16, o17, o18, o19, o20, o21, o22, o23] ∧ L' = [(p, bagC b), (Pt, .tab "law.<locals>.<lambda>")], ?_, ?_⟩
      · walk_at "w"
        refine ⟨e1, cz, rfl, Nat.lt_of_le_of_lt (Nat.mul_le_mul w1 lz) (by decide), by omega, l1.sz62, fun g gs => ?_⟩
        walk_at "w"
        exact ⟨b, g, _, _, _, _, _, _, _, _, _, _, _, _, _, _, _, ok, gs, rfl, rfl⟩
      clear ok
      rintro env' L' ⟨b, sc, o2, o9, o10, o12, o13, o14, o15, o16, o17, o18, o19, o20, o21, o22, o23, ok, tsc, rfl, rfl⟩
      have wsc : sc.length ≤ 6 := by
        have := tsc.few
        rw [mulT_len] at this
        have := Nat.mul_le_mul w1 lz
        omega
      have sc1 : ∀ {g : List T3}, Told (mulT e1 [(0, 0, n)]) g → g = sc := fun hg => hg.one tsc fun q => cf_mul_r (fun q => (tz.cf q).symm) q
      refine ⟨fun env' L' => ∃ (b : Bag) (o2 o9 o10 o11 o12 o13 o14 o15 o16 o17 o18 o19 o20 o21 o22 o23 : Option D), BagOk b ∧ env' = [some (.ro (ns.map .int)), some (.ptr p), o2, some (telD e1), some (telD e2), some (pD cP e1), some (pD cP e2), some (.int n), some (telD cz), o9, o10, o11, o12, o13, o14, o15, o16, o17, o18, o19, o20, o21, o22, o23] ∧ L' = [(p, bagC b), (Pt, .tab "law.<locals>.<lambda>")], ?_, ?_⟩
      · walk_at "w"
        refine ⟨rfl, True.intro, e1, .int n, [(0, 0, n)], rfl, .inl ⟨n, rfl, rfl⟩, nk1, by omega, (by show e1.length * 1 < 100000; omega), l1.sz62, fun g hg => ⟨True.intro, ?_⟩⟩
        rw [sc1 hg]
        walk_at "w"
        refine ⟨⟨rfl, rfl⟩, sc, rfl, by omega, ?_⟩
        walk_at "w"
        refine ⟨rfl, e1, n, rfl, nk1, by omega, l1.sz62, fun g hg => ⟨True.intro, ?_⟩⟩
        rw [sc1 hg]
        walk_at "w"
        refine ⟨⟨rfl, rfl⟩, sc, rfl, by omega, ?_⟩
        walk_at "w"
        refine ⟨sz_ok rfl, ?_⟩
        walk_at "w"
        refine ⟨sz_ok rfl, ?_⟩
        walk_at "w"
        obtain ⟨o1, o2⟩ := okFs (fs := [sc, sc]) (Nat.le_of_ble_eq_true rfl) fun es he => by
          simp only [List.mem_cons, List.not_mem_nil, or_false] at he
          rcases he with rfl | rfl <;> omega
        refine ⟨_, _, rfl, o1, o1, o2, ?_⟩
        rw [show sameD (.lst [.lst (List.map tD sc), .lst (List.map tD sc)]) (.lst [telD sc, telD sc]) = true from sameD_refl _ o1]
        walk_at "w"
        exact ⟨b, _, _, _, _, _, _, _, _, _, _, _, _, _, _, _, _, ok, rfl, rfl⟩
      clear ok
      rintro env' L' ⟨b, o2, o9, o10, o11, o12, o13, o14, o15, o16, o17, o18, o19, o20, o21, o22, o23, ok, rfl, rfl⟩
      walk_at "w"
      refine ⟨e1, e1, rfl, Nat.lt_of_le_of_lt (Nat.mul_le_mul w1 w1) (by decide), by omega, l1.sz62, fun sq tq => ?_⟩
      have wsq : sq.length ≤ 36 := by
        have := tq.few
        rw [mulT_len] at this
        exact Nat.le_trans this (Nat.mul_le_mul w1 w1)
      have ssq : Sz (2 ^ 62) sq := by
        refine ((l1.sz.mul l1.sz).told tq).mono ?_
        rw [mulT_len]
        exact Nat.le_trans (Nat.mul_le_mul_right _ (Nat.mul_le_mul w1 w1)) (by decide)
      walk_at "w"
      refine ⟨fun env' L' => ∃ (b : Bag) (f3 : List T3) (o2 o10 o11 o13 o14 o15 o16 o17 o18 o19 o20 o21 o22 o23 : Option D), BagOk b ∧ Told (mulT sq e1) f3 ∧ env' = [some (.ro (ns.map .int)), some (.ptr p), o2, some (telD e1), some (telD e2), some (pD cP e1), some (pD cP e2), some (.int n), some (telD cz), some (.lst ([[((0, 0, 1) : T3)], e1, sq, f3].map (pD cP))), o10, o11, some (telD sq), o13, o14, o15, o16, o17, o18, o19, o20, o21, o22, o23] ∧ L' = [(p, bagC b), (Pt, .tab "law.<locals>.<lambda>")], ?_, ?_⟩
      · walk_at "w"
        refine ⟨rfl, True.intro, e1, 0, rfl, by decide, fun m es hm td => l1.pow (n := 0) (by decide) hm td, fun g0 u0 => ⟨True.intro, ?_⟩⟩
        rw [unit_of u0]
        walk_at "w"
        refine ⟨rfl, True.intro, e1, 1, rfl, by decide, fun m es hm td => l1.pow (n := 1) (by decide) hm td, fun g1 u1 => ⟨True.intro, ?_⟩⟩
        have u1 : Told (mulT [(0, 0, 1)] e1) g1 := u1
        rw [mul_unit] at u1
        rw [show g1 = e1 from u1.one l1.can.told fun _ => rfl]
        walk_at "w"
        refine ⟨rfl, True.intro, e1, 2, rfl, by decide, fun m es hm td => l1.pow (n := 2) (by decide) hm td, fun g2 u2 => ⟨True.intro, ?_⟩⟩
        have u2 : Told (mulT (mulT [(0, 0, 1)] e1) e1) g2 := u2
        rw [mul_unit] at u2
        rw [show g2 = sq from u2.one tq fun _ => rfl]
        walk_at "w"
        refine ⟨rfl, True.intro, e1, 3, rfl, by decide, fun m es hm td => l1.pow (n := 3) (by decide) hm td, fun g3 u3 => ⟨True.intro, ?_⟩⟩
        have u3 : Told (mulT (mulT (mulT [(0, 0, 1)] e1) e1) e1) g3 := u3
        rw [mul_unit] at u3
        walk_at "w"
        refine ⟨sz_ok rfl, ?_⟩
        walk_at "w"
        exact ⟨b, g3, _, _, _, _, _, _, _, _, _, _, _, _, _, _, ok, u3.congr fun q => cf_mul_l (fun q => (tq.cf q).symm) q, rfl, rfl⟩
      clear ok
      rintro env' L' ⟨b, f3, o2, o10, o11, o13, o14, o15, o16, o17, o18, o19, o20, o21, o22, o23, ok, t3q, rfl, rfl⟩
      have wf3 : f3.length ≤ 216 := by
        have := t3q.few
        rw [mulT_len] at this
        exact Nat.le_trans this (Nat.mul_le_mul wsq w1)
      have w4 : ∀ es ∈ [[((0, 0, 1) : T3)], e1, sq, f3], es.length ≤ 1000 := fun es he => by
        simp only [List.mem_cons, List.not_mem_nil, or_false] at he
        rcases he with rfl | rfl | rfl | rfl
        · exact Nat.le_of_ble_eq_true rfl
        all_goals omega
      refine ⟨fun env' L' => ∃ (b : Bag) (o2 o9 o10 o11 o12 o13 o14 o15 o16 o17 o18 o19 o20 o21 o22 o23 : Option D), BagOk b ∧ env' = [some (.ro (ns.map .int)), some (.ptr p), o2, some (telD e1), some (telD e2), some (pD cP e1), some (pD cP e2), some (.int n), some (telD cz), o9, o10, o11, o12, o13, o14, o15, o16, o17, o18, o19, o20, o21, o22, o23] ∧ L' = [(p, bagC b), (Pt, .tab "law.<locals>.<lambda>")], ?_, ?_⟩
      · walk_at "w"
        intro q hq
        refine lcD_each (pD cP) telD hq [[((0, 0, 1) : T3)], e1, sq, f3] (Nat.le_of_ble_eq_true rfl) (fun es he acc F' KK hK => ?_) ?_
        · walk_at "w"
          refine ⟨⟨rfl, rfl⟩, es, rfl, by have := w4 es he; omega, ?_⟩
          walk_at "w"
          exact hK
        · walk_at "w"
          refine ⟨sz_ok rfl, ?_⟩
          walk_at "w"
          refine ⟨sz_ok rfl, ?_⟩
          walk_at "w"
          refine ⟨sq, e1, rfl, Nat.lt_of_le_of_lt (Nat.mul_le_mul wsq w1) (by decide), by omega, ssq, fun g hg => ?_⟩
          rw [show g = f3 from hg.one t3q fun _ => rfl]
          walk_at "w"
          refine ⟨sz_ok rfl, ?_⟩
          walk_at "w"
          obtain ⟨o1, o2⟩ := okFs (fs := [[((0, 0, 1) : T3)], e1, sq, f3]) (Nat.le_of_ble_eq_true rfl) w4
          refine ⟨_, _, rfl, o1, o1, o2, ?_⟩
          rw [show sameD (.lst (List.map telD [[((0, 0, 1) : T3)], e1, sq, f3])) (.lst [.lst [.tup [.int 0, .int 0, .int 1]], telD e1, telD sq, .lst (List.map tD f3)]) = true from sameD_refl _ o1]
          walk_at "w"
          exact ⟨b, _, _, _, _, _, _, _, _, _, _, _, _, _, _, _, _, ok, rfl, rfl⟩
      clear ok
      rintro env' L' ⟨b, o2, o9, o10, o11, o12, o13, o14, o15, o16, o17, o18, o19, o20, o21, o22, o23, ok, rfl, rfl⟩
      refine ⟨fun env' L' => ∃ (b : Bag) (pa pb pc pd : Int) (o2 o9 o10 o11 o12 o14 o15 o16 o17 o18 o19 o20 o21 o22 o23 : Option D), BagOk b ∧ ((0 < pb ∧ pb ≤ 5) ∧ (0 < pd ∧ pd ≤ 5) ∧ (-9 ≤ pa ∧ pa ≤ 9) ∧ -9 ≤ pc ∧ pc ≤ 9) ∧ env' = [some (.ro (ns.map .int)), some (.ptr p), o2, some (telD e1), some (telD e2), some (pD cP e1), some (pD cP e2), some (.int n), some (telD cz), o9, o10, o11, o12, some (.tup [.tup [.int pa, .int pb], .tup [.int pc, .int pd]]), o14, o15, o16, o17, o18, o19, o20, o21, o22, o23] ∧ L' = [(p, bagC b), (Pt, .tab "law.<locals>.<lambda>")], ?_, ?_⟩
      · walk_at "w"
        refine ⟨p, b, 9, 5, rfl, lookup_top, ok, by decide, by decide +kernel, by decide, by decide +kernel, fun pa pb pc pd g pb0 pd0 ha hb hc hd okg => ?_⟩
        rw [sp]
        walk_at "w"
        exact ⟨g, pa, pb, pc, pd, _, _, _, _, _, _, _, _, _, _, _, _, _, _, _, okg, ⟨⟨pb0, hb⟩, ⟨pd0, hd⟩, ha, hc⟩, rfl, rfl⟩
      clear ok
      rintro env' L' ⟨b, pa, pb, pc, pd, o2, o9, o10, o11, o12, o14, o15, o16, o17, o18, o19, o20, o21, o22, o23, ok, ⟨⟨pb0, pb1⟩, ⟨pd0, pd1⟩, ⟨pa0, pa1⟩, pc0, pc1⟩, rfl, rfl⟩
      have hpb : pb ≠ 0 := by omega
      have hpd : pd ≠ 0 := by omega
      have s1 : SptOk 9 54 pa pb pc pd e1 := l1.spt (.inl rfl) hpb hpd (by omega) (by omega) (by omega) (by omega)
      have s2 : SptOk 9 54 pa pb pc pd e2 := l2.spt (.inl rfl) hpb hpd (by omega) (by omega) (by omega) (by omega)
      have q5 : PntOk 9 5 5 pa pb pc pd := pnt_of (.inr (.inl ⟨rfl, rfl⟩)) hpb hpd (by omega) (by omega) (by omega) (by omega)
      have q10 : PntOk 9 10 10 pa pb pc pd := pnt_of (.inl ⟨rfl, rfl⟩) hpb hpd (by omega) (by omega) (by omega) (by omega)
      walk_at "w"
      refine ⟨⟨rfl, rfl⟩, e1, pa, pb, pc, pd, 9, 5, 5, rfl, q5, by omega, l1.pw, ?_⟩
      walk_at "w"
      refine ⟨rfl, ⟨rfl, IB⟩, e1, _, e2, rfl, .inr rfl, nk1, by omega, by omega, l1.sz62, fun pr tp => ⟨True.intro, ?_⟩⟩
      have pwp : Pw2 10 10 pr := tp.pw (l1.pw.mul l2.pw)
      have wpr : pr.length ≤ 36 := by
        have := tp.few
        rw [mulT_len] at this
        omega
      have evp : ev ((pa : Rat) / pb) ((pc : Rat) / pd) pr = ev ((pa : Rat) / pb) ((pc : Rat) / pd) e1 * ev ((pa : Rat) / pb) ((pc : Rat) / pd) e2 := by
        rw [← ev_mul _ _ l2.pw e1 l1.pw]
        exact tp.lin _
      walk_at "w"
      refine ⟨⟨rfl, rfl⟩, ?_⟩
      walk_at "w"
      refine ⟨rfl, pr, pa, pb, pc, pd, 9, 10, 10, rfl, q10, by omega, pwp, ?_⟩
      walk_at "w"
      refine ⟨rfl, ⟨rfl, IB⟩, e1, _, e2, rfl, .inr rfl, nk1, by omega, fun df td => ⟨True.intro, ?_⟩⟩
      have pwd : Pw2 5 5 df := td.pw (l1.pw.app (l2.pw.scl (-1)))
      have wdf : df.length ≤ 12 := by
        have := td.few
        rw [List.length_append, scl_len] at this
        omega
      have evd : ev ((pa : Rat) / pb) ((pc : Rat) / pd) df = ev ((pa : Rat) / pb) ((pc : Rat) / pd) e1 - ev ((pa : Rat) / pb) ((pc : Rat) / pd) e2 := by
        have e0 : ev ((pa : Rat) / pb) ((pc : Rat) / pd) df = ev ((pa : Rat) / pb) ((pc : Rat) / pd) (e1 ++ scl (-1) e2) := td.lin _
        rw [e0]
        show lin _ _ = _
        rw [lin_app]
        show ev _ _ e1 + ev _ _ (scl (-1) e2) = _
        rw [ev_scl]
        grind
      walk_at "w"
      refine ⟨⟨rfl, rfl⟩, df, pa, pb, pc, pd, 9, 5, 5, rfl, q5, by omega, pwd, ?_⟩
      rw [evp, evd]
      walk_at "w"
      refine ⟨sz_ok rfl, ?_⟩
      walk_at "w"
      refine ⟨e1, pa, pb, pc, pd, 9, 54, rfl, s1, ?_⟩
      walk_at "w"
      refine ⟨e2, pa, pb, pc, pd, 9, 54, rfl, s2, ?_⟩
      walk_at "w"
      have f1 := s1.part (fs := e1) (fun t ht => ht) (Nat.le_refl _)
      have f2 := s2.part (fs := e2) (fun t ht => ht) (Nat.le_refl _)
      refine ⟨fun env' L' => ∃ (b : Bag) (o2 o9 o10 o11 o12 o14 o16 o17 o18 o19 o20 o21 o22 o23 : Option D), BagOk b ∧ env' = [some (.ro (ns.map .int)), some (.ptr p), o2, some (telD e1), some (telD e2), some (pD cP e1), some (pD cP e2), some (.int n), some (telD cz), o9, o10, o11, o12, some (.tup [.tup [.int pa, .int pb], .tup [.int pc, .int pd]]), o14, some (ratD (ev ((pa : Rat) / pb) ((pc : Rat) / pd) e1)), o16, o17, o18, o19, o20, o21, o22, o23] ∧ L' = [(p, bagC b), (Pt, .tab "law.<locals>.<lambda>")], ?_, ?_⟩
      · walk_at "w"
        refine ⟨_, _, _, _, rfl, den_ne _, den_ne _, ⟨f1.1, by rw [Int.natAbs_natCast]; exact f1.2⟩, ⟨f2.1, by rw [Int.natAbs_natCast]; exact f2.2⟩, ?_⟩
        rw [rat_self, rat_self]
        walk_at "w"
        refine ⟨_, _, _, _, rfl, den_ne _, den_ne _, ⟨f1.1, by rw [Int.natAbs_natCast]; exact f1.2⟩, ⟨f2.1, by rw [Int.natAbs_natCast]; exact f2.2⟩, ?_⟩
        rw [rat_self, rat_self]
        walk_at "w"
        refine ⟨sz_ok rfl, ?_⟩
        walk_at "w"
        have o1 : ∀ x y z : Rat, okP (.lst [ratD x, ratD y, ratD z]) = true := fun _ _ _ => rfl
        refine ⟨_, _, rfl, o1 _ _ _, o1 _ _ _, (by show 2 < 9; decide), ?_⟩
        rw [sameD_refl _ (o1 _ _ _)]
        walk_at "w"
        exact ⟨b, _, _, _, _, _, _, _, _, _, _, _, _, _, _, ok, rfl, rfl⟩
      clear ok
      rintro env' L' ⟨b, o2, o9, o10, o11, o12, o14, o16, o17, o18, o19, o20, o21, o22, o23, ok, rfl, rfl⟩
      obtain ⟨x1, x2⟩ := add_small (a := pa) (b := pb) (c := 1) (d := 3) hpb (by decide)
      obtain ⟨y1, y2⟩ := add_small (a := pc) (b := pd) (c := 0 - 2) (d := 1) hpd (by decide)
      walk_at "w"
      refine ⟨sz_ok rfl, ?_⟩
      walk_at "w"
      refine ⟨pa, pb, 1, 3, rfl, hpb, by decide, ⟨by omega, by omega⟩, ⟨by decide, by decide⟩, ?_⟩
      walk_at "w"
      refine ⟨sz_ok rfl, ?_⟩
      walk_at "w"
      refine ⟨pc, pd, 0 - 2, 1, rfl, hpd, by decide, ⟨by omega, by omega⟩, ⟨by decide, by decide⟩, ?_⟩
      obtain ⟨r1, hr1⟩ : ∃ r : Rat, r = (pa : Rat) / (pb : Rat) + ((1 : Int) : Rat) / ((3 : Int) : Rat) := ⟨_, rfl⟩
      obtain ⟨r2, hr2⟩ : ∃ r : Rat, r = (pc : Rat) / (pd : Rat) + ((0 - 2 : Int) : Rat) / ((1 : Int) : Rat) := ⟨_, rfl⟩
      rw [← hr1] at x1 x2
      rw [← hr2] at y1 y2
      rw [show (fun x y : Rat => x + y) ((pa : Rat) / (pb : Rat)) (((1 : Int) : Rat) / ((3 : Int) : Rat)) = r1 from hr1.symm, show (fun x y : Rat => x + y) ((pc : Rat) / (pd : Rat)) (((0 - 2 : Int) : Rat) / ((1 : Int) : Rat)) = r2 from hr2.symm]
      have x1 : r1.num.natAbs ≤ 32 := by omega
      have x2 : ((r1.den : Nat) : Int).natAbs ≤ 32 := by omega
      have y1 : r2.num.natAbs ≤ 32 := by omega
      have y2 : ((r2.den : Nat) : Int).natAbs ≤ 32 := by omega
      have s3 : SptOk 32 54 r1.num r1.den r2.num r2.den e1 := l1.spt (.inr rfl) (den_ne _) (den_ne _) x1 x2 y1 y2
      have q3 : PntOk 32 5 5 r1.num r1.den r2.num r2.den := pnt_of (.inr (.inr ⟨rfl, rfl⟩)) (den_ne _) (den_ne _) x1 x2 y1 y2
      walk_at "w"
      refine ⟨sz_ok rfl, ?_⟩
      walk_at "w"
      refine ⟨fun env' L' => ∃ (b : Bag) (o2 o9 o10 o11 o12 o13 o14 o15 o16 o17 o18 o19 o20 o21 o22 o23 : Option D), BagOk b ∧ env' = [some (.ro (ns.map .int)), some (.ptr p), o2, some (telD e1), some (telD e2), some (pD cP e1), some (pD cP e2), some (.int n), some (telD cz), o9, o10, o11, o12, o13, o14, o15, o16, o17, o18, o19, o20, o21, o22, o23] ∧ L' = [(p, bagC b), (Pt, .tab "law.<locals>.<lambda>")], ?_, ?_⟩
      · walk_at "w"
        refine ⟨⟨rfl, rfl⟩, e1, r1.num, r1.den, r2.num, r2.den, 32, 5, 5, rfl, q3, by omega, l1.pw, ?_⟩
        walk_at "w"
        refine ⟨⟨rfl, rfl⟩, e1, pa, pb, pc, pd, 9, 5, 5, rfl, q5, by omega, l1.pw, ?_⟩
        walk_at "w"
        refine ⟨sz_ok rfl, ?_⟩
        walk_at "w"
        refine ⟨e1, r1.num, r1.den, r2.num, r2.den, 32, 54, rfl, s3, ?_⟩
        walk_at "w"
        refine ⟨sz_ok rfl, ?_⟩
        walk_at "w"
        have o1 : ∀ x y : Rat, okP (.lst [ratD x, ratD y]) = true := fun _ _ => rfl
        refine ⟨_, _, rfl, o1 _ _, o1 _ _, (by show 2 < 9; decide), ?_⟩
        rw [sameD_refl _ (o1 _ _)]
        walk_at "w"
        exact ⟨b, _, _, _, _, _, _, _, _, _, _, _, _, _, _, _, _, ok, rfl, rfl⟩
      clear ok
      rintro env' L' ⟨b, o2, o9, o10, o11, o12, o13, o14, o15, o16, o17, o18, o19, o20, o21, o22, o23, ok, rfl, rfl⟩
      walk_at "w"
      refine ⟨rfl, ⟨rfl, IB⟩, e1, _, e2, rfl, .inr rfl, nk1, by omega, fun g1 h1 => ⟨True.intro, ?_⟩⟩
      have wg1 : g1.length ≤ 12 := by
        have := h1.few
        rw [List.length_append, scl_len] at this
        omega
      walk_at "w"
      refine ⟨rfl, True.intro, g1, .int 3, [(0, 0, 3)], rfl, .inl ⟨3, rfl, rfl⟩, h1.can.nk, (by show g1.length + 1 < 100000; omega), fun g2 h2 => ⟨True.intro, ?_⟩⟩
      walk_at "w"
      refine ⟨rfl, ⟨rfl, IB⟩, e1, _, e2, rfl, .inr rfl, nk1, by omega, fun g3 h3 => ⟨True.intro, ?_⟩⟩
      rw [show g3 = g1 from h3.one h1 fun _ => rfl]
      walk_at "w"
      refine ⟨rfl, True.intro, g1, .int 3, [(0, 0, 3)], rfl, .inl ⟨3, rfl, rfl⟩, h1.can.nk, (by show g1.length + 1 < 100000; omega), fun g4 h4 => ⟨True.intro, ?_⟩⟩
      rw [show g4 = g2 from h4.one h2 fun _ => rfl]
      walk_at "w"
      refine ⟨rfl, ⟨IB, nf⟩, g2, g2, rfl, _, rfl, ?_⟩
      rw [PO.eq_self h2.can.nk]
      walk_at "w"
      refine ⟨⟨rfl, rfl⟩, e1, rfl, by omega, ?_⟩
      walk_at "w"
      refine ⟨⟨rfl, rfl⟩, e2, rfl, by omega, ?_⟩
      walk_at "w"
      refine ⟨sz_ok rfl, ?_⟩
      walk_at "w"
      refine ⟨sz_ok rfl, ?_⟩
      walk_at "w"
      obtain ⟨o1, o2⟩ := okFs (fs := [e1, e2]) (Nat.le_of_ble_eq_true rfl) fun es he => by
        simp only [List.mem_cons, List.not_mem_nil, or_false] at he
        rcases he with rfl | rfl <;> omega
      refine ⟨_, _, rfl, o1, o1, o2, ?_⟩
      rw [show sameD (.lst [.lst (List.map tD e1), .lst (List.map tD e2)]) (.lst [telD e1, telD e2]) = true from sameD_refl _ o1]
      exact hnx _ _ ⟨b, _, _, _, _, _, _, _, _, _, _, _, _, _, _, _, _, _, _, _, _, _, _, ok, rfl, rfl⟩
  · rintro ds L k x ⟨ns, rfl, _⟩; rfl
end
end T06
namespace T06
open PySem L2 DL TL NumText PO
theorem cal_mk {P : Program} {w : World} {K : PySem.W.Frag} {mg : Str → Option Value} {base : Heap} {n : Nat} {x : Str} {ps : List Str} {g : DSp} {f : Addr} {fd : FuncData} (G : FnOk P w K mg base (L2.CX P w) n f fd ps (spD K g)) (m : mg x = some (.ref f)) (k : PySem.W.keepIn K (.ref f) = true) (b : Binds K fd ps []) : Cal P w K mg base n x ps [] g := ⟨⟨f, fd, [], [], G, m, k, b, .nil, fun _ _ => .nil⟩⟩
section
variable {P : Program} {w : World} {K : PySem.W.Frag} {mg : Str → Option Value} {base : Heap} {cP : Addr}
theorem paired_append {α β : Type} {R : α → β → Prop} : ∀ {a c : List α} {b d : List β}, Paired R a b → Paired R c d → Paired R (a ++ c) (b ++ d)
  | _, _, _, _, .nil, h => h
  | _, _, _, _, .cons h t, h2 => .cons h (paired_append t h2)
theorem mcal_mk {n : Nat} {C : Addr} {x : Str} {ps : List Str} {g : DSp} {f : Addr} {fd : FuncData} (G : FnOk P w K mg base (L2.CX P w) n f fd ps (spD K g)) (c : Cls K C) (h : Meth K C x f) (b : Binds K fd ps []) : MCal P w K mg base n C x ps [] g := ⟨⟨f, fd, [], [], G, c, h, b, .nil, fun _ _ => .nil⟩⟩
theorem init_1 {fd : FuncData} {f tE : Addr} (F : FunF K "__init__" "Poly.__init__" sPolyInit [.ref tE] [("most", .int 20)] f fd) : ∃ ds, Vals [V.int 20] ds ∧ Binds K fd ["self", "terms", "most"] ds :=
  F.binds 2 1 (by simp) rfl (fun T D doc pm an cdv ct us its ks h1 h2 h3 => match us, its, ks, h1, h2, h3 with | [_, _], [_], [_], _, _, _ => ⟨_, rfl, _, _, _, _, _, _, rfl, rfl, rfl⟩) (by simp)
theorem init_0 {fd : FuncData} {f tE : Addr} (F : FunF K "__init__" "Poly.__init__" sPolyInit [.ref tE] [("most", .int 20)] f fd) : ∃ ds, Vals [V.ref tE, V.int 20] ds ∧ Binds K fd ["self", "terms", "most"] ds :=
  F.binds 1 0 (by simp) rfl (fun T D doc pm an cdv ct us its ks h1 h2 h3 => match us, its, ks, h1, h2, h3 with | [_], [_], [_], _, _, _ => ⟨_, rfl, _, _, _, _, _, _, rfl, rfl, rfl⟩) (by simp)
theorem init_k {fd : FuncData} {f tE : Addr} (F : FunF K "__init__" "Poly.__init__" sPolyInit [.ref tE] [("most", .int 20)] f fd) : KwB K fd ["self", "terms", "most"] 2 ["most"] [] (fun a b _ => a ++ b) := by
  obtain ⟨its, mv, kb⟩ := F.kbinds (ps := ["self", "terms", "most"]) 2 ["most"] [] (fun us _ _ ws => us ++ ws) (by simp) (by simp) (fun q h => nomatch h) (fun r1 _ _ r2 => r1.append r2) (fun T D doc pm an cdv ct us its mv ws h1 h2 h3 h4 => match us, its, mv, ws, h1, h2, h3, h4 with | [_, _], [_], [], [_], _, _, _, _ => ⟨_, rfl, rfl⟩)
  exact ⟨fun s us ws X l1 l2 => kb.to s us ws X l1 l2⟩
end
theorem same_all {P : Program} {w : World} {K : PySem.W.Frag} {mg : Str → Option Value} {base : Heap} {cP : Addr} {f : Addr} {fd : FuncData} (Z : Zn w K mg cP) (F : Fun K "_law_same" "_law_same" sLSame f fd) (b : Binds K fd ["_law_found", "_law_due"] []) (m : mg "_law_same" = some (.ref f)) : ∀ n : Nat, FnOk P w K mg base (L2.CX P w) n f fd ["_law_found", "_law_due"] (spD K (sameS n))
  | 0 => by
    have no : ∀ vs H Q E, ¬ spD K (sameS 0) vs H Q E := fun vs H Q E h => by
      obtain ⟨ds, L, k, x, _, _, ⟨_, _, _, _, _, h, _⟩, _⟩ := h
      exact absurd h (Nat.not_lt_zero _)
    exact ⟨fun vs H Q E h => absurd h (no vs H Q E), fun A outer s H args us vs Q E _ _ _ _ h => absurd h (no vs H Q E)⟩
  | n + 1 => ok_LSame Z F ⟨⟨f, fd, [], [], same_all Z F b m n, m, F.kp, b, .nil, fun _ _ => .nil⟩⟩
theorem all_mk {P : Program} {w : World} {K : PySem.W.Frag} {h : Heap} {mg : Str → Option Value} {fa : Addr}
    {cP : Addr}
    {c Pt : Addr}
    {f2 : Addr} {od2 an2 : Option Addr} {sl2 : Array (Option Value)} {oc2 kV2 dc2 pm2 cd2 ct2 : Value}
    {f3 : Addr} {od3 an3 : Option Addr} {sl3 : Array (Option Value)} {oc3 kV3 dc3 pm3 cd3 ct3 : Value}
    {f4 : Addr} {od4 an4 : Option Addr} {sl4 : Array (Option Value)} {oc4 kV4 dc4 pm4 cd4 ct4 : Value}
    {f5 : Addr} {od5 an5 : Option Addr} {sl5 : Array (Option Value)} {oc5 kV5 dc5 pm5 cd5 ct5 : Value}
    {f6 : Addr} {od6 an6 : Option Addr} {sl6 : Array (Option Value)} {oc6 kV6 dc6 pm6 cd6 ct6 : Value}
    {f7 : Addr} {od7 an7 : Option Addr} {sl7 : Array (Option Value)} {oc7 kV7 dc7 pm7 cd7 ct7 : Value}
    {f10 : Addr} {od10 an10 : Option Addr} {sl10 : Array (Option Value)} {oc10 kV10 dc10 pm10 cd10 ct10 : Value}
    {f11 : Addr} {od11 an11 : Option Addr} {sl11 : Array (Option Value)} {oc11 kV11 dc11 pm11 cd11 ct11 : Value}
    {f12 : Addr} {od12 an12 : Option Addr} {sl12 : Array (Option Value)} {oc12 kV12 dc12 pm12 cd12 ct12 : Value}
    {f13 : Addr} {od13 an13 : Option Addr} {sl13 : Array (Option Value)} {oc13 kV13 dc13 pm13 cd13 ct13 : Value}
    {f14 : Addr} {od14 an14 : Option Addr} {sl14 : Array (Option Value)} {oc14 kV14 dc14 pm14 cd14 ct14 : Value}
    {f15 : Addr} {od15 an15 : Option Addr} {sl15 : Array (Option Value)} {oc15 kV15 dc15 pm15 cd15 ct15 : Value}
    {f16 : Addr} {od16 an16 : Option Addr} {sl16 : Array (Option Value)} {oc16 kV16 dc16 pm16 cd16 ct16 : Value}
    {f17 : Addr} {od17 an17 : Option Addr} {sl17 : Array (Option Value)} {oc17 kV17 dc17 pm17 cd17 ct17 : Value}
    {f18 : Addr} {od18 an18 : Option Addr} {sl18 : Array (Option Value)} {oc18 kV18 dc18 pm18 cd18 ct18 : Value}
    {f19 : Addr} {od19 an19 : Option Addr} {sl19 : Array (Option Value)} {oc19 kV19 dc19 pm19 cd19 ct19 : Value}
    {f20 : Addr} {od20 an20 : Option Addr} {sl20 : Array (Option Value)} {oc20 kV20 dc20 pm20 cd20 ct20 : Value}
    {f21 : Addr} {od21 an21 : Option Addr} {sl21 : Array (Option Value)} {oc21 kV21 dc21 pm21 cd21 ct21 : Value}
    {f22 : Addr} {od22 an22 : Option Addr} {sl22 : Array (Option Value)} {oc22 kV22 dc22 pm22 cd22 ct22 : Value}
    {f23 : Addr} {od23 an23 : Option Addr} {sl23 : Array (Option Value)} {oc23 kV23 dc23 pm23 cd23 ct23 : Value}
    {f24 : Addr} {od24 an24 : Option Addr} {sl24 : Array (Option Value)} {oc24 kV24 dc24 pm24 cd24 ct24 : Value}
    {f25 : Addr} {od25 an25 : Option Addr} {sl25 : Array (Option Value)} {oc25 kV25 dc25 pm25 cd25 ct25 : Value}
    {f26 : Addr} {od26 an26 : Option Addr} {sl26 : Array (Option Value)} {oc26 kV26 dc26 pm26 cd26 ct26 : Value}
    {f27 : Addr} {od27 an27 : Option Addr} {sl27 : Array (Option Value)} {oc27 kV27 dc27 pm27 cd27 ct27 : Value}
    {f28 : Addr} {od28 an28 : Option Addr} {sl28 : Array (Option Value)} {oc28 kV28 dc28 pm28 cd28 ct28 : Value}
    {f29 : Addr} {od29 an29 : Option Addr} {sl29 : Array (Option Value)} {oc29 kV29 dc29 pm29 cd29 ct29 : Value}
    {f30 : Addr} {od30 an30 : Option Addr} {sl30 : Array (Option Value)} {oc30 kV30 dc30 pm30 cd30 ct30 : Value}
    {f31 : Addr} {od31 an31 : Option Addr} {sl31 : Array (Option Value)} {oc31 kV31 dc31 pm31 ct31 : Value}
    {f32 tE : Addr} {fd32 : FuncData}
    {f36 : Addr} {od36 an36 : Option Addr} {sl36 : Array (Option Value)} {oc36 kV36 dc36 pm36 cd36 ct36 : Value}
    {f38 : Addr} {od38 an38 : Option Addr} {sl38 : Array (Option Value)} {oc38 kV38 dc38 pm38 cd38 ct38 : Value}
    {f40 : Addr} {od40 an40 : Option Addr} {sl40 : Array (Option Value)} {oc40 kV40 dc40 pm40 cd40 ct40 : Value}
    {f44 : Addr} {od44 an44 : Option Addr} {sl44 : Array (Option Value)} {oc44 kV44 dc44 pm44 cd44 ct44 : Value}
    {f45 : Addr} {od45 an45 : Option Addr} {sl45 : Array (Option Value)} {oc45 kV45 dc45 pm45 cd45 ct45 : Value}
    {f46 : Addr} {od46 an46 : Option Addr} {sl46 : Array (Option Value)} {oc46 kV46 dc46 pm46 cd46 ct46 : Value}
    {f47 : Addr} {od47 an47 : Option Addr} {sl47 : Array (Option Value)} {oc47 kV47 dc47 pm47 cd47 ct47 : Value}
    {f48 : Addr} {od48 an48 : Option Addr} {sl48 : Array (Option Value)} {oc48 kV48 dc48 pm48 cd48 ct48 : Value}
    {f49 : Addr} {od49 an49 : Option Addr} {sl49 : Array (Option Value)} {oc49 kV49 dc49 pm49 cd49 ct49 : Value}
    {f50 : Addr} {od50 an50 : Option Addr} {sl50 : Array (Option Value)} {oc50 kV50 dc50 pm50 cd50 ct50 : Value}
    {f51 : Addr} {od51 an51 : Option Addr} {sl51 : Array (Option Value)} {oc51 kV51 dc51 pm51 cd51 ct51 : Value}
    {f52 : Addr} {od52 an52 : Option Addr} {sl52 : Array (Option Value)} {oc52 kV52 dc52 pm52 cd52 ct52 : Value}
    {ad_LETTERS : Addr}
    {gT1 pT1 : Addr} {odT1 anT1 : Option Addr} {slT1 : Array (Option Value)} {ocT1 kVT1 dcT1 pmT1 cdT1 ctT1 : Value}
    {gL0 pL0 : Addr} {odG0 anG0 : Option Addr} {slG0 : Array (Option Value)} {ocG0 kVG0 dcG0 pmG0 cdG0 ctG0 : Value}
    (X : K.In h) (G : h.Ns mainGlobals mg) (hfa : mg "law" = some (.ref fa))
    (a_Poly : PySem.W.nsIn K mainGlobals "Poly" = some (some (.ref cP)))
    (a2 : PySem.W.nsIn K mainGlobals "is_integer" = some (some (.ref f2)))
    (l2 : K.lookup f2 = some ⟨oc2, od2, .func (PySem.W.fnOf "is_integer" "is_integer" (defArgs sIsInteger) (defBody sIsInteger) (defScope sIsInteger) .none kV2 dc2 pm2 an2 cd2 ct2), sl2⟩)
    (c2 : PySem.W.codeIn K cd2 "is_integer" = true)
    (k2 : PySem.W.keepIn K (.ref f2) = true)
    (a3 : PySem.W.nsIn K mainGlobals "is_number" = some (some (.ref f3)))
    (l3 : K.lookup f3 = some ⟨oc3, od3, .func (PySem.W.fnOf "is_number" "is_number" (defArgs sIsNumber) (defBody sIsNumber) (defScope sIsNumber) .none kV3 dc3 pm3 an3 cd3 ct3), sl3⟩)
    (c3 : PySem.W.codeIn K cd3 "is_number" = true)
    (k3 : PySem.W.keepIn K (.ref f3) = true)
    (a4 : PySem.W.nsIn K mainGlobals "lowest" = some (some (.ref f4)))
    (l4 : K.lookup f4 = some ⟨oc4, od4, .func (PySem.W.fnOf "lowest" "lowest" (defArgs sLowest) (defBody sLowest) (defScope sLowest) .none kV4 dc4 pm4 an4 cd4 ct4), sl4⟩)
    (c4 : PySem.W.codeIn K cd4 "lowest" = true)
    (k4 : PySem.W.keepIn K (.ref f4) = true)
    (a5 : PySem.W.nsIn K mainGlobals "check_letter" = some (some (.ref f5)))
    (l5 : K.lookup f5 = some ⟨oc5, od5, .func (PySem.W.fnOf "check_letter" "check_letter" (defArgs sCheckLetter) (defBody sCheckLetter) (defScope sCheckLetter) .none kV5 dc5 pm5 an5 cd5 ct5), sl5⟩)
    (c5 : PySem.W.codeIn K cd5 "check_letter" = true)
    (k5 : PySem.W.keepIn K (.ref f5) = true)
    (a6 : PySem.W.nsIn K mainGlobals "check_terms" = some (some (.ref f6)))
    (l6 : K.lookup f6 = some ⟨oc6, od6, .func (PySem.W.fnOf "check_terms" "check_terms" (defArgs sCheckTerms) (defBody sCheckTerms) (defScope sCheckTerms) .none kV6 dc6 pm6 an6 cd6 ct6), sl6⟩)
    (c6 : PySem.W.codeIn K cd6 "check_terms" = true)
    (k6 : PySem.W.keepIn K (.ref f6) = true)
    (a7 : PySem.W.nsIn K mainGlobals "made_of" = some (some (.ref f7)))
    (l7 : K.lookup f7 = some ⟨oc7, od7, .func (PySem.W.fnOf "made_of" "made_of" (defArgs sMadeOf) (defBody sMadeOf) (defScope sMadeOf) .none kV7 dc7 pm7 an7 cd7 ct7), sl7⟩)
    (c7 : PySem.W.codeIn K cd7 "made_of" = true)
    (k7 : PySem.W.keepIn K (.ref f7) = true)
    (a10 : PySem.W.nsIn K mainGlobals "added" = some (some (.ref f10)))
    (l10 : K.lookup f10 = some ⟨oc10, od10, .func (PySem.W.fnOf "added" "added" (defArgs sAdded) (defBody sAdded) (defScope sAdded) .none kV10 dc10 pm10 an10 cd10 ct10), sl10⟩)
    (c10 : PySem.W.codeIn K cd10 "added" = true)
    (k10 : PySem.W.keepIn K (.ref f10) = true)
    (a11 : PySem.W.nsIn K mainGlobals "multiplied" = some (some (.ref f11)))
    (l11 : K.lookup f11 = some ⟨oc11, od11, .func (PySem.W.fnOf "multiplied" "multiplied" (defArgs sMultiplied) (defBody sMultiplied) (defScope sMultiplied) .none kV11 dc11 pm11 an11 cd11 ct11), sl11⟩)
    (c11 : PySem.W.codeIn K cd11 "multiplied" = true)
    (k11 : PySem.W.keepIn K (.ref f11) = true)
    (a12 : PySem.W.nsIn K mainGlobals "powers" = some (some (.ref f12)))
    (l12 : K.lookup f12 = some ⟨oc12, od12, .func (PySem.W.fnOf "powers" "powers" (defArgs sPowers) (defBody sPowers) (defScope sPowers) .none kV12 dc12 pm12 an12 cd12 ct12), sl12⟩)
    (c12 : PySem.W.codeIn K cd12 "powers" = true)
    (k12 : PySem.W.keepIn K (.ref f12) = true)
    (a13 : PySem.W.nsIn K mainGlobals "_law_bag" = some (some (.ref f13)))
    (l13 : K.lookup f13 = some ⟨oc13, od13, .func (PySem.W.fnOf "_law_bag" "_law_bag" (defArgs sLBag) (defBody sLBag) (defScope sLBag) .none kV13 dc13 pm13 an13 cd13 ct13), sl13⟩)
    (c13 : PySem.W.codeIn K cd13 "_law_bag" = true)
    (k13 : PySem.W.keepIn K (.ref f13) = true)
    (a14 : PySem.W.nsIn K mainGlobals "_law_pull" = some (some (.ref f14)))
    (l14 : K.lookup f14 = some ⟨oc14, od14, .func (PySem.W.fnOf "_law_pull" "_law_pull" (defArgs sLPull) (defBody sLPull) (defScope sLPull) .none kV14 dc14 pm14 an14 cd14 ct14), sl14⟩)
    (c14 : PySem.W.codeIn K cd14 "_law_pull" = true)
    (k14 : PySem.W.keepIn K (.ref f14) = true)
    (a15 : PySem.W.nsIn K mainGlobals "_law_of" = some (some (.ref f15)))
    (l15 : K.lookup f15 = some ⟨oc15, od15, .func (PySem.W.fnOf "_law_of" "_law_of" (defArgs sLOf) (defBody sLOf) (defScope sLOf) .none kV15 dc15 pm15 an15 cd15 ct15), sl15⟩)
    (c15 : PySem.W.codeIn K cd15 "_law_of" = true)
    (k15 : PySem.W.keepIn K (.ref f15) = true)
    (a16 : PySem.W.nsIn K mainGlobals "_law_same" = some (some (.ref f16)))
    (l16 : K.lookup f16 = some ⟨oc16, od16, .func (PySem.W.fnOf "_law_same" "_law_same" (defArgs sLSame) (defBody sLSame) (defScope sLSame) .none kV16 dc16 pm16 an16 cd16 ct16), sl16⟩)
    (c16 : PySem.W.codeIn K cd16 "_law_same" = true)
    (k16 : PySem.W.keepIn K (.ref f16) = true)
    (a17 : PySem.W.nsIn K mainGlobals "_law_gcd" = some (some (.ref f17)))
    (l17 : K.lookup f17 = some ⟨oc17, od17, .func (PySem.W.fnOf "_law_gcd" "_law_gcd" (defArgs sLGcd) (defBody sLGcd) (defScope sLGcd) .none kV17 dc17 pm17 an17 cd17 ct17), sl17⟩)
    (c17 : PySem.W.codeIn K cd17 "_law_gcd" = true)
    (k17 : PySem.W.keepIn K (.ref f17) = true)
    (a18 : PySem.W.nsIn K mainGlobals "_law_low" = some (some (.ref f18)))
    (l18 : K.lookup f18 = some ⟨oc18, od18, .func (PySem.W.fnOf "_law_low" "_law_low" (defArgs sLLow) (defBody sLLow) (defScope sLLow) .none kV18 dc18 pm18 an18 cd18 ct18), sl18⟩)
    (c18 : PySem.W.codeIn K cd18 "_law_low" = true)
    (k18 : PySem.W.keepIn K (.ref f18) = true)
    (a19 : PySem.W.nsIn K mainGlobals "_law_add" = some (some (.ref f19)))
    (l19 : K.lookup f19 = some ⟨oc19, od19, .func (PySem.W.fnOf "_law_add" "_law_add" (defArgs sLAdd) (defBody sLAdd) (defScope sLAdd) .none kV19 dc19 pm19 an19 cd19 ct19), sl19⟩)
    (c19 : PySem.W.codeIn K cd19 "_law_add" = true)
    (k19 : PySem.W.keepIn K (.ref f19) = true)
    (a20 : PySem.W.nsIn K mainGlobals "_law_sub" = some (some (.ref f20)))
    (l20 : K.lookup f20 = some ⟨oc20, od20, .func (PySem.W.fnOf "_law_sub" "_law_sub" (defArgs sLSub) (defBody sLSub) (defScope sLSub) .none kV20 dc20 pm20 an20 cd20 ct20), sl20⟩)
    (c20 : PySem.W.codeIn K cd20 "_law_sub" = true)
    (k20 : PySem.W.keepIn K (.ref f20) = true)
    (a21 : PySem.W.nsIn K mainGlobals "_law_mul" = some (some (.ref f21)))
    (l21 : K.lookup f21 = some ⟨oc21, od21, .func (PySem.W.fnOf "_law_mul" "_law_mul" (defArgs sLMul) (defBody sLMul) (defScope sLMul) .none kV21 dc21 pm21 an21 cd21 ct21), sl21⟩)
    (c21 : PySem.W.codeIn K cd21 "_law_mul" = true)
    (k21 : PySem.W.keepIn K (.ref f21) = true)
    (a22 : PySem.W.nsIn K mainGlobals "_law_ratio" = some (some (.ref f22)))
    (l22 : K.lookup f22 = some ⟨oc22, od22, .func (PySem.W.fnOf "_law_ratio" "_law_ratio" (defArgs sLRatio) (defBody sLRatio) (defScope sLRatio) .none kV22 dc22 pm22 an22 cd22 ct22), sl22⟩)
    (c22 : PySem.W.codeIn K cd22 "_law_ratio" = true)
    (k22 : PySem.W.keepIn K (.ref f22) = true)
    (a23 : PySem.W.nsIn K mainGlobals "_law_point" = some (some (.ref f23)))
    (l23 : K.lookup f23 = some ⟨oc23, od23, .func (PySem.W.fnOf "_law_point" "_law_point" (defArgs sLPoint) (defBody sLPoint) (defScope sLPoint) .none kV23 dc23 pm23 an23 cd23 ct23), sl23⟩)
    (c23 : PySem.W.codeIn K cd23 "_law_point" = true)
    (k23 : PySem.W.keepIn K (.ref f23) = true)
    (a24 : PySem.W.nsIn K mainGlobals "_law_to" = some (some (.ref f24)))
    (l24 : K.lookup f24 = some ⟨oc24, od24, .func (PySem.W.fnOf "_law_to" "_law_to" (defArgs sLTo) (defBody sLTo) (defScope sLTo) .none kV24 dc24 pm24 an24 cd24 ct24), sl24⟩)
    (c24 : PySem.W.codeIn K cd24 "_law_to" = true)
    (k24 : PySem.W.keepIn K (.ref f24) = true)
    (a25 : PySem.W.nsIn K mainGlobals "_law_gathered" = some (some (.ref f25)))
    (l25 : K.lookup f25 = some ⟨oc25, od25, .func (PySem.W.fnOf "_law_gathered" "_law_gathered" (defArgs sLGathered) (defBody sLGathered) (defScope sLGathered) .none kV25 dc25 pm25 an25 cd25 ct25), sl25⟩)
    (c25 : PySem.W.codeIn K cd25 "_law_gathered" = true)
    (k25 : PySem.W.keepIn K (.ref f25) = true)
    (a26 : PySem.W.nsIn K mainGlobals "_law_terms" = some (some (.ref f26)))
    (l26 : K.lookup f26 = some ⟨oc26, od26, .func (PySem.W.fnOf "_law_terms" "_law_terms" (defArgs sLTerms) (defBody sLTerms) (defScope sLTerms) .none kV26 dc26 pm26 an26 cd26 ct26), sl26⟩)
    (c26 : PySem.W.codeIn K cd26 "_law_terms" = true)
    (k26 : PySem.W.keepIn K (.ref f26) = true)
    (a27 : PySem.W.nsIn K mainGlobals "_law_terms_plus" = some (some (.ref f27)))
    (l27 : K.lookup f27 = some ⟨oc27, od27, .func (PySem.W.fnOf "_law_terms_plus" "_law_terms_plus" (defArgs sLTermsPlus) (defBody sLTermsPlus) (defScope sLTermsPlus) .none kV27 dc27 pm27 an27 cd27 ct27), sl27⟩)
    (c27 : PySem.W.codeIn K cd27 "_law_terms_plus" = true)
    (k27 : PySem.W.keepIn K (.ref f27) = true)
    (a28 : PySem.W.nsIn K mainGlobals "_law_terms_times" = some (some (.ref f28)))
    (l28 : K.lookup f28 = some ⟨oc28, od28, .func (PySem.W.fnOf "_law_terms_times" "_law_terms_times" (defArgs sLTermsTimes) (defBody sLTermsTimes) (defScope sLTermsTimes) .none kV28 dc28 pm28 an28 cd28 ct28), sl28⟩)
    (c28 : PySem.W.codeIn K cd28 "_law_terms_times" = true)
    (k28 : PySem.W.keepIn K (.ref f28) = true)
    (a29 : PySem.W.nsIn K mainGlobals "_law_terms_at" = some (some (.ref f29)))
    (l29 : K.lookup f29 = some ⟨oc29, od29, .func (PySem.W.fnOf "_law_terms_at" "_law_terms_at" (defArgs sLTermsAt) (defBody sLTermsAt) (defScope sLTermsAt) .none kV29 dc29 pm29 an29 cd29 ct29), sl29⟩)
    (c29 : PySem.W.codeIn K cd29 "_law_terms_at" = true)
    (k29 : PySem.W.keepIn K (.ref f29) = true)
    (a30 : PySem.W.nsIn K mainGlobals "_law_poly" = some (some (.ref f30)))
    (l30 : K.lookup f30 = some ⟨oc30, od30, .func (PySem.W.fnOf "_law_poly" "_law_poly" (defArgs sLPoly) (defBody sLPoly) (defScope sLPoly) .none kV30 dc30 pm30 an30 cd30 ct30), sl30⟩)
    (c30 : PySem.W.codeIn K cd30 "_law_poly" = true)
    (k30 : PySem.W.keepIn K (.ref f30) = true)
    (a31 : PySem.W.nsIn K mainGlobals "law" = some (some (.ref f31)))
    (l31 : K.lookup f31 = some ⟨oc31, od31, .func (PySem.W.fnOf "law" "law" (defArgs sLaw) (defBody sLaw) (defScope sLaw) .none kV31 dc31 pm31 an31 (.ref c) ct31), sl31⟩)
    (c31 : PySem.W.codeIn K (.ref c) "law" = true)
    (k31 : PySem.W.keepIn K (.ref f31) = true)
    (a32 : PySem.W.findIn K (.ref cP) "__init__" = some (some (.ref f32)))
    (i32 : PySem.W.isFn K (.ref f32) = true)
    (FF32 : FunF K "__init__" "Poly.__init__" sPolyInit [.ref tE] [("most", .int 20)] f32 fd32)
    (r_tE : ∀ L H, Rp L K H (.ref tE) (.tup []))
    (a36 : PySem.W.findIn K (.ref cP) "degree_in" = some (some (.ref f36)))
    (i36 : PySem.W.isFn K (.ref f36) = true)
    (l36 : K.lookup f36 = some ⟨oc36, od36, .func (PySem.W.fnOf "degree_in" "Poly.degree_in" (defArgs sPolyDegreeIn) (defBody sPolyDegreeIn) (defScope sPolyDegreeIn) .none kV36 dc36 pm36 an36 cd36 ct36), sl36⟩)
    (c36 : PySem.W.codeIn K cd36 "Poly.degree_in" = true)
    (k36 : PySem.W.keepIn K (.ref f36) = true)
    (a38 : PySem.W.findIn K (.ref cP) "terms" = some (some (.ref f38)))
    (i38 : PySem.W.isFn K (.ref f38) = true)
    (l38 : K.lookup f38 = some ⟨oc38, od38, .func (PySem.W.fnOf "terms" "Poly.terms" (defArgs sPolyTerms) (defBody sPolyTerms) (defScope sPolyTerms) .none kV38 dc38 pm38 an38 cd38 ct38), sl38⟩)
    (c38 : PySem.W.codeIn K cd38 "Poly.terms" = true)
    (k38 : PySem.W.keepIn K (.ref f38) = true)
    (a40 : PySem.W.findIn K (.ref cP) "value_at" = some (some (.ref f40)))
    (i40 : PySem.W.isFn K (.ref f40) = true)
    (l40 : K.lookup f40 = some ⟨oc40, od40, .func (PySem.W.fnOf "value_at" "Poly.value_at" (defArgs sPolyValueAt) (defBody sPolyValueAt) (defScope sPolyValueAt) .none kV40 dc40 pm40 an40 cd40 ct40), sl40⟩)
    (c40 : PySem.W.codeIn K cd40 "Poly.value_at" = true)
    (k40 : PySem.W.keepIn K (.ref f40) = true)
    (a44 : PySem.W.findIn K (.ref cP) "__add__" = some (some (.ref f44)))
    (i44 : PySem.W.isFn K (.ref f44) = true)
    (l44 : K.lookup f44 = some ⟨oc44, od44, .func (PySem.W.fnOf "__add__" "Poly.__add__" (defArgs sPolyAdd) (defBody sPolyAdd) (defScope sPolyAdd) .none kV44 dc44 pm44 an44 cd44 ct44), sl44⟩)
    (c44 : PySem.W.codeIn K cd44 "Poly.__add__" = true)
    (k44 : PySem.W.keepIn K (.ref f44) = true)
    (a45 : PySem.W.findIn K (.ref cP) "__radd__" = some (some (.ref f45)))
    (i45 : PySem.W.isFn K (.ref f45) = true)
    (l45 : K.lookup f45 = some ⟨oc45, od45, .func (PySem.W.fnOf "__radd__" "Poly.__radd__" (defArgs sPolyRadd) (defBody sPolyRadd) (defScope sPolyRadd) .none kV45 dc45 pm45 an45 cd45 ct45), sl45⟩)
    (c45 : PySem.W.codeIn K cd45 "Poly.__radd__" = true)
    (k45 : PySem.W.keepIn K (.ref f45) = true)
    (a46 : PySem.W.findIn K (.ref cP) "__sub__" = some (some (.ref f46)))
    (i46 : PySem.W.isFn K (.ref f46) = true)
    (l46 : K.lookup f46 = some ⟨oc46, od46, .func (PySem.W.fnOf "__sub__" "Poly.__sub__" (defArgs sPolySub) (defBody sPolySub) (defScope sPolySub) .none kV46 dc46 pm46 an46 cd46 ct46), sl46⟩)
    (c46 : PySem.W.codeIn K cd46 "Poly.__sub__" = true)
    (k46 : PySem.W.keepIn K (.ref f46) = true)
    (a47 : PySem.W.findIn K (.ref cP) "__rsub__" = some (some (.ref f47)))
    (i47 : PySem.W.isFn K (.ref f47) = true)
    (l47 : K.lookup f47 = some ⟨oc47, od47, .func (PySem.W.fnOf "__rsub__" "Poly.__rsub__" (defArgs sPolyRsub) (defBody sPolyRsub) (defScope sPolyRsub) .none kV47 dc47 pm47 an47 cd47 ct47), sl47⟩)
    (c47 : PySem.W.codeIn K cd47 "Poly.__rsub__" = true)
    (k47 : PySem.W.keepIn K (.ref f47) = true)
    (a48 : PySem.W.findIn K (.ref cP) "__mul__" = some (some (.ref f48)))
    (i48 : PySem.W.isFn K (.ref f48) = true)
    (l48 : K.lookup f48 = some ⟨oc48, od48, .func (PySem.W.fnOf "__mul__" "Poly.__mul__" (defArgs sPolyMul) (defBody sPolyMul) (defScope sPolyMul) .none kV48 dc48 pm48 an48 cd48 ct48), sl48⟩)
    (c48 : PySem.W.codeIn K cd48 "Poly.__mul__" = true)
    (k48 : PySem.W.keepIn K (.ref f48) = true)
    (a49 : PySem.W.findIn K (.ref cP) "__rmul__" = some (some (.ref f49)))
    (i49 : PySem.W.isFn K (.ref f49) = true)
    (l49 : K.lookup f49 = some ⟨oc49, od49, .func (PySem.W.fnOf "__rmul__" "Poly.__rmul__" (defArgs sPolyRmul) (defBody sPolyRmul) (defScope sPolyRmul) .none kV49 dc49 pm49 an49 cd49 ct49), sl49⟩)
    (c49 : PySem.W.codeIn K cd49 "Poly.__rmul__" = true)
    (k49 : PySem.W.keepIn K (.ref f49) = true)
    (a50 : PySem.W.findIn K (.ref cP) "__neg__" = some (some (.ref f50)))
    (i50 : PySem.W.isFn K (.ref f50) = true)
    (l50 : K.lookup f50 = some ⟨oc50, od50, .func (PySem.W.fnOf "__neg__" "Poly.__neg__" (defArgs sPolyNeg) (defBody sPolyNeg) (defScope sPolyNeg) .none kV50 dc50 pm50 an50 cd50 ct50), sl50⟩)
    (c50 : PySem.W.codeIn K cd50 "Poly.__neg__" = true)
    (k50 : PySem.W.keepIn K (.ref f50) = true)
    (a51 : PySem.W.findIn K (.ref cP) "__pow__" = some (some (.ref f51)))
    (i51 : PySem.W.isFn K (.ref f51) = true)
    (l51 : K.lookup f51 = some ⟨oc51, od51, .func (PySem.W.fnOf "__pow__" "Poly.__pow__" (defArgs sPolyPow) (defBody sPolyPow) (defScope sPolyPow) .none kV51 dc51 pm51 an51 cd51 ct51), sl51⟩)
    (c51 : PySem.W.codeIn K cd51 "Poly.__pow__" = true)
    (k51 : PySem.W.keepIn K (.ref f51) = true)
    (a52 : PySem.W.findIn K (.ref cP) "__eq__" = some (some (.ref f52)))
    (i52 : PySem.W.isFn K (.ref f52) = true)
    (l52 : K.lookup f52 = some ⟨oc52, od52, .func (PySem.W.fnOf "__eq__" "Poly.__eq__" (defArgs sPolyEq) (defBody sPolyEq) (defScope sPolyEq) .none kV52 dc52 pm52 an52 cd52 ct52), sl52⟩)
    (c52 : PySem.W.codeIn K cd52 "Poly.__eq__" = true)
    (k52 : PySem.W.keepIn K (.ref f52) = true)
    (z_isinstance : PySem.W.nsIn K mainGlobals "isinstance" = some none)
    (z_int : PySem.W.nsIn K mainGlobals "int" = some none)
    (z_bool : PySem.W.nsIn K mainGlobals "bool" = some none)
    (z_str : PySem.W.nsIn K mainGlobals "str" = some none)
    (z_list : PySem.W.nsIn K mainGlobals "list" = some none)
    (z_tuple : PySem.W.nsIn K mainGlobals "tuple" = some none)
    (z_len : PySem.W.nsIn K mainGlobals "len" = some none)
    (z_abs : PySem.W.nsIn K mainGlobals "abs" = some none)
    (z_all : PySem.W.nsIn K mainGlobals "all" = some none)
    (z_range : PySem.W.nsIn K mainGlobals "range" = some none)
    (z_zip : PySem.W.nsIn K mainGlobals "zip" = some none)
    (z_enumerate : PySem.W.nsIn K mainGlobals "enumerate" = some none)
    (z_sorted : PySem.W.nsIn K mainGlobals "sorted" = some none)
    (z_reversed : PySem.W.nsIn K mainGlobals "reversed" = some none)
    (z_repr : PySem.W.nsIn K mainGlobals "repr" = some none)
    (z_max : PySem.W.nsIn K mainGlobals "max" = some none)
    (g_gcd : PySem.W.nsIn K mainGlobals "gcd" = some (some (.builtin "math.gcd")))
    (g_LETTERS : PySem.W.nsIn K mainGlobals "LETTERS" = some (some (.ref ad_LETTERS)))
    (r_LETTERS : ∀ L H, Rp L K H (.ref ad_LETTERS) (.tup [.str "x", .str "y"]))
    (gt_LETTERS : DH.gtB K ad_LETTERS ["x", "y"] = true)
    (pg_Poly : PySem.W.plainGet K cP Str.empty = true)
    (hd_Poly : PySem.W.hasDictIn K cP = true)
    (po_Poly : PySem.W.plainOver K cP = true)
    (sa_Poly : PySem.W.findIn K (.ref cP) "__setattr__" = some (some (.builtin "object.__setattr__")))
    (mk_Poly : PySem.W.makesIn K cP = true)
    (kc_Poly : PySem.W.keepIn K (.ref cP) = true)
    (no0_Poly : PySem.W.findIn K (.ref cP) "cells" = some none)
    (ic_ha : PySem.W.findIn K (.ref cP) "__class__" = some (some (.builtin "object.__class__")))
    (ic_hn : PySem.W.specialIn K (.builtin "object.__class__") "__get__" = some (some (.builtin "getset_descriptor.__get__")))
    (ic_tk : PySem.W.takesIn K (.builtin "object.__class__") = some true)
    (ic_hm : PySem.W.mroIn K cP (.type "object") = some true)
    (ne_ne : PySem.W.findIn K (.ref cP) "__ne__" = some (some (.builtin "object.__ne__")))
    (kI : PySem.W.kitOne K (.ref cP) (.type "int") = some false)
    (sf_P : PySem.W.selfFirst K cP = true)
    (sub_ip : PySem.W.subIn K (.type "int") (.ref cP) = some false)
    (sub_pi : PySem.W.subIn K (.ref cP) (.type "int") = some false)
    (mro_P : (PySem.W.clsIn K cP).map (fun d => d.mro) = some [.ref cP, .type "object"])
    (rp_pow : PySem.W.findIn K (.ref cP) (dunderR "pow") = some none)
    (i1_add : PySem.W.findIn K (.type "int") (PySem.dunder "add") = some (some (.builtin "int.__add__")))
    (i2_add : PySem.W.findIn K (.type "int") (dunderR "add") = some (some (.builtin "int.__radd__")))
    (i1_sub : PySem.W.findIn K (.type "int") (PySem.dunder "sub") = some (some (.builtin "int.__sub__")))
    (i2_sub : PySem.W.findIn K (.type "int") (dunderR "sub") = some (some (.builtin "int.__rsub__")))
    (i1_mul : PySem.W.findIn K (.type "int") (PySem.dunder "mul") = some (some (.builtin "int.__mul__")))
    (i2_mul : PySem.W.findIn K (.type "int") (dunderR "mul") = some (some (.builtin "int.__rmul__")))
    (i1_pow : PySem.W.findIn K (.type "int") (PySem.dunder "pow") = some (some (.builtin "int.__pow__")))
    (i2_pow : PySem.W.findIn K (.type "int") (dunderR "pow") = some (some (.builtin "int.__rpow__")))
    (ip_add : PySem.W.findIn K (.ref cP) (dunderI "add") = some none)
    (io_add : PySem.W.findIn K (.type "object") (dunderI "add") = some none)
    (ip_sub : PySem.W.findIn K (.ref cP) (dunderI "sub") = some none)
    (io_sub : PySem.W.findIn K (.type "object") (dunderI "sub") = some none)
    (SM_letter : SMet K cP (.type "type") "letter" pT1 gT1)
    (lT1 : K.lookup gT1 = some ⟨ocT1, odT1, .func (PySem.W.fnOf "letter" "Poly.letter" (defArgs sPolyLetter) (defBody sPolyLetter) (defScope sPolyLetter) .none kVT1 dcT1 pmT1 anT1 cdT1 ctT1), slT1⟩)
    (cT1 : PySem.W.codeIn K cdT1 "Poly.letter" = true)
    (cr : ClX.CRead K cP (.type "type"))
    (PO0 : PropOf K cP "degree" pL0 gL0)
    (lG0 : K.lookup gL0 = some ⟨ocG0, odG0, .func (PySem.W.fnOf "degree" "Poly.degree" (defArgs sGet0) (defBody sGet0) (defScope sGet0) .none kVG0 dcG0 pmG0 anG0 cdG0 ctG0), slG0⟩)
    (cG0 : PySem.W.codeIn K cdG0 "Poly.degree" = true)
    (kG0 : PySem.W.keepIn K (.ref gL0) = true) :
    ∃ fd : FuncData, (∀ (s : Shared) (v : Value), BindsTo s fd ⟨[v], []⟩ [("_law_script", v)]) ∧ ∀ base : Heap, K.In base → base.Ns mainGlobals mg → LamX.TabB base mg c Pt → FnOk P w K mg base (L2.CX P w) 16 fa fd ["_law_script"] (spD K (lawS Pt)) := by
  have n_Poly := PySem.W.mg_of X G a_Poly
  have e := hfa.symm.trans (PySem.W.mg_of X G a31)
  cases e
  have c_Poly : Cls K cP := ⟨pg_Poly, hd_Poly, po_Poly, sa_Poly⟩
  have Mk_Poly : Mk K cP f32 := ⟨mk_Poly, a32, i32, kc_Poly⟩
  have FPolyLetter := fun_mk (st := sPolyLetter) lT1 cT1 SM_letter.kp
  have bPolyLetter := FPolyLetter.binds (ps := ["name"]) fun _ _ _ _ _ _ us hl => match us, hl with | [_], _ => rfl
  have FPolyDegree := fun_mk (st := sGet0) lG0 cG0 kG0
  have bPolyDegree := FPolyDegree.binds (ps := ["self"]) fun _ _ _ _ _ _ us hl => match us, hl with | [_], _ => rfl
  have FIsInteger := fun_mk (st := sIsInteger) l2 c2 k2
  have bIsInteger := FIsInteger.binds (ps := ["value"]) fun _ _ _ _ _ _ us hl => match us, hl with | [_], _ => rfl
  have mIsInteger := PySem.W.mg_of X G a2
  have FIsNumber := fun_mk (st := sIsNumber) l3 c3 k3
  have bIsNumber := FIsNumber.binds (ps := ["value", "least", "most"]) fun _ _ _ _ _ _ us hl => match us, hl with | [_, _, _], _ => rfl
  have mIsNumber := PySem.W.mg_of X G a3
  have FLowest := fun_mk (st := sLowest) l4 c4 k4
  have bLowest := FLowest.binds (ps := ["top", "bottom"]) fun _ _ _ _ _ _ us hl => match us, hl with | [_, _], _ => rfl
  have mLowest := PySem.W.mg_of X G a4
  have FCheckLetter := fun_mk (st := sCheckLetter) l5 c5 k5
  have bCheckLetter := FCheckLetter.binds (ps := ["letter"]) fun _ _ _ _ _ _ us hl => match us, hl with | [_], _ => rfl
  have mCheckLetter := PySem.W.mg_of X G a5
  have FCheckTerms := fun_mk (st := sCheckTerms) l6 c6 k6
  have bCheckTerms := FCheckTerms.binds (ps := ["terms", "most"]) fun _ _ _ _ _ _ us hl => match us, hl with | [_, _], _ => rfl
  have mCheckTerms := PySem.W.mg_of X G a6
  have FMadeOf := fun_mk (st := sMadeOf) l7 c7 k7
  have bMadeOf := FMadeOf.binds (ps := ["cells"]) fun _ _ _ _ _ _ us hl => match us, hl with | [_], _ => rfl
  have mMadeOf := PySem.W.mg_of X G a7
  have FAdded := fun_mk (st := sAdded) l10 c10 k10
  have bAdded := FAdded.binds (ps := ["one", "other", "times"]) fun _ _ _ _ _ _ us hl => match us, hl with | [_, _, _], _ => rfl
  have mAdded := PySem.W.mg_of X G a10
  have FMultiplied := fun_mk (st := sMultiplied) l11 c11 k11
  have bMultiplied := FMultiplied.binds (ps := ["one", "other"]) fun _ _ _ _ _ _ us hl => match us, hl with | [_, _], _ => rfl
  have mMultiplied := PySem.W.mg_of X G a11
  have FPowers := fun_mk (st := sPowers) l12 c12 k12
  have bPowers := FPowers.binds (ps := ["base", "most"]) fun _ _ _ _ _ _ us hl => match us, hl with | [_, _], _ => rfl
  have mPowers := PySem.W.mg_of X G a12
  have FLBag := fun_mk (st := sLBag) l13 c13 k13
  have bLBag := FLBag.binds (ps := ["_law_script"]) fun _ _ _ _ _ _ us hl => match us, hl with | [_], _ => rfl
  have mLBag := PySem.W.mg_of X G a13
  have FLPull := fun_mk (st := sLPull) l14 c14 k14
  have bLPull := FLPull.binds (ps := ["_law_bag_here", "_law_many"]) fun _ _ _ _ _ _ us hl => match us, hl with | [_, _], _ => rfl
  have mLPull := PySem.W.mg_of X G a14
  have FLOf := fun_mk (st := sLOf) l15 c15 k15
  have bLOf := FLOf.binds (ps := ["_law_bag_here", "_law_some"]) fun _ _ _ _ _ _ us hl => match us, hl with | [_, _], _ => rfl
  have mLOf := PySem.W.mg_of X G a15
  have FLSame := fun_mk (st := sLSame) l16 c16 k16
  have bLSame := FLSame.binds (ps := ["_law_found", "_law_due"]) fun _ _ _ _ _ _ us hl => match us, hl with | [_, _], _ => rfl
  have mLSame := PySem.W.mg_of X G a16
  have FLGcd := fun_mk (st := sLGcd) l17 c17 k17
  have bLGcd := FLGcd.binds (ps := ["_law_one", "_law_two"]) fun _ _ _ _ _ _ us hl => match us, hl with | [_, _], _ => rfl
  have mLGcd := PySem.W.mg_of X G a17
  have FLLow := fun_mk (st := sLLow) l18 c18 k18
  have bLLow := FLLow.binds (ps := ["_law_top", "_law_under"]) fun _ _ _ _ _ _ us hl => match us, hl with | [_, _], _ => rfl
  have mLLow := PySem.W.mg_of X G a18
  have FLAdd := fun_mk (st := sLAdd) l19 c19 k19
  have bLAdd := FLAdd.binds (ps := ["_law_one", "_law_two"]) fun _ _ _ _ _ _ us hl => match us, hl with | [_, _], _ => rfl
  have mLAdd := PySem.W.mg_of X G a19
  have FLSub := fun_mk (st := sLSub) l20 c20 k20
  have bLSub := FLSub.binds (ps := ["_law_one", "_law_two"]) fun _ _ _ _ _ _ us hl => match us, hl with | [_, _], _ => rfl
  have mLSub := PySem.W.mg_of X G a20
  have FLMul := fun_mk (st := sLMul) l21 c21 k21
  have bLMul := FLMul.binds (ps := ["_law_one", "_law_two"]) fun _ _ _ _ _ _ us hl => match us, hl with | [_, _], _ => rfl
  have mLMul := PySem.W.mg_of X G a21
  have FLRatio := fun_mk (st := sLRatio) l22 c22 k22
  have bLRatio := FLRatio.binds (ps := ["_law_bag_here", "_law_high", "_law_under"]) fun _ _ _ _ _ _ us hl => match us, hl with | [_, _, _], _ => rfl
  have mLRatio := PySem.W.mg_of X G a22
  have FLPoint := fun_mk (st := sLPoint) l23 c23 k23
  have bLPoint := FLPoint.binds (ps := ["_law_bag_here", "_law_high", "_law_under"]) fun _ _ _ _ _ _ us hl => match us, hl with | [_, _, _], _ => rfl
  have mLPoint := PySem.W.mg_of X G a23
  have FLTo := fun_mk (st := sLTo) l24 c24 k24
  have bLTo := FLTo.binds (ps := ["_law_base", "_law_often_z"]) fun _ _ _ _ _ _ us hl => match us, hl with | [_, _], _ => rfl
  have mLTo := PySem.W.mg_of X G a24
  have FLGathered := fun_mk (st := sLGathered) l25 c25 k25
  have bLGathered := FLGathered.binds (ps := ["_law_terms_z"]) fun _ _ _ _ _ _ us hl => match us, hl with | [_], _ => rfl
  have mLGathered := PySem.W.mg_of X G a25
  have FLTerms := fun_mk (st := sLTerms) l26 c26 k26
  have bLTerms := FLTerms.binds (ps := ["_law_bag_here", "_law_high", "_law_many", "_law_size"]) fun _ _ _ _ _ _ us hl => match us, hl with | [_, _, _, _], _ => rfl
  have mLTerms := PySem.W.mg_of X G a26
  have FLTermsPlus := fun_mk (st := sLTermsPlus) l27 c27 k27
  have bLTermsPlus := FLTermsPlus.binds (ps := ["_law_one", "_law_two", "_law_often_z"]) fun _ _ _ _ _ _ us hl => match us, hl with | [_, _, _], _ => rfl
  have mLTermsPlus := PySem.W.mg_of X G a27
  have FLTermsTimes := fun_mk (st := sLTermsTimes) l28 c28 k28
  have bLTermsTimes := FLTermsTimes.binds (ps := ["_law_one", "_law_two"]) fun _ _ _ _ _ _ us hl => match us, hl with | [_, _], _ => rfl
  have mLTermsTimes := PySem.W.mg_of X G a28
  have FLTermsAt := fun_mk (st := sLTermsAt) l29 c29 k29
  have bLTermsAt := FLTermsAt.binds (ps := ["_law_terms_z", "_law_spot_z"]) fun _ _ _ _ _ _ us hl => match us, hl with | [_, _], _ => rfl
  have mLTermsAt := PySem.W.mg_of X G a29
  have FLPoly := fun_mk (st := sLPoly) l30 c30 k30
  have bLPoly := FLPoly.binds (ps := ["_law_terms_z"]) fun _ _ _ _ _ _ us hl => match us, hl with | [_], _ => rfl
  have mLPoly := PySem.W.mg_of X G a30
  have FPolyInit := FF32
  have FPolyDegreeIn := fun_mk (st := sPolyDegreeIn) l36 c36 k36
  have bPolyDegreeIn := FPolyDegreeIn.binds (ps := ["self", "letter"]) fun _ _ _ _ _ _ us hl => match us, hl with | [_, _], _ => rfl
  have hPolyDegreeIn : Meth K cP "degree_in" f36 := ⟨a36, i36, k36⟩
  have FPolyTerms := fun_mk (st := sPolyTerms) l38 c38 k38
  have bPolyTerms := FPolyTerms.binds (ps := ["self"]) fun _ _ _ _ _ _ us hl => match us, hl with | [_], _ => rfl
  have hPolyTerms : Meth K cP "terms" f38 := ⟨a38, i38, k38⟩
  have FPolyValueAt := fun_mk (st := sPolyValueAt) l40 c40 k40
  have bPolyValueAt := FPolyValueAt.binds (ps := ["self", "point"]) fun _ _ _ _ _ _ us hl => match us, hl with | [_, _], _ => rfl
  have hPolyValueAt : Meth K cP "value_at" f40 := ⟨a40, i40, k40⟩
  have FPolyAdd := fun_mk (st := sPolyAdd) l44 c44 k44
  have bPolyAdd := FPolyAdd.binds (ps := ["self", "other"]) fun _ _ _ _ _ _ us hl => match us, hl with | [_, _], _ => rfl
  have hPolyAdd : Meth K cP "__add__" f44 := ⟨a44, i44, k44⟩
  have FPolyRadd := fun_mk (st := sPolyRadd) l45 c45 k45
  have bPolyRadd := FPolyRadd.binds (ps := ["self", "other"]) fun _ _ _ _ _ _ us hl => match us, hl with | [_, _], _ => rfl
  have hPolyRadd : Meth K cP "__radd__" f45 := ⟨a45, i45, k45⟩
  have FPolySub := fun_mk (st := sPolySub) l46 c46 k46
  have bPolySub := FPolySub.binds (ps := ["self", "other"]) fun _ _ _ _ _ _ us hl => match us, hl with | [_, _], _ => rfl
  have hPolySub : Meth K cP "__sub__" f46 := ⟨a46, i46, k46⟩
  have FPolyRsub := fun_mk (st := sPolyRsub) l47 c47 k47
  have bPolyRsub := FPolyRsub.binds (ps := ["self", "other"]) fun _ _ _ _ _ _ us hl => match us, hl with | [_, _], _ => rfl
  have hPolyRsub : Meth K cP "__rsub__" f47 := ⟨a47, i47, k47⟩
  have FPolyMul := fun_mk (st := sPolyMul) l48 c48 k48
  have bPolyMul := FPolyMul.binds (ps := ["self", "other"]) fun _ _ _ _ _ _ us hl => match us, hl with | [_, _], _ => rfl
  have hPolyMul : Meth K cP "__mul__" f48 := ⟨a48, i48, k48⟩
  have FPolyRmul := fun_mk (st := sPolyRmul) l49 c49 k49
  have bPolyRmul := FPolyRmul.binds (ps := ["self", "other"]) fun _ _ _ _ _ _ us hl => match us, hl with | [_, _], _ => rfl
  have hPolyRmul : Meth K cP "__rmul__" f49 := ⟨a49, i49, k49⟩
  have FPolyNeg := fun_mk (st := sPolyNeg) l50 c50 k50
  have bPolyNeg := FPolyNeg.binds (ps := ["self"]) fun _ _ _ _ _ _ us hl => match us, hl with | [_], _ => rfl
  have hPolyNeg : Meth K cP "__neg__" f50 := ⟨a50, i50, k50⟩
  have FPolyPow := fun_mk (st := sPolyPow) l51 c51 k51
  have bPolyPow := FPolyPow.binds (ps := ["self", "times"]) fun _ _ _ _ _ _ us hl => match us, hl with | [_, _], _ => rfl
  have hPolyPow : Meth K cP "__pow__" f51 := ⟨a51, i51, k51⟩
  have FPolyEq := fun_mk (st := sPolyEq) l52 c52 k52
  have bPolyEq := FPolyEq.binds (ps := ["self", "other"]) fun _ _ _ _ _ _ us hl => match us, hl with | [_, _], _ => rfl
  have hPolyEq : Meth K cP "__eq__" f52 := ⟨a52, i52, k52⟩
  have Z : Zn w K mg cP := { z_isinstance := PySem.W.mg_none_of X G z_isinstance, z_int := PySem.W.mg_none_of X G z_int, z_bool := PySem.W.mg_none_of X G z_bool, z_str := PySem.W.mg_none_of X G z_str, z_list := PySem.W.mg_none_of X G z_list, z_tuple := PySem.W.mg_none_of X G z_tuple, z_len := PySem.W.mg_none_of X G z_len, z_abs := PySem.W.mg_none_of X G z_abs, z_all := PySem.W.mg_none_of X G z_all, z_range := PySem.W.mg_none_of X G z_range, z_zip := PySem.W.mg_none_of X G z_zip, z_enumerate := PySem.W.mg_none_of X G z_enumerate, z_sorted := PySem.W.mg_none_of X G z_sorted, z_reversed := PySem.W.mg_none_of X G z_reversed, z_repr := PySem.W.mg_none_of X G z_repr, z_max := PySem.W.mg_none_of X G z_max, g_gcd := PySem.W.mg_of X G g_gcd, g_LETTERS := glb_tup (PySem.W.mg_of X G g_LETTERS) r_LETTERS, t_LETTERS := DH.gtB_ok gt_LETTERS (PySem.W.mg_of X G g_LETTERS), c_P := c_Poly, n_P := fun f hf => by rw [List.mem_singleton.mp hf]; exact no0_Poly }
  refine ⟨PySem.W.fnOf "law" "law" (defArgs sLaw) (defBody sLaw) (defScope sLaw) .none kV31 dc31 pm31 an31 (.ref c) ct31, fun s v => .of_eq rfl, fun base _ _ TB => ?_⟩
  have IB : InsC K cP := ⟨c_Poly, ic_ha, ic_hn, ic_tk, ic_hm⟩
  have NePoly : NeC K cP := ⟨ne_ne, ic_hm⟩
  have B_add : BinF K cP "add" := ⟨sf_P, ⟨_, (by rw [show dunderR "add" = "__radd__" from by decide +kernel]; exact a45), .inr ⟨_, rfl⟩⟩, ⟨_, i1_add⟩, ⟨_, i2_add⟩, sub_ip⟩
  have B_sub : BinF K cP "sub" := ⟨sf_P, ⟨_, (by rw [show dunderR "sub" = "__rsub__" from by decide +kernel]; exact a47), .inr ⟨_, rfl⟩⟩, ⟨_, i1_sub⟩, ⟨_, i2_sub⟩, sub_ip⟩
  have B_mul : BinF K cP "mul" := ⟨sf_P, ⟨_, (by rw [show dunderR "mul" = "__rmul__" from by decide +kernel]; exact a49), .inr ⟨_, rfl⟩⟩, ⟨_, i1_mul⟩, ⟨_, i2_mul⟩, sub_ip⟩
  have B_pow : BinF K cP "pow" := ⟨sf_P, ⟨none, rp_pow, .inl rfl⟩, ⟨_, i1_pow⟩, ⟨_, i2_pow⟩, sub_ip⟩
  have R_add : RefF K cP "add" := ⟨sf_P, ⟨_, (by rw [show PySem.dunder "add" = "__add__" from by decide +kernel]; exact a44)⟩, sub_pi⟩
  have R_sub : RefF K cP "sub" := ⟨sf_P, ⟨_, (by rw [show PySem.dunder "sub" = "__sub__" from by decide +kernel]; exact a46)⟩, sub_pi⟩
  have R_mul : RefF K cP "mul" := ⟨sf_P, ⟨_, (by rw [show PySem.dunder "mul" = "__mul__" from by decide +kernel]; exact a48)⟩, sub_pi⟩
  have mroP : ∃ cd, PySem.W.clsIn K cP = some cd ∧ cd.mro = [.ref cP, .type "object"] := by
    cases hq : PySem.W.clsIn K cP with
    | none => rw [hq] at mro_P; cases mro_P
    | some cd => rw [hq] at mro_P; exact ⟨cd, rfl, Option.some.inj mro_P⟩
  have I_add : IpF K cP "add" := ⟨mroP, ip_add, io_add⟩
  have I_sub : IpF K cP "sub" := ⟨mroP, ip_sub, io_sub⟩
  have CIsInteger := cal_mk (ok_IsInteger (P := P) (w := w) (base := base) Z FIsInteger) mIsInteger FIsInteger.kp bIsInteger
  have CIsIntegerE := cal_mk (ok_IsIntegerE (P := P) (w := w) (base := base) Z FIsInteger) mIsInteger FIsInteger.kp bIsInteger
  have CIsNumber := cal_mk (ok_IsNumber Z FIsNumber CIsInteger) mIsNumber FIsNumber.kp bIsNumber
  have CCheckLetter := cal_mk (ok_CheckLetter (P := P) (w := w) (base := base) Z FCheckLetter) mCheckLetter FCheckLetter.kp bCheckLetter
  have CCheckTerms := cal_mk (ok_CheckTerms Z FCheckTerms CIsNumber CIsInteger) mCheckTerms FCheckTerms.kp bCheckTerms
  have CLowest := cal_mk (ok_Lowest (P := P) (w := w) (base := base) Z FLowest) mLowest FLowest.kp bLowest
  have CAdded := cal_mk (ok_Added (P := P) (w := w) (base := base) Z FAdded) mAdded FAdded.kp bAdded
  have CMultiplied := cal_mk (ok_Multiplied (P := P) (w := w) (base := base) Z FMultiplied) mMultiplied FMultiplied.kp bMultiplied
  have CPowers := cal_mk (ok_Powers (P := P) (w := w) (base := base) Z FPowers) mPowers FPowers.kp bPowers
  have GI := ok_PolyInit Z FPolyInit CCheckTerms
  obtain ⟨ds1, v1, b1⟩ := init_1 FPolyInit
  obtain ⟨ds0, v0, b0⟩ := init_0 FPolyInit
  have l0 : ds0.length = 2 := v0.length.symm
  have K_Poly : KCal P w K mg base 4 "Poly" cP ["self", "terms", "most"] [.int 20] (initS cP) := ⟨⟨f32, _, ds1, _, GI, Mk_Poly, n_Poly, b1, v1, fun _ _ => .cons (.int 20) .nil⟩⟩
  have N_Poly : KCalN P w K mg base 4 "Poly" cP 1 ["most"] [] (fun a b _ => a ++ b) (initS cP) := ⟨⟨f32, _, _, [], [], GI, Mk_Poly, n_Poly, init_k FPolyInit, ⟨fun a b _ => paired_append a b⟩, .nil, fun _ _ => .nil⟩⟩
  have W_Poly : KCalW P w K mg base 4 "Poly" cP [] [.tup [], .int 20] (fun a _ c => a ++ c) (initS cP) := ⟨⟨f32, _, _, ds0, _, GI, Mk_Poly, n_Poly, kwb_of b0 (by rw [l0]; rfl), ⟨fun a _ c => paired_append a c⟩, v0, fun L H => .cons (r_tE L H) (.cons (.int 20) .nil)⟩⟩
  have CMadeOf := cal_mk (ok_MadeOf Z FMadeOf N_Poly) mMadeOf FMadeOf.kp bMadeOf
  have MPolyTerms := mcal_mk (ok_PolyTerms (P := P) (w := w) (base := base) Z FPolyTerms) c_Poly hPolyTerms bPolyTerms
  have MPolyDegreeIn := mcal_mk (ok_PolyDegreeIn Z FPolyDegreeIn CCheckLetter) c_Poly hPolyDegreeIn bPolyDegreeIn
  have MPolyEq := mcal_mk (ok_PolyEq (P := P) (w := w) (base := base) Z FPolyEq n_Poly IB kit_self) c_Poly hPolyEq bPolyEq
  have MPolyValueAt := mcal_mk (ok_PolyValueAt Z FPolyValueAt CPowers CLowest MPolyDegreeIn) c_Poly hPolyValueAt bPolyValueAt
  have MPolyAdd := mcal_mk (ok_PolyAdd Z FPolyAdd CIsIntegerE CAdded CMadeOf n_Poly IB kit_self kI) c_Poly hPolyAdd bPolyAdd
  have MPolySub := mcal_mk (ok_PolySub Z FPolySub CIsIntegerE CAdded CMadeOf n_Poly IB kit_self kI) c_Poly hPolySub bPolySub
  have MPolyMul := mcal_mk (ok_PolyMul Z FPolyMul CIsIntegerE CMultiplied CMadeOf n_Poly IB kit_self kI) c_Poly hPolyMul bPolyMul
  have MPolyNeg := mcal_mk (ok_PolyNeg Z FPolyNeg CMadeOf) c_Poly hPolyNeg bPolyNeg
  have MPolyRadd := mcal_mk (ok_PolyRadd Z FPolyRadd MPolyAdd B_add) c_Poly hPolyRadd bPolyRadd
  have MPolyRsub := mcal_mk (ok_PolyRsub Z FPolyRsub MPolyAdd B_add MPolyNeg) c_Poly hPolyRsub bPolyRsub
  have MPolyRmul := mcal_mk (ok_PolyRmul Z FPolyRmul MPolyMul B_mul) c_Poly hPolyRmul bPolyRmul
  have MPolyPow := mcal_mk (ok_PolyPow Z FPolyPow K_Poly MPolyMul B_mul IB) c_Poly hPolyPow bPolyPow
  have MK : MCalK P w K mg base 3 cP "value_at" ["point"] [] (fun a b _ => a ++ b) (valS cP) := ⟨⟨_, _, _, [], [], ok_PolyValueAt Z FPolyValueAt CPowers CLowest MPolyDegreeIn, c_Poly, hPolyValueAt, kwb FPolyValueAt (fun kV doc pm an cdv ct us ws h1 h2 => match us, ws, h1, h2 with | [_], [_], _, _ => rfl), ⟨fun a b _ => paired_append a b⟩, .nil, fun _ _ => .nil⟩⟩
  have P_degree : PropM P w K mg base 1 cP "degree" (degS cP) := ⟨⟨pL0, gL0, _, c_Poly, PO0, ok_PolyDegree (P := P) (w := w) (base := base) Z FPolyDegree, bPolyDegree⟩⟩
  have SLetter : SCal P w K mg base 6 "Poly" cP "letter" ["name"] [] (ltrS cP) := ⟨⟨.type "type", pT1, gT1, _, [], [], ok_PolyLetter Z FPolyLetter CCheckLetter K_Poly, n_Poly, cr, SM_letter, bPolyLetter, .nil, fun _ _ => .nil⟩⟩
  have CLBag := cal_mk (ok_LBag (P := P) (w := w) (base := base) Z FLBag) mLBag FLBag.kp bLBag
  have CLPull := cal_mk (ok_LPull (P := P) (w := w) (base := base) Z FLPull) mLPull FLPull.kp bLPull
  have CLOf := cal_mk (ok_LOf Z FLOf CLPull) mLOf FLOf.kp bLOf
  have CLSame := cal_mk (same_all (P := P) (w := w) (base := base) Z FLSame bLSame mLSame 9) mLSame FLSame.kp bLSame
  have CLGcd := cal_mk (ok_LGcd (P := P) (w := w) (base := base) Z FLGcd) mLGcd FLGcd.kp bLGcd
  have CLLow := cal_mk (ok_LLow Z FLLow CLGcd) mLLow FLLow.kp bLLow
  have CLRatio := cal_mk (ok_LRatio Z FLRatio CLPull CLLow) mLRatio FLRatio.kp bLRatio
  have CLPoint := cal_mk (ok_LPoint Z FLPoint CLRatio) mLPoint FLPoint.kp bLPoint
  have CLTo := cal_mk (ok_LTo (P := P) (w := w) (base := base) Z FLTo) mLTo FLTo.kp bLTo
  have CLAdd := cal_mk (ok_LAdd Z FLAdd CLLow) mLAdd FLAdd.kp bLAdd
  have CLSub := cal_mk (ok_LSub Z FLSub CLLow) mLSub FLSub.kp bLSub
  have CLMul := cal_mk (ok_LMul Z FLMul CLLow) mLMul FLMul.kp bLMul
  have CLGathered := cal_mk (ok_LGathered (P := P) (w := w) (base := base) Z FLGathered) mLGathered FLGathered.kp bLGathered
  have CLTerms := cal_mk (ok_LTerms Z FLTerms CLPull CLGathered) mLTerms FLTerms.kp bLTerms
  have CLTermsPlus := cal_mk (ok_LTermsPlus Z FLTermsPlus CLGathered) mLTermsPlus FLTermsPlus.kp bLTermsPlus
  have CLTermsTimes := cal_mk (ok_LTermsTimes Z FLTermsTimes CLGathered) mLTermsTimes FLTermsTimes.kp bLTermsTimes
  have CLTermsAt := cal_mk (ok_LTermsAt Z FLTermsAt CLTo CLLow CLAdd) mLTermsAt FLTermsAt.kp bLTermsAt
  have CLPoly := cal_mk (ok_LPoly Z FLPoly K_Poly) mLPoly FLPoly.kp bLPoly
  exact ok_Law Z l31 c31 TB CLBag CLPull CLOf CLGathered CLTerms CLPoly CLSame CLPoint CLTo CLAdd CLSub CLMul CLTermsPlus CLTermsTimes CLTermsAt K_Poly MPolyTerms MPolyValueAt MPolyEq MPolyAdd MPolySub MPolyMul MPolyNeg MPolyPow MPolyRadd MPolyRsub MPolyRmul B_add B_sub B_mul B_pow R_add R_sub R_mul I_add I_sub MK P_degree NePoly W_Poly SLetter IB nf_self
open Hd in
theorem fin {l : PySem.W.OpenLaw} {w : World} {h : Heap} {mg : Str → Option Value} {fa : Addr} {K : PySem.W.Frag} (KX : K.In h) (G : h.Ns mainGlobals mg) (hmg : mg "law" = some (.ref fa)) (c : He.SaysX [] fnL tabL tf (DH.exAll tsts) w h K) (eg : (gA.map fun a => DH.fnWa K (a K)) = gV) : LamX.LawAtS l w K (L2.CX l.prog w) 16 63 "_law_script" mg fa h := by
  obtain ⟨oc2, od2, sl2, kV2, dc2, pm2, an2, cd2, ct2, l2, c2, k2⟩ := DH.defN c.t.d 0 (d := d0) rfl rfl
  obtain ⟨oc3, od3, sl3, kV3, dc3, pm3, an3, cd3, ct3, l3, c3, k3⟩ := DH.defN c.t.d 1 (d := d1) rfl rfl
  obtain ⟨oc4, od4, sl4, kV4, dc4, pm4, an4, cd4, ct4, l4, c4, k4⟩ := DH.defN c.t.d 2 (d := d2) rfl rfl
  obtain ⟨oc5, od5, sl5, kV5, dc5, pm5, an5, cd5, ct5, l5, c5, k5⟩ := DH.defN c.t.d 3 (d := d3) rfl rfl
  obtain ⟨oc6, od6, sl6, kV6, dc6, pm6, an6, cd6, ct6, l6, c6, k6⟩ := DH.defN c.t.d 4 (d := d4) rfl rfl
  obtain ⟨oc7, od7, sl7, kV7, dc7, pm7, an7, cd7, ct7, l7, c7, k7⟩ := DH.defN c.t.d 5 (d := d5) rfl rfl
  obtain ⟨oc10, od10, sl10, kV10, dc10, pm10, an10, cd10, ct10, l10, c10, k10⟩ := DH.defN c.t.d 6 (d := d6) rfl rfl
  obtain ⟨oc11, od11, sl11, kV11, dc11, pm11, an11, cd11, ct11, l11, c11, k11⟩ := DH.defN c.t.d 7 (d := d7) rfl rfl
  obtain ⟨oc12, od12, sl12, kV12, dc12, pm12, an12, cd12, ct12, l12, c12, k12⟩ := DH.defN c.t.d 8 (d := d8) rfl rfl
  obtain ⟨oc13, od13, sl13, kV13, dc13, pm13, an13, cd13, ct13, l13, c13, k13⟩ := DH.defN c.t.d 9 (d := d9) rfl rfl
  obtain ⟨oc14, od14, sl14, kV14, dc14, pm14, an14, cd14, ct14, l14, c14, k14⟩ := DH.defN c.t.d 10 (d := d10) rfl rfl
  obtain ⟨oc15, od15, sl15, kV15, dc15, pm15, an15, cd15, ct15, l15, c15, k15⟩ := DH.defN c.t.d 11 (d := d11) rfl rfl
  obtain ⟨oc16, od16, sl16, kV16, dc16, pm16, an16, cd16, ct16, l16, c16, k16⟩ := DH.defN c.t.d 12 (d := d12) rfl rfl
  obtain ⟨oc17, od17, sl17, kV17, dc17, pm17, an17, cd17, ct17, l17, c17, k17⟩ := DH.defN c.t.d 13 (d := d13) rfl rfl
  obtain ⟨oc18, od18, sl18, kV18, dc18, pm18, an18, cd18, ct18, l18, c18, k18⟩ := DH.defN c.t.d 14 (d := d14) rfl rfl
  obtain ⟨oc19, od19, sl19, kV19, dc19, pm19, an19, cd19, ct19, l19, c19, k19⟩ := DH.defN c.t.d 15 (d := d15) rfl rfl
  obtain ⟨oc20, od20, sl20, kV20, dc20, pm20, an20, cd20, ct20, l20, c20, k20⟩ := DH.defN c.t.d 16 (d := d16) rfl rfl
  obtain ⟨oc21, od21, sl21, kV21, dc21, pm21, an21, cd21, ct21, l21, c21, k21⟩ := DH.defN c.t.d 17 (d := d17) rfl rfl
  obtain ⟨oc22, od22, sl22, kV22, dc22, pm22, an22, cd22, ct22, l22, c22, k22⟩ := DH.defN c.t.d 18 (d := d18) rfl rfl
  obtain ⟨oc23, od23, sl23, kV23, dc23, pm23, an23, cd23, ct23, l23, c23, k23⟩ := DH.defN c.t.d 19 (d := d19) rfl rfl
  obtain ⟨oc24, od24, sl24, kV24, dc24, pm24, an24, cd24, ct24, l24, c24, k24⟩ := DH.defN c.t.d 20 (d := d20) rfl rfl
  obtain ⟨oc25, od25, sl25, kV25, dc25, pm25, an25, cd25, ct25, l25, c25, k25⟩ := DH.defN c.t.d 21 (d := d21) rfl rfl
  obtain ⟨oc26, od26, sl26, kV26, dc26, pm26, an26, cd26, ct26, l26, c26, k26⟩ := DH.defN c.t.d 22 (d := d22) rfl rfl
  obtain ⟨oc27, od27, sl27, kV27, dc27, pm27, an27, cd27, ct27, l27, c27, k27⟩ := DH.defN c.t.d 23 (d := d23) rfl rfl
  obtain ⟨oc28, od28, sl28, kV28, dc28, pm28, an28, cd28, ct28, l28, c28, k28⟩ := DH.defN c.t.d 24 (d := d24) rfl rfl
  obtain ⟨oc29, od29, sl29, kV29, dc29, pm29, an29, cd29, ct29, l29, c29, k29⟩ := DH.defN c.t.d 25 (d := d25) rfl rfl
  obtain ⟨oc30, od30, sl30, kV30, dc30, pm30, an30, cd30, ct30, l30, c30, k30⟩ := DH.defN c.t.d 26 (d := d26) rfl rfl
  obtain ⟨oc31, od31, sl31, kV31, dc31, pm31, an31, cd31, ct31, l31, c31, k31⟩ := DH.defN c.t.d 27 (d := d27) rfl rfl
  obtain ⟨cl, hcl⟩ := He.codeIn_ref c31
  subst hcl
  have ec : He.codeOf K ("law", none) = cl := He.codeOf_eq l31 rfl
  obtain ⟨fd32, FF32⟩ := c.t.d.def_ 28 (d := d28) rfl
  obtain ⟨oc36, od36, sl36, kV36, dc36, pm36, an36, cd36, ct36, l36, c36, k36⟩ := DH.defN c.t.d 29 (d := d29) rfl rfl
  obtain ⟨oc38, od38, sl38, kV38, dc38, pm38, an38, cd38, ct38, l38, c38, k38⟩ := DH.defN c.t.d 30 (d := d30) rfl rfl
  obtain ⟨oc40, od40, sl40, kV40, dc40, pm40, an40, cd40, ct40, l40, c40, k40⟩ := DH.defN c.t.d 31 (d := d31) rfl rfl
  obtain ⟨oc44, od44, sl44, kV44, dc44, pm44, an44, cd44, ct44, l44, c44, k44⟩ := DH.defN c.t.d 32 (d := d32) rfl rfl
  obtain ⟨oc45, od45, sl45, kV45, dc45, pm45, an45, cd45, ct45, l45, c45, k45⟩ := DH.defN c.t.d 33 (d := d33) rfl rfl
  obtain ⟨oc46, od46, sl46, kV46, dc46, pm46, an46, cd46, ct46, l46, c46, k46⟩ := DH.defN c.t.d 34 (d := d34) rfl rfl
  obtain ⟨oc47, od47, sl47, kV47, dc47, pm47, an47, cd47, ct47, l47, c47, k47⟩ := DH.defN c.t.d 35 (d := d35) rfl rfl
  obtain ⟨oc48, od48, sl48, kV48, dc48, pm48, an48, cd48, ct48, l48, c48, k48⟩ := DH.defN c.t.d 36 (d := d36) rfl rfl
  obtain ⟨oc49, od49, sl49, kV49, dc49, pm49, an49, cd49, ct49, l49, c49, k49⟩ := DH.defN c.t.d 37 (d := d37) rfl rfl
  obtain ⟨oc50, od50, sl50, kV50, dc50, pm50, an50, cd50, ct50, l50, c50, k50⟩ := DH.defN c.t.d 38 (d := d38) rfl rfl
  obtain ⟨oc51, od51, sl51, kV51, dc51, pm51, an51, cd51, ct51, l51, c51, k51⟩ := DH.defN c.t.d 39 (d := d39) rfl rfl
  obtain ⟨oc52, od52, sl52, kV52, dc52, pm52, an52, cd52, ct52, l52, c52, k52⟩ := DH.defN c.t.d 40 (d := d40) rfl rfl
  obtain ⟨ocT1, odT1, slT1, kVT1, dcT1, pmT1, anT1, cdT1, ctT1, lT1, cT1⟩ := DH.fnWa_ok (DH.eg_at eg 1 rfl rfl) (DH.ex_at c.more 107 (f := t107) rfl)
  obtain ⟨ocG0, odG0, slG0, kVG0, dcG0, pmG0, anG0, cdG0, ctG0, lG0, cG0⟩ := DH.fnWa_ok (DH.eg_at eg 0 rfl rfl) (DH.ex_at c.more 110 (f := t110) rfl)
  have q1 := c.hd ("law", none) (List.mem_singleton.mpr rfl)
  have q2 := c.out ("law", none) (List.mem_singleton.mpr rfl)
  have q3 := c.empty ("law", none) (List.mem_singleton.mpr rfl)
  unfold He.cT at q1 q2 q3
  rw [ec] at q1 q2 q3
  exact DH.law1 (q := "law.<locals>.<lambda>") (lawS := T06.lawS) (c := cl) (Pt := He.tabOf K cl) (PySem.W.codeHd_of_K KX q1) q3 q2 (all_mk KX G hmg
    (of_decide_eq_true (DH.ex_at c.more 0 (f := t0) rfl))
    (of_decide_eq_true (DH.ex_at c.more 1 (f := t1) rfl))
    (l2)
    (c2)
    (k2)
    (of_decide_eq_true (DH.ex_at c.more 2 (f := t2) rfl))
    (l3)
    (c3)
    (k3)
    (of_decide_eq_true (DH.ex_at c.more 3 (f := t3) rfl))
    (l4)
    (c4)
    (k4)
    (of_decide_eq_true (DH.ex_at c.more 4 (f := t4) rfl))
    (l5)
    (c5)
    (k5)
    (of_decide_eq_true (DH.ex_at c.more 5 (f := t5) rfl))
    (l6)
    (c6)
    (k6)
    (of_decide_eq_true (DH.ex_at c.more 6 (f := t6) rfl))
    (l7)
    (c7)
    (k7)
    (of_decide_eq_true (DH.ex_at c.more 7 (f := t7) rfl))
    (l10)
    (c10)
    (k10)
    (of_decide_eq_true (DH.ex_at c.more 8 (f := t8) rfl))
    (l11)
    (c11)
    (k11)
    (of_decide_eq_true (DH.ex_at c.more 9 (f := t9) rfl))
    (l12)
    (c12)
    (k12)
    (of_decide_eq_true (DH.ex_at c.more 10 (f := t10) rfl))
    (l13)
    (c13)
    (k13)
    (of_decide_eq_true (DH.ex_at c.more 11 (f := t11) rfl))
    (l14)
    (c14)
    (k14)
    (of_decide_eq_true (DH.ex_at c.more 12 (f := t12) rfl))
    (l15)
    (c15)
    (k15)
    (of_decide_eq_true (DH.ex_at c.more 13 (f := t13) rfl))
    (l16)
    (c16)
    (k16)
    (of_decide_eq_true (DH.ex_at c.more 14 (f := t14) rfl))
    (l17)
    (c17)
    (k17)
    (of_decide_eq_true (DH.ex_at c.more 15 (f := t15) rfl))
    (l18)
    (c18)
    (k18)
    (of_decide_eq_true (DH.ex_at c.more 16 (f := t16) rfl))
    (l19)
    (c19)
    (k19)
    (of_decide_eq_true (DH.ex_at c.more 17 (f := t17) rfl))
    (l20)
    (c20)
    (k20)
    (of_decide_eq_true (DH.ex_at c.more 18 (f := t18) rfl))
    (l21)
    (c21)
    (k21)
    (of_decide_eq_true (DH.ex_at c.more 19 (f := t19) rfl))
    (l22)
    (c22)
    (k22)
    (of_decide_eq_true (DH.ex_at c.more 20 (f := t20) rfl))
    (l23)
    (c23)
    (k23)
    (of_decide_eq_true (DH.ex_at c.more 21 (f := t21) rfl))
    (l24)
    (c24)
    (k24)
    (of_decide_eq_true (DH.ex_at c.more 22 (f := t22) rfl))
    (l25)
    (c25)
    (k25)
    (of_decide_eq_true (DH.ex_at c.more 23 (f := t23) rfl))
    (l26)
    (c26)
    (k26)
    (of_decide_eq_true (DH.ex_at c.more 24 (f := t24) rfl))
    (l27)
    (c27)
    (k27)
    (of_decide_eq_true (DH.ex_at c.more 25 (f := t25) rfl))
    (l28)
    (c28)
    (k28)
    (of_decide_eq_true (DH.ex_at c.more 26 (f := t26) rfl))
    (l29)
    (c29)
    (k29)
    (of_decide_eq_true (DH.ex_at c.more 27 (f := t27) rfl))
    (l30)
    (c30)
    (k30)
    (of_decide_eq_true (DH.ex_at c.more 28 (f := t28) rfl))
    (l31)
    (c31)
    (k31)
    (of_decide_eq_true (DH.ex_at c.more 29 (f := t29) rfl))
    (of_decide_eq_true (DH.ex_at c.more 30 (f := t30) rfl))
    (FF32)
    (DH.emB_rp (DH.ex_at c.more 31 (f := t31) rfl))
    (of_decide_eq_true (DH.ex_at c.more 32 (f := t32) rfl))
    (of_decide_eq_true (DH.ex_at c.more 33 (f := t33) rfl))
    (l36)
    (c36)
    (k36)
    (of_decide_eq_true (DH.ex_at c.more 34 (f := t34) rfl))
    (of_decide_eq_true (DH.ex_at c.more 35 (f := t35) rfl))
    (l38)
    (c38)
    (k38)
    (of_decide_eq_true (DH.ex_at c.more 36 (f := t36) rfl))
    (of_decide_eq_true (DH.ex_at c.more 37 (f := t37) rfl))
    (l40)
    (c40)
    (k40)
    (of_decide_eq_true (DH.ex_at c.more 38 (f := t38) rfl))
    (of_decide_eq_true (DH.ex_at c.more 39 (f := t39) rfl))
    (l44)
    (c44)
    (k44)
    (of_decide_eq_true (DH.ex_at c.more 40 (f := t40) rfl))
    (of_decide_eq_true (DH.ex_at c.more 41 (f := t41) rfl))
    (l45)
    (c45)
    (k45)
    (of_decide_eq_true (DH.ex_at c.more 42 (f := t42) rfl))
    (of_decide_eq_true (DH.ex_at c.more 43 (f := t43) rfl))
    (l46)
    (c46)
    (k46)
    (of_decide_eq_true (DH.ex_at c.more 44 (f := t44) rfl))
    (of_decide_eq_true (DH.ex_at c.more 45 (f := t45) rfl))
    (l47)
    (c47)
    (k47)
    (of_decide_eq_true (DH.ex_at c.more 46 (f := t46) rfl))
    (of_decide_eq_true (DH.ex_at c.more 47 (f := t47) rfl))
    (l48)
    (c48)
    (k48)
    (of_decide_eq_true (DH.ex_at c.more 48 (f := t48) rfl))
    (of_decide_eq_true (DH.ex_at c.more 49 (f := t49) rfl))
    (l49)
    (c49)
    (k49)
    (of_decide_eq_true (DH.ex_at c.more 50 (f := t50) rfl))
    (of_decide_eq_true (DH.ex_at c.more 51 (f := t51) rfl))
    (l50)
    (c50)
    (k50)
    (of_decide_eq_true (DH.ex_at c.more 52 (f := t52) rfl))
    (of_decide_eq_true (DH.ex_at c.more 53 (f := t53) rfl))
    (l51)
    (c51)
    (k51)
    (of_decide_eq_true (DH.ex_at c.more 54 (f := t54) rfl))
    (of_decide_eq_true (DH.ex_at c.more 55 (f := t55) rfl))
    (l52)
    (c52)
    (k52)
    (of_decide_eq_true (DH.ex_at c.more 56 (f := t56) rfl))
    (of_decide_eq_true (DH.ex_at c.more 57 (f := t57) rfl))
    (of_decide_eq_true (DH.ex_at c.more 58 (f := t58) rfl))
    (of_decide_eq_true (DH.ex_at c.more 59 (f := t59) rfl))
    (of_decide_eq_true (DH.ex_at c.more 60 (f := t60) rfl))
    (of_decide_eq_true (DH.ex_at c.more 61 (f := t61) rfl))
    (of_decide_eq_true (DH.ex_at c.more 62 (f := t62) rfl))
    (of_decide_eq_true (DH.ex_at c.more 63 (f := t63) rfl))
    (of_decide_eq_true (DH.ex_at c.more 64 (f := t64) rfl))
    (of_decide_eq_true (DH.ex_at c.more 65 (f := t65) rfl))
    (of_decide_eq_true (DH.ex_at c.more 66 (f := t66) rfl))
    (of_decide_eq_true (DH.ex_at c.more 67 (f := t67) rfl))
    (of_decide_eq_true (DH.ex_at c.more 68 (f := t68) rfl))
    (of_decide_eq_true (DH.ex_at c.more 69 (f := t69) rfl))
    (of_decide_eq_true (DH.ex_at c.more 70 (f := t70) rfl))
    (of_decide_eq_true (DH.ex_at c.more 71 (f := t71) rfl))
    (of_decide_eq_true (DH.ex_at c.more 72 (f := t72) rfl))
    (of_decide_eq_true (DH.ex_at c.more 73 (f := t73) rfl))
    (DH.tup_rp (DH.ex_at c.more 74 (f := t74) rfl) rfl)
    (DH.ex_at c.more 75 (f := t75) rfl)
    (of_decide_eq_true (DH.ex_at c.more 76 (f := t76) rfl))
    (of_decide_eq_true (DH.ex_at c.more 77 (f := t77) rfl))
    (of_decide_eq_true (DH.ex_at c.more 78 (f := t78) rfl))
    (of_decide_eq_true (DH.ex_at c.more 79 (f := t79) rfl))
    (of_decide_eq_true (DH.ex_at c.more 80 (f := t80) rfl))
    (of_decide_eq_true (DH.ex_at c.more 81 (f := t81) rfl))
    (of_decide_eq_true (DH.ex_at c.more 82 (f := t82) rfl))
    (of_decide_eq_true (DH.ex_at c.more 83 (f := t83) rfl))
    (of_decide_eq_true (DH.ex_at c.more 84 (f := t84) rfl))
    (of_decide_eq_true (DH.ex_at c.more 85 (f := t85) rfl))
    (of_decide_eq_true (DH.ex_at c.more 86 (f := t86) rfl))
    (of_decide_eq_true (DH.ex_at c.more 87 (f := t87) rfl))
    (of_decide_eq_true (DH.ex_at c.more 88 (f := t88) rfl))
    (of_decide_eq_true (DH.ex_at c.more 89 (f := t89) rfl))
    (of_decide_eq_true (DH.ex_at c.more 90 (f := t90) rfl))
    (of_decide_eq_true (DH.ex_at c.more 91 (f := t91) rfl))
    (of_decide_eq_true (DH.ex_at c.more 92 (f := t92) rfl))
    (of_decide_eq_true (DH.ex_at c.more 93 (f := t93) rfl))
    (of_decide_eq_true (DH.ex_at c.more 94 (f := t94) rfl))
    (of_decide_eq_true (DH.ex_at c.more 95 (f := t95) rfl))
    (of_decide_eq_true (DH.ex_at c.more 96 (f := t96) rfl))
    (of_decide_eq_true (DH.ex_at c.more 97 (f := t97) rfl))
    (of_decide_eq_true (DH.ex_at c.more 98 (f := t98) rfl))
    (of_decide_eq_true (DH.ex_at c.more 99 (f := t99) rfl))
    (of_decide_eq_true (DH.ex_at c.more 100 (f := t100) rfl))
    (of_decide_eq_true (DH.ex_at c.more 101 (f := t101) rfl))
    (of_decide_eq_true (DH.ex_at c.more 102 (f := t102) rfl))
    (of_decide_eq_true (DH.ex_at c.more 103 (f := t103) rfl))
    (of_decide_eq_true (DH.ex_at c.more 104 (f := t104) rfl))
    (of_decide_eq_true (DH.ex_at c.more 105 (f := t105) rfl))
    (DH.smB_ok (DH.ex_at c.more 106 (f := t106) rfl))
    (lT1)
    (cT1)
    (DH.crB_ok (DH.ex_at c.more 108 (f := t108) rfl))
    (DH.proB_ok (DH.ex_at c.more 109 (f := t109) rfl))
    (lG0)
    (cG0)
    (of_decide_eq_true (DH.ex_at c.more 111 (f := t111) rfl))) (fun ns hl => ⟨ns, rfl, rfl, fun _ => rfl⟩)
end T06
open PySem PySem.W PySem.Calls PyProof.Rows
set_option maxHeartbeats 0 in
theorem PySem.Challenge.cw_nearspokes_k06_whole_polys_reckoned_holds : PySem.Challenge.rw_nearspokes_k06_whole_polys_reckoned.Holds := by
  refine T06.Hd.well fun said => ?_
  w_on
  refine DS.head_seg (r := OpenLaw.row PySem.Challenge.rw_nearspokes_k06_whole_polys_reckoned) (q := (PySem.W.view (OpenLaw.row PySem.Challenge.rw_nearspokes_k06_whole_polys_reckoned).prog [0, 40])) (H := T06.Hd.hk) (ob := T06.Hd.ob) (N := 40000) (loose := T06.Hd.nms) (d := HandSHeadRun.topDef (OpenLaw.row PySem.Challenge.rw_nearspokes_k06_whole_polys_reckoned).prog 40) (kwd := []) T06.Hd.ob_eq
    T06.Hd.run T06.Hd.df1 T06.Hd.df2 (by kernel_rfl) (by rfl) said (Bool.and_eq_true_iff.mpr ⟨Bool.and_eq_true_iff.mpr ⟨T06.Hd.okA, T06.Hd.okB⟩, T06.Hd.okC⟩) T06.Hd.hb ?hw ?hc
  case hw => w_witness2
  case hc =>
    refine LamX.walk_ofTsE (l := PySem.Challenge.rw_nearspokes_k06_whole_polys_reckoned) (n := 63) (k := 16) (x := "_law_script") (CX := fun w => L2.CX PySem.Challenge.rw_nearspokes_k06_whole_polys_reckoned.prog w) rfl (by decide) (by kernel_rfl) ⟨rfl, by decide, by decide⟩ ?F (fun _ _ _ _ _ z => by obtain ⟨_, _, _, _, _, _, _, _, _, _, _, _, z⟩ := z; exact z)
    intro w mg fa h Y G hmg0
    obtain ⟨K, KX, c, eg⟩ := Y
    have hmg : mg ("law" : PySem.Str) = some (.ref fa) := by
      have e : (HandSHeadRun.topDef (OpenLaw.row PySem.Challenge.rw_nearspokes_k06_whole_polys_reckoned).prog 40).name = ("law" : PySem.Str) := by kernel_rfl
      rw [← e]
      exact hmg0
    exact ⟨K, KX, T06.fin KX G hmg c eg⟩
